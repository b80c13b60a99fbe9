import Derived.Test.YtnocaehijdmkkaaGreatKTg
import Derived.Test.YtnocaehijdmkkaaGreatKSb
set_option linter.unusedSectionVars false
set_option linter.unusedVariables false
set_option linter.unusedSimpArgs false
set_option linter.unnecessarySimpa false
section
namespace Go.Proofs.YtnocaehijdmkkaaGreat.V
open Go Go.RowKit
def fstI (p:Nat→Bool):Nat→Nat→Option Nat
 | 0,_=>none
 | k+1,i=>if p i=true then some i else fstI p k (i+1)
theorem Zb8a (p:Nat→Bool):∀k i j,fstI p k i=some j→i≤j∧j<i+k∧p j=true∧∀m,i≤m→m<j→p m=false:=by
 intro k
 induction k with
 | zero=>intro i j h;cases h
 | succ k ih=>
  intro i j h
  unfold fstI at h
  by_cases q:p i=true
  ·rw [if_pos q] at h
   obtain rfl:i=j:=Option.some.inj h
   exact ⟨Nat.le_refl _,by omega,q,fun m h1 h2=>by omega⟩
  ·rw [if_neg q] at h
   obtain ⟨h1,h2,h3,h4⟩:=ih (i+1) j h
   refine ⟨by omega,by omega,h3,fun m a b=>?_⟩
   rcases Nat.lt_or_ge i m with c | c
   ·exact h4 m c b
   ·obtain rfl:m=i:=by omega
    simpa using q
theorem Zb8b (p:Nat→Bool):∀k i,fstI p k i=none→∀m,i≤m→m<i+k→p m=false:=by
 intro k
 induction k with
 | zero=>intro i h m a b;omega
 | succ k ih=>
  intro i h m a b
  unfold fstI at h
  by_cases q:p i=true
  ·rw [if_pos q] at h;cases h
  ·rw [if_neg q] at h
   rcases Nat.lt_or_ge i m with c | c
   ·exact ih (i+1) h m c (by omega)
   ·obtain rfl:m=i:=by omega
    simpa using q
theorem Zb88 {i n:Nat} (h:i<n):inb (i:Int) n=true:=Zar ⟨Int.natCast_nonneg i,Int.ofNat_lt.2 h⟩
theorem Zb7j {D O:Type} {B:D→Option (D⊕O)} (f:Nat→D) (p:Nat→Bool) (g:Nat→O) (z:O) (n:Nat) (hs:∀i,i<n→p i=false→B (f i)=some (.inl (f (i+1)))) (hf:∀i,i<n→p i=true→B (f i)=some (.inr (g i)))
  (he:B (f n)=some (.inr z)) {d:D} (hd:d=f 0) {N:Nat} (hN:n<N):lpD B N d=some (match fstI p n 0 with | some i=>g i | none=>z):=by
 subst hd
 have main:∀k i,i+k=n→∀N,k<N→lpD B N (f i)=some (match fstI p k i with | some i=>g i | none=>z):=by
  intro k
  induction k with
  | zero=>
   intro i hi N hN
   obtain rfl:i=n:=by omega
   obtain ⟨N,rfl⟩:∃M,N=M+1:=⟨N - 1,by omega⟩
   simp only [lpD,he,fstI]
  | succ k ih=>
   intro i hi N hN
   obtain ⟨N,rfl⟩:∃M,N=M+1:=⟨N - 1,by omega⟩
   cases q:p i with
   | true=>simp only [lpD,hf i (by omega) q,fstI,q,if_true]
   | false=>
    have:=ih (i+1) (by omega) N (by omega)
    simp only [lpD,hs i (by omega) q,fstI,q]
    exact this
 exact main n 0 (by omega) N hN
def idx (L:List Bool):Int:=match fstI (fun i=>L.getD i false) L.length 0 with | some i=>(i:Int) | none=>-1
theorem idx_ge {L:List Bool} {i:Nat} (h:L.getD i false=true):0≤idx L:=by
 unfold idx
 cases q:fstI (fun i=>L.getD i false) L.length 0 with
 | some j=>exact Int.natCast_nonneg j
 | none=>
  exfalso
  have hi:i<L.length:=by
   rcases Nat.lt_or_ge i L.length with c | c
   ·exact c
   ·rw [List.getD_eq_getElem?_getD,List.getElem?_eq_none c] at h;cases h
  have:=Zb8b _ _ _ q i (Nat.zero_le _) (by omega)
  simp only [h] at this
  cases this
theorem idx_of {L:List Bool} (h:0≤idx L):∃k:Nat,idx L=(k:Int)∧k<L.length∧fstI (fun i=>L.getD i false) L.length 0=some k:=by
 unfold idx at h ⊢
 cases q:fstI (fun i=>L.getD i false) L.length 0 with
 | some j=>
  obtain ⟨h1,h2,h3,h4⟩:=Zb8a _ _ _ _ q
  exact ⟨j,rfl,by omega,rfl⟩
 | none=>rw [q] at h;simp at h
theorem index_2 (L:List Bool) (hL:L.length≤1000000):Zaj4 (L,(true,((L.length:Int),((0:Int),()))))=some (match fstI (fun i=>L.getD i false) L.length 0 with | some i=>.inl ((i:Int),()) | none=>.inr ()):=by
 unfold Zaj4;delta u4
 refine Zb7j (fun i:Nat=>(L,(true,((L.length:Int),((i:Int),()))))) (fun i=>L.getD i false) (fun i=>Sum.inl ((i:Int),())) (Sum.inr ()) L.length ?_ ?_ ?_ rfl (Ze8 (by omega))
 ·intro i hi hp
  dsimp only at hp ⊢
  unfold Zacu
  have e:∀p q:Int,p=q→(some (.inl (L,(true,((L.length:Int),(p,()))))):Option (TL Zadn.σs⊕Out Zad9))=some (.inl (L,(true,((L.length:Int),(q,()))))):=by rintro _ _ rfl;rfl
  have hg:gt .bool L (i:Int)=false:=(gt_b (by omega)).trans hp
  exact br_tt (dec_t (show (i:Int)<(L.length:Int) by omega)) (Zaj (Zar ⟨by omega,by omega⟩) (br_ff (by rw [hg];rfl) (e _ _ (i64w (x:=(i:Int)+1) (by omega)))))
 ·intro i hi hp
  dsimp only at hp ⊢
  unfold Zacu
  have hg:gt .bool L (i:Int)=true:=(gt_b (by omega)).trans hp
  exact br_tt (dec_t (show (i:Int)<(L.length:Int) by omega)) (Zaj (Zar ⟨by omega,by omega⟩) (br_tt (by rw [hg];rfl) rfl))
 ·try dsimp only
  unfold Zacu
  exact br_ff (dec_f (show ¬(L.length:Int)<(L.length:Int) by omega)) rfl
theorem Zb9e (L:List Bool) (hL:L.length≤1000000):Zapw (L,(true,()))=some (idx L,()):=by
 have e:=index_2 L hL
 have e':Zaj4 (L,(true,((Int.ofNat (List.length L)),((0:Int),()))))=_:=e
 unfold idx
 cases q:fstI (fun i=>L.getD i false) L.length 0 with
 | some i=>rw [q] at e';exact Zba e' rfl
 | none=>rw [q] at e';exact Zba e' rfl
theorem Zb8v (L:List Bool) (hL:L.length≤1000000):Zaw8 (L,(true,()))=some (decide (0≤idx L),()):=Zba (Zb9e L hL) rfl
end Go.Proofs.YtnocaehijdmkkaaGreat.V
end
section
namespace Go.Proofs.YtnocaehijdmkkaaGreat.V
open Go Go.RowKit
open Go.Proofs.YtnocaehijdmkkaaGreat.Pl
theorem Zbaj (n:NetD):∀(xs:List (List Bool)) (i:Nat) (s:StD) (acc:List CycT),∃t,(playF n xs i s acc).1=acc++t:=by
 intro xs
 induction xs with
 | nil=>intro i s acc;exact ⟨[],by rw [playF,List.append_nil]⟩
 | cons x xs ih=>
  intro i s acc
  rw [playF]
  split
  ·exact ⟨[],by rw [List.append_nil]⟩
  ·split
   ·exact ⟨[],by rw [List.append_nil]⟩
   ·obtain ⟨t,ht⟩:=ih (i+1) (stp n s x) (acc++[cyc n s x])
    exact ⟨cyc n s x :: t,by rw [ht];simp⟩
theorem Zb9q (n:NetD):∀(xs:List (List Bool)) (i:Nat) (s:StD) (acc:List CycT) (j:Nat),(playF n xs i s acc).2.2=0→j≤xs.length →
  playF n (xs.take j) i s acc=((playF n xs i s acc).1.take (acc.length+j),-1,0):=by
 intro xs
 induction xs with
 | nil=>
  intro i s acc j h hj
  obtain rfl:j=0:=by simpa using hj
  rw [List.take_nil,playF];simp
 | cons x xs ih=>
  intro i s acc j h hj
  cases j with
  | zero=>
   obtain ⟨t,ht⟩:=Zbaj n (x :: xs) i s acc
   rw [ht,List.take_zero,playF];simp
  | succ j=>
   rw [List.take_succ_cons]
   rw [playF] at h ⊢
   by_cases h1:x.length≠n.inputs.length
   ·rw [if_pos h1] at h;simp at h
   ·rw [if_neg h1] at h ⊢
    by_cases h2:fineF n (valF n s.1 s.2 x)=false
    ·rw [if_pos h2] at h;simp at h
    ·rw [if_neg h2] at h ⊢
     have:=ih (i+1) (stp n s x) (acc++[cyc n s x]) j h (by simpa using hj)
     rw [this]
     conv=>rhs;rw [playF,if_neg h1,if_neg h2]
     simp [Nat.add_assoc,Nat.add_comm 1 j]
abbrev cdef:CycT:=([],(false,()))
section
variable {n:NetD} {ls:List Bool} {cs:List (List CellT)} {ins:List (List Bool)} {bad:Int} (h:(chF n ls cs ins bad).2=0)
include h
theorem Zb5r:Pl.Zkz n=0∧¬(bad<0∨(n.bads.length:Int)≤bad∨ins=[])∧Zym (netT n) ls cs=0∧refF n bad ins 0 (ls,cs)=chF n ls cs ins bad:=by
 by_cases hc:Pl.Zkz n=0
 ·by_cases h1:bad<0∨(n.bads.length:Int)≤bad∨ins=[]
  ·rw [chF_a hc h1] at h;simp at h
  ·by_cases h2:Zym (netT n) ls cs=0
   ·exact ⟨hc,h1,h2,(chF_r hc h1 h2).symm⟩
   ·rw [chF_l hc h1 h2] at h;simp at h
 ·rw [chF_c hc] at h;exact absurd h hc
theorem Zb81:(playF n ins 0 (ls,cs) []).2.2=0:=by
 obtain ⟨hc,h1,h2,h3⟩:=Zb5r h
 rw [←h3] at h
 by_cases q:(playF n ins 0 (ls,cs) []).2.2=0
 ·exact q
 ·rw [(Zb4k n bad ins 0 (ls,cs) []).1 q] at h
  exact absurd h q
theorem Zb8e (j:Nat) (h0:1≤j) (hj:j≤ins.length):((playF n ins 0 (ls,cs) []).1.getD (j - 1) cdef).1.length=n.bads.length ∧
  ∀k:Nat,k<n.bads.length→(chF n ls cs (ins.take j) (k:Int)).2=if ((playF n ins 0 (ls,cs) []).1.getD (j - 1) cdef).1.getD k false=true then 0 else 16:=by
 obtain ⟨hc,h1,h2,h3⟩:=Zb5r h
 have hz:=Zb81 h
 have ht:=Zb9q n ins 0 (ls,cs) [] j hz hj
 have hl:(ins.take j).length=j:=by rw [List.length_take];omega
 have hne:ins.take j≠[]:=fun q=>by rw [q] at hl;simp at hl;omega
 have key:∀b:Int,∃c,(playF n ins 0 (ls,cs) []).1[j - 1]?=some c∧c.1.length=n.bads.length∧refF n b (ins.take j) 0 (ls,cs)=if c.1.getD b.toNat false=false then (((0+(ins.take j).length - 1:Nat):Int),16) else (-1,0):=by
  intro b
  obtain ⟨_,p2⟩:=Zb4k n b (ins.take j) 0 (ls,cs) []
  obtain ⟨_,_,p3⟩:=p2 (by rw [ht])
  obtain ⟨c,c1,c2,c3⟩:=p3 hne
  refine ⟨c,?_,c2,c3⟩
  rw [ht,hl] at c1
  simp only [List.length_nil,Nat.zero_add] at c1
  rw [List.getElem?_take,if_pos (by omega)] at c1
  exact c1
 have gd:∀c,(playF n ins 0 (ls,cs) []).1[j - 1]?=some c→(playF n ins 0 (ls,cs) []).1.getD (j - 1) cdef=c:=by
  intro c hc;rw [List.getD_eq_getElem?_getD,hc];rfl
 constructor
 ·obtain ⟨c,c1,c2,_⟩:=key 0
  rw [gd c c1];exact c2
 ·intro k hk
  obtain ⟨c,c1,c2,c3⟩:=key (k:Int)
  have hno:¬((k:Int)<0∨(n.bads.length:Int)≤(k:Int)∨ins.take j=[]):=fun q=>by
   rcases q with q | q | q
   ·omega
   ·omega
   ·exact hne q
  rw [chF_r hc hno h2,gd c c1,c3]
  rw [Int.toNat_natCast]
  cases c.1.getD k false with
  | true=>rw [if_neg (by simp),if_pos rfl]
  | false=>rw [if_pos rfl,if_neg (by simp)]
theorem Zb7m:(playF n ins 0 (ls,cs) []).1.length=ins.length:=by
 have:=((Zb4k n bad ins 0 (ls,cs) []).2 (Zb81 h)).2.1
 rw [this];simp
theorem ins_ne:1≤ins.length:=by
 obtain ⟨hc,h1,h2,h3⟩:=Zb5r h
 rcases Nat.eq_zero_or_pos ins.length with q | q
 ·exact absurd (.inr (.inr (List.eq_nil_of_length_eq_zero q))) h1
 ·exact q
theorem hit_last:0≤idx ((playF n ins 0 (ls,cs) []).1.getD (ins.length - 1) cdef).1:=by
 obtain ⟨hc,h1,h2,h3⟩:=Zb5r h
 have hl:=ins_ne h
 obtain ⟨_,k2⟩:=Zb8e h ins.length hl (Nat.le_refl _)
 have hb:bad.toNat<n.bads.length:=by omega
 have hb':((bad.toNat:Nat):Int)=bad:=by omega
 have:=k2 bad.toNat hb
 rw [List.take_length,hb',h] at this
 by_cases q:((playF n ins 0 (ls,cs) []).1.getD (ins.length - 1) cdef).1.getD bad.toNat false=true
 ·exact idx_ge q
 ·rw [if_neg q] at this;simp at this
end
def hitF (P:List CycT):Option Nat:=fstI (fun i=>decide (0≤idx (P.getD i cdef).1)) P.length 0
theorem hit_of {n:NetD} {ls:List Bool} {cs:List (List CellT)} {ins:List (List Bool)} {bad:Int} (h:(chF n ls cs ins bad).2=0):∃i,hitF (playF n ins 0 (ls,cs) []).1=some i∧i<ins.length∧0≤idx ((playF n ins 0 (ls,cs) []).1.getD i cdef).1:=by
 have hl:=ins_ne h
 have hn:=Zb7m h
 cases q:hitF (playF n ins 0 (ls,cs) []).1 with
 | some i=>
  obtain ⟨_,a2,a3,_⟩:=Zb8a _ _ _ _ q
  exact ⟨i,rfl,by omega,of_decide_eq_true a3⟩
 | none=>
  have:=Zb8b _ _ _ q (ins.length - 1) (Nat.zero_le _) (by omega)
  exact absurd (hit_last h) (of_decide_eq_false this)
abbrev TrT:=(List Bool×List (List CellT)×Unit)×List (List Bool)×Int×Unit
def Zb2t (n:NetD) (ls:List Bool) (cs:List (List CellT)) (ins:List (List Bool)) (bad:Int):TrT:=
 if (chF n ls cs ins bad).2=0 then match hitF (playF n ins 0 (ls,cs) []).1 with
  | some i=>((ls,(cs,())),(ins.take (i+1),(idx ((playF n ins 0 (ls,cs) []).1.getD i cdef).1,())))
  | none=>((ls,(cs,())),(ins,(bad,())))
 else ((ls,(cs,())),(ins,(bad,())))
end Go.Proofs.YtnocaehijdmkkaaGreat.V
end
section
namespace Go.Proofs.YtnocaehijdmkkaaGreat.V
open Go Go.RowKit
set_option maxRecDepth 1000000
abbrev Zai7:Lay:={ T:=[(0,.fzb Za3)],h:=[],nx:=0 }
abbrev Zacz:List (Ev.Ex×Lay):=[(.ret,{ T:=[(0,.hd 0 Za3)],h:=[(0,.arr Za3 127)],nx:=1 })]
abbrev Zajt:=Kb 71 1 Zai7 1 Zacz
def Zas9 (t0z:Bool) (t0:List (Sh.T Za3)):Option (Out Zacz):=
 br t0z
 (
  some ([],()))
 (
  chk (room 16 (List.length (ap [] t0)))<|
  some ((ap [] t0),()))
def Zas8  :Zajt:=⟨u2 Zas9,pB Tryz.func71 8 k0 e0 1 (sS l0) fun d=>by kernel_rfl⟩
def Zajs:Zajt:=Zas8  
abbrev Zajv:List Sh:=[.sl Za3]
abbrev Zaju:List Sh:=[.sl Za3]
abbrev Zae9:=TL Zajv→Option (TL Zaju)
abbrev Zaeb:=Kd 71 Zajv Zaju
def Zaea:Zaeb:=⟨_,Zb0c Zajs.ok rfl (fun L=>rfl) (fun L=>⟨_,_,rfl,rfl,rfl⟩)⟩
def Zae0:Zae9:=Zaea.F
abbrev Zaza:List Sh:=[Zaa7]
abbrev Zawb:List Sh:=[.bool]
abbrev Zax6:=TL Zaza→Option (TL Zawb)
abbrev Zasn:=Kd 44 Zaza Zawb
def Zb5p (F0:Zamx) (a0:Sh.T Zaa7):Option (TL Zawb):=
 bnd (F0 (a0.1,(true,()))) fun x0=>
 some (x0.1,())
def Zb5o (c0:Zaho) :Zasn:=⟨u1 (Zb5p c0.F),pD Tryz.func44 6 (kD c0 k0) e0 1 (sS l0) fun d=>by kernel_rfl⟩
def Zax7:Zasn:=Zb5o Zamy 
def Zazb:Zax6:=Zax7.F
abbrev Zaex:Lay:={ T:=[(0,.fz Zaa7),(1,.func 44 [] [])],h:=[],nx:=0 }
abbrev Zac4:List (Ev.Ex×Lay):=[(.ret,{ T:=[(0,.int .i64)],h:=[],nx:=0 })]
abbrev Zag8:=TL Zaex.σs→Option (Out Zac4)
abbrev Zacl:=Kb 43 2 Zaex 1 Zac4
abbrev Zaam:Lay:={ T:=[(0,.fz Zaa7),(1,.func 44 [] []),(7,.int .i64),(8,.int .i64)],h:=[],nx:=0 }
abbrev Zaai:List (Ev.Ex×Lay):=[(.ret,{ T:=[(4,.int .i64)],h:=[],nx:=0 }),((.exit 0),{ T:=[],h:=[],nx:=0 })]
abbrev Zafn:=TL Zaam.σs→Option (Out Zaai)
abbrev Zacb:=Ld 0 19 (Zb5 [0] (Zaa Tryz.f43)) Zaam Zaai
def Zaad (F0:Zax6) (t0:List (Sh.T Zaa7)) (t7 t8:Int):Option (TL Zaam.σs⊕Out Zaai):=
 br (iL t8 t7)
 (
  chk (inb t8 (List.length t0))<|
  bnd (F0 (((gt Zaa7 t0 t8).1,((gt Zaa7 t0 t8).2.1,())),())) fun x0=>
  br x0.1
  (
   some (.inr (.inl (t8,()))))
  (
   some (.inl (t0,(t7,((IntKind.wrap .i64 (t8+(1:Int))),()))))))
 (
  some (.inr (.inr ())))
def Zaoa (c0:Zasn) :Zacb:=mkL (u3 (Zaad c0.F)) (pL (kD c0 k0) e0 1 l0 fun d=>by kernel_rfl)
def Zao9:Zacb:=Zaoa Zax7 
def Zaca:Zafn:=lpD (u3 (Zaad Zazb)) NN
def Zaoj (F0:Zax6) (L2:Zafn) (t0:List (Sh.T Zaa7)):Option (Out Zac4):=
 bnd (L2 (t0,((Int.ofNat (List.length t0)),((0:Int),())))) fun x0=>
 (match x0 with
 | .inl x1=>
  some (x1.1,())
 | .inr x1=>
  some ((Int.negSucc 0),())
 )
def Zaoi (c0:Zasn) (M2:Zacb):Zacl:=⟨u1 (Zaoj c0.F M2.L),pB Tryz.func43 19 (kD c0 k0) e0 1 (sS (sC M2 l0)) fun d=>by kernel_rfl⟩
def Zag9:Zacl:=Zaoi Zax7 Zao9
def Zaob:Zag8:=Zag9.F
abbrev yTl0:List (Nat×LO):=[(0,.cells [.fz .bool,.fz (.sl Za3),.fz (.sl .bool),.int .i64] 34),(1,.cells [.hd 2 .bool,.hd 3 (.sl Za3),.nils,.int .i64] 34),(2,.arr .bool 4),(3,.arr (.sl Za3) 78)]
abbrev yTl1:List (Nat×LO):=[(0,.cells [.hd 1 .bool,.hd 2 (.sl Za3),.hd 3 (.sl .bool),.int .i64] 34),(1,.arr .bool 4),(2,.arr (.sl Za3) 78),(3,.arr (.sl .bool) 28)]
abbrev Zama:Lay:={ T:=[(2,.ptr 0 0),(35,.fz (.sl .bool)),(36,.int .i64),(37,.int .i64)],h:=yTl1,nx:=4 }
abbrev Zalc:List (Ev.Ex×Lay):=[((.exit 2),{ T:=[(2,.ptr 0 0)],h:=yTl1,nx:=4 })]
abbrev Zb2i:=TL Zama.σs→Option (Out Zalc)
abbrev Zay6:=Ld 0 50 (Zb5 [1] (Zaa Tryz.f42)) Zama Zalc
abbrev Zamb:Lay:={ T:=[(1,.ptr 0 0),(2,.ptr 1 0),(18,.fz (.sl Za3)),(19,.int .i64),(20,.int .i64)],h:=yTl0,nx:=4 }
abbrev Zald:List (Ev.Ex×Lay):=[((.exit 0),{ T:=[(1,.ptr 0 0),(2,.ptr 1 0)],h:=yTl0,nx:=4 })]
abbrev Zb2j:=TL Zamb.σs→Option (Out Zald)
abbrev Zay7:=Ld 0 50 (Zb5 [0] (Zaa Tryz.f42)) Zamb Zald
def Zau0 (F0:Zae9) (t18:List (List (Sh.T Za3))) (t19 t20:Int) (b0_0:List Bool) (b0_1:List (List (Sh.T Za3))) (b0_2:List (List Bool)) (b0_3 b1_3:Int) (b2:List Bool) (b3:List (List (Sh.T Za3))):Option (TL Zamb.σs⊕Out Zald):=
 br (iL t20 t19)
 (
  chk (inb t20 (List.length t18))<|
  bnd (F0 ((gt (.sl Za3) t18 t20),())) fun x0=>
  chk (room 24 (List.length (ap b3 (x0.1 :: []))))<|
  some (.inl (t18,(t19,((IntKind.wrap .i64 (t20+(1:Int))),(b0_0,(b0_1,(b0_2,(b0_3,(b1_3,(b2,((ap b3 (x0.1 :: [])),()))))))))))))
 (
  some (.inr (b0_0,(b0_1,(b0_2,(b0_3,(b1_3,(b2,(b3,())))))))))
def Zb62 (c0:Zaeb) :Zay7:=mkL (u10 (Zau0 c0.F)) (pL (kD c0 k0) e0 1 l0 fun d=>by kernel_rfl)
def Zb60:Zay7:=Zb62 Zaea 
def Zb2l:Zb2j:=lpD (u10 (Zau0 Zae0)) NN
def Zatz (F2:Zaey) (t35:List (List Bool)) (t36 t37 b0_3:Int) (b1:List Bool) (b2:List (List (Sh.T Za3))) (b3:List (List Bool)):Option (TL Zama.σs⊕Out Zalc):=
 br (iL t37 t36)
 (
  chk (inb t37 (List.length t35))<|
  bnd (F2 ((gt (.sl .bool) t35 t37),())) fun x0=>
  chk (room 24 (List.length (ap b3 (x0.1 :: []))))<|
  some (.inl (t35,(t36,((IntKind.wrap .i64 (t37+(1:Int))),(b0_3,(b1,(b2,((ap b3 (x0.1 :: [])),())))))))))
 (
  some (.inr (b0_3,(b1,(b2,(b3,()))))))
def Zb61 (c2:Zaez) :Zay6:=mkL (u7 (Zatz c2.F)) (pL (kB c2 k0) e0 1 l0 fun d=>by kernel_rfl)
def Zb5z:Zay6:=Zb61 Zacy 
def Zb2k:Zb2i:=lpD (u7 (Zatz Zaj8)) NN
abbrev Zb2h:List Sh:=[Zaah]
abbrev Zay5:List Sh:=[Zaah]
abbrev Zb3p:=TL Zb2h→Option (TL Zay5)
abbrev Zayq:=Kd 42 Zb2h Zay5
def Zb6o (F0:Zae9) (F1:Zaj5) (F2:Zaey) (L3:Zb2j) (L8:Zb2i) (a0:Sh.T Zaah):Option (TL Zay5):=
 bnd (F2 (a0.1.1,())) fun x0=>
 chk (iQ a0.2.2.1 a0.2.2.1)<|
 chk (iQ a0.2.2.1 a0.2.2.1)<|
 bnd (L3 (a0.1.2.1,((Int.ofNat (List.length a0.1.2.1)),((0:Int),(a0.1.1,(a0.1.2.1,(a0.2.1,(a0.2.2.1,(a0.2.2.1,(x0.1,([],()))))))))))) fun x1=>
 bnd (L8 (x1.2.2.1,((Int.ofNat (List.length x1.2.2.1)),((0:Int),(x1.2.2.2.2.1,(x1.2.2.2.2.2.1,(x1.2.2.2.2.2.2.1,([],())))))))) fun x2=>
 some (((x2.2.1,(x2.2.2.1,())),(x2.2.2.2.1,(x2.1,()))),())
def Zb6n (c0:Zaeb) (c1:Zaj7) (c2:Zaez) (M3:Zay7) (M8:Zay6):Zayq:=⟨u1 (Zb6o c0.F c1.F c2.F M3.L M8.L),pD Tryz.func42 50 (kD c0 (kB c1 (kB c2 k0))) e0 1 (sS (sC M3 (sC M8 l0))) fun d=>by kernel_rfl⟩
def Zb3q:Zayq:=Zb6n Zaea Zaj6 Zacy Zb60 Zb5z
def Zb63:Zb3p:=Zb3q.F
abbrev Zb2m:List Sh:=[Za5,Zaah]
abbrev Zau1:List Sh:=[Zaah]
abbrev Zb3r:=TL Zb2m→Option (TL Zau1)
abbrev Zayr:=Kd 16 Zb2m Zau1
def Zb6q (F0:Zajz) (F1:Zb3p) (F2:Zax4) (F3:Zag8) (a0:Sh.T Za5) (a1:Sh.T Zaah):Option (TL Zau1):=
 bnd (F2 (a0,(((a1.1.1,(a1.1.2.1,())),a1.2),()))) fun x0=>
 bnd (F1 (((a1.1.1,(a1.1.2.1,())),a1.2),())) fun x1=>
 br (Bool.not (iQ x0.2.2.1 (0:Int)))
 (
  some (((x1.1.1.1,(x1.1.1.2.1,())),(x1.1.2.1,(x1.1.2.2.1,()))),()))
 (
  bnd (F3 (x0.1,())) fun x2=>
  chk (both (iE (0:Int) (IntKind.wrap .i64 (@HAdd.hAdd (Int) (Int) (Int) _ x2.1 (1:Int)))) (iE (IntKind.wrap .i64 (@HAdd.hAdd (Int) (Int) (Int) _ x2.1 (1:Int))) (Int.ofNat (List.length x1.1.2.1))))<|
  chk (inb x2.1 (List.length x0.1))<|
  bnd (F0 ((gt Zaa7 x0.1 x2.1).1,(true,()))) fun x3=>
  some (((x1.1.1.1,(x1.1.1.2.1,())),((List.take (Int.toNat (IntKind.wrap .i64 (@HAdd.hAdd (Int) (Int) (Int) _ x2.1 (1:Int)))) x1.1.2.1),(x3.1,()))),()))
def Zb6p (c0:Zaew) (c1:Zayq) (c2:Zasm) (c3:Zacl) :Zayr:=⟨u2 (Zb6q c0.F c1.F c2.F c3.F),pD Tryz.func16 38 (kD c0 (kD c1 (kD c2 (kB c3 k0)))) e0 1 (sS l0) fun d=>by kernel_rfl⟩
def Zb3s:Zayr:=Zb6p Zak0 Zb3q Zax5 Zag9 
def Zb64:Zb3r:=Zb3s.F
end Go.Proofs.YtnocaehijdmkkaaGreat.V
end
section
namespace Go.Proofs.YtnocaehijdmkkaaGreat.V
open Go Go.RowKit
open Go.Proofs.YtnocaehijdmkkaaGreat.Pl
theorem clC {L:List Za3.T} (h:L.length≤1000000):Zae0 (L,())=some (L,()):=Zaj (roomN (by decide) (by show ([]++L).length≤_;rw [List.nil_append];omega)) rfl
theorem Zb92 {α:Type} {L:List α} {i:Nat} {x:α} (h:L[i]?=some x):L.take i++[x]=L.take (i+1):=by
 have hi:i<L.length:=by
  rcases Nat.lt_or_ge i L.length with c | c
  ·exact c
  ·rw [List.getElem?_eq_none c] at h;cases h
 rw [List.take_add_one,h];rfl
theorem tc_3 (ls:List Bool) (cs:List (List CellT)) (ins:List (List Bool)) (bad:Int) (hc:cs.length≤10000) (hcc:∀c∈cs,c.length≤1000000) :
  Zb2l (cs,((cs.length:Int),((0:Int),(ls,(cs,(ins,(bad,(bad,(ls,([],()))))))))))=some (ls,(cs,(ins,(bad,(bad,(ls,(cs,()))))))):=by
 unfold Zb2l;delta u10
 have ht:cs=cs.take cs.length:=(List.take_length).symm
 refine Zif (fun i:Nat=>(cs,((cs.length:Int),((i:Int),(ls,(cs,(ins,(bad,(bad,(ls,(cs.take i,())))))))))) ) cs.length rfl ?_ ?_ (Ze8 (by omega))
 ·intro i hi
  try dsimp only
  unfold Zau0
  have hx:=List.getElem?_eq_getElem hi
  have hg:gt (.sl Za3) cs (i:Int)=cs[i]:=gt_at (σ:=.sl Za3) hx
  have ec:Zae0 (gt (.sl Za3) cs (i:Int),())=some (cs[i],()):=by rw [hg];exact clC (hcc _ (List.getElem_mem hi))
  have e:∀(p q:Int) (A B:List (List CellT)),p=q→A=B→(some (.inl (cs,((cs.length:Int),(p,(ls,(cs,(ins,(bad,(bad,(ls,(A,())))))))))) ):Option (TL Zamb.σs⊕Out Zald))=some (.inl (cs,((cs.length:Int),(q,(ls,(cs,(ins,(bad,(bad,(ls,(B,()))))))))))):=by rintro _ _ _ _ rfl rfl;rfl
  refine br_tt (dec_t (show (i:Int)<(cs.length:Int) by omega)) (Zaj (Zb88 hi) (Zba ec (Zaj ?_ (e _ _ _ _ (i64w (x:=(i:Int)+1) (by omega)) (Zb92 hx)))))
  exact roomN (by decide) (by show (cs.take i++[cs[i]]).length≤_;rw [Zb92 hx,List.length_take];omega)
 ·try dsimp only
  unfold Zau0
  have e:∀(A B:List (List CellT)),A=B→(some (.inr (ls,(cs,(ins,(bad,(bad,(ls,(A,())))))))):Option (TL Zamb.σs⊕Out Zald))=some (.inr (ls,(cs,(ins,(bad,(bad,(ls,(B,())))))))):=by rintro _ _ rfl;rfl
  exact br_ff (dec_f (show ¬(cs.length:Int)<(cs.length:Int) by omega)) (e _ _ ht.symm)
theorem tc_8 (ls:List Bool) (cs:List (List CellT)) (ins:List (List Bool)) (bad:Int) (hc:ins.length≤10000) (hcc:∀c∈ins,c.length≤1000000) :
  Zb2k (ins,((ins.length:Int),((0:Int),(bad,(ls,(cs,([],())))))))=some (bad,(ls,(cs,(ins,())))):=by
 unfold Zb2k;delta u7
 have ht:ins=ins.take ins.length:=(List.take_length).symm
 refine Zif (fun i:Nat=>(ins,((ins.length:Int),((i:Int),(bad,(ls,(cs,(ins.take i,())))))))) ins.length rfl ?_ ?_ (Ze8 (by omega))
 ·intro i hi
  try dsimp only
  unfold Zatz
  have hx:=List.getElem?_eq_getElem hi
  have hg:gt (.sl .bool) ins (i:Int)=ins[i]:=gt_at (σ:=.sl .bool) hx
  have ec:Zaj8 (gt (.sl .bool) ins (i:Int),())=some (ins[i],()):=by rw [hg];exact clB (hcc _ (List.getElem_mem hi))
  have e:∀(p q:Int) (A B:List (List Bool)),p=q→A=B→(some (.inl (ins,((ins.length:Int),(p,(bad,(ls,(cs,(A,())))))))):Option (TL Zama.σs⊕Out Zalc))=some (.inl (ins,((ins.length:Int),(q,(bad,(ls,(cs,(B,())))))))):=by rintro _ _ _ _ rfl rfl;rfl
  refine br_tt (dec_t (show (i:Int)<(ins.length:Int) by omega)) (Zaj (Zb88 hi) (Zba ec (Zaj ?_ (e _ _ _ _ (i64w (x:=(i:Int)+1) (by omega)) (Zb92 hx)))))
  exact roomN (by decide) (by show (ins.take i++[ins[i]]).length≤_;rw [Zb92 hx,List.length_take];omega)
 ·try dsimp only
  unfold Zatz
  have e:∀(A B:List (List Bool)),A=B→(some (.inr (bad,(ls,(cs,(A,()))))):Option (TL Zama.σs⊕Out Zalc))=some (.inr (bad,(ls,(cs,(B,()))))):=by rintro _ _ rfl;rfl
  exact br_ff (dec_f (show ¬(ins.length:Int)<(ins.length:Int) by omega)) (e _ _ ht.symm)
structure TrOk (ls:List Bool) (cs:List (List CellT)) (ins:List (List Bool)):Prop where
 l:ls.length≤100000
 c:cs.length≤10000
 cc:∀c∈cs,c.length≤100000
 i:ins.length≤200
 ii:∀x∈ins,x.length≤100000
theorem Zba2 {ls:List Bool} {cs:List (List CellT)} {ins:List (List Bool)} (bad:Int) (h:TrOk ls cs ins) :
  Zb63 (((ls,(cs,())),(ins,(bad,()))),())=some (((ls,(cs,())),(ins,(bad,()))),()):=by
 have e3:=tc_3 ls cs ins bad h.c (fun c hc=>Nat.le_trans (h.cc c hc) (by decide))
 have e8:=tc_8 ls cs ins bad (Nat.le_trans h.i (by decide)) (fun c hc=>Nat.le_trans (h.ii c hc) (by decide))
 exact Zba (clB (Nat.le_trans h.l (by decide))) (Zaj (dec_t rfl) (Zaj (dec_t rfl) (Zba e3 (Zba e8 rfl))))
theorem ifn_2 (P:List CycT) (hP:P.length≤1000000) (hb:∀c∈P,c.1.length≤1000000) :
  Zaca (P,((P.length:Int),((0:Int),())))=some (match hitF P with | some i=>.inl ((i:Int),()) | none=>.inr ()):=by
 unfold Zaca hitF;delta u3
 have ec:∀i:Nat,i<P.length→Zazb (((gt Zaa7 P (i:Int)).1,((gt Zaa7 P (i:Int)).2.1,())),())=some (decide (0≤idx (P.getD i cdef).1),()):=by
  intro i hi
  have hx:=List.getElem?_eq_getElem hi
  have hg:gt Zaa7 P (i:Int)=P[i]:=gt_at (σ:=Zaa7) hx
  have hd:P.getD i cdef=P[i]:=by rw [List.getD_eq_getElem?_getD,hx];rfl
  rw [hg,hd]
  exact Zba (Zb8v _ (hb _ (List.getElem_mem hi))) rfl
 refine Zb7j (fun i:Nat=>(P,((P.length:Int),((i:Int),())))) (fun i=>decide (0≤idx (P.getD i cdef).1)) (fun i=>Sum.inl ((i:Int),())) (Sum.inr ()) P.length ?_ ?_ ?_ rfl (Ze8 (by omega))
 ·intro i hi hp
  dsimp only at hp ⊢
  unfold Zaad
  have e:∀p q:Int,p=q→(some (.inl (P,((P.length:Int),(p,())))):Option (TL Zaam.σs⊕Out Zaai))=some (.inl (P,((P.length:Int),(q,())))):=by rintro _ _ rfl;rfl
  have ec':=ec i hi
  rw [hp] at ec'
  exact br_tt (dec_t (show (i:Int)<(P.length:Int) by omega)) (Zaj (Zb88 hi) (Zba ec' (br_ff rfl (e _ _ (i64w (x:=(i:Int)+1) (by omega))))))
 ·intro i hi hp
  dsimp only at hp ⊢
  unfold Zaad
  have ec':=ec i hi
  rw [hp] at ec'
  exact br_tt (dec_t (show (i:Int)<(P.length:Int) by omega)) (Zaj (Zb88 hi) (Zba ec' (br_tt rfl rfl)))
 ·try dsimp only
  unfold Zaad
  exact br_ff (dec_f (show ¬(P.length:Int)<(P.length:Int) by omega)) rfl
section
variable {n:NetD} (ft:Fit n) (ls:List Bool) (cs:List (List CellT)) (ins:List (List Bool)) (bad:Int)
include ft
theorem least_is (hok:okS cs) (ht:TrOk ls cs ins) :
  Zb64 (netT n,(((ls,(cs,())),(ins,(bad,()))),()))=some (Zb2t n ls cs ins bad,()):=by
 have ek:=Zb73 ft ls cs ins bad hok ht.i (Nat.le_trans ht.l (by decide))
 have ec:=Zba2 bad ht
 unfold Zb2t
 by_cases h:(chF n ls cs ins bad).2=0
 ·rw [if_pos h] at ek ⊢
  obtain ⟨i,hi,hil,hge⟩:=hit_of h
  have hl:=Zb7m h
  have hb:∀c∈(playF n ins 0 (ls,cs) []).1,c.1.length≤1000000:=by
   intro c hc
   obtain ⟨j,hj⟩:=List.getElem?_of_mem hc
   have hjl:=Zhb hj
   have:=(Zb8e h (j+1) (by omega) (by omega)).1
   rw [show j+1 - 1=j by omega,List.getD_eq_getElem?_getD,hj] at this
   have hbl:=ft.bad.1
   show List.length c.1≤_
   have:List.length c.1=n.bads.length:=this
   omega
  have e2:=ifn_2 (playF n ins 0 (ls,cs) []).1 (by have:=ht.i;omega) hb
  rw [hi] at e2 ⊢
  generalize playF n ins 0 (ls,cs) []=P at ek hi hge hl hb e2 ⊢
  obtain ⟨PL,P1,P2⟩:=P
  simp only at ek hi hge hl hb e2 ⊢
  have hw:IntKind.wrap .i64 ((i:Int)+(1:Int))=((i+1:Nat):Int):=i64n (by omega) (by have:=ht.i;omega)
  have hx:=List.getElem?_eq_getElem (l:=PL) (i:=i) (by omega)
  have hg:gt Zaa7 PL (i:Int)=PL.getD i cdef:=by rw [List.getD_eq_getElem?_getD,hx];exact gt_at (σ:=Zaa7) hx
  have hmem:PL.getD i cdef∈PL:=by rw [List.getD_eq_getElem?_getD,hx];exact List.getElem_mem _
  have e3:Zapw ((gt Zaa7 PL (i:Int)).1,(true,()))=some (idx (PL.getD i cdef).1,()):=by rw [hg];exact Zb9e _ (hb _ hmem)
  have ef:Zaob (PL,())=some ((i:Int),()):=Zba (show Zaca (PL,((Int.ofNat (List.length PL)),((0:Int),())))=_ from e2) rfl
  have b1:both (iE (0:Int) (IntKind.wrap .i64 ((i:Int)+(1:Int)))) (iE (IntKind.wrap .i64 ((i:Int)+(1:Int))) (Int.ofNat (List.length ins)))=true:=by
   rw [hw]
   unfold both
   rw [show iE (0:Int) ((i+1:Nat):Int)=true from dec_t (by omega),show iE ((i+1:Nat):Int) (Int.ofNat (List.length ins))=true from dec_t (by show ((i+1:Nat):Int)≤(ins.length:Int);omega)]
  have e:∀p q:Int,p=q→(some (((ls,(cs,())),((List.take (Int.toNat p) ins),(idx (PL.getD i cdef).1,()))),()):Option (TL Zau1))=some (((ls,(cs,())),((List.take (Int.toNat q) ins),(idx (PL.getD i cdef).1,()))),()):=by rintro _ _ rfl;rfl
  exact Zba ek (Zba ec (br_ff (by show Bool.not (decide _)=false;rw [decide_eq_true h];rfl) (Zba ef (Zaj b1 (Zaj (Zb88 (show i<PL.length by omega)) (Zba e3 (e _ _ hw)))))))
 ·rw [if_neg h] at ek ⊢
  exact Zba ek (Zba ec (br_tt (by show Bool.not (decide _)=true;rw [decide_eq_false h];rfl) rfl))
end
section
variable {n:NetD} (ft:Fit n) (ls:List Bool) (cs:List (List CellT)) (ins:List (List Bool)) (bad:Int)
include ft
end
theorem trOk_of {ls:List Bool} {cs:List (List CellT)} {ins:List (List Bool)} (h:lightS ls cs ins):TrOk ls cs ins:=by
 obtain ⟨h1,h2,h3,h4,h5⟩:=h
 refine ⟨Nat.le_trans h1 (by decide),Nat.le_trans h2 (by decide),fun c hc=>?_,Nat.le_trans h3 (by decide),fun x hx=>?_⟩
 ·obtain ⟨i,hi⟩:=List.getElem?_of_mem hc
  have:=h4 i (Zhb hi)
  have hg:gt (.sl Za3) cs (i:Int)=c:=gt_at (σ:=.sl Za3) hi
  unfold cLen at this
  rw [hg] at this
  exact Nat.le_trans this (by decide)
 ·obtain ⟨i,hi⟩:=List.getElem?_of_mem hx
  have:=h5 i (Zhb hi)
  have hg:gt (.sl .bool) ins (i:Int)=x:=gt_at (σ:=.sl .bool) hi
  unfold iLen at this
  rw [hg] at this
  exact Nat.le_trans this (by decide)
end Go.Proofs.YtnocaehijdmkkaaGreat.V
end
