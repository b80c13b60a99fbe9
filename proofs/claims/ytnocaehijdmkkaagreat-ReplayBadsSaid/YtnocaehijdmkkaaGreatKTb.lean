import Derived.Test.YtnocaehijdmkkaaGreatKSa
import Derived.Test.YtnocaehijdmkkaaGreatKTa
import Derived.Test.YtnocaehijdmkkaaGreatKSb
import Derived.Test.YtnocaehijdmkkaaGreatKMf
set_option linter.unusedSectionVars false
set_option linter.unusedVariables false
set_option linter.unusedSimpArgs false
set_option linter.unnecessarySimpa false
section
namespace Go.Proofs.YtnocaehijdmkkaaGreat.V
open Go Go.RowKit
set_option maxRecDepth 1000000
abbrev Zb6b:List Sh:=[(.int .i64)]
abbrev Zb47:List Sh:=[.bool]
abbrev Zb70:=TL Zb6b→Option (TL Zb47)
abbrev Zb55:=Kd 116 Zb6b Zb47
def Zb54 (a0:Int):Option (TL Zb47):=
 some ((iQ (bandI .i64 a0 (1:Int)) (1:Int)),())
def Zb9t  :Zb55:=⟨u1 Zb54,pD Tryz.func116 6 k0 e0 1 (sS l0) fun d=>by kernel_rfl⟩
def Zb71:Zb55:=Zb9t  
def Zb6c:Zb70:=Zb71.F
abbrev Zb5j:List Sh:=[(.int .i64),(.sl .bool)]
abbrev Zayn:List Sh:=[.bool]
abbrev Zak3:=TL Zb5j→Option (TL Zayn)
abbrev Zaio:=Kd 90 Zb5j Zayn
def Zb4b (F0:Zb70) (F1:Zb3g) (a0:Int) (a1:List Bool):Option (TL Zayn):=
 br (iL a0 (0:Int))
 (
  some (false,()))
 (
  bnd (F1 (a0,())) fun x0=>
  bnd (F0 (a0,())) fun x1=>
  br (iL (0:Int) x0.1)
  (
   br (selB true (iL x0.1 (Int.ofNat (List.length a1))) false)
   (
    chk (inb x0.1 (List.length a1))<|
    some ((Bool.not (@decide _ (Bool.decEq x1.1 (selB true (gt .bool a1 x0.1) false)))),()))
   (
    some ((Bool.not (@decide _ (Bool.decEq x1.1 false))),())))
  (
   some ((Bool.not (@decide _ (Bool.decEq x1.1 false))),())))
def Zb8z (c0:Zb55) (c1:Zazd) :Zaio:=⟨u2 (Zb4b c0.F c1.F),pD Tryz.func90 27 (kD c0 (kD c1 k0)) e0 1 (sS l0) fun d=>by kernel_rfl⟩
def Zak4:Zaio:=Zb8z Zb71 Zb3h 
def Zacg:Zak3:=Zak4.F
abbrev Zasq:Lay:={ T:=[(1,.fz .bool),(4,.int .u64),(11,.fz (.int .i64)),(12,.int .i64),(13,.int .i64)],h:=[],nx:=0 }
abbrev Zarh:List (Ev.Ex×Lay):=[((.exit 0),{ T:=[(4,.int .u64)],h:=[],nx:=0 })]
abbrev Zb3u:=TL Zasq.σs→Option (Out Zarh)
abbrev Zayv:=Ld 0 27 (Zb5 [0] (Zaa Tryz.f92)) Zasq Zarh
def Zawk (F0:Zak3) (t1:List Bool) (t4:Int) (t11:List Int) (t12 t13:Int):Option (TL Zasq.σs⊕Out Zarh):=
 br (iL t13 t12)
 (
  chk (inb t13 (List.length t11))<|
  bnd (F0 ((gt (.int .i64) t11 t13),(t1,()))) fun x0=>
  br x0.1
  (
   chk (iE (0:Int) t13)<|
   some (.inl (t1,((borI .u64 t4 (IntKind.wrap .u64 ((1:Int)*(HPow.hPow (2:Int) (Min.min (Int.toNat t13) 64))))),(t11,(t12,((IntKind.wrap .i64 (t13+(1:Int))),())))))))
  (
   some (.inl (t1,(t4,(t11,(t12,((IntKind.wrap .i64 (t13+(1:Int))),()))))))))
 (
  some (.inr (t4,())))
def Zb6v (c0:Zaio) :Zayv:=mkL (u5 (Zawk c0.F)) (pL (kD c0 k0) e0 1 l0 fun d=>by kernel_rfl)
def Zb6u:Zayv:=Zb6v Zak4 
def Zawj:Zb3u:=lpD (u5 (Zawk Zacg)) NN
abbrev Zb3t:List Sh:=[(.sl (.int .i64)),(.sl .bool)]
abbrev Zayu:List Sh:=[(.int .u64)]
abbrev Zau6:=TL Zb3t→Option (TL Zayu)
abbrev Zari:=Kd 92 Zb3t Zayu
def Zb0e (F0:Zak3) (L2:Zb3u) (a0:List Int) (a1:List Bool):Option (TL Zayu):=
 chk (both (iE (0:Int) (selI (iL (64:Int) (Int.ofNat (List.length a0))) (64:Int) (Int.ofNat (List.length a0)))) (iE (selI (iL (64:Int) (Int.ofNat (List.length a0))) (64:Int) (Int.ofNat (List.length a0))) (Int.ofNat (List.length a0))))<|
 bnd (L2 (a1,((0:Int),((List.take (Int.toNat (selI (iL (64:Int) (Int.ofNat (List.length a0))) (64:Int) (Int.ofNat (List.length a0)))) a0),((Int.ofNat (List.length (List.take (Int.toNat (selI (iL (64:Int) (Int.ofNat (List.length a0))) (64:Int) (Int.ofNat (List.length a0)))) a0))),((0:Int),())))))) fun x0=>
 some (x0.1,())
def Zb7o (c0:Zaio) (M2:Zayv):Zari:=⟨u2 (Zb0e c0.F M2.L),pD Tryz.func92 27 (kD c0 k0) e0 1 (sS (sC M2 l0)) fun d=>by kernel_rfl⟩
def Zau7:Zari:=Zb7o Zak4 Zb6u
def Zalr:Zau6:=Zau7.F
abbrev Zau8:Lay:={ T:=[(0,.int .u64),(4,.hd 0 .bool),(7,.int .i64),(8,.int .i64)],h:=[(0,.arr .bool 4)],nx:=1 }
abbrev Zasr:List (Ev.Ex×Lay):=[((.exit 0),{ T:=[(4,.hd 0 .bool)],h:=[(0,.arr .bool 4)],nx:=1 })]
abbrev Zb4s:=TL Zau8.σs→Option (Out Zasr)
abbrev Zb4t:=Ld 0 21 (Zb5 [0] (Zaa Tryz.f93)) Zau8 Zasr
def Zaxw (t0 t7 t8:Int) (b0:List Bool):Option (TL Zau8.σs⊕Out Zasr):=
 br (iL t8 t7)
 (
  chk (iE (0:Int) t8)<|
  chk (room 1 (List.length (ap b0 ((iQ (bandI .u64 (Int.fdiv t0 (HPow.hPow (2:Int) (Min.min (Int.toNat t8) 64))) (1:Int)) (1:Int)) :: []))))<|
  some (.inl (t0,(t7,((IntKind.wrap .i64 (t8+(1:Int))),((ap b0 ((iQ (bandI .u64 (Int.fdiv t0 (HPow.hPow (2:Int) (Min.min (Int.toNat t8) 64))) (1:Int)) (1:Int)) :: [])),()))))))
 (
  some (.inr (b0,())))
def Zb7p  :Zb4t:=mkL (u4 Zaxw) (pL k0 e0 1 l0 fun d=>by kernel_rfl)
def Zb0g:Zb4s:=lpD (u4 Zaxw) NN
abbrev Zb4r:List Sh:=[(.int .u64),(.int .i64)]
abbrev Zb0f:List Sh:=[(.sl .bool)]
abbrev Zb2u:=TL Zb4r→Option (TL Zb0f)
abbrev Zayo:=Kd 93 Zb4r Zb0f
def Zb2w (F0:Zarf) (L2:Zb4s) (a0 a1:Int):Option (TL Zb0f):=
 bnd (F0 (a1,())) fun x0=>
 bnd (L2 (a0,(x0.1,((0:Int),([],()))))) fun x1=>
 some (x1.1,())
def Zb8f (c0:Zalf) (M2:Zb4t):Zayo:=⟨u2 (Zb2w c0.F M2.L),pD Tryz.func93 21 (kD c0 k0) e0 1 (sS (sC M2 l0)) fun d=>by kernel_rfl⟩
def Zb2v:Zayo:=Zb8f Zarg Zb7p
def Zaxv:Zb2u:=Zb2v.F
end Go.Proofs.YtnocaehijdmkkaaGreat.V
end
section
namespace Go.Proofs.YtnocaehijdmkkaaGreat.V
open Go Go.RowKit
def evF (l:Int) (v:List Bool):Bool:=if l<0 then false else (decide (l % 2=1)) != (decide (0<l / 2)&&(v.getD (l / 2).toNat false))
theorem band_one {l:Int} (h:0≤l) (h2:l<9223372036854775808):bandI .i64 l 1=l % 2:=by
 obtain ⟨n,rfl⟩:=Int.eq_ofNat_of_zero_le h
 unfold bandI
 have e:(BitVec.ofInt (IntKind.i64).bits (n:Int) &&& BitVec.ofInt (IntKind.i64).bits 1).toNat=n % 2:=by
  rw [BitVec.toNat_and,BitVec.toNat_ofInt,BitVec.toNat_ofInt]
  have e1:(((n:Int) % ((2^(IntKind.i64).bits:Nat):Int)).toNat)=n:=by
   rw [Int.emod_eq_of_lt (by omega) (by show (n:Int)<((2^64:Nat):Int);omega)];rfl
  rw [e1]
  show n &&& 1=n % 2
  exact Nat.and_one_is_mod n
 rw [e,i64w (by omega)]
 omega
theorem band_bit {w:Int} (h:0≤w) (h2:w<18446744073709551616):bandI .u64 w 1=w % 2:=by
 obtain ⟨n,rfl⟩:=Int.eq_ofNat_of_zero_le h
 unfold bandI
 have e:(BitVec.ofInt (IntKind.u64).bits (n:Int) &&& BitVec.ofInt (IntKind.u64).bits 1).toNat=n % 2:=by
  rw [BitVec.toNat_and,BitVec.toNat_ofInt,BitVec.toNat_ofInt]
  have e1:(((n:Int) % ((2^(IntKind.u64).bits:Nat):Int)).toNat)=n:=by
   rw [Int.emod_eq_of_lt (by omega) (by show (n:Int)<((2^64:Nat):Int);omega)];rfl
  rw [e1]
  show n &&& 1=n % 2
  exact Nat.and_one_is_mod n
 rw [e,u64w (by omega)]
 omega
theorem neg_is {l:Int} (h:0≤l) (h2:l<9223372036854775808):Zb6c (l,())=some (decide (l % 2=1),()):=by
 show Zb54 l=_
 unfold Zb54
 rw [band_one h h2]
 rfl
theorem gt_b {v:List Bool} {i:Int} (h:0≤i):gt .bool v i=v.getD i.toNat false:=by
 unfold gt;rfl
theorem Zb49 (l:Int) (v:List Bool) (h2:l<9223372036854775808):Zacg (l,(v,()))=some (evF l v,()):=by
 show Zb4b Zb6c Zhs l v=_
 unfold Zb4b evF
 by_cases h:l<0
 ·rw [if_pos h];exact br_tt (dec_t h) rfl
 ·rw [if_neg h]
  refine br_ff (dec_f h) (Zba (Za3m l) (Zba (neg_is (by omega) h2) ?_))
  have e:∀a b c:Bool,b=c→(some (Bool.not (@decide _ (Bool.decEq a b)),()):Option (TL Zayn))=some (a != c,()):=by rintro a b _ rfl;cases a<;>cases b<;>rfl
  by_cases h0:0<l / 2
  ·refine br_tt (dec_t h0) ?_
   by_cases h1:l / 2<(v.length:Int)
   ·refine br_tt (dec_t h1) (Zaj (Zar ⟨by omega,h1⟩) (e _ _ _ ?_))
    rw [decide_eq_true h0]
    show gt .bool v (l / 2)=_
    rw [gt_b (by omega)];rfl
   ·refine br_ff (dec_f h1) (e _ _ _ ?_)
    rw [decide_eq_true h0,List.getD_eq_getElem?_getD,List.getElem?_eq_none (by omega)];rfl
  ·refine br_ff (dec_f h0) (e _ _ _ ?_)
   rw [decide_eq_false h0];rfl
def wordF:List Bool→Nat
 | []=>0
 | b :: l=>(if b then 1 else 0)+2*wordF l
theorem Zb6w (l:List Bool) (b:Bool):wordF (l++[b])=wordF l+(if b then 2^l.length else 0):=by
 induction l with
 | nil=>cases b<;>rfl
 | cons c l ih=>
  rw [List.cons_append,wordF,ih,wordF,List.length_cons,Nat.pow_succ]
  cases b<;>simp<;>omega
theorem Zb74 (l:List Bool):wordF l<2^l.length:=by
 induction l with
 | nil=>decide
 | cons c l ih=>
  rw [wordF,List.length_cons,Nat.pow_succ]
  split<;>omega
theorem pow64 {i:Nat} (h:i<64):(2:Nat)^i≤9223372036854775808:=by
 have:(2:Nat)^i≤2^63:=Nat.pow_le_pow_right (by decide) (by omega)
 exact this
theorem bor_pow {w i:Nat} (hi:i<64) (hw:w<2^i):borI .u64 (w:Int) (IntKind.wrap .u64 ((1:Int)*(HPow.hPow (2:Int) (Min.min (Int.toNat (i:Int)) 64))))=((w+2^i:Nat):Int):=by
 have hp:=pow64 hi
 have e1:((1:Int)*(HPow.hPow (2:Int) (Min.min (Int.toNat (i:Int)) 64)))=((2^i:Nat):Int):=by
  rw [Int.one_mul,Int.toNat_natCast,Nat.min_eq_left (by omega)];simp
 rw [e1,u64w (by omega)]
 unfold borI
 have e2:∀n:Nat,n<18446744073709551616→(BitVec.ofInt (IntKind.u64).bits (n:Int)).toNat=n:=by
  intro n hn
  rw [BitVec.toNat_ofInt,Int.emod_eq_of_lt (by omega) (by show (n:Int)<((2^64:Nat):Int);omega)];rfl
 have e3:w ||| 2^i=w+2^i:=by
  rw [Nat.or_comm,Nat.add_comm]
  have:=Nat.two_pow_add_eq_or_of_lt hw 1
  rw [Nat.mul_one] at this
  exact this.symm
 rw [BitVec.toNat_or,e2 _ (by omega),e2 _ (by omega),e3,u64w (by omega)]
theorem Zb6d (l:List Int) (v:List Bool) (hl:l.length≤64) (hr:∀x∈l,x<9223372036854775808):Zalr (l,(v,()))=some ((wordF (l.map (evF · v)):Int),()):=by
 show Zb0e Zacg Zawj l v=_
 unfold Zb0e
 have es:selI (iL (64:Int) (Int.ofNat (List.length l))) (64:Int) (Int.ofNat (List.length l))=(l.length:Int):=by
  have q:iL (64:Int) (Int.ofNat (List.length l))=false:=dec_f (by show ¬(64:Int)<(l.length:Int);omega)
  rw [q];rfl
 have et:List.take (Int.toNat (selI (iL (64:Int) (Int.ofNat (List.length l))) (64:Int) (Int.ofNat (List.length l)))) l=l:=by
  rw [es,Int.toNat_natCast,List.take_length]
 have eL:Zawj (v,((0:Int),(l,((l.length:Int),((0:Int),())))))=some ((wordF (l.map (evF · v)):Int),()):=by
  unfold Zawj;delta u5
  refine Zif (fun k:Nat=>(v,((wordF ((l.take k).map (evF · v)):Int),(l,((l.length:Int),((k:Int),())))))) l.length rfl ?_ ?_ (Ze8 (by omega))
  ·intro k hk
   have hx:=List.getElem?_eq_getElem hk
   have hm:=hr _ (List.getElem_mem hk)
   try dsimp only
   unfold Zawk
   have e1:=Zb49 l[k] v hm
   have e1':Zacg ((gt (.int .i64) l (k:Int)),(v,()))=some (evF l[k] v,()):=by rw [gt_at (σ:=.int .i64) hx];exact e1
   have ht:(l.take (k+1)).map (evF · v)=(l.take k).map (evF · v)++[evF l[k] v]:=by rw [Pl.Zd8 hx,List.map_append];rfl
   have hk2:((l.take k).map (evF · v)).length=k:=by rw [List.length_map,List.length_take];omega
   have hw:=Zb74 ((l.take k).map (evF · v))
   rw [hk2] at hw
   have e:∀(a b p q:Int),a=b→p=q→(some (.inl (v,(a,(l,((l.length:Int),(p,())))))):Option (TL Zasq.σs⊕Out Zarh))=some (.inl (v,(b,(l,((l.length:Int),(q,())))))):=by rintro _ _ _ _ rfl rfl;rfl
   refine br_tt (dec_t (by omega)) (Zaj (Zar ⟨by omega,by omega⟩) (Zba e1' ?_))
   rw [ht,Zb6w,hk2]
   cases hb:evF l[k] v
   ·refine br_ff rfl (e _ _ _ _ ?_ (i64n (by omega) (by omega)))
    rfl
   ·refine br_tt rfl (Zaj (dec_t (by omega)) (e _ _ _ _ (bor_pow (by omega) hw) (i64n (by omega) (by omega))))
  ·try dsimp only
   unfold Zawk
   rw [List.take_length]
   exact br_ff (dec_f (by omega)) rfl
 refine Zaj ?_ ?_
 ·rw [es]
  show both (decide _) (decide _)=true
  rw [decide_eq_true (by omega),decide_eq_true (by show (l.length:Int)≤(l.length:Int);omega)];rfl
 ·have eT:∀L:List Int,L=l→Zawj (v,((0:Int),(L,((Int.ofNat (List.length L)),((0:Int),())))))=some ((wordF (l.map (evF · v)):Int),()):=by rintro _ rfl;exact eL
  exact Zba (eT _ et) rfl
theorem room1 (P:List Bool) (z:Bool) (h:P.length≤10000000):room 1 (List.length (P++(z :: [])))=true:=by
 rw [List.length_append,List.length_cons,List.length_nil]
 exact Za3a (by omega) (by omega)
def Zaqa (w n:Nat):List Bool:=(List.range n).map fun i=>decide (w / 2^i % 2=1)
theorem Zare (w n:Nat):(Zaqa w n).length=n:=by simp [Zaqa]
theorem Zb6g (w n:Nat):Zaqa w (n+1)=Zaqa w n++[decide (w / 2^n % 2=1)]:=by
 unfold Zaqa;rw [List.range_succ,List.map_append];rfl
theorem bit_at {q:Nat} (h:q<18446744073709551616):(iQ (bandI .u64 (q:Int) (1:Int)) (1:Int))=decide (q % 2=1):=by
 rw [band_bit (by omega) (by omega)]
 show decide _=decide _
 congr 1
 apply propext
 omega
theorem bools_is (w n:Nat) (hn:n≤64) (hw:w<18446744073709551616):Zaxv ((w:Int),((n:Int),()))=some (Zaqa w n,()):=by
 have hb:Zjt ((n:Int),())=some ((n:Int),()):=by
  show Zmd (n:Int)=_
  unfold Zmd
  have h1:selI (decide ((64:Int)<(n:Int))) (64:Int) (n:Int)=(n:Int):=by unfold selI;rw [decide_eq_false (by omega)]
  have h2:selI (decide ((n:Int)<(0:Int))) (0:Int) (n:Int)=(n:Int):=by unfold selI;rw [decide_eq_false (by omega)]
  show some (selI (decide (selI (decide ((64:Int)<(n:Int))) (64:Int) (n:Int)<0)) 0 (selI (decide ((64:Int)<(n:Int))) (64:Int) (n:Int)),())=_
  rw [h1,h2]
 have eL:Zb0g ((w:Int),((n:Int),((0:Int),([],()))))=some (Zaqa w n,()):=by
  unfold Zb0g;delta u4
  refine Zif (fun k:Nat=>((w:Int),((n:Int),((k:Int),(Zaqa w k,()))))) n rfl ?_ ?_ (Ze8 (by omega))
  ·intro k hk
   try dsimp only
   unfold Zaxw
   have hd:Int.fdiv (w:Int) (HPow.hPow (2:Int) (Min.min (Int.toNat (k:Int)) 64))=((w / 2^k:Nat):Int):=by
    rw [Int.toNat_natCast,Nat.min_eq_left (by omega),Int.fdiv_eq_ediv_of_nonneg _ (Int.pow_nonneg (by decide))]
    simp
   have hlt:w / 2^k≤w:=Nat.div_le_self _ _
   have hb:(iQ (bandI .u64 (Int.fdiv (w:Int) (HPow.hPow (2:Int) (Min.min (Int.toNat (k:Int)) 64))) (1:Int)) (1:Int))=decide (w / 2^k % 2=1):=by
    rw [hd];exact bit_at (by omega)
   have e:∀(a b:List Bool) (p q:Int),a=b→p=q→(some (.inl ((w:Int),((n:Int),(p,(a,()))))):Option (TL Zau8.σs⊕Out Zasr))=some (.inl ((w:Int),((n:Int),(q,(b,()))))):=by rintro _ _ _ _ rfl rfl;rfl
   refine br_tt (dec_t (show (k:Int)<(n:Int) by omega)) (Zaj (dec_t (by omega)) (Zaj (room1 _ _ (by rw [Zare];omega)) (e _ _ _ _ ?_ (i64n (by omega) (by omega)))))
   rw [Zb6g]
   exact congrArg (fun b:Bool=>Zaqa w k++[b]) hb
  ·try dsimp only
   unfold Zaxw
   exact br_ff (dec_f (by omega)) rfl
 show Zb2w Zjt Zb0g (w:Int) (n:Int)=_
 unfold Zb2w
 exact Zba hb (Zba eL rfl)
abbrev CellT:=Int×Int×Unit
def Sor (L:List CellT):Prop:=L.Pairwise (fun p q=>p.1<q.1)
def rd (M:List CellT) (k:Int):Int:=match M with
 | []=>0
 | p :: M=>match decide (p.1=k) with
  | true=>p.2.1
  | false=>rd M k
def cput (k v:Int) (M:List CellT):List CellT:=match M with
 | []=>[(k,v,())]
 | p :: M=>match decide (k<p.1) with
  | true=>(k,v,()) :: p :: M
  | false=>match decide (p.1=k) with
   | true=>(k,v,()) :: M
   | false=>p :: cput k v M
def cdel (k:Int) (M:List CellT):List CellT:=match M with
 | []=>[]
 | p :: M=>match decide (p.1=k) with
  | true=>M
  | false=>p :: cdel k M
theorem mget_c:∀(M:List CellT) (k:Int),@mget (.int .u64) M k=rd M k
 | [],k=>rfl
 | p :: M,k=>congrArg (fun z:Int=>match decide (p.1=k) with | true=>p.2.1 | false=>z) (mget_c M k)
theorem Zban (k v:Int):∀(M:List CellT),@mput (.int .u64) k v M=cput k v M
 | []=>rfl
 | p :: M=>congrArg (fun z:List CellT=>match decide (k<p.1) with
  | true=>(k,v,()) :: p :: M
  | false=>match decide (p.1=k) with
   | true=>(k,v,()) :: M
   | false=>p :: z) (Zban k v M)
theorem Zbao (k:Int):∀(M:List CellT),@mdel (.int .u64) k M=cdel k M
 | []=>rfl
 | p :: M=>congrArg (fun z:List CellT=>match decide (p.1=k) with
  | true=>M
  | false=>p :: z) (Zbao k M)
def wr (L:List CellT) (a w:Int):List CellT:=if w=0 then cdel a L else cput a w L
theorem wr_sor {L:List CellT} {a w:Int} (h:Sor L):Sor (wr L a w):=by
 unfold wr
 split
 ·exact Zbao a L▸Za3j (σ:=.int .u64) (k:=a) h
 ·exact Zban a w L▸Zwx (σ:=.int .u64) (k:=a) (v:=w) h
theorem Zbag (p:CellT) (M:List CellT) (a:Int):rd (p :: M) a=if p.1=a then p.2.1 else rd M a:=by
 rw [rd]
 by_cases q:p.1=a
 ·rw [decide_eq_true q,if_pos q]
 ·rw [decide_eq_false q,if_neg q]
theorem Zb2s (p:CellT) (M:List CellT) (a:Int):cdel a (p :: M)=if p.1=a then M else p :: cdel a M:=by
 rw [cdel]
 by_cases q:p.1=a
 ·rw [decide_eq_true q,if_pos q]
 ·rw [decide_eq_false q,if_neg q]
theorem Zazc (p:CellT) (M:List CellT) (a w:Int):cput a w (p :: M)=if a<p.1 then (a,w,()) :: p :: M else if p.1=a then (a,w,()) :: M else p :: cput a w M:=by
 rw [cput]
 by_cases q:a<p.1
 ·rw [decide_eq_true q,if_pos q]
 ·rw [decide_eq_false q,if_neg q]
  by_cases r:p.1=a
  ·rw [decide_eq_true r,if_pos r]
  ·rw [decide_eq_false r,if_neg r]
theorem Zb7i (a:Int):∀L:List CellT,(cdel a L).length≤L.length
 | []=>Nat.le_refl _
 | p :: M=>by
  rw [Zb2s]
  have:=Zb7i a M
  split<;>simp only [List.length_cons]<;>omega
theorem Zb7h (a w:Int):∀L:List CellT,(cput a w L).length≤L.length+1
 | []=>Nat.le_refl _
 | p :: M=>by
  rw [Zazc]
  have:=Zb7h a w M
  split
  ·simp only [List.length_cons];omega
  ·split<;>simp only [List.length_cons]<;>omega
theorem wr_len (L:List CellT) (a w:Int):(wr L a w).length≤L.length+1:=by
 unfold wr
 have:=Zb7i a L
 have:=Zb7h a w L
 split<;>omega
end Go.Proofs.YtnocaehijdmkkaaGreat.V
end
section
namespace Go.Proofs.YtnocaehijdmkkaaGreat.V
open Go Go.RowKit
set_option maxRecDepth 1000000
abbrev Zapy:Lay:={ T:=[(0,.fzb (.int .i64))],h:=[],nx:=0 }
abbrev Zain:List (Ev.Ex×Lay):=[(.ret,{ T:=[(0,.hd 0 (.int .i64))],h:=[(0,.arr (.int .i64) 3)],nx:=1 })]
abbrev Zarl:=Kb 79 1 Zapy 1 Zain
def Zayh (t0z:Bool) (t0:List Int):Option (Out Zain):=
 br t0z
 (
  some ([],()))
 (
  chk (room 8 (List.length (ap [] t0)))<|
  some ((ap [] t0),()))
def Zayg  :Zarl:=⟨u2 Zayh,pB Tryz.func79 8 k0 e0 1 (sS l0) fun d=>by kernel_rfl⟩
def Zark:Zarl:=Zayg  
abbrev Zarn:List Sh:=[.sl (.int .i64)]
abbrev Zarm:List Sh:=[.sl (.int .i64)]
abbrev Zagz:=TL Zarn→Option (TL Zarm)
abbrev Zah1:=Kd 79 Zarn Zarm
def Zah0:Zah1:=⟨_,Zb0c Zark.ok rfl (fun L=>rfl) (fun L=>⟨_,_,rfl,rfl,rfl⟩)⟩
def Zac5:Zagz:=Zah0.F
abbrev Zagy:Lay:={ T:=[(0,.fzb Za0)],h:=[],nx:=0 }
abbrev Zacm:List (Ev.Ex×Lay):=[(.ret,{ T:=[(0,.hd 0 Za0)],h:=[(0,.arr Za0 80)],nx:=1 })]
abbrev Zai4:=Kb 80 1 Zagy 1 Zacm
def Zar8 (t0z:Bool) (t0:List (Sh.T Za0)):Option (Out Zacm):=
 br t0z
 (
  some ([],()))
 (
  chk (room 24 (List.length (ap [] t0)))<|
  some ((ap [] t0),()))
def Zar7  :Zai4:=⟨u2 Zar8,pB Tryz.func80 8 k0 e0 1 (sS l0) fun d=>by kernel_rfl⟩
def Zai3:Zai4:=Zar7  
abbrev Zai6:List Sh:=[.sl Za0]
abbrev Zai5:List Sh:=[.sl Za0]
abbrev Zaiz:=TL Zai6→Option (TL Zai5)
abbrev Zaj1:=Kd 80 Zai6 Zai5
def Zaj0:Zaj1:=⟨_,Zb0c Zai3.ok rfl (fun L=>rfl) (fun L=>⟨_,_,rfl,rfl,rfl⟩)⟩
def Zar9:Zaiz:=Zaj0.F
abbrev Zajw:Lay:={ T:=[(0,.fzb Za0)],h:=[],nx:=0 }
abbrev Zadl:List (Ev.Ex×Lay):=[(.ret,{ T:=[(0,.hd 0 Za0)],h:=[(0,.arr Za0 124)],nx:=1 })]
abbrev Zal1:=Kb 81 1 Zajw 1 Zadl
def Zatr (t0z:Bool) (t0:List (Sh.T Za0)):Option (Out Zadl):=
 br t0z
 (
  some ([],()))
 (
  chk (room 24 (List.length (ap [] t0)))<|
  some ((ap [] t0),()))
def Zatq  :Zal1:=⟨u2 Zatr,pB Tryz.func81 8 k0 e0 1 (sS l0) fun d=>by kernel_rfl⟩
def Zal0:Zal1:=Zatq  
abbrev Zal3:List Sh:=[.sl Za0]
abbrev Zal2:List Sh:=[.sl Za0]
abbrev Zal9:=TL Zal3→Option (TL Zal2)
abbrev Zalb:=Kd 81 Zal3 Zal2
def Zala:Zalb:=⟨_,Zb0c Zal0.ok rfl (fun L=>rfl) (fun L=>⟨_,_,rfl,rfl,rfl⟩)⟩
def Zats:Zal9:=Zala.F
abbrev Zafo:Lay:={ T:=[(0,.fzb Za1)],h:=[],nx:=0 }
abbrev Zaaq:List (Ev.Ex×Lay):=[(.ret,{ T:=[(0,.hd 0 Za1)],h:=[(0,.arr Za1 95)],nx:=1 })]
abbrev Zagx:=Kb 82 1 Zafo 1 Zaaq
def Zaq5 (t0z:Bool) (t0:List (Sh.T Za1)):Option (Out Zaaq):=
 br t0z
 (
  some ([],()))
 (
  chk (room 72 (List.length (ap [] t0)))<|
  some ((ap [] t0),()))
def Zaq4  :Zagx:=⟨u2 Zaq5,pB Tryz.func82 8 k0 e0 1 (sS l0) fun d=>by kernel_rfl⟩
def Zagw:Zagx:=Zaq4  
abbrev Zaga:Lay:={ T:=[(0,.fz Za1)],h:=[],nx:=0 }
abbrev Zafp:List (Ev.Ex×Lay):=Zaaq
abbrev Zahq:=TL Zaga.σs→Option (Out Zafp)
abbrev Zahs:=Kb 82 1 Zaga 1 Zafp
def Zahr:Zahs:=mkZ Zagw rfl
def Zaq6:Zahq:=Zahr.F
abbrev Zai1:Lay:={ T:=[(0,.fzb Zb3)],h:=[],nx:=0 }
abbrev Zabc:List (Ev.Ex×Lay):=[(.ret,{ T:=[(0,.hd 0 Zb3)],h:=[(0,.arr Zb3 151)],nx:=1 })]
abbrev Zajr:=Kb 83 1 Zai1 1 Zabc
def Zas6 (t0z:Bool) (t0:List (Sh.T Zb3)):Option (Out Zabc):=
 br t0z
 (
  some ([],()))
 (
  chk (room 32 (List.length (ap [] t0)))<|
  some ((ap [] t0),()))
def Zas5  :Zajr:=⟨u2 Zas6,pB Tryz.func83 8 k0 e0 1 (sS l0) fun d=>by kernel_rfl⟩
def Zajq:Zajr:=Zas5  
abbrev Zaiy:Lay:={ T:=[(0,.fz Zb3)],h:=[],nx:=0 }
abbrev Zai2:List (Ev.Ex×Lay):=Zabc
abbrev Zae6:=TL Zaiy.σs→Option (Out Zai2)
abbrev Zae8:=Kb 83 1 Zaiy 1 Zai2
def Zae7:Zae8:=mkZ Zajq rfl
def Zadz:Zae6:=Zae7.F
abbrev Zagu:Lay:={ T:=[(0,.fzb Zb8)],h:=[],nx:=0 }
abbrev Zaax:List (Ev.Ex×Lay):=[(.ret,{ T:=[(0,.hd 0 Zb8)],h:=[(0,.arr Zb8 114)],nx:=1 })]
abbrev Zai0:=Kb 84 1 Zagu 1 Zaax
def Zar5 (t0z:Bool) (t0:List (Sh.T Zb8)):Option (Out Zaax):=
 br t0z
 (
  some ([],()))
 (
  chk (room 56 (List.length (ap [] t0)))<|
  some ((ap [] t0),()))
def Zar4  :Zai0:=⟨u2 Zar5,pB Tryz.func84 8 k0 e0 1 (sS l0) fun d=>by kernel_rfl⟩
def Zahz:Zai0:=Zar4  
abbrev Zahp:Lay:={ T:=[(0,.fz Zb8)],h:=[],nx:=0 }
abbrev Zagv:List (Ev.Ex×Lay):=Zaax
abbrev Zadi:=TL Zahp.σs→Option (Out Zagv)
abbrev Zadk:=Kb 84 1 Zahp 1 Zagv
def Zadj:Zadk:=mkZ Zahz rfl
def Zadb:Zadi:=Zadj.F
abbrev yTb0:List (Nat×LO):=[(0,.cells [.int .i64,.fz (.int .i64),.fz Za0,.fz (.int .i64),.fz (.int .i64),.fz (.int .i64),.hd 1 Za1,.fz Za0] 27),(1,.opn Za1 [.int .i64,.int .i64,.bool,.hd 2 Zb3,.hd 3 Zb8] 95),(2,.arr Zb3 151),(3,.arr Zb8 114),(4,.cells [.int .i64,.nils,.nils,.nils,.nils,.nils,.nils,.nils] 27)]
abbrev yTb1:List (Nat×LO):=[(0,.cells [.int .i64,.fz (.int .i64),.fz Za0,.fz (.int .i64),.fz (.int .i64),.fz (.int .i64),.hd 1 Za1,.fz Za0] 27),(1,.arr Za1 95),(2,.cells [.int .i64,.nils,.nils,.nils,.nils,.nils,.nils,.nils] 27)]
abbrev yTb2:List (Nat×LO):=[(0,.cells [.int .i64,.int .i64,.mp 1] 157),(1,.map .u64 (.int .u64))]
abbrev Zawi:Lay:={ T:=[(1,.ptr 0 0),(2,.ptr 2 0),(41,.int .i64),(42,.int .i64)],h:=yTb1,nx:=3 }
abbrev Zau2:List (Ev.Ex×Lay):=[((.exit 2),{ T:=[(1,.ptr 0 0),(2,.ptr 2 0)],h:=yTb1,nx:=3 })]
abbrev Zb5g:=TL Zawi.σs→Option (Out Zau2)
abbrev Zb2r:=Ld 0 123 (Zb5 [1] (Zaa Tryz.f51)) Zawi Zau2
abbrev Zau3:Lay:={ T:=[(1,.ptr 0 0),(2,.ptr 4 0),(6,.eptr 1 5 0),(41,.int .i64),(42,.int .i64),(94,.int .i64),(95,.int .i64)],h:=yTb0,nx:=5 }
abbrev Zaso:List (Ev.Ex×Lay):=[((.exit 6),{ T:=[(1,.ptr 0 0),(2,.ptr 4 0),(41,.int .i64),(42,.int .i64)],h:=yTb0,nx:=5 })]
abbrev Zb08:=TL Zau3.σs→Option (Out Zaso)
abbrev Zaxr:=Ld 0 123 (Zb5 [1,1] (Zaa Tryz.f51)) Zau3 Zaso
abbrev Zau4:Lay:={ T:=[(1,.ptr 0 0),(2,.ptr 4 0),(6,.eptr 1 5 0),(41,.int .i64),(42,.int .i64),(69,.int .i64),(70,.int .i64)],h:=yTb0,nx:=5 }
abbrev Zasp:List (Ev.Ex×Lay):=[((.exit 4),{ T:=[(1,.ptr 0 0),(2,.ptr 4 0),(6,.eptr 1 5 0),(41,.int .i64),(42,.int .i64)],h:=yTb0,nx:=5 })]
abbrev Zb09:=TL Zau4.σs→Option (Out Zasp)
abbrev Zaxs:=Ld 0 123 (Zb5 [1,0] (Zaa Tryz.f51)) Zau4 Zasp
def Zaxu (F2:Zagz) (t6 t41 t42 t69 t70 b0_0:Int) (b0_1:List Int) (b0_2:List (Sh.T Za0)) (b0_3 b0_4 b0_5:List Int) (b0_7:List (Sh.T Za0)) (b1i:Int) (b1:List (Sh.T Za1)) (b1_0 b1_1:Int) (b1_2:Bool) (b2:List (Sh.T Zb3)) (b3:List (Sh.T Zb8)) (b4_0:Int):Option (TL Zau4.σs⊕Out Zasp):=
 br (iL t70 t69)
 (
  chk (Nat.beq (Int.toNat t6) (Int.toNat b1i))<|
  chk (Nat.beq (Int.toNat t6) (Int.toNat b1i))<|
  chk (inb t70 (List.length b2))<|
  bnd (F2 ((gt Zb3 b2 t70).2.1,())) fun x0=>
  chk (inb t70 (List.length b2))<|
  some (.inl ((Int.ofNat (Int.toNat t6)),(t41,(t42,(t69,((IntKind.wrap .i64 (t70+(1:Int))),(b0_0,(b0_1,(b0_2,(b0_3,(b0_4,(b0_5,(b0_7,((Int.ofNat (Int.toNat b1i)),(b1,(b1_0,(b1_1,(b1_2,((List.set b2 (Int.toNat t70) ((gt Zb3 b2 t70).1,(x0.1,()))),(b3,(b4_0,()))))))))))))))))))))))
 (
  some (.inr ((Int.ofNat (Int.toNat t6)),(t41,(t42,(b0_0,(b0_1,(b0_2,(b0_3,(b0_4,(b0_5,(b0_7,((Int.ofNat (Int.toNat b1i)),(b1,(b1_0,(b1_1,(b1_2,(b2,(b3,(b4_0,()))))))))))))))))))))
def Zb7f (c2:Zah1) :Zaxs:=mkL (u20 (Zaxu c2.F)) (pL (kD c2 k0) e0 1 l0 fun d=>by kernel_rfl)
def Zb4m:Zaxs:=Zb7f Zah0 
def Zb0b:Zb09:=lpD (u20 (Zaxu Zac5)) NN
def Zaxt (F2:Zagz) (t6 t41 t42 t94 t95 b0_0:Int) (b0_1:List Int) (b0_2:List (Sh.T Za0)) (b0_3 b0_4 b0_5:List Int) (b0_7:List (Sh.T Za0)) (b1i:Int) (b1:List (Sh.T Za1)) (b1_0 b1_1:Int) (b1_2:Bool) (b2:List (Sh.T Zb3)) (b3:List (Sh.T Zb8)) (b4_0:Int):Option (TL Zau3.σs⊕Out Zaso):=
 br (iL t95 t94)
 (
  chk (Nat.beq (Int.toNat t6) (Int.toNat b1i))<|
  chk (inb t95 (List.length b3))<|
  bnd (F2 ((gt Zb8 b3 t95).2.1,())) fun x0=>
  bnd (F2 ((gt Zb8 b3 t95).2.2.1,())) fun x1=>
  chk (nQ (Int.toNat t95) (Int.toNat t95))<|
  some (.inl ((Int.ofNat (Int.toNat t6)),(t41,(t42,(t94,((IntKind.wrap .i64 (t95+(1:Int))),(b0_0,(b0_1,(b0_2,(b0_3,(b0_4,(b0_5,(b0_7,((Int.ofNat (Int.toNat b1i)),(b1,(b1_0,(b1_1,(b1_2,(b2,((List.set (List.set b3 (Int.toNat t95) ((gt Zb8 b3 t95).1,(x0.1,((gt Zb8 b3 t95).2.2.1,())))) (Int.toNat t95) ((gt Zb8 (List.set b3 (Int.toNat t95) ((gt Zb8 b3 t95).1,(x0.1,((gt Zb8 b3 t95).2.2.1,())))) t95).1,((gt Zb8 (List.set b3 (Int.toNat t95) ((gt Zb8 b3 t95).1,(x0.1,((gt Zb8 b3 t95).2.2.1,())))) t95).2.1,(x1.1,())))),(b4_0,()))))))))))))))))))))))
 (
  some (.inr (t41,(t42,(b0_0,(b0_1,(b0_2,(b0_3,(b0_4,(b0_5,(b0_7,((Int.ofNat (Int.toNat b1i)),(b1,(b1_0,(b1_1,(b1_2,(b2,(b3,(b4_0,())))))))))))))))))))
def Zb7e (c2:Zah1) :Zaxr:=mkL (u20 (Zaxt c2.F)) (pL (kD c2 k0) e0 1 l0 fun d=>by kernel_rfl)
def Zb4l:Zaxr:=Zb7e Zah0 
def Zb0a:Zb08:=lpD (u20 (Zaxt Zac5)) NN
def Zayj (F3:Zadi) (F4:Zae6) (L13:Zb09) (L18:Zb08) (t41 t42 b0_0:Int) (b0_1:List Int) (b0_2:List (Sh.T Za0)) (b0_3 b0_4 b0_5:List Int) (b0_7:List (Sh.T Za0)) (b1:List (Sh.T Za1)) (b2_0:Int):Option (TL Zawi.σs⊕Out Zau2):=
 br (iL t42 t41)
 (
  chk (inb t42 (List.length b1))<|
  bnd (F4 ((gt Za1 b1 t42).2.2.2.1,())) fun x0=>
  chk (nQ (Int.toNat t42) (Int.toNat t42))<|
  chk (nQ (Int.toNat t42) (Int.toNat t42))<|
  chk (nQ (Int.toNat t42) (Int.toNat t42))<|
  chk (nQ (Int.toNat t42) (Int.toNat t42))<|
  chk (nQ (Int.toNat t42) (Int.toNat t42))<|
  chk (Zqo (Sh.beq Zb8) (gt Za1 b1 t42).2.2.2.2.1 (gt Za1 b1 t42).2.2.2.2.1)<|
  bnd (F3 ((gt Za1 b1 t42).2.2.2.2.1,())) fun x1=>
  chk (nQ (Int.toNat t42) (Int.toNat t42))<|
  chk (nQ (Int.toNat t42) (Int.toNat t42))<|
  chk (nQ (Int.toNat t42) (Int.toNat t42))<|
  chk (Nat.beq (Int.toNat t42) (Int.toNat t42))<|
  chk (Nat.beq (Int.toNat t42) (Int.toNat t42))<|
  bnd (L13 ((Int.ofNat (Int.toNat t42)),(t41,(t42,((Int.ofNat (List.length x0.1)),((0:Int),(b0_0,(b0_1,(b0_2,(b0_3,(b0_4,(b0_5,(b0_7,((Int.ofNat (Int.toNat t42)),(b1,((gt Za1 b1 t42).1,((gt Za1 b1 t42).2.1,((gt Za1 b1 t42).2.2.1,(x0.1,(x1.1,(b2_0,()))))))))))))))))))))) fun x2=>
  chk (Nat.beq (Int.toNat x2.1) (Int.toNat x2.2.2.2.2.2.2.2.2.2.2.1))<|
  bnd (L18 ((Int.ofNat (Int.toNat x2.1)),(x2.2.1,(x2.2.2.1,((Int.ofNat (List.length x2.2.2.2.2.2.2.2.2.2.2.2.2.2.2.2.2.1)),((0:Int),(x2.2.2.2.1,(x2.2.2.2.2.1,(x2.2.2.2.2.2.1,(x2.2.2.2.2.2.2.1,(x2.2.2.2.2.2.2.2.1,(x2.2.2.2.2.2.2.2.2.1,(x2.2.2.2.2.2.2.2.2.2.1,((Int.ofNat (Int.toNat x2.2.2.2.2.2.2.2.2.2.2.1)),(x2.2.2.2.2.2.2.2.2.2.2.2.1,(x2.2.2.2.2.2.2.2.2.2.2.2.2.1,(x2.2.2.2.2.2.2.2.2.2.2.2.2.2.1,(x2.2.2.2.2.2.2.2.2.2.2.2.2.2.2.1,(x2.2.2.2.2.2.2.2.2.2.2.2.2.2.2.2.1,(x2.2.2.2.2.2.2.2.2.2.2.2.2.2.2.2.2.1,(x2.2.2.2.2.2.2.2.2.2.2.2.2.2.2.2.2.2.1,()))))))))))))))))))))) fun x3=>
  some (.inl (x3.1,((IntKind.wrap .i64 (@HAdd.hAdd (Int) (Int) (Int) _ x3.2.1 (1:Int))),(x3.2.2.1,(x3.2.2.2.1,(x3.2.2.2.2.1,(x3.2.2.2.2.2.1,(x3.2.2.2.2.2.2.1,(x3.2.2.2.2.2.2.2.1,(x3.2.2.2.2.2.2.2.2.1,((List.set x3.2.2.2.2.2.2.2.2.2.2.1 (Int.toNat x3.2.2.2.2.2.2.2.2.2.1) (x3.2.2.2.2.2.2.2.2.2.2.2.1,(x3.2.2.2.2.2.2.2.2.2.2.2.2.1,(x3.2.2.2.2.2.2.2.2.2.2.2.2.2.1,(x3.2.2.2.2.2.2.2.2.2.2.2.2.2.2.1,(x3.2.2.2.2.2.2.2.2.2.2.2.2.2.2.2.1,())))))),(x3.2.2.2.2.2.2.2.2.2.2.2.2.2.2.2.2.1,())))))))))))))
 (
  some (.inr (b0_0,(b0_1,(b0_2,(b0_3,(b0_4,(b0_5,(b0_7,(b1,(b2_0,())))))))))))
def Zb84 (c3:Zadk) (c4:Zae8) (M13:Zaxs) (M18:Zaxr):Zb2r:=mkL (u11 (Zayj c3.F c4.F M13.L M18.L)) (pL (kB c3 (kB c4 k0)) e0 1 (sC M13 (sC M18 l0)) fun d=>by kernel_rfl)
def Zb83:Zb2r:=Zb84 Zadj Zae7 Zb4m Zb4l
def Zb5h:Zb5g:=lpD (u11 (Zayj Zadb Zadz Zb0b Zb0a)) NN
abbrev Zb5f:List Sh:=[Za5]
abbrev Zb2q:List Sh:=[Za5]
abbrev Zb69:=TL Zb5f→Option (TL Zb2q)
abbrev Zb46:=Kd 51 Zb5f Zb2q
def Zb8t (F0:Zal9) (F1:Zaiz) (F2:Zagz) (F3:Zadi) (F4:Zae6) (F5:Zahq) (L8:Zb5g) (L13:Zb09) (L18:Zb08) (a0:Sh.T Za5):Option (TL Zb2q):=
 bnd (F2 (a0.2.1,())) fun x0=>
 bnd (F2 (a0.2.2.2.1,())) fun x1=>
 bnd (F2 (a0.2.2.2.2.1,())) fun x2=>
 bnd (F2 (a0.2.2.2.2.2.1,())) fun x3=>
 bnd (F1 (a0.2.2.1,())) fun x4=>
 bnd (F0 (a0.2.2.2.2.2.2.2.1,())) fun x5=>
 bnd (F5 (a0.2.2.2.2.2.2.1,())) fun x6=>
 bnd (L8 ((Int.ofNat (List.length x6.1)),((0:Int),(a0.1,(x0.1,(x4.1,(x1.1,(x2.1,(x3.1,(x5.1,(x6.1,((0:Int),())))))))))))) fun x7=>
 some ((x7.1,(x7.2.1,(x7.2.2.1,(x7.2.2.2.1,(x7.2.2.2.2.1,(x7.2.2.2.2.2.1,(x7.2.2.2.2.2.2.2.1,(x7.2.2.2.2.2.2.1,())))))))),())
def Zb8s (c0:Zalb) (c1:Zaj1) (c2:Zah1) (c3:Zadk) (c4:Zae8) (c5:Zahs) (M8:Zb2r) (M13:Zaxs) (M18:Zaxr):Zb46:=⟨u1 (Zb8t c0.F c1.F c2.F c3.F c4.F c5.F M8.L M13.L M18.L),pD Tryz.func51 123 (kD c0 (kD c1 (kD c2 (kB c3 (kB c4 (kB c5 k0)))))) e0 1 (lS (lU (Zb5 [0] (Zaa Tryz.f51)) 5 (kD c0 (kD c1 (kD c2 (kB c3 (kB c4 (kB c5 k0)))))) e0 1 l0 (by kernel_rfl) (sC M8 l0) (by kernel_rfl)) (by kernel_rfl)) fun d=>by kernel_rfl⟩
def Zb6a:Zb46:=Zb8s Zala Zaj0 Zah0 Zadj Zae7 Zahr Zb83 Zb4m Zb4l
def Zb85:Zb69:=Zb6a.F
abbrev Zamz:Lay:={ T:=[(0,.fzb .bool)],h:=[],nx:=0 }
abbrev Zada:List (Ev.Ex×Lay):=[(.ret,{ T:=[(0,.hd 0 .bool)],h:=[(0,.arr .bool 4)],nx:=1 })]
abbrev Zaq0:=Kb 52 1 Zamz 1 Zada
def Zaxq (t0z:Bool) (t0:List Bool):Option (Out Zada):=
 br t0z
 (
  some ([],()))
 (
  chk (room 1 (List.length (ap [] t0)))<|
  some ((ap [] t0),()))
def Zaxp  :Zaq0:=⟨u2 Zaxq,pB Tryz.func52 8 k0 e0 1 (sS l0) fun d=>by kernel_rfl⟩
def Zapz:Zaq0:=Zaxp  
abbrev Zaoc:Lay:={ T:=[(0,.fz .bool)],h:=[],nx:=0 }
abbrev Zan1:List (Ev.Ex×Lay):=Zada
abbrev Zaey:=TL Zaoc.σs→Option (Out Zan1)
abbrev Zaez:=Kb 52 1 Zaoc 1 Zan1
def Zacy:Zaez:=mkZ Zapz rfl
def Zaj8:Zaey:=Zacy.F
abbrev Zan0:Lay:={ T:=[(0,.hd 0 .bool)],h:=[(0,.arr .bool 4)],nx:=1 }
abbrev Zam9:List (Ev.Ex×Lay):=[(.ret,{ T:=[(0,.hd 1 .bool)],h:=[(0,.arr .bool 4),(1,.arr .bool 4)],nx:=2 })]
abbrev Zaj5:=TL Zan0.σs→Option (Out Zam9)
abbrev Zaj7:=Kb 52 1 Zan0 1 Zam9
def Zaj6:Zaj7:=⟨_,Zb8w (by kernel_rfl) Zacy.ok⟩
def Zb5l:Zaj5:=Zaj6.F
abbrev Zke:Lay:={ T:=[(0,.ptr 0 0),(1,.int .u64)],h:=yTb2,nx:=2 }
abbrev Zhx:List (Ev.Ex×Lay):=[(.ret,{ T:=[(0,.int .u64)],h:=yTb2,nx:=2 })]
abbrev Zawf:=TL Zke.σs→Option (Out Zhx)
abbrev Zarj:=Kb 91 2 Zke 1 Zhx
def Zq2 (t1 b0_0 b0_1:Int) (b1:List (Sh.T Za3)):Option (Out Zhx):=
 some ((@mget (.int .u64) b1 t1),(b0_0,(b0_1,(b1,()))))
def Zb59  :Zarj:=⟨u4 Zq2,pB Tryz.func91 13 k0 e0 1 (sS l0) fun d=>by kernel_rfl⟩
def Zawg:Zarj:=Zb59  
def Ztu:Zawf:=Zawg.F
abbrev Zaxm:Lay:={ T:=[(0,.ptr 0 0)],h:=yTb2,nx:=2 }
abbrev Zax1:List (Ev.Ex×Lay):=[(.ret,{ T:=[(0,.fz Za3)],h:=yTb2,nx:=2 })]
abbrev Zb9j:=TL Zaxm.σs→Option (Out Zax1)
abbrev Zb9k:=Kb 55 1 Zaxm 1 Zax1
end Go.Proofs.YtnocaehijdmkkaaGreat.V
end
