import Derived.Test.YtnocaehijdmkkaaKSa
import Derived.Test.YtnocaehijdmkkaaKSb
import Derived.Test.YtnocaehijdmkkaaKMf
set_option linter.unusedVariables false
set_option linter.unusedSimpArgs false
set_option linter.unnecessarySimpa false
section
namespace Go.Proofs.Ytnocaehijdmkkaa.V
open Go Go.RowKit
set_option maxRecDepth 1000000
abbrev Zau8:Lay:={ T:=[(0,.int .u64),(4,.hd 0 .bool),(7,.int .i64),(8,.int .i64)],h:=[(0,.arr .bool 4)],nx:=1 }
abbrev Zasr:List (Ev.Ex×Lay):=[((.exit 0),{ T:=[(4,.hd 0 .bool)],h:=[(0,.arr .bool 4)],nx:=1 })]
abbrev Zb4s:=TL Zau8.σs→Option (Out Zasr)
abbrev Zb4t:=Ld 0 21 (Zb5 [0] (Zaa Try.f44)) Zau8 Zasr
def Zaxw (t0 t7 t8:Int) (b0:List Bool):Option (TL Zau8.σs⊕Out Zasr):=
 br (iL t8 t7)
 (
  chk (iE (0:Int) t8)<|
  chk (room 1 (List.length (ap b0 ((iQ (bandI .u64 (Int.fdiv t0 (HPow.hPow (2:Int) (Min.min (Int.toNat t8) 64))) (1:Int)) (1:Int)) :: []))))<|
  some (.inl (t0,(t7,((IntKind.wrap .i64 (t8+(1:Int))),((ap b0 ((iQ (bandI .u64 (Int.fdiv t0 (HPow.hPow (2:Int) (Min.min (Int.toNat t8) 64))) (1:Int)) (1:Int)) :: [])),()))))))
 (
  some (.inr (b0,())))
def Zb7p  :Zb4t:=mkL (u4 Zaxw) (pL k0 e0 1 l0 fun d=>by kernel_rfl)
def Zb0g:Zb4s:=lpD (u4 Zaxw) NN
abbrev Zb4r:List Sh:=[(.int .u64),(.int .i64)]
abbrev Zb0f:List Sh:=[(.sl .bool)]
abbrev Zb2u:=TL Zb4r→Option (TL Zb0f)
abbrev Zayo:=Kd 44 Zb4r Zb0f
def Zb2w (F0:Zarf) (L2:Zb4s) (a0 a1:Int):Option (TL Zb0f):=
 bnd (F0 (a1,())) fun x0=>
 bnd (L2 (a0,(x0.1,((0:Int),([],()))))) fun x1=>
 some (x1.1,())
def Zb8f (c0:Zalf) (M2:Zb4t):Zayo:=⟨u2 (Zb2w c0.F M2.L),pD Try.func44 21 (kD c0 k0) e0 1 (sS (sC M2 l0)) fun d=>by kernel_rfl⟩
def Zb2v:Zayo:=Zb8f Zarg Zb7p
def Zaxv:Zb2u:=Zb2v.F
abbrev Zahe:Lay:={ T:=[(0,.int .u64),(1,.int .i64),(5,.hd 0 .bool),(6,.int .i64)],h:=[(0,.arr .bool 4)],nx:=1 }
abbrev Zafx:List (Ev.Ex×Lay):=[((.exit 0),{ T:=[(5,.hd 0 .bool)],h:=[(0,.arr .bool 4)],nx:=1 })]
abbrev Zaul:=TL Zahe.σs→Option (Out Zafx)
abbrev Zaum:=Ld 0 25 (Zb5 [0] (Zaa Try.f46)) Zahe Zafx
def Zajg (t0 t1 t6:Int) (b0:List Bool):Option (TL Zahe.σs⊕Out Zafx):=
 br (iL t6 t1)
 (
  br (selB true (iL t6 (64:Int)) false)
  (
   chk (room 1 (List.length (ap b0 ((iQ (Int.tmod t0 (2:Int)) (1:Int)) :: []))))<|
   some (.inl ((IntKind.wrap .u64 (Int.tdiv t0 (2:Int))),(t1,((IntKind.wrap .i64 (t6+(1:Int))),((ap b0 ((iQ (Int.tmod t0 (2:Int)) (1:Int)) :: [])),()))))))
  (
   some (.inr (b0,()))))
 (
  some (.inr (b0,())))
def Zb0p  :Zaum:=mkL (u4 Zajg) (pL k0 e0 1 l0 fun d=>by kernel_rfl)
def Zanp:Zaul:=lpD (u4 Zajg) NN
abbrev Zauk:List Sh:=[(.int .u64),(.int .i64)]
abbrev Zano:List Sh:=[(.sl .bool)]
abbrev Zapa:=TL Zauk→Option (TL Zano)
abbrev Zakl:=Kd 46 Zauk Zano
def Zapc (L3:Zaul) (a0 a1:Int):Option (TL Zano):=
 bnd (L3 (a0,(a1,((0:Int),([],()))))) fun x0=>
 some (x0.1,())
def Zb1u (M3:Zaum):Zakl:=⟨u2 (Zapc M3.L),pD Try.func46 25 k0 e0 1 (sS (sC M3 l0)) fun d=>by kernel_rfl⟩
def Zapb:Zakl:=Zb1u  Zb0p
def Zajf:Zapa:=Zapb.F
abbrev Zaig:Lay:={ T:=[(0,.fz Za3),(1,.int .u64),(5,.int .i64)],h:=[],nx:=0 }
abbrev Zae3:List (Ev.Ex×Lay):=[(.ret,{ T:=[(4,.int .u64)],h:=[],nx:=0 }),((.exit 0),{ T:=[],h:=[],nx:=0 })]
abbrev Zavr:=TL Zaig.σs→Option (Out Zae3)
abbrev Zavt:=Ld 0 24 (Zb5 [0] (Zaa Try.f47)) Zaig Zae3
def Zaki (t0:List (Sh.T Za3)) (t1 t5:Int):Option (TL Zaig.σs⊕Out Zae3):=
 br (iL t5 (Int.ofNat (List.length t0)))
 (
  chk (inb t5 (List.length t0))<|
  br (iQ (gt Za3 t0 t5).1 t1)
  (
   chk (inb t5 (List.length t0))<|
   some (.inr (.inl ((gt Za3 t0 t5).2.1,()))))
  (
   some (.inl (t0,(t1,((IntKind.wrap .i64 (t5+(1:Int))),()))))))
 (
  some (.inr (.inr ())))
def Zb1s  :Zavt:=mkL (u3 Zaki) (pL k0 e0 1 l0 fun d=>by kernel_rfl)
def Zavs:Zavr:=lpD (u3 Zaki) NN
abbrev Zavq:List Sh:=[(.sl Za3),(.int .u64)]
abbrev Zap5:List Sh:=[(.int .u64)]
abbrev Zaqo:=TL Zavq→Option (TL Zap5)
abbrev Zall:=Kd 47 Zavq Zap5
def Zaqq (L2:Zavr) (a0:List (Sh.T Za3)) (a1:Int):Option (TL Zap5):=
 bnd (L2 (a0,(a1,((0:Int),())))) fun x0=>
 (match x0 with
 | .inl x1=>
  some (x1.1,())
 | .inr x1=>
  some ((0:Int),())
 )
def Zb35 (M2:Zavt):Zall:=⟨u2 (Zaqq M2.L),pD Try.func47 24 k0 e0 1 (sS (sC M2 l0)) fun d=>by kernel_rfl⟩
def Zaqp:Zall:=Zb35  Zb1s
def Zakh:Zaqo:=Zaqp.F
end Go.Proofs.Ytnocaehijdmkkaa.V
end
section
namespace Go.Proofs.Ytnocaehijdmkkaa.V
open Go Go.RowKit
theorem band_bit {w:Int} (h:0≤w) (h2:w<18446744073709551616):bandI .u64 w 1=w % 2:=by
 obtain ⟨n,rfl⟩:=Int.eq_ofNat_of_zero_le h
 unfold bandI
 have e:(BitVec.ofInt (IntKind.u64).bits (n:Int) &&& BitVec.ofInt (IntKind.u64).bits 1).toNat=n % 2:=by
  rw [BitVec.toNat_and,BitVec.toNat_ofInt,BitVec.toNat_ofInt]
  have e1:(((n:Int) % ((2^(IntKind.u64).bits:Nat):Int)).toNat)=n:=by
   rw [Int.emod_eq_of_lt (by omega) (by show (n:Int)<((2^64:Nat):Int);omega)];rfl
  rw [e1]
  show n &&& 1=n % 2
  exact Nat.and_one_is_mod n
 rw [e,u64w (by omega)]
 omega
theorem gt_b {v:List Bool} {i:Int} (h:0≤i):gt .bool v i=v.getD i.toNat false:=by
 unfold gt;rfl
def wordF:List Bool→Nat
 | []=>0
 | b :: l=>(if b then 1 else 0)+2*wordF l
theorem Zb74 (l:List Bool):wordF l<2^l.length:=by
 induction l with
 | nil=>decide
 | cons c l ih=>
  rw [wordF,List.length_cons,Nat.pow_succ]
  split<;>omega
theorem room1 (P:List Bool) (z:Bool) (h:P.length≤10000000):room 1 (List.length (P++(z :: [])))=true:=by
 rw [List.length_append,List.length_cons,List.length_nil]
 exact Za3a (by omega) (by omega)
def Zaqa (w n:Nat):List Bool:=(List.range n).map fun i=>decide (w / 2^i % 2=1)
theorem Zare (w n:Nat):(Zaqa w n).length=n:=by simp [Zaqa]
theorem Zb6g (w n:Nat):Zaqa w (n+1)=Zaqa w n++[decide (w / 2^n % 2=1)]:=by
 unfold Zaqa;rw [List.range_succ,List.map_append];rfl
theorem bit_at {q:Nat} (h:q<18446744073709551616):(iQ (bandI .u64 (q:Int) (1:Int)) (1:Int))=decide (q % 2=1):=by
 rw [band_bit (by omega) (by omega)]
 show decide _=decide _
 congr 1
 apply propext
 omega
theorem tmod_at (q:Nat):(iQ (Int.tmod (q:Int) (2:Int)) (1:Int))=decide (q % 2=1):=by
 rw [Int.tmod_eq_emod_of_nonneg (by omega)]
 show decide _=decide _
 congr 1
 apply propext
 omega
theorem tdiv_at {q:Nat} (h:q<18446744073709551616):IntKind.wrap .u64 (Int.tdiv (q:Int) (2:Int))=((q / 2:Nat):Int):=by
 rw [Int.tdiv_eq_ediv_of_nonneg (by omega),u64w (by omega)];omega
theorem bools_is (w n:Nat) (hn:n≤64) (hw:w<18446744073709551616):Zaxv ((w:Int),((n:Int),()))=some (Zaqa w n,()):=by
 have hb:Zjt ((n:Int),())=some ((n:Int),()):=by
  show Zmd (n:Int)=_
  unfold Zmd
  have h1:selI (decide ((64:Int)<(n:Int))) (64:Int) (n:Int)=(n:Int):=by unfold selI;rw [decide_eq_false (by omega)]
  have h2:selI (decide ((n:Int)<(0:Int))) (0:Int) (n:Int)=(n:Int):=by unfold selI;rw [decide_eq_false (by omega)]
  show some (selI (decide (selI (decide ((64:Int)<(n:Int))) (64:Int) (n:Int)<0)) 0 (selI (decide ((64:Int)<(n:Int))) (64:Int) (n:Int)),())=_
  rw [h1,h2]
 have eL:Zb0g ((w:Int),((n:Int),((0:Int),([],()))))=some (Zaqa w n,()):=by
  unfold Zb0g;delta u4
  refine Zif (fun k:Nat=>((w:Int),((n:Int),((k:Int),(Zaqa w k,()))))) n rfl ?_ ?_ (Ze8 (by omega))
  ·intro k hk
   try dsimp only
   unfold Zaxw
   have hd:Int.fdiv (w:Int) (HPow.hPow (2:Int) (Min.min (Int.toNat (k:Int)) 64))=((w / 2^k:Nat):Int):=by
    rw [Int.toNat_natCast,Nat.min_eq_left (by omega),Int.fdiv_eq_ediv_of_nonneg _ (Int.pow_nonneg (by decide))]
    simp
   have hlt:w / 2^k≤w:=Nat.div_le_self _ _
   have hb:(iQ (bandI .u64 (Int.fdiv (w:Int) (HPow.hPow (2:Int) (Min.min (Int.toNat (k:Int)) 64))) (1:Int)) (1:Int))=decide (w / 2^k % 2=1):=by
    rw [hd];exact bit_at (by omega)
   have e:∀(a b:List Bool) (p q:Int),a=b→p=q→(some (.inl ((w:Int),((n:Int),(p,(a,()))))):Option (TL Zau8.σs⊕Out Zasr))=some (.inl ((w:Int),((n:Int),(q,(b,()))))):=by rintro _ _ _ _ rfl rfl;rfl
   refine br_tt (dec_t (show (k:Int)<(n:Int) by omega)) (Zaj (dec_t (by omega)) (Zaj (room1 _ _ (by rw [Zare];omega)) (e _ _ _ _ ?_ (i64n (by omega) (by omega)))))
   rw [Zb6g]
   exact congrArg (fun b:Bool=>Zaqa w k++[b]) hb
  ·try dsimp only
   unfold Zaxw
   exact br_ff (dec_f (by omega)) rfl
 show Zb2w Zjt Zb0g (w:Int) (n:Int)=_
 unfold Zb2w
 exact Zba hb (Zba eL rfl)
theorem Zb9x (w n:Nat) (hn:n≤64) (hw:w<18446744073709551616):Zajf ((w:Int),((n:Int),()))=some (Zaqa w n,()):=by
 have eL:Zanp ((w:Int),((n:Int),((0:Int),([],()))))=some (Zaqa w n,()):=by
  unfold Zanp;delta u4
  refine Zif (fun k:Nat=>(((w / 2^k:Nat):Int),((n:Int),((k:Int),(Zaqa w k,()))))) n (by rw [Nat.pow_zero,Nat.div_one];rfl) ?_ ?_ (Ze8 (by omega))
  ·intro k hk
   try dsimp only
   unfold Zajg
   have hlt:w / 2^k≤w:=Nat.div_le_self _ _
   have hb:(iQ (Int.tmod ((w / 2^k:Nat):Int) (2:Int)) (1:Int))=decide (w / 2^k % 2=1):=by
    exact tmod_at _
   have hd:IntKind.wrap .u64 (Int.tdiv ((w / 2^k:Nat):Int) (2:Int))=((w / 2^(k+1):Nat):Int):=by
    rw [Nat.pow_succ,←Nat.div_div_eq_div_mul];exact tdiv_at (by omega)
   have e:∀(a b:List Bool) (c d p q:Int),a=b→c=d→p=q→(some (.inl (c,((n:Int),(p,(a,()))))):Option (TL Zahe.σs⊕Out Zafx))=some (.inl (d,((n:Int),(q,(b,()))))):=by rintro _ _ _ _ _ _ rfl rfl rfl;rfl
   refine br_tt (dec_t (show (k:Int)<(n:Int) by omega)) (br_tt (dec_t (show (k:Int)<64 by omega)) (Zaj (room1 _ _ (by rw [Zare];omega)) (e _ _ _ _ _ _ ?_ hd (i64n (by omega) (by omega)))))
   rw [Zb6g]
   exact congrArg (fun b:Bool=>Zaqa w k++[b]) hb
  ·try dsimp only
   unfold Zajg
   exact br_ff (dec_f (by omega)) rfl
 show Zapc Zanp (w:Int) (n:Int)=_
 unfold Zapc
 exact Zba eL rfl
abbrev CellT:=Int×Int×Unit
def rd (M:List CellT) (k:Int):Int:=match M with
 | []=>0
 | p :: M=>match decide (p.1=k) with
  | true=>p.2.1
  | false=>rd M k
theorem mget_c:∀(M:List CellT) (k:Int),@mget (.int .u64) M k=rd M k
 | [],k=>rfl
 | p :: M,k=>congrArg (fun z:Int=>match decide (p.1=k) with | true=>p.2.1 | false=>z) (mget_c M k)
theorem Zbag (p:CellT) (M:List CellT) (a:Int):rd (p :: M) a=if p.1=a then p.2.1 else rd M a:=by
 rw [rd]
 by_cases q:p.1=a
 ·rw [decide_eq_true q,if_pos q]
 ·rw [decide_eq_false q,if_neg q]
theorem Zbaf (L:List CellT) (a:Int) (hl:L.length≤100000):Zakh (L,(a,()))=some (rd L a,()):=by
 have hL:=Za80 (B:=fun d=>Zaki   d.1 d.2.1 d.2.2.1)
  (I:=fun d:List CellT×Int×Int×Unit=>∃k:Nat,d=(L,(a,((k:Int),())))∧k≤L.length∧rd L a=rd (L.drop k) a)
  (Q:=fun o:Out Zae3=>o=.inl (rd L a,())∨(o=.inr ()∧rd L a=0))
  (μ:=fun d=>L.length - d.2.2.1.toNat) ?_ NN (L,(a,((0:Int),()))) ⟨0,rfl,by omega,by rw [List.drop_zero]⟩ (Ze8 (by show L.length - _≤_;omega))
 ·obtain ⟨o,ho,hq⟩:=hL
  have ho':Zavs (L,(a,((0:Int),())))=some o:=ho
  show Zaqq Zavs L a=_
  unfold Zaqq
  rcases hq with rfl | ⟨rfl,hz⟩
  ·exact Zba ho' rfl
  ·rw [hz];exact Zba ho' rfl
 ·rintro _ ⟨k,rfl,hk,hr⟩
  try dsimp only
  unfold Zaki
  by_cases q:k<L.length
  ·have hx:=List.getElem?_eq_getElem q
   have hg:gt Za3 L (k:Int)=L[k]:=gt_at (σ:=Za3) hx
   have hi:inb (k:Int) (List.length L)=true:=Zar ⟨by omega,by omega⟩
   rw [Zawe q,Zbag] at hr
   by_cases r:L[k].1=a
   ·left
    rw [if_pos r] at hr
    refine ⟨_,br_tt (dec_t (show (k:Int)<(L.length:Int) by omega)) (Zaj hi (br_tt (dec_t (by rw [hg];exact r)) (Zaj hi rfl))),.inl ?_⟩
    rw [hg,←hr]
   ·right
    rw [if_neg r] at hr
    have e:∀p q:Int,p=q→(some (.inl (L,(a,(p,())))):Option (TL Zaig.σs⊕Out Zae3))=some (.inl (L,(a,(q,())))):=by rintro _ _ rfl;rfl
    refine ⟨(L,(a,(((k+1:Nat):Int),()))),br_tt (dec_t (show (k:Int)<(L.length:Int) by omega)) (Zaj hi (br_ff (dec_f (by rw [hg];exact r)) (e _ _ (i64n (by omega) (by omega))))),⟨k+1,rfl,by omega,hr⟩,?_⟩
    show L.length - (((k+1:Nat):Int)).toNat<L.length - ((k:Int)).toNat
    omega
  ·left
   refine ⟨_,br_ff (dec_f (show ¬(k:Int)<(L.length:Int) by omega)) rfl,.inr ⟨rfl,?_⟩⟩
   rw [hr,List.drop_eq_nil_of_le (by omega)];rfl
end Go.Proofs.Ytnocaehijdmkkaa.V
end
section
namespace Go.Proofs.Ytnocaehijdmkkaa.V
open Go Go.RowKit
set_option maxRecDepth 1000000
abbrev Zafo:Lay:={ T:=[(0,.fzb Za1)],h:=[],nx:=0 }
abbrev Zaaq:List (Ev.Ex×Lay):=[(.ret,{ T:=[(0,.hd 0 Za1)],h:=[(0,.arr Za1 60)],nx:=1 })]
abbrev Zagx:=Kb 67 1 Zafo 1 Zaaq
def Zaq5 (t0z:Bool) (t0:List (Sh.T Za1)):Option (Out Zaaq):=
 br t0z
 (
  some ([],()))
 (
  chk (room 72 (List.length (ap [] t0)))<|
  some ((ap [] t0),()))
def Zaq4  :Zagx:=⟨u2 Zaq5,pB Try.func67 8 k0 e0 1 (sS l0) fun d=>by kernel_rfl⟩
def Zagw:Zagx:=Zaq4  
abbrev Zaga:Lay:={ T:=[(0,.fz Za1)],h:=[],nx:=0 }
abbrev Zafp:List (Ev.Ex×Lay):=Zaaq
abbrev Zahq:=TL Zaga.σs→Option (Out Zafp)
abbrev Zahs:=Kb 67 1 Zaga 1 Zafp
def Zahr:Zahs:=mkZ Zagw rfl
def Zaq6:Zahq:=Zahr.F
abbrev Zai1:Lay:={ T:=[(0,.fzb Zb3)],h:=[],nx:=0 }
abbrev Zabc:List (Ev.Ex×Lay):=[(.ret,{ T:=[(0,.hd 0 Zb3)],h:=[(0,.arr Zb3 108)],nx:=1 })]
abbrev Zajr:=Kb 68 1 Zai1 1 Zabc
def Zas6 (t0z:Bool) (t0:List (Sh.T Zb3)):Option (Out Zabc):=
 br t0z
 (
  some ([],()))
 (
  chk (room 32 (List.length (ap [] t0)))<|
  some ((ap [] t0),()))
def Zas5  :Zajr:=⟨u2 Zas6,pB Try.func68 8 k0 e0 1 (sS l0) fun d=>by kernel_rfl⟩
def Zajq:Zajr:=Zas5  
abbrev Zaiy:Lay:={ T:=[(0,.fz Zb3)],h:=[],nx:=0 }
abbrev Zai2:List (Ev.Ex×Lay):=Zabc
abbrev Zae6:=TL Zaiy.σs→Option (Out Zai2)
abbrev Zae8:=Kb 68 1 Zaiy 1 Zai2
def Zae7:Zae8:=mkZ Zajq rfl
def Zadz:Zae6:=Zae7.F
abbrev Zagu:Lay:={ T:=[(0,.fzb Zb8)],h:=[],nx:=0 }
abbrev Zaax:List (Ev.Ex×Lay):=[(.ret,{ T:=[(0,.hd 0 Zb8)],h:=[(0,.arr Zb8 115)],nx:=1 })]
abbrev Zai0:=Kb 69 1 Zagu 1 Zaax
def Zar5 (t0z:Bool) (t0:List (Sh.T Zb8)):Option (Out Zaax):=
 br t0z
 (
  some ([],()))
 (
  chk (room 56 (List.length (ap [] t0)))<|
  some ((ap [] t0),()))
def Zar4  :Zai0:=⟨u2 Zar5,pB Try.func69 8 k0 e0 1 (sS l0) fun d=>by kernel_rfl⟩
def Zahz:Zai0:=Zar4  
abbrev Zahp:Lay:={ T:=[(0,.fz Zb8)],h:=[],nx:=0 }
abbrev Zagv:List (Ev.Ex×Lay):=Zaax
abbrev Zadi:=TL Zahp.σs→Option (Out Zagv)
abbrev Zadk:=Kb 69 1 Zahp 1 Zagv
def Zadj:Zadk:=mkZ Zahz rfl
def Zadb:Zadi:=Zadj.F
abbrev Zamz:Lay:={ T:=[(0,.fzb .bool)],h:=[],nx:=0 }
abbrev Zada:List (Ev.Ex×Lay):=[(.ret,{ T:=[(0,.hd 0 .bool)],h:=[(0,.arr .bool 4)],nx:=1 })]
abbrev Zaq0:=Kb 41 1 Zamz 1 Zada
def Zaxq (t0z:Bool) (t0:List Bool):Option (Out Zada):=
 br t0z
 (
  some ([],()))
 (
  chk (room 1 (List.length (ap [] t0)))<|
  some ((ap [] t0),()))
def Zaxp  :Zaq0:=⟨u2 Zaxq,pB Try.func41 8 k0 e0 1 (sS l0) fun d=>by kernel_rfl⟩
def Zapz:Zaq0:=Zaxp  
abbrev Zaoc:Lay:={ T:=[(0,.fz .bool)],h:=[],nx:=0 }
abbrev Zan1:List (Ev.Ex×Lay):=Zada
abbrev Zaey:=TL Zaoc.σs→Option (Out Zan1)
abbrev Zaez:=Kb 41 1 Zaoc 1 Zan1
def Zacy:Zaez:=mkZ Zapz rfl
def Zaj8:Zaey:=Zacy.F
abbrev Zan0:Lay:={ T:=[(0,.hd 0 .bool)],h:=[(0,.arr .bool 4)],nx:=1 }
abbrev Zam9:List (Ev.Ex×Lay):=[(.ret,{ T:=[(0,.hd 1 .bool)],h:=[(0,.arr .bool 4),(1,.arr .bool 4)],nx:=2 })]
abbrev Zaj5:=TL Zan0.σs→Option (Out Zam9)
abbrev Zaj7:=Kb 41 1 Zan0 1 Zam9
def Zaj6:Zaj7:=⟨_,Zb8w (by kernel_rfl) Zacy.ok⟩
abbrev Zke:Lay:={ T:=[(0,.ptr 0 0),(1,.int .u64)],h:=[(0,.cells [.int .i64,.int .i64,.mp 1] 147),(1,.map .u64 (.int .u64))],nx:=2 }
abbrev Zhx:List (Ev.Ex×Lay):=[(.ret,{ T:=[(0,.int .u64)],h:=[(0,.cells [.int .i64,.int .i64,.mp 1] 147),(1,.map .u64 (.int .u64))],nx:=2 })]
abbrev Zawf:=TL Zke.σs→Option (Out Zhx)
abbrev Zarj:=Kb 43 2 Zke 1 Zhx
def Zq2 (t1 b0_0 b0_1:Int) (b1:List (Sh.T Za3)):Option (Out Zhx):=
 some ((@mget (.int .u64) b1 t1),(b0_0,(b0_1,(b1,()))))
def Zb59  :Zarj:=⟨u4 Zq2,pB Try.func43 13 k0 e0 1 (sS l0) fun d=>by kernel_rfl⟩
def Zawg:Zarj:=Zb59  
def Ztu:Zawf:=Zawg.F
end Go.Proofs.Ytnocaehijdmkkaa.V
end
