import Derived.Test.YtkcpdpplobhpaaaGreatKMf
import Derived.Test.YtkcpdpplobhpaaaGreatKRa
import Derived.Test.YtkcpdpplobhpaaaGreatKNe
import Derived.Test.YtkcpdpplobhpaaaGreatKSb
set_option linter.unusedVariables false
set_option linter.unusedSimpArgs false
set_option linter.unnecessarySimpa false
section
namespace Go.Proofs.YtkcpdpplobhpaaaGreat.Pl
section
variable {α:Type} (key:α→Int)
variable {key}
end
end Go.Proofs.YtkcpdpplobhpaaaGreat.Pl
end
section
namespace Go.Proofs.YtkcpdpplobhpaaaGreat.V
open Go Go.RowKit
theorem i64n {x:Int} {n:Nat} (e:x=(n:Int)) (h:n≤1000000000):IntKind.wrap .i64 x=(n:Int):=by rw [e];exact i64w (by omega)
end Go.Proofs.YtkcpdpplobhpaaaGreat.V
end
section
namespace Go.Proofs.YtkcpdpplobhpaaaGreat.V
open Go Go.RowKit

section
variable {W:WkT} {key:NdT→Int} {V:NdT→Prop}
end
end Go.Proofs.YtkcpdpplobhpaaaGreat.V
end
section
namespace Go.Proofs.YtkcpdpplobhpaaaGreat.V
open Go Go.RowKit

section
variable {W:WkT} {key:NdT→Int} {V:NdT→Prop}
end
section
variable {X P Q Y L:List NdT}
variable {W:WkT} {key:NdT→Int} {V:NdT→Prop}
end
section
variable {X P Q Y L:List NdT} {W:WkT} {key:NdT→Int} {V:NdT→Prop}
end
section
variable {X P Q Y L:List NdT} {W:WkT} {key:NdT→Int} {V:NdT→Prop}
end
end Go.Proofs.YtkcpdpplobhpaaaGreat.V
end
section
namespace Go.Proofs.YtkcpdpplobhpaaaGreat.V
open Go Go.RowKit

section
variable {W:WkT} {key:NdT→Int} {V:NdT→Prop}
end
section
variable {W:WkT} {key:NdT→Int} {V:NdT→Prop}
end
end Go.Proofs.YtkcpdpplobhpaaaGreat.V
end
section
namespace Go.Proofs.YtkcpdpplobhpaaaGreat.V
open Go Go.RowKit
open Go.Proofs.YtkcpdpplobhpaaaGreat.Pl
end Go.Proofs.YtkcpdpplobhpaaaGreat.V
end
section
namespace Go.Proofs.YtkcpdpplobhpaaaGreat.V
open Go Go.RowKit
theorem band_bit {w:Int} (h:0≤w) (h2:w<18446744073709551616):bandI .u64 w 1=w % 2:=by
 obtain ⟨n,rfl⟩:=Int.eq_ofNat_of_zero_le h
 unfold bandI
 have e:(BitVec.ofInt (IntKind.u64).bits (n:Int) &&& BitVec.ofInt (IntKind.u64).bits 1).toNat=n % 2:=by
  rw [BitVec.toNat_and,BitVec.toNat_ofInt,BitVec.toNat_ofInt]
  have e1:(((n:Int) % ((2^(IntKind.u64).bits:Nat):Int)).toNat)=n:=by
   rw [Int.emod_eq_of_lt (by omega) (by show (n:Int)<((2^64:Nat):Int);omega)];rfl
  rw [e1]
  show n &&& 1=n % 2
  exact Nat.and_one_is_mod n
 rw [e,u64w (by omega)]
 omega
def wordF:List Bool→Nat
 | []=>0
 | b :: l=>(if b then 1 else 0)+2*wordF l
theorem Zb6w (l:List Bool) (b:Bool):wordF (l++[b])=wordF l+(if b then 2^l.length else 0):=by
 induction l with
 | nil=>cases b<;>rfl
 | cons c l ih=>
  rw [List.cons_append,wordF,ih,wordF,List.length_cons,Nat.pow_succ]
  cases b<;>simp<;>omega
theorem Zb74 (l:List Bool):wordF l<2^l.length:=by
 induction l with
 | nil=>decide
 | cons c l ih=>
  rw [wordF,List.length_cons,Nat.pow_succ]
  split<;>omega
theorem pow64 {i:Nat} (h:i<64):(2:Nat)^i≤9223372036854775808:=by
 have:(2:Nat)^i≤2^63:=Nat.pow_le_pow_right (by decide) (by omega)
 exact this
theorem bor_pow {w i:Nat} (hi:i<64) (hw:w<2^i):borI .u64 (w:Int) (IntKind.wrap .u64 ((1:Int)*(HPow.hPow (2:Int) (Min.min (Int.toNat (i:Int)) 64))))=((w+2^i:Nat):Int):=by
 have hp:=pow64 hi
 have e1:((1:Int)*(HPow.hPow (2:Int) (Min.min (Int.toNat (i:Int)) 64)))=((2^i:Nat):Int):=by
  rw [Int.one_mul,Int.toNat_natCast,Nat.min_eq_left (by omega)];simp
 rw [e1,u64w (by omega)]
 unfold borI
 have e2:∀n:Nat,n<18446744073709551616→(BitVec.ofInt (IntKind.u64).bits (n:Int)).toNat=n:=by
  intro n hn
  rw [BitVec.toNat_ofInt,Int.emod_eq_of_lt (by omega) (by show (n:Int)<((2^64:Nat):Int);omega)];rfl
 have e3:w ||| 2^i=w+2^i:=by
  rw [Nat.or_comm,Nat.add_comm]
  have:=Nat.two_pow_add_eq_or_of_lt hw 1
  rw [Nat.mul_one] at this
  exact this.symm
 rw [BitVec.toNat_or,e2 _ (by omega),e2 _ (by omega),e3,u64w (by omega)]
theorem Zba0 (l:List Bool) (hl:l.length≤64):Zavw (l,())=some ((wordF l:Int),()):=by
 have eL:Zap7 (l,((0:Int),((1:Int),((0:Int),()))))=some ((wordF l:Int),()):=by
  unfold Zap7;delta u4
  refine Zif (fun k:Nat=>(l,((wordF (l.take k):Int),((if k=64 then (0:Int) else ((2^k:Nat):Int)),((k:Int),()))))) l.length rfl ?_ ?_ (Ze8 (by omega))
  ·intro k hk
   have hx:=List.getElem?_eq_getElem hk
   have ht:l.take (k+1)=l.take k++[l[k]]:=Pl.Zd8 hx
   have hk2:(l.take k).length=k:=by rw [List.length_take];omega
   have hw:=Zb74 (l.take k)
   rw [hk2] at hw
   have hp:=pow64 (i:=k) (by omega)
   have e:∀(a b c c' p q:Int),a=b→c=c'→p=q→(some (.inl (l,(a,(c,(p,()))))):Option (TL Zaih.σs⊕Out Zahd))=some (.inl (l,(b,(c',(q,()))))):=by rintro _ _ _ _ _ _ rfl rfl rfl;rfl
   try dsimp only
   rw [if_neg (show ¬k=64 by omega)]
   unfold Zakj
   refine br_tt (dec_t (show (k:Int)<(l.length:Int) by omega)) (br_tt (dec_t (show (k:Int)<64 by omega)) (Zaj (Zar ⟨by omega,by omega⟩) ?_))
   have g:gt .bool l (k:Int)=l[k]:=gt_at (σ:=.bool) hx
   have e2:IntKind.wrap .u64 (((2^k:Nat):Int)*(2:Int))=(if k+1=64 then (0:Int) else ((2^(k+1):Nat):Int)):=by
    by_cases q:k+1=64
    ·have:k=63:=by omega
     subst this;rfl
    ·rw [if_neg q]
     have:=pow64 (i:=k+1) (by omega)
     rw [Nat.pow_succ] at this ⊢
     rw [u64w (by omega)];omega
   rw [ht,Zb6w,hk2,g]
   cases l[k]
   ·exact br_ff rfl (e _ _ _ _ _ _ rfl e2 (i64n (by omega) (by omega)))
   ·exact br_tt rfl (e _ _ _ _ _ _ (by rw [u64w (by omega)];simp) e2 (i64n (by omega) (by omega)))
  ·try dsimp only
   unfold Zakj
   rw [List.take_length]
   exact br_ff (dec_f (show ¬(l.length:Int)<(l.length:Int) by omega)) rfl
 show Zaqr Zap7 l=_
 unfold Zaqr
 exact Zba eL rfl
theorem room1 (P:List Bool) (z:Bool) (h:P.length≤10000000):room 1 (List.length (P++(z :: [])))=true:=by
 rw [List.length_append,List.length_cons,List.length_nil]
 exact Za3a (by omega) (by omega)
def Zaqa (w n:Nat):List Bool:=(List.range n).map fun i=>decide (w / 2^i % 2=1)
theorem Zare (w n:Nat):(Zaqa w n).length=n:=by simp [Zaqa]
theorem Zb6g (w n:Nat):Zaqa w (n+1)=Zaqa w n++[decide (w / 2^n % 2=1)]:=by
 unfold Zaqa;rw [List.range_succ,List.map_append];rfl
theorem bit_at {q:Nat} (h:q<18446744073709551616):(iQ (bandI .u64 (q:Int) (1:Int)) (1:Int))=decide (q % 2=1):=by
 rw [band_bit (by omega) (by omega)]
 show decide _=decide _
 congr 1
 apply propext
 omega
theorem tmod_at (q:Nat):(iQ (Int.tmod (q:Int) (2:Int)) (1:Int))=decide (q % 2=1):=by
 rw [Int.tmod_eq_emod_of_nonneg (by omega)]
 show decide _=decide _
 congr 1
 apply propext
 omega
theorem tdiv_at {q:Nat} (h:q<18446744073709551616):IntKind.wrap .u64 (Int.tdiv (q:Int) (2:Int))=((q / 2:Nat):Int):=by
 rw [Int.tdiv_eq_ediv_of_nonneg (by omega),u64w (by omega)];omega
theorem bools_is (w n:Nat) (hn:n≤64) (hw:w<18446744073709551616):Zaxv ((w:Int),((n:Int),()))=some (Zaqa w n,()):=by
 have hb:Zjt ((n:Int),())=some ((n:Int),()):=by
  show Zmd (n:Int)=_
  unfold Zmd
  have h1:selI (decide ((64:Int)<(n:Int))) (64:Int) (n:Int)=(n:Int):=by unfold selI;rw [decide_eq_false (by omega)]
  have h2:selI (decide ((n:Int)<(0:Int))) (0:Int) (n:Int)=(n:Int):=by unfold selI;rw [decide_eq_false (by omega)]
  show some (selI (decide (selI (decide ((64:Int)<(n:Int))) (64:Int) (n:Int)<0)) 0 (selI (decide ((64:Int)<(n:Int))) (64:Int) (n:Int)),())=_
  rw [h1,h2]
 have eL:Zb0g ((w:Int),((n:Int),((0:Int),([],()))))=some (Zaqa w n,()):=by
  unfold Zb0g;delta u4
  refine Zif (fun k:Nat=>((w:Int),((n:Int),((k:Int),(Zaqa w k,()))))) n rfl ?_ ?_ (Ze8 (by omega))
  ·intro k hk
   try dsimp only
   unfold Zaxw
   have hd:Int.fdiv (w:Int) (HPow.hPow (2:Int) (Min.min (Int.toNat (k:Int)) 64))=((w / 2^k:Nat):Int):=by
    rw [Int.toNat_natCast,Nat.min_eq_left (by omega),Int.fdiv_eq_ediv_of_nonneg _ (Int.pow_nonneg (by decide))]
    simp
   have hlt:w / 2^k≤w:=Nat.div_le_self _ _
   have hb:(iQ (bandI .u64 (Int.fdiv (w:Int) (HPow.hPow (2:Int) (Min.min (Int.toNat (k:Int)) 64))) (1:Int)) (1:Int))=decide (w / 2^k % 2=1):=by
    rw [hd];exact bit_at (by omega)
   have e:∀(a b:List Bool) (p q:Int),a=b→p=q→(some (.inl ((w:Int),((n:Int),(p,(a,()))))):Option (TL Zau8.σs⊕Out Zasr))=some (.inl ((w:Int),((n:Int),(q,(b,()))))):=by rintro _ _ _ _ rfl rfl;rfl
   refine br_tt (dec_t (show (k:Int)<(n:Int) by omega)) (Zaj (dec_t (by omega)) (Zaj (room1 _ _ (by rw [Zare];omega)) (e _ _ _ _ ?_ (i64n (by omega) (by omega)))))
   rw [Zb6g]
   exact congrArg (fun b:Bool=>Zaqa w k++[b]) hb
  ·try dsimp only
   unfold Zaxw
   exact br_ff (dec_f (by omega)) rfl
 show Zb2w Zjt Zb0g (w:Int) (n:Int)=_
 unfold Zb2w
 exact Zba hb (Zba eL rfl)
theorem Zb9x (w n:Nat) (hn:n≤64) (hw:w<18446744073709551616):Zajf ((w:Int),((n:Int),()))=some (Zaqa w n,()):=by
 have eL:Zanp ((w:Int),((n:Int),((0:Int),([],()))))=some (Zaqa w n,()):=by
  unfold Zanp;delta u4
  refine Zif (fun k:Nat=>(((w / 2^k:Nat):Int),((n:Int),((k:Int),(Zaqa w k,()))))) n (by rw [Nat.pow_zero,Nat.div_one];rfl) ?_ ?_ (Ze8 (by omega))
  ·intro k hk
   try dsimp only
   unfold Zajg
   have hlt:w / 2^k≤w:=Nat.div_le_self _ _
   have hb:(iQ (Int.tmod ((w / 2^k:Nat):Int) (2:Int)) (1:Int))=decide (w / 2^k % 2=1):=by
    exact tmod_at _
   have hd:IntKind.wrap .u64 (Int.tdiv ((w / 2^k:Nat):Int) (2:Int))=((w / 2^(k+1):Nat):Int):=by
    rw [Nat.pow_succ,←Nat.div_div_eq_div_mul];exact tdiv_at (by omega)
   have e:∀(a b:List Bool) (c d p q:Int),a=b→c=d→p=q→(some (.inl (c,((n:Int),(p,(a,()))))):Option (TL Zahe.σs⊕Out Zafx))=some (.inl (d,((n:Int),(q,(b,()))))):=by rintro _ _ _ _ _ _ rfl rfl rfl;rfl
   refine br_tt (dec_t (show (k:Int)<(n:Int) by omega)) (br_tt (dec_t (show (k:Int)<64 by omega)) (Zaj (room1 _ _ (by rw [Zare];omega)) (e _ _ _ _ _ _ ?_ hd (i64n (by omega) (by omega)))))
   rw [Zb6g]
   exact congrArg (fun b:Bool=>Zaqa w k++[b]) hb
  ·try dsimp only
   unfold Zajg
   exact br_ff (dec_f (by omega)) rfl
 show Zapc Zanp (w:Int) (n:Int)=_
 unfold Zapc
 exact Zba eL rfl
abbrev CellT:=Int×Int×Unit
end Go.Proofs.YtkcpdpplobhpaaaGreat.V
end
