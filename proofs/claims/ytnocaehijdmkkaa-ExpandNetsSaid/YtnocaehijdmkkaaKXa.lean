import Derived.Test.YtnocaehijdmkkaaKSa
import Derived.Test.YtnocaehijdmkkaaKSb
import Derived.Test.YtnocaehijdmkkaaKMf
set_option linter.unusedVariables false
set_option linter.unusedSimpArgs false
set_option linter.unnecessarySimpa false
section
namespace Go.Proofs.Ytnocaehijdmkkaa.V
open Go Go.RowKit
set_option maxRecDepth 1000000
end Go.Proofs.Ytnocaehijdmkkaa.V
end
section
namespace Go.Proofs.Ytnocaehijdmkkaa.V
open Go Go.RowKit
theorem band_bit {w:Int} (h:0≤w) (h2:w<18446744073709551616):bandI .u64 w 1=w % 2:=by
 obtain ⟨n,rfl⟩:=Int.eq_ofNat_of_zero_le h
 unfold bandI
 have e:(BitVec.ofInt (IntKind.u64).bits (n:Int) &&& BitVec.ofInt (IntKind.u64).bits 1).toNat=n % 2:=by
  rw [BitVec.toNat_and,BitVec.toNat_ofInt,BitVec.toNat_ofInt]
  have e1:(((n:Int) % ((2^(IntKind.u64).bits:Nat):Int)).toNat)=n:=by
   rw [Int.emod_eq_of_lt (by omega) (by show (n:Int)<((2^64:Nat):Int);omega)];rfl
  rw [e1]
  show n &&& 1=n % 2
  exact Nat.and_one_is_mod n
 rw [e,u64w (by omega)]
 omega
def wordF:List Bool→Nat
 | []=>0
 | b :: l=>(if b then 1 else 0)+2*wordF l
theorem Zb74 (l:List Bool):wordF l<2^l.length:=by
 induction l with
 | nil=>decide
 | cons c l ih=>
  rw [wordF,List.length_cons,Nat.pow_succ]
  split<;>omega
end Go.Proofs.Ytnocaehijdmkkaa.V
end
section
namespace Go.Proofs.Ytnocaehijdmkkaa.V
open Go Go.RowKit
set_option maxRecDepth 1000000
abbrev Zafo:Lay:={ T:=[(0,.fzb Za1)],h:=[],nx:=0 }
abbrev Zaaq:List (Ev.Ex×Lay):=[(.ret,{ T:=[(0,.hd 0 Za1)],h:=[(0,.arr Za1 60)],nx:=1 })]
abbrev Zagx:=Kb 67 1 Zafo 1 Zaaq
def Zaq5 (t0z:Bool) (t0:List (Sh.T Za1)):Option (Out Zaaq):=
 br t0z
 (
  some ([],()))
 (
  chk (room 72 (List.length (ap [] t0)))<|
  some ((ap [] t0),()))
def Zaq4  :Zagx:=⟨u2 Zaq5,pB Try.func67 8 k0 e0 1 (sS l0) fun d=>by kernel_rfl⟩
def Zagw:Zagx:=Zaq4  
abbrev Zaga:Lay:={ T:=[(0,.fz Za1)],h:=[],nx:=0 }
abbrev Zafp:List (Ev.Ex×Lay):=Zaaq
abbrev Zahq:=TL Zaga.σs→Option (Out Zafp)
abbrev Zahs:=Kb 67 1 Zaga 1 Zafp
def Zahr:Zahs:=mkZ Zagw rfl
def Zaq6:Zahq:=Zahr.F
abbrev Zai1:Lay:={ T:=[(0,.fzb Zb3)],h:=[],nx:=0 }
abbrev Zabc:List (Ev.Ex×Lay):=[(.ret,{ T:=[(0,.hd 0 Zb3)],h:=[(0,.arr Zb3 108)],nx:=1 })]
abbrev Zajr:=Kb 68 1 Zai1 1 Zabc
def Zas6 (t0z:Bool) (t0:List (Sh.T Zb3)):Option (Out Zabc):=
 br t0z
 (
  some ([],()))
 (
  chk (room 32 (List.length (ap [] t0)))<|
  some ((ap [] t0),()))
def Zas5  :Zajr:=⟨u2 Zas6,pB Try.func68 8 k0 e0 1 (sS l0) fun d=>by kernel_rfl⟩
def Zajq:Zajr:=Zas5  
abbrev Zaiy:Lay:={ T:=[(0,.fz Zb3)],h:=[],nx:=0 }
abbrev Zai2:List (Ev.Ex×Lay):=Zabc
abbrev Zae6:=TL Zaiy.σs→Option (Out Zai2)
abbrev Zae8:=Kb 68 1 Zaiy 1 Zai2
def Zae7:Zae8:=mkZ Zajq rfl
def Zadz:Zae6:=Zae7.F
abbrev Zagu:Lay:={ T:=[(0,.fzb Zb8)],h:=[],nx:=0 }
abbrev Zaax:List (Ev.Ex×Lay):=[(.ret,{ T:=[(0,.hd 0 Zb8)],h:=[(0,.arr Zb8 115)],nx:=1 })]
abbrev Zai0:=Kb 69 1 Zagu 1 Zaax
def Zar5 (t0z:Bool) (t0:List (Sh.T Zb8)):Option (Out Zaax):=
 br t0z
 (
  some ([],()))
 (
  chk (room 56 (List.length (ap [] t0)))<|
  some ((ap [] t0),()))
def Zar4  :Zai0:=⟨u2 Zar5,pB Try.func69 8 k0 e0 1 (sS l0) fun d=>by kernel_rfl⟩
def Zahz:Zai0:=Zar4  
abbrev Zahp:Lay:={ T:=[(0,.fz Zb8)],h:=[],nx:=0 }
abbrev Zagv:List (Ev.Ex×Lay):=Zaax
abbrev Zadi:=TL Zahp.σs→Option (Out Zagv)
abbrev Zadk:=Kb 69 1 Zahp 1 Zagv
def Zadj:Zadk:=mkZ Zahz rfl
def Zadb:Zadi:=Zadj.F
end Go.Proofs.Ytnocaehijdmkkaa.V
end
