import Derived.Test.YtkcpdpplobhpaaaGreatKRg
set_option linter.unusedVariables false
set_option linter.unusedSimpArgs false
set_option linter.unnecessarySimpa false
section
namespace Go.Proofs.YtkcpdpplobhpaaaGreat.V
open Go Go.RowKit
open Go.Proofs.YtkcpdpplobhpaaaGreat.Pl
set_option maxRecDepth 10000
section
variable (o b c:List Int) (m:List Za1.T) {s:Gk} {D:List Int}
end
end Go.Proofs.YtkcpdpplobhpaaaGreat.V
end
section
namespace Go.Proofs.YtkcpdpplobhpaaaGreat.V
open Go Go.RowKit
set_option maxRecDepth 1000000
abbrev astrariumlaw39_alive_σs:List Sh:=[]
abbrev astrariumlaw39_alive_τs:List Sh:=[.bool]
abbrev astrariumlaw39_alive_T:=TL astrariumlaw39_alive_σs→Option (TL astrariumlaw39_alive_τs)
abbrev astrariumlaw39_alive_D:=Kd 37 astrariumlaw39_alive_σs astrariumlaw39_alive_τs
def astrariumlaw39_alive_F (F0:reach_Search_T) (F1:gen_Counter_T)  :Option (TL astrariumlaw39_alive_τs):=
 bnd (F1 ((1:Int),((1:Int),()))) fun x0=>
 bnd (F0 ((x0.1.1,(x0.1.2.1,(x0.1.2.2.1,(x0.1.2.2.2.1,(x0.1.2.2.2.2.1,(x0.1.2.2.2.2.2.1,(x0.1.2.2.2.2.2.2.1,(x0.1.2.2.2.2.2.2.2.1,())))))))),((9:Int),()))) fun x1=>
 br (iQ x0.2.1 (0:Int))
 (
  br (selB true (iQ (Int.ofNat (List.length x0.1.2.2.1)) (1:Int)) false)
  (
   br (selB true (iQ (Int.ofNat (List.length x0.1.2.2.2.2.2.2.2.1)) (5:Int)) false)
   (
    br (selB true (iQ x1.2.1 (0:Int)) false)
    (
     some ((selB true (iQ x1.1.2.1 (2:Int)) false),()))
    (
     some (false,())))
   (
    some (false,())))
  (
   some (false,())))
 (
  some (false,()))
def astrariumlaw39_alive_G (c0:reach_Search_D) (c1:gen_Counter_D) :astrariumlaw39_alive_D:=⟨fun d=>astrariumlaw39_alive_F c0.F c1.F  ,pZ Tryz.func37 37 (kD c0 (kD c1 k0)) e0 1 (sS l0) fun d=>by kernel_rfl⟩
def astrariumlaw39_alive_K:astrariumlaw39_alive_D:=astrariumlaw39_alive_G reach_Search_K gen_Counter_K 
def astrariumlaw39_alive_FF:astrariumlaw39_alive_T:=astrariumlaw39_alive_K.F
theorem alive39_is:astrariumlaw39_alive_FF ()=some (true,()):=by kernel_rfl
end Go.Proofs.YtkcpdpplobhpaaaGreat.V
end
