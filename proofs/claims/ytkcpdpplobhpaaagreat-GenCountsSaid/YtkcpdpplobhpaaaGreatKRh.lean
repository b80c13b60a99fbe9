import Derived.Test.YtkcpdpplobhpaaaGreatKRg
set_option linter.unusedVariables false
set_option linter.unusedSimpArgs false
set_option linter.unnecessarySimpa false
section
namespace Go.Proofs.YtkcpdpplobhpaaaGreat.V
open Go Go.RowKit Go.Proofs.YtkcpdpplobhpaaaGreat.Pl
set_option maxRecDepth 10000
set_option maxRecDepth 1000000
abbrev MM:List Sh:=[]
abbrev BO:List Sh:=[.bool]
abbrev Nk:=TL MM->Option (TL BO)
abbrev Cf:=Kd 37 MM BO
def aab(F0:Da)(F1:Dg)  :Option (TL BO):=
 ai (F1 ((1:Int),((1:Int),()))) fun x0=>
 ai (F0 ((x0.1.1,(x0.1.2.1,(x0.1.2.2.1,(x0.1.2.2.2.1,(x0.1.2.2.2.2.1,(x0.1.2.2.2.2.2.1,(x0.1.2.2.2.2.2.2.1,(x0.1.2.2.2.2.2.2.2.1,())))))))),((9:Int),()))) fun x1=>
 br (iQ x0.2.1 (0:Int))
 (
  br (aR true (iQ (Int.ofNat (List.length x0.1.2.2.1)) (1:Int)) false)
  (
   br (aR true (iQ (Int.ofNat (List.length x0.1.2.2.2.2.2.2.2.1)) (5:Int)) false)
   (
    br (aR true (iQ x1.2.1 (0:Int)) false)
    (
     some ((aR true (iQ x1.1.2.1 (2:Int)) false),()))
    (
     some (false,())))
   (
    some (false,())))
  (
   some (false,())))
 (
  some (false,()))
def aac(c0:vf)(c1:vg) :Cf:=⟨fun d=>aab c0.F c1.F  ,pZ Tryz.func37 37 (kD c0 (kD c1 k0)) e0 1 (sS l0) fun d=>by kernel_rfl⟩
def Nj:Cf:=aac C9 Df
def ZX:Nk:=Nj.F
theorem DC:ZX ()=some (true,()):=by kernel_rfl
end Go.Proofs.YtkcpdpplobhpaaaGreat.V
end
