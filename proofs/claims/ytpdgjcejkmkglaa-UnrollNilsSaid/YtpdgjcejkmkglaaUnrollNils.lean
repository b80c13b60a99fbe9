/- The walk of UnrollNils: it returns true. -/
import Derived.Test.YtpdgjcejkmkglaaEvTop
import Derived.Test.YtpdgjcejkmkglaaEvSound
import Derived.Test.YtpdgjcejkmkglaaEvEnvc
namespace Go.Proofs.Ytpdgjcejkmkglaa
open Go.RowKit Ev
set_option linter.unusedVariables false
set_option maxRecDepth 1000000
theorem mixed : Try.prog.follows .mixedOrders = true := by kernel_rfl
theorem unrollNils_run (a0 a1 : Int) : isT (evTopA Try.prog env (evDraw Try.prog) orc 100000 3 [.int .i64 a0, .int .i64 a1]) = true := by kernel_rfl
theorem unrollNilswalk (a0 a1 : Int) (w : World) {p0 p1 : Prop} (_ : p0) (_ : p1) : Calls Try.prog 3 #[.int .i64 a0, .int .i64 a1] w fun e w' => e = .returned (.bool true) ∧ Below w.heap.size w w' :=
  evTrue env_ok (evDraw_ok mixed) orc_ok (unrollNils_run a0 a1) rfl (fun _ => (0, 0)) w
end Go.Proofs.Ytpdgjcejkmkglaa
