/- The walk of QueryNils: it returns true. -/
import Derived.Test.YtpdgjcejkmkglaaGreatEvSplit
import Derived.Test.YtpdgjcejkmkglaaGreatEvSound
import Derived.Test.YtpdgjcejkmkglaaGreatEvEnvz
namespace Go.Proofs.YtpdgjcejkmkglaaGreat
open Go.RowKit Ev
set_option linter.unusedVariables false
set_option maxRecDepth 1000000
theorem queryNils_mixed : Tryz.prog.follows .mixedOrders = true := by kernel_rfl
theorem queryNilswalk (a0 : Option Addr) (len0 cap0 : Nat) (l0 : List Int) (a1 : Int) (w : World) {q0 q1 : Prop} (_ : q0) (_ : q1) : Calls Tryz.prog 3 #[.slice a0 len0 cap0, .int .i64 a1] w fun e w' => e = .returned (.bool true) ∧ Below w.heap.size w w' :=
  law_split (k := 1000000) (vs := [.rawS a0 len0 cap0, .int .i64 a1]) (r₀ := p1 (bodyOf Tryz.f3)) (r₁ := p1 (p1 (p2 (bodyOf Tryz.f3)))) (x := thenOf (p2 (p1 (p2 (bodyOf Tryz.f3))))) (d := p2 (p2 (bodyOf Tryz.f3))) (t := slotOf (p2 (p1 (p2 (bodyOf Tryz.f3)))))
    env_ok (evDraw_ok queryNils_mixed) orc_ok Tryz.func3 (by kernel_rfl) (by kernel_rfl) (by kernel_rfl) (by kernel_rfl) (by kernel_rfl) (by kernel_rfl) (by kernel_rfl) (by kernel_rfl) (by kernel_rfl) (fun _ => (0, 0)) w
end Go.Proofs.YtpdgjcejkmkglaaGreat
