/- The walk of SimNils: it returns true. -/
import Derived.Test.YtpdgjcejkmkglaaEvSplit
import Derived.Test.YtpdgjcejkmkglaaEvSound
import Derived.Test.YtpdgjcejkmkglaaEvEnvc
namespace Go.Proofs.Ytpdgjcejkmkglaa
open Go.RowKit Ev
set_option linter.unusedVariables false
set_option maxRecDepth 1000000
theorem simNils_mixed : Try.prog.follows .mixedOrders = true := by kernel_rfl
theorem simNilswalk (a0 : Option Addr) (len0 cap0 : Nat) (l0 : List Bool) (w : World) {p0 : Prop} (_ : p0) : Calls Try.prog 4 #[.slice a0 len0 cap0] w fun e w' => e = .returned (.bool true) ∧ Below w.heap.size w w' :=
  law_split (k := 1000000) (vs := [.rawS a0 len0 cap0]) (r₀ := p1 (bodyOf Try.f4)) (r₁ := p1 (p1 (p2 (bodyOf Try.f4)))) (x := thenOf (p2 (p1 (p2 (bodyOf Try.f4))))) (d := p2 (p2 (bodyOf Try.f4))) (t := slotOf (p2 (p1 (p2 (bodyOf Try.f4)))))
    env_ok (evDraw_ok simNils_mixed) orc_ok Try.func4 (by kernel_rfl) (by kernel_rfl) (by kernel_rfl) (by kernel_rfl) (by kernel_rfl) (by kernel_rfl) (by kernel_rfl) (by kernel_rfl) (by kernel_rfl) (fun _ => (0, 0)) w
end Go.Proofs.Ytpdgjcejkmkglaa
