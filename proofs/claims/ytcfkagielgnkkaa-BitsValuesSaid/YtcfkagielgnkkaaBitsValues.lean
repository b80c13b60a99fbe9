/- The walk of BitsValues. -/
import Derived.Test.YtcfkagielgnkkaaBitsAlive
import Derived.Test.YtcfkagielgnkkaaBitsEval
namespace Go.Proofs.Ytcfkagielgnkkaa
open Go.RowKit Pl
set_option linter.unusedVariables false

set_option maxHeartbeats 400000 in
theorem bitsValueswalk (x : Int) (A : Option Addr) (len cap : Nat) (l : List Int) (A' : Option Addr) (len' cap' : Nat) (vs : List Bool) (w : World) (hx : (Lit.int .i64 x).wf = true)
    (hR : Reads w w.heap.size 1 A len (l.map (Value.int .i64)) ∧ len ≤ cap ∧ cap ≤ maxLen ∧ ∀ x ∈ l, (Lit.int .i64 x).wf = true)
    (hR' : Reads w w.heap.size 1 A' len' (vs.map Value.bool) ∧ len' ≤ cap' ∧ cap' ≤ maxLen) :
    Calls Try.prog 5 #[.int .i64 x, .slice A len cap, .slice A' len' cap'] w fun e w' => e = .returned (.bool true) ∧ Below w.heap.size w w' := by
  obtain ⟨hR, hle, hcap, hwf⟩ := hR
  obtain ⟨hR', hle', hcap'⟩ := hR'
  have hm := hcap
  have hm' := hcap'
  unfold maxLen at hm hm'
  have hxb := bounds_i64 hx
  have HW := Lib.hid hwf
  clear hwf hx
  rcases (show (len ≤ 200 ∧ len' ≤ 200) ∨ (len ≤ 200 ∧ 200 < len') ∨ 200 < len from by omega) with ⟨h1, h2⟩ | ⟨h1, h2⟩ | h1
  · go_enter Try.func5, Try.ntmps5
    go_wp2_with fail
    refine (eval_any x _ _ _ _ vs _ hR' (by omega) (by omega)).mono ?_
    rintro e w' ⟨rfl, rfl⟩
    go_wp2_with fail
    refine (refEval_any x _ _ _ _ vs _ hR' (by omega) (by omega)).mono ?_
    rintro e w' ⟨rfl, rfl⟩
    go_wp2_with fail
    refine (gather_any _ _ _ _ l _ _ _ _ vs _ hR hle hcap hR' (by omega) HW.out).mono ?_
    rintro e w' ⟨rfl, rfl⟩
    go_wp2_with fail
    refine (refGather_any _ _ _ _ l _ _ _ _ vs _ hR (by omega) (Nat.le_refl _) (Nat.le_refl _) hR' (by omega) HW.out).mono ?_
    rintro e w1 ⟨rfl, hb1⟩
    go_wp2_with fail
    refine (alive10_any _).mono ?_
    rintro e w5 ⟨rfl, hb5⟩
    go_wp2
    go_ret
    exact ⟨rfl, hb1.trans (hb5.mono hb1.size)⟩
  · go_enter Try.func5, Try.ntmps5
    go_wp2_with fail
    refine (alive10_any _).mono ?_
    rintro e w4 ⟨rfl, hb4⟩
    go_wp2
    go_ret
    exact ⟨rfl, hb4⟩
  · go_enter Try.func5, Try.ntmps5
    go_wp2_with fail
    refine (alive10_any _).mono ?_
    rintro e w4 ⟨rfl, hb4⟩
    go_wp2
    go_ret
    exact ⟨rfl, hb4⟩
end Go.Proofs.Ytcfkagielgnkkaa
