/- alive of layer 30, and the walk of TableNils. -/
import Derived.Test.YtcfkagielgnkkaaTableLit
namespace Go.Proofs.Ytcfkagielgnkkaa
open Go.RowKit Pl
set_option linter.unusedVariables false
theorem valueNil_any (w : World) (frame l : Int) (A : Option Addr) (n c : Nat) : Calls Try.prog 52 #[.pointer none, .int .i64 frame, .int .i64 l, .slice A n c] w fun e w' => e = .returned (.bool false) ∧ ∃ q, w' = w.drewN q := by
  go_enter Try.func52, Try.ntmps52
  go_wp2_with fail
  refine (litNil_any _ _ _).mono ?_
  rintro e w' ⟨rfl, q, rfl⟩
  go_wp2_with fail
  go_ret
  exact ⟨rfl, q, rfl⟩
theorem valuesNil_any (w : World) (frame : Int) (A : Option Addr) (n c : Nat) : Calls Try.prog 54 #[.pointer none, .int .i64 frame, .slice A n c] w fun e w' => e = .returned (.slice none 0 0) ∧ w = w' := by
  by_cases h : frame < 0
  · go_enter Try.func54, Try.ntmps54
    go_wp2_with fail
    go_ret
    exact ⟨rfl, rfl⟩
  · go_enter Try.func54, Try.ntmps54
    go_wp2_with fail
    refine (framesNil_any _).mono ?_
    rintro e w' ⟨rfl, rfl⟩
    go_wp2_with fail
    go_ret
    exact ⟨rfl, rfl⟩
set_option maxHeartbeats 800000 in
theorem alive30_any (w : World) : Calls Try.prog 48 #[] w fun e w' => e = .returned (.bool true) ∧ Below w.heap.size w w' := by
  go_enter Try.func48, Try.ntmps48
  go_wp2_with fail
  refine (newTable_any 2 w (by omega)).mono ?_
  rintro e w1 ⟨g, rfl, hs1, hb1⟩
  go_wp2_with fail
  refine (tpush_any hs1 (by simp)).mono ?_
  rintro e w2 ⟨rfl, hs2, hb2⟩
  rw [List.nil_append] at hs2
  go_wp2_with fail
  refine (tset_yes 0 1 5 hs2 (by unfold setOk; simp)).mono ?_
  rintro e w3 ⟨rfl, hs3, hb3⟩
  clear hs1 hs2
  go_wp2_with fail
  refine (tlit_any 0 3 hs3 (by omega)).mono ?_
  rw [show litT 2 (fset [frame0 2] 0 1 5) 0 3 = -5 from by decide]
  rintro e w4 ⟨rfl, q4, rfl⟩
  go_wp2_with fail
  refine (tlit_any 0 0 (hs3.drewN q4) (by omega)).mono ?_
  rw [show litT 2 (fset [frame0 2] 0 1 5) 0 0 = -1 from by decide]
  rintro e w5 ⟨rfl, q5, rfl⟩
  go_wp2_with fail
  refine (tlit_any 0 4 (hs3.drewN (q4 + q5)) (by omega)).mono ?_
  rw [show litT 2 (fset [frame0 2] 0 1 5) 0 4 = 0 from by decide]
  rintro e w6 ⟨rfl, q6, rfl⟩
  go_wp2_with fail
  go_ret
  exact ⟨rfl, below_drewN (hb1.trans (hb2.trans hb3)) _⟩
set_option maxHeartbeats 800000 in
theorem tableNilswalk (frame l : Int) (w : World) (hv : (Lit.int .i64 frame).wf = true) (hd : (Lit.int .i64 l).wf = true) :
    Calls Try.prog 12 #[.int .i64 frame, .int .i64 l] w fun e w' => e = .returned (.bool true) ∧ Below w.heap.size w w' := by
  go_enter Try.func12, Try.ntmps12
  go_wp2_with fail
  refine (findNil_any _ _).mono ?_
  rintro e w' ⟨rfl, rfl⟩
  go_wp2_with fail
  refine (tpushNil_any _).mono ?_
  rintro e w' ⟨rfl, rfl⟩
  go_wp2_with fail
  refine (tsetNil_any _ _ _ _).mono ?_
  rintro e w' ⟨rfl, rfl⟩
  go_wp2_with fail
  refine (litNil_any _ _ _).mono ?_
  rintro e w' ⟨rfl, q1, rfl⟩
  go_wp2_with fail
  refine (litsNil_any _ _ _ _ _).mono ?_
  rintro e w' ⟨rfl, rfl⟩
  go_wp2_with fail
  refine (framesNil_any _).mono ?_
  rintro e w' ⟨rfl, rfl⟩
  go_wp2_with fail
  refine (valueNil_any _ _ _ _ _ _).mono ?_
  rintro e w' ⟨rfl, q2, rfl⟩
  go_wp2_with fail
  refine (valuesNil_any _ _ _ _ _).mono ?_
  rintro e w' ⟨rfl, rfl⟩
  go_wp2_with fail
  refine (alive30_any _).mono ?_
  rintro e w1 ⟨rfl, hb⟩
  go_wp2_with fail
  go_ret
  have hb0 : Below w.heap.size w (((w.drewN q1).alloc (.cells #[.int .i64 l] 3)).drewN q2) := below_drewN ((below_drewN (Below.refl _ _) q1).alloc (Nat.le_refl _) _) q2
  exact ⟨rfl, hb0.trans (hb.mono hb0.size)⟩
end Go.Proofs.Ytcfkagielgnkkaa
