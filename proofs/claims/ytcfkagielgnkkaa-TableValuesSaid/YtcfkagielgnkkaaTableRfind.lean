/- Find of the reference's table. -/
import Derived.Test.YtcfkagielgnkkaaTableFind
namespace Go.Proofs.Ytcfkagielgnkkaa
open Go.RowKit Pl
set_option linter.unusedVariables false
def rat (n : Nat) (cs : List Cell3) (i k : Nat) : Int := litR n cs i (2 * (k : Int))
set_option maxHeartbeats 1600000 in
theorem rfind_any {w : World} {g V n : Nat} {cs : List Cell3} {D : Nat → Prop} (l : Int) (h : RD w g V n cs D) (h3 : -9223372036854775808 ≤ l) (h4 : l ≤ 9223372036854775807) :
    Calls Try.prog 51 #[.pointer (some ⟨g, 0, none⟩), .int .i64 l] w (RetFind w (rat n cs) n V l) := by
  have HL3 := Lib.hid h3
  have HL4 := Lib.hid h4
  clear h3 h4
  have HT := Lib.hid h
  have HBN := Lib.hid (litR_bnd h)
  obtain ⟨cv, h, _⟩ := h
  have c0 := h.c0
  have c1 := h.c1
  have hV := h.hv
  have hn := h.hn
  clear h
  by_cases hz : l = 0
  · have hzb : (l != 0) = false := by simp [hz]
    have HZ := Lib.hid hz
    clear hz
    have fin : Hid (FindIs (rat n cs) n V l none) := fun i' k' _ _ _ hh => by
      have := HZ.out
      unfold Hit at hh
      omega
    rcases Nat.eq_zero_or_pos n with h0 | h0
    · subst h0
      go_enter Try.func51, Try.ntmps51
      go_wp2_with fail
      refine wp_loop_rounds 1 ?_
      rw [rounds_succ]
      go_wp2_with fail
      go_ret3
      exact ⟨none, fin.out, rfl, rfl⟩
    · go_enter Try.func51, Try.ntmps51
      go_wp2_with fail
      refine wp_loop_rounds 1 ?_
      rw [rounds_succ]
      go_wp2_with fail
      go_ret3
      exact ⟨none, fin.out, rfl, rfl⟩
  · have hzb : (l != 0) = true := by simpa using hz
    have HZ := Lib.hid hz
    clear hz
    go_enter Try.func51, Try.ntmps51
    go_wp2_with fail
    go_loop [7] (fun i => ∃ k : Nat, k ≤ n ∧ i = .int .i64 k ∧ Hid (∀ i' k', i' < k → 1 ≤ k' → k' ≤ V → ¬ Hit (rat n cs i' k') l)) (fun i => n - (intOf i).toNat)
    case atStart => exact ⟨0, Nat.zero_le _, rfl, fun i' k' h => by omega⟩
    case round =>
      obtain ⟨i, hi, rfl, HB⟩ := hrel
      by_cases hlt : i < n
      · go_wp2_with fail
        go_loop [8] (fun x8 => ∃ k : Nat, 1 ≤ k ∧ k ≤ V + 1 ∧ x8 = .int .i64 k ∧ Hid (∀ k', 1 ≤ k' → k' < k → ¬ Hit (rat n cs i k') l)) (fun x8 => V + 1 - (intOf x8).toNat)
        case atStart => exact ⟨1, by omega, by omega, rfl, fun k' h h' => by omega⟩
        case round =>
          obtain ⟨k, hk1, hk2, rfl, HI⟩ := hrel
          by_cases hkl : k < V + 1
          · obtain ⟨hb1, hb2⟩ := HBN.out i (2 * (k : Int))
            have hq := neg_eq (litR n cs i (2 * (k : Int))) l hb1 hb2 HL3.out HL4.out
            obtain ⟨x, hx⟩ : ∃ x, x = litR n cs i (2 * (k : Int)) := ⟨_, rfl⟩
            rw [← hx] at hb1 hb2 hq
            have HX := Lib.hid hx
            clear hx
            rcases (show (x = l) ∨ (x ≠ l ∧ x = -l ∧ x ≠ 0) ∨ (x ≠ l ∧ x ≠ -l) ∨ (x ≠ l ∧ x = -l ∧ x = 0) from by omega) with q1 | ⟨q1, q2, q3⟩ | ⟨q1, q2⟩ | ⟨q1, q2, q3⟩
            · have e1 : (x == l) = true := beq_iff_eq.2 q1
              have HN : Hid (Hit (rat n cs i k) l) := by show Hit _ _; rw [rat, ← HX.out]; have := HZ.out; exact ⟨by omega, .inl q1⟩
              clear q1 hq
              go_wp2_with fail
              refine (rlit_any i (2 * (k : Int)) HT.out (by omega)).mono ?_
              rw [← HX.out]
              rintro e w' ⟨rfl, rfl⟩
              go_wp2_with fail
              go_ret3
              exact ⟨some (i, k), ⟨hlt, hk1, by omega, HN.out, HB.out, HI.out⟩, rfl, rfl⟩
            · have e1 : (x == l) = false := beq_eq_false_iff_ne.2 q1
              have e2 : (x == wrap64 (-l)) = true := hq.trans (decide_eq_true q2)
              have e3 : (x != 0) = true := by simpa using q3
              have HN : Hid (Hit (rat n cs i k) l) := by show Hit _ _; rw [rat, ← HX.out]; exact ⟨q3, .inr q2⟩
              clear q1 q2 q3 hq
              go_wp2_with fail
              refine (rlit_any i (2 * (k : Int)) HT.out (by omega)).mono ?_
              rw [← HX.out]
              rintro e w' ⟨rfl, rfl⟩
              go_wp2_with fail
              go_ret3
              exact ⟨some (i, k), ⟨hlt, hk1, by omega, HN.out, HB.out, HI.out⟩, rfl, rfl⟩
            · have e1 : (x == l) = false := beq_eq_false_iff_ne.2 q1
              have e2 : (x == wrap64 (-l)) = false := hq.trans (decide_eq_false q2)
              have HN : Hid (¬ Hit (rat n cs i k) l) := by show ¬ _; rw [rat, ← HX.out]; unfold Hit; omega
              clear q1 q2 hq
              go_wp2_with fail
              refine (rlit_any i (2 * (k : Int)) HT.out (by omega)).mono ?_
              rw [← HX.out]
              rintro e w' ⟨rfl, rfl⟩
              go_wp2_with fail
              go_round
              case rel => exact ⟨k + 1, by omega, by omega, by go_num, fun k' h h' => by
                rcases Nat.lt_or_ge k' k with h9 | h9
                · exact HI.out k' h h9
                · obtain rfl : k' = k := by omega
                  exact HN.out⟩
              case measure => simp [intOf]; omega
            · have := HZ.out
              omega
          · go_wp2_with fail
            go_round
            case rel => exact ⟨i + 1, by omega, by go_num, fun i' k' h h1 h2 => by
              rcases Nat.lt_or_ge i' i with h9 | h9
              · exact HB.out i' k' h9 h1 h2
              · obtain rfl : i' = i := by omega
                exact HI.out k' h1 (by omega)⟩
            case measure => simp [intOf]; omega
      · go_wp2_with fail
        go_ret3
        exact ⟨none, fun i' k' h1 h2 h3 => HB.out i' k' (by omega) h2 h3, rfl, rfl⟩
end Go.Proofs.Ytcfkagielgnkkaa
