/- Find of the table. -/
import Derived.Test.YtcfkagielgnkkaaTableVals2
namespace Go.Proofs.Ytcfkagielgnkkaa
open Go.RowKit Pl
set_option linter.unusedVariables false
theorem neg_eq (x l : Int) (h1 : -65536 ≤ x) (h2 : x ≤ 65536) (h3 : -9223372036854775808 ≤ l) (h4 : l ≤ 9223372036854775807) : (x == wrap64 (-l)) = decide (x = -l) := by
  unfold wrap64
  rw [Bool.eq_iff_iff, beq_iff_eq, decide_eq_true_iff]
  omega
theorem findEnd_none : findEnd none = .returned (.tuple #[.int .i64 0, .int .i64 0, .bool false]) := rfl
def fat (frames : List (List Int)) (i k : Nat) : Int := at_ (frames.getD i []) k
set_option maxRecDepth 100000 in
set_option maxHeartbeats 1600000 in
theorem tfind_any {w : World} {base V g : Nat} {frames : List (List Int)} (l : Int) (h : TS w base V g frames) (h3 : -9223372036854775808 ≤ l) (h4 : l ≤ 9223372036854775807) :
    Calls Try.prog 50 #[.pointer (some ⟨g, 0, none⟩), .int .i64 l] w (RetFind w (fat frames) frames.length V l) := by
  have HL3 := Lib.hid h3
  have HL4 := Lib.hid h4
  clear h3 h4
  obtain ⟨lv, fs, h, hfs⟩ := h
  by_cases hz : l = 0
  · have hzb : (l == 0) = true := beq_iff_eq.2 hz
    have HZ := Lib.hid hz
    clear hz h hfs
    go_enter Try.func50, Try.ntmps50
    go_wp2_with fail
    go_step3
    go_wp2_with fail
    try rw [Exit.noGoto_ret]
    go_ret3
    refine ⟨none, fun i' k' _ _ _ hh => ?_, rfl, rfl⟩
    have := HZ.out
    unfold Hit at hh
    omega
  · have hzb : (l == 0) = false := beq_eq_false_iff_ne.2 hz
    clear hz
    have c1 := h.c1
    have hV := h.hv
    have hnl := h.ll
    obtain ⟨A, c, rfl, _, _⟩ := h.slc
    have hn : frames.length = fs.length := by rw [← hfs, List.length_map]
    have HF : Hid (∀ i, (hi : i < fs.length) → ∃ gl f, A = some ⟨gl, 0, none⟩ ∧ w.cell? ⟨gl, i, none⟩ = some (.slice (some ⟨f, 0, none⟩) (V + 1) (V + 1)) ∧ ∀ k, k ≤ V → w.cell? ⟨f, k, none⟩ = some (.int .i64 (fat frames i k)) ∧ -65536 ≤ fat frames i k ∧ fat frames i k ≤ 65536) := fun i hi => by
      obtain ⟨gl, c', f, e, _, hf, _, _, _, hci, hcv⟩ := h.at_f hi
      injection e with e
      have hfat : ∀ k, fat frames i k = at_ f.2 k := fun k => by
        rw [fat, ← hfs, List.getD_eq_getElem?_getD, List.getElem?_map, hf]; rfl
      exact ⟨gl, f.1, e, hci, fun k hk => by rw [hfat]; exact ⟨(hcv k hk).1, (h.fr i f hf).2.2.2 k⟩⟩
    rw [hn]
    generalize fs.length = n at *
    clear h hfs hn
    go_enter Try.func50, Try.ntmps50
    go_wp2_with fail
    go_step3
    go_wp2_with fail
    go_step3
    go_wp2_with fail
    go_loop [4, 5, 6, 21] (fun x4 x5 x6 i => ∃ k : Nat, k ≤ n ∧ i = .int .i64 k ∧ x4 = .int .i64 0 ∧ x5 = .int .i64 0 ∧ x6 = .bool false ∧ Hid (∀ i' k', i' < k → 1 ≤ k' → k' ≤ V → ¬ Hit (fat frames i' k') l)) (fun _ _ _ i => n - (intOf i).toNat)
    case atStart => exact ⟨0, Nat.zero_le _, rfl, rfl, rfl, rfl, fun i' k' h => by omega⟩
    case round =>
      obtain ⟨i, hi, rfl, rfl, rfl, rfl, HB⟩ := hrel
      by_cases hlt : i < n
      · obtain ⟨gl, f, rfl, hci, hcv⟩ := HF.out i hlt
        have HCV := Lib.hid hcv
        clear hcv
        go_wp2_with fail
        go_loop [4, 5, 6, 9] (fun x4 x5 x6 x9 => ∃ k : Nat, 1 ≤ k ∧ k ≤ V + 1 ∧ x9 = .int .i64 k ∧ x4 = .int .i64 0 ∧ x5 = .int .i64 0 ∧ x6 = .bool false ∧ Hid (∀ k', 1 ≤ k' → k' < k → ¬ Hit (fat frames i k') l)) (fun _ _ _ x9 => V + 1 - (intOf x9).toNat)
        case atStart => exact ⟨1, by omega, by omega, rfl, rfl, rfl, rfl, fun k' h h' => by omega⟩
        case round =>
          obtain ⟨k, hk1, hk2, rfl, rfl, rfl, rfl, HI⟩ := hrel
          by_cases hkl : k < V + 1
          · obtain ⟨hck, hb1, hb2⟩ := HCV.out k (by omega)
            have hq := neg_eq (fat frames i k) l hb1 hb2 HL3.out HL4.out
            obtain ⟨x, hx⟩ : ∃ x, x = fat frames i k := ⟨_, rfl⟩
            rw [← hx] at hck hb1 hb2 hq
            have HX := Lib.hid hx
            clear hx
            rcases (show x = 0 ∨ (x ≠ 0 ∧ x = l) ∨ (x ≠ 0 ∧ x ≠ l ∧ x = -l) ∨ (x ≠ 0 ∧ x ≠ l ∧ x ≠ -l) from by omega) with q1 | ⟨q1, q2⟩ | ⟨q1, q2, q3⟩ | ⟨q1, q2, q3⟩
            · have e1 : (x != 0) = false := by simp [q1]
              have HN : Hid (¬ Hit (fat frames i k) l) := by show ¬ _; rw [← HX.out]; unfold Hit; omega
              clear q1 hq
              go_wp2_with fail
              go_round
              case rel => exact ⟨k + 1, by omega, by omega, by go_num, rfl, rfl, rfl, fun k' h h' => by
                rcases Nat.lt_or_ge k' k with h9 | h9
                · exact HI.out k' h h9
                · obtain rfl : k' = k := by omega
                  exact HN.out⟩
              case measure => simp [intOf]; omega
            · have e1 : (x != 0) = true := by simpa using q1
              have e2 : (x == l) = true := beq_iff_eq.2 q2
              have HN : Hid (Hit (fat frames i k) l) := by show Hit _ _; rw [← HX.out]; exact ⟨q1, .inl q2⟩
              clear q1 q2 hq
              go_wp2_with fail
              try rw [Exit.noGoto_ret]
              go_ret3
              exact ⟨some (i, k), ⟨hlt, hk1, by omega, HN.out, HB.out, HI.out⟩, rfl, rfl⟩
            · have e1 : (x != 0) = true := by simpa using q1
              have e2 : (x == l) = false := beq_eq_false_iff_ne.2 q2
              have e3 : (x == wrap64 (-l)) = true := hq.trans (decide_eq_true q3)
              have HN : Hid (Hit (fat frames i k) l) := by show Hit _ _; rw [← HX.out]; exact ⟨q1, .inr q3⟩
              clear q1 q2 q3 hq
              go_wp2_with fail
              try rw [Exit.noGoto_ret]
              go_ret3
              exact ⟨some (i, k), ⟨hlt, hk1, by omega, HN.out, HB.out, HI.out⟩, rfl, rfl⟩
            · have e1 : (x != 0) = true := by simpa using q1
              have e2 : (x == l) = false := beq_eq_false_iff_ne.2 q2
              have e3 : (x == wrap64 (-l)) = false := hq.trans (decide_eq_false q3)
              have HN : Hid (¬ Hit (fat frames i k) l) := by show ¬ _; rw [← HX.out]; unfold Hit; omega
              clear q1 q2 q3 hq
              go_wp2_with fail
              go_round
              case rel => exact ⟨k + 1, by omega, by omega, by go_num, rfl, rfl, rfl, fun k' h h' => by
                rcases Nat.lt_or_ge k' k with h9 | h9
                · exact HI.out k' h h9
                · obtain rfl : k' = k := by omega
                  exact HN.out⟩
              case measure => simp [intOf]; omega
          · go_wp2_with fail
            go_round
            case rel => exact ⟨i + 1, by omega, by go_num, rfl, rfl, rfl, fun i' k' h h1 h2 => by
              rcases Nat.lt_or_ge i' i with h9 | h9
              · exact HB.out i' k' h9 h1 h2
              · obtain rfl : i' = i := by omega
                exact HI.out k' h1 (by omega)⟩
            case measure => simp [intOf]; omega
      · go_wp2_with fail
        try rw [Exit.noGoto_ret]
        go_ret3
        refine ⟨none, fun i' k' h1 h2 h3 => HB.out i' k' (by omega) h2 h3, rfl, rfl⟩
end Go.Proofs.Ytcfkagielgnkkaa
