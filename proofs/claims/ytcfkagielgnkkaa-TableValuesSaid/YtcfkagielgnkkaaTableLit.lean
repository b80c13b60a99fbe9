/- The table's Lit. -/
import Derived.Test.YtcfkagielgnkkaaTableSet
namespace Go.Proofs.Ytcfkagielgnkkaa
open Go.RowKit Pl
set_option linter.unusedVariables false
def litT (V : Nat) (frames : List (List Int)) (frame l : Int) : Int :=
  if frame < 0 ∨ (frames.length : Int) ≤ frame ∨ l < 0 ∨ (V : Int) < l / 2 then 0 else if l % 2 = 1 then - at_ (frames.getD frame.toNat []) (l / 2).toNat else at_ (frames.getD frame.toNat []) (l / 2).toNat
set_option maxHeartbeats 800000 in
theorem tlit_any {w : World} {base V g : Nat} {frames : List (List Int)} (frame l : Int) (h : TS w base V g frames) (hl : l ≤ 9223372036854775807) :
    Calls Try.prog 58 #[.pointer (some ⟨g, 0, none⟩), .int .i64 frame, .int .i64 l] w fun e w' => e = .returned (.int .i64 (litT V frames frame l)) ∧ ∃ q, w' = w.drewN q := by
  have HT := Lib.hid h
  obtain ⟨lv, fs, h, hfs⟩ := h
  have c0 := h.c0
  have c1 := h.c1
  have hV := h.hv
  have hn : frames.length ≤ 1000000 := by rw [← hfs, List.length_map]; exact h.ll
  obtain ⟨n, hnn⟩ : ∃ n, n = frames.length := ⟨_, rfl⟩
  have hnf : n = fs.length := by rw [hnn, ← hfs, List.length_map]
  rw [← hnn] at hn
  have HN := Lib.hid hnn
  clear hnn
  rcases (show frame < 0 ∨ (0 ≤ frame ∧ (n : Int) ≤ frame) ∨ (0 ≤ frame ∧ frame < n ∧ l < 0) ∨ (0 ≤ frame ∧ frame < n ∧ 0 ≤ l ∧ (V : Int) < l / 2) ∨ (0 ≤ frame ∧ frame < n ∧ 0 ≤ l ∧ l / 2 ≤ V) from by omega) with h1 | ⟨h1, h2⟩ | ⟨h1, h2, h3⟩ | ⟨h1, h2, h3, h4⟩ | ⟨h1, h2, h3, h4⟩
  · have HE := Lib.hid (show litT V frames frame l = 0 from by rw [litT, if_pos (.inl h1)])
    have d1 : decide (frame < 0) = true := by simpa using h1
    clear h hfs hnf
    go_enter Try.func58, Try.ntmps58
    go_wp2_with fail
    go_quiet (fail)
    go_wp2_with fail
    go_ret
    exact ⟨by rw [HE.out]; rfl, nq, rfl⟩
  · have HE := Lib.hid (show litT V frames frame l = 0 from by rw [litT, ← HN.out, if_pos (.inr (.inl h2))])
    have d1 : decide (frame < 0) = false := by simpa using h1
    have d2 : decide ((n : Int) ≤ frame) = true := by simpa using h2
    have HF : Hid (∀ q, Calls Try.prog 60 #[.pointer (some ⟨g, 0, none⟩)] (w.drewN q) fun e w' => e = .returned (.int .i64 (n : Int)) ∧ w.drewN q = w') := fun q => by rw [HN.out]; exact frames_any (HT.out.drewN q)
    clear h hfs hnf
    go_enter Try.func58, Try.ntmps58
    go_wp2_with fail
    go_quiet ((first | (go_at_call 60; exact quiet_left (HF.out _))))
    go_wp2_with fail
    go_ret
    exact ⟨by rw [HE.out]; rfl, nq, rfl⟩
  · have HE := Lib.hid (show litT V frames frame l = 0 from by rw [litT, if_pos (.inr (.inr (.inl h3)))])
    have d1 : decide (frame < 0) = false := by simpa using h1
    have d2 : decide ((n : Int) ≤ frame) = false := by simpa using h2
    have d3 : decide (l < 0) = true := by simpa using h3
    have HF : Hid (∀ q, Calls Try.prog 60 #[.pointer (some ⟨g, 0, none⟩)] (w.drewN q) fun e w' => e = .returned (.int .i64 (n : Int)) ∧ w.drewN q = w') := fun q => by rw [HN.out]; exact frames_any (HT.out.drewN q)
    clear h hfs hnf
    go_enter Try.func58, Try.ntmps58
    go_wp2_with fail
    go_quiet ((first | (go_at_call 60; exact quiet_left (HF.out _))))
    go_wp2_with fail
    go_ret
    exact ⟨by rw [HE.out]; rfl, nq, rfl⟩
  · have HE := Lib.hid (show litT V frames frame l = 0 from by rw [litT, if_pos (.inr (.inr (.inr h4)))])
    have d1 : decide (frame < 0) = false := by simpa using h1
    have d2 : decide ((n : Int) ≤ frame) = false := by simpa using h2
    have d3 : decide (l < 0) = false := by simpa using h3
    have d4 : decide ((V : Int) < l / 2) = true := by simpa using h4
    have HF : Hid (∀ q, Calls Try.prog 60 #[.pointer (some ⟨g, 0, none⟩)] (w.drewN q) fun e w' => e = .returned (.int .i64 (n : Int)) ∧ w.drewN q = w') := fun q => by rw [HN.out]; exact frames_any (HT.out.drewN q)
    have HV : Hid (∀ q, Calls Try.prog 65 #[.int .i64 l] (w.drewN q) fun e w' => e = .returned (.int .i64 (l / 2)) ∧ w.drewN q = w') := fun q => var_any l _ h3 hl
    clear h hfs hnf
    go_enter Try.func58, Try.ntmps58
    go_wp2_with fail
    go_quiet ((first | (go_at_call 60; exact quiet_left (HF.out _)) | (go_at_call 65; exact quiet_left (HV.out _))))
    go_wp2_with fail
    go_ret
    exact ⟨by rw [HE.out]; rfl, nq, rfl⟩
  · obtain ⟨i, rfl⟩ := Int.eq_ofNat_of_zero_le h1
    obtain ⟨v, hv⟩ := Int.eq_ofNat_of_zero_le (show 0 ≤ l / 2 by omega)
    obtain ⟨gl, c, f, rfl, hlc, hf, n1, n2, n3, hci, hcv⟩ := h.at_f (i := i) (by omega)
    obtain ⟨hcv, hfv⟩ := hcv v (by omega)
    have hb := (h.fr i f hf).2.2.2 v
    have HE := Lib.hid (show litT V frames i l = if l % 2 = 1 then - at_ f.2 v else at_ f.2 v from by
      rw [litT, if_neg (by rw [← HN.out]; omega), hv, Int.toNat_natCast, Int.toNat_natCast, ← hfs, List.getD_eq_getElem?_getD, List.getElem?_map, hf]; rfl)
    have d1 : decide ((i : Int) < 0) = false := by simp
    have d2 : decide ((n : Int) ≤ i) = false := by simp; omega
    have d3 : decide (l < 0) = false := by simpa using h3
    have d4 : decide ((V : Int) < l / 2) = false := by simpa using h4
    rw [← hnf] at c1 hlc
    have HF : Hid (∀ q, Calls Try.prog 60 #[.pointer (some ⟨g, 0, none⟩)] (w.drewN q) fun e w' => e = .returned (.int .i64 (n : Int)) ∧ w.drewN q = w') := fun q => by rw [HN.out]; exact frames_any (HT.out.drewN q)
    have HV : Hid (∀ q, Calls Try.prog 65 #[.int .i64 l] (w.drewN q) fun e w' => e = .returned (.int .i64 (l / 2)) ∧ w.drewN q = w') := fun q => var_any l _ h3 hl
    have HV2 : Hid (∀ q, Calls Try.prog 65 #[.int .i64 l] (w.drewN q) fun e w' => e = .returned (.int .i64 (v : Int)) ∧ w.drewN q = w') := fun q => by
      have := HV.out q
      rw [hv] at this
      exact this
    generalize at_ f.2 v = x at *
    have hin : i < n := by omega
    have hvn : v < V + 1 := by omega
    clear h hfs hnf hf hv hfv
    go_enter Try.func58, Try.ntmps58
    go_wp2_with fail
    go_quiet ((first | (go_at_call 60; exact quiet_left (HF.out _)) | (go_at_call 65; exact quiet_left (HV.out _))))
    go_wp2_with fail
    go_quiet ((go_at_call 65; exact quiet_add_left (HV2.out _)))
    go_wp2_with fail
    refine (neg_any l _ h3 hl).mono ?_
    rintro e w1 ⟨rfl, rfl⟩
    rcases hp : (l % 2 == 1) with _ | _
    · have HP := Lib.hid hp
      clear hp
      go_wp2_with fail
      go_ret
      refine ⟨ret_int ?_, _, rfl⟩
      rw [HE.out, if_neg (by simpa using HP.out)]
    · have HP := Lib.hid hp
      clear hp
      go_wp2_with fail
      go_ret
      refine ⟨ret_int ?_, _, rfl⟩
      rw [HE.out, if_pos (by simpa using HP.out)]
end Go.Proofs.Ytcfkagielgnkkaa
