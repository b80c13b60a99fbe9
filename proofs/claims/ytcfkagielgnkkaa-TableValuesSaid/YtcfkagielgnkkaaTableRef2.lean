/- The reference table's Lit; the value of a literal in a model; Holds. -/
import Derived.Test.YtcfkagielgnkkaaTableRef
namespace Go.Proofs.Ytcfkagielgnkkaa
open Go.RowKit Pl
set_option linter.unusedVariables false
set_option maxHeartbeats 1600000 in
theorem rlit_any {w : World} {g V n : Nat} {cs : List Cell3} {D : Nat → Prop} (frame l : Int) (h : RD w g V n cs D) (hl : l ≤ 9223372036854775807) :
    Calls Try.prog 80 #[.pointer (some ⟨g, 0, none⟩), .int .i64 frame, .int .i64 l] w fun e w' => e = .returned (.int .i64 (litR n cs frame l)) ∧ w = w' := by
  obtain ⟨cv, h, _⟩ := h
  have c1 := h.c1
  have c2 := h.c2
  have hn := h.hn
  have hV := h.hv
  have hm := h.ll
  rcases (show frame < 0 ∨ (0 ≤ frame ∧ (n : Int) ≤ frame) ∨ (0 ≤ frame ∧ frame < n ∧ l < 0) ∨ (0 ≤ frame ∧ frame < n ∧ 0 ≤ l) from by omega) with h1 | ⟨h1, h2⟩ | ⟨h1, h2, h3⟩ | ⟨h1, h2, h3⟩
  · have HE := Lib.hid (show litR n cs frame l = 0 from by rw [litR, if_pos (.inl h1)])
    clear h
    go_enter Try.func80, Try.ntmps80
    go_wp2_with fail
    go_ret
    exact ⟨by rw [HE.out]; rfl, rfl⟩
  · have HE := Lib.hid (show litR n cs frame l = 0 from by rw [litR, if_pos (.inr (.inl h2))])
    clear h
    go_enter Try.func80, Try.ntmps80
    go_wp2_with fail
    go_ret
    exact ⟨by rw [HE.out]; rfl, rfl⟩
  · have HE := Lib.hid (show litR n cs frame l = 0 from by rw [litR, if_pos (.inr (.inr h3))])
    clear h
    go_enter Try.func80, Try.ntmps80
    go_wp2_with fail
    go_ret
    exact ⟨by rw [HE.out]; rfl, rfl⟩
  · obtain ⟨v, hv⟩ : ∃ v, v = l / 2 := ⟨_, rfl⟩
    have HE := Lib.hid (show litR n cs frame l = if l % 2 = 1 then - look cs frame v else look cs frame v from by rw [litR, if_neg (by omega), hv])
    have HB := Lib.hid (fun k => look_bnd (cs.take k) frame v (fun c hc => ⟨(h.bnd c (List.mem_of_mem_take hc)).2.2.2.2.1, (h.bnd c (List.mem_of_mem_take hc)).2.2.2.2.2⟩))
    have hv0 : 0 ≤ v := by omega
    have HV := Lib.hid hv
    obtain ⟨A, c, rfl, _, _⟩ := h.slc
    have HH := Lib.hid h
    obtain ⟨m, hmm⟩ : ∃ m, m = cs.length := ⟨_, rfl⟩
    rw [← hmm] at c2 hm
    have HM := Lib.hid hmm
    clear h hv hmm
    rcases (show v = 0 ∨ v ≠ 0 from by omega) with hz | hz
    · have hzb : (v == 0) = true := beq_iff_eq.2 hz
      have HST : Hid (look [] frame v = -1) := by show (if v = 0 then (-1 : Int) else 0) = _; rw [if_pos hz]
      clear hz
      go_enter Try.func80, Try.ntmps80
      go_wp2_with fail
      refine (refVar_any l _ h3 hl).mono ?_
      rw [← HV.out]
      rintro e w' ⟨rfl, rfl⟩
      go_wp2_with fail
      go_loop [7, 9] (fun o i => ∃ k : Nat, k ≤ m ∧ i = .int .i64 k ∧ o = .int .i64 (look (cs.take k) frame v)) (fun _ i => m - (intOf i).toNat)
      case atStart => exact ⟨0, Nat.zero_le _, rfl, by rw [List.take_zero, HST.out]⟩
      case round =>
        obtain ⟨k, hk, rfl, rfl⟩ := hrel
        by_cases hlt : k < m
        · obtain ⟨gl, c', x, e1, hx, x0, x1, x2⟩ := HH.out.at_c (k := k) (by have := HM.out; omega)
          injection e1 with e1 e2 e3
          subst e1 e3
          have HS := Lib.hid (show look (cs.take (k + 1)) frame v = _ from by rw [take_snoc3 cs k x hx, look_snoc])
          clear hx e2
          obtain ⟨xf, xv, xl⟩ := x
          simp only at x0 x1 x2 HS
          generalize look (cs.take k) frame v = o at *
          rcases (show (xf = frame ∧ xv = v) ∨ (xf = frame ∧ xv ≠ v) ∨ xf ≠ frame from by omega) with ⟨q1, q2⟩ | ⟨q1, q2⟩ | q1
          · subst q1 q2
            go_wp2_with fail
            go_round
            case rel => exact ⟨k + 1, by omega, by go_num, by rw [HS.out, if_pos ⟨rfl, rfl⟩]⟩
            case measure => simp [intOf]; omega
          · have q2' : (xv == v) = false := beq_eq_false_iff_ne.2 q2
            have HQ := Lib.hid q2
            subst q1
            clear q2
            go_wp2_with fail
            go_round
            case rel => exact ⟨k + 1, by omega, by go_num, by rw [HS.out, if_neg (fun h => HQ.out h.2)]⟩
            case measure => simp [intOf]; omega
          · have q1' : (xf == frame) = false := beq_eq_false_iff_ne.2 q1
            have HQ := Lib.hid q1
            clear q1
            go_wp2_with fail
            go_round
            case rel => exact ⟨k + 1, by omega, by go_num, by rw [HS.out, if_neg (fun h => HQ.out h.1)]⟩
            case measure => simp [intOf]; omega
        · have hkm : cs.take k = cs := List.take_of_length_le (by have := HM.out; omega)
          have hbk := HB.out k
          rw [hkm] at hbk ⊢
          clear hkm
          generalize look cs frame v = o at *
          go_wp2_with fail
          refine (refNeg_any l _ h3 hl).mono ?_
          rintro e w1 ⟨rfl, rfl⟩
          rcases hp : (l % 2 == 1) with _ | _
          · have HP := Lib.hid hp
            clear hp
            go_wp2_with fail
            go_ret
            refine ⟨ret_int ?_, rfl⟩
            rw [HE.out, if_neg (by simpa using HP.out)]
          · have HP := Lib.hid hp
            clear hp
            go_wp2_with fail
            go_ret
            refine ⟨ret_int ?_, rfl⟩
            rw [HE.out, if_pos (by simpa using HP.out)]
    · have hzb : (v == 0) = false := beq_eq_false_iff_ne.2 hz
      have HST : Hid (look [] frame v = 0) := by show (if v = 0 then (-1 : Int) else 0) = _; rw [if_neg hz]
      clear hz
      go_enter Try.func80, Try.ntmps80
      go_wp2_with fail
      refine (refVar_any l _ h3 hl).mono ?_
      rw [← HV.out]
      rintro e w' ⟨rfl, rfl⟩
      go_wp2_with fail
      go_loop [7, 9] (fun o i => ∃ k : Nat, k ≤ m ∧ i = .int .i64 k ∧ o = .int .i64 (look (cs.take k) frame v)) (fun _ i => m - (intOf i).toNat)
      case atStart => exact ⟨0, Nat.zero_le _, rfl, by rw [List.take_zero, HST.out]⟩
      case round =>
        obtain ⟨k, hk, rfl, rfl⟩ := hrel
        by_cases hlt : k < m
        · obtain ⟨gl, c', x, e1, hx, x0, x1, x2⟩ := HH.out.at_c (k := k) (by have := HM.out; omega)
          injection e1 with e1 e2 e3
          subst e1 e3
          have HS := Lib.hid (show look (cs.take (k + 1)) frame v = _ from by rw [take_snoc3 cs k x hx, look_snoc])
          clear hx e2
          obtain ⟨xf, xv, xl⟩ := x
          simp only at x0 x1 x2 HS
          generalize look (cs.take k) frame v = o at *
          rcases (show (xf = frame ∧ xv = v) ∨ (xf = frame ∧ xv ≠ v) ∨ xf ≠ frame from by omega) with ⟨q1, q2⟩ | ⟨q1, q2⟩ | q1
          · subst q1 q2
            go_wp2_with fail
            go_round
            case rel => exact ⟨k + 1, by omega, by go_num, by rw [HS.out, if_pos ⟨rfl, rfl⟩]⟩
            case measure => simp [intOf]; omega
          · have q2' : (xv == v) = false := beq_eq_false_iff_ne.2 q2
            have HQ := Lib.hid q2
            subst q1
            clear q2
            go_wp2_with fail
            go_round
            case rel => exact ⟨k + 1, by omega, by go_num, by rw [HS.out, if_neg (fun h => HQ.out h.2)]⟩
            case measure => simp [intOf]; omega
          · have q1' : (xf == frame) = false := beq_eq_false_iff_ne.2 q1
            have HQ := Lib.hid q1
            clear q1
            go_wp2_with fail
            go_round
            case rel => exact ⟨k + 1, by omega, by go_num, by rw [HS.out, if_neg (fun h => HQ.out h.1)]⟩
            case measure => simp [intOf]; omega
        · have hkm : cs.take k = cs := List.take_of_length_le (by have := HM.out; omega)
          have hbk := HB.out k
          rw [hkm] at hbk ⊢
          clear hkm
          generalize look cs frame v = o at *
          go_wp2_with fail
          refine (refNeg_any l _ h3 hl).mono ?_
          rintro e w1 ⟨rfl, rfl⟩
          rcases hp : (l % 2 == 1) with _ | _
          · have HP := Lib.hid hp
            clear hp
            go_wp2_with fail
            go_ret
            refine ⟨ret_int ?_, rfl⟩
            rw [HE.out, if_neg (by simpa using HP.out)]
          · have HP := Lib.hid hp
            clear hp
            go_wp2_with fail
            go_ret
            refine ⟨ret_int ?_, rfl⟩
            rw [HE.out, if_pos (by simpa using HP.out)]
end Go.Proofs.Ytcfkagielgnkkaa
