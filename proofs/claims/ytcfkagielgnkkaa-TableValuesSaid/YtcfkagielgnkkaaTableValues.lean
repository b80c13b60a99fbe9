/- The walk of TableValues. -/
import Derived.Test.YtcfkagielgnkkaaTableMade2
import Derived.Test.YtcfkagielgnkkaaBitsEval
namespace Go.Proofs.Ytcfkagielgnkkaa
open Go.RowKit Pl
set_option linter.unusedVariables false
theorem RetVals.one {w w' : World} {on : Prop} {l : List Bool} {e : Ending} (h : RetVals w on l e w') : ∃ (xs : List Bool) (m : Nat) (A : Option Addr) (c : Nat), e = .returned (.slice A m c) ∧ m ≤ c ∧ c ≤ 9223372036854775807 ∧ Reads w' w'.heap.size 1 A m (xs.map Value.bool) ∧ Below w.heap.size w w' ∧ (on → xs = l) ∧ (¬ on → xs = []) ∧ xs.length = m := by
  rcases h with ⟨h1, A, c, he, hc, hm, ho, hb⟩ | ⟨h1, A, c, he, hc, hm, ho, hb⟩
  · unfold maxLen at hm
    exact ⟨l, _, A, c, he, hc, by omega, Reads.of_own ho, hb, fun _ => rfl, fun h => absurd h1 h, by simp⟩
  · unfold maxLen at hm
    exact ⟨[], _, A, c, he, hc, by omega, Reads.of_own ho, hb, fun h => absurd h h1, fun _ => rfl, by simp⟩
set_option maxRecDepth 100000 in
set_option maxHeartbeats 3200000 in
theorem tableValueswalk (vars : Int) (A1 : Option Addr) (len cap1 : Nat) (l : List Act30) (frame x : Int) (A2 : Option Addr) (lm cap2 : Nat) (model : List Bool) (w : World) (hv : (Lit.int .i64 vars).wf = true)
    (hRL : l.length = len ∧ Reads w w.heap.size 4 A1 len (l.flatMap Act30.cells) ∧ len ≤ cap1 ∧ cap1 ≤ maxLen ∧ ∀ x ∈ l, True)
    (hf : (Lit.int .i64 frame).wf = true) (hx : (Lit.int .i64 x).wf = true)
    (hRM : Reads w w.heap.size 1 A2 lm (model.map Value.bool) ∧ lm ≤ cap2 ∧ cap2 ≤ maxLen) :
    Calls Try.prog 11 #[.int .i64 vars, .slice A1 len cap1, .int .i64 frame, .int .i64 x, .slice A2 lm cap2] w fun e w' => e = .returned (.bool true) ∧ Below w.heap.size w w' := by
  obtain ⟨hll, hRL, hle1, hcap1, _⟩ := hRL
  obtain ⟨hRM, hle2, hcap2⟩ := hRM
  unfold maxLen at hcap1 hcap2
  have hvb := bounds_i64 hv
  have hfb := bounds_i64 hf
  have hxb := bounds_i64 hx
  clear hv hf hx
  have HLL := Lib.hid hll
  clear hll
  rcases (show (60 < len) ∨ (len ≤ 60 ∧ 200 < lm) ∨ (len ≤ 60 ∧ lm ≤ 200 ∧ vars < 0) ∨ (len ≤ 60 ∧ lm ≤ 200 ∧ 0 ≤ vars ∧ 60 < vars) ∨ (len ≤ 60 ∧ lm ≤ 200 ∧ 0 ≤ vars ∧ vars ≤ 60) from by omega) with h1 | ⟨h1, h2⟩ | ⟨h1, h2, h3⟩ | ⟨h1, h2, h3, h4⟩ | ⟨h1, h2, h3, h4⟩
  iterate 4
    · go_enter Try.func11, Try.ntmps11
      go_wp2_with fail
      refine (alive30_any _).mono ?_
      rintro e w4 ⟨rfl, hb4⟩
      go_wp2
      go_ret
      exact ⟨rfl, hb4⟩
  · obtain ⟨V, rfl⟩ := Int.eq_ofNat_of_zero_le h3
    go_enter Try.func11, Try.ntmps11
    go_wp2_with fail
    refine (made_any V A1 len cap1 l w (by omega) h1 HLL.out hRL).mono ?_
    rintro e w1 ⟨g, gr, n, frames, cs, rfl, hMR, hb1⟩
    have HM := Lib.hid hMR
    have HB1 := Lib.hid hb1
    have HRM := Lib.hid hRM
    obtain ⟨D2, rd⟩ := hMR.rd
    have HRD := Lib.hid rd
    clear hMR hb1 hRL hRM rd
    go_wp2_with fail
    refine (tfind_any x HM.out.ts (by omega) (by omega)).mono ?_
    rintro e w' ⟨r, hr, rfl, rfl⟩
    have HR1 := Lib.hid hr
    clear hr
    rw [show findEnd r = .returned (.tuple #[.int .i64 ((r.map (·.1)).getD 0 : Nat), .int .i64 ((r.map (·.2)).getD 0 : Nat), .bool r.isSome]) from rfl]
    go_wp2_with fail
    refine (rfind_any x HRD.out (by omega) (by omega)).mono ?_
    rintro e w' ⟨r', hr, rfl, rfl⟩
    have hrr : r' = r := hr.unique (by have := HR1.out; rw [HM.out.agree.1] at this; exact this.congr (fun i k hi hk => HM.out.agree.fat i k hi hk))
    subst hrr
    clear hr
    rw [show findEnd r' = .returned (.tuple #[.int .i64 ((r'.map (·.1)).getD 0 : Nat), .int .i64 ((r'.map (·.2)).getD 0 : Nat), .bool r'.isSome]) from rfl]
    go_wp2_with fail
    refine (tvalue_any frame x A2 lm cap2 w.heap.size model HM.out.ts (by omega) (HRM.out.below HB1.out) HB1.out.size (by omega) (litT_bnd HM.out.ts frame x).1 (litT_bnd HM.out.ts frame x).2).mono ?_
    rintro e w2 ⟨rfl, hb2⟩
    have HM2 := Lib.hid (HM.out.below hb2)
    have HB2 := Lib.hid (HB1.out.trans (hb2.mono HB1.out.size))
    obtain ⟨D2', rd2⟩ := HM2.out.rd
    have HRD2 := Lib.hid rd2
    clear hb2 rd2
    go_wp2_with fail
    refine (rvalue_any frame x A2 lm cap2 w.heap.size model HRD2.out (by omega) (HRM.out.below HB2.out) (by omega) (litR_bnd HRD2.out frame x).1 (litR_bnd HRD2.out frame x).2).mono ?_
    rw [← HM2.out.agree.lit frame x]
    rintro e w' ⟨rfl, rfl⟩
    go_wp2_with fail
    refine (tvalues_any frame A2 lm cap2 w.heap.size model HM2.out.ts (HRM.out.below HB2.out) HB2.out.size (by omega)).mono ?_
    rintro e w3 hrv
    obtain ⟨xs, m3, A3, c3, rfl, hc3, hm3, hr3, hb3, hx1, hx2, hx3⟩ := hrv.one
    clear hrv
    have HM3 := Lib.hid (HM2.out.below hb3)
    have HB3 := Lib.hid (HB2.out.trans (hb3.mono HB2.out.size))
    obtain ⟨D3, rd3⟩ := HM3.out.rd
    have HRD3 := Lib.hid rd3
    have HR3 := Lib.hid hr3
    have HX3 := Lib.hid hx3
    have HX1 := Lib.hid hx1
    have HX2 := Lib.hid hx2
    clear hb3 rd3 hr3 hx1 hx2 hx3
    go_wp2_with fail
    refine (rvalues_any frame A2 lm cap2 w.heap.size model HRD3.out (HRM.out.below HB3.out) HB3.out.size (by omega)).mono ?_
    rintro e w4 hrv
    obtain ⟨ys, m4, A4, c4, rfl, hc4, hm4, hr4, hb4, hy1, hy2, hy3⟩ := hrv.one
    clear hrv
    have hxy : ys = xs := by
      have hl : frames.length = n := HM.out.agree.1
      by_cases hon : 0 ≤ frame ∧ frame < n
      · rw [hy1 hon, HX1.out (by rw [hl]; exact hon)]
        have : litR n cs frame = litT V frames frame := by funext z; exact (HM.out.agree.lit frame z).symm
        rw [this]
      · rw [hy2 hon, HX2.out (by rw [hl]; exact hon)]
    subst hxy
    have hmm : m4 = m3 := by rw [← hy3, HX3.out]
    subst hmm
    have HR4 := Lib.hid hr4
    have HR3' := Lib.hid (HR3.out.below hb4)
    have HB4 := Lib.hid (HB3.out.trans (hb4.mono HB3.out.size))
    clear hb4 hr4 hy1 hy2 hy3
    go_wp2_with fail
    refine (same_any A3 A4 m4 c3 m4 c4 _ _ ys ys _ HR3'.out HR4.out (by unfold maxLen; omega) (by unfold maxLen; omega)).mono ?_
    rintro e w5 ⟨rfl, q, rfl⟩
    rw [beq_self_eq_true]
    go_wp2_with fail
    refine (alive30_any _).mono ?_
    rintro e w6 ⟨rfl, hb6⟩
    go_wp2
    go_ret
    exact ⟨rfl, (below_drewN HB4.out q).trans (hb6.mono HB4.out.size)⟩
end Go.Proofs.Ytcfkagielgnkkaa
