/- The value of a literal in a model: Holds of one literal, and the reference's. -/
import Derived.Test.YtcfkagielgnkkaaTableRef2
namespace Go.Proofs.Ytcfkagielgnkkaa
open Go.RowKit Pl
set_option linter.unusedVariables false
def absI (x : Int) : Int := if x < 0 then -x else x
def valB (x : Int) (model : List Bool) : Bool := decide (0 < x) == (decide (absI x < model.length) && model.getD (absI x).toNat false)
theorem abs_any (x : Int) (w : World) (h1 : -65536 ≤ x) (h2 : x ≤ 65536) : Calls Try.prog 88 #[.int .i64 x] w fun e w' => e = .returned (.int .i64 (absI x)) ∧ w = w' := by
  unfold absI
  by_cases h : x < 0
  · rw [if_pos h]
    go_enter Try.func88, Try.ntmps88
    go_wp2
    go_ret
    exact ⟨ret_int (by omega), rfl⟩
  · rw [if_neg h]
    go_enter Try.func88, Try.ntmps88
    go_wp2
    go_ret
    exact ⟨ret_int (by omega), rfl⟩
theorem refAbs_any (x : Int) (w : World) (h1 : -65536 ≤ x) (h2 : x ≤ 65536) : Calls Try.prog 89 #[.int .i64 x] w fun e w' => e = .returned (.int .i64 (absI x)) ∧ w = w' := by
  unfold absI
  by_cases h : x < 0
  · rw [if_pos h]
    go_enter Try.func89, Try.ntmps89
    go_wp2
    go_ret
    exact ⟨rfl, rfl⟩
  · rw [if_neg h]
    go_enter Try.func89, Try.ntmps89
    go_wp2
    go_ret
    exact ⟨rfl, rfl⟩
set_option maxHeartbeats 400000 in
theorem refLit17_any (x : Int) (A : Option Addr) (n c B : Nat) (model : List Bool) (w : World) (hR : Reads w B 1 A n (model.map Value.bool)) (hn : n ≤ 9223372036854775807) (h1 : -65536 ≤ x) (h2 : x ≤ 65536) :
    Calls Try.prog 82 #[.int .i64 x, .slice A n c] w fun e w' => e = .returned (.bool (valB x model)) ∧ w = w' := by
  have hl : model.length = n := by have := hR.1; simpa using this
  have ha0 : 0 ≤ absI x := by unfold absI; split <;> omega
  obtain ⟨k, hk⟩ := Int.eq_ofNat_of_zero_le ha0
  have HE : Hid (valB x model = (decide (0 < x) == (decide (k < n) && model.getD k false))) := by
    show valB x model = _
    rw [valB, hk, hl, Int.toNat_natCast]; simp
  have HK := Lib.hid hk
  clear hk ha0 hl
  by_cases hlt : k < n
  · obtain ⟨b, off, rfl, hbB, hcell⟩ := hR.boolAt (k := k) hlt
    have HE2 := Lib.hid (show valB x model = (decide (0 < x) == model.getD k false) from by rw [HE.out, decide_eq_true hlt, Bool.true_and])
    generalize model.getD k false = mb at *
    clear HE
    go_enter Try.func82, Try.ntmps82
    go_wp2_with fail
    refine (refAbs_any x _ h1 h2).mono ?_
    rw [HK.out]
    rintro e w' ⟨rfl, rfl⟩
    go_wp2_with fail
    go_ret
    exact ⟨ret_bool (by rw [HE2.out, Bool.beq_comm]), rfl⟩
  · have HE2 := Lib.hid (show valB x model = (decide (0 < x) == false) from by rw [HE.out, decide_eq_false hlt, Bool.false_and])
    have hd : decide (k < n) = false := by simpa using hlt
    clear HE
    go_enter Try.func82, Try.ntmps82
    go_wp2_with fail
    refine (refAbs_any x _ h1 h2).mono ?_
    rw [HK.out]
    rintro e w' ⟨rfl, rfl⟩
    go_wp2_with fail
    go_ret
    exact ⟨ret_bool (by rw [HE2.out]; cases decide (0 < x) <;> rfl), rfl⟩
set_option maxHeartbeats 400000 in
theorem holds1_any (x : Int) (g : Nat) (A : Option Addr) (n c B : Nat) (model : List Bool) (w : World) (hg : w.cell? ⟨g, 0, none⟩ = some (.slice A n c)) (hR : Reads w B 1 A n (model.map Value.bool)) (hn : n ≤ 9223372036854775807) (h1 : -65536 ≤ x) (h2 : x ≤ 65536) :
    Calls Try.prog 87 #[.int .i64 x, .pointer (some ⟨g, 0, none⟩)] w fun e w' => e = .returned (.bool (valB x model)) ∧ w = w' := by
  have hl : model.length = n := by have := hR.1; simpa using this
  have ha0 : 0 ≤ absI x := by unfold absI; split <;> omega
  obtain ⟨k, hk⟩ := Int.eq_ofNat_of_zero_le ha0
  have HE : Hid (valB x model = (decide (0 < x) == (decide (k < n) && model.getD k false))) := by
    show valB x model = _
    rw [valB, hk, hl, Int.toNat_natCast]; simp
  have HK := Lib.hid hk
  clear hk ha0 hl
  by_cases hlt : k < n
  · obtain ⟨b, off, rfl, hbB, hcell⟩ := hR.boolAt (k := k) hlt
    have HE2 := Lib.hid (show valB x model = (decide (0 < x) == model.getD k false) from by rw [HE.out, decide_eq_true hlt, Bool.true_and])
    generalize model.getD k false = mb at *
    clear HE
    go_enter Try.func87, Try.ntmps87
    go_wp2_with fail
    refine (abs_any x _ h1 h2).mono ?_
    rw [HK.out]
    rintro e w' ⟨rfl, rfl⟩
    go_wp2_with fail
    go_ret
    exact ⟨ret_bool (by rw [HE2.out]), rfl⟩
  · have HE2 := Lib.hid (show valB x model = (decide (0 < x) == false) from by rw [HE.out, decide_eq_false hlt, Bool.false_and])
    have hd : decide (k < n) = false := by simpa using hlt
    clear HE
    go_enter Try.func87, Try.ntmps87
    go_wp2_with fail
    refine (abs_any x _ h1 h2).mono ?_
    rw [HK.out]
    rintro e w' ⟨rfl, rfl⟩
    go_wp2_with fail
    go_ret
    exact ⟨ret_bool (by rw [HE2.out]; cases decide (0 < x) <;> rfl), rfl⟩
def idxB (b : Bool) : Int := if b then 0 else -1
set_option maxHeartbeats 400000 in
theorem index1_any (x : Int) (g gb : Nat) (A : Option Addr) (n c B : Nat) (model : List Bool) (w : World) (hgb : w.cell? ⟨gb, 0, none⟩ = some (.int .i64 x)) (hg : w.cell? ⟨g, 0, none⟩ = some (.slice A n c)) (hR : Reads w B 1 A n (model.map Value.bool)) (hn : n ≤ 9223372036854775807) (h1 : -65536 ≤ x) (h2 : x ≤ 65536) :
    Calls Try.prog 91 #[.slice (some ⟨gb, 0, none⟩) 1 1, .func (.func 87) #[] #[.pointer (some ⟨g, 0, none⟩)]] w fun e w' => e = .returned (.int .i64 (idxB (valB x model))) ∧ w = w' := by
  go_enter Try.func91, Try.ntmps91
  go_wp2_with fail
  go_loop [8] (fun i => ∃ k : Nat, k ≤ 1 ∧ i = .int .i64 k ∧ Hid (k = 1 → valB x model = false)) (fun i => 1 - (intOf i).toNat)
  case atStart => exact ⟨0, Nat.zero_le _, rfl, fun h => by omega⟩
  case round =>
    obtain ⟨k, hk, rfl, hf⟩ := hrel
    by_cases hlt : k < 1
    · obtain rfl : k = 0 := by omega
      go_wp2_with fail
      refine (holds1_any x g A n c B model _ hg hR hn h1 h2).mono ?_
      rintro e w' ⟨rfl, rfl⟩
      rcases hv : valB x model with _ | _
      · have HV := Lib.hid hv
        clear hv
        go_wp2_with fail
        go_round
        case rel => exact ⟨1, by omega, by go_num, fun _ => HV.out⟩
        case measure => simp [intOf]
      · have HV := Lib.hid hv
        clear hv
        go_wp2_with fail
        go_ret
        exact ⟨ret_int (by rw [HV.out]; rfl), rfl⟩
    · obtain rfl : k = 1 := by omega
      have HV := Lib.hid (hf.out rfl)
      clear hf
      go_wp2_with fail
      go_ret
      exact ⟨ret_int (by rw [HV.out]; rfl), rfl⟩

theorem contains1_any (x : Int) (g gb : Nat) (A : Option Addr) (n c B : Nat) (model : List Bool) (w : World) (hgb : w.cell? ⟨gb, 0, none⟩ = some (.int .i64 x)) (hg : w.cell? ⟨g, 0, none⟩ = some (.slice A n c)) (hR : Reads w B 1 A n (model.map Value.bool)) (hn : n ≤ 9223372036854775807) (h1 : -65536 ≤ x) (h2 : x ≤ 65536) :
    Calls Try.prog 86 #[.slice (some ⟨gb, 0, none⟩) 1 1, .func (.func 87) #[] #[.pointer (some ⟨g, 0, none⟩)]] w fun e w' => e = .returned (.bool (valB x model)) ∧ w = w' := by
  go_enter Try.func86, Try.ntmps86
  go_wp2_with fail
  refine (index1_any x g gb A n c B model _ hgb hg hR hn h1 h2).mono ?_
  rcases hv : valB x model with _ | _
  · rw [show idxB false = -1 from rfl]
    rintro e w' ⟨rfl, rfl⟩
    have HV := Lib.hid hv
    clear hv
    go_wp2_with fail
    go_ret
    exact ⟨ret_bool (by rw [HV.out]), rfl⟩
  · rw [show idxB true = 0 from rfl]
    rintro e w' ⟨rfl, rfl⟩
    have HV := Lib.hid hv
    clear hv
    go_wp2_with fail
    go_ret
    exact ⟨ret_bool (by rw [HV.out]), rfl⟩
theorem holds_one {w : World} (x : Int) (gb : Nat) (A : Option Addr) (n c B : Nat) (model : List Bool) (hgb : w.cell? ⟨gb, 0, none⟩ = some (.int .i64 x)) (hR : Reads w B 1 A n (model.map Value.bool)) (hB : B ≤ w.heap.size) (hn : n ≤ 9223372036854775807) (h1 : -65536 ≤ x) (h2 : x ≤ 65536) :
    Calls Try.prog 81 #[.slice (some ⟨gb, 0, none⟩) 1 1, .slice A n c] w fun e w' => e = .returned (.bool (valB x model)) ∧ Below w.heap.size w w' := by
  have hbl := World.block_lt_of_cell? w _ hgb
  have hg2 : (w.alloc (.cells #[.slice A n c] 22)).cell? ⟨gb, 0, none⟩ = some (.int .i64 x) := by rw [World.cell?_alloc_lt _ _ _ hbl]; exact hgb
  have hg3 : (w.alloc (.cells #[.slice A n c] 22)).cell? ⟨w.heap.size, 0, none⟩ = some (.slice A n c) := by simp
  have hR2 := hR.alloc hB (.cells #[.slice A n c] 22)
  go_enter Try.func81, Try.ntmps81
  go_wp2_with fail
  refine (contains1_any x w.heap.size gb A n c B model _ hg2 hg3 hR2 hn h1 h2).mono ?_
  rintro e w' ⟨rfl, rfl⟩
  go_wp2_with fail
  go_ret
  exact ⟨rfl, (Below.refl _ _).alloc (Nat.le_refl _) _⟩
def tval (x : Int) (model : List Bool) : Bool := x != 0 && valB x model
set_option maxHeartbeats 400000 in
theorem tvalue_any {w : World} {base V g : Nat} {frames : List (List Int)} (frame l : Int) (A : Option Addr) (n c B : Nat) (model : List Bool) (h : TS w base V g frames) (hl : l ≤ 9223372036854775807)
    (hR : Reads w B 1 A n (model.map Value.bool)) (hB : B ≤ w.heap.size) (hn : n ≤ 9223372036854775807) (hb1 : -65536 ≤ litT V frames frame l) (hb2 : litT V frames frame l ≤ 65536) :
    Calls Try.prog 52 #[.pointer (some ⟨g, 0, none⟩), .int .i64 frame, .int .i64 l, .slice A n c] w fun e w' => e = .returned (.bool (tval (litT V frames frame l) model)) ∧ Below w.heap.size w w' := by
  have HT := Lib.hid h
  clear h
  obtain ⟨x, hx⟩ : ∃ x, x = litT V frames frame l := ⟨_, rfl⟩
  rw [← hx] at hb1 hb2
  have HX := Lib.hid hx
  clear hx
  go_enter Try.func52, Try.ntmps52
  go_wp2_with fail
  refine (tlit_any frame l HT.out hl).mono ?_
  rw [← HX.out]
  rintro e w1 ⟨rfl, q, rfl⟩
  by_cases hx : x = 0
  · subst hx
    go_wp2_with fail
    go_ret
    exact ⟨ret_bool (by rw [← HX.out]; rfl), below_drewN (Below.refl _ _) q⟩
  · have hx' : (x != 0) = true := by simpa using hx
    have HX' := Lib.hid hx'
    have hgb : (w.alloc (.cells #[.int .i64 x] 3)).cell? ⟨w.heap.size, 0, none⟩ = some (.int .i64 x) := by simp
    have hR2 := hR.alloc hB (.cells #[.int .i64 x] 3)
    clear hx
    go_wp2_with fail
    refine (holds_one x w.heap.size A n c B model (w := (w.alloc (.cells #[.int .i64 x] 3)).drewN q) hgb (hR2.drewN q) (by simp; omega) hn hb1 hb2).mono ?_
    rintro e w2 ⟨rfl, hb⟩
    have HB := Lib.hid hb
    clear hb hgb hR2
    go_wp2_with fail
    go_ret
    have hb0 : Below w.heap.size w ((w.alloc (.cells #[.int .i64 x] 3)).drewN q) := below_drewN ((Below.refl _ _).alloc (Nat.le_refl _) _) q
    exact ⟨ret_bool (by rw [← HX.out, tval, HX'.out]; rfl), hb0.trans (HB.out.mono hb0.size)⟩
set_option maxHeartbeats 400000 in
theorem rvalue_any {w : World} {g V n : Nat} {cs : List Cell3} {D : Nat → Prop} (frame l : Int) (A : Option Addr) (nm c B : Nat) (model : List Bool) (h : RD w g V n cs D) (hl : l ≤ 9223372036854775807)
    (hR : Reads w B 1 A nm (model.map Value.bool)) (hn : nm ≤ 9223372036854775807) (hb1 : -65536 ≤ litR n cs frame l) (hb2 : litR n cs frame l ≤ 65536) :
    Calls Try.prog 53 #[.pointer (some ⟨g, 0, none⟩), .int .i64 frame, .int .i64 l, .slice A nm c] w fun e w' => e = .returned (.bool (tval (litR n cs frame l) model)) ∧ w = w' := by
  have HT := Lib.hid h
  clear h
  obtain ⟨x, hx⟩ : ∃ x, x = litR n cs frame l := ⟨_, rfl⟩
  rw [← hx] at hb1 hb2
  have HX := Lib.hid hx
  clear hx
  go_enter Try.func53, Try.ntmps53
  go_wp2_with fail
  refine (rlit_any frame l HT.out hl).mono ?_
  rw [← HX.out]
  rintro e w1 ⟨rfl, rfl⟩
  by_cases hx : x = 0
  · subst hx
    go_wp2_with fail
    go_ret
    exact ⟨ret_bool (by rw [← HX.out]; rfl), rfl⟩
  · have hx' : (x != 0) = true := by simpa using hx
    have HX' := Lib.hid hx'
    clear hx
    go_wp2_with fail
    refine (refLit17_any x A nm c B model _ hR hn hb1 hb2).mono ?_
    rintro e w2 ⟨rfl, rfl⟩
    go_wp2_with fail
    go_ret
    exact ⟨ret_bool (by rw [← HX.out, tval, HX'.out]; rfl), rfl⟩
end Go.Proofs.Ytcfkagielgnkkaa
