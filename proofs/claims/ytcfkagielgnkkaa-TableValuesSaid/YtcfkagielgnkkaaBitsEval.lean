/- Eval, Gather of bits and of its reference; Var and Neg of literals. -/
import Derived.Test.YtcfkagielgnkkaaBitsWalk
namespace Go.Proofs.Ytcfkagielgnkkaa
open Go.RowKit Pl
set_option linter.unusedVariables false
theorem ofInt_i64 (a : Nat) (ha : a < 9223372036854775808) : (BitVec.ofInt 64 (a : Int)).toNat = a := by
  rw [BitVec.ofInt_natCast, BitVec.toNat_ofNat]; exact Nat.mod_eq_of_lt (by omega)
theorem i64_and_nat (a b : Nat) (ha : a < 9223372036854775808) (hb : b < 9223372036854775808) : bits .and .i64 (a : Int) (b : Int) = ((a &&& b : Nat) : Int) := by
  have hx : a &&& b < 2 ^ 63 := Nat.and_lt_two_pow _ (by omega)
  show IntKind.i64.wrap ((BitVec.ofInt 64 (a : Int) &&& BitVec.ofInt 64 (b : Int)).toNat : Int) = _
  rw [BitVec.toNat_and, ofInt_i64 a ha, ofInt_i64 b hb, IntKind.wrap_i64]
  omega
theorem i64_and_one (x : Int) (h : 0 ≤ x) (h' : x ≤ 9223372036854775807) : bits .and .i64 x 1 = x % 2 := by
  obtain ⟨n, rfl⟩ := Int.eq_ofNat_of_zero_le h
  rw [show (1 : Int) = ((1 : Nat) : Int) by rfl, i64_and_nat n 1 (by omega) (by omega), Nat.and_one_is_mod]
  omega
theorem var_any (x : Int) (w : World) (h : 0 ≤ x) (h' : x ≤ 9223372036854775807) : Calls Try.prog 65 #[.int .i64 x] w fun e w' => e = .returned (.int .i64 (x / 2)) ∧ w = w' := by
  go_enter Try.func65, Try.ntmps65
  go_wp2
  go_ret
  exact ⟨rfl, rfl⟩
theorem neg_any (x : Int) (w : World) (h : 0 ≤ x) (h' : x ≤ 9223372036854775807) : Calls Try.prog 66 #[.int .i64 x] w fun e w' => e = .returned (.bool (x % 2 == 1)) ∧ w = w' := by
  go_enter Try.func66, Try.ntmps66
  go_wp2
  go_ret
  exact ⟨by rw [i64_and_one x h h']; rfl, rfl⟩
theorem refVar_any (x : Int) (w : World) (h : 0 ≤ x) (h' : x ≤ 9223372036854775807) : Calls Try.prog 67 #[.int .i64 x] w fun e w' => e = .returned (.int .i64 (x / 2)) ∧ w = w' := by
  go_enter Try.func67, Try.ntmps67
  go_wp2
  go_ret
  exact ⟨rfl, rfl⟩
theorem refNeg_any (x : Int) (w : World) (h : 0 ≤ x) (h' : x ≤ 9223372036854775807) : Calls Try.prog 68 #[.int .i64 x] w fun e w' => e = .returned (.bool (x % 2 == 1)) ∧ w = w' := by
  go_enter Try.func68, Try.ntmps68
  go_wp2
  go_ret
  exact ⟨rfl, rfl⟩

theorem evalB_neg (x : Int) (vs : List Bool) (h : x < 0) : evalB x vs = false := by rw [evalB, if_pos h]
theorem evalB_low (x : Int) (vs : List Bool) (h : ¬ x < 0) (h1 : ¬ 0 < x / 2) : evalB x vs = (x % 2 == 1) := by
  rw [evalB, if_neg h, decide_eq_false h1]; simp
theorem evalB_high (x : Int) (vs : List Bool) (n : Nat) (hn : vs.length = n) (h : ¬ x < 0) (h1 : ¬ x / 2 < n) : evalB x vs = (x % 2 == 1) := by
  subst hn
  rw [evalB, if_neg h, decide_eq_false h1]; simp
theorem evalB_in (x : Int) (vs : List Bool) (n k : Nat) (hn : vs.length = n) (h : ¬ x < 0) (h0 : 0 < x / 2) (h1 : x / 2 < n) (hk : (k : Int) = x / 2) : evalB x vs = ((x % 2 == 1) != vs.getD k false) := by
  subst hn
  rw [evalB, if_neg h, decide_eq_true h0, decide_eq_true h1, ← hk]; simp
set_option maxHeartbeats 400000 in
theorem eval_any (x : Int) (A : Option Addr) (n c B : Nat) (vs : List Bool) (w : World) (hR : Reads w B 1 A n (vs.map Value.bool)) (hn : n ≤ 9223372036854775807) (hx : x ≤ 9223372036854775807) :
    Calls Try.prog 26 #[.int .i64 x, .slice A n c] w fun e w' => e = .returned (.bool (evalB x vs)) ∧ w = w' := by
  have hl : vs.length = n := by have := hR.1; simpa using this
  have HL := Lib.hid hl
  clear hl
  by_cases h0 : x < 0
  · go_enter Try.func26, Try.ntmps26
    go_wp2_with fail
    go_ret
    exact ⟨by rw [evalB_neg x vs h0]; rfl, rfl⟩
  · obtain ⟨k, hk⟩ := Int.eq_ofNat_of_zero_le (show 0 ≤ x / 2 by omega)
    rcases (show ¬ 0 < (k : Int) ∨ (0 < (k : Int) ∧ ¬ (k : Int) < n) ∨ (0 < (k : Int) ∧ (k : Int) < n) from by omega) with h1 | ⟨h1, h2⟩ | ⟨h1, h2⟩
    · have E := evalB_low x vs h0 (by rw [hk]; exact h1)
      have HE := Lib.hid E
      have HK := Lib.hid hk
      clear E hk
      have hd : decide (0 < (k : Int)) = false := by simpa using h1
      go_enter Try.func26, Try.ntmps26
      go_wp2_with fail
      refine (var_any x _ (by omega) hx).mono ?_
      rintro e w' ⟨rfl, rfl⟩
      rw [HK.out]
      go_wp2_with fail
      refine (neg_any x _ (by omega) hx).mono ?_
      rintro e w' ⟨rfl, rfl⟩
      generalize (x % 2 == 1) = bb at *
      go_wp2
      go_ret
      exact ⟨by rw [HE.out]; cases bb <;> rfl, rfl⟩
    · have E := evalB_high x vs n HL.out h0 (by rw [hk]; exact h2)
      have HE := Lib.hid E
      have HK := Lib.hid hk
      clear E hk
      have hd : decide (0 < (k : Int)) = true := by simpa using h1
      have hd : decide ((k : Int) < n) = false := by simpa using h2
      go_enter Try.func26, Try.ntmps26
      go_wp2_with fail
      refine (var_any x _ (by omega) hx).mono ?_
      rintro e w' ⟨rfl, rfl⟩
      rw [HK.out]
      go_wp2_with fail
      refine (neg_any x _ (by omega) hx).mono ?_
      rintro e w' ⟨rfl, rfl⟩
      generalize (x % 2 == 1) = bb at *
      go_wp2
      go_ret
      exact ⟨by rw [HE.out]; cases bb <;> rfl, rfl⟩
    · obtain ⟨b, off, rfl, hbB, hcell⟩ := hR.boolAt (k := k) (by omega)
      have E := evalB_in x vs n k HL.out h0 (by rw [hk]; exact h1) (by rw [hk]; exact h2) hk.symm
      have HE := Lib.hid E
      have HK := Lib.hid hk
      clear E hk
      have h2' : k < n := by omega
      generalize vs.getD k false = vb at *
      go_enter Try.func26, Try.ntmps26
      go_wp2_with fail
      refine (var_any x _ (by omega) hx).mono ?_
      rintro e w' ⟨rfl, rfl⟩
      rw [HK.out]
      go_wp2_with fail
      refine (neg_any x _ (by omega) hx).mono ?_
      rintro e w' ⟨rfl, rfl⟩
      generalize (x % 2 == 1) = bb at *
      go_wp2
      go_ret
      exact ⟨by rw [HE.out]; rfl, rfl⟩
set_option maxHeartbeats 400000 in
theorem refEval_any (x : Int) (A : Option Addr) (n c B : Nat) (vs : List Bool) (w : World) (hR : Reads w B 1 A n (vs.map Value.bool)) (hn : n ≤ 9223372036854775807) (hx : x ≤ 9223372036854775807) :
    Calls Try.prog 27 #[.int .i64 x, .slice A n c] w fun e w' => e = .returned (.bool (evalB x vs)) ∧ w = w' := by
  have hl : vs.length = n := by have := hR.1; simpa using this
  have HL := Lib.hid hl
  clear hl
  by_cases h0 : x < 0
  · go_enter Try.func27, Try.ntmps27
    go_wp2_with fail
    go_ret
    exact ⟨by rw [evalB_neg x vs h0]; rfl, rfl⟩
  · obtain ⟨k, hk⟩ := Int.eq_ofNat_of_zero_le (show 0 ≤ x / 2 by omega)
    rcases (show ¬ 0 < (k : Int) ∨ (0 < (k : Int) ∧ ¬ (k : Int) < n) ∨ (0 < (k : Int) ∧ (k : Int) < n) from by omega) with h1 | ⟨h1, h2⟩ | ⟨h1, h2⟩
    · have E := evalB_low x vs h0 (by rw [hk]; exact h1)
      have HE := Lib.hid E
      have HK := Lib.hid hk
      clear E hk
      have hd : decide (0 < (k : Int)) = false := by simpa using h1
      go_enter Try.func27, Try.ntmps27
      go_wp2_with fail
      refine (refVar_any x _ (by omega) hx).mono ?_
      rintro e w' ⟨rfl, rfl⟩
      rw [HK.out]
      go_wp2_with fail
      refine (refNeg_any x _ (by omega) hx).mono ?_
      rintro e w' ⟨rfl, rfl⟩
      generalize (x % 2 == 1) = bb at *
      go_wp2
      go_ret
      exact ⟨by rw [HE.out]; cases bb <;> rfl, rfl⟩
    · have E := evalB_high x vs n HL.out h0 (by rw [hk]; exact h2)
      have HE := Lib.hid E
      have HK := Lib.hid hk
      clear E hk
      have hd : decide (0 < (k : Int)) = true := by simpa using h1
      have hd : decide ((k : Int) < n) = false := by simpa using h2
      go_enter Try.func27, Try.ntmps27
      go_wp2_with fail
      refine (refVar_any x _ (by omega) hx).mono ?_
      rintro e w' ⟨rfl, rfl⟩
      rw [HK.out]
      go_wp2_with fail
      refine (refNeg_any x _ (by omega) hx).mono ?_
      rintro e w' ⟨rfl, rfl⟩
      generalize (x % 2 == 1) = bb at *
      go_wp2
      go_ret
      exact ⟨by rw [HE.out]; cases bb <;> rfl, rfl⟩
    · obtain ⟨b, off, rfl, hbB, hcell⟩ := hR.boolAt (k := k) (by omega)
      have E := evalB_in x vs n k HL.out h0 (by rw [hk]; exact h1) (by rw [hk]; exact h2) hk.symm
      have HE := Lib.hid E
      have HK := Lib.hid hk
      clear E hk
      have h2' : k < n := by omega
      generalize vs.getD k false = vb at *
      go_enter Try.func27, Try.ntmps27
      go_wp2_with fail
      refine (refVar_any x _ (by omega) hx).mono ?_
      rintro e w' ⟨rfl, rfl⟩
      rw [HK.out]
      go_wp2_with fail
      refine (refNeg_any x _ (by omega) hx).mono ?_
      rintro e w' ⟨rfl, rfl⟩
      generalize (x % 2 == 1) = bb at *
      go_wp2
      go_ret
      exact ⟨by rw [HE.out]; cases bb <;> cases vb <;> rfl, rfl⟩

theorem ints_le {l : List Int} (h : ∀ x ∈ l, (Lit.int .i64 x).wf = true) (k : Nat) : -9223372036854775808 ≤ l.getD k 0 ∧ l.getD k 0 ≤ 9223372036854775807 := by
  rw [List.getD_eq_getElem?_getD]
  rcases hk : l[k]? with _ | x
  · simp
  · exact bounds_i64 (h x (List.mem_of_getElem? hk))

set_option maxHeartbeats 400000 in
theorem gather_any (A : Option Addr) (n c B : Nat) (l : List Int) (A' : Option Addr) (n' c' B' : Nat) (vs : List Bool) (w : World) (hR : Reads w B 1 A n (l.map (Value.int .i64))) (hnc : n ≤ c) (hc : c ≤ maxLen)
    (hR' : Reads w B' 1 A' n' (vs.map Value.bool)) (hn' : n' ≤ maxLen) (hwf : ∀ x ∈ l, (Lit.int .i64 x).wf = true) :
    Calls Try.prog 28 #[.slice A n c, .slice A' n' c'] w fun e w' => e = .returned (.int .u64 (word64 (evalsB l vs))) ∧ w = w' := by
  unfold maxLen at hc hn'
  have hl : l.length = n := by have := hR.1; simpa using this
  have HL := Lib.hid hl
  have HW := Lib.hid hwf
  clear hl hwf
  by_cases hb : n ≤ 64
  all_goals
    go_enter Try.func28, Try.ntmps28
    go_wp2_with fail
    go_loop [4, 13] (fun v i => ∃ k : Nat, k ≤ min n 64 ∧ i = .int .i64 k ∧ v = .int .u64 (wordN ((evalsB l vs).take k))) (fun _ i => 64 - (intOf i).toNat)
    case atStart => exact ⟨0, Nat.zero_le _, rfl, rfl⟩
    case round =>
      obtain ⟨k, hk, rfl, rfl⟩ := hrel
      by_cases hlt : k < min n 64
      · obtain ⟨b, off, rfl, hbB, hcell⟩ := hR.intAt (k := k) (by omega)
        have hxb := ints_le HW.out k
        have hev := evalsB_at l vs k (by have := HL.out; omega)
        have HEV := Lib.hid hev
        clear hev
        generalize l.getD k 0 = x at *
        go_wp2_with fail
        refine (eval_any x _ _ _ _ vs _ hR' (by omega) (by omega)).mono ?_
        rintro e w' ⟨rfl, rfl⟩
        go_wp2_with fail
        · go_round
          case rel => exact ⟨k + 1, by omega, by go_num, congrArg _ (word_or_step (evalsB l vs) k (by omega) (by have := HL.out; rw [evalsB_length]; omega) (by rw [HEV.out]; assumption))⟩
          case measure => simp [intOf]; omega
        · go_round
          case rel => exact ⟨k + 1, by omega, by go_num, congrArg _ (word_no_step (evalsB l vs) k (by have := HL.out; rw [evalsB_length]; omega) (by rw [HEV.out]; assumption))⟩
          case measure => simp [intOf]; omega
      · go_wp2_with fail
        go_ret
        exact ⟨ret_int (by rw [word_end (evalsB l vs) k (by have := HL.out; rw [evalsB_length]; omega) (by have := HL.out; rw [evalsB_length]; omega)]), rfl⟩

set_option maxHeartbeats 400000 in
theorem refGather_any (A : Option Addr) (n c B : Nat) (l : List Int) (A' : Option Addr) (n' c' B' : Nat) (vs : List Bool) (w : World) (hR : Reads w B 1 A n (l.map (Value.int .i64))) (hnc : n ≤ 1048576) (hB : B ≤ w.heap.size) (hB' : B' ≤ w.heap.size)
    (hR' : Reads w B' 1 A' n' (vs.map Value.bool)) (hn' : n' ≤ maxLen) (hwf : ∀ x ∈ l, (Lit.int .i64 x).wf = true) :
    Calls Try.prog 29 #[.slice A n c, .slice A' n' c'] w fun e w' => e = .returned (.int .u64 (word64 (evalsB l vs))) ∧ Below w.heap.size w w' := by
  unfold maxLen at hn'
  have hl : l.length = n := by have := hR.1; simpa using this
  have HL := Lib.hid hl
  have HW := Lib.hid hwf
  clear hl hwf
  go_enter Try.func29, Try.ntmps29
  go_wp2_with fail
  go_loopw [5, 6] (fun v i wr => ∃ k : Nat, k ≤ n ∧ i = .int .i64 k ∧ wr.ownsRow w.heap.size 4 1 v k (((evalsB l vs).take k).map Value.bool) ∧ Below w.heap.size w wr) (fun _ i _ => n - (intOf i).toNat)
  case atStart => exact ⟨0, Nat.zero_le _, rfl, World.ownsRow_nil _ _ _ _, Below.refl _ _⟩
  case round =>
    obtain ⟨k, hk, rfl, hown, hbel⟩ := hrel
    by_cases hlt : k < n
    · obtain ⟨b, off, rfl, hbB, hcell⟩ := (hR.below (hbel.mono hB)).intAt (k := k) (by omega)
      have hR2 := hR'.below (hbel.mono hB')
      have hxb := ints_le HW.out k
      have hev := evalsB_step l vs k (by have := HL.out; omega)
      have HEV := Lib.hid hev
      clear hev
      generalize l.getD k 0 = x at *
      go_wp2_with fail
      refine (refEval_any x _ _ _ _ vs _ hR2 (by omega) (by omega)).mono ?_
      rintro e w' ⟨rfl, rfl⟩
      clear hR2
      go_wp2_with (at_builtin; refine wpList_append_one _ rfl _ _ 22 rfl w.heap.size 4 (.bool false) 1 1 Try.underlying22 info_bool rfl (by decide) _ _ _ rfl hown _ rfl rfl one_bool (by omega) (by unfold maxLen; omega) hbel.size ?_; intro v' w1 hown' hg' hb'; have HO := Lib.hid hown'; clear hown')
      go_roundw
      case rel => exact ⟨k + 1, by omega, by go_num, by rw [HEV.out]; simpa using HO.out, hbel.trans hb'⟩
      case measure => simp [intOf]; omega
    · obtain rfl : k = n := by omega
      rw [List.take_of_length_le (by rw [evalsB_length, HL.out]; exact Nat.le_refl _)] at hown
      obtain ⟨A1, c1, rfl, h1, h2, hr1⟩ := own_slice hown
      go_wp2_with fail
      refine (refWord_any _ _ _ _ (evalsB l vs) _ hr1 h1 h2).mono ?_
      rintro e w' ⟨rfl, rfl⟩
      go_wp2_with fail
      go_ret
      exact ⟨rfl, hbel⟩
end Go.Proofs.Ytcfkagielgnkkaa
