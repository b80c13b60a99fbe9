/- What the functions of package bits and its reference compute. -/
import Derived.Test.YtcfkagielgnkkaaBitsAid
namespace Go.Proofs.Ytcfkagielgnkkaa
open Go.RowKit Pl
set_option linter.unusedVariables false

set_option maxHeartbeats 400000 in
theorem word_any (A : Option Addr) (n c B : Nat) (l : List Bool) (w : World) (hR : Reads w B 1 A n (l.map Value.bool)) (hnc : n ≤ c) (hc : c ≤ maxLen) :
    Calls Try.prog 15 #[.slice A n c] w fun e w' => e = .returned (.int .u64 (word64 l)) ∧ w = w' := by
  unfold maxLen at hc
  have hl : l.length = n := by have := hR.1; simpa using this
  have HL := Lib.hid hl
  clear hl
  by_cases hb : n ≤ 64
  all_goals
    go_enter Try.func15, Try.ntmps15
    go_wp2
    go_loop [2, 11] (fun v i => ∃ k : Nat, k ≤ min n 64 ∧ i = .int .i64 k ∧ v = .int .u64 (wordN (l.take k))) (fun _ i => 64 - (intOf i).toNat)
    case atStart => exact ⟨0, Nat.zero_le _, rfl, rfl⟩
    case round =>
      obtain ⟨k, hk, rfl, rfl⟩ := hrel
      by_cases hlt : k < min n 64
      · obtain ⟨b, off, rfl, hbB, hcell⟩ := hR.boolAt (k := k) (by omega)
        go_wp2
        · go_round
          case rel => exact ⟨k + 1, by omega, by go_num, congrArg _ (word_or_step l k (by omega) (by have := HL.out; omega) (by rw [List.getD_eq_getElem?_getD]; assumption))⟩
          case measure => simp [intOf]; omega
        · go_round
          case rel => exact ⟨k + 1, by omega, by go_num, congrArg _ (word_no_step l k (by have := HL.out; omega) (by rw [List.getD_eq_getElem?_getD]; assumption))⟩
          case measure => simp [intOf]; omega
      · go_wp2
        go_ret
        exact ⟨ret_int (by rw [word_end l k (by have := HL.out; omega) (by have := HL.out; omega)]), rfl⟩

set_option maxHeartbeats 400000 in
theorem refWord_any (A : Option Addr) (n c B : Nat) (l : List Bool) (w : World) (hR : Reads w B 1 A n (l.map Value.bool)) (hnc : n ≤ c) (hc : c ≤ maxLen) :
    Calls Try.prog 16 #[.slice A n c] w fun e w' => e = .returned (.int .u64 (word64 l)) ∧ w = w' := by
  unfold maxLen at hc
  have hl : l.length = n := by have := hR.1; simpa using this
  have HL := Lib.hid hl
  clear hl
  go_enter Try.func16, Try.ntmps16
  go_wp2
  go_loop [3, 4, 5] (fun v b i => ∃ k : Nat, k ≤ min n 64 ∧ i = .int .i64 k ∧ v = .int .u64 (wordN (l.take k)) ∧ b = .int .u64 ((2 ^ k % 18446744073709551616 : Nat) : Int)) (fun _ _ i => 64 - (intOf i).toNat)
  case atStart => exact ⟨0, Nat.zero_le _, rfl, rfl, rfl⟩
  case round =>
    obtain ⟨k, hk, rfl, rfl, rfl⟩ := hrel
    by_cases hlt : k < min n 64
    · obtain ⟨b, off, rfl, hbB, hcell⟩ := hR.boolAt (k := k) (by omega)
      have hp := pow_le_63 k (by omega)
      have hm : 2 ^ k % 18446744073709551616 = 2 ^ k := Nat.mod_eq_of_lt (by omega)
      rw [hm]
      clear hm
      have e2 : IntKind.u64.wrap (2 ^ k * 2) = ((2 ^ (k + 1) % 18446744073709551616 : Nat) : Int) := by
        rw [IntKind.wrap_u64, Nat.pow_succ]
        have : ((2 : Int) ^ k) = ((2 ^ k : Nat) : Int) := by simp
        rw [this]; omega
      have E2 := Lib.hid e2
      clear e2
      go_wp2
      · go_round
        case rel =>
          refine ⟨k + 1, by omega, by go_num, ?_, congrArg _ E2.out⟩
          have := word_add_step l k (by omega) (by have := HL.out; omega) (by rw [List.getD_eq_getElem?_getD]; assumption)
          rw [show ((2 ^ k : Nat) : Int) = (2 : Int) ^ k by simp] at this
          exact congrArg _ this
        case measure => simp [intOf]; omega
      · go_round
        case rel => exact ⟨k + 1, by omega, by go_num, congrArg _ (word_no_step l k (by have := HL.out; omega) (by rw [List.getD_eq_getElem?_getD]; assumption)), congrArg _ E2.out⟩
        case measure => simp [intOf]; omega
    · by_cases hkn : k < n
      all_goals
        go_wp2
        go_ret
        exact ⟨ret_int (by rw [word_end l k (by have := HL.out; omega) (by have := HL.out; omega)]), rfl⟩

theorem take_ne (l l' : List Bool) (k : Nat) (h1 : k < l.length) (h2 : k < l'.length) (h : (!l[k]?.getD false == l'[k]?.getD false) = true) : (l == l') = false := by
  rw [beq_eq_false_iff_ne]
  intro e
  subst e
  simp at h
theorem take_eq_step (l l' : List Bool) (k : Nat) (h1 : k < l.length) (h2 : k < l'.length) (he : l.take k = l'.take k) (h : (!l[k]?.getD false == l'[k]?.getD false) = false) : l.take (k + 1) = l'.take (k + 1) := by
  rw [take_succ' l k h1, take_succ' l' k h2, he, List.getD_eq_getElem?_getD, List.getD_eq_getElem?_getD]
  simp at h
  rw [h]

set_option maxHeartbeats 400000 in
theorem same_any (A A' : Option Addr) (n c n' c' B B' : Nat) (l l' : List Bool) (w : World) (hR : Reads w B 1 A n (l.map Value.bool)) (hR' : Reads w B' 1 A' n' (l'.map Value.bool)) (hn : n ≤ maxLen) (hn' : n' ≤ maxLen) :
    Calls Try.prog 17 #[.slice A n c, .slice A' n' c'] w fun e w' => e = .returned (.bool (l == l')) ∧ ∃ q, w' = w.drewN q := by
  unfold maxLen at hn hn'
  have hl : l.length = n := by have := hR.1; simpa using this
  have hl' : l'.length = n' := by have := hR'.1; simpa using this
  have HL := Lib.hid hl
  have HL' := Lib.hid hl'
  clear hl hl'
  by_cases hne : n = n'
  · subst hne
    go_enter Try.func17, Try.ntmps17
    go_wp2
    go_loopw [5] (fun i wr => ∃ k q : Nat, k ≤ n ∧ i = .int .i64 k ∧ l.take k = l'.take k ∧ wr = w.drewN q) (fun i _ => n - (intOf i).toNat)
    case atStart => exact ⟨0, 0, Nat.zero_le _, rfl, by simp, rfl⟩
    case round =>
      obtain ⟨k, q, hk, rfl, he, rfl⟩ := hrel
      have HE := Lib.hid he
      clear he
      by_cases hlt : k < n
      · obtain ⟨b, off, rfl, hbB, hcell⟩ := hR.boolAt (k := k) (by omega)
        obtain ⟨b', off', rfl, hbB', hcell'⟩ := hR'.boolAt (k := k) (by omega)
        go_wp2
        go_quiet (fail)
        go_wp2
        · go_ret
          refine ⟨ret_bool ?_, q + nq, by rw [World.drewN_drewN]⟩
          exact (take_ne l l' k (by have := HL.out; omega) (by have := HL'.out; omega) (by assumption)).symm
        · go_roundw
          case rel => exact ⟨k + 1, _, by omega, by go_num, take_eq_step l l' k (by have := HL.out; omega) (by have := HL'.out; omega) HE.out (by assumption), rfl⟩
          case measure => simp [intOf]; omega
      · go_wp2
        go_ret
        refine ⟨ret_bool ?_, q, rfl⟩
        have h := HE.out
        rw [List.take_of_length_le (by have := HL.out; omega), List.take_of_length_le (by have := HL'.out; omega)] at h
        simp [h]
  · go_enter Try.func17, Try.ntmps17
    go_wp2
    go_ret
    refine ⟨ret_bool ?_, 0, rfl⟩
    symm
    rw [beq_eq_false_iff_ne]
    intro e
    exact hne (by rw [← HL.out, ← HL'.out, e])

theorem within_any (n : Int) (w : World) : Calls Try.prog 63 #[.int .i64 n] w fun e w' => e = .returned (.int .i64 ((min n 64).toNat : Nat)) ∧ w = w' := by
  by_cases h1 : n ≤ 64
  · by_cases h2 : 0 ≤ n
    all_goals
      go_enter Try.func63, Try.ntmps63
      go_wp2
      go_ret
      exact ⟨ret_int (by omega), rfl⟩
  · go_enter Try.func63, Try.ntmps63
    go_wp2
    go_ret
    exact ⟨ret_int (by omega), rfl⟩

set_option maxHeartbeats 400000 in
theorem bools_any (x : Nat) (n : Int) (w : World) (hx : x < 18446744073709551616) :
    Calls Try.prog 18 #[.int .u64 x, .int .i64 n] w (RetRow 4 w ((boolsN x (min n 64).toNat).map Value.bool)) := by
  obtain ⟨m, hm⟩ : ∃ m, m = (min n 64).toNat := ⟨_, rfl⟩
  have hm64 : m ≤ 64 := by omega
  rw [← hm]
  have HM := Lib.hid hm
  clear hm
  go_enter Try.func18, Try.ntmps18
  go_wp2_with (go_at_call 63; refine (within_any _ _).mono ?_; rw [← HM.out]; rintro e w' ⟨rfl, rfl⟩)
  go_loopw [4, 8] (fun v i wr => ∃ k : Nat, k ≤ m ∧ i = .int .i64 k ∧ wr.ownsRow w.heap.size 4 1 v k ((boolsN x k).map Value.bool) ∧ Below w.heap.size w wr) (fun _ i _ => 64 - (intOf i).toNat)
  case atStart => exact ⟨0, Nat.zero_le _, rfl, World.ownsRow_nil _ _ _ _, Below.refl _ _⟩
  case round =>
    obtain ⟨k, hk, rfl, hown, hbel⟩ := hrel
    by_cases hlt : k < m
    · go_wp2_with (at_builtin; refine wpList_append_one _ rfl _ _ 22 rfl w.heap.size 4 (.bool false) 1 1 Try.underlying22 info_bool rfl (by decide) _ _ _ rfl hown _ rfl rfl one_bool (by omega) (by unfold maxLen; omega) hbel.size ?_; intro v' w1 hown' hg' hb')
      have HO := Lib.hid hown'
      clear hown'
      go_roundw
      case rel => exact ⟨k + 1, by omega, by go_num, by rw [← bools_step x k hx]; exact HO.out, hbel.trans hb'⟩
      case measure => simp [intOf]; omega
    · go_wp2
      go_ret
      obtain rfl : k = m := by omega
      exact RetRow.mk (by simp [boolsN_length]) hown hbel

set_option maxHeartbeats 400000 in
theorem refBools_any (x : Nat) (n : Int) (w : World) (hx : x < 18446744073709551616) (hn : n ≤ 9223372036854775807) :
    Calls Try.prog 19 #[.int .u64 x, .int .i64 n] w (RetRow 4 w ((boolsN x (min n 64).toNat).map Value.bool)) := by
  obtain ⟨m, hm⟩ : ∃ m, m = (min n 64).toNat := ⟨_, rfl⟩
  have hm64 : m ≤ 64 := by omega
  rw [← hm]
  have HM := Lib.hid hm
  clear hm
  go_enter Try.func19, Try.ntmps19
  go_wp2
  go_loopw [0, 5, 6] (fun y v i wr => ∃ k : Nat, k ≤ m ∧ i = .int .i64 k ∧ y = .int .u64 ((x / 2 ^ k : Nat) : Int) ∧ wr.ownsRow w.heap.size 4 1 v k ((boolsN x k).map Value.bool) ∧ Below w.heap.size w wr) (fun _ _ i _ => 64 - (intOf i).toNat)
  case atStart => exact ⟨0, Nat.zero_le _, rfl, by simp, World.ownsRow_nil _ _ _ _, Below.refl _ _⟩
  case round =>
    obtain ⟨k, hk, rfl, rfl, hown, hbel⟩ := hrel
    have hdv : x / 2 ^ k ≤ x := Nat.div_le_self _ _
    obtain ⟨y, hy⟩ : ∃ y, y = x / 2 ^ k := ⟨_, rfl⟩
    rw [← hy] at hdv ⊢
    have HY := Lib.hid hy
    clear hy
    by_cases hlt : k < m
    · have h1 : (k : Int) < n := by have := HM.out; omega
      have h2 : (k : Int) < 64 := by omega
      go_wp2_with (at_builtin; refine wpList_append_one _ rfl _ _ 22 rfl w.heap.size 4 (.bool false) 1 1 Try.underlying22 info_bool rfl (by decide) _ _ _ rfl hown _ rfl rfl one_bool (by omega) (by unfold maxLen; omega) hbel.size ?_; intro v' w1 hown' hg' hb'; have HO := Lib.hid hown'; clear hown')
      go_roundw
      case rel => exact ⟨k + 1, by omega, by go_num, congrArg _ (half_step HY.out), by rw [← bools_step' HY.out]; exact HO.out, hbel.trans hb'⟩
      case measure => simp [intOf]; omega
    · rcases (show ((k : Int) < n ∧ ¬ (k : Int) < 64) ∨ ¬ (k : Int) < n from by have := HM.out; omega) with ⟨h1, h2⟩ | h1
      all_goals
        go_wp2
        go_ret
        obtain rfl : k = m := by have := HM.out; omega
        exact RetRow.mk (by simp [boolsN_length]) hown hbel

theorem fits_any (x : Nat) (n : Int) (w : World) (hx : x < 18446744073709551616) :
    Calls Try.prog 20 #[.int .u64 x, .int .i64 n] w fun e w' => e = .returned (.bool (x / 2 ^ (min n 64).toNat == 0)) ∧ w = w' := by
  obtain ⟨m, hm⟩ : ∃ m, m = (min n 64).toNat := ⟨_, rfl⟩
  have hm64 : m ≤ 64 := by omega
  rw [← hm]
  have HM := Lib.hid hm
  clear hm
  go_enter Try.func20, Try.ntmps20
  go_wp2_with (go_at_call 63; refine (within_any _ _).mono ?_; rw [← HM.out]; rintro e w' ⟨rfl, rfl⟩)
  go_ret
  refine ⟨ret_bool ?_, rfl⟩
  rw [cast_div_pow]
  rw [Bool.eq_iff_iff]
  simp only [beq_iff_eq]
  omega

set_option maxHeartbeats 400000 in
theorem refFits_any (x : Nat) (n : Int) (w : World) (hx : x < 18446744073709551616) (hn : n ≤ 9223372036854775807) :
    Calls Try.prog 21 #[.int .u64 x, .int .i64 n] w fun e w' => e = .returned (.bool (x / 2 ^ (min n 64).toNat == 0)) ∧ w = w' := by
  obtain ⟨m, hm⟩ : ∃ m, m = (min n 64).toNat := ⟨_, rfl⟩
  have hm64 : m ≤ 64 := by omega
  rw [← hm]
  have HM := Lib.hid hm
  clear hm
  go_enter Try.func21, Try.ntmps21
  go_wp2
  go_loop [0, 5] (fun y i => ∃ k : Nat, k ≤ m ∧ i = .int .i64 k ∧ y = .int .u64 ((x / 2 ^ k : Nat) : Int)) (fun _ i => 64 - (intOf i).toNat)
  case atStart => exact ⟨0, Nat.zero_le _, rfl, by simp⟩
  case round =>
    obtain ⟨k, hk, rfl, rfl⟩ := hrel
    have hdv : x / 2 ^ k ≤ x := Nat.div_le_self _ _
    obtain ⟨y, hy⟩ : ∃ y, y = x / 2 ^ k := ⟨_, rfl⟩
    rw [← hy] at hdv ⊢
    have HY := Lib.hid hy
    clear hy
    by_cases hlt : k < m
    · have h1 : (k : Int) < n := by have := HM.out; omega
      have h2 : (k : Int) < 64 := by omega
      go_wp2
      go_round
      case rel => exact ⟨k + 1, by omega, by go_num, congrArg _ (half_step HY.out)⟩
      case measure => simp [intOf]; omega
    · rcases (show ((k : Int) < n ∧ ¬ (k : Int) < 64) ∨ ¬ (k : Int) < n from by have := HM.out; omega) with ⟨h1, h2⟩ | h1
      all_goals
        go_wp2
        go_ret
        obtain rfl : k = m := by have := HM.out; omega
        refine ⟨ret_bool ?_, rfl⟩
        rw [← HY.out, Bool.eq_iff_iff]
        simp only [beq_iff_eq]
        omega
end Go.Proofs.Ytcfkagielgnkkaa
