/- Number facts of package bits in the walk's own spelling. -/
import Derived.Test.YtcfkagielgnkkaaBase
import Derived.Test.YtcfkagielgnkkaaBitsLaw
namespace Go.Proofs.Ytcfkagielgnkkaa
open Go.RowKit Pl
set_option linter.unusedVariables false

theorem word_or_step (l : List Bool) (k : Nat) (hk : k < 64) (hl : k < l.length) (hb : l.getD k false = true) :
    bits BinOp.or IntKind.u64 (wordN (l.take k) : Int) (IntKind.u64.wrap (2 ^ k)) = (wordN (l.take (k + 1)) : Int) := by
  have h1 := wordN_take_lt l k
  have h2 := pow_le_63 k hk
  have e : IntKind.u64.wrap (2 ^ k) = ((2 ^ k : Nat) : Int) := by
    rw [IntKind.wrap_u64, show ((2 : Int) ^ k) = ((2 ^ k : Nat) : Int) by simp]
    omega
  rw [e, u64_or_nat _ _ (by omega) (by omega), wordN_or, wordN_step l k hl, if_pos hb]
theorem word_no_step (l : List Bool) (k : Nat) (hl : k < l.length) (hb : l.getD k false = false) :
    (wordN (l.take k) : Int) = (wordN (l.take (k + 1)) : Int) := by
  rw [wordN_step l k hl, hb]; simp
theorem word_end (l : List Bool) (k : Nat) (h1 : k ≤ min l.length 64) (h2 : ¬ k < min l.length 64) : wordN (l.take k) = word64 l := by
  unfold word64
  by_cases h : l.length ≤ 64
  · rw [List.take_of_length_le (by omega), List.take_of_length_le (by omega)]
  · rw [show k = 64 by omega]
theorem word_add_step (l : List Bool) (k : Nat) (hk : k < 64) (hl : k < l.length) (hb : l.getD k false = true) :
    IntKind.u64.wrap ((wordN (l.take k) : Int) + (2 ^ k : Nat)) = (wordN (l.take (k + 1)) : Int) := by
  have h1 := wordN_take_lt l k
  have h2 := pow_le_63 k hk
  rw [wordN_step l k hl, if_pos hb, IntKind.wrap_u64]
  omega


theorem cast_div_pow (x k : Nat) : ((x : Int) / 2 ^ k) = ((x / 2 ^ k : Nat) : Int) := by simp
theorem and_one_bit (x k : Nat) (hx : x < 18446744073709551616) : (bits BinOp.and IntKind.u64 ((x : Int) / 2 ^ k) 1 == 1) = (x / 2 ^ k % 2 == 1) := by
  have h : x / 2 ^ k ≤ x := Nat.div_le_self _ _
  rw [cast_div_pow, show (1 : Int) = ((1 : Nat) : Int) by rfl, u64_and_nat _ _ (by omega) (by omega), Nat.and_one_is_mod]
  rw [Bool.eq_iff_iff]
  simp only [beq_iff_eq]
  omega
theorem bools_step (x k : Nat) (hx : x < 18446744073709551616) : List.map Value.bool (boolsN x k) ++ #[Value.bool (bits BinOp.and IntKind.u64 ((x : Int) / 2 ^ k) 1 == 1)].toList = List.map Value.bool (boolsN x (k + 1)) := by
  rw [boolsN_succ, and_one_bit x k hx]; simp

theorem half_step {x k y : Nat} (h : y = x / 2 ^ k) : ((y : Int) / 2) = ((x / 2 ^ (k + 1) : Nat) : Int) := by
  rw [Nat.pow_succ, ← Nat.div_div_eq_div_mul, ← h]; simp
theorem bools_step' {x k y : Nat} (h : y = x / 2 ^ k) : List.map Value.bool (boolsN x k) ++ #[Value.bool ((y : Int) % 2 == 1)].toList = List.map Value.bool (boolsN x (k + 1)) := by
  have : ((y : Int) % 2 == 1) = (y % 2 == 1) := by
    rw [Bool.eq_iff_iff]; simp only [beq_iff_eq]; omega
  rw [boolsN_succ, this, ← h]; simp
end Go.Proofs.Ytcfkagielgnkkaa
