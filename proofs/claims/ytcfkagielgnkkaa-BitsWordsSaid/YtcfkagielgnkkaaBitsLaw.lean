/- Plain facts on words of bits, with no program in sight. No condition. -/
namespace Go.Proofs.Ytcfkagielgnkkaa.Pl

def wordN : List Bool → Nat
  | [] => 0
  | b :: r => (if b then 1 else 0) + 2 * wordN r

theorem wordN_lt (l : List Bool) : wordN l < 2 ^ l.length := by
  induction l with
  | nil => simp [wordN]
  | cons b r ih =>
    rw [wordN, List.length_cons, Nat.pow_succ]
    split <;> omega

theorem wordN_snoc (l : List Bool) (b : Bool) : wordN (l ++ [b]) = wordN l + if b then 2 ^ l.length else 0 := by
  induction l with
  | nil => cases b <;> simp [wordN]
  | cons a r ih =>
    rw [List.cons_append, wordN, wordN, ih, List.length_cons, Nat.pow_succ]
    cases b <;> simp <;> omega

theorem take_succ' (l : List Bool) (k : Nat) (h : k < l.length) : l.take (k + 1) = l.take k ++ [l.getD k false] := by
  rw [List.take_succ_eq_append_getElem h, List.getD_eq_getElem?_getD, List.getElem?_eq_getElem h]; rfl

theorem wordN_step (l : List Bool) (k : Nat) (h : k < l.length) : wordN (l.take (k + 1)) = wordN (l.take k) + if l.getD k false then 2 ^ k else 0 := by
  rw [take_succ' l k h, wordN_snoc, List.length_take, Nat.min_eq_left (by omega)]

theorem wordN_take_lt (l : List Bool) (k : Nat) : wordN (l.take k) < 2 ^ k :=
  Nat.lt_of_lt_of_le (wordN_lt _) (Nat.pow_le_pow_right (by omega) (List.length_take_le _ _))

theorem wordN_or (l : List Bool) (k : Nat) : wordN (l.take k) ||| 2 ^ k = wordN (l.take k) + 2 ^ k := by
  have h := Nat.two_pow_add_eq_or_of_lt (wordN_take_lt l k) 1
  rw [Nat.mul_one] at h
  rw [Nat.or_comm, ← h, Nat.add_comm]

/-- the word of the first 64 -/
def word64 (l : List Bool) : Nat := wordN (l.take 64)

theorem pow_le_63 (k : Nat) (h : k < 64) : 2 ^ k ≤ 9223372036854775808 := by
  have := Nat.pow_le_pow_right (n := 2) (by omega) (show k ≤ 63 by omega)
  simpa using this
theorem pow_le_64 (k : Nat) (h : k ≤ 64) : 2 ^ k ≤ 18446744073709551616 := by
  have := Nat.pow_le_pow_right (n := 2) (by omega) h
  simpa using this
theorem word64_lt (l : List Bool) : word64 l < 18446744073709551616 := by
  have := wordN_take_lt l 64
  simpa [word64] using this

def boolsN (w n : Nat) : List Bool := (List.range n).map fun i => w / 2 ^ i % 2 == 1
theorem boolsN_length (w n : Nat) : (boolsN w n).length = n := by simp [boolsN]
theorem boolsN_succ (w n : Nat) : boolsN w (n + 1) = boolsN w n ++ [w / 2 ^ n % 2 == 1] := by simp [boolsN, List.range_succ]
end Go.Proofs.Ytcfkagielgnkkaa.Pl
