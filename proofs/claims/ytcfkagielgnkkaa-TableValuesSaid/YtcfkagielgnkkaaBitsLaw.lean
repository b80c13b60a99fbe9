/- Plain facts on words of bits, with no program in sight. No condition. -/
namespace Go.Proofs.Ytcfkagielgnkkaa.Pl

def wordN : List Bool → Nat
  | [] => 0
  | b :: r => (if b then 1 else 0) + 2 * wordN r

theorem wordN_lt (l : List Bool) : wordN l < 2 ^ l.length := by
  induction l with
  | nil => simp [wordN]
  | cons b r ih =>
    rw [wordN, List.length_cons, Nat.pow_succ]
    split <;> omega

theorem wordN_snoc (l : List Bool) (b : Bool) : wordN (l ++ [b]) = wordN l + if b then 2 ^ l.length else 0 := by
  induction l with
  | nil => cases b <;> simp [wordN]
  | cons a r ih =>
    rw [List.cons_append, wordN, wordN, ih, List.length_cons, Nat.pow_succ]
    cases b <;> simp <;> omega

theorem take_succ' (l : List Bool) (k : Nat) (h : k < l.length) : l.take (k + 1) = l.take k ++ [l.getD k false] := by
  rw [List.take_succ_eq_append_getElem h, List.getD_eq_getElem?_getD, List.getElem?_eq_getElem h]; rfl

theorem wordN_step (l : List Bool) (k : Nat) (h : k < l.length) : wordN (l.take (k + 1)) = wordN (l.take k) + if l.getD k false then 2 ^ k else 0 := by
  rw [take_succ' l k h, wordN_snoc, List.length_take, Nat.min_eq_left (by omega)]

theorem wordN_take_lt (l : List Bool) (k : Nat) : wordN (l.take k) < 2 ^ k :=
  Nat.lt_of_lt_of_le (wordN_lt _) (Nat.pow_le_pow_right (by omega) (List.length_take_le _ _))

theorem wordN_or (l : List Bool) (k : Nat) : wordN (l.take k) ||| 2 ^ k = wordN (l.take k) + 2 ^ k := by
  have h := Nat.two_pow_add_eq_or_of_lt (wordN_take_lt l k) 1
  rw [Nat.mul_one] at h
  rw [Nat.or_comm, ← h, Nat.add_comm]

/-- the word of the first 64 -/
def word64 (l : List Bool) : Nat := wordN (l.take 64)

theorem pow_le_63 (k : Nat) (h : k < 64) : 2 ^ k ≤ 9223372036854775808 := by
  have := Nat.pow_le_pow_right (n := 2) (by omega) (show k ≤ 63 by omega)
  simpa using this
theorem pow_le_64 (k : Nat) (h : k ≤ 64) : 2 ^ k ≤ 18446744073709551616 := by
  have := Nat.pow_le_pow_right (n := 2) (by omega) h
  simpa using this
theorem word64_lt (l : List Bool) : word64 l < 18446744073709551616 := by
  have := wordN_take_lt l 64
  simpa [word64] using this

def boolsN (w n : Nat) : List Bool := (List.range n).map fun i => w / 2 ^ i % 2 == 1
theorem boolsN_length (w n : Nat) : (boolsN w n).length = n := by simp [boolsN]
theorem boolsN_succ (w n : Nat) : boolsN w (n + 1) = boolsN w n ++ [w / 2 ^ n % 2 == 1] := by simp [boolsN, List.range_succ]

theorem wordN_div (l : List Bool) (k : Nat) : wordN l / 2 ^ k = wordN (l.drop k) := by
  induction l generalizing k with
  | nil => simp [wordN]
  | cons b r ih =>
    cases k with
    | zero => simp
    | succ k =>
      rw [List.drop_succ_cons, ← ih k, Nat.pow_succ, Nat.mul_comm, ← Nat.div_div_eq_div_mul, wordN]
      congr 1
      split <;> omega
theorem wordN_odd (l : List Bool) : (wordN l % 2 == 1) = l.headD false := by
  cases l with
  | nil => rfl
  | cons b r => rw [wordN]; cases b <;> simp
theorem headD_drop (l : List Bool) (k : Nat) : (l.drop k).headD false = l.getD k false := by
  rw [List.headD_eq_head?_getD, List.head?_drop, List.getD_eq_getElem?_getD]
theorem boolsN_wordN (l : List Bool) : boolsN (wordN l) l.length = l := by
  unfold boolsN
  apply List.ext_getElem?
  intro i
  rw [List.getElem?_map]
  by_cases h : i < l.length
  · rw [List.getElem?_range h, List.getElem?_eq_getElem h]
    simp only [Option.map_some]
    rw [wordN_div, wordN_odd, headD_drop, List.getD_eq_getElem?_getD, List.getElem?_eq_getElem h]; rfl
  · rw [List.getElem?_eq_none (by simp; omega), List.getElem?_eq_none (by omega)]; rfl
theorem boolsN_word64 (l : List Bool) (h : l.length ≤ 64) : boolsN (word64 l) l.length = l := by
  rw [word64, List.take_of_length_le h, boolsN_wordN]
theorem word64_fits (l : List Bool) (h : l.length ≤ 64) : word64 l / 2 ^ l.length = 0 := by
  rw [word64, List.take_of_length_le h, Nat.div_eq_zero_iff]
  exact .inr (wordN_lt l)
theorem wordN_boolsN (w : Nat) : ∀ n, wordN (boolsN w n) = w % 2 ^ n
  | 0 => by simp [boolsN, wordN, Nat.mod_one]
  | n + 1 => by
    rw [boolsN_succ, wordN_snoc, wordN_boolsN w n, boolsN_length, Nat.mod_pow_succ]
    have h2 : w / 2 ^ n % 2 = 0 ∨ w / 2 ^ n % 2 = 1 := by omega
    rcases h2 with h2 | h2 <;> simp [h2]
theorem word64_boolsN (w : Nat) (h : w < 18446744073709551616) : word64 (boolsN w 64) = w := by
  rw [word64, List.take_of_length_le (by rw [boolsN_length]; omega), wordN_boolsN]
  exact Nat.mod_eq_of_lt (by simpa using h)

def evalB (x : Int) (vs : List Bool) : Bool := if x < 0 then false else (x % 2 == 1) != (decide (0 < x / 2) && decide (x / 2 < vs.length) && vs.getD (x / 2).toNat false)
def evalsB (l : List Int) (vs : List Bool) : List Bool := l.map fun x => evalB x vs
theorem evalsB_length (l : List Int) (vs : List Bool) : (evalsB l vs).length = l.length := by simp [evalsB]
theorem evalsB_at (l : List Int) (vs : List Bool) (k : Nat) (h : k < l.length) : (evalsB l vs).getD k false = evalB (l.getD k 0) vs := by
  rw [List.getD_eq_getElem?_getD, List.getD_eq_getElem?_getD, evalsB, List.getElem?_map, List.getElem?_eq_getElem h]; rfl
theorem evalsB_step (l : List Int) (vs : List Bool) (k : Nat) (h : k < l.length) : (evalsB l vs).take (k + 1) = (evalsB l vs).take k ++ [evalB (l.getD k 0) vs] := by
  rw [take_succ' _ k (by rw [evalsB_length]; exact h), evalsB_at l vs k h]
end Go.Proofs.Ytcfkagielgnkkaa.Pl
