/- Plain functions of the scanner: what Byte, Want and Number read. -/
namespace Go.Proofs.Ytcfkagielgnkkaa.Pl

/-- what differs first: where, and the fault (12: at the end, 2: another byte) -/
def want : List UInt8 → List UInt8 → Nat → Option (Nat × Int)
  | _, [], _ => none
  | [], _ :: _, i => some (i, 12)
  | a :: l, b :: s, i => if a = b then want l s (i + 1) else some (i, 2)
theorem want_done (l s : List UInt8) (k : Nat) (h : s.length ≤ k) : want (l.drop k) (s.drop k) k = none := by
  rw [List.drop_eq_nil_of_le h]; cases l.drop k <;> rfl
theorem want_end (l s : List UInt8) (k : Nat) (h : k < s.length) (h2 : l.length ≤ k) : want (l.drop k) (s.drop k) k = some (k, 12) := by
  rw [List.drop_eq_nil_of_le h2, List.drop_eq_getElem_cons h]; rfl
theorem want_bad (l s : List UInt8) (k : Nat) (h : k < s.length) (h2 : k < l.length) (hne : l[k] ≠ s[k]) : want (l.drop k) (s.drop k) k = some (k, 2) := by
  rw [List.drop_eq_getElem_cons h, List.drop_eq_getElem_cons h2, want, if_neg hne]
theorem want_next (l s : List UInt8) (k : Nat) (h : k < s.length) (h2 : k < l.length) (he : l[k] = s[k]) : want (l.drop k) (s.drop k) k = want (l.drop (k + 1)) (s.drop (k + 1)) (k + 1) := by
  rw [List.drop_eq_getElem_cons h, List.drop_eq_getElem_cons h2, want, if_pos he]
theorem want_none_le : ∀ (l s : List UInt8) (i : Nat), want l s i = none → s.length ≤ l.length
  | _, [], _ => by simp
  | [], _ :: _, i => by simp [want]
  | a :: l, b :: s, i => by
    rw [want]
    split
    · intro h; have := want_none_le l s (i + 1) h; simp; omega
    · intro h; cases h

def dig (c : UInt8) : Bool := 48 ≤ c.toNat && c.toNat ≤ 57
def digs (l : List UInt8) : Nat := (l.takeWhile dig).length
theorem digs_le (l : List UInt8) : digs l ≤ l.length := (List.takeWhile_sublist dig).length_le
theorem digs_at {l : List UInt8} {k : Nat} (h1 : ∀ j, (hj : j < k) → (hl : j < l.length) → dig l[j] = true) (h : k ≤ l.length) (h2 : (hl : k < l.length) → dig l[k] = false) : digs l = k := by
  induction l generalizing k with
  | nil => simp at h; subst h; rfl
  | cons a r ih =>
    unfold digs
    cases k with
    | zero =>
      have := h2 (by simp)
      simp at this
      simp [this]
    | succ k =>
      have h0 := h1 0 (by omega) (by simp)
      simp at h0
      have := ih (k := k) (fun j hj hl => by have := h1 (j + 1) (by omega) (by simp; omega); simpa using this) (by simp at h; omega) (fun hl => by have := h2 (by simp; omega); simpa using this)
      unfold digs at this
      simp [h0, this]
/-- the number that digits say, or none where it is greater than most -/
def num (most : Int) : List UInt8 → Int → Option Int
  | [], n => some n
  | c :: r, n => if most < (c.toNat : Int) - 48 ∨ (most - ((c.toNat : Int) - 48)) / 10 < n then none else num most r (n * 10 + ((c.toNat : Int) - 48))
/-- what Number reads: the number, the fault, how many bytes -/
def number (l : List UInt8) (most : Int) : Int × Int × Nat :=
  if l.length = 0 then (0, 12, 0) else if digs l = 0 then (0, 2, 0) else if 1 < digs l ∧ l.headD 0 = 48 then (0, 4, 0)
  else match num most (l.take (digs l)) 0 with
    | none => (0, 4, 0)
    | some n => (n, 0, digs l)
theorem number_le (l : List UInt8) (most : Int) : (number l most).2.2 ≤ l.length := by
  unfold number
  have := digs_le l
  split
  · simp
  · split
    · simp
    · split
      · simp
      · split <;> simp [this]
theorem number_bad (l : List UInt8) (most : Int) (h : (number l most).2.1 ≠ 0) : (number l most).2.2 = 0 := by
  unfold number at h ⊢
  split
  · rfl
  · split
    · rfl
    · split
      · rfl
      · rename_i h1 h2 h3
        rw [if_neg h1, if_neg h2, if_neg h3] at h
        split
        · rfl
        · rename_i n hn
          rw [hn] at h
          exact absurd rfl h
end Go.Proofs.Ytcfkagielgnkkaa.Pl
