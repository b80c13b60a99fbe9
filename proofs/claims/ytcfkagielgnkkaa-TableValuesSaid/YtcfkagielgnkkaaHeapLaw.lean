/- A binary heap of numbers by an order, in plain lists: sifting up and down restores the heap's order. -/
namespace Go.Proofs.Ytcfkagielgnkkaa.Pl

def at_ (l : List Int) (i : Nat) : Int := l.getD i 0
theorem at_set (l : List Int) (i j : Nat) (x : Int) : at_ (l.set i x) j = if i = j ∧ j < l.length then x else at_ l j := by
  unfold at_
  rw [List.getD_eq_getElem?_getD, List.getElem?_set, List.getD_eq_getElem?_getD]
  by_cases h : i = j
  · subst h
    by_cases h2 : i < l.length
    · simp [h2]
    · simp [h2]
  · simp [h]
theorem at_set_eq (l : List Int) (i : Nat) (x : Int) (h : i < l.length) : at_ (l.set i x) i = x := by rw [at_set, if_pos ⟨rfl, h⟩]
theorem at_set_ne (l : List Int) (i j : Nat) (x : Int) (h : i ≠ j) : at_ (l.set i x) j = at_ l j := by rw [at_set, if_neg (fun e => h e.1)]

/-- does v stand ahead of w, by activities? -/
def ahead (as : List Int) (v w : Int) : Bool := if at_ as v.toNat ≠ at_ as w.toNat then decide (at_ as w.toNat < at_ as v.toNat) else decide (v < w)
def Lt (as : List Int) (v w : Int) : Prop := at_ as w.toNat < at_ as v.toNat ∨ (at_ as v.toNat = at_ as w.toNat ∧ v < w)
theorem ahead_iff (as : List Int) (v w : Int) : ahead as v w = true ↔ Lt as v w := by
  unfold ahead Lt
  split
  · rw [decide_eq_true_iff]; omega
  · rw [decide_eq_true_iff]; omega
theorem ahead_not (as : List Int) (v w : Int) : ahead as v w = false ↔ ¬ Lt as v w := by
  rw [← ahead_iff]; simp
theorem Lt.asymm {as : List Int} {v w : Int} (h : Lt as v w) : ¬ Lt as w v := by unfold Lt at *; omega
theorem Lt.trans {as : List Int} {u v w : Int} (h : Lt as u v) (h' : Lt as v w) : Lt as u w := by unfold Lt at *; omega
theorem Lt.co {as : List Int} {u v w : Int} (h : ¬ Lt as u v) (h' : ¬ Lt as v w) : ¬ Lt as u w := by unfold Lt at *; omega

/-- the heap's order -/
def HO (as cs : List Int) : Prop := ∀ j, 0 < j → j < cs.length → ¬ Lt as (at_ cs j) (at_ cs ((j - 1) / 2))
def UpInv (as cs : List Int) (i : Nat) : Prop :=
  (∀ j, 0 < j → j < cs.length → j ≠ i → ¬ Lt as (at_ cs j) (at_ cs ((j - 1) / 2))) ∧
  (0 < i → ∀ c, 0 < c → c < cs.length → (c - 1) / 2 = i → ¬ Lt as (at_ cs c) (at_ cs ((i - 1) / 2)))
def DownInv (as cs : List Int) (i : Nat) : Prop :=
  (∀ j, 0 < j → j < cs.length → (j - 1) / 2 ≠ i → ¬ Lt as (at_ cs j) (at_ cs ((j - 1) / 2))) ∧
  (0 < i → ∀ c, 0 < c → c < cs.length → (c - 1) / 2 = i → ¬ Lt as (at_ cs c) (at_ cs ((i - 1) / 2)))

/-- two places changed over -/
def swp (cs : List Int) (i p : Nat) : List Int := (cs.set i (at_ cs p)).set p (at_ cs i)
theorem swp_len (cs : List Int) (i p : Nat) : (swp cs i p).length = cs.length := by simp [swp]
theorem swp_at (cs : List Int) (i p j : Nat) (hi : i < cs.length) (hp : p < cs.length) : at_ (swp cs i p) j = if j = p then at_ cs i else if j = i then at_ cs p else at_ cs j := by
  unfold swp
  rw [at_set, at_set]
  by_cases h1 : j = p
  · subst h1; simp [hp]
  · rw [if_neg (fun e => h1 e.1.symm), if_neg h1]
    by_cases h2 : j = i
    · subst h2; simp [hi]
    · rw [if_neg (fun e => h2 e.1.symm), if_neg h2]

theorem up_done {as cs : List Int} {i : Nat} (h : UpInv as cs i) (hi : 0 < i → ¬ Lt as (at_ cs i) (at_ cs ((i - 1) / 2))) : HO as cs := fun j h0 hl => by
  by_cases e : j = i
  · subst e; exact hi h0
  · exact h.1 j h0 hl e
theorem up_step {as cs : List Int} {i : Nat} (h : UpInv as cs i) (h0 : 0 < i) (hi : i < cs.length) (hlt : Lt as (at_ cs i) (at_ cs ((i - 1) / 2))) : UpInv as (swp cs i ((i - 1) / 2)) ((i - 1) / 2) := by
  obtain ⟨p, hp⟩ : ∃ p, p = (i - 1) / 2 := ⟨_, rfl⟩
  rw [← hp] at hlt ⊢
  have hpi : p < i := by omega
  have hpl : p < cs.length := by omega
  constructor
  · intro j hj hl hjp
    rw [swp_len] at hl
    rw [swp_at cs i p j hi hpl, swp_at cs i p _ hi hpl, if_neg hjp]
    by_cases hji : j = i
    · subst hji
      rw [if_pos rfl, ← hp, if_pos rfl]
      exact hlt.asymm
    · rw [if_neg hji]
      by_cases h1 : (j - 1) / 2 = p
      · rw [h1, if_pos rfl]
        intro h2
        exact (h1 ▸ h.1 j hj hl hji) (h2.trans hlt)
      · rw [if_neg h1]
        by_cases h2 : (j - 1) / 2 = i
        · rw [if_pos h2]
          have := h.2 h0 j hj hl h2
          rwa [← hp] at this
        · rw [if_neg h2]; exact h.1 j hj hl hji
  · intro hp0 c hc hl hcp
    rw [swp_len] at hl
    have e1 : (p - 1) / 2 ≠ p := by omega
    have e2 : (p - 1) / 2 ≠ i := by omega
    have e3 : c ≠ p := by omega
    rw [swp_at cs i p c hi hpl, swp_at cs i p _ hi hpl, if_neg e3, if_neg e1, if_neg e2]
    have hpp := h.1 p hp0 hpl (by omega)
    by_cases hci : c = i
    · rw [if_pos hci]; exact hpp
    · rw [if_neg hci]
      have := h.1 c hc hl hci
      rw [hcp] at this
      exact Lt.co this hpp

theorem down_step {as cs : List Int} {i k : Nat} (h : DownInv as cs i) (hk : 0 < k) (hkl : k < cs.length) (hki : (k - 1) / 2 = i) (hlt : Lt as (at_ cs k) (at_ cs i))
    (hbest : ∀ s, 0 < s → s < cs.length → (s - 1) / 2 = i → ¬ Lt as (at_ cs s) (at_ cs k)) : DownInv as (swp cs i k) k := by
  have hi : i < k := by omega
  have hil : i < cs.length := by omega
  constructor
  · intro j hj hl hjk
    rw [swp_len] at hl
    rw [swp_at cs i k j hil hkl, swp_at cs i k _ hil hkl, if_neg hjk]
    by_cases h1 : j = k
    · subst h1
      rw [if_pos rfl, if_pos hki]
      exact hlt.asymm
    · rw [if_neg h1]
      by_cases h2 : j = i
      · subst h2
        rw [if_pos rfl, if_neg (by omega)]
        exact h.2 hj k hk hkl hki
      · rw [if_neg h2]
        by_cases h3 : (j - 1) / 2 = i
        · rw [if_pos h3]; exact hbest j hj hl h3
        · rw [if_neg h3]; exact h.1 j hj hl h3
  · intro _ c hc hl hck
    rw [swp_len] at hl
    rw [swp_at cs i k c hil hkl, swp_at cs i k _ hil hkl, if_neg (by omega), if_neg (by omega), if_neg (by omega), if_pos hki]
    have := h.1 c hc hl (by omega)
    rwa [hck] at this
theorem down_done {as cs : List Int} {i : Nat} (h : DownInv as cs i) (hall : ∀ s, 0 < s → s < cs.length → (s - 1) / 2 = i → ¬ Lt as (at_ cs s) (at_ cs i)) : HO as cs := fun j h0 hl => by
  by_cases e : (j - 1) / 2 = i
  · rw [e]; exact hall j h0 hl e
  · exact h.1 j h0 hl e
/-- the first one is ahead of all others -/
theorem HO.root {as cs : List Int} (h : HO as cs) : ∀ j, j < cs.length → ¬ Lt as (at_ cs j) (at_ cs 0) := by
  intro j
  induction j using Nat.strongRecOn with
  | ind j ih =>
    intro hl
    rcases Nat.eq_zero_or_pos j with h0 | h0
    · subst h0; unfold Lt; omega
    · exact Lt.co (h j h0 hl) (ih ((j - 1) / 2) (by omega) (by omega))

/-- a list of variables 1 .. V, and each one's place in it -/
structure OK (V : Nat) (cs pc : List Int) : Prop where
  len : pc.length = V + 1
  rng : ∀ i, i < cs.length → 1 ≤ at_ cs i ∧ at_ cs i ≤ V
  plc : ∀ i, i < cs.length → at_ pc (at_ cs i).toNat = i + 1
  out : ∀ v : Nat, 1 ≤ v → v ≤ V → at_ pc v = 0 ∨ ∃ i, i < cs.length ∧ at_ cs i = v
theorem OK.inj {V : Nat} {cs pc : List Int} (h : OK V cs pc) {i j : Nat} (hi : i < cs.length) (hj : j < cs.length) (e : at_ cs i = at_ cs j) : i = j := by
  have h1 := h.plc i hi
  have h2 := h.plc j hj
  rw [e] at h1
  omega
/-- the same ones are there -/
def Same (cs ds : List Int) : Prop := cs.length = ds.length ∧ ∀ v : Int, (∃ i, i < cs.length ∧ at_ cs i = v) ↔ ∃ i, i < ds.length ∧ at_ ds i = v
theorem Same.refl (cs : List Int) : Same cs cs := ⟨rfl, fun _ => Iff.rfl⟩
theorem Same.trans {a b c : List Int} (h : Same a b) (k : Same b c) : Same a c := ⟨h.1.trans k.1, fun v => (h.2 v).trans (k.2 v)⟩
theorem swp_same (cs : List Int) (i p : Nat) (hi : i < cs.length) (hp : p < cs.length) : Same cs (swp cs i p) := by
  refine ⟨(swp_len cs i p).symm, fun v => ⟨fun ⟨j, hj, e⟩ => ?_, fun ⟨j, hj, e⟩ => ?_⟩⟩
  · by_cases h1 : j = i
    · refine ⟨p, by rw [swp_len]; exact hp, ?_⟩
      rw [swp_at cs i p p hi hp, if_pos rfl, ← h1]; exact e
    · by_cases h2 : j = p
      · refine ⟨i, by rw [swp_len]; exact hi, ?_⟩
        rw [swp_at cs i p i hi hp]
        by_cases h3 : i = p
        · rw [if_pos h3]; rw [h2, ← h3] at e; exact e
        · rw [if_neg h3, if_pos rfl, ← h2]; exact e
      · refine ⟨j, by rw [swp_len]; exact hj, ?_⟩
        rw [swp_at cs i p j hi hp, if_neg h2, if_neg h1]; exact e
  · rw [swp_len] at hj
    rw [swp_at cs i p j hi hp] at e
    split at e
    · exact ⟨i, hi, e⟩
    · split at e
      · exact ⟨p, hp, e⟩
      · exact ⟨j, hj, e⟩
theorem OK.swp {V : Nat} {cs pc : List Int} (h : OK V cs pc) {i p : Nat} (hi : i < cs.length) (hp : p < cs.length) (hne : i ≠ p) :
    OK V (swp cs i p) ((pc.set (at_ cs p).toNat (i + 1)).set (at_ cs i).toNat (p + 1)) := by
  have ri := h.rng i hi
  have rp := h.rng p hp
  have hv : at_ cs i ≠ at_ cs p := fun e => hne (h.inj hi hp e)
  have hl := h.len
  refine ⟨by simpa using h.len, fun j hj => ?_, fun j hj => ?_, fun v h1 h2 => ?_⟩
  · rw [swp_len] at hj
    rw [swp_at cs i p j hi hp]
    split
    · exact ri
    · split
      · exact rp
      · exact h.rng j hj
  · rw [swp_len] at hj
    rw [swp_at cs i p j hi hp]
    by_cases e1 : j = p
    · subst e1
      rw [if_pos rfl, at_set_eq _ _ _ (by simp; omega)]
    · rw [if_neg e1]
      by_cases e2 : j = i
      · subst e2
        rw [if_pos rfl, at_set_ne _ _ _ _ (by omega), at_set_eq _ _ _ (by omega)]
      · rw [if_neg e2]
        have rj := h.rng j hj
        have n1 : at_ cs j ≠ at_ cs i := fun e => e2 (h.inj hj hi e)
        have n2 : at_ cs j ≠ at_ cs p := fun e => e1 (h.inj hj hp e)
        rw [at_set_ne _ _ _ _ (by omega), at_set_ne _ _ _ _ (by omega)]
        exact h.plc j hj
  · by_cases e1 : (v : Int) = at_ cs i
    · exact .inr ⟨p, by rw [swp_len]; exact hp, by rw [swp_at cs i p p hi hp, if_pos rfl, e1]⟩
    · by_cases e2 : (v : Int) = at_ cs p
      · exact .inr ⟨i, by rw [swp_len]; exact hi, by rw [swp_at cs i p i hi hp, if_neg hne, if_pos rfl, e2]⟩
      · rw [at_set_ne _ _ _ _ (by omega), at_set_ne _ _ _ _ (by omega)]
        rcases h.out v h1 h2 with h3 | ⟨j, hj, e⟩
        · exact .inl h3
        · refine .inr ⟨j, by rw [swp_len]; exact hj, ?_⟩
          rw [swp_at cs i p j hi hp, if_neg (by rintro rfl; exact e2 e.symm), if_neg (by rintro rfl; exact e1 e.symm)]
          exact e
end Go.Proofs.Ytcfkagielgnkkaa.Pl
