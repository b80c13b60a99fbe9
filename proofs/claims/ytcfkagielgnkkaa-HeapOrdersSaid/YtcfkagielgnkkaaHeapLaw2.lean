/- Plain facts of pushing onto, raising in, and popping from a heap. -/
import Derived.Test.YtcfkagielgnkkaaHeapLaw
namespace Go.Proofs.Ytcfkagielgnkkaa.Pl
def In (ls : List Int) (v : Int) : Prop := ∃ i, i < ls.length ∧ at_ ls i = v
theorem at_append_left (ls : List Int) (v : Int) (i : Nat) (h : i < ls.length) : at_ (ls ++ [v]) i = at_ ls i := by
  unfold at_; rw [List.getD_eq_getElem?_getD, List.getElem?_append_left h, List.getD_eq_getElem?_getD]
theorem at_append_last (ls : List Int) (v : Int) : at_ (ls ++ [v]) ls.length = v := by
  unfold at_; rw [List.getD_eq_getElem?_getD, List.getElem?_append_right (Nat.le_refl _)]; simp
theorem push_ok {V : Nat} {ls ps : List Int} {v : Nat} (h : OK V ls ps) (h1 : 1 ≤ v) (h2 : v ≤ V) (h0 : at_ ps v = 0) : OK V (ls ++ [(v : Int)]) (ps.set v (ls.length + 1)) := by
  have hl := h.len
  have hout : ∀ i, i < ls.length → (at_ ls i).toNat ≠ v := fun i hi e => by
    have h3 := h.plc i hi
    rw [e, h0] at h3
    omega
  refine ⟨by simpa using h.len, fun i hi => ?_, fun i hi => ?_, fun u h3 h4 => ?_⟩
  · rw [List.length_append] at hi
    by_cases e : i < ls.length
    · rw [at_append_left ls v i e]; exact h.rng i e
    · obtain rfl : i = ls.length := by simp at hi; omega
      rw [at_append_last]; omega
  · rw [List.length_append] at hi
    by_cases e : i < ls.length
    · rw [at_append_left ls v i e, at_set_ne _ _ _ _ (fun e' => hout i e e'.symm)]; exact h.plc i e
    · obtain rfl : i = ls.length := by simp at hi; omega
      rw [at_append_last, Int.toNat_natCast, at_set_eq _ _ _ (by omega)]
  · by_cases e : u = v
    · subst e
      exact .inr ⟨ls.length, by simp, at_append_last _ _⟩
    · rw [at_set_ne _ _ _ _ (fun e' => e e'.symm)]
      rcases h.out u h3 h4 with h5 | ⟨i, hi, e5⟩
      · exact .inl h5
      · exact .inr ⟨i, by simp; omega, by rw [at_append_left _ _ _ hi]; exact e5⟩
theorem push_inv {az ls : List Int} {v : Int} (h : HO az ls) : UpInv az (ls ++ [v]) ls.length := by
  constructor
  · intro j h0 hl hne
    rw [List.length_append] at hl
    simp at hl
    rw [at_append_left _ _ _ (by omega), at_append_left _ _ _ (by omega)]
    exact h j h0 (by omega)
  · intro _ c h0 hl e
    rw [List.length_append] at hl
    simp at hl
    omega
theorem set_same (ps : List Int) (v : Nat) (a : Int) (h : at_ ps v = a) (hv : v < ps.length) : ps.set v a = ps := by
  apply List.ext_getElem?
  intro j
  rw [List.getElem?_set]
  by_cases hj : v = j
  · subst hj
    rw [if_pos rfl, if_pos hv, ← h, at_, List.getD_eq_getElem?_getD, List.getElem?_eq_getElem hv]; rfl
  · rw [if_neg hj]
theorem lt_set_ne (az : List Int) (v : Nat) (a x y : Int) (hx : x.toNat ≠ v) (hy : y.toNat ≠ v) : Lt (az.set v a) x y ↔ Lt az x y := by
  unfold Lt
  rw [at_set_ne _ _ _ _ (fun e => hx e.symm), at_set_ne _ _ _ _ (fun e => hy e.symm)]
theorem bump_out {V : Nat} {ls ps az : List Int} {v : Nat} {a : Int} (h : OK V ls ps) (ho : HO az ls) (h0 : at_ ps v = 0) : HO (az.set v a) ls := by
  have hout : ∀ i, i < ls.length → (at_ ls i).toNat ≠ v := fun i hi e => by
    have h3 := h.plc i hi
    rw [e, h0] at h3
    omega
  intro j h1 h2
  rw [lt_set_ne _ _ _ _ _ (hout j h2) (hout _ (by omega))]
  exact ho j h1 h2
theorem bump_inv {V : Nat} {ls ps az : List Int} {v i : Nat} {a : Int} (h : OK V ls ps) (ho : HO az ls) (hi : i < ls.length) (hv : at_ ls i = v) (ha : at_ az v ≤ a) : UpInv (az.set v a) ls i := by
  have hout : ∀ j, j < ls.length → j ≠ i → (at_ ls j).toNat ≠ v := fun j hj hne e => by
    have h1 := h.rng j hj
    exact hne (h.inj hj hi (by rw [hv]; omega))
  constructor
  · intro j h1 h2 hne
    by_cases hp : (j - 1) / 2 = i
    · have h3 := ho j h1 h2
      rw [hp] at h3 ⊢
      have n1 := hout j h2 hne
      unfold Lt at *
      rw [hv] at h3 ⊢
      rw [at_set_ne _ _ _ _ (fun e => n1 e.symm)]
      have : at_ (az.set v a) (v : Int).toNat = a ∨ at_ (az.set v a) (v : Int).toNat = at_ az v := by
        rw [Int.toNat_natCast, at_set]
        split
        · exact .inl rfl
        · exact .inr rfl
      rw [Int.toNat_natCast] at *
      omega
    · rw [lt_set_ne _ _ _ _ _ (hout j h2 hne) (hout _ (by omega) hp)]
      exact ho j h1 h2
  · intro h0 c h1 h2 hc
    rw [lt_set_ne _ _ _ _ _ (hout c h2 (by omega)) (hout _ (by omega) (by omega))]
    have h3 := ho c h1 h2
    rw [hc] at h3
    exact Lt.co h3 (ho i h0 hi)
theorem at_take (ls : List Int) (n i : Nat) (h : i < n) : at_ (ls.take n) i = at_ ls i := by
  unfold at_; rw [List.getD_eq_getElem?_getD, List.getElem?_take, if_pos h, List.getD_eq_getElem?_getD]
/-- what is left when the first is taken and the last is put in its place -/
theorem pop_ok {V : Nat} {ls ps : List Int} {n : Nat} (h : OK V ls ps) (hn : ls.length = n + 1) (h0 : 0 < n) :
    OK V ((ls.take n).set 0 (at_ ls n)) ((ps.set (at_ ls 0).toNat 0).set (at_ ls n).toNat 1) := by
  have hl := h.len
  have r0 := h.rng 0 (by omega)
  have rn := h.rng n (by omega)
  have hne : at_ ls 0 ≠ at_ ls n := fun e => by have := h.inj (by omega) (by omega) e; omega
  have htl : (ls.take n).length = n := by simp; omega
  refine ⟨by simpa using h.len, fun i hi => ?_, fun i hi => ?_, fun u h3 h4 => ?_⟩
  · rw [List.length_set, htl] at hi
    by_cases e : i = 0
    · subst e; rw [at_set_eq _ _ _ (by omega)]; exact rn
    · rw [at_set_ne _ _ _ _ (fun e' => e e'.symm), at_take _ _ _ hi]; exact h.rng i (by omega)
  · rw [List.length_set, htl] at hi
    by_cases e : i = 0
    · subst e; rw [at_set_eq _ _ _ (by omega), at_set_eq _ _ _ (by simp; omega)]; rfl
    · rw [at_set_ne _ _ _ _ (fun e' => e e'.symm), at_take _ _ _ hi]
      have ri := h.rng i (by omega)
      have n1 : at_ ls i ≠ at_ ls n := fun e' => by have := h.inj (by omega) (by omega) e'; omega
      have n2 : at_ ls i ≠ at_ ls 0 := fun e' => by have := h.inj (by omega) (by omega) e'; omega
      rw [at_set_ne _ _ _ _ (by omega), at_set_ne _ _ _ _ (by omega)]
      exact h.plc i (by omega)
  · by_cases e1 : (u : Int) = at_ ls n
    · exact .inr ⟨0, by rw [List.length_set, htl]; exact h0, by rw [at_set_eq _ _ _ (by omega), e1]⟩
    · rw [at_set_ne _ _ _ _ (by omega)]
      by_cases e2 : (u : Int) = at_ ls 0
      · left
        have : (at_ ls 0).toNat = u := by omega
        rw [this, at_set_eq _ _ _ (by omega)]
      · rw [at_set_ne _ _ _ _ (by omega)]
        rcases h.out u h3 h4 with h5 | ⟨i, hi, e5⟩
        · exact .inl h5
        · have i0 : i ≠ 0 := by rintro rfl; exact e2 e5.symm
          have i1 : i ≠ n := by rintro rfl; exact e1 e5.symm
          refine .inr ⟨i, by rw [List.length_set, htl]; omega, ?_⟩
          rw [at_set_ne _ _ _ _ (fun e' => i0 e'.symm), at_take _ _ _ (by omega)]; exact e5
theorem pop_inv {az ls : List Int} {n : Nat} {x : Int} (ho : HO az ls) (hn : ls.length = n + 1) : DownInv az ((ls.take n).set 0 x) 0 := by
  have htl : (ls.take n).length = n := by simp; omega
  constructor
  · intro j h1 h2 h3
    rw [List.length_set, htl] at h2
    rw [at_set_ne _ _ _ _ (by omega), at_take _ _ _ h2, at_set_ne _ _ _ _ (fun e => h3 e.symm), at_take _ _ _ (by omega)]
    exact ho j h1 (by omega)
  · intro h; omega
theorem pop_in {V : Nat} {ls ps : List Int} {n : Nat} (h : OK V ls ps) (hn : ls.length = n + 1) (h0 : 0 < n) (u : Int) : In ((ls.take n).set 0 (at_ ls n)) u ↔ In ls u ∧ u ≠ at_ ls 0 := by
  have htl : (ls.take n).length = n := by simp; omega
  constructor
  · rintro ⟨i, hi, e⟩
    rw [List.length_set, htl] at hi
    by_cases e0 : i = 0
    · subst e0
      rw [at_set_eq _ _ _ (by omega)] at e
      refine ⟨⟨n, by omega, e⟩, fun e' => ?_⟩
      have := h.inj (i := n) (j := 0) (by omega) (by omega) (by rw [e, e'])
      omega
    · rw [at_set_ne _ _ _ _ (fun e' => e0 e'.symm), at_take _ _ _ hi] at e
      refine ⟨⟨i, by omega, e⟩, fun e' => ?_⟩
      have := h.inj (i := i) (j := 0) (by omega) (by omega) (by rw [e, e'])
      omega
  · rintro ⟨⟨i, hi, e⟩, hne⟩
    have i0 : i ≠ 0 := by rintro rfl; exact hne e.symm
    by_cases e1 : i = n
    · subst e1
      exact ⟨0, by rw [List.length_set, htl]; exact h0, by rw [at_set_eq _ _ _ (by omega)]; exact e⟩
    · refine ⟨i, by rw [List.length_set, htl]; omega, ?_⟩
      rw [at_set_ne _ _ _ _ (fun e' => i0 e'.symm), at_take _ _ _ (by omega)]; exact e
theorem pop_last {V : Nat} {ls ps : List Int} (h : OK V ls ps) (hn : ls.length = 1) : OK V (ls.take 0) (ps.set (at_ ls 0).toNat 0) := by
  have hl := h.len
  have r0 := h.rng 0 (by omega)
  refine ⟨by simpa using h.len, fun i hi => absurd hi (by simp), fun i hi => absurd hi (by simp), fun u h3 h4 => .inl ?_⟩
  by_cases e : (at_ ls 0).toNat = u
  · rw [e, at_set_eq _ _ _ (by omega)]
  · rw [at_set_ne _ _ _ _ e]
    rcases h.out u h3 h4 with h5 | ⟨i, hi, e5⟩
    · exact h5
    · obtain rfl : i = 0 := by omega
      omega
end Go.Proofs.Ytcfkagielgnkkaa.Pl
