/- alive of layer 19, and the walk of HeapNils. -/
import Derived.Test.YtcfkagielgnkkaaHeapPop
namespace Go.Proofs.Ytcfkagielgnkkaa
open Go.RowKit Pl
set_option linter.unusedVariables false
theorem in_single (a u : Int) : In ([] ++ [a]) u ↔ u = a := by
  constructor
  · rintro ⟨i, hi, e⟩
    simp at hi
    subst hi
    exact e.symm
  · rintro rfl; exact ⟨0, by simp, rfl⟩
theorem in_snoc (l : List Int) (a u : Int) : In (l ++ [a]) u ↔ In l u ∨ u = a := by
  constructor
  · rintro ⟨i, hi, e⟩
    by_cases h : i < l.length
    · rw [at_append_left _ _ _ h] at e; exact .inl ⟨i, h, e⟩
    · obtain rfl : i = l.length := by simp at hi; omega
      rw [at_append_last] at e; exact .inr e.symm
  · rintro (⟨i, hi, e⟩ | rfl)
    · exact ⟨i, by simp; omega, by rw [at_append_left _ _ _ hi]; exact e⟩
    · exact ⟨l.length, by simp, at_append_last _ _⟩
/-- the first of a heap of 1 and 2, where 2 is more active -/
theorem root_two {az ls : List Int} (ho : HO az ls) (hl : 0 < ls.length) (hin : ∀ u, In ls u ↔ u = 1 ∨ u = 2) (ha : at_ az 1 < at_ az 2) : at_ ls 0 = 2 := by
  have h0 : at_ ls 0 = 1 ∨ at_ ls 0 = 2 := (hin _).1 ⟨0, hl, rfl⟩
  rcases h0 with h0 | h0
  · obtain ⟨j, hj, e⟩ := (hin 2).2 (.inr rfl)
    have := ho.root j hj
    rw [e, h0] at this
    exact absurd (.inl ha) this
  · exact h0
theorem lenS_any {w : World} {base V g : Nat} {ls az : List Int} (h : HS w base V g ls az) :
    Calls Try.prog 44 #[.pointer (some ⟨g, 0, none⟩)] w fun e w' => e = .returned (.int .i64 (ls.length : Nat)) ∧ w = w' := by
  obtain ⟨gp, ga, lv, ps, h, _⟩ := h
  exact len_any h
theorem bel {base : Nat} {w w1 w2 : World} (h : Below base w w1) (k : Below base w1 w2) : Below base w w2 := h.trans k
set_option maxHeartbeats 800000 in
theorem alive19_any (w : World) : Calls Try.prog 40 #[] w fun e w' => e = .returned (.bool true) ∧ Below w.heap.size w w' := by
  go_enter Try.func40, Try.ntmps40
  go_wp2_with fail
  refine (newHeap_any 2 w (by omega)).mono ?_
  rintro e w1 ⟨g, rfl, hs1, hb1⟩
  go_wp2_with fail
  refine (push_any 1 hs1 (by simp)).mono ?_
  rintro e w2 ⟨b2, l2, rfl, hs2, hb2, hl2, _, hp2⟩
  obtain ⟨rfl, sm2⟩ := hp2 rfl (by rintro ⟨i, hi, _⟩; simp at hi)
  have hin2 : ∀ u, In l2 u ↔ u = 1 := fun u => (Same.in sm2 u).symm.trans (in_single 1 u)
  have HI2 := Lib.hid hin2
  have hl2 := sm2.1
  simp at hl2
  have HL2 := Lib.hid hl2
  clear hp2 sm2 hin2 hl2 hs1
  go_wp2_with fail
  refine (push_any 2 hs2 (by have := HL2.out; omega)).mono ?_
  rintro e w3 ⟨b3, l3, rfl, hs3, hb3, hl3, _, hp3⟩
  obtain ⟨rfl, sm3⟩ := hp3 rfl (by intro h; have := (HI2.out 2).1 h; omega)
  have hin3 : ∀ u, In l3 u ↔ u = 1 ∨ u = 2 := fun u => by rw [← Same.in sm3 u, in_snoc, HI2.out]
  have HI3 := Lib.hid hin3
  have hl3 := sm3.1
  rw [List.length_append, ← HL2.out] at hl3
  have HL3 := Lib.hid hl3
  clear hp3 sm3 hin3 hl3 hs2 HI2 HL2
  go_wp2_with fail
  refine (bump_any 2 3 hs3 (by omega) (by omega)).mono ?_
  rintro e w4 ⟨l4, a4, rfl, hs4, hb4, sm4, ha4⟩
  have ha4 := ha4 rfl (by omega) (by omega)
  have hin4 : ∀ u, In l4 u ↔ u = 1 ∨ u = 2 := fun u => by rw [← Same.in sm4 u]; exact HI3.out u
  have hl4 : l4.length = 1 + 1 := by have := sm4.1; have := HL3.out; simp at this; omega
  have hr4 : at_ l4 0 = 2 := by
    obtain ⟨gp, ga, lv, ps, h, hok, ho, hab⟩ := hs4
    refine root_two ho (by omega) hin4 ?_
    rw [ha4]
    decide
  have HI4 := Lib.hid hin4
  have HR4 := Lib.hid hr4
  clear sm4 ha4 hin4 hr4 hs3 HI3 HL3
  go_wp2_with fail
  refine (pop_any hs4 hl4).mono ?_
  rintro e w5 ⟨l5, rfl, hs5, hb5, hl5, hin5⟩
  rw [HR4.out] at hin5 ⊢
  have h15 : In l5 1 := (hin5 1).2 ⟨(HI4.out 1).2 (.inl rfl), by decide⟩
  have hl5' : l5.length = 1 := by omega
  have HH5 := Lib.hid h15
  clear hin5 hs4 HI4 HR4 h15 hl5
  go_wp2_with fail
  refine (lenS_any hs5).mono ?_
  rw [hl5']
  rintro e w' ⟨rfl, rfl⟩
  clear hl5'
  go_wp2_with fail
  refine (has_yes 1 hs5 HH5.out).mono ?_
  rintro e w' ⟨rfl, rfl⟩
  go_wp2_with fail
  go_ret
  exact ⟨rfl, hb1.trans (hb2.trans (hb3.trans (hb4.trans hb5)))⟩

set_option maxHeartbeats 400000 in
theorem heapNilswalk (v d : Int) (w : World) (hv : (Lit.int .i64 v).wf = true) (hd : (Lit.int .i64 d).wf = true) :
    Calls Try.prog 13 #[.int .i64 v, .int .i64 d] w fun e w' => e = .returned (.bool true) ∧ Below w.heap.size w w' := by
  go_enter Try.func13, Try.ntmps13
  go_wp2_with fail
  refine (bumpNil_any _ _ _).mono ?_
  rintro e w' ⟨rfl, rfl⟩
  go_wp2_with fail
  refine (halveNil_any _).mono ?_
  rintro e w' ⟨rfl, rfl⟩
  go_wp2_with fail
  refine (growNil_any _ _).mono ?_
  rintro e w' ⟨rfl, rfl⟩
  go_wp2_with fail
  refine (popNil_any _).mono ?_
  rintro e w' ⟨rfl, rfl⟩
  go_wp2_with fail
  refine (pushNil_any _ _).mono ?_
  rintro e w' ⟨rfl, rfl⟩
  go_wp2_with fail
  refine (hasNil_any _ _).mono ?_
  rintro e w' ⟨rfl, rfl⟩
  go_wp2_with fail
  refine (actNil_any _ _).mono ?_
  rintro e w' ⟨rfl, rfl⟩
  go_wp2_with fail
  refine (lenNil_any _).mono ?_
  rintro e w' ⟨rfl, rfl⟩
  go_wp2_with fail
  refine (alive19_any _).mono ?_
  rintro e w1 ⟨rfl, hb⟩
  go_wp2_with fail
  go_ret
  exact ⟨rfl, hb⟩
end Go.Proofs.Ytcfkagielgnkkaa
