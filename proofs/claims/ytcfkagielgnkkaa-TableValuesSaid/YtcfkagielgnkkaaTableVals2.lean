/- Values of the reference's table; Find of both. -/
import Derived.Test.YtcfkagielgnkkaaTableVals
namespace Go.Proofs.Ytcfkagielgnkkaa
open Go.RowKit Pl
set_option linter.unusedVariables false
theorem RD.below {w w' : World} {g V n : Nat} {cs : List Cell3} {D : Nat → Prop} (h : RD w g V n cs D) (hb : Below w.heap.size w w') : RD w' g V n cs D := h.frm (D' := fun _ => False) (Frm.of_below hb) (fun _ _ h => h)
set_option maxHeartbeats 800000 in
theorem rvalues_any {w : World} {g V m : Nat} {cs : List Cell3} {D : Nat → Prop} (frame : Int) (A : Option Addr) (n c B : Nat) (model : List Bool) (h : RD w g V m cs D)
    (hR : Reads w B 1 A n (model.map Value.bool)) (hB : B ≤ w.heap.size) (hn : n ≤ 9223372036854775807) :
    Calls Try.prog 55 #[.pointer (some ⟨g, 0, none⟩), .int .i64 frame, .slice A n c] w (RetVals w (0 ≤ frame ∧ frame < m) (vals (litR m cs frame) model (V + 1))) := by
  have HT := Lib.hid h
  have HBN := Lib.hid (litR_bnd h frame)
  obtain ⟨cv, h, _⟩ := h
  have c1 := h.c1
  have c0 := h.c0
  have hV := h.hv
  have hnn := h.hn
  have hbg := h.hd.lt
  clear h
  rcases (show frame < 0 ∨ (0 ≤ frame ∧ (m : Int) ≤ frame) ∨ (0 ≤ frame ∧ frame < m) from by omega) with h1 | ⟨h1, h2⟩ | ⟨h1, h2⟩
  · go_enter Try.func55, Try.ntmps55
    go_wp2_with fail
    go_ret
    exact .inr ⟨by omega, RetRow.mk rfl (World.ownsRow_nil _ _ _ _) (Below.refl _ _)⟩
  · go_enter Try.func55, Try.ntmps55
    go_wp2_with fail
    go_ret
    exact .inr ⟨by omega, RetRow.mk rfl (World.ownsRow_nil _ _ _ _) (Below.refl _ _)⟩
  · go_enter Try.func55, Try.ntmps55
    go_wp2_with fail
    go_loopw [7, 8] (fun v i wr => ∃ k : Nat, k ≤ V + 1 ∧ i = .int .i64 k ∧ wr.ownsRow w.heap.size 4 1 v k ((vals (litR m cs frame) model k).map Value.bool) ∧ Below w.heap.size w wr) (fun _ i _ => V + 1 - (intOf i).toNat)
    case atStart => exact ⟨0, Nat.zero_le _, rfl, World.ownsRow_nil _ _ _ _, Below.refl _ _⟩
    case round =>
      obtain ⟨k, hk, rfl, hown, hbel⟩ := hrel
      have c02 : wr.cell? ⟨g, 0, none⟩ = some (.int .i64 V) := (hbel.cell (by exact hbg)).trans c0
      by_cases hlt : k < V + 1
      · have HT2 := Lib.hid (HT.out.below hbel)
        have HR2 := Lib.hid (hR.below (hbel.mono hB))
        have HS := Lib.hid (vals_succ (litR m cs frame) model k)
        go_wp2_with fail
        refine (rvalue_any frame (2 * (k : Int)) A n c B model HT2.out (by omega) HR2.out hn (HBN.out _).1 (HBN.out _).2).mono ?_
        rintro e w2 ⟨rfl, rfl⟩
        go_wp2_with (at_builtin; refine wpList_append_one _ rfl _ _ 22 rfl w.heap.size 4 (.bool false) 1 1 Try.underlying22 info_bool rfl (by decide) _ _ _ rfl hown _ rfl rfl one_bool (by omega) (by unfold maxLen; omega) hbel.size ?_; intro v' w3 hown' hg' hb'; have HO := Lib.hid hown'; clear hown')
        go_roundw
        case rel => exact ⟨k + 1, by omega, by go_num, by rw [HS.out]; simpa using HO.out, hbel.trans hb'⟩
        case measure => simp [intOf]; omega
      · go_wp2_with fail
        go_ret
        obtain rfl : k = V + 1 := by omega
        exact .inl ⟨⟨h1, h2⟩, RetRow.mk (by simp [vals_length]) hown hbel⟩

/-- does the literal x stand for l or -l? -/
def Hit (x l : Int) : Prop := x ≠ 0 ∧ (x = l ∨ x = -l)
/-- the first place (frame, variable) at which l is found -/
def FindIs (f : Nat → Nat → Int) (n V : Nat) (l : Int) : Option (Nat × Nat) → Prop
  | some (i, k) => i < n ∧ 1 ≤ k ∧ k ≤ V ∧ Hit (f i k) l ∧ (∀ i' k', i' < i → 1 ≤ k' → k' ≤ V → ¬ Hit (f i' k') l) ∧ ∀ k', 1 ≤ k' → k' < k → ¬ Hit (f i k') l
  | none => ∀ i' k', i' < n → 1 ≤ k' → k' ≤ V → ¬ Hit (f i' k') l
theorem FindIs.unique {f : Nat → Nat → Int} {n V : Nat} {l : Int} {r s : Option (Nat × Nat)} (hr : FindIs f n V l r) (hs : FindIs f n V l s) : r = s := by
  rcases r with _ | ⟨i, k⟩ <;> rcases s with _ | ⟨j, m⟩
  · rfl
  · obtain ⟨h1, h2, h3, h4, _⟩ := hs; exact absurd h4 (hr j m h1 h2 h3)
  · obtain ⟨h1, h2, h3, h4, _⟩ := hr; exact absurd h4 (hs i k h1 h2 h3)
  · obtain ⟨a1, a2, a3, a4, a5, a6⟩ := hr
    obtain ⟨b1, b2, b3, b4, b5, b6⟩ := hs
    have e1 : i = j := by
      rcases Nat.lt_trichotomy i j with h | h | h
      · exact absurd a4 (b5 i k h a2 a3)
      · exact h
      · exact absurd b4 (a5 j m h b2 b3)
    subst e1
    have e2 : k = m := by
      rcases Nat.lt_trichotomy k m with h | h | h
      · exact absurd a4 (b6 k a2 h)
      · exact h
      · exact absurd b4 (a6 m b2 h)
    rw [e2]
def findEnd (r : Option (Nat × Nat)) : Ending := .returned (.tuple #[.int .i64 ((r.map (·.1)).getD 0 : Nat), .int .i64 ((r.map (·.2)).getD 0 : Nat), .bool r.isSome])
def RetFind (w : World) (f : Nat → Nat → Int) (n V : Nat) (l : Int) (e : Ending) (w' : World) : Prop := ∃ r, FindIs f n V l r ∧ e = findEnd r ∧ w = w'
end Go.Proofs.Ytcfkagielgnkkaa
