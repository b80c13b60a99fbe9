/- How the law's lists of acts are seen by the walks: structs of one-cell fields. -/
import Derived.Test.YtpdgjcejkmkglaaGreatViews
namespace Go.Proofs.YtpdgjcejkmkglaaGreat
open Go.ChangeShapes Go.WideShapes Go.Deep Go.RowKit
set_option linter.unusedVariables false

/-- an act of the scanner: its kind, its string, its most -/
structure Act3 where
  kind : Int
  s : ByteArray
  most : Int
def Act3.cells (a : Act3) : List Value := [.int .i64 a.kind, .string a.s, .int .i64 a.most]
def Act3.ok (a : Act3) : Prop := (Lit.int .i64 a.kind).wf = true ∧ a.s.size ≤ maxLen ∧ (Lit.int .i64 a.most).wf = true

/-- the cells of element k of a slice of C-cell elements -/
theorem Reads.elem {α : Type} {f : α → List Value} {C : Nat} {w : World} {B n k : Nat} {A : Option Addr} {l : List α} (h : Reads w B C A n (l.flatMap f)) (hC : 0 < C) (hf : ∀ x, (f x).length = C) (hl : l.length = n) (hk : k < n) :
    ∃ b off x, A = some ⟨b, off, none⟩ ∧ b < B ∧ l[k]? = some x ∧ ∀ j u, (f x)[j]? = some u → w.cell? ⟨b, off + (k * C + j), none⟩ = some u := by
  obtain ⟨ad, e, hb, hc⟩ := h.2 (by omega)
  have hx : l[k]? = some (l[k]'(by omega)) := List.getElem?_eq_getElem (by omega)
  have key : ∀ j u, (f (l[k]'(by omega)))[j]? = some u → w.cell? (ad.add (k * C + j)) = some u := fun j u hu => by
    have hj : j < C := by
      have := (List.getElem?_eq_some_iff.1 hu).1
      rwa [hf] at this
    refine hc _ u ?_
    rw [flat_at f C hC hf]
    have e1 : (k * C + j) / C = k := by rw [Nat.mul_comm, Nat.mul_add_div hC, Nat.div_eq_of_lt hj, Nat.add_zero]
    have e2 : (k * C + j) % C = j := by rw [Nat.mul_comm, Nat.mul_add_mod, Nat.mod_eq_of_lt hj]
    rw [e1, e2, hx]; exact hu
  obtain ⟨b, off, spot⟩ := ad
  have hs : spot = none := by
    have h0 : 0 < (l.flatMap f).length := by rw [flat_length f C hf, hl]; exact Nat.mul_pos (by omega) hC
    simpa [Addr.add] using World.cell?_spot (hc 0 _ (List.getElem?_eq_getElem h0))
  subst hs
  refine ⟨b, off, _, e, hb, hx, fun j u hu => ?_⟩
  have := key j u hu
  unfold Addr.add at this
  split at this
  · rename_i h0; rw [h0]; exact this
  · exact this
end Go.Proofs.YtpdgjcejkmkglaaGreat
