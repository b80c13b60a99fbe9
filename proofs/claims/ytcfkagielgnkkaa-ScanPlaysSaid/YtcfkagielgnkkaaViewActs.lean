/- How the law's lists of acts are seen by the walks: structs of one-cell fields. -/
import Derived.Test.YtcfkagielgnkkaaViews
namespace Go.Proofs.Ytcfkagielgnkkaa
open Go.ChangeShapes Go.WideShapes Go.Deep Go.RowKit
set_option linter.unusedVariables false

/-- an act of the scanner: its kind, its string, its most -/
structure Act3 where
  kind : Int
  s : ByteArray
  most : Int
def Act3.cells (a : Act3) : List Value := [.int .i64 a.kind, .string a.s, .int .i64 a.most]
def Act3.ok (a : Act3) : Prop := (Lit.int .i64 a.kind).wf = true ∧ a.s.size ≤ maxLen ∧ (Lit.int .i64 a.most).wf = true
theorem view_acts3 {H : Type} {enc : TypeId × Value → H} {W : World} {A : Option Addr} {len cap : Nat} {d : DataW H} {p : List MemPlace} (h : DataW.Trod enc Try.prog W 0 (fun _ => true) true 40 (.slice A len cap) d p) :
    ∃ l : List Act3, l.length = len ∧ Reads W W.heap.size 3 A len (l.flatMap Act3.cells) ∧ len ≤ cap ∧ cap ≤ maxLen ∧ ∀ x ∈ l, x.ok := by
  refine view_slice Try.underlying40 (show Try.prog.cellsOf 44 = 3 from by kernel_rfl) (by omega) Act3.cells (fun _ => rfl) Act3.ok (fun n cs y hy => ?_) h
  obtain ⟨hl, hf⟩ := struct_cells Try.underlying44 (by kernel_rfl) (by kernel_rfl) hy
  obtain ⟨v0, y0, m0, e0, t0⟩ := hf 0 _ rfl
  obtain ⟨v1, y1, m1, e1, t1⟩ := hf 1 _ rfl
  obtain ⟨v2, y2, m2, e2, t2⟩ := hf 2 _ rfl
  obtain ⟨k, h0, _, w0⟩ := DataW.trod_int Try.underlying3 t0
  obtain ⟨s, h1, _, w1⟩ := DataW.trod_string Try.underlying9 t1
  obtain ⟨m, h2, _, w2⟩ := DataW.trod_int Try.underlying3 t2
  simp only [List.cons.injEq, and_true] at h0 h1 h2
  subst h0 h1 h2
  match cs, hl with
  | [c0, c1, c2], _ =>
    simp at e0 e1 e2
    subst e0 e1 e2
    exact ⟨⟨k, s, m⟩, rfl, w0, w1, w2⟩

/-- the cells of element k of a slice of C-cell elements -/
theorem Reads.elem {α : Type} {f : α → List Value} {C : Nat} {w : World} {B n k : Nat} {A : Option Addr} {l : List α} (h : Reads w B C A n (l.flatMap f)) (hC : 0 < C) (hf : ∀ x, (f x).length = C) (hl : l.length = n) (hk : k < n) :
    ∃ b off x, A = some ⟨b, off, none⟩ ∧ b < B ∧ l[k]? = some x ∧ ∀ j u, (f x)[j]? = some u → w.cell? ⟨b, off + (k * C + j), none⟩ = some u := by
  obtain ⟨ad, e, hb, hc⟩ := h.2 (by omega)
  have hx : l[k]? = some (l[k]'(by omega)) := List.getElem?_eq_getElem (by omega)
  have key : ∀ j u, (f (l[k]'(by omega)))[j]? = some u → w.cell? (ad.add (k * C + j)) = some u := fun j u hu => by
    have hj : j < C := by
      have := (List.getElem?_eq_some_iff.1 hu).1
      rwa [hf] at this
    refine hc _ u ?_
    rw [flat_at f C hC hf]
    have e1 : (k * C + j) / C = k := by rw [Nat.mul_comm, Nat.mul_add_div hC, Nat.div_eq_of_lt hj, Nat.add_zero]
    have e2 : (k * C + j) % C = j := by rw [Nat.mul_comm, Nat.mul_add_mod, Nat.mod_eq_of_lt hj]
    rw [e1, e2, hx]; exact hu
  obtain ⟨b, off, spot⟩ := ad
  have hs : spot = none := by
    have h0 : 0 < (l.flatMap f).length := by rw [flat_length f C hf, hl]; exact Nat.mul_pos (by omega) hC
    simpa [Addr.add] using World.cell?_spot (hc 0 _ (List.getElem?_eq_getElem h0))
  subst hs
  refine ⟨b, off, _, e, hb, hx, fun j u hu => ?_⟩
  have := key j u hu
  unfold Addr.add at this
  split at this
  · rename_i h0; rw [h0]; exact this
  · exact this
end Go.Proofs.Ytcfkagielgnkkaa
