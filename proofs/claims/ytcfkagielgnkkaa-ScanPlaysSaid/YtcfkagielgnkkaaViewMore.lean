/- More views of arguments: bytes; nil. -/
import Derived.Test.YtcfkagielgnkkaaViews
namespace Go.Proofs.Ytcfkagielgnkkaa
open Go.ChangeShapes Go.WideShapes Go.Deep Go.RowKit
set_option linter.unusedVariables false
section
variable {H : Type} {enc : TypeId × Value → H} {P : Program} {W : World}
theorem view_nil {t e : TypeId} (ht : P.underlying t = some (.slice e)) {A : Option Addr} {len cap : Nat} {d : DataW H} {p : List MemPlace}
    (h : DataW.Trod enc P W 0 (fun _ => true) true t (.slice A len cap) d p) : A = none → cap = 0 := by
  rintro rfl
  obtain ⟨fuel, hf'⟩ := h
  rcases open_slice ht hf' with ⟨hcs, _⟩ | ⟨a, l', c', m, n, D, Pl, hcs, _⟩
  · simp [Value.cells] at hcs; exact hcs.2
  · simp [Value.cells] at hcs
theorem u8_of {x : Int} (h : (Lit.int .u8 x).wf = true) : Value.int .u8 x = Value.int .u8 ((UInt8.ofNat x.toNat).toNat : Int) := by
  have := bounds_u8 h
  rw [UInt8.toNat_ofNat', Nat.mod_eq_of_lt (by omega)]
  congr 1
  omega
theorem view_u8 {t e : TypeId} (ht : P.underlying t = some (.slice e)) (he : P.underlying e = some (.int .u8)) (hC : P.cellsOf e = 1)
    {A : Option Addr} {len cap : Nat} {d : DataW H} {p : List MemPlace} (h : DataW.Trod enc P W 0 (fun _ => true) true t (.slice A len cap) d p) :
    ∃ bs : List UInt8, Reads W W.heap.size 1 A len (u8s bs) ∧ len ≤ cap ∧ cap ≤ maxLen ∧ (A = none → cap = 0) := by
  obtain ⟨l, hR, h1, h2, h3⟩ := view_ints ht he hC h
  refine ⟨l.map fun x => UInt8.ofNat x.toNat, ?_, h1, h2, view_nil ht h⟩
  have : u8s (l.map fun x => UInt8.ofNat x.toNat) = l.map (Value.int .u8) := by
    unfold u8s
    rw [List.map_map]
    exact List.map_congr_left fun x hx => (u8_of (h3 x hx)).symm
  rw [this]; exact hR
end
end Go.Proofs.Ytcfkagielgnkkaa
