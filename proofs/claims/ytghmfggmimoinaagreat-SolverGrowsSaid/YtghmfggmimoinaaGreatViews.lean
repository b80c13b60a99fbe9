/- How the arguments of a law are seen by its walk: slices as lists. No condition. -/
import Derived.Test.YtghmfggmimoinaaGreatBase
import Derived.Deep.Slices
import Derived.Deep.Fields
import Derived.ChangeSame
namespace Go.Proofs.YtghmfggmimoinaaGreat
open Go.ChangeShapes Go.WideShapes Go.Deep Go.RowKit
section
variable {H : Type} {enc : TypeId × Value → H} {P : Program} {W : World}
theorem Za3v {α : Type} (f : α → List Value) (C : Nat) (hC : 0 < C) (hf : ∀ x, (f x).length = C) : ∀ (l : List α) (k : Nat), (l.flatMap f)[k]? = l[k / C]?.bind fun x => (f x)[k % C]?
 | [], k => by simp
 | x :: l, k => by
  rw [List.flatMap_cons]
  by_cases hk : k < C
  ·rw [List.getElem?_append_left (by rw [hf]; exact hk), Nat.div_eq_of_lt hk, Nat.mod_eq_of_lt hk]; simp
  ·rw [List.getElem?_append_right (by rw [hf]; omega), hf, Za3v f C hC hf l (k - C)]
   have e1 : k / C = (k - C) / C + 1 := by rw [Nat.div_eq_sub_div hC (by omega)]
   have e2 : (k - C) % C = k % C := by rw [← Nat.mod_eq_sub_mod (by omega)]
   rw [e1, e2]; simp
theorem Zst {α : Type} (f : α → List Value) (C : Nat) (hf : ∀ x, (f x).length = C) (l : List α) : (l.flatMap f).length = l.length * C := by
 induction l with
 | nil => simp
 | cons x l ih => rw [List.flatMap_cons, List.length_append, hf, ih, List.length_cons, Nat.succ_mul]; omega
theorem Za3n {α : Type} {p : Nat → α → Prop} : ∀ n : Nat, (∀ i, i < n → ∃ x, p i x) → ∃ l : List α, l.length = n ∧ ∀ i x, l[i]? = some x → p i x
 | 0, _ => ⟨[], rfl, fun i x h => by simp at h⟩
 | n + 1, h => by
  obtain ⟨l, hl, hp⟩ := Za3n n fun i hi => h i (by omega)
  obtain ⟨x, hx⟩ := h n (by omega)
  refine ⟨l ++ [x], by simp [hl], fun i y hy => ?_⟩
  rcases Nat.lt_or_ge i n with hi | hi
  ·rw [List.getElem?_append_left (by omega)] at hy; exact hp i y hy
  ·rw [List.getElem?_append_right (by omega)] at hy
   have hi' : i - l.length = 0 := by
    rcases Nat.eq_zero_or_pos (i - l.length) with h0 | h0
    ·exact h0
    ·rw [List.getElem?_eq_none (by simp; omega)] at hy; cases hy
   rw [hi'] at hy
   simp at hy
   subst hy
   obtain rfl : i = n := by omega
   exact hx
theorem Ztx {α : Type} {t e : TypeId} {C : Nat} (ht : P.underlying t = some (.slice e)) (hC : P.cellsOf e = C) (hpos : 0 < C) (f : α → List Value) (hf : ∀ x, (f x).length = C) (Q : α → Prop)
  (hel : ∀ n cs y, DataW.trod enc P W 0 (fun _ => true) true n e cs = some y → ∃ x, cs = f x ∧ Q x)
  {A : Option Addr} {len cap : Nat} {d : DataW H} {p : List MemPlace} (h : DataW.Trod enc P W 0 (fun _ => true) true t (.slice A len cap) d p) :
  ∃ l : List α, l.length = len ∧ Reads W W.heap.size C A len (l.flatMap f) ∧ len ≤ cap ∧ cap ≤ maxLen ∧ ∀ x ∈ l, Q x := by
 obtain ⟨fuel, hf'⟩ := h
 rcases open_slice ht hf' with ⟨hcs, _⟩ | ⟨a, l', c', m, n, D, Pl, hcs, _, hl, hm, hmm, _, hi⟩
 ·simp [Value.cells] at hcs
  obtain ⟨rfl, rfl, rfl⟩ := hcs
  exact ⟨[], rfl, Reads.none_, Nat.le_refl _, by simp [maxLen], by simp⟩
 ·simp [Value.cells] at hcs
  obtain ⟨rfl, rfl, rfl⟩ := hcs
  have hmm' : m = cap := by simpa using hmm
  subst hmm'
  obtain ⟨l, hll, hp⟩ := Za3n (α := α) (p := fun i x => Q x ∧ ∀ j, j < C → W.cell? (a.add (i * C + j)) = (f x)[j]?) len (fun i hi0 => by
   obtain ⟨cs', h1, h2⟩ := hi i (by omega)
   obtain ⟨x, rfl, hq⟩ := hel _ _ _ h2
   refine ⟨x, hq, fun j hj => ?_⟩
   rw [hC] at h1
   obtain ⟨_, _, hat⟩ := World.cells?_some h1
   rw [← Zuk, hat j hj])
  have hcell : ∀ j u, (l.flatMap f)[j]? = some u → W.cell? (a.add j) = some u := fun j u hu => by
   rw [Za3v f C hpos hf] at hu
   rcases hx : l[j / C]? with _ | x
   ·rw [hx] at hu; cases hu
   ·rw [hx] at hu
    have h2 := (hp _ _ hx).2 (j % C) (Nat.mod_lt _ hpos)
    rw [Nat.mul_comm, Nat.div_add_mod] at h2
    rw [h2]; exact hu
  refine ⟨l, hll, ⟨by rw [Zst f C hf, hll], fun hn => ⟨a, rfl, ?_, hcell⟩⟩, hl, hm, fun x hx => ?_⟩
  ·have : 0 < (l.flatMap f).length := by rw [Zst f C hf, hll]; exact Nat.mul_pos hn hpos
   have h0 := hcell 0 _ (List.getElem?_eq_getElem this)
   have := World.block_lt_of_cell? W _ h0
   rwa [Zrl] at this
  ·obtain ⟨i, hi', rfl⟩ := List.getElem_of_mem hx
   exact (hp i _ (List.getElem?_eq_getElem hi')).1
theorem Za5b {α : Type} (f : α → Value) (l : List α) : (l.flatMap fun x => [f x]) = l.map f := by
 induction l with
 | nil => rfl
 | cons x l ih => simp [ih]
theorem view_bools {t e : TypeId} (ht : P.underlying t = some (.slice e)) (he : P.underlying e = some .bool) (hC : P.cellsOf e = 1)
  {A : Option Addr} {len cap : Nat} {d : DataW H} {p : List MemPlace} (h : DataW.Trod enc P W 0 (fun _ => true) true t (.slice A len cap) d p) :
  ∃ l : List Bool, Reads W W.heap.size 1 A len (l.map Value.bool) ∧ len ≤ cap ∧ cap ≤ maxLen := by
 obtain ⟨l, _, hR, h1, h2, _⟩ := Ztx ht hC (by omega) (fun b : Bool => [Value.bool b]) (fun _ => rfl) (fun _ => True) (fun n cs y hy => by
  obtain ⟨b, rfl, _⟩ := DataW.trod_bool he hy
  exact ⟨b, rfl, trivial⟩) h
 rw [Za5b] at hR
 exact ⟨l, hR, h1, h2⟩
theorem view_ints {t e : TypeId} {k : IntKind} (ht : P.underlying t = some (.slice e)) (he : P.underlying e = some (.int k)) (hC : P.cellsOf e = 1)
  {A : Option Addr} {len cap : Nat} {d : DataW H} {p : List MemPlace} (h : DataW.Trod enc P W 0 (fun _ => true) true t (.slice A len cap) d p) :
  ∃ l : List Int, Reads W W.heap.size 1 A len (l.map (Value.int k)) ∧ len ≤ cap ∧ cap ≤ maxLen ∧ ∀ x ∈ l, (Lit.int k x).wf = true := by
 obtain ⟨l, _, hR, h1, h2, h3⟩ := Ztx ht hC (by omega) (fun b : Int => [Value.int k b]) (fun _ => rfl) (fun x => (Lit.int k x).wf = true) (fun n cs y hy => by
  obtain ⟨b, rfl, _, hw⟩ := DataW.trod_int he hy
  exact ⟨b, rfl, hw⟩) h
 rw [Za5b] at hR
 exact ⟨l, hR, h1, h2, h3⟩
theorem Za0p {e : TypeId} {fs : Array Field} {n : Nat} {cs : List Value} {y : DataW H × List MemPlace} (he : P.underlying e = some (.struct fs)) (hone : oneCellFields P fs = true) (hC : P.cellsOf e = fs.size)
  (h : DataW.trod enc P W 0 (fun _ => true) true n e cs = some y) :
  cs.length = fs.size ∧ ∀ (j : Nat) (f : Field), fs[j]? = some f → ∃ (v : Value) (y : DataW H × List MemPlace) (m : Nat), cs[j]? = some v ∧ DataW.trod enc P W 0 (fun _ => true) true m f.type [v] = some y := by
 obtain ⟨ys, n', _, _, hlen, hyl, hf⟩ := DataW.trod_struct he h
 rw [hC] at hlen
 refine ⟨hlen, fun j f hj => ?_⟩
 obtain ⟨ho, hk⟩ := hone_of hone j f hj
 have hjl : j < fs.size := (Array.getElem?_eq_some_iff.1 hj).1
 have h1 := hf j f hj
 rw [ho, hk] at h1
 have hone' : (cs.drop j).take 1 = [cs[j]'(by omega)] := by
  rw [List.drop_eq_getElem_cons (by omega)]
  rfl
 rw [hone'] at h1
 have hys : ys[j]? = some (ys[j]'(by omega)) := List.getElem?_eq_getElem (by omega)
 exact ⟨_, _, _, List.getElem?_eq_getElem (by omega), h1.trans hys⟩
end
end Go.Proofs.YtghmfggmimoinaaGreat
