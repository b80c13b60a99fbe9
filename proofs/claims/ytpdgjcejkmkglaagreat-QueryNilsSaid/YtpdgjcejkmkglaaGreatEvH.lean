/- The small machine: its memory, and how it stands to the world's. -/
import Derived.Test.YtpdgjcejkmkglaaGreatEvQ
namespace Go.Proofs.YtpdgjcejkmkglaaGreat.Ev
open Go Go.RowKit
set_option linter.unusedVariables false
set_option linter.unusedSimpArgs false

inductive AObj where
  | cells (l : List AV) (ty : TypeId) (op : Option Nat)
  | map (es : List (AV × AV × Nat)) (clock : Nat)
structure Hp where
  tr : Tr AObj
  next : Nat

def wsE (n : Nat) : List (AV × AV × Nat) → Bool
  | [] => true
  | e :: l => match ws n e.1, ws n e.2.1 with
    | true, true => wsE n l
    | _, _ => false
def wsO (n : Nat) : AObj → Bool
  | .cells l _ _ => wsL n l
  | .map es _ => wsE n es
theorem wsE_iff (n : Nat) (l : List (AV × AV × Nat)) : wsE n l = true ↔ ∀ e ∈ l, ws n e.1 = true ∧ ws n e.2.1 = true := by
  induction l with
  | nil => simp [wsE]
  | cons e l ih =>
    simp only [wsE]
    cases h1 : ws n e.1 <;> cases h2 : ws n e.2.1 <;> simp [h1, h2, ih]
theorem wsO_mono {n m : Nat} (h : n ≤ m) {o : AObj} (ho : wsO n o = true) : wsO m o = true := by
  cases o with
  | cells l ty op => exact wsL_mono h l ho
  | map es c =>
    simp only [wsO, wsE_iff] at ho ⊢
    exact fun e he => ⟨ws_mono h _ (ho e he).1, ws_mono h _ (ho e he).2⟩

def concE (s : Sg) (es : List (AV × AV × Nat)) : List MapEntry := es.map fun e => ⟨conc s e.1, conc s e.2.1, e.2.2⟩

def ORel (s : Sg) (i : Nat) : AObj → Option Obj → Prop
  | .cells l ty none, ob => ob = some (.cells (concL s l).toArray ty (0, 0))
  | .cells l ty (some sz), ob => ∃ tail : List Value, ob = some (.cells (concL s l ++ tail).toArray ty (0, 0)) ∧ l.length + tail.length = (s i).2 * sz
  | .map es clock, ob => ob = some (.map (concE s es).toArray clock)
theorem ORel.there {s : Sg} {i : Nat} {o : AObj} {ob : Option Obj} (h : ORel s i o ob) : ∃ x, ob = some x := by
  cases o with
  | cells l ty op => cases op with
    | none => exact ⟨_, h⟩
    | some sz => obtain ⟨t, h, _⟩ := h; exact ⟨_, h⟩
  | map es c => exact ⟨_, h⟩
theorem ORel.congr {s s' : Sg} {n i : Nat} {o : AObj} {ob : Option Obj} (h : ORel s i o ob) (hs : ∀ j, j < n → s' j = s j) (hi : i < n) (hw : wsO n o = true) : ORel s' i o ob := by
  cases o with
  | cells l ty op =>
    have e : concL s' l = concL s l := concL_congr hs l hw
    cases op with
    | none => simp only [ORel] at h ⊢; rw [e]; exact h
    | some sz => simp only [ORel] at h ⊢; rw [e, hs i hi]; exact h
  | map es c =>
    have e : concE s' es = concE s es := by
      simp only [wsO, wsE_iff] at hw
      apply List.map_congr_left
      intro x hx
      rw [conc_congr hs _ (hw x hx).1, conc_congr hs _ (hw x hx).2]
    simp only [ORel] at h ⊢; rw [e]; exact h

structure HRel (s : Sg) (h : Hp) (w : World) : Prop where
  obj : ∀ i o, h.tr.get i = some o → ORel s i o w.heap[(s i).1]?
  inj : ∀ i j o o', h.tr.get i = some o → h.tr.get j = some o' → (s i).1 = (s j).1 → i = j
  lt : ∀ i o, h.tr.get i = some o → i < h.next
  wso : ∀ i o, h.tr.get i = some o → wsO h.next o = true

theorem HRel.bound {s : Sg} {h : Hp} {w : World} (H : HRel s h w) {i : Nat} {o : AObj} (hi : h.tr.get i = some o) : (s i).1 < w.heap.size := by
  obtain ⟨x, hx⟩ := (H.obj i o hi).there
  rcases Nat.lt_or_ge (s i).1 w.heap.size with q | q
  · exact q
  · rw [Array.getElem?_eq_none q] at hx; cases hx

structure Ext (s : Sg) (h : Hp) (w : World) (s' : Sg) (h' : Hp) (w' : World) : Prop where
  os : w'.os = w.os
  tape : w'.tape = w.tape
  output : w'.output = w.output
  size : w.heap.size ≤ w'.heap.size
  sg : ∀ i, i < h.next → s' i = s i
  next : h.next ≤ h'.next
  frame : ∀ b, b < w.heap.size → (∀ i o, h.tr.get i = some o → (s i).1 ≠ b) → w'.heap[b]? = w.heap[b]?
  img : ∀ j o, h'.tr.get j = some o → (∃ i o', h.tr.get i = some o' ∧ (s i).1 = (s' j).1) ∨ w.heap.size ≤ (s' j).1
  keep : ∀ j o, h'.tr.get j = some o → j < h.next → ∃ o', h.tr.get j = some o'

theorem Ext.refl (s : Sg) (h : Hp) (w : World) : Ext s h w s h w :=
  ⟨rfl, rfl, rfl, Nat.le_refl _, fun _ _ => rfl, Nat.le_refl _, fun _ _ _ => rfl, fun j o hj => .inl ⟨j, o, hj, rfl⟩, fun j o hj _ => ⟨o, hj⟩⟩
theorem Ext.drew (s : Sg) (h : Hp) (w : World) (d : Nat) : Ext s h w s h { w with drawn := d } :=
  ⟨rfl, rfl, rfl, Nat.le_refl _, fun _ _ => rfl, Nat.le_refl _, fun _ _ _ => rfl, fun j o hj => .inl ⟨j, o, hj, rfl⟩, fun j o hj _ => ⟨o, hj⟩⟩
theorem Ext.trans {s s' s'' : Sg} {h h' h'' : Hp} {w w' w'' : World} (a : Ext s h w s' h' w') (b : Ext s' h' w' s'' h'' w'') : Ext s h w s'' h'' w'' where
  os := b.os.trans a.os
  tape := b.tape.trans a.tape
  output := b.output.trans a.output
  size := Nat.le_trans a.size b.size
  sg i hi := (b.sg i (Nat.lt_of_lt_of_le hi a.next)).trans (a.sg i hi)
  next := Nat.le_trans a.next b.next
  frame k hk hn := by
    refine (b.frame k (Nat.lt_of_lt_of_le hk a.size) ?_).trans (a.frame k hk hn)
    intro j o hj e
    rcases a.img j o hj with ⟨i, o', hi, q⟩ | q
    · exact hn i o' hi (q.trans e)
    · omega
  img j o hj := by
    rcases b.img j o hj with ⟨i, o', hi, q⟩ | q
    · rcases a.img i o' hi with ⟨k, o'', hk, r⟩ | r
      · exact .inl ⟨k, o'', hk, r.trans q⟩
      · exact .inr (by omega)
    · exact .inr (Nat.le_trans a.size q)
  keep j o hj hlt := by
    obtain ⟨o', ho'⟩ := b.keep j o hj (Nat.lt_of_lt_of_le hlt a.next)
    exact a.keep j o' ho' hlt

def setB (w : World) (b : Nat) (o : Obj) : World := { w with heap := w.heap.setIfInBounds b o }
theorem setB_get (w : World) (b : Nat) (o : Obj) (k : Nat) : (setB w b o).heap[k]? = if k = b ∧ b < w.heap.size then some o else w.heap[k]? := by
  simp only [setB, Array.getElem?_setIfInBounds]
  by_cases h : b = k
  · subst h
    by_cases hb : b < w.heap.size
    · simp [hb]
    · simp [hb]
  · rw [if_neg h, if_neg (fun q => h q.1.symm)]
theorem setB_size (w : World) (b : Nat) (o : Obj) : (setB w b o).heap.size = w.heap.size := by simp [setB]
theorem setB_setB (w : World) (b : Nat) (o o' : Obj) : setB (setB w b o) b o' = setB w b o' := by
  simp only [setB]
  congr 1
  apply Array.ext_getElem?
  intro i
  simp only [Array.getElem?_setIfInBounds, Array.size_setIfInBounds]
  by_cases h : b = i
  · simp [h]
  · simp [h]
theorem setCell_eq {w : World} {b off : Nat} {c : Array Value} {ty : TypeId} {fr : Nat × Nat} (h : w.heap[b]? = some (.cells c ty fr)) (v : Value) :
    w.setCell ⟨b, off, none⟩ v = setB w b (.cells (c.setIfInBounds off v) ty fr) := by
  unfold World.setCell setB
  congr 1
  apply Array.ext_getElem?
  intro i
  rw [Array.getElem?_modify, Array.getElem?_setIfInBounds]
  by_cases q : b = i
  · subst q
    have hb : b < w.heap.size := by
      rcases Nat.lt_or_ge b w.heap.size with q | q
      · exact q
      · rw [Array.getElem?_eq_none q] at h; cases h
    have hx : w.heap[b] = .cells c ty fr := by simpa [Array.getElem?_eq_getElem hb] using h
    simp [h, hb, hx]
  · simp [q]

/-- A cell of one value. -/
def oneCell : Value → Bool
  | .agg _ | .tuple _ => false
  | _ => true
def one : AV → Bool
  | .agg _ | .tup _ => false
  | _ => true
def oneL : List AV → Bool
  | [] => true
  | x :: l => match one x with
    | true => oneL l
    | false => false
theorem one_conc {s : Sg} {v : AV} (h : one v = true) : oneCell (conc s v) = true := by cases v <;> simp [one] at h <;> rfl
theorem oneL_iff (l : List AV) : oneL l = true ↔ ∀ x ∈ l, one x = true := by
  induction l with
  | nil => simp [oneL]
  | cons x l ih => simp only [oneL]; cases h : one x <;> simp [h, ih]

theorem run_store_one {P : Program} {w : World} {b off : Nat} {c : Array Value} {ty : TypeId} {v : Value} (h : w.heap[b]? = some (.cells c ty (0, 0))) (ho : off < c.size)
    (hv : oneCell v = true) : (store ⟨b, off, none⟩ v).run P w = .ok () (setB w b (.cells (c.setIfInBounds off v) ty (0, 0))) := by
  have hc : w.cell? ⟨b, off, none⟩ = some c[off] := by simp [World.cell?, h, ho]
  have hf : w.frozen? ⟨b, off, none⟩ = false := by simp [World.frozen?, h]
  rw [← setCell_eq h v]
  cases v <;> simp [oneCell] at hv <;> simp [store, Sem.run, hc, hf]

theorem run_storeCells {P : Program} {b off : Nat} {ty : TypeId} : ∀ (vs : List Value) (k : Nat) (w : World) (c : Array Value), w.heap[b]? = some (.cells c ty (0, 0)) →
    off + k + vs.length ≤ c.size → (∀ v ∈ vs, oneCell v = true) →
    ∃ c', c'.toList = c.toList.take (off + k) ++ vs ++ c.toList.drop (off + k + vs.length) ∧
      (storeCells ⟨b, off, none⟩ vs k).run P w = .ok () (setB w b (.cells c' ty (0, 0)))
  | [], k, w, c, h, hl, _ => by
    refine ⟨c, by simp, ?_⟩
    simp only [storeCells, Sem.run_pure]
    congr 1
    unfold setB
    have : w.heap.setIfInBounds b (.cells c ty (0, 0)) = w.heap := by
      apply Array.ext_getElem?
      intro i
      rw [Array.getElem?_setIfInBounds]
      by_cases q : b = i
      · subst q
        have hb : b < w.heap.size := by
          rcases Nat.lt_or_ge b w.heap.size with q | q
          · exact q
          · rw [Array.getElem?_eq_none q] at h; cases h
        simp only [if_true, hb]; exact h.symm
      · simp [q]
    rw [this]
  | v :: vs, k, w, c, h, hl, ho => by
    simp only [List.length_cons] at hl
    have hb : b < w.heap.size := by
      rcases Nat.lt_or_ge b w.heap.size with q | q
      · exact q
      · rw [Array.getElem?_eq_none q] at h; cases h
    have h1 := run_store_one (P := P) h (off := off + k) (by omega) (ho v (by simp))
    obtain ⟨c', hc', hr⟩ := run_storeCells (P := P) (off := off) vs (k + 1) (setB w b (.cells (c.setIfInBounds (off + k) v) ty (0, 0))) (c.setIfInBounds (off + k) v)
      (by rw [setB_get, if_pos ⟨rfl, hb⟩]) (by simp; omega) (fun x hx => ho x (by simp [hx]))
    rw [setB_setB] at hr
    refine ⟨c', ?_, ?_⟩
    · rw [hc']
      simp only [List.length_cons]
      have hs : c.toList.length = c.size := Array.length_toList
      have e : c.toList.set (off + k) v = (c.toList.take (off + k) ++ [v]) ++ c.toList.drop (off + k + 1) := by
        rw [List.set_eq_take_append_cons_drop, if_pos (by omega)]; simp
      have hA : (c.toList.take (off + k) ++ [v]).length = off + (k + 1) := by simp [hs]; omega
      rw [Array.toList_setIfInBounds, e, List.take_left' hA]
      rw [show off + (k + 1) + vs.length = (c.toList.take (off + k) ++ [v]).length + vs.length by omega, List.drop_length_add_append, List.drop_drop]
      simp [Nat.add_assoc, Nat.add_comm, Nat.add_left_comm]
    · simp only [storeCells, Sem.run_bind, addr_add, h1, Result.andThen_ok, hr]

theorem run_loadCells {P : Program} {b off : Nat} {ty : TypeId} {w : World} {c : Array Value} {fr : Nat × Nat} (h : w.heap[b]? = some (.cells c ty fr)) :
    ∀ (n i : Nat) (acc : Array Value), off + i + n ≤ c.size →
    (loadCellsFrom ⟨b, off, none⟩ i n acc).run P w = .ok (acc.toList ++ (c.toList.drop (off + i)).take n).toArray w
  | 0, i, acc, _ => by simp [loadCellsFrom]
  | n + 1, i, acc, hl => by
    have hc : w.cell? ⟨b, off + i, none⟩ = some c[off + i] := by simp [World.cell?, h, show off + i < c.size by omega]
    simp only [loadCellsFrom, Sem.run_bind, addr_add, run_load, hc, Result.andThen_ok]
    rw [run_loadCells h n (i + 1) _ (by omega)]
    congr 2
    have hd : c.toList.drop (off + i) = c[off + i] :: c.toList.drop (off + (i + 1)) := by
      rw [List.drop_eq_getElem_cons (by simp; omega)]; simp [Nat.add_assoc]
    rw [hd]; simp

/-- A block turned. -/
theorem HRel.put {s : Sg} {h : Hp} {w : World} (H : HRel s h w) {i f : Nat} {o o' : AObj} {ob : Obj} {tr' : Tr AObj} (hi : h.tr.get i = some o) (hb : w.heap.size = w.heap.size)
    (ho : ORel s i o' (some ob)) (hw : wsO h.next o' = true) (ht : Tr.set f h.tr i (some o') = some tr') :
    HRel s ⟨tr', h.next⟩ (setB w (s i).1 ob) ∧ Ext s h w s ⟨tr', h.next⟩ (setB w (s i).1 ob) := by
  have hg := Tr.get_set f h.tr i (some o') tr' ht
  have hin := H.bound hi
  have alt : ∀ j o₁, tr'.get j = some o₁ → ∃ o₂, h.tr.get j = some o₂ := by
    intro j o₁ hj
    rw [hg j] at hj
    by_cases q : j = i
    · subst q; exact ⟨o, hi⟩
    · rw [if_neg q] at hj; exact ⟨_, hj⟩
  refine ⟨⟨?_, ?_, ?_, ?_⟩, ⟨rfl, rfl, rfl, by rw [setB_size]; exact Nat.le_refl _, fun _ _ => rfl, Nat.le_refl _, ?_, ?_, fun j o₁ hj _ => alt j o₁ hj⟩⟩
  · intro j o₁ hj
    simp only [hg j] at hj
    by_cases q : j = i
    · subst q
      simp only [if_true, Option.some.injEq] at hj; subst hj
      rw [setB_get, if_pos ⟨rfl, hin⟩]; exact ho
    · rw [if_neg q] at hj
      rw [setB_get, if_neg (fun r => q (H.inj j i o₁ o hj hi r.1))]
      exact H.obj j o₁ hj
  · intro j k o₁ o₂ hj hk e
    obtain ⟨p, hp⟩ := alt j o₁ hj
    obtain ⟨q, hq⟩ := alt k o₂ hk
    exact H.inj j k p q hp hq e
  · intro j o₁ hj
    obtain ⟨p, hp⟩ := alt j o₁ hj
    exact H.lt j p hp
  · intro j o₁ hj
    simp only [hg j] at hj
    by_cases q : j = i
    · subst q
      simp only [if_true, Option.some.injEq] at hj; subst hj; exact hw
    · rw [if_neg q] at hj; exact H.wso j o₁ hj
  · intro k hk hn
    rw [setB_get, if_neg (fun r => hn i o hi r.1.symm)]
  · intro j o₁ hj
    obtain ⟨p, hp⟩ := alt j o₁ hj
    exact .inl ⟨j, p, hp, rfl⟩

def upd (s : Sg) (i : Nat) (x : Nat × Nat) : Sg := fun j => if j = i then x else s j
theorem upd_same (s : Sg) (i : Nat) (x : Nat × Nat) : upd s i x i = x := by simp [upd]
theorem upd_lt (s : Sg) (i : Nat) (x : Nat × Nat) {j : Nat} (h : j < i) : upd s i x j = s j := by simp [upd]; omega

/-- A block more. -/
theorem HRel.new {s : Sg} {h : Hp} {w : World} (H : HRel s h w) {f c : Nat} {o' : AObj} {ob : Obj} {tr' : Tr AObj}
    (ho : ORel (upd s h.next (w.heap.size, c)) h.next o' (some ob)) (hw : wsO (h.next + 1) o' = true) (ht : Tr.set f h.tr h.next (some o') = some tr') :
    HRel (upd s h.next (w.heap.size, c)) ⟨tr', h.next + 1⟩ { w with heap := w.heap.push ob } ∧
    Ext s h w (upd s h.next (w.heap.size, c)) ⟨tr', h.next + 1⟩ { w with heap := w.heap.push ob } := by
  have hg := Tr.get_set f h.tr h.next (some o') tr' ht
  have old : ∀ j o₁, h.tr.get j = some o₁ → upd s h.next (w.heap.size, c) j = s j := fun j o₁ hj => upd_lt s _ _ (H.lt j o₁ hj)
  refine ⟨⟨?_, ?_, ?_, ?_⟩, ⟨rfl, rfl, rfl, by simp, fun i hi => upd_lt s _ _ hi, by simp, ?_, ?_, fun j o₁ hj hlt => by
    simp only [hg j] at hj
    rw [if_neg (by omega)] at hj
    exact ⟨o₁, hj⟩⟩⟩
  · intro j o₁ hj
    simp only [hg j] at hj
    by_cases q : j = h.next
    · subst q
      simp only [if_true, Option.some.injEq] at hj; subst hj
      rw [upd_same]; simpa using ho
    · rw [if_neg q] at hj
      have hb := H.bound hj
      rw [old j o₁ hj]
      show ORel _ _ _ ((w.heap.push ob)[(s j).1]?)
      rw [Array.getElem?_push, if_neg (by omega)]
      exact (H.obj j o₁ hj).congr (fun k hk => upd_lt s _ _ hk) (H.lt j o₁ hj) (H.wso j o₁ hj)
  · intro j k o₁ o₂ hj hk e
    simp only [hg j] at hj
    simp only [hg k] at hk
    by_cases q : j = h.next
    · by_cases r : k = h.next
      · rw [q, r]
      · rw [if_neg r] at hk
        rw [q, upd_same, old k o₂ hk] at e
        have := H.bound hk
        simp only [] at e; omega
    · rw [if_neg q] at hj
      by_cases r : k = h.next
      · rw [r, upd_same, old j o₁ hj] at e
        have := H.bound hj
        simp only [] at e; omega
      · rw [if_neg r] at hk
        rw [old j o₁ hj, old k o₂ hk] at e
        exact H.inj j k o₁ o₂ hj hk e
  · intro j o₁ hj
    simp only [hg j] at hj
    by_cases q : j = h.next
    · simp [q]
    · rw [if_neg q] at hj; have := H.lt j o₁ hj; simp only; omega
  · intro j o₁ hj
    simp only [hg j] at hj
    by_cases q : j = h.next
    · subst q
      simp only [if_true, Option.some.injEq] at hj; subst hj; exact hw
    · rw [if_neg q] at hj; exact wsO_mono (by simp) (H.wso j o₁ hj)
  · intro k hk hn
    show (w.heap.push ob)[k]? = _
    rw [Array.getElem?_push, if_neg (by omega)]
  · intro j o₁ hj
    simp only [hg j] at hj
    by_cases q : j = h.next
    · subst q; right; rw [upd_same]; exact Nat.le_refl _
    · rw [if_neg q] at hj; exact .inl ⟨j, o₁, hj, by rw [old j o₁ hj]⟩

/-- A block forgotten. -/
theorem HRel.kill {s : Sg} {h : Hp} {w : World} (H : HRel s h w) {i f : Nat} {tr' : Tr AObj} (ht : Tr.set f h.tr i none = some tr') : HRel s ⟨tr', h.next⟩ w ∧ Ext s h w s ⟨tr', h.next⟩ w := by
  have hg := Tr.get_set f h.tr i none tr' ht
  have sub : ∀ j o, tr'.get j = some o → h.tr.get j = some o := by
    intro j o hj
    rw [hg j] at hj
    by_cases q : j = i
    · rw [if_pos q] at hj; cases hj
    · rw [if_neg q] at hj; exact hj
  refine ⟨⟨fun j o hj => H.obj j o (sub j o hj), fun j k o o' hj hk => H.inj j k o o' (sub j o hj) (sub k o' hk), fun j o hj => H.lt j o (sub j o hj), fun j o hj => H.wso j o (sub j o hj)⟩,
    ⟨rfl, rfl, rfl, Nat.le_refl _, fun _ _ => rfl, Nat.le_refl _, fun _ _ _ => rfl, fun j o hj => .inl ⟨j, o, sub j o hj, rfl⟩, fun j o hj _ => ⟨o, sub j o hj⟩⟩⟩
end Go.Proofs.YtpdgjcejkmkglaaGreat.Ev
