/- The small machine: its memory, and how it stands to the world's. -/
import Derived.Test.YtghmfggmimoinaaGreatEvQ
namespace Go.Proofs.YtghmfggmimoinaaGreat.Ev
open Go Go.RowKit
inductive AObj where
 | cells (l : List AV) (ty : TypeId) (op : Option Nat)
 | map (es : List (AV × AV × Nat)) (clock : Nat)
structure Hp where
 tr : Tr AObj
 next : Nat
def wsE (n : Nat) : List (AV × AV × Nat) → Bool
 | [] => true
 | e :: l => match ws n e.1, ws n e.2.1 with
  | true, true => wsE n l
  | _, _ => false
def wsO (n : Nat) : AObj → Bool
 | .cells l _ _ => wsL n l
 | .map es _ => wsE n es
theorem Zr5 (n : Nat) (l : List (AV × AV × Nat)) : wsE n l = true ↔ ∀ e ∈ l, ws n e.1 = true ∧ ws n e.2.1 = true := by
 induction l with
 | nil => simp [wsE]
 | cons e l ih =>
  simp only [wsE]
  grind
theorem Zm7 {n m : Nat} (h : n ≤ m) {o : AObj} (ho : wsO n o = true) : wsO m o = true := by
 cases o with
 | cells l ty op => exact Zro h l ho
 | map es c =>
  simp only [wsO, Zr5] at ho ⊢
  exact fun e he => ⟨Zq3 h _ (ho e he).1, Zq3 h _ (ho e he).2⟩
def concE (s : Sg) (es : List (AV × AV × Nat)) : List MapEntry := es.map fun e => ⟨conc s e.1, conc s e.2.1, e.2.2⟩
def ORel (s : Sg) (i : Nat) : AObj → Option Obj → Prop
 | .cells l ty none, ob => ob = some (.cells (concL s l).toArray ty (0, 0))
 | .cells l ty (some sz), ob => ∃ tail : List Value, ob = some (.cells (concL s l ++ tail).toArray ty (0, 0)) ∧ l.length + tail.length = (s i).2 * sz ∧ (s i).2 ≤ 9223372036854775807
 | .map es clock, ob => ob = some (.map (concE s es).toArray clock)
theorem ORel.there {s : Sg} {i : Nat} {o : AObj} {ob : Option Obj} (h : ORel s i o ob) : ∃ x, ob = some x := by
 cases o with
 | cells l ty op => cases op with
  | none => exact ⟨_, h⟩
  | some sz => obtain ⟨t, h, _⟩ := h; exact ⟨_, h⟩
 | map es c => exact ⟨_, h⟩
theorem ORel.congr {s s' : Sg} {n i : Nat} {o : AObj} {ob : Option Obj} (h : ORel s i o ob) (hs : ∀ j, j < n → s' j = s j) (hi : i < n) (hw : wsO n o = true) : ORel s' i o ob := by
 cases o with
 | cells l ty op =>
  have e : concL s' l = concL s l := Zkd hs l hw
  cases op with
  | none => simp only [ORel] at h ⊢; rw [e]; exact h
  | some sz => simp only [ORel] at h ⊢; rw [e, hs i hi]; exact h
 | map es c =>
  have e : concE s' es = concE s es := by
   simp only [wsO, Zr5] at hw
   apply List.map_congr_left
   intro x hx
   rw [Zlm hs _ (hw x hx).1, Zlm hs _ (hw x hx).2]
  simp only [ORel] at h ⊢; rw [e]; exact h
structure HRel (s : Sg) (h : Hp) (w : World) : Prop where
 obj : ∀ i o, h.tr.get i = some o → ORel s i o w.heap[(s i).1]?
 inj : ∀ i j o o', h.tr.get i = some o → h.tr.get j = some o' → (s i).1 = (s j).1 → i = j
 lt : ∀ i o, h.tr.get i = some o → i < h.next
 wso : ∀ i o, h.tr.get i = some o → wsO h.next o = true
theorem HRel.bound {s : Sg} {h : Hp} {w : World} (H : HRel s h w) {i : Nat} {o : AObj} (hi : h.tr.get i = some o) : (s i).1 < w.heap.size := by
 obtain ⟨x, hx⟩ := (H.obj i o hi).there
 grind
structure Ext (s : Sg) (h : Hp) (w : World) (s' : Sg) (h' : Hp) (w' : World) : Prop where
 os : w'.os = w.os
 tape : w'.tape = w.tape
 output : w'.output = w.output
 size : w.heap.size ≤ w'.heap.size
 sg : ∀ i, i < h.next → s' i = s i
 next : h.next ≤ h'.next
 frame : ∀ b, b < w.heap.size → (∀ i o, h.tr.get i = some o → (s i).1 ≠ b) → w'.heap[b]? = w.heap[b]?
 img : ∀ j o, h'.tr.get j = some o → (∃ i o', h.tr.get i = some o' ∧ (s i).1 = (s' j).1) ∨ w.heap.size ≤ (s' j).1
 keep : ∀ j o, h'.tr.get j = some o → j < h.next → ∃ o', h.tr.get j = some o'
theorem Ext.refl (s : Sg) (h : Hp) (w : World) : Ext s h w s h w :=
 ⟨rfl, rfl, rfl, Nat.le_refl _, fun _ _ => rfl, Nat.le_refl _, fun _ _ _ => rfl, fun j o hj => .inl ⟨j, o, hj, rfl⟩, fun j o hj _ => ⟨o, hj⟩⟩
theorem Ext.drew (s : Sg) (h : Hp) (w : World) (d : Nat) : Ext s h w s h { w with drawn := d } :=
 ⟨rfl, rfl, rfl, Nat.le_refl _, fun _ _ => rfl, Nat.le_refl _, fun _ _ _ => rfl, fun j o hj => .inl ⟨j, o, hj, rfl⟩, fun j o hj _ => ⟨o, hj⟩⟩
theorem Ext.trans {s s' s'' : Sg} {h h' h'' : Hp} {w w' w'' : World} (a : Ext s h w s' h' w') (b : Ext s' h' w' s'' h'' w'') : Ext s h w s'' h'' w'' where
 os := b.os.trans a.os
 tape := b.tape.trans a.tape
 output := b.output.trans a.output
 size := Nat.le_trans a.size b.size
 sg i hi := (b.sg i (Nat.lt_of_lt_of_le hi a.next)).trans (a.sg i hi)
 next := Nat.le_trans a.next b.next
 frame k hk hn := by
  refine (b.frame k (Nat.lt_of_lt_of_le hk a.size) ?_).trans (a.frame k hk hn)
  intro j o hj e
  rcases a.img j o hj with ⟨i, o', hi, q⟩ | q
  ·exact hn i o' hi (q.trans e)
  ·omega
 img j o hj := by
  rcases b.img j o hj with ⟨i, o', hi, q⟩ | q
  ·rcases a.img i o' hi with ⟨k, o'', hk, r⟩ | r
   ·exact .inl ⟨k, o'', hk, r.trans q⟩
   ·exact .inr (by omega)
  ·exact .inr (Nat.le_trans a.size q)
 keep j o hj hlt := by
  obtain ⟨o', ho'⟩ := b.keep j o hj (Nat.lt_of_lt_of_le hlt a.next)
  exact a.keep j o' ho' hlt
def setB (w : World) (b : Nat) (o : Obj) : World := { w with heap := w.heap.setIfInBounds b o }
theorem Zdk (w : World) (b : Nat) (o : Obj) (k : Nat) : (setB w b o).heap[k]? = if k = b ∧ b < w.heap.size then some o else w.heap[k]? := by
 simp only [setB, Array.getElem?_setIfInBounds]
 grind
theorem Zfb (w : World) (b : Nat) (o : Obj) : (setB w b o).heap.size = w.heap.size := by simp [setB]
theorem Za79 (w : World) (b : Nat) (o o' : Obj) : setB (setB w b o) b o' = setB w b o' := by
 simp only [setB]
 simp_all
theorem setCell_eq {w : World} {b off : Nat} {c : Array Value} {ty : TypeId} {fr : Nat × Nat} (h : w.heap[b]? = some (.cells c ty fr)) (v : Value) :
  w.setCell ⟨b, off, none⟩ v = setB w b (.cells (c.setIfInBounds off v) ty fr) := by
 unfold World.setCell setB
 congr 1
 grind
def Zlh : Value → Bool
 | .agg _ | .tuple _ => false
 | _ => true
def one : AV → Bool
 | .agg _ | .tup _ => false
 | _ => true
def oneL : List AV → Bool
 | [] => true
 | x :: l => match one x with
  | true => oneL l
  | false => false
theorem Za4r {s : Sg} {v : AV} (h : one v = true) : Zlh (conc s v) = true := by cases v <;> simp [one] at h <;> rfl
theorem Za4s (l : List AV) : oneL l = true ↔ ∀ x ∈ l, one x = true := by
 induction l with
 | nil => simp [oneL]
 | cons x l ih => simp only [oneL]; grind
theorem Zzc {P : Program} {w : World} {b off : Nat} {c : Array Value} {ty : TypeId} {v : Value} (h : w.heap[b]? = some (.cells c ty (0, 0))) (ho : off < c.size)
  (hv : Zlh v = true) : (store ⟨b, off, none⟩ v).run P w = .ok () (setB w b (.cells (c.setIfInBounds off v) ty (0, 0))) := by
 have hc : w.cell? ⟨b, off, none⟩ = some c[off] := by simp [World.cell?, h, ho]
 have hf : w.frozen? ⟨b, off, none⟩ = false := by simp [World.frozen?, h]
 rw [← setCell_eq h v]
 cases v <;> simp [Zlh] at hv <;> simp [store, Sem.run, hc, hf]
theorem Zdn {P : Program} {b off : Nat} {ty : TypeId} : ∀ (vs : List Value) (k : Nat) (w : World) (c : Array Value), w.heap[b]? = some (.cells c ty (0, 0)) →
  off + k + vs.length ≤ c.size → (∀ v ∈ vs, Zlh v = true) →
  ∃ c', c'.toList = c.toList.take (off + k) ++ vs ++ c.toList.drop (off + k + vs.length) ∧
   (storeCells ⟨b, off, none⟩ vs k).run P w = .ok () (setB w b (.cells c' ty (0, 0)))
 | [], k, w, c, h, hl, _ => by
  refine ⟨c, by simp, ?_⟩
  simp only [storeCells, Sem.run_pure]
  congr 1
  unfold setB
  have : w.heap.setIfInBounds b (.cells c ty (0, 0)) = w.heap := by grind
  rw [this]
 | v :: vs, k, w, c, h, hl, ho => by
  simp only [List.length_cons] at hl
  have hb : b < w.heap.size := by
   rcases Nat.lt_or_ge b w.heap.size with q | q
   ·exact q
   ·rw [Array.getElem?_eq_none q] at h; cases h
  have h1 := Zzc (P := P) h (off := off + k) (by omega) (ho v (by simp))
  obtain ⟨c', hc', hr⟩ := Zdn (P := P) (off := off) vs (k + 1) (setB w b (.cells (c.setIfInBounds (off + k) v) ty (0, 0))) (c.setIfInBounds (off + k) v)
   (by rw [Zdk, if_pos ⟨rfl, hb⟩]) (by simp; omega) (fun x hx => ho x (by simp [hx]))
  rw [Za79] at hr
  refine ⟨c', ?_, ?_⟩
  ·rw [hc']
   simp only [List.length_cons]
   have hs : c.toList.length = c.size := Array.length_toList
   have e : c.toList.set (off + k) v = (c.toList.take (off + k) ++ [v]) ++ c.toList.drop (off + k + 1) := by
    rw [List.set_eq_take_append_cons_drop, if_pos (by omega)]; simp
   have hA : (c.toList.take (off + k) ++ [v]).length = off + (k + 1) := by simp [hs]; omega
   rw [Array.toList_setIfInBounds, e, List.take_left' hA]
   rw [show off + (k + 1) + vs.length = (c.toList.take (off + k) ++ [v]).length + vs.length by omega, List.drop_length_add_append, List.drop_drop]
   simp [Nat.add_assoc, Nat.add_comm, Nat.add_left_comm]
  ·simp only [storeCells, Sem.run_bind, Zd7, h1, Result.andThen_ok, hr]
theorem run_loadCells {P : Program} {b off : Nat} {ty : TypeId} {w : World} {c : Array Value} {fr : Nat × Nat} (h : w.heap[b]? = some (.cells c ty fr)) :
  ∀ (n i : Nat) (acc : Array Value), off + i + n ≤ c.size →
  (loadCellsFrom ⟨b, off, none⟩ i n acc).run P w = .ok (acc.toList ++ (c.toList.drop (off + i)).take n).toArray w
 | 0, i, acc, _ => by simp [loadCellsFrom]
 | n + 1, i, acc, hl => by
  have hc : w.cell? ⟨b, off + i, none⟩ = some c[off + i] := by simp [World.cell?, h, show off + i < c.size by omega]
  simp only [loadCellsFrom, Sem.run_bind, Zd7, run_load, hc, Result.andThen_ok]
  rw [run_loadCells h n (i + 1) _ (by omega)]
  congr 2
  have hd : c.toList.drop (off + i) = c[off + i] :: c.toList.drop (off + (i + 1)) := by
   rw [List.drop_eq_getElem_cons (by simp; omega)]; simp [Nat.add_assoc]
  rw [hd]; simp
theorem HRel.put {s : Sg} {h : Hp} {w : World} (H : HRel s h w) {i f : Nat} {o o' : AObj} {ob : Obj} {tr' : Tr AObj} (hi : h.tr.get i = some o) (hb : w.heap.size = w.heap.size)
  (ho : ORel s i o' (some ob)) (hw : wsO h.next o' = true) (ht : Tr.set f h.tr i (some o') = some tr') :
  HRel s ⟨tr', h.next⟩ (setB w (s i).1 ob) ∧ Ext s h w s ⟨tr', h.next⟩ (setB w (s i).1 ob) := by
 have hg := Tr.Zao f h.tr i (some o') tr' ht
 have hin := H.bound hi
 have alt : ∀ j o₁, tr'.get j = some o₁ → ∃ o₂, h.tr.get j = some o₂ := by grind
 refine ⟨⟨?_, ?_, ?_, ?_⟩, ⟨rfl, rfl, rfl, by rw [Zfb]; exact Nat.le_refl _, fun _ _ => rfl, Nat.le_refl _, ?_, ?_, fun j o₁ hj _ => alt j o₁ hj⟩⟩
 ·intro j o₁ hj
  simp only [hg j] at hj
  by_cases q : j = i
  ·subst q
   simp only [if_true, Option.some.injEq] at hj; subst hj
   rw [Zdk, if_pos ⟨rfl, hin⟩]; exact ho
  ·rw [if_neg q] at hj
   rw [Zdk, if_neg (fun r => q (H.inj j i o₁ o hj hi r.1))]
   exact H.obj j o₁ hj
 ·intro j k o₁ o₂ hj hk e
  obtain ⟨p, hp⟩ := alt j o₁ hj
  obtain ⟨q, hq⟩ := alt k o₂ hk
  exact H.inj j k p q hp hq e
 ·intro j o₁ hj
  obtain ⟨p, hp⟩ := alt j o₁ hj
  exact H.lt j p hp
 ·intro j o₁ hj
  simp only [hg j] at hj
  by_cases q : j = i
  ·subst q
   grind
  ·rw [if_neg q] at hj; exact H.wso j o₁ hj
 ·intro k hk hn
  rw [Zdk, if_neg (fun r => hn i o hi r.1.symm)]
 grind
def upd (s : Sg) (i : Nat) (x : Nat × Nat) : Sg := fun j => if j = i then x else s j
theorem Zbb (s : Sg) (i : Nat) (x : Nat × Nat) : upd s i x i = x := by simp [upd]
theorem Zy3 (s : Sg) (i : Nat) (x : Nat × Nat) {j : Nat} (h : j < i) : upd s i x j = s j := by simp [upd]; omega
theorem HRel.new {s : Sg} {h : Hp} {w : World} (H : HRel s h w) {f c : Nat} {o' : AObj} {ob : Obj} {tr' : Tr AObj}
  (ho : ORel (upd s h.next (w.heap.size, c)) h.next o' (some ob)) (hw : wsO (h.next + 1) o' = true) (ht : Tr.set f h.tr h.next (some o') = some tr') :
  HRel (upd s h.next (w.heap.size, c)) ⟨tr', h.next + 1⟩ { w with heap := w.heap.push ob } ∧
  Ext s h w (upd s h.next (w.heap.size, c)) ⟨tr', h.next + 1⟩ { w with heap := w.heap.push ob } := by
 have hg := Tr.Zao f h.tr h.next (some o') tr' ht
 have old : ∀ j o₁, h.tr.get j = some o₁ → upd s h.next (w.heap.size, c) j = s j := fun j o₁ hj => Zy3 s _ _ (H.lt j o₁ hj)
 refine ⟨⟨?_, ?_, ?_, ?_⟩, ⟨rfl, rfl, rfl, by simp, fun i hi => Zy3 s _ _ hi, by simp, ?_, ?_, fun j o₁ hj hlt => by grind⟩⟩
 ·intro j o₁ hj
  simp only [hg j] at hj
  by_cases q : j = h.next
  ·subst q
   simp only [if_true, Option.some.injEq] at hj; subst hj
   rw [Zbb]; simpa using ho
  ·rw [if_neg q] at hj
   have hb := H.bound hj
   rw [old j o₁ hj]
   show ORel _ _ _ ((w.heap.push ob)[(s j).1]?)
   rw [Array.getElem?_push, if_neg (by omega)]
   exact (H.obj j o₁ hj).congr (fun k hk => Zy3 s _ _ hk) (H.lt j o₁ hj) (H.wso j o₁ hj)
 ·intro j k o₁ o₂ hj hk e
  simp only [hg j] at hj
  simp only [hg k] at hk
  by_cases q : j = h.next
  ·by_cases r : k = h.next
   ·rw [q, r]
   ·rw [if_neg r] at hk
    rw [q, Zbb, old k o₂ hk] at e
    have := H.bound hk
    simp only [] at e; omega
  ·rw [if_neg q] at hj
   by_cases r : k = h.next
   ·rw [r, Zbb, old j o₁ hj] at e
    have := H.bound hj
    simp only [] at e; omega
   ·rw [if_neg r] at hk
    rw [old j o₁ hj, old k o₂ hk] at e
    exact H.inj j k o₁ o₂ hj hk e
 ·intro j o₁ hj
  simp only [hg j] at hj
  by_cases q : j = h.next
  ·simp [q]
  ·rw [if_neg q] at hj; have := H.lt j o₁ hj; simp only; omega
 ·intro j o₁ hj
  simp only [hg j] at hj
  by_cases q : j = h.next
  ·subst q
   simp only [if_true, Option.some.injEq] at hj; subst hj; exact hw
  ·rw [if_neg q] at hj; exact Zm7 (by simp) (H.wso j o₁ hj)
 ·intro k hk hn
  grind
 ·intro j o₁ hj
  simp only [hg j] at hj
  by_cases q : j = h.next
  ·subst q; right; rw [Zbb]; exact Nat.le_refl _
  ·rw [if_neg q] at hj; exact .inl ⟨j, o₁, hj, by rw [old j o₁ hj]⟩
theorem HRel.kill {s : Sg} {h : Hp} {w : World} (H : HRel s h w) {i f : Nat} {tr' : Tr AObj} (ht : Tr.set f h.tr i none = some tr') : HRel s ⟨tr', h.next⟩ w ∧ Ext s h w s ⟨tr', h.next⟩ w := by
 have hg := Tr.Zao f h.tr i none tr' ht
 have sub : ∀ j o, tr'.get j = some o → h.tr.get j = some o := by grind
 refine ⟨⟨fun j o hj => H.obj j o (sub j o hj), fun j k o o' hj hk => H.inj j k o o' (sub j o hj) (sub k o' hk), fun j o hj => H.lt j o (sub j o hj), fun j o hj => H.wso j o (sub j o hj)⟩,
  ⟨rfl, rfl, rfl, Nat.le_refl _, fun _ _ => rfl, Nat.le_refl _, fun _ _ _ => rfl, fun j o hj => .inl ⟨j, o, sub j o hj, rfl⟩, fun j o hj _ => ⟨o, sub j o hj⟩⟩⟩
end Go.Proofs.YtghmfggmimoinaaGreat.Ev
