/- The small machine: loads, stores, slices, and what makes memory. -/
import Derived.Test.YtghmfggmimoinaaGreatEvH
namespace Go.Proofs.YtghmfggmimoinaaGreat.Ev
open Go Go.RowKit
def FT : Nat := 30
theorem HRel.cells {s : Sg} {h : Hp} {w : World} (H : HRel s h w) {b : Nat} {l : List AV} {ty : TypeId} {op : Option Nat} (hb : h.tr.get b = some (.cells l ty op)) :
  ∃ tail : List Value, w.heap[(s b).1]? = some (.cells (concL s l ++ tail).toArray ty (0, 0)) ∧ (op = none → tail = []) ∧ (∀ sz, op = some sz → (l.length + tail.length = (s b).2 * sz ∧ (s b).2 ≤ 9223372036854775807)) := by
 have := H.obj b _ hb
 cases op with
 | none => exact ⟨[], by simpa [ORel] using this, fun _ => rfl, (fun _ h => by cases h)⟩
 | some sz =>
  obtain ⟨tail, h1, h2⟩ := this
  grind
theorem ORel.of_tail {s : Sg} {b : Nat} {l : List AV} {ty : TypeId} {op : Option Nat} {tail : List Value} (h1 : op = none → tail = []) (h2 : ∀ sz, op = some sz → (l.length + tail.length = (s b).2 * sz ∧ (s b).2 ≤ 9223372036854775807)) :
  ORel s b (.cells l ty op) (some (.cells (concL s l ++ tail).toArray ty (0, 0))) := by
 cases op with
 | none => simp [ORel, h1 rfl]
 | some sz => exact ⟨tail, rfl, h2 sz rfl⟩
def aggr (P : Program) (t : TypeId) : Option Bool := match P.underlying t with
 | some (.struct _) => some true
 | some (.array _ _) => some true
 | some _ => some false
 | none => none
theorem Zhy {P : Program} {t : TypeId} {b : Bool} (h : aggr P t = some b) (w : World) : (isAgg t).run P w = .ok b w := by
 unfold aggr at h
 cases hu : P.underlying t with
 | none => simp [hu] at h
 | some d => cases d <;> simp [hu] at h <;> subst h <;> simp [isAgg, run_underlying hu]
def Zoi (P : Program) (h : Hp) (t : TypeId) (u : AV) : Option AV := match u with
 | .ptr b off => match h.tr.get b with
  | some (.cells l _ _) => match aggr P t with
   | some true => match Zbz P t with
    | some n => match Nat.ble (off + n) l.length with
     | true => some (.agg (takeN n (dropN off l)))
     | false => none
    | none => none
   | some false => nth l off
   | none => none
  | _ => none
 | _ => none
theorem Zpo {P : Program} {h : Hp} {t : TypeId} {u v : AV} (e : Zoi P h t u = some v) {s : Sg} {w : World} (H : HRel s h w) :
  (Instr.loadAt t (conc s u)).run P w = .ok (conc s v) w := by
 unfold Zoi at e
 split at e <;> try cases e
 rename_i b off
 split at e <;> try cases e
 rename_i l ty op hb
 obtain ⟨tail, hw, _, _⟩ := H.cells hb
 split at e
 ·rename_i ha
  split at e <;> try cases e
  rename_i n hn
  split at e <;> try cases e
  rename_i hl
  have hl := Nat.le_of_ble_eq_true hl
  have hL := Zc3 s l
  simp only [Instr.loadAt, conc, Instr.sureAddr, Sem.run_bind, Sem.run_pure, Result.andThen_ok, loadVar, Zhy ha, if_true, run_sizeOf hn, loadCells]
  rw [run_loadCells hw n 0 #[] (by simp; omega)]
  simp only [Result.andThen_ok, Sem.run_pure]
  congr 3
  simp only [Nat.add_zero, Zdt, Ze9, Zln, Zmo]
  grind
 ·rename_i ha
  rw [Zcg] at e
  have hlt : off < l.length := by grind
  have hc : w.cell? ⟨(s b).1, off, none⟩ = some (conc s v) := by
   have hL := Zc3 s l
   simp only [World.cell?, hw, Option.isSome_none, Bool.false_eq_true, if_false]
   simp only [List.getElem?_toArray]
   rw [List.getElem?_append_left (by omega), Ztq, e]; rfl
  simp [Instr.loadAt, conc, Instr.sureAddr, loadVar, Zhy ha, run_load, hc]
 ·cases e
theorem Zje {n : Nat} {a b : List AV} (ha : wsL n a = true) (hb : wsL n b = true) : wsL n (a ++ b) = true := by
 rw [Zvx] at *
 grind
theorem Zt3 {n k : Nat} {a : List AV} (ha : wsL n a = true) : wsL n (takeN k a) = true := by
 rw [Zdt]; rw [Zvx] at *; grind
theorem Zvy {n k : Nat} {a : List AV} (ha : wsL n a = true) : wsL n (dropN k a) = true := by
 rw [Ze9]; rw [Zvx] at *; grind
theorem Zm6 {n : Nat} {v : AV} (h : ws n v = true) : wsL n (Zb9 v) = true := by
 cases v <;> simp only [Zb9, wsL, h] <;> exact h
def Zqq (h : Hp) (b off : Nat) (vs : List AV) : Option Hp := match h.tr.get b with
 | some (.cells l ty op) => match Nat.ble (off + vs.length) l.length, oneL vs with
  | true, true => match Tr.set FT h.tr b (some (.cells (takeN off l ++ (vs ++ dropN (off + vs.length) l)) ty op)) with
   | some tr => some ⟨tr, h.next⟩
   | none => none
  | _, _ => none
 | _ => none
theorem Zn0 {P : Program} {h h' : Hp} {b off : Nat} {vs : List AV} (e : Zqq h b off vs = some h') {s : Sg} {w : World} (H : HRel s h w) (hv : wsL h.next vs = true) :
  ∃ w', (storeCells ⟨(s b).1, off, none⟩ (concL s vs)).run P w = .ok () w' ∧ HRel s h' w' ∧ Ext s h w s h' w' := by
 unfold Zqq at e
 split at e <;> try cases e
 rename_i l ty op hb
 split at e <;> try cases e
 rename_i hl ho
 split at e <;> try cases e
 rename_i tr ht
 have hl := Nat.le_of_ble_eq_true hl
 obtain ⟨tail, hw, h1, h2⟩ := H.cells hb
 have hL := Zc3 s l
 have hV := Zc3 s vs
 obtain ⟨c', hc', hr⟩ := Zdn (P := P) (off := off) (concL s vs) 0 w _ hw (by simp; omega) (by
  intro v hv
  rw [Zn2] at hv
  obtain ⟨x, hx, rfl⟩ := List.mem_map.1 hv
  exact Za4r ((Za4s vs).1 ho x hx))
 have hc : c' = (concL s (takeN off l ++ (vs ++ dropN (off + vs.length) l)) ++ tail).toArray := by
  apply Array.toList_inj.1
  rw [hc']
  simp only [Nat.add_zero, Zdt, Ze9, Zj7, Zln, Zmo, hV]
  grind
 subst hc
 have hlen : (takeN off l ++ (vs ++ dropN (off + vs.length) l)).length = l.length := by simp [Zdt, Ze9]; omega
 have := H.put (ob := .cells (concL s (takeN off l ++ (vs ++ dropN (off + vs.length) l)) ++ tail).toArray ty (0, 0)) hb rfl
  (ORel.of_tail (ty := ty) (op := op) h1 (by rw [hlen]; exact h2))
  (by have := H.wso _ _ hb; simp only [wsO] at this ⊢; exact Zje (Zt3 this) (Zje hv (Zvy this))) ht
 grind
def Za3y (P : Program) (h : Hp) (t : TypeId) (u v : AV) : Option Hp := match u with
 | .ptr b off => match Zbz P t with
  | some n => match Nat.beq (Zb9 v).length n with
   | true => Zqq h b off (Zb9 v)
   | false => none
  | none => none
 | _ => none
theorem Za3x {P : Program} {h h' : Hp} {t : TypeId} {u v : AV} (e : Za3y P h t u v = some h') {s : Sg} {w : World} (H : HRel s h w) (hv : ws h.next v = true) :
  ∃ w', (Instr.storeAt t (conc s u) (conc s v)).run P w = .ok () w' ∧ HRel s h' w' ∧ Ext s h w s h' w' := by
 unfold Za3y at e
 split at e <;> try cases e
 rename_i b off
 split at e <;> try cases e
 rename_i n hn
 split at e <;> try cases e
 rename_i hl
 have hl := Nat.eq_of_beq_eq_true hl
 obtain ⟨w', hr, hH, hE⟩ := Zn0 (P := P) e H (Zm6 hv)
 refine ⟨w', ?_, hH, hE⟩
 have hsz : (conc s v).cells.size = n := by rw [← Array.length_toList, Zg8, Zc3, hl]
 simp only [Instr.storeAt, conc, Instr.sureAddr, Sem.run_bind, Sem.run_pure, Result.andThen_ok, storeVar, run_sizeOf hn]
 rw [if_neg (by simp [hsz])]
 simp only [Sem.run_pure, Result.andThen_ok, Zg8]
 exact hr
def rep : Nat → List AV → List AV
 | 0, _ => []
 | n + 1, z => z ++ rep n z
theorem Zrs (n : Nat) (z : List AV) : (rep n z).length = n * z.length := by
 induction n with
 | zero => simp [rep]
 | succ n ih => simp [rep, ih, Nat.add_mul, Nat.add_comm]
theorem Za7g (s : Sg) (z : List AV) : ∀ (n i : Nat), i < n * z.length → (concL s (rep n z))[i]? = (concL s z)[i % z.length]?
 | 0, i, h => by omega
 | n + 1, i, h => by
  have hz := Zc3 s z
  simp only [rep, Zj7]
  rcases Nat.lt_or_ge i z.length with q | q
  ·rw [List.getElem?_append_left (by omega), Nat.mod_eq_of_lt q]
  ·rw [List.getElem?_append_right (by omega), hz, Za7g s z n (i - z.length) (by grind)]
   congr 1
   rw [← Nat.mod_eq_sub_mod q]
theorem Zwi (s : Sg) (z : List AV) (n k : Nat) (zero : Array Value) (hz : zero.toList = concL s z) (hk : k = n * z.length) :
  ((Array.range k).map (zero[· % zero.size]!)) = (concL s (rep n z)).toArray := by
 have hs : zero.size = z.length := by rw [← Array.length_toList, hz, Zc3]
 apply Array.toList_inj.1
 apply List.ext_getElem?
 intro i
 simp only [Array.toList_map, Array.toList_range, List.getElem?_map, List.toList_toArray]
 rcases Nat.lt_or_ge i k with q | q
 ·have hz0 : 0 < z.length := by grind
  rw [List.getElem?_range q, Option.map_some, Za7g s z n i (by omega), ← hz, hs]
  have hm := Nat.mod_lt i hz0
  simp [hs, hm]
 ·rw [List.getElem?_eq_none (by grind), List.getElem?_eq_none (by rw [Zc3, Zrs]; omega)]; rfl
theorem Za2v {n : Nat} {z : List AV} (h : wsL n z = true) (k : Nat) : wsL n (rep k z) = true := by
 induction k with
 | zero => simp [rep, wsL]
 | succ k ih => exact Zje h ih
theorem Za5q {x : Value} {v : AV} (h : back1 x = some v) (n : Nat) : ws n v = true := by
 cases x with
 | pointer a => cases a <;> simp [back1] at h; subst h; rfl
 | map a => cases a <;> simp [back1] at h; subst h; rfl
 | slice a l c =>
  simp only [back1] at h
  split at h
  ·simp at h; subst h; rfl
  ·cases h
 | _ => simp [back1] at h <;> subst h <;> rfl
theorem Za0l : ∀ {x : List Value} {l : List AV}, backL x = some l → ∀ n, wsL n l = true
 | [], l, h, n => by simp [backL] at h; subst h; rfl
 | x :: xs, l, h, n => by
  simp only [backL] at h
  cases hv : back1 x <;> simp only [hv] at h
  ·cases h
  cases hl : backL xs <;> simp only [hl] at h
  ·cases h
  simp at h; subst h
  simp [wsL, Za5q hv, Za0l hl]
theorem Za4a {x : Value} {v : AV} (h : back x = some v) (n : Nat) : ws n v = true := by
 cases x with
 | agg l =>
  simp only [back] at h
  cases hl : backL l.toList <;> simp only [hl] at h
  ·cases h
  simp at h; subst h
  simp [ws, Za0l hl]
 | tuple l =>
  simp only [back] at h
  cases hl : backL l.toList <;> simp only [hl] at h
  ·cases h
  simp at h; subst h
  simp [ws, Za0l hl]
 | _ => simp only [back] at h; exact Za5q h n
theorem Zmm {P : Program} {t : TypeId} {v : AV} (h : Ze3 P t = some v) (n : Nat) : ws n v = true := by
 unfold Ze3 at h
 split at h <;> try cases h
 split at h <;> try cases h
 exact Za4a h n
end Go.Proofs.YtghmfggmimoinaaGreat.Ev
