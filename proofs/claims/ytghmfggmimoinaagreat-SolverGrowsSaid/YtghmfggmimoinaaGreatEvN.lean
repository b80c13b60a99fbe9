/- The small machine: what makes memory. -/
import Derived.Test.YtghmfggmimoinaaGreatEvA
namespace Go.Proofs.YtghmfggmimoinaaGreat.Ev
open Go Go.RowKit
def Zgx (T : Tr AV) : List (Nat × Operand) → Option (List (Nat × AV))
 | [] => some []
 | (i, x) :: l => match evO T x with
  | some v => match Zgx T l with
   | some vs => some ((i, v) :: vs)
   | none => none
  | none => none
theorem Zrj {s : Sg} {T : Tr AV} {a : Act} : ∀ {l : List (Nat × Operand)} {vs : List (Nat × AV)}, Zgx T l = some vs →
  (∀ x ∈ l.map (·.2), ∀ u, evO T x = some u → a.eval x = conc s u) → l.map (fun x => (x.1, a.eval x.2)) = vs.map fun x => (x.1, conc s x.2)
 | [], vs, h, _ => by simp [Zgx] at h; subst h; rfl
 | (i, x) :: l, vs, h, hr => by
  simp only [Zgx] at h
  cases hv : evO T x <;> simp only [hv] at h
  ·cases h
  cases hl : Zgx T l <;> simp only [hl] at h
  ·cases h
  simp at h; subst h
  simp only [List.map_cons]
  rw [hr x (by simp) _ hv, Zrj hl (fun y hy => hr y (by grind))]
theorem Zyw {T : Tr AV} {n : Nat} : ∀ {l : List (Nat × Operand)} {vs : List (Nat × AV)}, Zgx T l = some vs →
  (∀ x ∈ l.map (·.2), ∀ u, evO T x = some u → ws n u = true) → ∀ x ∈ vs, ws n x.2 = true
 | [], vs, h, _ => by simp [Zgx] at h; subst h; simp
 | (i, x) :: l, vs, h, hr => by
  simp only [Zgx] at h
  cases hv : evO T x <;> simp only [hv] at h
  ·cases h
  cases hl : Zgx T l <;> simp only [hl] at h
  ·cases h
  simp at h; subst h
  intro y hy
  rcases List.mem_cons.1 hy with rfl | hy
  ·exact hr x (by simp) _ hv
  ·exact Zyw hl (fun z hz => hr z (by grind)) y hy
theorem Zvn {n : Nat} (place : Nat → Option (Nat × Nat)) : ∀ (parts : List (Nat × AV)) (cells r : List AV), fillA place cells parts = some r → wsL n cells = true →
  (∀ x ∈ parts, ws n x.2 = true) → wsL n r = true
 | [], cells, r, h, hc, _ => by simp [fillA] at h; subst h; exact hc
 | (i, v) :: rest, cells, r, h, hc, hp => by
  simp only [fillA] at h
  split at h <;> try cases h
  split at h <;> try cases h
  exact Zvn place rest _ r h (Zje (Zt3 hc) (Zje (Zm6 (hp (i, v) (by simp))) (Zvy hc))) (fun x hx => hp x (by simp [hx]))
def places (P : Program) : List Field → Option (List (Nat × Nat))
 | [] => some []
 | f :: l => match Zbz P f.type with
  | some n => match places P l with
   | some r => some ((f.offset, n) :: r)
   | none => none
  | none => none
theorem run_places {P : Program} {w : World} : ∀ {l : List Field} {r : List (Nat × Nat)}, places P l = some r →
  (l.mapM (fun f => do pure (f.offset, ← Go.sizeOf f.type) : Field → Sem (Nat × Nat))).run P w = .ok r w
 | [], r, h => by simp [places] at h; subst h; simp
 | f :: l, r, h => by
  simp only [places] at h
  split at h <;> try cases h
  rename_i n hn
  split at h <;> try cases h
  rename_i q hq
  rw [List.mapM_cons]
  simp only [Sem.run_bind, run_sizeOf hn, Result.andThen_ok, Sem.run_pure]
  rw [run_places hq]; rfl
theorem Zib {P : Program} {w : World} {l : Array Field} {r : List (Nat × Nat)} (h : places P l.toList = some r) :
  (l.mapM (fun f => do pure (f.offset, ← Go.sizeOf f.type) : Field → Sem (Nat × Nat))).run P w = .ok r.toArray w := by
 have := run_places (w := w) h
 rw [Array.mapM_eq_mapM_toList, Sem.run_map, this]; rfl
def Zqx (P : Program) (t : TypeId) (parts : List (Nat × AV)) : Option AV := match P.underlying t with
 | some (.struct fields) => match Ze3 P t, places P fields.toList with
  | some z, some ps => match fillA (fun i => nth ps i) (Zb9 z) parts with
   | some r => some (.agg r)
   | none => none
  | _, _ => none
 | some (.array _ elem) => match Ze3 P t, Zbz P elem with
  | some z, some sz => match fillA (fun i => some (i * sz, sz)) (Zb9 z) parts with
   | some r => some (.agg r)
   | none => none
  | _, _ => none
 | _ => none
theorem Zsz {P : Program} {t : TypeId} {parts : List (Nat × AV)} {v : AV} (e : Zqx P t parts = some v) (s : Sg) (w : World) (ps : Array (Nat × Value))
  (hp : ps.toList = parts.map fun x => (x.1, conc s x.2)) : (Instr.build t ps).run P w = .ok (conc s v) w := by
 unfold Zqx at e
 split at e
 ·rename_i fields hu
  split at e <;> try cases e
  rename_i z q hz hq
  split at e <;> try cases e
  rename_i r hr
  have hf := Zs0 s _ _ _ _ hr
  rw [← Zg8, Array.toArray_toList] at hf
  have hfun : (fun i => (q.toArray : Array (Nat × Nat))[i]?) = fun i => nth q i := by funext i; rw [Zcg]; simp
  simp only [Instr.build, Sem.run_bind, Zbe hz s, Result.andThen_ok, run_underlying hu, Zib hq, hp, Sem.run_pure]
  rw [hfun, hf]
  simp [conc]
 ·rename_i k elem hu
  split at e <;> try cases e
  rename_i z sz hz hs
  split at e <;> try cases e
  rename_i r hr
  have hf := Zs0 s _ _ _ _ hr
  rw [← Zg8, Array.toArray_toList] at hf
  simp only [Instr.build, Sem.run_bind, Zbe hz s, Result.andThen_ok, run_underlying hu, run_sizeOf hs, hp, Sem.run_pure]
  rw [hf]
  simp [conc]
 ·cases e
theorem evBuild_ws {P : Program} {t : TypeId} {parts : List (Nat × AV)} {v : AV} {n : Nat} (e : Zqx P t parts = some v) (hp : ∀ x ∈ parts, ws n x.2 = true) : ws n v = true := by
 unfold Zqx at e
 split at e
 ·split at e <;> try cases e
  rename_i z q hz hq
  split at e <;> try cases e
  rename_i r hr
  exact Zvn _ _ _ _ hr (Zm6 (Zmm hz n)) hp
 ·split at e <;> try cases e
  rename_i z q hz hq
  split at e <;> try cases e
  rename_i r hr
  exact Zvn _ _ _ _ hr (Zm6 (Zmm hz n)) hp
 ·cases e
def Zeb (P : Program) (t : TypeId) : Option Nat := match P.info? t with | some i => some i.bytes | none => none
def evA (P : Program) (T : Tr AV) (n : Nat) : Op → Option (AObj × AV)
 | .alloc elem => match Ze3 P elem with
  | some z => some (.cells (Zb9 z) elem none, .ptr n 0)
  | none => none
 | .box elem x => match evO T x with
  | some u => some (.cells (Zb9 u) elem none, .ptr n 0)
  | none => none
 | .makeSlice t l c => match P.underlying t, evO T l, evO T c with
  | some (.slice elem), some (.int _ li), some (.int _ ci) => match IntKind.i64.wrap li, IntKind.i64.wrap ci, Zeb P elem, Zbz P elem, Ze3 P elem with
   | .ofNat l, .ofNat c, some by_, some sz, some z => match Nat.ble l c, Nat.ble (by_ * c) 281474976710656, Nat.beq (Zb9 z).length sz with
    | true, true, true => some (.cells (rep c (Zb9 z)) elem none, .slice n 0 l false c)
    | _, _, _ => none
   | _, _, _, _, _ => none
  | _, _, _ => none
 | .buildSlice t len parts => match P.underlying t, Zgx T parts.toList with
  | some (.slice elem), some ps => match Zbz P elem, Ze3 P elem with
   | some sz, some z => match Nat.ble (len * sz) 16777216, Nat.beq (Zb9 z).length sz with
    | true, true => match fillA (fun i => some (i * sz, sz)) (rep len (Zb9 z)) ps with
     | some r => some (.cells r elem none, .slice n 0 len false len)
     | none => none
    | _, _ => none
   | _, _ => none
  | _, _ => none
 | .makeMap t r => match r with
  | none => some (.map [] 0, .map n)
  | some x => match P.underlying t, evO T x with
   | some (.map _ _), some (.int _ _) => some (.map [] 0, .map n)
   | _, _ => none
 | _ => none
theorem conc_upd {s : Sg} {n : Nat} {x : Nat × Nat} {v : AV} (h : ws n v = true) : conc (upd s n x) v = conc s v := Zlm (fun i hi => Zy3 s n x hi) v h
theorem Za2g {s : Sg} {n : Nat} {x : Nat × Nat} {v : List AV} (h : wsL n v = true) : concL (upd s n x) v = concL s v := Zkd (fun i hi => Zy3 s n x hi) v h
theorem Zy1 {P : Program} {t : TypeId} {z : AV} {s : Sg} {k : Nat} {w : World} (hz : Ze3 P t = some z) :
  ∃ zero : Array Value, ((if k = 0 then pure #[] else do pure (← zeroValue t).cells : Sem (Array Value)).run P w = .ok zero w) ∧ (k ≠ 0 → zero.toList = concL s (Zb9 z)) := by
 by_cases hk : k = 0
 ·exact ⟨#[], by simp [hk], fun h => absurd hk h⟩
 ·refine ⟨(conc s z).cells, ?_, fun _ => Zg8 s z⟩
  rw [if_neg hk]
  simp [Zbe hz s]
theorem Za0g {P : Program} {T : Tr AV} {n : Nat} {o : Oper} {ob : AObj} {v : AV} (e : evA P T n o.op = some (ob, v)) {s : Sg} {a : Act} (hO : Opnd s T a o.op)
  (w : World) (hs' : s n = (w.heap.size, 0)) :
  ∃ ob', (execOp a.eval o).run P w = .ok (.value (conc s v)) { w with heap := w.heap.push ob' } ∧ ORel s n ob (some ob') := by
 unfold evA at e
 unfold execOp
 split at e
 ·rename_i elem ho
  split at e <;> try cases e
  rename_i z hz
  refine ⟨.cells (concL s (Zb9 z)).toArray elem (0, 0), ?_, ?_⟩
  ·rw [ho]
   simp only [Instr.alloc, Sem.run_bind, Zbe hz s, Result.andThen_ok, newVar, newRow, run_newObj, Sem.run_pure, conc, hs']
   rw [← Zg8, Array.toArray_toList]
  ·simp only [ORel]
 ·rename_i elem x ho
  split at e <;> try cases e
  rename_i u hu
  rw [ho] at hO
  have hx := hO x (by simp [Op.operands]) u hu
  refine ⟨.cells (concL s (Zb9 u)).toArray elem (0, 0), ?_, ?_⟩
  ·rw [ho]
   simp only [Instr.box, Sem.run_bind, hx, Result.andThen_ok, newVar, newRow, run_newObj, Sem.run_pure, conc, hs']
   rw [← Zg8, Array.toArray_toList]
  ·simp only [ORel]
 ·rename_i t l c ho
  rw [ho] at hO
  split at e <;> try cases e
  rename_i elem kl li kc ci hu hl hc
  have hl' := hO l (by simp [Op.operands]) _ hl
  have hc' := hO c (by simp [Op.operands]) _ hc
  split at e <;> try cases e
  rename_i l' c' by_ sz z hwl hwc hb hs hz
  split at e <;> try cases e
  rename_i q1 q2 q3
  have q1 := Nat.le_of_ble_eq_true q1
  have q2 := Nat.le_of_ble_eq_true q2
  have q3 := Nat.eq_of_beq_eq_true q3
  obtain ⟨info, hi, rfl⟩ : ∃ info, P.info? elem = some info ∧ info.bytes = by_ := by
   unfold Zeb at hb
   cases hi : P.info? elem <;> simp [hi] at hb
   exact ⟨_, rfl, hb⟩
  obtain ⟨zero, hz1, hz2⟩ := Zy1 (k := c' * sz) (s := s) (w := w) hz
  refine ⟨.cells (concL s (rep c' (Zb9 z))).toArray elem (0, 0), ?_, ?_⟩
  ·rw [ho]
   simp only [hl', hc', conc]
   have hcell : (Array.range (c' * sz)).map (zero[· % zero.size]!) = (concL s (rep c' (Zb9 z))).toArray := by
    by_cases hk : c' * sz = 0
    ·have : rep c' (Zb9 z) = [] := List.eq_nil_of_length_eq_zero (by rw [Zrs, q3]; exact hk)
     rw [this, hk]; simp [concL]
    ·exact Zwi s _ c' _ zero (hz2 hk) (by rw [q3])
   have hnot : ¬ (((decide ((Int.ofNat c') < 0) || decide ((info.bytes : Int) * (Int.ofNat c') > 2 ^ 48)) || decide ((Int.ofNat l') < 0) || decide ((Int.ofNat l') > (Int.ofNat c'))) = true) := by
    have hm : (info.bytes : Int) * (c' : Int) = ((info.bytes * c' : Nat) : Int) := (Int.natCast_mul _ _).symm
    have hq : (info.bytes : Int) * (c' : Int) ≤ 281474976710656 := by rw [hm]; omega
    have h1 : decide ((Int.ofNat c') < 0) = false := decide_eq_false (by show ¬ ((c' : Int) < 0); omega)
    have h2 : decide ((info.bytes : Int) * (Int.ofNat c') > 2 ^ 48) = false := decide_eq_false (by show ¬ ((281474976710656 : Int) < (info.bytes : Int) * (c' : Int)); omega)
    have h3 : decide ((Int.ofNat l') < 0) = false := decide_eq_false (by show ¬ ((l' : Int) < 0); omega)
    have h4 : decide ((Int.ofNat l') > (Int.ofNat c')) = false := decide_eq_false (by show ¬ ((c' : Int) < (l' : Int)); omega)
    rw [h1, h2, h3, h4]; decide
   simp only [Instr.makeSlice, asInt, asIntOf, Sem.run_bind, run_underlying hu, Result.andThen_ok, Sem.run_pure, run_typeInfo hi, hwl, hwc]
   rw [if_neg hnot]
   simp only [Int.ofNat_eq_natCast, Int.toNat_natCast, run_askRoom, Result.andThen_ok, run_sizeOf hs, Sem.run_bind, Sem.run_pure]
   by_cases hk : c' * sz = 0
   ·rw [if_pos hk] at hz1 ⊢
    simp only [Sem.run_pure, Result.ok.injEq, and_true] at hz1
    subst hz1
    simp only [Sem.run_bind, Sem.run_pure, Result.andThen_ok, newRow, run_newObj, hcell, hs']
   ·rw [if_neg hk] at hz1 ⊢
    simp only [Sem.run_bind, Zbe hz s, Result.andThen_ok, Sem.run_pure, Result.ok.injEq, and_true] at hz1 ⊢
    subst hz1
    simp only [newRow, Sem.run_bind, run_newObj, Sem.run_pure, Result.andThen_ok, hcell, hs']
  ·simp only [ORel]
 ·rename_i t len parts ho
  rw [ho] at hO
  split at e <;> try cases e
  rename_i elem ps hu hps
  split at e <;> try cases e
  rename_i sz z hs hz
  split at e <;> try cases e
  rename_i q1 q2
  have q1 := Nat.le_of_ble_eq_true q1
  have q2 := Nat.eq_of_beq_eq_true q2
  split at e <;> try cases e
  rename_i r hr
  have hmem : ∀ x ∈ parts.toList.map (·.2), x ∈ (Op.buildSlice t len parts).operands := by
   intro x hx; simp only [Op.operands, List.mem_toArray]; exact hx
  have hconc := Zrj hps (fun x hx => hO x (hmem x hx))
  obtain ⟨zero, hz1, hz2⟩ := Zy1 (k := len * sz) (s := s) (w := w) hz
  refine ⟨.cells (concL s r).toArray elem (0, 0), ?_, ?_⟩
  ·rw [ho]
   have hcell : (Array.range (len * sz)).map (zero[· % zero.size]!) = (concL s (rep len (Zb9 z))).toArray := by
    by_cases hk : len * sz = 0
    ·have : rep len (Zb9 z) = [] := List.eq_nil_of_length_eq_zero (by rw [Zrs, q2]; exact hk)
     rw [this, hk]; simp [concL]
    ·exact Zwi s _ len _ zero (hz2 hk) (by rw [q2])
   have hp : ((parts.map fun x => (x.1, a.eval x.2)).toList) = ps.map fun x => (x.1, conc s x.2) := by simpa using hconc
   simp only [Instr.buildSlice, Sem.run_bind, run_underlying hu, Result.andThen_ok, run_sizeOf hs]
   rw [if_neg (by omega)]
   simp only [Sem.run_pure, Result.andThen_ok, Sem.run_bind]
   rw [hp]
   have hf := Zs0 s _ _ _ _ hr
   by_cases hk : len * sz = 0
   ·rw [if_pos hk] at hz1 ⊢
    simp only [Sem.run_pure, Result.ok.injEq, and_true] at hz1
    subst hz1
    simp only [Sem.run_bind, Sem.run_pure, Result.andThen_ok, hcell, hf, newRow, run_newObj, conc, hs']
   ·rw [if_neg hk] at hz1 ⊢
    simp only [Sem.run_bind, Zbe hz s, Result.andThen_ok, Sem.run_pure, Result.ok.injEq, and_true] at hz1 ⊢
    subst hz1
    simp only [hcell, hf, newRow, Sem.run_bind, run_newObj, Sem.run_pure, Result.andThen_ok, conc, hs']
  ·simp only [ORel]
 ·rename_i t r ho
  rw [ho] at hO
  split at e
  ·simp only [Option.some.injEq, Prod.mk.injEq] at e
   obtain ⟨rfl, rfl⟩ := e
   refine ⟨.map #[] 0, ?_, by simp [ORel, concE]⟩
   rw [ho]
   simp [Instr.makeMap, conc, hs']
  ·rename_i x
   split at e <;> try cases e
   rename_i k1 k2 k3 k4 hu hx
   have hx' := hO x (by simp [Op.operands]) _ hx
   refine ⟨.map #[] 0, ?_, by simp [ORel, concE]⟩
   rw [ho]
   simp [Instr.makeMap, conc, hs', hx', run_underlying hu, asInt, asIntOf]
 ·cases e
theorem evA_ws {P : Program} {T : Tr AV} {n : Nat} {o : Oper} {ob : AObj} {v : AV} (e : evA P T n o.op = some (ob, v)) {m : Nat} (hnm : n < m)
  (hW : ∀ x ∈ o.op.operands, ∀ u, evO T x = some u → ws m u = true) : wsO m ob = true ∧ ws m v = true := by
 unfold evA at e
 split at e
 ·rename_i elem ho
  split at e <;> try cases e
  rename_i z hz
  exact ⟨Zm6 (Zmm hz m), by simp [ws, hnm]⟩
 ·rename_i elem x ho
  split at e <;> try cases e
  rename_i u hu
  rw [ho] at hW
  exact ⟨Zm6 (hW x (by simp [Op.operands]) u hu), by simp [ws, hnm]⟩
 ·rename_i t l c ho
  split at e <;> try cases e
  split at e <;> try cases e
  rename_i l' c' by_ sz z hwl hwc hb hs hz
  split at e <;> try cases e
  exact ⟨Za2v (Zm6 (Zmm hz m)) c', by simp [ws, hnm]⟩
 ·rename_i t len parts ho
  rw [ho] at hW
  split at e <;> try cases e
  rename_i elem ps hu hps
  split at e <;> try cases e
  rename_i sz z hs hz
  split at e <;> try cases e
  split at e <;> try cases e
  rename_i r hr
  have hmem : ∀ x ∈ parts.toList.map (·.2), x ∈ (Op.buildSlice t len parts).operands := by
   intro x hx; simp only [Op.operands, List.mem_toArray]; exact hx
  exact ⟨Zvn _ _ _ _ hr (Za2v (Zm6 (Zmm hz m)) len) (Zyw hps (fun x hx => hW x (hmem x hx))), by simp [ws, hnm]⟩
 ·split at e
  ·simp only [Option.some.injEq, Prod.mk.injEq] at e
   obtain ⟨rfl, rfl⟩ := e
   exact ⟨rfl, by simp [ws, hnm]⟩
  ·split at e <;> try cases e
   exact ⟨rfl, by simp [ws, hnm]⟩
 ·cases e
theorem opnd_upd {s : Sg} {T : Tr AV} {a : Act} {o : Op} {n : Nat} {x : Nat × Nat} (hO : Opnd s T a o) (hW : ∀ y ∈ o.operands, ∀ u, evO T y = some u → ws n u = true) : Opnd (upd s n x) T a o := by
 intro y hy u hu
 rw [hO y hy u hu, conc_upd (hW y hy u hu)]
theorem Zx7 {P : Program} {T : Tr AV} {n : Nat} {o : Oper} {ob : AObj} {v : AV} (e : evA P T n o.op = some (ob, v)) {s : Sg} {a : Act} (hO : Opnd s T a o.op)
  (hW : ∀ x ∈ o.op.operands, ∀ u, evO T x = some u → ws n u = true) (w : World) :
  ∃ ob', (execOp a.eval o).run P w = .ok (.value (conc (upd s n (w.heap.size, 0)) v)) { w with heap := w.heap.push ob' } ∧
   ORel (upd s n (w.heap.size, 0)) n ob (some ob') ∧ wsO (n + 1) ob = true ∧ ws (n + 1) v = true := by
 obtain ⟨ob', h1, h2⟩ := Za0g e (opnd_upd hO hW) w (Zbb _ _ _)
 have := evA_ws (m := n + 1) e (by omega) (fun x hx u hu => Zq3 (by omega) _ (hW x hx u hu))
 grind
end Go.Proofs.YtghmfggmimoinaaGreat.Ev
