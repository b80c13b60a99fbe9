/- The small machine: what makes memory. -/
import Derived.Test.YtpdgjcejkmkglaaGreatEvA
namespace Go.Proofs.YtpdgjcejkmkglaaGreat.Ev
open Go Go.RowKit
set_option linter.unusedVariables false
set_option linter.unusedSimpArgs false

def evParts (T : Tr AV) : List (Nat × Operand) → Option (List (Nat × AV))
  | [] => some []
  | (i, x) :: l => match evO T x with
    | some v => match evParts T l with
      | some vs => some ((i, v) :: vs)
      | none => none
    | none => none
theorem evParts_conc {s : Sg} {T : Tr AV} {a : Act} : ∀ {l : List (Nat × Operand)} {vs : List (Nat × AV)}, evParts T l = some vs →
    (∀ x ∈ l.map (·.2), ∀ u, evO T x = some u → a.eval x = conc s u) → l.map (fun x => (x.1, a.eval x.2)) = vs.map fun x => (x.1, conc s x.2)
  | [], vs, h, _ => by simp [evParts] at h; subst h; rfl
  | (i, x) :: l, vs, h, hr => by
    simp only [evParts] at h
    cases hv : evO T x <;> simp only [hv] at h
    · cases h
    cases hl : evParts T l <;> simp only [hl] at h
    · cases h
    simp at h; subst h
    simp only [List.map_cons]
    rw [hr x (by simp) _ hv, evParts_conc hl (fun y hy => hr y (by simp only [List.map_cons]; exact List.mem_cons_of_mem _ hy))]
theorem evParts_ws {T : Tr AV} {n : Nat} : ∀ {l : List (Nat × Operand)} {vs : List (Nat × AV)}, evParts T l = some vs →
    (∀ x ∈ l.map (·.2), ∀ u, evO T x = some u → ws n u = true) → ∀ x ∈ vs, ws n x.2 = true
  | [], vs, h, _ => by simp [evParts] at h; subst h; simp
  | (i, x) :: l, vs, h, hr => by
    simp only [evParts] at h
    cases hv : evO T x <;> simp only [hv] at h
    · cases h
    cases hl : evParts T l <;> simp only [hl] at h
    · cases h
    simp at h; subst h
    intro y hy
    rcases List.mem_cons.1 hy with rfl | hy
    · exact hr x (by simp) _ hv
    · exact evParts_ws hl (fun z hz => hr z (by simp only [List.map_cons]; exact List.mem_cons_of_mem _ hz)) y hy
theorem fillA_ws {n : Nat} (place : Nat → Option (Nat × Nat)) : ∀ (parts : List (Nat × AV)) (cells r : List AV), fillA place cells parts = some r → wsL n cells = true →
    (∀ x ∈ parts, ws n x.2 = true) → wsL n r = true
  | [], cells, r, h, hc, _ => by simp [fillA] at h; subst h; exact hc
  | (i, v) :: rest, cells, r, h, hc, hp => by
    simp only [fillA] at h
    split at h <;> try cases h
    split at h <;> try cases h
    exact fillA_ws place rest _ r h (wsL_append (wsL_takeN hc) (wsL_append (ws_cells (hp (i, v) (by simp))) (wsL_dropN hc))) (fun x hx => hp x (by simp [hx]))

/-- The places of a struct's fields. -/
def places (P : Program) : List Field → Option (List (Nat × Nat))
  | [] => some []
  | f :: l => match sizeOf? P f.type with
    | some n => match places P l with
      | some r => some ((f.offset, n) :: r)
      | none => none
    | none => none
theorem run_places {P : Program} {w : World} : ∀ {l : List Field} {r : List (Nat × Nat)}, places P l = some r →
    (l.mapM (fun f => do pure (f.offset, ← Go.sizeOf f.type) : Field → Sem (Nat × Nat))).run P w = .ok r w
  | [], r, h => by simp [places] at h; subst h; simp
  | f :: l, r, h => by
    simp only [places] at h
    split at h <;> try cases h
    rename_i n hn
    split at h <;> try cases h
    rename_i q hq
    rw [List.mapM_cons]
    simp only [Sem.run_bind, run_sizeOf hn, Result.andThen_ok, Sem.run_pure]
    rw [run_places hq]; rfl
theorem run_placesA {P : Program} {w : World} {l : Array Field} {r : List (Nat × Nat)} (h : places P l.toList = some r) :
    (l.mapM (fun f => do pure (f.offset, ← Go.sizeOf f.type) : Field → Sem (Nat × Nat))).run P w = .ok r.toArray w := by
  have := run_places (w := w) h
  rw [Array.mapM_eq_mapM_toList, Sem.run_map, this]; rfl

def evBuild (P : Program) (t : TypeId) (parts : List (Nat × AV)) : Option AV := match P.underlying t with
  | some (.struct fields) => match zeroOf? P t, places P fields.toList with
    | some z, some ps => match fillA (fun i => nth ps i) (avCells z) parts with
      | some r => some (.agg r)
      | none => none
    | _, _ => none
  | some (.array _ elem) => match zeroOf? P t, sizeOf? P elem with
    | some z, some sz => match fillA (fun i => some (i * sz, sz)) (avCells z) parts with
      | some r => some (.agg r)
      | none => none
    | _, _ => none
  | _ => none
theorem evBuild_run {P : Program} {t : TypeId} {parts : List (Nat × AV)} {v : AV} (e : evBuild P t parts = some v) (s : Sg) (w : World) (ps : Array (Nat × Value))
    (hp : ps.toList = parts.map fun x => (x.1, conc s x.2)) : (Instr.build t ps).run P w = .ok (conc s v) w := by
  unfold evBuild at e
  split at e
  · rename_i fields hu
    split at e <;> try cases e
    rename_i z q hz hq
    split at e <;> try cases e
    rename_i r hr
    have hf := fillA_conc s _ _ _ _ hr
    rw [← cells_conc, Array.toArray_toList] at hf
    have hfun : (fun i => (q.toArray : Array (Nat × Nat))[i]?) = fun i => nth q i := by funext i; rw [nth_eq]; simp
    simp only [Instr.build, Sem.run_bind, run_zeroValue hz s, Result.andThen_ok, run_underlying hu, run_placesA hq, hp, Sem.run_pure]
    rw [hfun, hf]
    simp [conc]
  · rename_i k elem hu
    split at e <;> try cases e
    rename_i z sz hz hs
    split at e <;> try cases e
    rename_i r hr
    have hf := fillA_conc s _ _ _ _ hr
    rw [← cells_conc, Array.toArray_toList] at hf
    simp only [Instr.build, Sem.run_bind, run_zeroValue hz s, Result.andThen_ok, run_underlying hu, run_sizeOf hs, hp, Sem.run_pure]
    rw [hf]
    simp [conc]
  · cases e
theorem evBuild_ws {P : Program} {t : TypeId} {parts : List (Nat × AV)} {v : AV} {n : Nat} (e : evBuild P t parts = some v) (hp : ∀ x ∈ parts, ws n x.2 = true) : ws n v = true := by
  unfold evBuild at e
  split at e
  · split at e <;> try cases e
    rename_i z q hz hq
    split at e <;> try cases e
    rename_i r hr
    exact fillA_ws _ _ _ _ hr (ws_cells (zeroOf?_ws hz n)) hp
  · split at e <;> try cases e
    rename_i z q hz hq
    split at e <;> try cases e
    rename_i r hr
    exact fillA_ws _ _ _ _ hr (ws_cells (zeroOf?_ws hz n)) hp
  · cases e

def bytesOf? (P : Program) (t : TypeId) : Option Nat := match P.info? t with | some i => some i.bytes | none => none
def evA (P : Program) (T : Tr AV) (n : Nat) : Op → Option (AObj × AV)
  | .alloc elem => match zeroOf? P elem with
    | some z => some (.cells (avCells z) elem none, .ptr n 0)
    | none => none
  | .box elem x => match evO T x with
    | some u => some (.cells (avCells u) elem none, .ptr n 0)
    | none => none
  | .makeSlice t l c => match P.underlying t, evO T l, evO T c with
    | some (.slice elem), some (.int _ li), some (.int _ ci) => match IntKind.i64.wrap li, IntKind.i64.wrap ci, bytesOf? P elem, sizeOf? P elem, zeroOf? P elem with
      | .ofNat l, .ofNat c, some by_, some sz, some z => match Nat.ble l c, Nat.ble (by_ * c) 281474976710656, Nat.beq (avCells z).length sz with
        | true, true, true => some (.cells (rep c (avCells z)) elem none, .slice n 0 l false c)
        | _, _, _ => none
      | _, _, _, _, _ => none
    | _, _, _ => none
  | .buildSlice t len parts => match P.underlying t, evParts T parts.toList with
    | some (.slice elem), some ps => match sizeOf? P elem, zeroOf? P elem with
      | some sz, some z => match Nat.ble (len * sz) 16777216, Nat.beq (avCells z).length sz with
        | true, true => match fillA (fun i => some (i * sz, sz)) (rep len (avCells z)) ps with
          | some r => some (.cells r elem none, .slice n 0 len false len)
          | none => none
        | _, _ => none
      | _, _ => none
    | _, _ => none
  | .makeMap t r => match r with
    | none => some (.map [] 0, .map n)
    | some x => match P.underlying t, evO T x with
      | some (.map _ _), some (.int _ _) => some (.map [] 0, .map n)
      | _, _ => none
  | _ => none

theorem conc_upd {s : Sg} {n : Nat} {x : Nat × Nat} {v : AV} (h : ws n v = true) : conc (upd s n x) v = conc s v := conc_congr (fun i hi => upd_lt s n x hi) v h
theorem concL_upd {s : Sg} {n : Nat} {x : Nat × Nat} {v : List AV} (h : wsL n v = true) : concL (upd s n x) v = concL s v := concL_congr (fun i hi => upd_lt s n x hi) v h

theorem zero_empty {P : Program} {t : TypeId} {z : AV} {s : Sg} {k : Nat} {w : World} (hz : zeroOf? P t = some z) :
    ∃ zero : Array Value, ((if k = 0 then pure #[] else do pure (← zeroValue t).cells : Sem (Array Value)).run P w = .ok zero w) ∧ (k ≠ 0 → zero.toList = concL s (avCells z)) := by
  by_cases hk : k = 0
  · exact ⟨#[], by simp [hk], fun h => absurd hk h⟩
  · refine ⟨(conc s z).cells, ?_, fun _ => cells_conc s z⟩
    rw [if_neg hk]
    simp [run_zeroValue hz s]

theorem evA_run2 {P : Program} {T : Tr AV} {n : Nat} {o : Oper} {ob : AObj} {v : AV} (e : evA P T n o.op = some (ob, v)) {s : Sg} {a : Act} (hO : Opnd s T a o.op)
    (w : World) (hs' : s n = (w.heap.size, 0)) :
    ∃ ob', (execOp a.eval o).run P w = .ok (.value (conc s v)) { w with heap := w.heap.push ob' } ∧ ORel s n ob (some ob') := by
  unfold evA at e
  unfold execOp
  split at e
  · rename_i elem ho
    split at e <;> try cases e
    rename_i z hz
    refine ⟨.cells (concL s (avCells z)).toArray elem (0, 0), ?_, ?_⟩
    · rw [ho]
      simp only [Instr.alloc, Sem.run_bind, run_zeroValue hz s, Result.andThen_ok, newVar, newRow, run_newObj, Sem.run_pure, conc, hs']
      rw [← cells_conc, Array.toArray_toList]
    · simp only [ORel]
  · rename_i elem x ho
    split at e <;> try cases e
    rename_i u hu
    rw [ho] at hO
    have hx := hO x (by simp [Op.operands]) u hu
    refine ⟨.cells (concL s (avCells u)).toArray elem (0, 0), ?_, ?_⟩
    · rw [ho]
      simp only [Instr.box, Sem.run_bind, hx, Result.andThen_ok, newVar, newRow, run_newObj, Sem.run_pure, conc, hs']
      rw [← cells_conc, Array.toArray_toList]
    · simp only [ORel]
  · rename_i t l c ho
    rw [ho] at hO
    split at e <;> try cases e
    rename_i elem kl li kc ci hu hl hc
    have hl' := hO l (by simp [Op.operands]) _ hl
    have hc' := hO c (by simp [Op.operands]) _ hc
    split at e <;> try cases e
    rename_i l' c' by_ sz z hwl hwc hb hs hz
    split at e <;> try cases e
    rename_i q1 q2 q3
    have q1 := Nat.le_of_ble_eq_true q1
    have q2 := Nat.le_of_ble_eq_true q2
    have q3 := Nat.eq_of_beq_eq_true q3
    obtain ⟨info, hi, rfl⟩ : ∃ info, P.info? elem = some info ∧ info.bytes = by_ := by
      unfold bytesOf? at hb
      cases hi : P.info? elem <;> simp [hi] at hb
      exact ⟨_, rfl, hb⟩
    obtain ⟨zero, hz1, hz2⟩ := zero_empty (k := c' * sz) (s := s) (w := w) hz
    refine ⟨.cells (concL s (rep c' (avCells z))).toArray elem (0, 0), ?_, ?_⟩
    · rw [ho]
      simp only [hl', hc', conc]
      have hcell : (Array.range (c' * sz)).map (zero[· % zero.size]!) = (concL s (rep c' (avCells z))).toArray := by
        by_cases hk : c' * sz = 0
        · have : rep c' (avCells z) = [] := List.eq_nil_of_length_eq_zero (by rw [rep_length, q3]; exact hk)
          rw [this, hk]; simp [concL]
        · exact rep_zeros s _ c' _ zero (hz2 hk) (by rw [q3])
      have hnot : ¬ (((decide ((Int.ofNat c') < 0) || decide ((info.bytes : Int) * (Int.ofNat c') > 2 ^ 48)) || decide ((Int.ofNat l') < 0) || decide ((Int.ofNat l') > (Int.ofNat c'))) = true) := by
        have hm : (info.bytes : Int) * (c' : Int) = ((info.bytes * c' : Nat) : Int) := (Int.natCast_mul _ _).symm
        have hq : (info.bytes : Int) * (c' : Int) ≤ 281474976710656 := by rw [hm]; omega
        have h1 : decide ((Int.ofNat c') < 0) = false := decide_eq_false (by show ¬ ((c' : Int) < 0); omega)
        have h2 : decide ((info.bytes : Int) * (Int.ofNat c') > 2 ^ 48) = false := decide_eq_false (by show ¬ ((281474976710656 : Int) < (info.bytes : Int) * (c' : Int)); omega)
        have h3 : decide ((Int.ofNat l') < 0) = false := decide_eq_false (by show ¬ ((l' : Int) < 0); omega)
        have h4 : decide ((Int.ofNat l') > (Int.ofNat c')) = false := decide_eq_false (by show ¬ ((c' : Int) < (l' : Int)); omega)
        rw [h1, h2, h3, h4]; decide
      simp only [Instr.makeSlice, asInt, asIntOf, Sem.run_bind, run_underlying hu, Result.andThen_ok, Sem.run_pure, run_typeInfo hi, hwl, hwc]
      rw [if_neg hnot]
      simp only [Int.ofNat_eq_natCast, Int.toNat_natCast, run_askRoom, Result.andThen_ok, run_sizeOf hs, Sem.run_bind, Sem.run_pure]
      by_cases hk : c' * sz = 0
      · rw [if_pos hk] at hz1 ⊢
        simp only [Sem.run_pure, Result.ok.injEq, and_true] at hz1
        subst hz1
        simp only [Sem.run_bind, Sem.run_pure, Result.andThen_ok, newRow, run_newObj, hcell, hs']
      · rw [if_neg hk] at hz1 ⊢
        simp only [Sem.run_bind, run_zeroValue hz s, Result.andThen_ok, Sem.run_pure, Result.ok.injEq, and_true] at hz1 ⊢
        subst hz1
        simp only [newRow, Sem.run_bind, run_newObj, Sem.run_pure, Result.andThen_ok, hcell, hs']
    · simp only [ORel]
  · rename_i t len parts ho
    rw [ho] at hO
    split at e <;> try cases e
    rename_i elem ps hu hps
    split at e <;> try cases e
    rename_i sz z hs hz
    split at e <;> try cases e
    rename_i q1 q2
    have q1 := Nat.le_of_ble_eq_true q1
    have q2 := Nat.eq_of_beq_eq_true q2
    split at e <;> try cases e
    rename_i r hr
    have hmem : ∀ x ∈ parts.toList.map (·.2), x ∈ (Op.buildSlice t len parts).operands := by
      intro x hx; simp only [Op.operands, List.mem_toArray]; exact hx
    have hconc := evParts_conc hps (fun x hx => hO x (hmem x hx))
    obtain ⟨zero, hz1, hz2⟩ := zero_empty (k := len * sz) (s := s) (w := w) hz
    refine ⟨.cells (concL s r).toArray elem (0, 0), ?_, ?_⟩
    · rw [ho]
      have hcell : (Array.range (len * sz)).map (zero[· % zero.size]!) = (concL s (rep len (avCells z))).toArray := by
        by_cases hk : len * sz = 0
        · have : rep len (avCells z) = [] := List.eq_nil_of_length_eq_zero (by rw [rep_length, q2]; exact hk)
          rw [this, hk]; simp [concL]
        · exact rep_zeros s _ len _ zero (hz2 hk) (by rw [q2])
      have hp : ((parts.map fun x => (x.1, a.eval x.2)).toList) = ps.map fun x => (x.1, conc s x.2) := by simpa using hconc
      simp only [Instr.buildSlice, Sem.run_bind, run_underlying hu, Result.andThen_ok, run_sizeOf hs]
      rw [if_neg (by omega)]
      simp only [Sem.run_pure, Result.andThen_ok, Sem.run_bind]
      rw [hp]
      have hf := fillA_conc s _ _ _ _ hr
      by_cases hk : len * sz = 0
      · rw [if_pos hk] at hz1 ⊢
        simp only [Sem.run_pure, Result.ok.injEq, and_true] at hz1
        subst hz1
        simp only [Sem.run_bind, Sem.run_pure, Result.andThen_ok, hcell, hf, newRow, run_newObj, conc, hs']
      · rw [if_neg hk] at hz1 ⊢
        simp only [Sem.run_bind, run_zeroValue hz s, Result.andThen_ok, Sem.run_pure, Result.ok.injEq, and_true] at hz1 ⊢
        subst hz1
        simp only [hcell, hf, newRow, Sem.run_bind, run_newObj, Sem.run_pure, Result.andThen_ok, conc, hs']
    · simp only [ORel]
  · rename_i t r ho
    rw [ho] at hO
    split at e
    · simp only [Option.some.injEq, Prod.mk.injEq] at e
      obtain ⟨rfl, rfl⟩ := e
      refine ⟨.map #[] 0, ?_, by simp [ORel, concE]⟩
      rw [ho]
      simp [Instr.makeMap, conc, hs']
    · rename_i x
      split at e <;> try cases e
      rename_i k1 k2 k3 k4 hu hx
      have hx' := hO x (by simp [Op.operands]) _ hx
      refine ⟨.map #[] 0, ?_, by simp [ORel, concE]⟩
      rw [ho]
      simp [Instr.makeMap, conc, hs', hx', run_underlying hu, asInt, asIntOf]
  · cases e
theorem evA_ws {P : Program} {T : Tr AV} {n : Nat} {o : Oper} {ob : AObj} {v : AV} (e : evA P T n o.op = some (ob, v)) {m : Nat} (hnm : n < m)
    (hW : ∀ x ∈ o.op.operands, ∀ u, evO T x = some u → ws m u = true) : wsO m ob = true ∧ ws m v = true := by
  unfold evA at e
  split at e
  · rename_i elem ho
    split at e <;> try cases e
    rename_i z hz
    exact ⟨ws_cells (zeroOf?_ws hz m), by simp [ws, hnm]⟩
  · rename_i elem x ho
    split at e <;> try cases e
    rename_i u hu
    rw [ho] at hW
    exact ⟨ws_cells (hW x (by simp [Op.operands]) u hu), by simp [ws, hnm]⟩
  · rename_i t l c ho
    split at e <;> try cases e
    split at e <;> try cases e
    rename_i l' c' by_ sz z hwl hwc hb hs hz
    split at e <;> try cases e
    exact ⟨wsL_rep (ws_cells (zeroOf?_ws hz m)) c', by simp [ws, hnm]⟩
  · rename_i t len parts ho
    rw [ho] at hW
    split at e <;> try cases e
    rename_i elem ps hu hps
    split at e <;> try cases e
    rename_i sz z hs hz
    split at e <;> try cases e
    split at e <;> try cases e
    rename_i r hr
    have hmem : ∀ x ∈ parts.toList.map (·.2), x ∈ (Op.buildSlice t len parts).operands := by
      intro x hx; simp only [Op.operands, List.mem_toArray]; exact hx
    exact ⟨fillA_ws _ _ _ _ hr (wsL_rep (ws_cells (zeroOf?_ws hz m)) len) (evParts_ws hps (fun x hx => hW x (hmem x hx))), by simp [ws, hnm]⟩
  · split at e
    · simp only [Option.some.injEq, Prod.mk.injEq] at e
      obtain ⟨rfl, rfl⟩ := e
      exact ⟨rfl, by simp [ws, hnm]⟩
    · split at e <;> try cases e
      exact ⟨rfl, by simp [ws, hnm]⟩
  · cases e

theorem opnd_upd {s : Sg} {T : Tr AV} {a : Act} {o : Op} {n : Nat} {x : Nat × Nat} (hO : Opnd s T a o) (hW : ∀ y ∈ o.operands, ∀ u, evO T y = some u → ws n u = true) : Opnd (upd s n x) T a o := by
  intro y hy u hu
  rw [hO y hy u hu, conc_upd (hW y hy u hu)]
theorem evA_run {P : Program} {T : Tr AV} {n : Nat} {o : Oper} {ob : AObj} {v : AV} (e : evA P T n o.op = some (ob, v)) {s : Sg} {a : Act} (hO : Opnd s T a o.op)
    (hW : ∀ x ∈ o.op.operands, ∀ u, evO T x = some u → ws n u = true) (w : World) :
    ∃ ob', (execOp a.eval o).run P w = .ok (.value (conc (upd s n (w.heap.size, 0)) v)) { w with heap := w.heap.push ob' } ∧
      ORel (upd s n (w.heap.size, 0)) n ob (some ob') ∧ wsO (n + 1) ob = true ∧ ws (n + 1) v = true := by
  obtain ⟨ob', h1, h2⟩ := evA_run2 e (opnd_upd hO hW) w (upd_same _ _ _)
  have := evA_ws (m := n + 1) e (by omega) (fun x hx u hu => ws_mono (by omega) _ (hW x hx u hu))
  exact ⟨ob', h1, h2, this.1, this.2⟩
end Go.Proofs.YtpdgjcejkmkglaaGreat.Ev
