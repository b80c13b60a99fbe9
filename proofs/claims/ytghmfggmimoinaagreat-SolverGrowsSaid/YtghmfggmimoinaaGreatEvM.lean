/- The small machine: copy and maps. -/
import Derived.Test.YtghmfggmimoinaaGreatEvW
namespace Go.Proofs.YtghmfggmimoinaaGreat.Ev
open Go Go.RowKit
def Za99 (P : Program) (h : Hp) (ts : Array TypeId) (d x : AV) : Option (AV × Hp) := match nth ts.toList 0 with
 | some t0 => match P.underlying t0 with
  | some (.slice elem) => match Zbz P elem with
   | some sz => match x with
    | .nils => match d with
     | .nils => some (.int .i64 0, h)
     | .slice b _ _ _ _ => match h.tr.get b with
      | some (.cells _ _ _) => some (.int .i64 0, h)
      | _ => none
     | _ => none
    | .slice b off m u c => match d with
     | .slice b2 off2 dLen _ _ => match Zmc h sz (.slice b off (Nat.min m dLen) u c) with
      | some (n, l) => match Zqq h b2 off2 l with
       | some h' => some (.int .i64 (n : Int), h')
       | none => none
      | none => none
     | _ => none
    | _ => none
   | none => none
  | _ => none
 | none => none
theorem Za6m {P : Program} {h h' : Hp} {ts : Array TypeId} {ty : TypeId} {d x v : AV} (e : Za99 P h ts d x = some (v, h')) {s : Sg} {w : World} (H : HRel s h w) :
  ∃ w', (Builtin.copy_ ts ty #[conc s d, conc s x]).run P w = .ok (conc s v) w' ∧ HRel s h' w' ∧ Ext s h w s h' w' ∧ ws h'.next v = true := by
 unfold Za99 at e
 split at e <;> try cases e
 rename_i t0 ht0
 have ht0 : ts[0]? = some t0 := by rw [Zcg] at ht0; simpa using ht0
 split at e <;> try cases e
 rename_i elem hu
 split at e <;> try cases e
 rename_i sz hs
 split at e
 ·split at e
  ·obtain ⟨rfl, rfl⟩ := e
   refine ⟨w, ?_, H, Ext.refl _ _ _, rfl⟩
   simp [Builtin.copy_, ht0, run_underlying hu, conc, Builtin.lenOf, run_sizeOf hs, Builtin.firstCells, goInt]
  ·split at e <;> try cases e
   refine ⟨w, ?_, H, Ext.refl _ _ _, rfl⟩
   simp [Builtin.copy_, ht0, run_underlying hu, conc, Builtin.lenOf, run_sizeOf hs, Builtin.firstCells, goInt, storeCells]
  ·cases e
 ·rename_i b off m u c
  split at e <;> try cases e
  rename_i b2 off2 dLen u2 c2
  split at e <;> try cases e
  rename_i n l hsrc
  split at e <;> try cases e
  rename_i hw
  obtain ⟨h1, h2, h3, h4⟩ := Zi4 (P := P) hsrc H
  have hn : n = Nat.min m dLen := by
   simp only [conc, Builtin.lenOf, Sem.run_pure, Result.ok.injEq, and_true] at h1; exact h1.symm
  subst hn
  obtain ⟨w', hr, hH, hE⟩ := Zn0 (P := P) hw H h3
  refine ⟨w', ?_, hH, hE, rfl⟩
  have h2' : (Builtin.firstCells sz (Nat.min m dLen) (conc s (.slice b off m u c))).run P w = .ok (concL s l).toArray w := h2
  have hlen : (Builtin.lenOf (conc s (.slice b off m u c))).run P w = .ok m w := rfl
  have hd : conc s (.slice b2 off2 dLen u2 c2) = .slice (some ⟨(s b2).1, off2, none⟩) dLen (match u2 with | true => (s b2).2 - c2 | false => c2) := rfl
  simp only [Builtin.copy_, ht0, List.getElem?_toArray, List.getElem?_cons_zero, List.getElem?_cons_succ, Sem.run_bind, run_underlying hu, Result.andThen_ok, hd, hlen, run_sizeOf hs, h2', hr, Sem.run_pure]
  simp [conc, goInt]
 ·cases e
def findA (d : TypeDesc) (k : Value) : List (AV × AV × Nat) → Nat → Option (Option (Nat × AV))
 | [], _ => some none
 | e :: es, i => match scal e.1 with
  | some x => match Instr.sameNow d k x with
   | some true => some (some (i, e.2.1))
   | some false => findA d k es (i + 1)
   | none => none
  | none => none
theorem Za24 {d : TypeDesc} {k : Value} (s : Sg) : ∀ {es : List (AV × AV × Nat)} {i : Nat} {r : Option (Nat × AV)}, findA d k es i = some r →
  Instr.findNow d k (concE s es) i = some (r.map fun p => (p.1, conc s p.2))
 | [], i, r, h => by simp [findA] at h; subst h; rfl
 | e :: es, i, r, h => by
  simp only [findA] at h
  split at h <;> try cases h
  rename_i x hx
  simp only [concE, List.map_cons, Instr.findNow, Zet hx]
  split at h
  ·rename_i q; simp at h; subst h; simp [q]
  ·rename_i q; simp_all; exact Za24 s h
  ·cases h
def findB (P : Program) (kt : TypeId) (k : Value) : List (AV × AV × Nat) → Nat → Option (Option (Nat × AV))
 | [], _ => some none
 | e :: es, i => match scal e.1 with
  | some x => match still P 4000 (Op.equal kt k x) with
   | some true => some (some (i, e.2.1))
   | some false => findB P kt k es (i + 1)
   | none => none
  | none => none
theorem Za23 {P : Program} {kt : TypeId} {k : Value} (s : Sg) (w : World) : ∀ {es : List (AV × AV × Nat)} {i : Nat} {r : Option (Nat × AV)}, findB P kt k es i = some r →
  (Instr.findAsking kt k (concE s es) i).run P w = .ok (r.map fun p => (p.1, conc s p.2)) w
 | [], i, r, h => by simp [findB] at h; subst h; rfl
 | e :: es, i, r, h => by
  simp only [findB] at h
  split at h <;> try cases h
  rename_i x hx
  simp only [concE, List.map_cons, Instr.findAsking, Zet hx]
  split at h
  ·rename_i q; simp at h; subst h; simp [Ze1 q]
  ·rename_i q; simp only [Sem.run_bind, Ze1 q, Result.andThen_ok]; exact Za23 s w h
  ·cases h
def Zyz (P : Program) (kt : TypeId) (k : Value) (es : List (AV × AV × Nat)) : Option (Option (Nat × AV)) := match P.underlying kt with
 | some d => match findA d k es 0 with
  | some r => some r
  | none => match es with
   | e :: _ => match scal e.1 with
    | some x => match Instr.sameNow d k x with
     | none => findB P kt k es 0
     | some _ => none
    | none => none
   | [] => none
 | none => none
theorem Zuc {P : Program} {kt : TypeId} {k : Value} {es : List (AV × AV × Nat)} {r : Option (Nat × AV)} (e : Zyz P kt k es = some r) (s : Sg) (w : World) :
  (Instr.findKey kt k (concE s es)).run P w = .ok (r.map fun p => (p.1, conc s p.2)) w := by
 unfold Zyz at e
 split at e <;> try cases e
 rename_i d hu
 split at e
 ·rename_i q hq
  simp at e; subst e
  simp [Instr.findKey, run_underlying hu, Za24 s hq]
 ·split at e <;> try cases e
  rename_i e0 es0 hfa
  split at e <;> try cases e
  rename_i x hx
  split at e <;> try cases e
  rename_i hn
  have h0 : Instr.findNow d k (concE s (e0 :: es0)) 0 = none := by simp [concE, Instr.findNow, Zet hx, hn]
  have := Za23 s w e
  simp only [Instr.findKey, Sem.run_bind, run_underlying hu, Result.andThen_ok, h0]
  exact this
def entriesOf (h : Hp) : AV → Option (List (AV × AV × Nat))
 | .nilm => some []
 | .map b => match h.tr.get b with
  | some (.map es _) => some es
  | _ => none
 | _ => none
def isEmp {α : Type} : List α → Bool | [] => true | _ => false
def Za0b (P : Program) (h : Hp) (t : TypeId) (u k : AV) (ok : Bool) : Option AV := match P.underlying t, entriesOf h u, scal k with
 | some (.map kt et), some es, some kv => match still P 4000 (Instr.checkKey (isEmp es) 10000 kt kv), Zyz P kt kv es with
  | some _, some r => match r with
   | some (_, v) => some (match ok with | true => .tup [v, .bool true] | false => v)
   | none => match Ze3 P et with
    | some z => some (match ok with | true => .tup [z, .bool false] | false => z)
    | none => none
  | _, _ => none
 | _, _, _ => none
theorem Zu8 (s : Sg) (es : List (AV × AV × Nat)) : (concE s es).toArray.isEmpty = isEmp es := by cases es <;> simp [concE, isEmp]
theorem Za2c {P : Program} {h : Hp} {t : TypeId} {u k v : AV} {ok : Bool} (e : Za0b P h t u k ok = some v) {s : Sg} {w : World} (H : HRel s h w) :
  (Instr.lookup t (conc s u) (conc s k) ok).run P w = .ok (conc s v) w := by
 unfold Za0b at e
 split at e <;> try cases e
 rename_i kt et es kv hu he hk
 split at e <;> try cases e
 rename_i un r hck hf
 have hes : (match conc s u with
  | .map none => pure #[]
  | .map (some r) => do
   let .map es _ ← getObj r | stuck "Lookup: map expected"
   pure es
  | _ => stuck "Lookup: map expected" : Sem (Array MapEntry)).run P w = .ok (concE s es).toArray w := by
  unfold entriesOf at he
  split at he
  ·simp at he; subst he; rfl
  ·rename_i b
   split at he <;> try cases he
   rename_i c hb
   have := H.obj b _ hb
   simp only [ORel] at this
   simp [conc, getObj, Sem.run, this]
  ·cases he
 have hck' : (Instr.checkKey (isEmp es) 10000 kt kv).run P w = .ok un w := Ze1 hck w
 have hf' := Zuc hf s w
 have key : ∀ (x : Value) (b : Bool), (match r with | some (_, v) => (conc s v, true) | none => (x, false)).1 = (match r with | some (_, v) => conc s v | none => x) := by intro x b; cases r <;> rfl
 simp only [Instr.lookup, Sem.run_bind, run_underlying hu, Result.andThen_ok, Zet hk] at hes ⊢
 cases u with
 | nilm =>
  have hE : es = [] := by simpa [entriesOf] using he.symm
  subst hE
  have hr : r = none := by
   unfold Zyz at hf
   cases hd : P.underlying kt with
   | none => simp [hd] at hf
   | some d => simp [hd, findA] at hf; exact hf.symm
  subst hr
  simp only [conc, Sem.run_bind, Sem.run_pure, Result.andThen_ok]
  have h1 : (Instr.checkKey (#[] : Array MapEntry).isEmpty 10000 kt kv).run P w = .ok un w := hck'
  have h2 : (Instr.findKey kt kv (#[] : Array MapEntry).toList).run P w = .ok none w := hf'
  simp only [h1, h2, Result.andThen_ok]
  simp only [] at e
  cases hz : Ze3 P et <;> simp only [hz] at e
  ·cases e
  simp only [Option.some.injEq] at e; subst e
  cases ok <;> simp [Zbe hz s, conc, concL]
 | map b =>
  unfold entriesOf at he
  simp only [] at he
  split at he <;> try cases he
  rename_i c hb
  have ho := H.obj b _ hb
  simp only [ORel] at ho
  have hg : (getObj (s b).1).run P w = .ok (.map (concE s es).toArray c) w := by simp [getObj, Sem.run, ho]
  have h1 : (Instr.checkKey (concE s es).toArray.isEmpty 10000 kt kv).run P w = .ok un w := by rw [Zu8]; exact hck'
  simp only [conc, Sem.run_bind, hg, Result.andThen_ok, Sem.run_pure, h1, hf']
  cases r with
  | some q =>
   simp only [Option.some.injEq] at e; subst e
   cases ok <;> simp [conc, concL]
  | none =>
   simp only [] at e
   cases hz : Ze3 P et <;> simp only [hz] at e
   ·cases e
   simp only [Option.some.injEq] at e; subst e
   cases ok <;> simp [Zbe hz s, conc, concL]
 | _ => simp [entriesOf] at he
def modE : List (AV × AV × Nat) → Nat → AV → AV → List (AV × AV × Nat)
 | [], _, _, _ => []
 | e :: es, n, k, v => match n with
  | 0 => (k, v, e.2.2) :: es
  | n + 1 => e :: modE es n k v
theorem Za1e (s : Sg) (k v : AV) : ∀ (es : List (AV × AV × Nat)) (i : Nat), concE s (modE es i k v) = (concE s es).modify i (fun e => { e with key := conc s k, val := conc s v })
 | [], i => by cases i <;> rfl
 | e :: es, 0 => by simp [modE, concE]
 | e :: es, i + 1 => by
  have := Za1e s k v es i
  simp only [concE] at this
  simp [modE, concE, this]
theorem Za7r {n : Nat} {k v : AV} (hk : ws n k = true) (hv : ws n v = true) : ∀ {es : List (AV × AV × Nat)} {i : Nat}, wsE n es = true → wsE n (modE es i k v) = true
 | [], i, h => by cases i <;> exact h
 | e :: es, 0, h => by
  simp only [Zr5] at h ⊢
  intro x hx
  rcases List.mem_cons.1 hx with rfl | hx
  ·exact ⟨hk, hv⟩
  grind
 | e :: es, i + 1, h => by
  simp only [Zr5] at h
  have := Za7r hk hv (i := i) ((Zr5 n es).2 (fun x hx => h x (List.mem_cons_of_mem _ hx)))
  simp only [Zr5] at this ⊢
  intro x hx
  rcases List.mem_cons.1 hx with rfl | hx
  ·exact h _ (by simp)
  ·exact this x hx
def Zvp (P : Program) (h : Hp) (t : TypeId) (m k v : AV) : Option Hp := match m with
 | .map b => match P.underlying t, h.tr.get b, scal k with
  | some (.map kt _), some (.map es c), some kv => match still P 4000 (Instr.checkKey false 10000 kt kv), Zyz P kt kv es with
   | some _, some r => match r with
    | some (i, _) => match nth es i with
     | some e => match scal e.1 with
      | some ok => match still P 4000 (Instr.keyThatStays ok kv) with
       | some kk => match back kk with
        | some kk => match Tr.set FT h.tr b (some (.map (modE es i kk v) c)) with
         | some tr => some ⟨tr, h.next⟩
         | none => none
        | none => none
       | none => none
      | none => none
     | none => none
    | none => match Tr.set FT h.tr b (some (.map (es ++ [(k, v, c)]) (c + 1))) with
     | some tr => some ⟨tr, h.next⟩
     | none => none
   | _, _ => none
  | _, _, _ => none
 | _ => none
theorem Zrr {P : Program} {w : World} {r : Nat} {es : Array MapEntry} {c : Nat} {o : Obj} (h : w.heap[r]? = some (.map es c)) : (setObj r o).run P w = .ok () (setB w r o) := by
 simp [setObj, Sem.run, h, setB]
theorem Zuz {P : Program} {h h' : Hp} {t : TypeId} {m k v : AV} (e : Zvp P h t m k v = some h') {s : Sg} {w : World} (H : HRel s h w) (hk : ws h.next k = true) (hv : ws h.next v = true) :
  ∃ w', (Instr.mapUpdate t (conc s m) (conc s k) (conc s v)).run P w = .ok () w' ∧ HRel s h' w' ∧ Ext s h w s h' w' := by
 unfold Zvp at e
 split at e <;> try cases e
 rename_i b
 split at e <;> try cases e
 rename_i kt et es c kv hu hb hsk
 split at e <;> try cases e
 rename_i un r hck hf
 have hck' := Ze1 hck w
 have hf' := Zuc hf s w
 have ho := H.obj b _ hb
 have hwe := H.wso b _ hb
 simp only [ORel] at ho
 have hg : (getObj (s b).1).run P w = .ok (.map (concE s es).toArray c) w := by simp [getObj, Sem.run, ho]
 cases r with
 | some q =>
  obtain ⟨i, x⟩ := q
  simp only [] at e
  split at e <;> try cases e
  rename_i e0 he0
  split at e <;> try cases e
  rename_i okv hok
  split at e <;> try cases e
  rename_i kk hkk
  split at e <;> try cases e
  rename_i kk' hkk'
  split at e <;> try cases e
  rename_i tr ht
  have hks := Ze1 hkk w
  have hkey : (((concE s es).toArray[i]?).map (·.key)).getD kv = okv := by
   rw [Zcg] at he0
   simp [concE, he0, Zet hok]
  have := H.put (ob := .map ((concE s es).toArray.modify i fun e => { e with key := kk, val := conc s v }) c) hb rfl
   (o' := .map (modE es i kk' v) c) (by simp only [ORel]; rw [Za1e, Zj8 hkk']; simp) (Za7r (Za4a hkk' _) hv hwe) ht
  refine ⟨_, ?_, this.1, this.2⟩
  simp only [Instr.mapUpdate, conc, Sem.run_bind, run_underlying hu, Result.andThen_ok, hg, Zet hsk, hck', hf', Option.map_some, hkey, hks, Zrr ho]
 | none =>
  simp only [] at e
  split at e <;> try cases e
  rename_i tr ht
  have := H.put (ob := .map ((concE s es).toArray.push { key := conc s k, val := conc s v, born := c }) (c + 1)) hb rfl
   (o' := .map (es ++ [(k, v, c)]) (c + 1)) (by simp [ORel, concE]) (by
    simp only [wsO, Zr5] at hwe ⊢
    grind) ht
  refine ⟨_, ?_, this.1, this.2⟩
  simp only [Instr.mapUpdate, conc, Sem.run_bind, run_underlying hu, Result.andThen_ok, hg, Zet hsk, hck', hf', Option.map_none]
  rw [Zrr ho]
def delE : List (AV × AV × Nat) → Nat → List (AV × AV × Nat)
 | [], _ => []
 | e :: es, n => match n with
  | 0 => es
  | n + 1 => e :: delE es n
theorem Za43 : ∀ (es : List (AV × AV × Nat)) (i : Nat), delE es i = es.eraseIdx i
 | [], i => by cases i <;> rfl
 | e :: es, 0 => rfl
 | e :: es, i + 1 => by simp [delE, Za43 es i]
theorem Za1f {α β : Type} (f : α → β) : ∀ (l : List α) (i : Nat), (l.map f).eraseIdx i = (l.eraseIdx i).map f
 | [], i => by simp
 | x :: l, 0 => by simp
 | x :: l, i + 1 => by simp [Za1f f l i]
def Za0c (P : Program) (h : Hp) (ts : Array TypeId) (m k : AV) : Option Hp := match nth ts.toList 0 with
 | some t => match m with
  | .map b => match P.underlying t, h.tr.get b, scal k with
   | some (.map kt _), some (.map es c), some kv => match still P 4000 (Instr.checkKey (isEmp es) 10000 kt kv), Zyz P kt kv es with
    | some _, some r => match r with
     | some (i, _) => match Tr.set FT h.tr b (some (.map (delE es i) c)) with
      | some tr => some ⟨tr, h.next⟩
      | none => none
     | none => match Tr.set FT h.tr b (some (.map es c)) with
      | some tr => some ⟨tr, h.next⟩
      | none => none
    | _, _ => none
   | _, _, _ => none
  | _ => none
 | none => none
theorem Za2e {P : Program} {h h' : Hp} {ts : Array TypeId} {ty : TypeId} {m k : AV} (e : Za0c P h ts m k = some h') {s : Sg} {w : World} (H : HRel s h w) :
  ∃ w', (Builtin.delete_ ts ty #[conc s m, conc s k]).run P w = .ok (.tuple #[]) w' ∧ HRel s h' w' ∧ Ext s h w s h' w' := by
 unfold Za0c at e
 split at e <;> try cases e
 rename_i t ht0
 have ht0 : ts[0]? = some t := by rw [Zcg] at ht0; simpa using ht0
 split at e <;> try cases e
 rename_i b
 split at e <;> try cases e
 rename_i kt et es c kv hu hb hsk
 split at e <;> try cases e
 rename_i un r hck hf
 have hck' := Ze1 hck w
 have hf' := Zuc hf s w
 have ho := H.obj b _ hb
 have hwe := H.wso b _ hb
 simp only [ORel] at ho
 have hg : (getObj (s b).1).run P w = .ok (.map (concE s es).toArray c) w := by simp [getObj, Sem.run, ho]
 cases r with
 | some q =>
  obtain ⟨i, x⟩ := q
  simp only [] at e
  split at e <;> try cases e
  rename_i tr ht
  have := H.put (ob := .map ((concE s es).toArray.eraseIdxIfInBounds i) c) hb rfl (o' := .map (delE es i) c) (by
    simp only [ORel]
    rw [Za43]
    simp only [concE, ← Za1f]
    grind) (by
    simp only [wsO, Zr5, Za43] at hwe ⊢
    exact fun x hx => hwe x (List.mem_of_mem_eraseIdx hx)) ht
  refine ⟨_, ?_, this.1, this.2⟩
  simp only [Builtin.delete_, ht0, List.getElem?_toArray, List.getElem?_cons_zero, List.getElem?_cons_succ, conc, Sem.run_bind, run_underlying hu, Result.andThen_ok, hg, Zet hsk, Zu8, hck', hf', Option.map_some, Zrr ho, Sem.run_pure]
 | none =>
  simp only [] at e
  split at e <;> try cases e
  rename_i tr ht
  have := H.put hb rfl (o' := .map es c) rfl hwe ht
  refine ⟨_, ?_, this.1, this.2⟩
  simp only [Builtin.delete_, ht0, List.getElem?_toArray, List.getElem?_cons_zero, List.getElem?_cons_succ, conc, Sem.run_bind, run_underlying hu, Result.andThen_ok, hg, Zet hsk, Zu8, hck', hf', Option.map_none, Zrr ho, Sem.run_pure]
end Go.Proofs.YtghmfggmimoinaaGreat.Ev
