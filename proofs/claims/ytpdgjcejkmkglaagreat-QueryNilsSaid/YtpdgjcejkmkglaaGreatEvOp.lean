/- The small machine: one operation. -/
import Derived.Test.YtpdgjcejkmkglaaGreatEvM
namespace Go.Proofs.YtpdgjcejkmkglaaGreat.Ev
open Go Go.RowKit
set_option linter.unusedVariables false
set_option linter.unusedSimpArgs false

def evBuiltin (P : Program) (b : Builtin) (ts : Array TypeId) (ty : TypeId) (vs : List AV) : Option AV := match b with
  | .len => match vs with
    | [u] => match nth ts.toList 0 with
      | some t => match P.underlying t with
        | some (.slice _) => match u with
          | .slice _ _ n _ _ => some (.int .i64 (n : Int))
          | .nils => some (.int .i64 0)
          | .rawS _ n _ => some (.int .i64 (n : Int))
          | _ => none
        | some .string => match u with
          | .str x => some (.int .i64 (x.size : Int))
          | _ => none
        | some (.array n _) => some (.int .i64 (n : Int))
        | _ => none
      | none => none
    | _ => none
  | .max => match scalL vs with
    | some xs => match still P 4000 (Builtin.max_ ts ty xs.toArray) with
      | some r => back r
      | none => none
    | none => none
  | .min => match scalL vs with
    | some xs => match still P 4000 (Builtin.min_ ts ty xs.toArray) with
      | some r => back r
      | none => none
    | none => none
  | _ => none

def evPure (P : Program) (T : Tr AV) (o : Oper) : Option AV := match o.op with
  | .move x => evO T x
  | .pick c a b => match evO T c with
    | some (.bool true) => evO T a
    | some (.bool false) => evO T b
    | _ => none
  | .nilCheck x => match evO T x with
    | some (.ptr b off) => some (.ptr b off)
    | some (.func f a c) => some (.func f a c)
    | _ => none
  | .binOp op t x y _ => match evO T x, evO T y with
    | some u, some v => evBin P op t x y u v
    | _, _ => none
  | .unOp op _ x => match evO T x with
    | some u => match scal u with
      | some a => match still P 100 (Op.unary op a) with
        | some r => back r
        | none => none
      | none => none
    | none => none
  | .convert src dst x => match evO T x with
    | some u => match scal u with
      | some a => match still P 4000 (convert src dst a) with
        | some r => back r
        | none => none
      | none => none
    | none => none
  | .extract t i => match evO T t with
    | some (.tup l) => nth l i
    | _ => none
  | .field t x f => match evO T x with
    | some u => evField P t u f
    | none => none
  | .fieldAddr t x f => match evO T x with
    | some u => evFieldAt P t u f
    | none => none
  | .indexAddr t x i => match evO T x, evO T i with
    | some u, some v => evIndexAt P t u v
    | _, _ => none
  | .index t x i => match evO T x, evO T i with
    | some u, some v => match scal u, scal v with
      | some a, some b => match still P 4000 (Instr.index t a b) with
        | some r => back r
        | none => none
      | _, _ => none
    | _, _ => none
  | .makeFunc fn first cap => match fn with
    | .func f => match evOL T first.toList, evOL T cap.toList with
      | some a, some c => some (.func f a c)
      | _, _ => none
    | _ => none
  | .build t parts => match evParts T parts.toList with
    | some ps => evBuild P t ps
    | none => none
  | .call c => match c.callee with
    | .builtin b => match evOL T c.args.toList with
      | some vs => evBuiltin P b c.argTypes o.type vs
      | none => none
    | _ => none
  | _ => none

theorem evBuiltin_run {P : Program} {b : Builtin} {ts : Array TypeId} {ty : TypeId} {cs : Array Bool} {vs : List AV} {v : AV} (e : evBuiltin P b ts ty vs = some v) (s : Sg) (w : World) :
    (builtin b ts ty cs (concL s vs).toArray).run P w = .ok (.value (conc s v)) w := by
  unfold evBuiltin at e
  split at e
  · split at e <;> try cases e
    rename_i u
    split at e <;> try cases e
    rename_i t ht
    have ht : ts[0]? = some t := by rw [nth_eq] at ht; simpa using ht
    split at e
    · rename_i hu
      split at e <;> try cases e
      · simp [builtin, Builtin.len_, ht, concL, run_underlying hu, conc, goInt]
      · simp [builtin, Builtin.len_, ht, concL, run_underlying hu, conc, goInt]
      · simp [builtin, Builtin.len_, ht, concL, run_underlying hu, conc, goInt]
    · rename_i hu
      split at e <;> try cases e
      simp [builtin, Builtin.len_, ht, concL, run_underlying hu, conc, goInt]
    · rename_i hu
      cases e
      simp [builtin, Builtin.len_, ht, concL, run_underlying hu, conc, goInt]
    · cases e
  · split at e <;> try cases e
    rename_i xs hx
    split at e <;> try cases e
    rename_i r hr
    simp [builtin, scalL_conc hx, still_run hr, back_conc e]
  · split at e <;> try cases e
    rename_i xs hx
    split at e <;> try cases e
    rename_i r hr
    simp [builtin, scalL_conc hx, still_run hr, back_conc e]
  · cases e

theorem run_builtin {P : Program} {o : Oper} {c : Call} {b : Builtin} {a : Act} {w : World} (ho : o.op = .call c) (hc : c.callee = .builtin b) :
    (execOp a.eval o).run P w = (builtin b c.argTypes o.type (c.args.map fun | .const _ => true | _ => false) (c.args.map a.eval)).run P w := by
  unfold execOp
  rw [ho]
  simp only [resolve, hc, Sem.run_bind, Sem.run_pure, Result.andThen_ok, invoke]
  rfl
theorem args_conc {s : Sg} {T : Tr AV} {a : Act} {o : Op} {l : Array Operand} {vs : List AV} (h : evOL T l.toList = some vs) (hO : Opnd s T a o) (hm : ∀ x ∈ l.toList, x ∈ o.operands) :
    l.map a.eval = (concL s vs).toArray := by
  apply Array.toList_inj.1
  have := evOL_conc h (fun x hx => hO x (hm x hx))
  simpa using this

theorem evPure_run {P : Program} {T : Tr AV} {o : Oper} {v : AV} (e : evPure P T o = some v) {s : Sg} {a : Act} (hO : Opnd s T a o.op) (w : World) :
    (execOp a.eval o).run P w = .ok (.value (conc s v)) w := by
  unfold evPure at e
  split at e <;> rename_i ho
  · rename_i x
    rw [ho] at hO
    simp [execOp, ho, hO x (by simp [Op.operands]) v e]
  · rename_i c x y
    rw [ho] at hO
    split at e
    · rename_i hc
      have h1 := hO c (by simp [Op.operands]) _ hc
      simp [execOp, ho, h1, conc, asBool, hO x (by simp [Op.operands]) v e]
    · rename_i hc
      have h1 := hO c (by simp [Op.operands]) _ hc
      simp [execOp, ho, h1, conc, asBool, hO y (by simp [Op.operands]) v e]
    · cases e
  · rename_i x
    rw [ho] at hO
    split at e <;> try cases e
    · rename_i hx
      simp [execOp, ho, hO x (by simp [Op.operands]) _ hx, conc]
    · rename_i hx
      simp [execOp, ho, hO x (by simp [Op.operands]) _ hx, conc]
  · rename_i op t x y yt
    rw [ho] at hO
    split at e <;> try cases e
    rename_i u u' hx hy
    have h1 := hO x (by simp [Op.operands]) _ hx
    have h2 := hO y (by simp [Op.operands]) _ hy
    have := evBin_run e s w
    simp only [execOp, ho, h1, h2]
    rw [Sem.run_bind, this]; rfl
  · rename_i op t x
    rw [ho] at hO
    split at e <;> try cases e
    rename_i u hx
    split at e <;> try cases e
    rename_i q hq
    split at e <;> try cases e
    rename_i r hr
    simp [execOp, ho, hO x (by simp [Op.operands]) _ hx, scal_conc hq, still_run hr, back_conc e]
  · rename_i src dst x
    rw [ho] at hO
    split at e <;> try cases e
    rename_i u hx
    split at e <;> try cases e
    rename_i q hq
    split at e <;> try cases e
    rename_i r hr
    simp [execOp, ho, hO x (by simp [Op.operands]) _ hx, scal_conc hq, still_run hr, back_conc e]
  · rename_i t i
    rw [ho] at hO
    split at e <;> try cases e
    rename_i l hx
    rw [nth_eq] at e
    simp [execOp, ho, hO t (by simp [Op.operands]) _ hx, conc, Instr.extract, concL_get, e]
  · rename_i t x f
    rw [ho] at hO
    split at e <;> try cases e
    rename_i u hx
    simp [execOp, ho, hO x (by simp [Op.operands]) _ hx, evField_run e]
  · rename_i t x f
    rw [ho] at hO
    split at e <;> try cases e
    rename_i u hx
    simp [execOp, ho, hO x (by simp [Op.operands]) _ hx, evFieldAt_run e]
  · rename_i t x i
    rw [ho] at hO
    split at e <;> try cases e
    rename_i u u' hx hi
    simp [execOp, ho, hO x (by simp [Op.operands]) _ hx, hO i (by simp [Op.operands]) _ hi, evIndexAt_run e]
  · rename_i t x i
    rw [ho] at hO
    split at e <;> try cases e
    rename_i u u' hx hi
    split at e <;> try cases e
    rename_i q q' hq hq'
    split at e <;> try cases e
    rename_i r hr
    simp [execOp, ho, hO x (by simp [Op.operands]) _ hx, hO i (by simp [Op.operands]) _ hi, scal_conc hq, scal_conc hq', still_run hr, back_conc e]
  · rename_i fn first cap
    rw [ho] at hO
    split at e <;> try cases e
    split at e <;> try cases e
    rename_i f x y hx hy
    have h1 := args_conc hx hO (by intro z hz; simp only [Op.operands]; exact Array.mem_append.2 (.inl (Array.mem_toList_iff.1 hz)))
    have h2 := args_conc hy hO (by intro z hz; simp only [Op.operands]; exact Array.mem_append.2 (.inr (Array.mem_toList_iff.1 hz)))
    simp [execOp, ho, Instr.makeFunc, h1, h2, conc]
  · rename_i t parts
    rw [ho] at hO
    split at e <;> try cases e
    rename_i ps hps
    have := evParts_conc hps (fun x hx => hO x (by simp only [Op.operands, List.mem_toArray]; exact hx))
    simp [execOp, ho, evBuild_run e s w (parts.map fun x => (x.1, a.eval x.2)) (by simpa using this)]
  · rename_i c
    split at e <;> try cases e
    rename_i b hb
    split at e <;> try cases e
    rename_i vs hv
    rw [ho] at hO
    have h1 := args_conc hv hO (by intro z hz; simp only [Op.operands, Call.operands, hb]; simpa using hz)
    rw [run_builtin ho hb, h1, evBuiltin_run e]
  · cases e

/-- Operations that look at memory. -/
def evRead (P : Program) (T : Tr AV) (h : Hp) (o : Oper) : Option AV := match o.op with
  | .load t x => match evO T x with
    | some u => evLoad P h t u
    | none => none
  | .slice t x lo hi mx => match evO T x with
    | some u => evSlice P h T t u lo hi mx
    | none => none
  | .lookup t x i ok => match evO T x, evO T i with
    | some u, some k => evLookup P h t u k ok
    | _, _ => none
  | .call c => match c.callee with
    | .builtin .len => match evOL T c.args.toList with
      | some [.map m] => match h.tr.get m, nth c.argTypes.toList 0 with
        | some (.map es _), some t => match P.underlying t with
          | some (.map _ _) => some (.int .i64 (es.length : Int))
          | _ => none
        | _, _ => none
      | _ => evPure P T o
    | _ => evPure P T o
  | _ => evPure P T o
theorem evRead_run {P : Program} {T : Tr AV} {h : Hp} {o : Oper} {v : AV} (e : evRead P T h o = some v) {s : Sg} {a : Act} (hO : Opnd s T a o.op) {w : World} (H : HRel s h w) :
    (execOp a.eval o).run P w = .ok (.value (conc s v)) w := by
  unfold evRead at e
  split at e <;> try (rename_i ho)
  · rename_i t x
    rw [ho] at hO
    split at e <;> try cases e
    rename_i u hx
    simp [execOp, ho, hO x (by simp [Op.operands]) _ hx, evLoad_run e H]
  · rename_i t x lo hi mx
    rw [ho] at hO
    split at e <;> try cases e
    rename_i u hx
    have := evSlice_run (a := a) e H (by
      intro y hy
      apply hO y
      simp only [Op.operands]
      rcases hy with rfl | rfl | rfl <;> simp)
    simp [execOp, ho, hO x (by simp [Op.operands]) _ hx, this]
  · rename_i t x i ok
    rw [ho] at hO
    split at e <;> try cases e
    rename_i u k hx hi
    simp [execOp, ho, hO x (by simp [Op.operands]) _ hx, hO i (by simp [Op.operands]) _ hi, evLookup_run e H]
  · rename_i c
    split at e
    · rename_i hb
      split at e
      · rename_i m hv
        rw [ho] at hO
        have h1 := args_conc hv hO (by intro z hz; simp only [Op.operands, Call.operands, hb]; simpa using hz)
        rw [run_builtin ho hb, h1]
        split at e <;> try cases e
        rename_i es cl t hm ht
        have ht : c.argTypes[0]? = some t := by rw [nth_eq] at ht; simpa using ht
        split at e <;> try cases e
        rename_i hu
        have hob := H.obj m _ hm
        simp only [ORel] at hob
        simp [builtin, Builtin.len_, ht, run_underlying hu, concL, conc, getObj, Sem.run, hob, concE, goInt]
      · exact evPure_run e hO w
    · exact evPure_run e hO w
  · exact evPure_run e hO w

/-- Operations that write. -/
def evWr (P : Program) (T : Tr AV) (h : Hp) (o : Oper) : Option (AV × Hp) := match o.op with
  | .assign x => match evO T x with
    | some v => some (v, h)
    | none => none
  | .store t x y => match evO T x, evO T y with
    | some u, some v => match evStore P h t u v with
      | some h' => some (.tup [], h')
      | none => none
    | _, _ => none
  | .mapUpdate t m k x => match evO T m, evO T k, evO T x with
    | some m, some k, some v => match evUpdate P h t m k v with
      | some h' => some (.tup [], h')
      | none => none
    | _, _, _ => none
  | .insert t m k x => match evO T m, evO T k, evO T x with
    | some m, some k, some v => match evUpdate P h t m k v with
      | some h' => some (.tup [], h')
      | none => none
    | _, _, _ => none
  | .call c => match c.callee with
    | .builtin b => match evOL T c.args.toList with
      | some [u, x] => match b with
        | .append => evAppend P h c.argTypes u x
        | .copy => evCopy P h c.argTypes u x
        | .delete => match evDelete P h c.argTypes u x with
          | some h' => some (.tup [], h')
          | none => none
        | _ => none
      | _ => none
    | _ => none
  | _ => none

/-- What a step gives: a value, or nothing. -/
def Gives (v : Value) (n : Next) : Prop := n = .value v ∨ (n = .skip ∧ v = undef)

theorem evO_ws {T : Tr AV} {n : Nat} (hT : ∀ t v, T.get t = some v → ws n v = true) {x : Operand} {u : AV} (h : evO T x = some u) : ws n u = true := by
  cases x with
  | tmp t => exact hT t u h
  | const v => exact back_ws h n
  | func f => simp [evO] at h; subst h; rfl
  | global g => simp [evO] at h
theorem evOL_ws {T : Tr AV} {n : Nat} (hT : ∀ t v, T.get t = some v → ws n v = true) : ∀ {l : List Operand} {vs : List AV}, evOL T l = some vs → wsL n vs = true
  | [], vs, h => by simp [evOL] at h; subst h; rfl
  | x :: l, vs, h => by
    simp only [evOL] at h
    cases hv : evO T x <;> simp only [hv] at h
    · cases h
    cases hl : evOL T l <;> simp only [hl] at h
    · cases h
    simp at h; subst h
    simp [wsL, evO_ws hT hv, evOL_ws hT hl]

theorem evWr_run {P : Program} {T : Tr AV} {h h' : Hp} {o : Oper} {v : AV} (e : evWr P T h o = some (v, h')) {s : Sg} {a : Act} (hO : Opnd s T a o.op) (hT : ∀ t v, T.get t = some v → ws h.next v = true)
    {w : World} (H : HRel s h w) :
    ∃ n s' w', (execOp a.eval o).run P w = .ok n w' ∧ Gives (conc s' v) n ∧ HRel s' h' w' ∧ Ext s h w s' h' w' := by
  unfold evWr at e
  split at e <;> try (rename_i ho)
  · rename_i x
    rw [ho] at hO
    split at e <;> try cases e
    rename_i hx
    exact ⟨_, s, w, by simp only [execOp, ho, hO x (by simp [Op.operands]) _ hx]; rfl, .inl rfl, H, Ext.refl _ _ _⟩
  · rename_i t x y
    rw [ho] at hO
    split at e <;> try cases e
    rename_i u u' hx hy
    split at e <;> try cases e
    rename_i hst
    obtain ⟨w', hr, hH, hE⟩ := evStore_run (P := P) hst H (evO_ws hT hy)
    exact ⟨.skip, s, w', by simp [execOp, ho, hO x (by simp [Op.operands]) _ hx, hO y (by simp [Op.operands]) _ hy, hr], .inr ⟨rfl, rfl⟩, hH, hE⟩
  · rename_i t m k x
    rw [ho] at hO
    split at e <;> try cases e
    rename_i m' k' v' hm hk hx
    split at e <;> try cases e
    rename_i hst
    obtain ⟨w', hr, hH, hE⟩ := evUpdate_run (P := P) hst H (evO_ws hT hk) (evO_ws hT hx)
    exact ⟨.skip, s, w', by simp [execOp, ho, hO m (by simp [Op.operands]) _ hm, hO k (by simp [Op.operands]) _ hk, hO x (by simp [Op.operands]) _ hx, hr], .inr ⟨rfl, rfl⟩, hH, hE⟩
  · rename_i t m k x
    rw [ho] at hO
    split at e <;> try cases e
    rename_i m' k' v' hm hk hx
    split at e <;> try cases e
    rename_i hst
    obtain ⟨w', hr, hH, hE⟩ := evUpdate_run (P := P) hst H (evO_ws hT hk) (evO_ws hT hx)
    exact ⟨.skip, s, w', by simp [execOp, ho, hO m (by simp [Op.operands]) _ hm, hO k (by simp [Op.operands]) _ hk, hO x (by simp [Op.operands]) _ hx, hr], .inr ⟨rfl, rfl⟩, hH, hE⟩
  · rename_i c
    split at e <;> try cases e
    rename_i b hb
    rw [ho] at hO
    split at e
    · rename_i u x hv
      have h1 := args_conc hv hO (by intro z hz; simp only [Op.operands, Call.operands, hb]; simpa using hz)
      have hws := evOL_ws hT hv
      have hwu : ws h.next u = true := (wsL_iff _ _).1 hws u (by simp)
      rw [run_builtin ho hb, h1]
      simp only [concL]
      split at e
      · obtain ⟨s', w', hr, hH, hE, _⟩ := evAppend_run (ty := o.type) e H hwu
        exact ⟨_, s', w', by simp only [builtin, Sem.run_bind, hr, Result.andThen_ok, Sem.run_pure], .inl rfl, hH, hE⟩
      · obtain ⟨w', hr, hH, hE, _⟩ := evCopy_run (ty := o.type) e H
        exact ⟨_, s, w', by simp only [builtin, Sem.run_bind, hr, Result.andThen_ok, Sem.run_pure], .inl rfl, hH, hE⟩
      · split at e <;> try cases e
        rename_i hd
        obtain ⟨w', hr, hH, hE⟩ := evDelete_run (P := P) (ty := o.type) hd H
        exact ⟨.value (.tuple #[]), s, w', by simp only [builtin, Sem.run_bind, hr, Result.andThen_ok, Sem.run_pure], .inl rfl, hH, hE⟩
      · cases e
    · cases e
  · cases e

/-- A call: whom, and with what. -/
def evWhom (T : Tr AV) (o : Oper) : Option (FuncId × List AV) := match o.op with
  | .call c => match c.callee with
    | .value f => match evO T f, evOL T c.args.toList with
      | some (.func g a cap), some vs => some (g, a ++ (vs ++ cap))
      | _, _ => none
    | _ => none
  | _ => none
theorem evWhom_run {P : Program} {T : Tr AV} {o : Oper} {f : FuncId} {vs : List AV} (e : evWhom T o = some (f, vs)) {s : Sg} {a : Act} (hO : Opnd s T a o.op) {fn : Func} (hf : P.funcs[f]? = some fn)
    (hn : (fn.name == "runtime.NumGoroutine") = false) {c : Code} (hb : fn.body = some c) (w : World) :
    (execOp a.eval o).run P w = .ok (.enter f (concL s vs).toArray) w := by
  unfold evWhom at e
  split at e <;> try cases e
  rename_i cl ho
  rw [ho] at hO
  split at e <;> try cases e
  rename_i fo hc
  split at e <;> try cases e
  rename_i fa cap xs hxs hfo
  have h1 := hO fo (by simp [Op.operands, Call.operands, hc]) _ hfo
  have h2 := args_conc hxs hO (by intro z hz; simp only [Op.operands, Call.operands, hc]; exact Array.mem_append.2 (.inr (Array.mem_toList_iff.1 hz)))
  simp only [execOp, ho, resolve, hc, h1, h2, conc, Deferred.ofValue, Sem.run_bind, Sem.run_pure, Result.andThen_ok, invoke, callFunc, run_program, hf, hn, hb]
  simp [concL_append]
theorem evWhom_ws {T : Tr AV} {o : Oper} {f : FuncId} {vs : List AV} {n : Nat} (e : evWhom T o = some (f, vs)) (hT : ∀ t v, T.get t = some v → ws n v = true) : wsL n vs = true := by
  unfold evWhom at e
  split at e <;> try cases e
  split at e <;> try cases e
  split at e <;> try cases e
  rename_i fa cap xs hxs hfo
  have := evO_ws hT hfo
  simp only [ws] at this
  cases h1 : wsL n fa <;> simp only [h1] at this
  · cases this
  exact wsL_append h1 (wsL_append (evOL_ws hT hxs) this)
end Go.Proofs.YtpdgjcejkmkglaaGreat.Ev
