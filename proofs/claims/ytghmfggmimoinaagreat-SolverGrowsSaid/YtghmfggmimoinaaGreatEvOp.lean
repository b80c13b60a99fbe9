/- The small machine: one operation. -/
import Derived.Test.YtghmfggmimoinaaGreatEvM
namespace Go.Proofs.YtghmfggmimoinaaGreat.Ev
open Go Go.RowKit
def Zjs (P : Program) (b : Builtin) (ts : Array TypeId) (ty : TypeId) (vs : List AV) : Option AV := match b with
 | .len => match vs with
  | [u] => match nth ts.toList 0 with
   | some t => match P.underlying t with
    | some (.slice _) => match u with
     | .slice _ _ n _ _ => some (.int .i64 (n : Int))
     | .nils => some (.int .i64 0)
     | .rawS _ n _ => some (.int .i64 (n : Int))
     | .tailS _ _ _ _ => some (.int .i64 0)
     | _ => none
    | some .string => match u with
     | .str x => some (.int .i64 (x.size : Int))
     | _ => none
    | some (.array n _) => some (.int .i64 (n : Int))
    | _ => none
   | none => none
  | _ => none
 | .max => match scalL vs with
  | some xs => match still P 4000 (Builtin.max_ ts ty xs.toArray) with
   | some r => back r
   | none => none
  | none => none
 | .min => match scalL vs with
  | some xs => match still P 4000 (Builtin.min_ ts ty xs.toArray) with
   | some r => back r
   | none => none
  | none => none
 | _ => none
def Za27 (P : Program) (T : Tr AV) (o : Oper) : Option AV := match o.op with
 | .move x => evO T x
 | .pick c a b => match evO T c with
  | some (.bool true) => evO T a
  | some (.bool false) => evO T b
  | _ => none
 | .nilCheck x => match evO T x with
  | some (.ptr b off) => some (.ptr b off)
  | some (.func f a c) => some (.func f a c)
  | _ => none
 | .binOp op t x y _ => match evO T x, evO T y with
  | some u, some v => evBin P op t x y u v
  | _, _ => none
 | .unOp op _ x => match evO T x with
  | some u => match scal u with
   | some a => match still P 100 (Op.unary op a) with
    | some r => back r
    | none => none
   | none => none
  | none => none
 | .convert src dst x => match evO T x with
  | some u => match scal u with
   | some a => match still P 4000 (convert src dst a) with
    | some r => back r
    | none => none
   | none => none
  | none => none
 | .extract t i => match evO T t with
  | some (.tup l) => nth l i
  | _ => none
 | .field t x f => match evO T x with
  | some u => Zsy P t u f
  | none => none
 | .fieldAddr t x f => match evO T x with
  | some u => Zn1 P t u f
  | none => none
 | .indexAddr t x i => match evO T x, evO T i with
  | some u, some v => Zjr P t u v
  | _, _ => none
 | .index t x i => match evO T x, evO T i with
  | some u, some v => match scal u, scal v with
   | some a, some b => match still P 4000 (Instr.index t a b) with
    | some r => back r
    | none => none
   | _, _ => none
  | _, _ => none
 | .makeFunc fn first cap => match fn with
  | .func f => match evOL T first.toList, evOL T cap.toList with
   | some a, some c => some (.func f a c)
   | _, _ => none
  | _ => none
 | .build t parts => match Zgx T parts.toList with
  | some ps => Zqx P t ps
  | none => none
 | .call c => match c.callee with
  | .builtin b => match evOL T c.args.toList with
   | some vs => Zjs P b c.argTypes o.type vs
   | none => none
  | _ => none
 | _ => none
theorem Zqw {P : Program} {b : Builtin} {ts : Array TypeId} {ty : TypeId} {cs : Array Bool} {vs : List AV} {v : AV} (e : Zjs P b ts ty vs = some v) (s : Sg) (w : World) :
  (builtin b ts ty cs (concL s vs).toArray).run P w = .ok (.value (conc s v)) w := by
 unfold Zjs at e
 split at e
 ·split at e <;> try cases e
  rename_i u
  split at e <;> try cases e
  rename_i t ht
  have ht : ts[0]? = some t := by rw [Zcg] at ht; simpa using ht
  split at e
  ·rename_i hu
   split at e <;> try cases e
   ·simp [builtin, Builtin.len_, ht, concL, run_underlying hu, conc, goInt]
   ·simp [builtin, Builtin.len_, ht, concL, run_underlying hu, conc, goInt]
   ·simp [builtin, Builtin.len_, ht, concL, run_underlying hu, conc, goInt]
   ·simp [builtin, Builtin.len_, ht, concL, run_underlying hu, conc, goInt]
  ·rename_i hu
   split at e <;> try cases e
   simp [builtin, Builtin.len_, ht, concL, run_underlying hu, conc, goInt]
  ·rename_i hu
   cases e
   simp [builtin, Builtin.len_, ht, concL, run_underlying hu, conc, goInt]
  ·cases e
 ·split at e <;> try cases e
  rename_i xs hx
  split at e <;> try cases e
  rename_i r hr
  simp [builtin, Zrq hx, Ze1 hr, Zj8 e]
 ·split at e <;> try cases e
  rename_i xs hx
  split at e <;> try cases e
  rename_i r hr
  simp [builtin, Zrq hx, Ze1 hr, Zj8 e]
 ·cases e
theorem Zic {P : Program} {o : Oper} {c : Call} {b : Builtin} {a : Act} {w : World} (ho : o.op = .call c) (hc : c.callee = .builtin b) :
  (execOp a.eval o).run P w = (builtin b c.argTypes o.type (c.args.map fun | .const _ => true | _ => false) (c.args.map a.eval)).run P w := by
 unfold execOp
 rw [ho]
 simp only [resolve, hc, Sem.run_bind, Sem.run_pure, Result.andThen_ok, invoke]
 rfl
theorem Zpx {s : Sg} {T : Tr AV} {a : Act} {o : Op} {l : Array Operand} {vs : List AV} (h : evOL T l.toList = some vs) (hO : Opnd s T a o) (hm : ∀ x ∈ l.toList, x ∈ o.operands) :
  l.map a.eval = (concL s vs).toArray := by
 apply Array.toList_inj.1
 have := Za29 h (fun x hx => hO x (hm x hx))
 simpa using this
theorem Zub {P : Program} {T : Tr AV} {o : Oper} {v : AV} (e : Za27 P T o = some v) {s : Sg} {a : Act} (hO : Opnd s T a o.op) (w : World) :
  (execOp a.eval o).run P w = .ok (.value (conc s v)) w := by
 unfold Za27 at e
 split at e <;> rename_i ho
 ·rename_i x
  rw [ho] at hO
  simp [execOp, ho, hO x (by simp [Op.operands]) v e]
 ·rename_i c x y
  rw [ho] at hO
  split at e
  ·rename_i hc
   have h1 := hO c (by simp [Op.operands]) _ hc
   simp [execOp, ho, h1, conc, asBool, hO x (by simp [Op.operands]) v e]
  ·rename_i hc
   have h1 := hO c (by simp [Op.operands]) _ hc
   simp [execOp, ho, h1, conc, asBool, hO y (by simp [Op.operands]) v e]
  ·cases e
 ·rename_i x
  rw [ho] at hO
  split at e <;> try cases e
  ·rename_i hx
   simp [execOp, ho, hO x (by simp [Op.operands]) _ hx, conc]
  ·rename_i hx
   simp [execOp, ho, hO x (by simp [Op.operands]) _ hx, conc]
 ·rename_i op t x y yt
  rw [ho] at hO
  split at e <;> try cases e
  rename_i u u' hx hy
  have h1 := hO x (by simp [Op.operands]) _ hx
  have h2 := hO y (by simp [Op.operands]) _ hy
  have := Zx5 e s w
  simp only [execOp, ho, h1, h2]
  rw [Sem.run_bind, this]; rfl
 ·rename_i op t x
  rw [ho] at hO
  split at e <;> try cases e
  rename_i u hx
  split at e <;> try cases e
  rename_i q hq
  split at e <;> try cases e
  rename_i r hr
  simp [execOp, ho, hO x (by simp [Op.operands]) _ hx, Zet hq, Ze1 hr, Zj8 e]
 ·rename_i src dst x
  rw [ho] at hO
  split at e <;> try cases e
  rename_i u hx
  split at e <;> try cases e
  rename_i q hq
  split at e <;> try cases e
  rename_i r hr
  simp [execOp, ho, hO x (by simp [Op.operands]) _ hx, Zet hq, Ze1 hr, Zj8 e]
 ·rename_i t i
  rw [ho] at hO
  split at e <;> try cases e
  rename_i l hx
  rw [Zcg] at e
  simp [execOp, ho, hO t (by simp [Op.operands]) _ hx, conc, Instr.extract, Ztq, e]
 ·rename_i t x f
  rw [ho] at hO
  split at e <;> try cases e
  rename_i u hx
  simp [execOp, ho, hO x (by simp [Op.operands]) _ hx, Zsx e]
 ·rename_i t x f
  rw [ho] at hO
  split at e <;> try cases e
  rename_i u hx
  simp [execOp, ho, hO x (by simp [Op.operands]) _ hx, Zqv e]
 ·rename_i t x i
  rw [ho] at hO
  split at e <;> try cases e
  rename_i u u' hx hi
  simp [execOp, ho, hO x (by simp [Op.operands]) _ hx, hO i (by simp [Op.operands]) _ hi, Zqu e]
 ·rename_i t x i
  rw [ho] at hO
  split at e <;> try cases e
  rename_i u u' hx hi
  split at e <;> try cases e
  rename_i q q' hq hq'
  split at e <;> try cases e
  rename_i r hr
  simp [execOp, ho, hO x (by simp [Op.operands]) _ hx, hO i (by simp [Op.operands]) _ hi, Zet hq, Zet hq', Ze1 hr, Zj8 e]
 ·rename_i fn first cap
  rw [ho] at hO
  split at e <;> try cases e
  split at e <;> try cases e
  rename_i f x y hx hy
  have h1 := Zpx hx hO (by intro z hz; simp only [Op.operands]; exact Array.mem_append.2 (.inl (Array.mem_toList_iff.1 hz)))
  have h2 := Zpx hy hO (by intro z hz; simp only [Op.operands]; exact Array.mem_append.2 (.inr (Array.mem_toList_iff.1 hz)))
  simp [execOp, ho, Instr.makeFunc, h1, h2, conc]
 ·rename_i t parts
  rw [ho] at hO
  split at e <;> try cases e
  rename_i ps hps
  have := Zrj hps (fun x hx => hO x (by simp only [Op.operands, List.mem_toArray]; exact hx))
  simp [execOp, ho, Zsz e s w (parts.map fun x => (x.1, a.eval x.2)) (by simpa using this)]
 ·rename_i c
  split at e <;> try cases e
  rename_i b hb
  split at e <;> try cases e
  rename_i vs hv
  rw [ho] at hO
  have h1 := Zpx hv hO (by intro z hz; simp only [Op.operands, Call.operands, hb]; simpa using hz)
  rw [Zic ho hb, h1, Zqw e]
 ·cases e
def Zl4 (P : Program) (T : Tr AV) (h : Hp) (o : Oper) : Option AV := match o.op with
 | .load t x => match evO T x with
  | some u => Zoi P h t u
  | none => none
 | .slice t x lo hi mx => match evO T x with
  | some u => Zor P h T t u lo hi mx
  | none => none
 | .lookup t x i ok => match evO T x, evO T i with
  | some u, some k => Za0b P h t u k ok
  | _, _ => none
 | .call c => match c.callee with
  | .builtin .len => match evOL T c.args.toList with
   | some [.map m] => match h.tr.get m, nth c.argTypes.toList 0 with
    | some (.map es _), some t => match P.underlying t with
     | some (.map _ _) => some (.int .i64 (es.length : Int))
     | _ => none
    | _, _ => none
   | _ => Za27 P T o
  | _ => Za27 P T o
 | _ => Za27 P T o
theorem Zlk {P : Program} {T : Tr AV} {h : Hp} {o : Oper} {v : AV} (e : Zl4 P T h o = some v) {s : Sg} {a : Act} (hO : Opnd s T a o.op) {w : World} (H : HRel s h w) :
  (execOp a.eval o).run P w = .ok (.value (conc s v)) w := by
 unfold Zl4 at e
 split at e <;> try (rename_i ho)
 ·rename_i t x
  rw [ho] at hO
  split at e <;> try cases e
  rename_i u hx
  simp [execOp, ho, hO x (by simp [Op.operands]) _ hx, Zpo e H]
 ·rename_i t x lo hi mx
  rw [ho] at hO
  split at e <;> try cases e
  rename_i u hx
  have := Zsu (a := a) e H (by
   intro y hy
   apply hO y
   simp only [Op.operands]
   rcases hy with rfl | rfl | rfl <;> simp)
  simp [execOp, ho, hO x (by simp [Op.operands]) _ hx, this]
 ·rename_i t x i ok
  rw [ho] at hO
  split at e <;> try cases e
  rename_i u k hx hi
  simp [execOp, ho, hO x (by simp [Op.operands]) _ hx, hO i (by simp [Op.operands]) _ hi, Za2c e H]
 ·rename_i c
  split at e
  ·rename_i hb
   split at e
   ·rename_i m hv
    rw [ho] at hO
    have h1 := Zpx hv hO (by intro z hz; simp only [Op.operands, Call.operands, hb]; simpa using hz)
    rw [Zic ho hb, h1]
    split at e <;> try cases e
    rename_i es cl t hm ht
    have ht : c.argTypes[0]? = some t := by rw [Zcg] at ht; simpa using ht
    split at e <;> try cases e
    rename_i hu
    have hob := H.obj m _ hm
    simp only [ORel] at hob
    simp [builtin, Builtin.len_, ht, run_underlying hu, concL, conc, getObj, Sem.run, hob, concE, goInt]
   ·exact Zub e hO w
  ·exact Zub e hO w
 ·exact Zub e hO w
def evWr (P : Program) (T : Tr AV) (h : Hp) (o : Oper) : Option (AV × Hp) := match o.op with
 | .assign x => match evO T x with
  | some v => some (v, h)
  | none => none
 | .store t x y => match evO T x, evO T y with
  | some u, some v => match Za3y P h t u v with
   | some h' => some (.tup [], h')
   | none => none
  | _, _ => none
 | .mapUpdate t m k x => match evO T m, evO T k, evO T x with
  | some m, some k, some v => match Zvp P h t m k v with
   | some h' => some (.tup [], h')
   | none => none
  | _, _, _ => none
 | .insert t m k x => match evO T m, evO T k, evO T x with
  | some m, some k, some v => match Zvp P h t m k v with
   | some h' => some (.tup [], h')
   | none => none
  | _, _, _ => none
 | .call c => match c.callee with
  | .builtin b => match evOL T c.args.toList with
   | some [u, x] => match b with
    | .append => Zok P h c.argTypes u x
    | .copy => Za99 P h c.argTypes u x
    | .delete => match Za0c P h c.argTypes u x with
     | some h' => some (.tup [], h')
     | none => none
    | _ => none
   | _ => none
  | _ => none
 | _ => none
def Gives (v : Value) (n : Next) : Prop := n = .value v ∨ (n = .skip ∧ v = undef)
theorem Zsd {T : Tr AV} {n : Nat} (hT : ∀ t v, T.get t = some v → ws n v = true) {x : Operand} {u : AV} (h : evO T x = some u) : ws n u = true := by
 cases x with
 | tmp t => exact hT t u h
 | const v => exact Za4a h n
 | func f => simp [evO] at h; subst h; rfl
 | global g => simp [evO] at h
theorem Za40 {T : Tr AV} {n : Nat} (hT : ∀ t v, T.get t = some v → ws n v = true) : ∀ {l : List Operand} {vs : List AV}, evOL T l = some vs → wsL n vs = true
 | [], vs, h => by simp [evOL] at h; subst h; rfl
 | x :: l, vs, h => by
  simp only [evOL] at h
  cases hv : evO T x <;> simp only [hv] at h
  ·cases h
  cases hl : evOL T l <;> simp only [hl] at h
  ·cases h
  simp at h; subst h
  simp [wsL, Zsd hT hv, Za40 hT hl]
theorem Zvo {P : Program} {T : Tr AV} {h h' : Hp} {o : Oper} {v : AV} (e : evWr P T h o = some (v, h')) {s : Sg} {a : Act} (hO : Opnd s T a o.op) (hT : ∀ t v, T.get t = some v → ws h.next v = true)
  {w : World} (H : HRel s h w) :
  ∃ n s' w', (execOp a.eval o).run P w = .ok n w' ∧ Gives (conc s' v) n ∧ HRel s' h' w' ∧ Ext s h w s' h' w' := by
 unfold evWr at e
 split at e <;> try (rename_i ho)
 ·rename_i x
  rw [ho] at hO
  split at e <;> try cases e
  rename_i hx
  exact ⟨_, s, w, by simp only [execOp, ho, hO x (by simp [Op.operands]) _ hx]; rfl, .inl rfl, H, Ext.refl _ _ _⟩
 ·rename_i t x y
  rw [ho] at hO
  split at e <;> try cases e
  rename_i u u' hx hy
  split at e <;> try cases e
  rename_i hst
  obtain ⟨w', hr, hH, hE⟩ := Za3x (P := P) hst H (Zsd hT hy)
  exact ⟨.skip, s, w', by simp [execOp, ho, hO x (by simp [Op.operands]) _ hx, hO y (by simp [Op.operands]) _ hy, hr], .inr ⟨rfl, rfl⟩, hH, hE⟩
 ·rename_i t m k x
  rw [ho] at hO
  split at e <;> try cases e
  rename_i m' k' v' hm hk hx
  split at e <;> try cases e
  rename_i hst
  obtain ⟨w', hr, hH, hE⟩ := Zuz (P := P) hst H (Zsd hT hk) (Zsd hT hx)
  exact ⟨.skip, s, w', by simp [execOp, ho, hO m (by simp [Op.operands]) _ hm, hO k (by simp [Op.operands]) _ hk, hO x (by simp [Op.operands]) _ hx, hr], .inr ⟨rfl, rfl⟩, hH, hE⟩
 ·rename_i t m k x
  rw [ho] at hO
  split at e <;> try cases e
  rename_i m' k' v' hm hk hx
  split at e <;> try cases e
  rename_i hst
  obtain ⟨w', hr, hH, hE⟩ := Zuz (P := P) hst H (Zsd hT hk) (Zsd hT hx)
  exact ⟨.skip, s, w', by simp [execOp, ho, hO m (by simp [Op.operands]) _ hm, hO k (by simp [Op.operands]) _ hk, hO x (by simp [Op.operands]) _ hx, hr], .inr ⟨rfl, rfl⟩, hH, hE⟩
 ·rename_i c
  split at e <;> try cases e
  rename_i b hb
  rw [ho] at hO
  split at e
  ·rename_i u x hv
   have h1 := Zpx hv hO (by intro z hz; simp only [Op.operands, Call.operands, hb]; simpa using hz)
   have hws := Za40 hT hv
   have hwu : ws h.next u = true := (Zvx _ _).1 hws u (by simp)
   rw [Zic ho hb, h1]
   simp only [concL]
   split at e
   ·obtain ⟨s', w', hr, hH, hE, _⟩ := Zoj (ty := o.type) e H hwu
    exact ⟨_, s', w', by simp only [builtin, Sem.run_bind, hr, Result.andThen_ok, Sem.run_pure], .inl rfl, hH, hE⟩
   ·obtain ⟨w', hr, hH, hE, _⟩ := Za6m (ty := o.type) e H
    exact ⟨_, s, w', by simp only [builtin, Sem.run_bind, hr, Result.andThen_ok, Sem.run_pure], .inl rfl, hH, hE⟩
   ·split at e <;> try cases e
    rename_i hd
    obtain ⟨w', hr, hH, hE⟩ := Za2e (P := P) (ty := o.type) hd H
    exact ⟨.value (.tuple #[]), s, w', by simp only [builtin, Sem.run_bind, hr, Result.andThen_ok, Sem.run_pure], .inl rfl, hH, hE⟩
   ·cases e
  ·cases e
 ·cases e
def Ztn (T : Tr AV) (o : Oper) : Option (FuncId × List AV) := match o.op with
 | .call c => match c.callee with
  | .value f => match evO T f, evOL T c.args.toList with
   | some (.func g a cap), some vs => some (g, a ++ (vs ++ cap))
   | _, _ => none
  | _ => none
 | _ => none
theorem Zs1 {P : Program} {T : Tr AV} {o : Oper} {f : FuncId} {vs : List AV} (e : Ztn T o = some (f, vs)) {s : Sg} {a : Act} (hO : Opnd s T a o.op) {fn : Func} (hf : P.funcs[f]? = some fn)
  (hn : (fn.name == "runtime.NumGoroutine") = false) {c : Code} (hb : fn.body = some c) (w : World) :
  (execOp a.eval o).run P w = .ok (.enter f (concL s vs).toArray) w := by
 unfold Ztn at e
 split at e <;> try cases e
 rename_i cl ho
 rw [ho] at hO
 split at e <;> try cases e
 rename_i fo hc
 split at e <;> try cases e
 rename_i fa cap xs hxs hfo
 have h1 := hO fo (by simp [Op.operands, Call.operands, hc]) _ hfo
 have h2 := Zpx hxs hO (by intro z hz; simp only [Op.operands, Call.operands, hc]; grind)
 simp only [execOp, ho, resolve, hc, h1, h2, conc, Deferred.ofValue, Sem.run_bind, Sem.run_pure, Result.andThen_ok, invoke, callFunc, run_program, hf, hn, hb]
 simp [Zj7]
theorem Za90 {T : Tr AV} {o : Oper} {f : FuncId} {vs : List AV} {n : Nat} (e : Ztn T o = some (f, vs)) (hT : ∀ t v, T.get t = some v → ws n v = true) : wsL n vs = true := by
 unfold Ztn at e
 split at e <;> try cases e
 split at e <;> try cases e
 split at e <;> try cases e
 rename_i fa cap xs hxs hfo
 have := Zsd hT hfo
 simp only [ws] at this
 cases h1 : wsL n fa <;> simp only [h1] at this
 ·cases this
 exact Zje h1 (Zje (Za40 hT hxs) this)
end Go.Proofs.YtghmfggmimoinaaGreat.Ev
