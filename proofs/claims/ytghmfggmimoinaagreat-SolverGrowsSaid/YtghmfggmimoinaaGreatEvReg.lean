/- The small machine: regions without a draw. -/
import Derived.Test.YtghmfggmimoinaaGreatEvOp
namespace Go.Proofs.YtghmfggmimoinaaGreat.Ev
open Go Go.RowKit
structure St where
 T : Tr AV
 h : Hp
structure TRel (s : Sg) (n : Nat) (T : Tr AV) (nx : Nat) (a : Act) : Prop where
 size : a.tmps.size = n
 defers : a.defers = []
 get : ∀ t v, T.get t = some v → a.tmps[t]? = some (conc s v)
 ws : ∀ t v, T.get t = some v → ws nx v = true
def setT (n nx : Nat) (T : Tr AV) (d : Option Tmp) (v : AV) : Option (Tr AV) := match d with
 | none => some T
 | some t => match Nat.blt t n, ws nx v with
  | true, true => Tr.set FT T t (some v)
  | _, _ => none
theorem TRel.put {s s' : Sg} {n nx nx' : Nat} {T T' : Tr AV} {a : Act} {d : Option Tmp} {v : AV} (R : TRel s n T nx a) (hs : ∀ i, i < nx → s' i = s i) (hn : nx ≤ nx') (h : setT n nx' T d v = some T') :
  TRel s' n T' nx' (a.put d (conc s' v)) := by
 have old : ∀ t v, T.get t = some v → a.tmps[t]? = some (conc s' v) := fun t v ht => by rw [Zlm hs v (R.ws t v ht)]; exact R.get t v ht
 unfold setT at h
 split at h
 ·simp at h; subst h
  exact ⟨R.size, R.defers, old, fun t v ht => Zq3 hn v (R.ws t v ht)⟩
 ·rename_i t
  split at h <;> try cases h
  rename_i hlt hw
  rw [Nat.blt_eq] at hlt
  have hg := Tr.Zao _ _ _ _ _ h
  refine ⟨by simp [Act.put, R.size], by simp [Act.put, R.defers], ?_, ?_⟩
  ·intro u x hu
   rw [hg u] at hu
   simp only [Act.put, Array.getElem?_setIfInBounds]
   by_cases q : u = t
   ·subst q
    simp at hu; subst hu
    simp [R.size, hlt]
   grind
  ·intro u x hu
   rw [hg u] at hu
   by_cases q : u = t
   ·rw [if_pos q] at hu; grind
   ·rw [if_neg q] at hu; exact Zq3 hn x (R.ws u x hu)
def Zqs (ops : Array Oper) (T : Tr AV) (o : Oper) : Option Bool := match o.guard with
 | none => some true
 | some (j, want) => match nth ops.toList j with
  | some oj => match oj.dst with
   | some t => match T.get t with
    | some v => match v with
     | .bool b => match b, want with
      | true, true => some true
      | false, false => some true
      | _, _ => some false
     | _ => some false
    | none => none
   | none => none
  | none => none
theorem Zqr {ops : Array Oper} {T : Tr AV} {o : Oper} {b : Bool} (h : Zqs ops T o = some b) {s : Sg} {a : Act}
  (R : ∀ j w oj t v, o.guard = some (j, w) → ops[j]? = some oj → oj.dst = some t → T.get t = some v → a.tmps[t]? = some (conc s v)) : Region.wanted o (yielded ops a.tmps) = b := by
 unfold Zqs at h
 unfold Region.wanted
 split at h
 ·rename_i hg; grind
 ·rename_i j want hg
  split at h <;> try cases h
  rename_i oj hj
  split at h <;> try cases h
  rename_i t ht
  split at h <;> try cases h
  rename_i v hv
  have hj' : ops[j]? = some oj := by rw [Zcg] at hj; simpa using hj
  have := R j want oj t v hg hj' ht hv
  rw [hg]
  simp only [yielded, hj', Option.bind_some, ht, this]
  cases v with
  | bool c => simp only [conc]; cases c <;> cases want <;> simp at h <;> subst h <;> rfl
  | _ => simp at h; subst h; rfl
abbrev Fam := Sg → Prop
structure FExt (F : Fam) (h : Hp) (w : World) (F' : Fam) (h' : Hp) (w' : World) : Prop where
 to : ∀ s, F s → ∃ s', F' s' ∧ Ext s h w s' h' w'
 from_ : ∀ s', F' s' → ∃ s, F s ∧ Ext s h w s' h' w'
theorem FExt.refl (F : Fam) (h : Hp) (w : World) : FExt F h w F h w := ⟨fun s hs => ⟨s, hs, Ext.refl _ _ _⟩, fun s hs => ⟨s, hs, Ext.refl _ _ _⟩⟩
theorem FExt.trans {F F' F'' : Fam} {h h' h'' : Hp} {w w' w'' : World} (a : FExt F h w F' h' w') (b : FExt F' h' w' F'' h'' w'') : FExt F h w F'' h'' w'' := by
 constructor
 ·intro s hs
  obtain ⟨s', hs', e⟩ := a.to s hs
  obtain ⟨s'', hs'', e'⟩ := b.to s' hs'
  exact ⟨s'', hs'', e.trans e'⟩
 ·intro s'' hs''
  obtain ⟨s', hs', e'⟩ := b.from_ s'' hs''
  obtain ⟨s, hs, e⟩ := a.from_ s' hs'
  exact ⟨s, hs, e.trans e'⟩
structure RF (F : Fam) (n : Nat) (T : Tr AV) (h : Hp) (a : Act) (w : World) : Prop where
 ne : ∃ s, F s
 T : ∀ s, F s → TRel s n T h.next a
 H : ∀ s, F s → HRel s h w
abbrev Cl := FuncId → List AV → Hp → Option (AV × Hp)
def ClOk (P : Program) (call : Cl) : Prop := ∀ f vs h v h', call f vs h = some (v, h') → (∃ fn c, P.funcs[f]? = some fn ∧ (fn.name == "runtime.NumGoroutine") = false ∧ fn.body = some c) ∧
 ∀ (F : Fam) w args, (∃ s, F s) → (∀ s, F s → HRel s h w ∧ (concL s vs).toArray = args) → wsL h.next vs = true →
  Calls P f args w fun e w' => ∃ F' V, e = .returned V ∧ FExt F h w F' h' w' ∧ ∀ s', F' s' → HRel s' h' w' ∧ conc s' v = V
def evAct (P : Program) (call : Cl) (T : Tr AV) (h : Hp) (o : Oper) : Option (AV × Hp) := match Ztn T o with
 | some (f, vs) => call f vs h
 | none => match evWr P T h o with
  | some r => some r
  | none => match evA P T h.next o.op with
   | some (ob, v) => match Tr.set FT h.tr h.next (some ob) with
    | some tr => some (v, ⟨tr, h.next + 1⟩)
    | none => none
   | none => match Zl4 P T h o with
    | some v => some (v, h)
    | none => none
theorem Za5k {P : Program} {call : Cl} (hc : ClOk P call) {T : Tr AV} {h h' : Hp} {o : Oper} {v : AV} (e : evAct P call T h o = some (v, h')) {F : Fam} {a : Act} {w : World} (hne : ∃ s, F s)
  (hO : ∀ s, F s → Opnd s T a o.op) (hT : ∀ t v, T.get t = some v → ws h.next v = true) (H : ∀ s, F s → HRel s h w) {K : Act → World → Prop} {Q : Exit → Act → World → Prop}
  (hK : ∀ F' w' V, FExt F h w F' h' w' → (∀ s', F' s' → HRel s' h' w' ∧ conc s' v = V) → K (a.put o.dst V) w') : o.wp P a w K Q := by
 obtain ⟨s₀, hs₀⟩ := hne
 unfold evAct at e
 unfold Oper.wp
 split at e
 ·rename_i f vs hw
  obtain ⟨⟨fn, c, hf, hn, hb⟩, hcall⟩ := hc f vs h v h' e
  have h₀ := Zs1 hw (hO s₀ hs₀) hf hn hb w
  rw [h₀, Oper.upon_enter]
  refine (hcall F w (concL s₀ vs).toArray ⟨s₀, hs₀⟩ ?_ (Za90 hw hT)).mono ?_
  ·intro s hs
   refine ⟨H s hs, ?_⟩
   have h₁ := Zs1 hw (hO s hs) hf hn hb w
   grind
  ·rintro e' w' ⟨F', V, rfl, hE, hF⟩
   exact hK F' w' V hE hF
 ·split at e
  ·rename_i r hr
   simp at e; subst e
   obtain ⟨n, s₀', w', hrun, hg, hH, hE⟩ := Zvo hr (hO s₀ hs₀) hT (H s₀ hs₀)
   have all : ∀ s, F s → ∃ s', Gives (conc s' v) n ∧ HRel s' h' w' ∧ Ext s h w s' h' w' := by
    intro s hs
    obtain ⟨n₁, s', w₁, hrun₁, hg₁, hH₁, hE₁⟩ := Zvo hr (hO s hs) hT (H s hs)
    grind
   rw [hrun]
   have hFE : FExt F h w (fun s' => ∃ s, F s ∧ Gives (conc s' v) n ∧ HRel s' h' w' ∧ Ext s h w s' h' w') h' w' :=
    ⟨fun s hs => let ⟨s', q⟩ := all s hs; ⟨s', ⟨s, hs, q⟩, q.2.2⟩, fun s' ⟨s, hs, q⟩ => ⟨s, hs, q.2.2⟩⟩
   rcases hg with rfl | ⟨rfl, hu⟩
   ·refine hK _ w' (conc s₀' v) hFE ?_
    rintro s' ⟨s, hs, hg', hH', _⟩
    refine ⟨hH', ?_⟩
    rcases hg' with q | ⟨q, _⟩
    ·simp only [Next.value.injEq] at q; exact q.symm
    ·cases q
   ·refine hK _ w' undef hFE ?_
    rintro s' ⟨s, hs, hg', hH', _⟩
    refine ⟨hH', ?_⟩
    rcases hg' with q | ⟨_, q⟩
    ·cases q
    ·exact q
  ·split at e
   ·rename_i ob v' ha
    split at e <;> try cases e
    rename_i tr ht
    obtain ⟨ob', hrun, hor, hwo, hwv⟩ := Zx7 ha (hO s₀ hs₀) (fun x hx u hu => Zsd hT hu) w
    have all : ∀ s, F s → conc (upd s h.next (w.heap.size, 0)) v = conc (upd s₀ h.next (w.heap.size, 0)) v ∧ HRel (upd s h.next (w.heap.size, 0)) ⟨tr, h.next + 1⟩ { w with heap := w.heap.push ob' } ∧
      Ext s h w (upd s h.next (w.heap.size, 0)) ⟨tr, h.next + 1⟩ { w with heap := w.heap.push ob' } := by
     intro s hs
     obtain ⟨ob₁, hrun₁, hor₁, hwo₁, _⟩ := Zx7 ha (hO s hs) (fun x hx u hu => Zsd hT hu) w
     rw [hrun] at hrun₁
     simp only [Result.ok.injEq, Next.value.injEq, World.mk.injEq, Array.push_eq_push, and_true, true_and] at hrun₁
     obtain ⟨q1, rfl⟩ := hrun₁
     have hn := (H s hs).new (c := 0) hor₁ hwo₁ ht
     exact ⟨q1.symm, hn⟩
    rw [hrun]
    refine hK (fun s' => ∃ s, F s ∧ s' = upd s h.next (w.heap.size, 0)) _ (conc (upd s₀ h.next (w.heap.size, 0)) v) ⟨?_, ?_⟩ ?_
    ·exact fun s hs => ⟨_, ⟨s, hs, rfl⟩, (all s hs).2.2⟩
    ·rintro s' ⟨s, hs, rfl⟩; exact ⟨s, hs, (all s hs).2.2⟩
    ·rintro s' ⟨s, hs, rfl⟩; exact ⟨(all s hs).2.1, (all s hs).1⟩
   ·split at e <;> try cases e
    rename_i hr
    have h₀ := Zlk hr (hO s₀ hs₀) (H s₀ hs₀)
    rw [h₀]
    refine hK F w (conc s₀ v) (FExt.refl _ _ _) ?_
    intro s hs
    refine ⟨H s hs, ?_⟩
    have h₁ := Zlk hr (hO s hs) (H s hs)
    grind
theorem RF.put {F F' : Fam} {n : Nat} {T T' : Tr AV} {h h' : Hp} {a : Act} {w w' : World} {d : Option Tmp} {v : AV} {V : Value} (R : RF F n T h a w) (hE : FExt F h w F' h' w')
  (hF : ∀ s', F' s' → HRel s' h' w' ∧ conc s' v = V) (hT : setT n h'.next T d v = some T') : RF F' n T' h' (a.put d V) w' := by
 obtain ⟨s₀, hs₀⟩ := R.ne
 obtain ⟨s₁, hs₁, _⟩ := hE.to s₀ hs₀
 refine ⟨⟨s₁, hs₁⟩, ?_, fun s' hs' => (hF s' hs').1⟩
 intro s' hs'
 obtain ⟨s, hs, e⟩ := hE.from_ s' hs'
 rw [← (hF s' hs').2]
 exact (R.T s hs).put e.sg e.next hT
def Zyv (P : Program) (call : Cl) (n : Nat) (ops : Array Oper) (o : Oper) (st : St) : Option St := match Zqs ops st.T o with
 | some true => match evAct P call st.T st.h o with
  | some (v, h') => match setT n h'.next st.T o.dst v with
   | some T => some ⟨T, h'⟩
   | none => none
  | none => none
 | some false => match setT n st.h.next st.T o.dst (.tup []) with
  | some T => some ⟨T, st.h⟩
  | none => none
 | none => none
theorem Za91 {P : Program} {call : Cl} (hc : ClOk P call) {n : Nat} {ops : Array Oper} {o : Oper} {i : Nat} {st st' : St} (e : Zyv P call n ops o st = some st') (hi : ops[i]? = some o) {F : Fam} {a : Act} {w : World}
  (R : RF F n st.T st.h a w) {K : Act → World → Prop} {Q : Exit → Act → World → Prop}
  (hK : ∀ F' a' w', RF F' n st'.T st'.h a' w' → FExt F st.h w F' st'.h w' → K a' w') : wpOp P ops Q i K a w := by
 obtain ⟨s₀, hs₀⟩ := R.ne
 have R₀ := R.T s₀ hs₀
 unfold Zyv at e
 unfold wpOp
 rw [hi]
 simp only []
 split at e
 ·rename_i hw
  rw [Zqr hw (fun j w oj t v _ _ _ hv => R₀.get t v hv)]
  simp only [if_true]
  left
  split at e <;> try cases e
  rename_i v h' ha
  split at e <;> try cases e
  rename_i T' hT
  exact Za5k hc ha R.ne (fun s hs => Zso fun t _ u hu => (R.T s hs).get t u hu) R₀.ws R.H fun F' w' V hE hF => hK F' _ w' (R.put hE hF hT) hE
 ·rename_i hw
  rw [Zqr hw (fun j w oj t v _ _ _ hv => R₀.get t v hv)]
  simp only [Bool.false_eq_true, if_false]
  split at e <;> try cases e
  rename_i T' hT
  exact hK F _ w (R.put (v := .tup []) (V := undef) (FExt.refl _ _ _) (fun s hs => ⟨R.H s hs, rfl⟩) hT) (FExt.refl _ _ _)
 ·cases e
def evOps (P : Program) (call : Cl) (n : Nat) (ops : Array Oper) : List Oper → St → Option St
 | [], st => some st
 | o :: l, st => match Zyv P call n ops o st with
  | some st => evOps P call n ops l st
  | none => none
theorem Za5h {P : Program} {call : Cl} (hc : ClOk P call) {n : Nat} {ops : Array Oper} {Q : Exit → Act → World → Prop} : ∀ (l : List Oper) (k : Nat) (st st' : St), evOps P call n ops l st = some st' →
  (∀ j, l[j]? = ops[k + j]?) → ∀ (F : Fam) (a : Act) (w : World), RF F n st.T st.h a w →
  (∀ F' a' w', RF F' n st'.T st'.h a' w' → FExt F st.h w F' st'.h w' → Q .normal a' w') →
  wpOps P ops Q ((List.range' k l.length)) a w
 | [], k, st, st', e, _, F, a, w, R, hK => by
  simp [evOps] at e; subst e
  exact hK F a w R (FExt.refl _ _ _)
 | o :: l, k, st, st', e, hl, F, a, w, R, hK => by
  simp only [evOps] at e
  split at e <;> try cases e
  rename_i st₁ h₁
  rw [List.length_cons, List.range'_succ, wpOps_cons]
  refine Za91 hc h₁ (by have := hl 0; simpa using this.symm) R ?_
  intro F' a' w' R' E'
  refine Za5h hc l (k + 1) st₁ st' e ?_ F' a' w' R' ?_
  ·intro j
   have := hl (j + 1)
   grind
  ·intro F'' a'' w'' R'' E''
   exact hK F'' a'' w'' R'' (E'.trans E'')
end Go.Proofs.YtghmfggmimoinaaGreat.Ev
