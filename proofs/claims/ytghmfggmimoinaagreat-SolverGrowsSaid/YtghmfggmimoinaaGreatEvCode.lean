/- The small machine: code, and functions. -/
import Derived.Test.YtghmfggmimoinaaGreatEvReg
import Derived.LoopN
namespace Go.Proofs.YtghmfggmimoinaaGreat.Ev
open Go Go.RowKit
inductive Ex where
 | normal
 | exit (id : Nat)
 | ret
def Ex.to : Ex → Exit
 | .normal => .normal
 | .exit id => .exit id
 | .ret => .ret
abbrev Dr := Cl → Nat → Array Oper → St → Option St
def DrOk (P : Program) (dr : Dr) : Prop := ∀ call, ClOk P call → ∀ n id ops st st', dr call n ops st = some st' → ∀ F a w, RF F n st.T st.h a w → ∀ Q : Exit → Act → World → Prop,
 (∀ F' a' w', RF F' n st'.T st'.h a' w' → FExt F st.h w F' st'.h w' → Q .normal a' w') → (Code.region id ops true).wp P Q a w
abbrev Env := Tr Func
def EnvOk (P : Program) (E : Env) : Prop := ∀ f fn, E.get f = some fn → P.funcs[f]? = some fn ∧ (fn.name == "runtime.NumGoroutine") = false
def initT (n nx : Nat) : List AV → Nat → Tr AV → Option (Tr AV)
 | [], _, T => some T
 | v :: l, i, T => match setT n nx T (some i) v with
  | some T => initT n nx l (i + 1) T
  | none => none
def Zea (P : Program) (st : St) : List ResultVar → Option (List AV)
 | [] => some []
 | r :: l => match (match r with
   | .tmp t => st.T.get t
   | .cell a t => match st.T.get a with
    | some u => Zoi P st.h t u
    | none => none) with
  | some v => match Zea P st l with
   | some vs => some (v :: vs)
   | none => none
  | none => none
def tupOf : List AV → AV
 | [v] => v
 | l => .tup l
def orElse (a b : Cl) : Cl := fun f vs h => match a f vs h with
 | some r => some r
 | none => b f vs h
theorem Za7l {P : Program} {a b : Cl} (ha : ClOk P a) (hb : ClOk P b) : ClOk P (orElse a b) := by
 intro f vs h v h' e
 unfold orElse at e
 split at e
 ·rename_i r hr
  simp at e; subst e
  exact ha f vs h v h' hr
 ·exact hb f vs h v h' e
def evF (P : Program) (E : Env) (run : Nat → Code → St → Option (Ex × St)) : Cl := fun f vs h => match E.get f with
 | some fn => match fn.body with
  | some c => match Nat.ble vs.length fn.ntmps, initT fn.ntmps h.next vs 0 .nil with
   | true, some T => match run fn.ntmps c ⟨T, h⟩ with
    | some (x, st) => match x with
     | .exit _ => none
     | _ => match Zea P st fn.results.toList with
      | some rs => some (tupOf rs, st.h)
      | none => none
    | none => none
   | _, _ => none
  | none => none
 | none => none
def evC (P : Program) (E : Env) (dr : Dr) (orc : Cl) : Nat → Nat → Code → St → Option (Ex × St)
 | 0, _, _, _ => none
 | k + 1, n, c, st => match c with
  | .skip => some (.normal, st)
  | .label _ => some (.normal, st)
  | .region _ ops draw => match draw with
   | false => match evOps P (orElse orc (evF P E (evC P E dr orc k))) n ops ops.toList st with
    | some st => some (.normal, st)
    | none => none
   | true => match dr (orElse orc (evF P E (evC P E dr orc k))) n ops st with
    | some st => some (.normal, st)
    | none => none
  | .seq x y => match evC P E dr orc k n x st with
   | some (e, st) => match e with
    | .normal => evC P E dr orc k n y st
    | e => some (e, st)
   | none => none
  | .cond c x y => match evO st.T c with
   | some v => match v with
    | .bool b => match b with
     | true => evC P E dr orc k n x st
     | false => evC P E dr orc k n y st
    | _ => none
   | none => none
  | .block id x => match evC P E dr orc k n x st with
   | some (e, st) => match e with
    | .exit i => match Nat.beq i id with
     | true => some (.normal, st)
     | false => some (.exit i, st)
    | e => some (e, st)
   | none => none
  | .loop x => match evC P E dr orc k n x st with
   | some (e, st) => match e with
    | .normal => evC P E dr orc k n (.loop x) st
    | e => some (e, st)
   | none => none
  | .scope x => evC P E dr orc k n x st
  | .exit id => some (.exit id, st)
  | .ret => some (.ret, st)
  | _ => none
theorem Zpk {n nx : Nat} : ∀ {vs : List AV} {i : Nat} {T T' : Tr AV}, initT n nx vs i T = some T' → ∀ t v, T'.get t = some v → (i ≤ t ∧ vs[t - i]? = some v) ∨ T.get t = some v
 | [], i, T, T', h, t, v, hv => by simp [initT] at h; subst h; exact .inr hv
 | x :: l, i, T, T', h, t, v, hv => by
  simp only [initT] at h
  split at h <;> try cases h
  rename_i T₁ h₁
  rcases Zpk h t v hv with ⟨hi, hl⟩ | hT
  ·left
   grind
  ·unfold setT at h₁
   simp only [] at h₁
   split at h₁ <;> try cases h₁
   have hg := Tr.Zao _ _ _ _ _ h₁ t
   grind
theorem Ztb {P : Program} {st : St} {s : Sg} {n : Nat} {a : Act} {w : World} (R : TRel s n st.T st.h.next a) (H : HRel s st.h w) (f : ResultVar → Sem Value)
  (hf : ∀ r, f r = match r with | .tmp t => pure (a.tmps.getD t undef) | .cell x t => do loadVar t (← asAddr (a.tmps.getD x undef))) :
  ∀ {l : List ResultVar} {vs : List AV}, Zea P st l = some vs → (l.mapM f).run P w = .ok (concL s vs) w
 | [], vs, h => by simp [Zea] at h; subst h; rfl
 | r :: l, vs, h => by
  simp only [Zea] at h
  split at h <;> try cases h
  rename_i v hv
  split at h <;> try cases h
  rename_i vs' hl
  have ih := Ztb R H f hf hl
  have h1 : (f r).run P w = .ok (conc s v) w := by
   rw [hf r]
   cases r with
   | tmp t =>
    have := R.get t v hv
    simp_all
   | cell x t =>
    simp only [] at hv ⊢
    split at hv <;> try cases hv
    rename_i u hu
    have hx := R.get x u hu
    have hr := Zpo hv H
    have hx' : a.tmps.getD x undef = conc s u := by simp [Array.getD_eq_getD_getElem?, hx]
    rw [hx']
    cases u <;> simp only [Zoi] at hv <;> try cases hv
    simp only [Instr.loadAt, Instr.sureAddr, conc, asAddr, Sem.run_bind, Sem.run_pure, Result.andThen_ok] at hr ⊢
    exact hr
  rw [List.mapM_cons]
  simp only [Sem.run_bind, h1, Result.andThen_ok, ih, Sem.run_pure, concL]
theorem Zsk {P : Program} {st : St} {s : Sg} {n : Nat} {a : Act} {w : World} (R : TRel s n st.T st.h.next a) (H : HRel s st.h w) {fn : Func} {vs : List AV} (h : Zea P st fn.results.toList = some vs) :
  (results fn a.tmps).run P w = .ok (conc s (tupOf vs)) w := by
 have h1 := Ztb R H _ (fun r => rfl) h
 unfold results
 rw [Sem.run_bind, Array.mapM_eq_mapM_toList, Sem.run_map]
 have h2 : (List.mapM (fun x => match x with
   | .tmp t => pure (a.tmps.getD t undef)
   | .cell x t => do loadVar t (← asAddr (a.tmps.getD x undef)) : ResultVar → Sem Value) fn.results.toList).run P w = .ok (concL s vs) w := h1
 refine (congrArg (fun r => ((Result.andThen r _).andThen _)) h2).trans ?_
 simp only [Result.andThen_ok, Sem.run_pure]
 congr 1
 match vs with
 | [] => simp [tupOf, concL, conc]
 | [v] => simp [tupOf, concL]
 | u :: v :: l => simp [tupOf, concL, conc]
def Sound (P : Program) (run : Nat → Code → St → Option (Ex × St)) : Prop := ∀ n c st e st', run n c st = some (e, st') → ∀ F a w, RF F n st.T st.h a w → ∀ Q : Exit → Act → World → Prop,
 (∀ F' a' w', RF F' n st'.T st'.h a' w' → FExt F st.h w F' st'.h w' → Q e.to a' w') → c.wp P Q a w
theorem Za96 {P : Program} {E : Env} (hE : EnvOk P E) {run : Nat → Code → St → Option (Ex × St)} (hrun : Sound P run) : ClOk P (evF P E run) := by
 intro f vs h v h' e
 unfold evF at e
 split at e <;> try cases e
 rename_i fn hf
 obtain ⟨hfn, hname⟩ := hE f fn hf
 split at e <;> try cases e
 rename_i c hb
 refine ⟨⟨fn, c, hfn, hname, hb⟩, ?_⟩
 split at e <;> try cases e
 rename_i T hle hT
 have hle := Nat.le_of_ble_eq_true hle
 split at e <;> try cases e
 rename_i x st hst
 intro F w args hne hF hw
 have R : RF F fn.ntmps T h { tmps := args ++ Array.replicate (fn.ntmps - args.size) undef, defers := [] } w := by
  refine ⟨hne, ?_, fun s hs => (hF s hs).1⟩
  intro s hs
  rw [← (hF s hs).2]
  have hL := Zc3 s vs
  refine ⟨by simp; omega, rfl, ?_, ?_⟩
  ·intro t u hu
   rcases Zpk hT t u hu with ⟨_, h1⟩ | h1
   ·simp only [Nat.sub_zero] at h1
    have hlt : t < vs.length := by grind
    rw [Array.getElem?_append_left (by simp; omega)]
    simp [Ztq, h1]
   ·simp [Tr.get] at h1
  ·intro t u hu
   rcases Zpk hT t u hu with ⟨_, h1⟩ | h1
   ·exact (Zvx _ _).1 hw u (List.mem_of_getElem? h1)
   ·simp [Tr.get] at h1
 refine calls_of_wp hfn hb ?_
 refine hrun _ _ _ _ _ hst F _ w R _ ?_
 intro F' a' w' R' E'
 have fin : ∀ rs, Zea P st fn.results.toList = some rs → tupOf rs = v ∧ st.h = h' → a'.defers = [] ∧ ∃ V, (results fn a'.tmps).run P w' = .ok V w' ∧
   ∃ F' V', Ending.returned V = .returned V' ∧ FExt F h w F' h' w' ∧ ∀ s', F' s' → HRel s' h' w' ∧ conc s' v = V' := by
  rintro rs hrs ⟨rfl, rfl⟩
  obtain ⟨s₁, hs₁⟩ := R'.ne
  refine ⟨(R'.T s₁ hs₁).defers, conc s₁ (tupOf rs), Zsk (R'.T s₁ hs₁) (R'.H s₁ hs₁) hrs, F', _, rfl, E', ?_⟩
  intro s hs
  refine ⟨R'.H s hs, ?_⟩
  have h1 := Zsk (R'.T s₁ hs₁) (R'.H s₁ hs₁) hrs
  have h2 := Zsk (R'.T s hs) (R'.H s hs) hrs
  grind
 cases x with
 | exit id => cases e
 | normal =>
  simp only [] at e
  split at e <;> try cases e
  rename_i rs hrs
  exact fin rs hrs ⟨rfl, rfl⟩
 | ret =>
  simp only [] at e
  split at e <;> try cases e
  rename_i rs hrs
  exact fin rs hrs ⟨rfl, rfl⟩
theorem Zx4 {P : Program} {E : Env} (hE : EnvOk P E) {dr : Dr} (hdr : DrOk P dr) {orc : Cl} (ho : ClOk P orc) : ∀ k, Sound P (evC P E dr orc k) ∧
  (∀ n x st e st', evC P E dr orc k n (.loop x) st = some (e, st') → ∀ F a w, RF F n st.T st.h a w → ∀ Q : Exit → Act → World → Prop,
   (∀ F' a' w', RF F' n st'.T st'.h a' w' → FExt F st.h w F' st'.h w' → Q e.to a' w') → Code.rounds P x Q k a w)
 | 0 => ⟨fun n c st e st' h => by simp [evC] at h, fun n c st e st' h => by simp [evC] at h⟩
 | k + 1 => by
  obtain ⟨ih, ihl⟩ := Zx4 hE hdr ho k
  have hcl := Za7l ho (Za96 hE ih)
  have loop : (∀ n x st e st', evC P E dr orc (k + 1) n (.loop x) st = some (e, st') → ∀ F a w, RF F n st.T st.h a w → ∀ Q : Exit → Act → World → Prop,
   (∀ F' a' w', RF F' n st'.T st'.h a' w' → FExt F st.h w F' st'.h w' → Q e.to a' w') → Code.rounds P x Q (k + 1) a w) := by
   intro n x st e st' h F a w R Q hQ
   simp only [evC] at h
   split at h <;> try cases h
   rename_i e₁ st₁ h₁
   rw [rounds_succ]
   refine ih n x st e₁ st₁ h₁ F a w R _ ?_
   intro F' a' w' R' E'
   cases e₁ with
   | normal => exact ihl n x st₁ e st' h F' a' w' R' Q (fun F'' a'' w'' R'' E'' => hQ F'' a'' w'' R'' (E'.trans E''))
   | exit id => simp only [Option.some.injEq, Prod.mk.injEq] at h; obtain ⟨rfl, rfl⟩ := h; exact hQ F' a' w' R' E'
   | ret => simp only [Option.some.injEq, Prod.mk.injEq] at h; obtain ⟨rfl, rfl⟩ := h; exact hQ F' a' w' R' E'
  refine ⟨?_, loop⟩
  intro n c st e st' h F a w R Q hQ
  cases c with
  | skip =>
   simp only [evC, Option.some.injEq, Prod.mk.injEq] at h; obtain ⟨rfl, rfl⟩ := h
   exact wp_skip (hQ F a w R (FExt.refl _ _ _))
  | label l =>
   simp only [evC, Option.some.injEq, Prod.mk.injEq] at h; obtain ⟨rfl, rfl⟩ := h
   exact wp_label (hQ F a w R (FExt.refl _ _ _))
  | region id ops draw =>
   simp only [evC] at h
   cases draw with
   | false =>
    simp only [] at h
    split at h <;> try cases h
    rename_i h₁
    refine wp_region ?_
    have := Za5h hcl (Q := Q) ops.toList 0 st st' h₁ (by grind) F a w R hQ
    rw [List.range_eq_range']
    simpa using this
   | true =>
    simp only [] at h
    split at h <;> try cases h
    rename_i h₁
    exact hdr _ hcl n id ops st st' h₁ F a w R Q hQ
  | seq x y =>
   simp only [evC] at h
   split at h <;> try cases h
   rename_i e₁ st₁ h₁
   refine wp_seq (ih n x st e₁ st₁ h₁ F a w R _ ?_)
   intro F' a' w' R' E'
   cases e₁ with
   | normal => exact ih n y st₁ e st' h F' a' w' R' Q (fun F'' a'' w'' R'' E'' => hQ F'' a'' w'' R'' (E'.trans E''))
   | exit id => simp only [Option.some.injEq, Prod.mk.injEq] at h; obtain ⟨rfl, rfl⟩ := h; exact hQ F' a' w' R' E'
   | ret => simp only [Option.some.injEq, Prod.mk.injEq] at h; obtain ⟨rfl, rfl⟩ := h; exact hQ F' a' w' R' E'
  | cond c x y =>
   simp only [evC] at h
   split at h <;> try cases h
   rename_i v hv
   obtain ⟨s, hs⟩ := R.ne
   have he : a.eval c = conc s v := by
    cases c with
    | tmp t => simp [Act.eval, Array.getD_eq_getD_getElem?, (R.T s hs).get t v hv]
    | const u => exact (Zj8 hv s).symm
    | func f => simp [evO] at hv; subst hv; rfl
    | global g => simp [evO] at hv
   split at h <;> try cases h
   rename_i b
   cases b with
   | true => exact wp_cond_true he (ih n x st e st' h F a w R Q hQ)
   | false => exact wp_cond_false he (ih n y st e st' h F a w R Q hQ)
  | block id x =>
   simp only [evC] at h
   split at h <;> try cases h
   rename_i e₁ st₁ h₁
   refine wp_block (ih n x st e₁ st₁ h₁ F a w R _ ?_)
   intro F' a' w' R' E'
   cases e₁ with
   | normal => simp only [Option.some.injEq, Prod.mk.injEq] at h; obtain ⟨rfl, rfl⟩ := h; exact hQ F' a' w' R' E'
   | ret => simp only [Option.some.injEq, Prod.mk.injEq] at h; obtain ⟨rfl, rfl⟩ := h; exact hQ F' a' w' R' E'
   | exit i =>
    simp only [] at h
    split at h
    ·rename_i q
     have q := Nat.eq_of_beq_eq_true q
     simp only [Option.some.injEq, Prod.mk.injEq] at h; obtain ⟨rfl, rfl⟩ := h
     simp only [Ex.to, Exit.inBlock, if_pos q]
     exact hQ F' a' w' R' E'
    ·rename_i q
     have q := Nat.ne_of_beq_eq_false q
     simp only [Option.some.injEq, Prod.mk.injEq] at h; obtain ⟨rfl, rfl⟩ := h
     simp only [Ex.to, Exit.inBlock, if_neg q]
     exact hQ F' a' w' R' E'
  | loop x => exact wp_loop_rounds (k + 1) (loop n x st e st' h F a w R Q hQ)
  | scope x =>
   simp only [evC] at h
   refine wp_scope_straight (ih n x st e st' h F a w R _ ?_)
   intro F' a' w' R' E'
   have := hQ F' a' w' R' E'
   cases e <;> exact this
  | exit id =>
   simp only [evC, Option.some.injEq, Prod.mk.injEq] at h; obtain ⟨rfl, rfl⟩ := h
   exact wp_exit (hQ F a w R (FExt.refl _ _ _))
  | ret =>
   simp only [evC, Option.some.injEq, Prod.mk.injEq] at h; obtain ⟨rfl, rfl⟩ := h
   exact wp_ret (hQ F a w R (FExt.refl _ _ _))
  | _ => simp [evC] at h
def evTop (P : Program) (E : Env) (dr : Dr) (orc : Cl) (k : Nat) (f : FuncId) : Option AV := match evF P E (evC P E dr orc k) f [] ⟨.nil, 0⟩ with
 | some (v, _) => some v
 | none => none
theorem evTop_calls {P : Program} {E : Env} (hE : EnvOk P E) {dr : Dr} (hdr : DrOk P dr) {orc : Cl} (ho : ClOk P orc) {k : Nat} {f : FuncId} {v : AV} {x : Value} (h : evTop P E dr orc k f = some v) (hx : scal v = some x) (w : World) :
  Calls P f #[] w fun e w' => e = .returned x ∧ Below w.heap.size w w' := by
 unfold evTop at h
 split at h <;> try cases h
 rename_i h' he
 have := (Za96 hE (Zx4 hE hdr ho k).1 f [] ⟨.nil, 0⟩ v h' he).2 (fun _ => True) w #[] ⟨fun _ => (0, 0), trivial⟩
  (fun s _ => ⟨⟨fun i o hi => by simp [Tr.get] at hi, fun i j o o' hi => by simp [Tr.get] at hi, fun i o hi => by simp [Tr.get] at hi, fun i o hi => by simp [Tr.get] at hi⟩, rfl⟩) rfl
 refine this.mono ?_
 rintro e w' ⟨F', V, rfl, hE', hF'⟩
 obtain ⟨s', hs', hx'⟩ := hE'.to (fun _ => (0, 0)) trivial
 exact ⟨by rw [← (hF' s' hs').2, Zet hx], hx'.os, hx'.tape, hx'.output, hx'.size, fun b hb => hx'.frame b hb (fun i o hi => by simp [Tr.get] at hi)⟩
end Go.Proofs.YtghmfggmimoinaaGreat.Ev
