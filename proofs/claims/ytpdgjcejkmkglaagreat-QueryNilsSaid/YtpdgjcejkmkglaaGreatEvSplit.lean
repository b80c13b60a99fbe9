/- The small machine: a law that first asks whether its argument is small. -/
import Derived.Test.YtpdgjcejkmkglaaGreatEvTop
namespace Go.Proofs.YtpdgjcejkmkglaaGreat.Ev
open Go Go.RowKit
set_option linter.unusedVariables false
set_option linter.unusedSimpArgs false

def stOf : Option (Ex × St) → St
  | some (_, st) => st
  | none => ⟨.nil, ⟨.nil, 0⟩⟩
def isN : Option (Ex × St) → Bool
  | some (.normal, _) => true
  | _ => false
theorem isN_eq {r : Option (Ex × St)} (h : isN r = true) : r = some (.normal, stOf r) := by
  unfold isN at h
  split at h
  · rfl
  · cases h
def trOf : Option (Tr AV) → Tr AV
  | some T => T
  | none => .nil
def isS {α : Type} : Option α → Bool
  | some _ => true
  | none => false
theorem isS_eq {r : Option (Tr AV)} (h : isS r = true) : r = some (trOf r) := by
  unfold isS at h
  split at h
  · rfl
  · cases h
/-- It returns, and what it returns is true. -/
def retT (P : Program) (fn : Func) : Option (Ex × St) → Bool
  | some (.ret, st) => match evResults P st fn.results.toList with
    | some [.bool true] => true
    | _ => false
  | _ => false
theorem retT_eq {P : Program} {fn : Func} {r : Option (Ex × St)} (h : retT P fn r = true) : r = some (.ret, stOf r) ∧ evResults P (stOf r) fn.results.toList = some [.bool true] := by
  unfold retT at h
  split at h
  · split at h
    · rename_i q; exact ⟨rfl, q⟩
    · cases h
  · cases h

def isB : Option AV → Bool
  | some (.bool _) => true
  | _ => false
theorem isB_eq {r : Option AV} (h : isB r = true) : ∃ b, r = some (.bool b) := by
  unfold isB at h
  split at h
  · exact ⟨_, rfl⟩
  · cases h
theorem law_split {P : Program} {E : Env} (hE : EnvOk P E) {dr : Dr} (hdr : DrOk P dr) {orc : Cl} (ho : ClOk P orc) {k : Nat} {f : FuncId} {fn : Func} {r₀ r₁ x d : Code} {t : Tmp} {vs : List AV}
    (hf : P.funcs[f]? = some fn) (hb : fn.body = some (.seq r₀ (.seq (.seq r₁ (.cond (.tmp t) x .skip)) d))) (hl : Nat.ble vs.length fn.ntmps = true) (hT : isS (initT fn.ntmps 1 vs 0 .nil) = true)
    (h₀ : isN (evC P E dr orc k fn.ntmps r₀ ⟨trOf (initT fn.ntmps 1 vs 0 .nil), ⟨.nil, 1⟩⟩) = true)
    (h₁ : isN (evC P E dr orc k fn.ntmps r₁ (stOf (evC P E dr orc k fn.ntmps r₀ ⟨trOf (initT fn.ntmps 1 vs 0 .nil), ⟨.nil, 1⟩⟩))) = true)
    (ht : isB ((stOf (evC P E dr orc k fn.ntmps r₁ (stOf (evC P E dr orc k fn.ntmps r₀ ⟨trOf (initT fn.ntmps 1 vs 0 .nil), ⟨.nil, 1⟩⟩)))).T.get t) = true)
    (hx : retT P fn (evC P E dr orc k fn.ntmps x (stOf (evC P E dr orc k fn.ntmps r₁ (stOf (evC P E dr orc k fn.ntmps r₀ ⟨trOf (initT fn.ntmps 1 vs 0 .nil), ⟨.nil, 1⟩⟩))))) = true)
    (hd : retT P fn (evC P E dr orc k fn.ntmps d (stOf (evC P E dr orc k fn.ntmps r₁ (stOf (evC P E dr orc k fn.ntmps r₀ ⟨trOf (initT fn.ntmps 1 vs 0 .nil), ⟨.nil, 1⟩⟩))))) = true)
    (hw : wsL 1 vs = true) (s : Sg) (w : World) :
    Calls P f (concL s vs).toArray w fun e w' => e = .returned (.bool true) ∧ Below w.heap.size w w' := by
  have S := (evC_sound hE hdr ho k).1
  have hT' := isS_eq hT
  generalize trOf (initT fn.ntmps 1 vs 0 .nil) = T at *
  have e₀ := isN_eq h₀
  generalize stOf (evC P E dr orc k fn.ntmps r₀ ⟨T, ⟨.nil, 1⟩⟩) = st₀ at *
  have e₁ := isN_eq h₁
  generalize stOf (evC P E dr orc k fn.ntmps r₁ st₀) = st₁ at *
  obtain ⟨ex, rx⟩ := retT_eq hx
  generalize stOf (evC P E dr orc k fn.ntmps x st₁) = st₂ at *
  obtain ⟨ed, rd⟩ := retT_eq hd
  generalize stOf (evC P E dr orc k fn.ntmps d st₁) = st₃ at *
  have hle := Nat.le_of_ble_eq_true hl
  have R : RF (fun s' => s' = s) fn.ntmps T ⟨.nil, 1⟩ { tmps := (concL s vs).toArray ++ Array.replicate (fn.ntmps - (concL s vs).toArray.size) undef, defers := [] } w := by
    refine ⟨⟨s, rfl⟩, ?_, fun s' _ => ⟨fun i o hi => by simp [Tr.get] at hi, fun i j o o' hi => by simp [Tr.get] at hi, fun i o hi => by simp [Tr.get] at hi, fun i o hi => by simp [Tr.get] at hi⟩⟩
    rintro s' rfl
    have hL := concL_length s' vs
    refine ⟨by simp; omega, rfl, ?_, ?_⟩
    · intro t u hu
      rcases initT_get hT' t u hu with ⟨_, h1⟩ | h1
      · simp only [Nat.sub_zero] at h1
        have hlt : t < vs.length := by
          rcases Nat.lt_or_ge t vs.length with q | q
          · exact q
          · rw [List.getElem?_eq_none q] at h1; cases h1
        rw [Array.getElem?_append_left (by simp; omega)]
        simp [concL_get, h1]
      · simp [Tr.get] at h1
    · intro t u hu
      rcases initT_get hT' t u hu with ⟨_, h1⟩ | h1
      · exact (wsL_iff _ _).1 hw u (List.mem_of_getElem? h1)
      · simp [Tr.get] at h1
  have fin : ∀ (st : St) (F : Fam) (a : Act) (w' : World), RF F fn.ntmps st.T st.h a w' → FExt (fun s' => s' = s) ⟨.nil, 1⟩ w F st.h w' → evResults P st fn.results.toList = some [.bool true] →
      bodyPost P fn (fun e w' => e = .returned (.bool true) ∧ Below w.heap.size w w') .ret a w' := by
    intro st F a w' R' E' hr
    obtain ⟨s', hs', hx'⟩ := E'.to s rfl
    exact ⟨(R'.T s' hs').defers, _, run_res (R'.T s' hs') (R'.H s' hs') hr, rfl, hx'.os, hx'.tape, hx'.output, hx'.size, fun b hb => hx'.frame b hb (fun i o hi => by simp [Tr.get] at hi)⟩
  refine calls_of_wp hf hb ?_
  refine wp_seq (S _ _ _ _ _ e₀ _ _ _ R _ ?_)
  intro F₀ a₀ w₀ R₀ E₀
  refine wp_seq (wp_seq (S _ _ _ _ _ e₁ _ _ _ R₀ _ ?_))
  intro F₁ a₁ w₁ R₁ E₁
  obtain ⟨b, ht⟩ := isB_eq ht
  have he : a₁.eval (.tmp t) = .bool b := by
    obtain ⟨s', hs'⟩ := R₁.ne
    simp [Act.eval, Array.getD_eq_getD_getElem?, (R₁.T s' hs').get t _ ht, conc]
  refine wp_cond_split he ?_ ?_
  · intro _
    refine S _ _ _ _ _ ex _ _ _ R₁ _ ?_
    intro F₂ a₂ w₂ R₂ E₂
    exact fin _ F₂ a₂ w₂ R₂ (E₀.trans (E₁.trans E₂)) rx
  · intro _
    refine wp_skip ?_
    refine S _ _ _ _ _ ed _ _ _ R₁ _ ?_
    intro F₂ a₂ w₂ R₂ E₂
    exact fin _ F₂ a₂ w₂ R₂ (E₀.trans (E₁.trans E₂)) rd

/-- The parts of such a law's body. -/
def p1 : Code → Code | .seq a _ => a | c => c
def p2 : Code → Code | .seq _ b => b | c => c
def thenOf : Code → Code | .cond _ x _ => x | c => c
def slotOf : Code → Tmp | .cond (.tmp t) _ _ => t | _ => 0
def bodyOf (fn : Func) : Code := match fn.body with | some c => c | none => .skip
end Go.Proofs.YtpdgjcejkmkglaaGreat.Ev
