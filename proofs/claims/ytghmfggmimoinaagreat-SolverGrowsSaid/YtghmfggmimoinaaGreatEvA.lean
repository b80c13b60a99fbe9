/- The small machine: slices of slices, and what makes memory. -/
import Derived.Test.YtghmfggmimoinaaGreatEvR
namespace Go.Proofs.YtghmfggmimoinaaGreat.Ev
open Go Go.RowKit
def natOf : AV → Option Nat
 | .int _ (.ofNat n) => some n
 | _ => none
theorem Za68 {v : AV} {n : Nat} (h : natOf v = some n) (s : Sg) : ∃ k, conc s v = .int k (n : Int) := by
 unfold natOf at h
 split at h <;> try cases h
 exact ⟨_, rfl⟩
theorem Zkw {P : Program} {k : IntKind} {n y : Nat} {code : BoundsCode} (h : n ≤ y) (w : World) : (Instr.sliceBound (.int k (n : Int)) y code).run P w = .ok n w := by
 simp [Instr.sliceBound, asIntOf, h]
def evB (T : Tr AV) (x : Option Operand) (d : Nat) : Option Nat := match x with
 | none => some d
 | some x => match evO T x with
  | some v => natOf v
  | none => none
theorem Zlf {P : Program} {T : Tr AV} {s : Sg} {a : Act} {lo hi mx : Option Operand} {len cap l h m : Nat} (hr : ∀ x, (lo = some x ∨ hi = some x ∨ mx = some x) → ∀ u, evO T x = some u → a.eval x = conc s u)
  (h1 : evB T lo 0 = some l) (h2 : evB T hi len = some h) (h3 : evB T mx cap = some m) (q1 : l ≤ h) (q2 : h ≤ m) (q3 : m ≤ cap) (q4 : hi = none → mx = none) (w : World) :
  (Instr.sliceBounds true len cap (lo.map a.eval) (hi.map a.eval) (mx.map a.eval)).run P w = .ok (l, h, m) w := by
 have val : ∀ x d r, (lo = some x ∨ hi = some x ∨ mx = some x) → evB T (some x) d = some r → ∃ k, a.eval x = .int k (r : Int) := by
  intro x d r hx he
  unfold evB at he
  simp only [] at he
  split at he <;> try cases he
  rename_i v hv
  obtain ⟨k, hk⟩ := Za68 he s
  grind
 have hm : mx = none → m = cap := by intro q; subst q; simpa [evB] using h3.symm
 have hh : hi = none → h = len := by intro q; subst q; simpa [evB] using h2.symm
 have hl : lo = none → l = 0 := by intro q; subst q; simpa [evB] using h1.symm
 unfold Instr.sliceBounds
 cases mx with
 | none =>
  have hm := hm rfl
  subst hm
  cases hi with
  | none =>
   have hh := hh rfl; subst hh
   cases lo with
   | none => have := hl rfl; subst this; simp
   | some x =>
    obtain ⟨k, e⟩ := val x 0 l (.inl rfl) h1
    simp [e, Zkw q1]
  | some y =>
   obtain ⟨k', e'⟩ := val y len h (.inr (.inl rfl)) h2
   cases lo with
   | none => have := hl rfl; subst this; simp [e', Zkw q2]
   | some x =>
    obtain ⟨k, e⟩ := val x 0 l (.inl rfl) h1
    simp [e, e', Zkw q1, Zkw q2]
 | some z =>
  obtain ⟨k'', e''⟩ := val z cap m (.inr (.inr rfl)) h3
  cases hi with
  | none => cases q4 rfl
  | some y =>
   obtain ⟨k', e'⟩ := val y len h (.inr (.inl rfl)) h2
   cases lo with
   | none => have := hl rfl; subst this; simp [e', e'', Zkw q2, Zkw q3]
   | some x =>
    obtain ⟨k, e⟩ := val x 0 l (.inl rfl) h1
    simp [e, e', e'', Zkw q1, Zkw q2, Zkw q3]
def isNone {α : Type} : Option α → Bool | none => true | some _ => false
def Zor (P : Program) (h : Hp) (T : Tr AV) (t : TypeId) (u : AV) (lo hi mx : Option Operand) : Option AV := match P.underlying t with
 | some (.slice elem) => match Zbz P elem, u with
  | some sz, .slice b off len false c => match evB T lo 0, evB T hi len, evB T mx c with
   | some l, some r, some m => match Nat.ble l r, Nat.ble r m, Nat.ble m c, (isNone mx || !isNone hi) with
    | true, true, true, true => some (.slice b (match Nat.beq m l with | true => off | false => off + l * sz) (r - l) false (m - l))
    | _, _, _, _ => none
   | _, _, _ => none
  | some sz, .slice b off len true c => match h.tr.get b with
   | some (.cells cs _ (some z)) => match Nat.beq z sz, sz with
    | true, sz + 1 => match mx with
     | some x => match evB T lo 0, evB T hi len, evB T (some x) 0 with
      | some l, some r, some m => match Nat.ble l r, Nat.ble r m, Nat.ble ((c + m) * (sz + 1)) cs.length, !isNone hi with
       | true, true, true, true => some (.slice b (match Nat.beq m l with | true => off | false => off + l * (sz + 1)) (r - l) false (m - l))
       | _, _, _, _ => none
      | _, _, _ => none
     | none => match evB T lo 0, evB T hi len with
      | some l, some r => match Nat.ble l r, Nat.ble ((c + r) * (sz + 1)) cs.length, (Nat.beq l 0 || Nat.blt ((c + l) * (sz + 1)) cs.length) with
       | true, true, true => some (.slice b (off + l * (sz + 1)) (r - l) true (c + l))
       | true, true, false => (match Nat.beq r l with | true => some (.tailS b off (off + l * (sz + 1)) (c + l)) | false => none)
       | _, _, _ => none
      | _, _ => none
    | _, _ => none
   | _ => none
  | some sz, .nils => match evB T lo 0, evB T hi 0, evB T mx 0 with
   | some 0, some 0, some 0 => match (isNone mx || !isNone hi) with
    | true => some .nils
    | false => none
   | _, _, _ => none
  | _, _ => none
 | some .string => match u with
  | .str x => match lo.elim (some none) (fun y => (evO T y).bind fun v => (scal v).map some), hi.elim (some none) (fun y => (evO T y).bind fun v => (scal v).map some), mx with
   | some l, some r, none => match still P 4000 (Instr.sliceAt t (.string x) l r none) with
    | some q => back q
    | none => none
   | _, _, _ => none
  | _ => none
 | _ => none
theorem Za4q {T : Tr AV} {s : Sg} {a : Act} {x : Option Operand} {l : Option Value} (h : x.elim (some none) (fun y => (evO T y).bind fun v => (scal v).map some) = some l)
  (hr : ∀ y, x = some y → ∀ u, evO T y = some u → a.eval y = conc s u) : x.map a.eval = l := by
 cases x with
 | none => simpa using h
 | some y =>
  simp only [Option.elim] at h
  cases hv : evO T y <;> simp [hv] at h
  rename_i v
  obtain ⟨q, hq, rfl⟩ := h
  simp [hr y rfl v hv, Zet hq]
theorem Zsu {P : Program} {h : Hp} {T : Tr AV} {t : TypeId} {u v : AV} {lo hi mx : Option Operand} (e : Zor P h T t u lo hi mx = some v) {s : Sg} {w : World} {a : Act} (H : HRel s h w)
  (hr : ∀ x, (lo = some x ∨ hi = some x ∨ mx = some x) → ∀ u, evO T x = some u → a.eval x = conc s u) :
  (Instr.sliceAt t (conc s u) (lo.map a.eval) (hi.map a.eval) (mx.map a.eval)).run P w = .ok (conc s v) w := by
 unfold Zor at e
 split at e
 ·rename_i elem hu
  have hru := run_underlying hu w
  split at e
  ·rename_i sz b off len c hs
   split at e <;> try cases e
   rename_i l r m h1 h2 h3
   split at e <;> try cases e
   rename_i q1 q2 q3 q4
   have q1 := Nat.le_of_ble_eq_true q1
   have q2 := Nat.le_of_ble_eq_true q2
   have q3 := Nat.le_of_ble_eq_true q3
   have q4 : hi = none → mx = none := by
    intro q; subst q; cases mx
    ·rfl
    ·simp [isNone] at q4
   have hb := Zlf hr h1 h2 h3 q1 q2 q3 q4 w (P := P)
   simp only [Instr.sliceAt, Instr.slice, conc, Sem.run_bind, hru, Result.andThen_ok, hb, run_sizeOf hs, Sem.run_pure]
   cases hml : Nat.beq m l
   ·have := Nat.ne_of_beq_eq_false hml
    simp [this, Zd7]
   ·have := Nat.eq_of_beq_eq_true hml
    simp [this]
  ·rename_i sz b off len c hs
   split at e <;> try cases e
   rename_i cs ty z hb
   split at e <;> try cases e
   rename_i sz' sz hz
   have hz := Nat.eq_of_beq_eq_true hz
   subst hz
   obtain ⟨tail, hw, _, h2⟩ := H.cells hb
   have h2 : cs.length + tail.length = (s b).2 * (sz + 1) := (h2 _ rfl).1
   split at e
   ·rename_i x
    split at e <;> try cases e
    rename_i l r m h1 h2' h3
    split at e <;> try cases e
    rename_i q1 q2 q3 q4
    have q1 := Nat.le_of_ble_eq_true q1
    have q2 := Nat.le_of_ble_eq_true q2
    have q3 := Nat.le_of_ble_eq_true q3
    have hcap : c + m ≤ (s b).2 := by
     rcases Nat.lt_or_ge (s b).2 (c + m) with q | q
     ·have := Nat.mul_lt_mul_of_pos_right q (show 0 < sz + 1 by omega)
      omega
     ·exact q
    have hb' := Zlf (cap := (s b).2 - c) (mx := some x) hr h1 h2' (show evB T (some x) ((s b).2 - c) = some m from h3) q1 q2 (by omega) (by
     intro q; subst q; simp [isNone] at q4) w (P := P)
    simp only [Instr.sliceAt, Instr.slice, conc, Sem.run_bind, hru, Result.andThen_ok, hb', run_sizeOf hs, Sem.run_pure]
    cases hml : Nat.beq m l
    ·have := Nat.ne_of_beq_eq_false hml
     simp [this, Zd7]
    ·have := Nat.eq_of_beq_eq_true hml
     simp [this]
   ·split at e <;> try cases e
    rename_i l r h1 h2'
    split at e <;> try cases e
    ·rename_i q1 q3 q4
     have q1 := Nat.le_of_ble_eq_true q1
     have q3 := Nat.le_of_ble_eq_true q3
     have hcap : c + r ≤ (s b).2 := by
      rcases Nat.lt_or_ge (s b).2 (c + r) with q | q
      ·have := Nat.mul_lt_mul_of_pos_right q (show 0 < sz + 1 by omega)
       omega
      ·exact q
     have hb' := Zlf (cap := (s b).2 - c) (mx := none) hr h1 h2' (show evB T none ((s b).2 - c) = some ((s b).2 - c) from rfl) q1 (by omega) (Nat.le_refl _) (fun _ => rfl) w (P := P)
     simp only [Instr.sliceAt, Instr.slice, conc, Sem.run_bind, hru, Result.andThen_ok, hb', run_sizeOf hs, Sem.run_pure]
     have hne : (s b).2 - c ≠ l ∨ l = 0 := by
      rcases Nat.eq_zero_or_pos l with q | q
      ·exact .inr q
      ·left
       have hbl : Nat.beq l 0 = false := by cases hq : Nat.beq l 0 with | false => rfl | true => have := Nat.eq_of_beq_eq_true hq; omega
       simp only [hbl, Bool.false_or, Nat.blt_eq] at q4
       have : c + l < (s b).2 := by
        rcases Nat.lt_or_ge (c + l) (s b).2 with q' | q'
        ·exact q'
        ·have := Nat.mul_le_mul_right (sz + 1) q'
         omega
       omega
     congr 2
     ·by_cases q : (s b).2 - c = l
      ·rcases hne with q' | q'
       ·exact absurd q q'
       ·subst q'; simp [q]
      ·simp [q, Zd7]
     ·omega
    ·rename_i q1 q3 q4
     split at e <;> try cases e
     rename_i q5
     have q5 := Nat.eq_of_beq_eq_true q5
     subst q5
     have q1 := Nat.le_of_ble_eq_true q1
     have q3 := Nat.le_of_ble_eq_true q3
     have hcap : c + r ≤ (s b).2 := by
      rcases Nat.lt_or_ge (s b).2 (c + r) with q | q
      ·have := Nat.mul_lt_mul_of_pos_right q (show 0 < sz + 1 by omega)
       omega
      ·exact q
     have hb' := Zlf (cap := (s b).2 - c) (mx := none) hr h1 h2' (show evB T none ((s b).2 - c) = some ((s b).2 - c) from rfl) q1 (by omega) (Nat.le_refl _) (fun _ => rfl) w (P := P)
     simp only [Instr.sliceAt, Instr.slice, conc, Sem.run_bind, hru, Result.andThen_ok, hb', run_sizeOf hs, Sem.run_pure]
     congr 2
     ·by_cases q : (s b).2 - c = r
      ·have hq : Nat.beq (s b).2 (c + r) = true := by rw [show (s b).2 = c + r by omega]; exact Nat.beq_refl _
       rw [hq]
       simp [q]
      ·have hq : Nat.beq (s b).2 (c + r) = false := by
        cases h : Nat.beq (s b).2 (c + r) with
        | false => rfl
        | true => exact absurd (Nat.eq_of_beq_eq_true h) (by omega)
       rw [hq]
       simp [q, Zd7]
     ·omega
     ·omega
  ·rename_i sz hs
   split at e <;> try cases e
   rename_i h1 h2 h3
   split at e <;> try cases e
   rename_i q4
   have q4 : hi = none → mx = none := by
    intro q; subst q; cases mx
    ·rfl
    ·simp [isNone] at q4
   have hb := Zlf hr h1 h2 h3 (Nat.le_refl 0) (Nat.le_refl 0) (Nat.le_refl 0) q4 w (P := P)
   simp only [Instr.sliceAt, Instr.slice, conc, Sem.run_bind, hru, Result.andThen_ok, hb, run_sizeOf hs, Sem.run_pure]
   rfl
  ·cases e
 ·rename_i hu
  split at e <;> try cases e
  split at e <;> try cases e
  rename_i x l r h1 h2
  split at e <;> try cases e
  rename_i q hq
  rw [Za4q h1 (fun y hy => hr y (.inl hy)), Za4q h2 (fun y hy => hr y (.inr (.inl hy)))]
  simp only [conc, Option.map_none]
  rw [Ze1 hq, Zj8 e]
 ·cases e
end Go.Proofs.YtghmfggmimoinaaGreat.Ev
