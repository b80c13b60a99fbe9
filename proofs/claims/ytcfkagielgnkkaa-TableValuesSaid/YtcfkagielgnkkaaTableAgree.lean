/- The table and the reference's agree; both in one memory. -/
import Derived.Test.YtcfkagielgnkkaaTableRfind
namespace Go.Proofs.Ytcfkagielgnkkaa
open Go.RowKit Pl
set_option linter.unusedVariables false
/-- the frames say what was set last -/
def Agree (V n : Nat) (frames : List (List Int)) (cs : List Cell3) : Prop :=
  frames.length = n ∧ (∀ i, i < n → (frames.getD i []).length = V + 1) ∧ (∀ c ∈ cs, 0 ≤ c.1 ∧ c.1 < n ∧ 1 ≤ c.2.1 ∧ c.2.1 ≤ V) ∧ ∀ i v : Nat, i < n → v ≤ V → at_ (frames.getD i []) v = look cs i v
theorem look_none (cs : List Cell3) (frame v : Int) (h : ∀ c ∈ cs, ¬ (c.1 = frame ∧ c.2.1 = v)) : look cs frame v = if v = 0 then -1 else 0 := by
  unfold look
  generalize (if v = 0 then (-1 : Int) else 0) = o
  induction cs generalizing o with
  | nil => rfl
  | cons c cs ih =>
    rw [List.foldl_cons, if_neg (h c (by simp))]
    exact ih (fun x hx => h x (by simp [hx])) o
theorem Agree.lit {V n : Nat} {frames : List (List Int)} {cs : List Cell3} (h : Agree V n frames cs) (frame l : Int) : litT V frames frame l = litR n cs frame l := by
  obtain ⟨h1, _, h2, h3⟩ := h
  unfold litT litR
  rw [h1]
  by_cases hc : frame < 0 ∨ (n : Int) ≤ frame ∨ l < 0
  · rw [if_pos (by omega), if_pos hc]
  · rw [if_neg hc]
    by_cases hv : (V : Int) < l / 2
    · rw [if_pos (by omega), look_none cs frame (l / 2) (fun c hc' e => by have := h2 c hc'; omega), if_neg (show ¬ l / 2 = 0 from by omega)]
      split <;> rfl
    · rw [if_neg (by omega)]
      have := h3 frame.toNat (l / 2).toNat (by omega) (by omega)
      rw [this, show ((frame.toNat : Nat) : Int) = frame from by omega, show (((l / 2).toNat : Nat) : Int) = l / 2 from by omega]
theorem Agree.fat {V n : Nat} {frames : List (List Int)} {cs : List Cell3} (h : Agree V n frames cs) (i k : Nat) (hi : i < n) (hk : k ≤ V) : fat frames i k = rat n cs i k := by
  have := h.lit i (2 * (k : Int))
  unfold rat
  rw [← this]
  unfold litT Go.Proofs.Ytcfkagielgnkkaa.fat
  rw [if_neg (by rw [h.1]; omega), if_neg (by omega), Int.toNat_natCast, show (2 * (k : Int) / 2).toNat = k from by omega]
theorem FindIs.congr {f f' : Nat → Nat → Int} {n V : Nat} {l : Int} {r : Option (Nat × Nat)} (h : FindIs f n V l r) (e : ∀ i k, i < n → k ≤ V → f i k = f' i k) : FindIs f' n V l r := by
  rcases r with _ | ⟨i, k⟩
  · intro i' k' h1 h2 h3; rw [← e i' k' h1 h3]; exact h i' k' h1 h2 h3
  · obtain ⟨a1, a2, a3, a4, a5, a6⟩ := h
    refine ⟨a1, a2, a3, by rw [← e i k a1 a3]; exact a4, fun i' k' h1 h2 h3 => ?_, fun k' h1 h2 => ?_⟩
    · rw [← e i' k' (by omega) h3]; exact a5 i' k' h1 h2 h3
    · rw [← e i k' a1 (by omega)]; exact a6 k' h1 h2
theorem frame0_len (V : Nat) : (frame0 V).length = V + 1 := by simp [frame0, zeros]
theorem Agree.nil (V : Nat) : Agree V 0 [] [] := ⟨rfl, (fun i h => by omega), (fun c h => by cases h), (fun i v h => by omega)⟩
theorem getD_left (a : List (List Int)) (x : List Int) (i : Nat) (h : i < a.length) : (a ++ [x]).getD i [] = a.getD i [] := by
  rw [List.getD_eq_getElem?_getD, List.getElem?_append_left h, List.getD_eq_getElem?_getD]
theorem getD_last (a : List (List Int)) (x : List Int) : (a ++ [x]).getD a.length [] = x := by
  rw [List.getD_eq_getElem?_getD, List.getElem?_append_right (Nat.le_refl _)]; simp
theorem Agree.push {V n : Nat} {frames : List (List Int)} {cs : List Cell3} (h : Agree V n frames cs) : Agree V (n + 1) (frames ++ [frame0 V]) cs := by
  obtain ⟨h1, h2, h3, h4⟩ := h
  refine ⟨by simp [h1], fun i hi => ?_, fun c hc => by have := h3 c hc; omega, fun i v hi hv => ?_⟩
  · by_cases e : i < n
    · rw [getD_left _ _ _ (by omega)]; exact h2 i e
    · obtain rfl : i = frames.length := by omega
      rw [getD_last]; exact frame0_len V
  · by_cases e : i < n
    · rw [getD_left _ _ _ (by omega)]; exact h4 i v e hv
    · obtain rfl : i = frames.length := by omega
      rw [getD_last, frame0_at, look_none cs _ _ (fun c hc e' => by have := h3 c hc; omega)]
      by_cases hz : v = 0
      · rw [if_pos hz, if_pos (by omega)]
      · rw [if_neg hz, if_neg (by omega)]
theorem Agree.set {V n : Nat} {frames : List (List Int)} {cs : List Cell3} (h : Agree V n frames cs) {f v l : Int} (hs : setOk n V f v l) : Agree V n (fset frames f v l) (cs ++ [(f, v, l)]) := by
  obtain ⟨h1, h2, h3, h4⟩ := h
  obtain ⟨s1, s2, s3, s4, s5, s6, s7⟩ := hs
  have key : ∀ i, (fset frames f v l).getD i [] = if i = f.toNat then (frames.getD i []).set v.toNat l else frames.getD i [] := fun i => by
    unfold fset
    rw [List.getD_eq_getElem?_getD, List.getElem?_set]
    by_cases e : f.toNat = i
    · subst e; rw [if_pos rfl, if_pos (by omega), if_pos rfl]; rfl
    · rw [if_neg e, if_neg (fun e' => e e'.symm), List.getD_eq_getElem?_getD]
  refine ⟨by simp [fset, h1], fun i hi => ?_, fun c hc => ?_, fun i u hi hu => ?_⟩
  · rw [key]; split
    · rw [List.length_set]; exact h2 i hi
    · exact h2 i hi
  · rw [List.mem_append] at hc
    rcases hc with hc | hc
    · exact h3 c hc
    · simp at hc; subst hc; exact ⟨s1, s2, s3, s4⟩
  · rw [key, look_snoc]
    by_cases e : i = f.toNat
    · rw [if_pos e]
      have hl := h2 i hi
      by_cases e2 : u = v.toNat
      · rw [← e2, at_set_eq _ _ _ (by omega), if_pos (by simp; omega)]
      · rw [at_set_ne _ _ _ _ (fun e' => e2 e'.symm), if_neg (by simp; omega)]; exact h4 i u hi hu
    · rw [if_neg e, if_neg (by simp; omega)]; exact h4 i u hi hu
theorem TD.cap {w : World} {V g : Nat} {frames : List (List Int)} {D : Nat → Prop} (h : TD w V g frames D) : TD w V g frames (fun b => D b ∧ b < w.heap.size) := by
  obtain ⟨lv, fs, h, e, d1, d2, d3⟩ := h
  exact ⟨lv, fs, h, e, ⟨d1, h.hd.lt⟩, fun b hb => ⟨d2 b hb, (h.own.lt b hb).2⟩, fun i f hf => ⟨d3 i f hf, (h.fr i f hf).1.lt⟩⟩
theorem RD.cap {w : World} {g V n : Nat} {cs : List Cell3} {D : Nat → Prop} (h : RD w g V n cs D) : RD w g V n cs (fun b => D b ∧ b < w.heap.size) := by
  obtain ⟨cv, h, d1, d2⟩ := h
  exact ⟨cv, h, ⟨d1, h.hd.lt⟩, fun b hb => ⟨d2 b hb, (h.own.lt b hb).2⟩⟩
/-- both tables in one memory, apart -/
def MR (w : World) (base V g gr n : Nat) (frames : List (List Int)) (cs : List Cell3) : Prop :=
  ∃ D1 D2 : Nat → Prop, TD w V g frames D1 ∧ RD w gr V n cs D2 ∧ Agree V n frames cs ∧ (∀ b, D1 b → ¬ D2 b) ∧ (∀ b, D1 b → base ≤ b ∧ b < w.heap.size) ∧ ∀ b, D2 b → base ≤ b ∧ b < w.heap.size
theorem MR.ts {w : World} {base V g gr n : Nat} {frames : List (List Int)} {cs : List Cell3} (h : MR w base V g gr n frames cs) : TS w 0 V g frames := by obtain ⟨_, _, h, _⟩ := h; exact h.ts
theorem MR.rd {w : World} {base V g gr n : Nat} {frames : List (List Int)} {cs : List Cell3} (h : MR w base V g gr n frames cs) : ∃ D, RD w gr V n cs D := by obtain ⟨_, D2, _, h, _⟩ := h; exact ⟨D2, h⟩
theorem MR.agree {w : World} {base V g gr n : Nat} {frames : List (List Int)} {cs : List Cell3} (h : MR w base V g gr n frames cs) : Agree V n frames cs := by obtain ⟨_, _, _, _, h, _⟩ := h; exact h
theorem MR.below {w w' : World} {base V g gr n : Nat} {frames : List (List Int)} {cs : List Cell3} (h : MR w base V g gr n frames cs) (hb : Below w.heap.size w w') : MR w' base V g gr n frames cs := by
  obtain ⟨D1, D2, t, r, ag, dj, l1, l2⟩ := h
  have hs := hb.size
  exact ⟨D1, D2, t.frm (D' := fun _ => False) (Frm.of_below hb) (fun _ _ h => h), r.below hb, ag, dj, fun b hb => by have := l1 b hb; omega, fun b hb => by have := l2 b hb; omega⟩
theorem MR.drewN {w : World} {base V g gr n : Nat} {frames : List (List Int)} {cs : List Cell3} (h : MR w base V g gr n frames cs) (q : Nat) : MR (w.drewN q) base V g gr n frames cs := h.below (below_drewN (Below.refl _ _) q)
end Go.Proofs.Ytcfkagielgnkkaa
