/- The table in memory, and what its small methods do: New, Push, Frames, Set, Lit, and the nil table. -/
import Derived.Test.YtcfkagielgnkkaaHeapNew
import Derived.Test.YtcfkagielgnkkaaBitsEval
namespace Go.Proofs.Ytcfkagielgnkkaa
open Go.RowKit Pl
set_option linter.unusedVariables false

def fvals (V : Nat) (fs : List (Nat × List Int)) : List Value := fs.map fun f => Value.slice (some ⟨f.1, 0, none⟩) (V + 1) (V + 1)
theorem fvals_length (V : Nat) (fs : List (Nat × List Int)) : (fvals V fs).length = fs.length := by simp [fvals]
/-- a table at block g: its frames, each a block of V + 1 numbers -/
structure Tb (w : World) (base V g : Nat) (lv : Value) (fs : List (Nat × List Int)) : Prop where
  hd : Blk w g 108 #[.int .i64 V, lv]
  own : w.ownsRow base 34 1 lv fs.length (fvals V fs)
  fr : ∀ (i : Nat) (f : Nat × List Int), fs[i]? = some f → Blk w f.1 3 (i64s f.2).toArray ∧ f.2.length = V + 1 ∧ base ≤ f.1 ∧ ∀ v, -65536 ≤ at_ f.2 v ∧ at_ f.2 v ≤ 65536
  inj : ∀ (i j : Nat) (f f' : Nat × List Int), fs[i]? = some f → fs[j]? = some f' → f.1 = f'.1 → i = j
  bg : base ≤ g
  hv : V ≤ 2000
  ll : fs.length ≤ 1000000
section
variable {w w' : World} {base V g : Nat} {lv : Value} {fs : List (Nat × List Int)}
theorem Tb.c0 (h : Tb w base V g lv fs) : w.cell? ⟨g, 0, none⟩ = some (.int .i64 V) := by simpa using h.hd.cell 0
theorem Tb.c1 (h : Tb w base V g lv fs) : w.cell? ⟨g, 1, none⟩ = some lv := by simpa using h.hd.cell 1
theorem Tb.slc (h : Tb w base V g lv fs) : ∃ A c, lv = .slice A fs.length c ∧ fs.length ≤ c ∧ c ≤ maxLen := by
  obtain ⟨A, c, e, h1, h2, _⟩ := own_slice h.own
  exact ⟨A, c, e, h1, h2⟩
theorem Tb.at_f (h : Tb w base V g lv fs) {i : Nat} (hi : i < fs.length) : ∃ gl c f, lv = .slice (some ⟨gl, 0, none⟩) fs.length c ∧ fs.length ≤ c ∧ fs[i]? = some f ∧ gl ≠ f.1 ∧ gl ≠ g ∧ f.1 ≠ g ∧
    w.cell? ⟨gl, i, none⟩ = some (.slice (some ⟨f.1, 0, none⟩) (V + 1) (V + 1)) ∧ ∀ v, v ≤ V → w.cell? ⟨f.1, v, none⟩ = some (.int .i64 (at_ f.2 v)) ∧ w.frozen? ⟨f.1, v, none⟩ = false := by
  rcases h.own.2 with ⟨_, h0⟩ | ⟨gl, cap, cur, rfl, hb, hh, hl, hm, hs, ht⟩
  · omega
  · have hB : Blk w gl 34 cur := hh
    have hf : fs[i]? = some fs[i] := List.getElem?_eq_getElem hi
    obtain ⟨b1, b2, b3, b4⟩ := h.fr i _ hf
    refine ⟨gl, cap, fs[i], rfl, hl, hf, hB.ne_ b1 (by decide), hB.ne_ h.hd (by decide), b1.ne_ h.hd (by decide), ?_, fun v hv => ⟨?_, b1.frozen v⟩⟩
    · rw [hB.cell i]
      have h1 : (fvals V fs)[i]? = some (.slice (some ⟨fs[i].1, 0, none⟩) (V + 1) (V + 1)) := by
        unfold fvals; rw [List.getElem?_map, hf]; rfl
      rw [← ht] at h1
      rw [List.getElem?_take, if_pos (by omega)] at h1
      simpa using h1
    · rw [b1.cell v]; simpa using i64s_at fs[i].2 v (by omega)
theorem Tb.drewN (h : Tb w base V g lv fs) (q : Nat) : Tb (w.drewN q) base V g lv fs := ⟨h.hd, h.own, h.fr, h.inj, h.bg, h.hv, h.ll⟩
theorem Tb.drew (h : Tb w base V g lv fs) : Tb w.drew base V g lv fs := ⟨h.hd, h.own, h.fr, h.inj, h.bg, h.hv, h.ll⟩
theorem Tb.below {B : Nat} (h : Tb w base V g lv fs) (hb : Below B w w') (hB : w.heap.size ≤ B) : Tb w' base V g lv fs := by
  refine ⟨h.hd.below hb (by have := h.hd.lt; omega), ?_, fun i f hf => ?_, h.inj, h.bg, h.hv, h.ll⟩
  · refine h.own.kept (row := none) ⟨hb.os, hb.tape, hb.output, hb.size, fun i hi _ => hb.block i (by omega)⟩ ?_
    rcases hv : lv.ownBlock with _ | k
    · exact .inl rfl
    · exact .inr (by simp)
  · obtain ⟨b1, b2⟩ := h.fr i f hf
    exact ⟨b1.below hb (by have := b1.lt; omega), b2⟩
theorem Tb.far (h : Tb w base V g lv fs) {p : Addr} {u : Value} (hp : p.block < base) : Tb (w.setCell p u) base V g lv fs := by
  refine ⟨h.hd.far (by have := h.bg; omega) _, own_far h.own (fun e => by have := h.own.lt _ e; omega), fun i f hf => ?_, h.inj, h.bg, h.hv, h.ll⟩
  obtain ⟨b1, b2, b3, b4⟩ := h.fr i f hf
  exact ⟨b1.far (by omega) _, b2, b3, b4⟩
theorem Tb.set_v {i v : Nat} {f : Nat × List Int} {x : Int} (h : Tb w base V g lv fs) (hf : fs[i]? = some f) (hv : v ≤ V) (hx : -65536 ≤ x) (hx' : x ≤ 65536) :
    Tb (w.setCell ⟨f.1, v, none⟩ (.int .i64 x)) base V g lv (fs.set i (f.1, f.2.set v x)) := by
  obtain ⟨b1, b2, b3, b4⟩ := h.fr i f hf
  have hil : i < fs.length := (List.getElem?_eq_some_iff.1 hf).1
  have hne : g ≠ f.1 := h.hd.ne_ b1 (by decide)
  have hno : lv.ownBlock ≠ some f.1 := own_blk_ne h.own b1 (by decide)
  have key : ∀ j f', (fs.set i (f.1, f.2.set v x))[j]? = some f' → (j = i ∧ f' = (f.1, f.2.set v x)) ∨ (j ≠ i ∧ fs[j]? = some f') := fun j f' hj => by
    rw [List.getElem?_set] at hj
    by_cases e : i = j
    · subst e
      rw [if_pos rfl, if_pos hil] at hj
      injection hj with hj
      exact .inl ⟨rfl, hj.symm⟩
    · rw [if_neg e] at hj
      exact .inr ⟨fun e' => e e'.symm, hj⟩
  refine ⟨h.hd.far hne _, ?_, fun j f' hj => ?_, fun j k f1 f2 h1 h2 e => ?_, h.bg, h.hv, by simpa using h.ll⟩
  · have ev : fvals V (fs.set i (f.1, f.2.set v x)) = fvals V fs := by
      unfold fvals
      apply List.ext_getElem?
      intro k
      rw [List.getElem?_map, List.getElem?_map, List.getElem?_set]
      by_cases e : i = k
      · subst e; rw [if_pos rfl, if_pos hil, hf]; rfl
      · rw [if_neg e]
    rw [ev, List.length_set]
    exact own_far h.own hno
  · rcases key j f' hj with ⟨_, rfl⟩ | ⟨hji, hj'⟩
    · refine ⟨?_, by simpa using b2, b3, fun u => ?_⟩
      · have := b1.set_ v (.int .i64 x)
        rwa [List.setIfInBounds_toArray, i64s_set] at this
      · rw [at_set]; split
        · exact ⟨hx, hx'⟩
        · exact b4 u
    · obtain ⟨c1, c2, c3, c4⟩ := h.fr j f' hj'
      exact ⟨c1.far (fun e => hji (h.inj j i f' f hj' hf e)) _, c2, c3, c4⟩
  · rcases key j f1 h1 with ⟨rfl, rfl⟩ | ⟨h3, h4⟩ <;> rcases key k f2 h2 with ⟨rfl, rfl⟩ | ⟨h5, h6⟩
    · rfl
    · exact h.inj _ _ _ _ hf h6 e
    · exact h.inj _ _ _ _ h4 hf e
    · exact h.inj _ _ _ _ h4 h6 e
end
/-- a table of frames -/
def TS (w : World) (base V g : Nat) (frames : List (List Int)) : Prop := ∃ (lv : Value) (fs : List (Nat × List Int)), Tb w base V g lv fs ∧ fs.map (·.2) = frames
theorem TS.drewN {w : World} {base V g : Nat} {frames : List (List Int)} (h : TS w base V g frames) (q : Nat) : TS (w.drewN q) base V g frames := by
  obtain ⟨lv, fs, h, e⟩ := h; exact ⟨lv, fs, h.drewN q, e⟩
theorem TS.drew {w : World} {base V g : Nat} {frames : List (List Int)} (h : TS w base V g frames) : TS w.drew base V g frames := by
  obtain ⟨lv, fs, h, e⟩ := h; exact ⟨lv, fs, h.drew, e⟩
theorem TS.below {w w' : World} {base V g : Nat} {frames : List (List Int)} (h : TS w base V g frames) (hb : Below w.heap.size w w') : TS w' base V g frames := by
  obtain ⟨lv, fs, h, e⟩ := h; exact ⟨lv, fs, h.below hb (Nat.le_refl _), e⟩

theorem frames_any {w : World} {base V g : Nat} {frames : List (List Int)} (h : TS w base V g frames) :
    Calls Try.prog 60 #[.pointer (some ⟨g, 0, none⟩)] w fun e w' => e = .returned (.int .i64 (frames.length : Nat)) ∧ w = w' := by
  obtain ⟨lv, fs, h, rfl⟩ := h
  rw [List.length_map]
  have c1 := h.c1
  have hl := h.ll
  obtain ⟨A, c, rfl, _, _⟩ := h.slc
  clear h
  go_enter Try.func60, Try.ntmps60
  go_wp2
  go_ret
  exact ⟨rfl, rfl⟩
theorem framesNil_any (w : World) : Calls Try.prog 60 #[.pointer none] w fun e w' => e = .returned (.int .i64 0) ∧ w = w' := by
  go_enter Try.func60, Try.ntmps60
  go_wp2
  go_ret
  exact ⟨rfl, rfl⟩
def RetTb (w : World) (V : Nat) (e : Ending) (w' : World) : Prop :=
  ∃ g, e = .returned (.pointer (some ⟨g, 0, none⟩)) ∧ TS w' w.heap.size V g [] ∧ Below w.heap.size w w'
theorem newTable_any (V : Nat) (w : World) (hV : V ≤ 2000) : Calls Try.prog 78 #[.int .i64 V] w (RetTb w V) := by
  go_enter Try.func78, Try.ntmps78
  go_wp2
  go_ret
  exact ⟨w.heap.size, rfl, ⟨.slice none 0 0, [], ⟨Blk.new _ _ _, World.ownsRow_nil _ _ _ _, fun i f h => by simp at h, fun i j f f' h => by simp at h, Nat.le_refl _, hV, by simp⟩, rfl⟩, (Below.refl _ _).alloc (Nat.le_refl _) _⟩
end Go.Proofs.Ytcfkagielgnkkaa
