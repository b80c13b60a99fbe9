/- The table's Push, Set, Lit; the nil table's. -/
import Derived.Test.YtcfkagielgnkkaaTableWalk
namespace Go.Proofs.Ytcfkagielgnkkaa
open Go.RowKit Pl
set_option linter.unusedVariables false
theorem info_ints : (Try.prog.info? 34).map (fun i => (i.zero, i.size, i.bytes)) = some (some (.slice none 0 0), 1, 24) := by kernel_rfl
/-- append of one value of one cell onto a row of the call's own: where the new row lies -/
theorem wpList_append_val {P : Program} (W : World) {ops : Array Oper} {rest : List Oper} {o : Oper} {a : Act} {Q : Exit → Act → World → Prop} (hgd : o.guard = none) (s x : Operand) (t : TypeId)
    (ho : o.op = .call { callee := .builtin .append, args := #[s, x], argTypes := #[t, t] })
    (base : Nat) (e : TypeId) (z : Value) (bytes : Nat) (ht : P.underlying t = some (.slice e)) (hi : (P.info? e).map (fun i => (i.zero, i.size, i.bytes)) = some (some z, 1, bytes)) (hz : z.cells.size = 1)
    (v : Value) (n : Nat) (xs : List Value) (hs : a.eval s = v) (hown : W.ownsRow base e 1 v n xs)
    (u : Value) (hu : u.oneCell' = true) (m : Nat) (hx : a.eval x = .slice (some ⟨m, 0, none⟩) 1 1) (hm : m = W.heap.size) (hn : n ≤ 1000000) (hby : bytes ≤ 1000) (hbase : base ≤ W.heap.size)
    (h : ∀ v' w', w'.ownsRow base e 1 v' (n + 1) (xs ++ [u]) → W.grownBy w' v.ownBlock → Below base W w' → (v'.ownBlock = v.ownBlock ∨ v'.ownBlock = some (W.heap.size + 1)) → wpList P ops Q rest (a.put o.dst v') w') : wpList P ops Q (o :: rest) a (W.alloc (.cells #[u] e)) := by
  subst hm
  obtain ⟨i0, hi0, hz0, hz1, hz2⟩ := info_parts hi
  have hr : Reads (W.alloc (.cells #[u] e)) (W.heap.size + 1) 1 (some ⟨W.heap.size, 0, none⟩) 1 [u] := by
    have := (Blk.new W e #[u]).reads (xs := [u])
    simpa using this
  have hbb : (n + 1) * bytes ≤ 1000001 * 1000 := Nat.mul_le_mul (by omega) hby
  refine wpList_append_any _ hgd s x t ho base e i0 z 1 bytes ht hi0 hz0 hz1 hz2 hz (by omega) v n xs hs (hown.alloc _) _ _ 1 1 [u] hx hr (by intro u' hu'; simp at hu'; subst hu'; exact hu) (by unfold maxLen; omega) (by omega) (by simp; omega) ?_
  intro v' w' h2 h3 h4
  have hg : W.grownBy w' v.ownBlock := ⟨h3.os, h3.tape, h3.output, Nat.le_trans (by simp) h3.size, fun i hi hne => (h3.block i (by simp; omega) hne).trans (Below.heap_alloc W _ i hi)⟩
  refine h v' w' h2 hg ?_ (by simpa using h4)
  refine ⟨hg.os, hg.tape, hg.output, hg.size, fun i hi => hg.block i (by omega) ?_⟩
  intro e
  have := (hown.lt i e.symm).1
  omega
def frame0 (V : Nat) : List Int := (zeros (V + 1)).set 0 (-1)
theorem frame0_at (V v : Nat) : at_ (frame0 V) v = if v = 0 then -1 else 0 := by
  unfold frame0
  rw [at_set, zeros_len, zeros_at]
  by_cases h : v = 0
  · rw [if_pos ⟨h.symm, by omega⟩, if_pos h]
  · rw [if_neg (fun e => h e.1.symm), if_neg h]
/-- the world of a table behind Push -/
theorem Tb.pushed {w w1 w3 : World} {base V g : Nat} {lv v' : Value} {fs : List (Nat × List Int)} (h : Tb w base V g lv fs) (hl : fs.length < 1000000)
    (hB : Blk w1 w.heap.size 3 (i64s (zeros (V + 1))).toArray) (hb : Below w.heap.size w w1)
    (ho : w3.ownsRow base 34 1 v' (fs.length + 1) (fvals V fs ++ [.slice (some ⟨w.heap.size, 0, none⟩) (V + 1) (V + 1)])) (hg : (w1.setCell ⟨w.heap.size, 0, none⟩ (.int .i64 (-1))).grownBy w3 lv.ownBlock) :
    Tb (w3.setCell ⟨g, 1, none⟩ v') base V g v' (fs ++ [(w.heap.size, frame0 V)]) := by
  have hbase : base ≤ w.heap.size := Nat.le_trans h.bg (Nat.le_of_lt h.hd.lt)
  have hgl := h.hd.lt
  have b1 : Blk w3 g 108 #[.int .i64 V, lv] := ((h.hd.below hb hgl).far (p := ⟨w.heap.size, 0, none⟩) (by show g ≠ w.heap.size; omega) _).grown hg (fun e => own_blk_ne h.own h.hd (by decide) e.symm)
  have b2 : Blk w3 w.heap.size 3 (i64s (frame0 V)).toArray := by
    have := hB.set_ 0 (.int .i64 (-1))
    rw [List.setIfInBounds_toArray, i64s_set] at this
    exact this.grown hg (fun e => by have := h.own.lt _ e.symm; omega)
  have fr3 : ∀ (i : Nat) (f : Nat × List Int), fs[i]? = some f → Blk w3 f.1 3 (i64s f.2).toArray := fun i f hf => by
    obtain ⟨c1, _⟩ := h.fr i f hf
    have := c1.lt
    exact ((c1.below hb this).far (p := ⟨w.heap.size, 0, none⟩) (by show f.1 ≠ w.heap.size; omega) _).grown hg (fun e => own_blk_ne h.own c1 (by decide) e.symm)
  have key : ∀ (j : Nat) (f' : Nat × List Int), (fs ++ [(w.heap.size, frame0 V)])[j]? = some f' → (j = fs.length ∧ f' = (w.heap.size, frame0 V)) ∨ fs[j]? = some f' := fun j f' hj => by
    rcases Nat.lt_or_ge j fs.length with h1 | h1
    · rw [List.getElem?_append_left h1] at hj; exact .inr hj
    · rw [List.getElem?_append_right h1] at hj
      have h0 : j - fs.length = 0 := by
        rcases Nat.eq_zero_or_pos (j - fs.length) with h2 | h2
        · exact h2
        · rw [List.getElem?_eq_none (by simp; omega)] at hj; cases hj
      rw [h0] at hj
      simp at hj
      exact .inl ⟨by omega, hj.symm⟩
  refine ⟨?_, ?_, fun j f hj => ?_, fun j k f f' hj hk e => ?_, h.bg, h.hv, by simp; omega⟩
  · have := b1.set_ 1 v'
    simpa using this
  · have ev : fvals V (fs ++ [(w.heap.size, frame0 V)]) = fvals V fs ++ [.slice (some ⟨w.heap.size, 0, none⟩) (V + 1) (V + 1)] := by simp [fvals]
    rw [ev, List.length_append]
    exact own_far ho (own_blk_ne ho b1 (by decide))
  · rcases key j f hj with ⟨_, rfl⟩ | hj
    · refine ⟨b2.far (by show w.heap.size ≠ g; omega) _, by simp [frame0, zeros], hbase, fun v => ?_⟩
      rw [frame0_at]; split <;> omega
    · obtain ⟨c1, c2, c3, c4⟩ := h.fr j f hj
      exact ⟨(fr3 j f hj).far (c1.ne_ h.hd (by decide)) _, c2, c3, c4⟩
  · have lt1 : ∀ (j : Nat) (f : Nat × List Int), fs[j]? = some f → f.1 < w.heap.size := fun j f hf => (h.fr j f hf).1.lt
    rcases key j f hj with ⟨rfl, rfl⟩ | hj <;> rcases key k f' hk with ⟨rfl, rfl⟩ | hk
    · rfl
    · have := lt1 k f' hk; simp at e; omega
    · have := lt1 j f hj; simp at e; omega
    · exact h.inj j k f f' hj hk e
theorem zeros_vals (n : Nat) : i64s (zeros n) = List.replicate n (.int .i64 0) := by simp [i64s, zeros]
theorem Tb.hd3 {w w1 w3 : World} {base V g : Nat} {lv : Value} {fs : List (Nat × List Int)} (h : Tb w base V g lv fs) (hb : Below w.heap.size w w1) (hg : (w1.setCell ⟨w.heap.size, 0, none⟩ (.int .i64 (-1))).grownBy w3 lv.ownBlock) :
    w3.cell? ⟨g, 1, none⟩ = some lv ∧ w3.frozen? ⟨g, 1, none⟩ = false := by
  have hgl := h.hd.lt
  have b1 : Blk w3 g 108 #[.int .i64 V, lv] := ((h.hd.below hb hgl).far (p := ⟨w.heap.size, 0, none⟩) (by show g ≠ w.heap.size; omega) _).grown hg (fun e => own_blk_ne h.own h.hd (by decide) e.symm)
  exact ⟨by simpa using b1.cell 1, b1.frozen 1⟩
def TPushed (w : World) (base V g : Nat) (frames : List (List Int)) (e : Ending) (w' : World) : Prop :=
  e = .returned (.int .i64 (frames.length : Nat)) ∧ TS w' base V g (frames ++ [frame0 V]) ∧ Below base w w'
set_option maxHeartbeats 800000 in
theorem tpush_any {w : World} {base V g : Nat} {frames : List (List Int)} (h : TS w base V g frames) (hl : frames.length < 1000000) :
    Calls Try.prog 56 #[.pointer (some ⟨g, 0, none⟩)] w (TPushed w base V g frames) := by
  obtain ⟨lv, fs, h, rfl⟩ := h
  rw [List.length_map] at hl
  have hV := h.hv
  have c0 := h.c0
  have hown := h.own
  have hbase : base ≤ w.heap.size := Nat.le_trans h.bg (Nat.le_of_lt h.hd.lt)
  have hbg := h.bg
  have hgl := h.hd.lt
  have HH := Lib.hid h
  clear h
  go_enter Try.func56, Try.ntmps56
  go_wp2_with (first
    | (at_make; refine wpList_make_blk _ rfl _ _ 34 rfl 3 (.int .i64 0) 8 Try.underlying34 info_int rfl _ _ _ _ (V + 1) rfl rfl (by omega) (by omega) (by omega) (by omega) ?_; intro w1 hbk hbl hz; have HZ := Lib.hid hz; clear hz; have HBL := Lib.hid hbl; have hc00 : w1.cell? ⟨w.heap.size, 0, none⟩ = some (.int .i64 0) := (by rw [hbk.cell 0]; simp [List.replicate_succ]); have hf00 := hbk.frozen 0; have HBK := Lib.hid hbk; have hc1 : (w1.setCell ⟨w.heap.size, 0, none⟩ (.int .i64 (-1))).cell? ⟨g, 1, none⟩ = some lv := (by rw [World.cell?_setCell_other _ _ _ _ (by intro e; injection e; omega), hbl.cell (by exact hgl)]; exact HH.out.c1); have hown1 := hown.kept (row := none) ⟨hbl.os, hbl.tape, hbl.output, hbl.size, fun i hi _ => hbl.block i hi⟩ (by rcases lv.ownBlock with _ | k; exact .inl rfl; exact .inr (by simp)); have hown2 := own_far (p := ⟨w.heap.size, 0, none⟩) (u := .int .i64 (-1)) hown1 (fun e => by have := hown.lt _ e; simp at this); clear hbk hbl hown1)
    | (at_builtin; (refine wpList_append_val _ rfl _ _ 106 rfl base 34 (.slice none 0 0) 24 Try.underlying106 info_ints rfl lv _ _ rfl hown2 _ rfl _ rfl (by simp) (by omega) (by omega) (by simp; have := HZ.out; omega) ?_); intro v' w3 hown' hg' hb' hat'; obtain ⟨hcg, hfg⟩ := HH.out.hd3 HBL.out hg'; have HP := Lib.hid (HH.out.pushed hl (by rw [zeros_vals]; exact HBK.out) HBL.out hown' hg'); have HB3 := Lib.hid hb'; obtain ⟨A', c', rfl, hc1', hc2', _⟩ := own_slice hown'; clear hown' hg' hb' hat'))
  go_ret
  refine ⟨by rw [List.length_map]; rfl, ⟨_, _, HP.out, by simp⟩, ?_⟩
  exact (((HBL.out.mono hbase).setCell (p := ⟨w.heap.size, 0, none⟩) hbase _).trans HB3.out).setCell hbg _
end Go.Proofs.Ytcfkagielgnkkaa
