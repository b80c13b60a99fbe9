/- The table's Push and Set, with what they may change: the table's own blocks alone. -/
import Derived.Test.YtcfkagielgnkkaaTableNils
namespace Go.Proofs.Ytcfkagielgnkkaa
open Go.RowKit Pl
set_option linter.unusedVariables false
/-- only blocks of D, and new ones, have changed -/
structure Frm (D : Nat → Prop) (w w' : World) : Prop where
  os : w'.os = w.os
  tape : w'.tape = w.tape
  output : w'.output = w.output
  size : w.heap.size ≤ w'.heap.size
  block : ∀ b, b < w.heap.size → ¬ D b → w'.heap[b]? = w.heap[b]?
section
variable {D : Nat → Prop} {a w w' : World}
theorem Frm.refl (D : Nat → Prop) (w : World) : Frm D w w := ⟨rfl, rfl, rfl, Nat.le_refl _, fun _ _ _ => rfl⟩
theorem Frm.of_below (h : Below a.heap.size a w) : Frm D a w := ⟨h.os, h.tape, h.output, h.size, fun b hb _ => h.block b hb⟩
theorem Frm.setCell (h : Frm D a w) {p : Addr} {u : Value} (hp : D p.block) : Frm D a (w.setCell p u) :=
  ⟨h.os, h.tape, h.output, by simpa [World.setCell] using h.size, fun b hb hn => (Below.heap_setCell w p u b (fun e => hn (e ▸ hp))).trans (h.block b hb hn)⟩
theorem Frm.setCell_new (h : Frm D a w) {p : Addr} {u : Value} (hp : a.heap.size ≤ p.block) : Frm D a (w.setCell p u) :=
  ⟨h.os, h.tape, h.output, by simpa [World.setCell] using h.size, fun b hb hn => (Below.heap_setCell w p u b (by omega)).trans (h.block b hb hn)⟩
theorem Frm.grown (h : Frm D a w) {row : Option Nat} (hg : w.grownBy w' row) (hr : ∀ b, row = some b → D b) : Frm D a w' :=
  ⟨hg.os.trans h.os, hg.tape.trans h.tape, hg.output.trans h.output, Nat.le_trans h.size hg.size, fun b hb hn => (hg.block b (Nat.lt_of_lt_of_le hb h.size) (fun e => hn (hr b e.symm))).trans (h.block b hb hn)⟩
theorem Frm.drewN (h : Frm D a w) (n : Nat) : Frm D a (w.drewN n) := ⟨h.os, h.tape, h.output, h.size, h.block⟩
theorem Frm.drew (h : Frm D a w) : Frm D a w.drew := ⟨h.os, h.tape, h.output, h.size, h.block⟩
theorem Frm.below (h : Frm D w w') {B : Nat} (hB : B ≤ w.heap.size) (hD : ∀ b, D b → B ≤ b) : Below B w w' :=
  ⟨h.os, h.tape, h.output, h.size, fun b hb => h.block b (by omega) (fun hd => by have := hD b hd; omega)⟩
theorem Frm.cell (h : Frm D w w') {p : Addr} (hp : p.block < w.heap.size) (hn : ¬ D p.block) : w'.cell? p = w.cell? p := World.cell?_of_block (h.block _ hp hn)
theorem Frm.blk (h : Frm D w w') {g : Nat} {t : TypeId} {cs : Array Value} (hb : Blk w g t cs) (hn : ¬ D g) : Blk w' g t cs := (h.block g hb.lt hn).trans hb
theorem Frm.own (h : Frm D w w') {base : Nat} {e : TypeId} {size n : Nat} {v : Value} {xs : List Value} (ho : w.ownsRow base e size v n xs) (hn : ∀ b, v.ownBlock = some b → ¬ D b) : w'.ownsRow base e size v n xs := by
  refine ⟨ho.1, ?_⟩
  rcases ho.2 with h1 | ⟨g, cap, cur, rfl, hb, hh, hl, hm, hs, ht⟩
  · exact .inl h1
  · have hB : Blk w g e cur := hh
    exact .inr ⟨g, cap, cur, rfl, hb, h.blk hB (hn g rfl), hl, hm, hs, ht⟩
end
theorem Tb.base0 {w : World} {base V g : Nat} {lv : Value} {fs : List (Nat × List Int)} (h : Tb w base V g lv fs) : Tb w 0 V g lv fs := by
  refine ⟨h.hd, ⟨h.own.1, ?_⟩, fun i f hf => ?_, h.inj, Nat.zero_le _, h.hv, h.ll⟩
  · rcases h.own.2 with h1 | ⟨g, cap, cur, e, hb, r⟩
    · exact .inl h1
    · exact .inr ⟨g, cap, cur, e, Nat.zero_le _, r⟩
  · obtain ⟨b1, b2, b3, b4⟩ := h.fr i f hf
    exact ⟨b1, b2, Nat.zero_le _, b4⟩
/-- a table of frames whose blocks are in D -/
def TD (w : World) (V g : Nat) (frames : List (List Int)) (D : Nat → Prop) : Prop :=
  ∃ (lv : Value) (fs : List (Nat × List Int)), Tb w 0 V g lv fs ∧ fs.map (·.2) = frames ∧ D g ∧ (∀ b, lv.ownBlock = some b → D b) ∧ ∀ (i : Nat) (f : Nat × List Int), fs[i]? = some f → D f.1
theorem TD.ts {w : World} {V g : Nat} {frames : List (List Int)} {D : Nat → Prop} (h : TD w V g frames D) : TS w 0 V g frames := by
  obtain ⟨lv, fs, h, e, _⟩ := h; exact ⟨lv, fs, h, e⟩
theorem TD.frm {w w' : World} {V g : Nat} {frames : List (List Int)} {D D' : Nat → Prop} (h : TD w V g frames D) (hf : Frm D' w w') (hd : ∀ b, D b → ¬ D' b) : TD w' V g frames D := by
  obtain ⟨lv, fs, h, e, d1, d2, d3⟩ := h
  refine ⟨lv, fs, ⟨hf.blk h.hd (hd _ d1), hf.own h.own (fun b hb => hd b (d2 b hb)), fun i f hi => ?_, h.inj, h.bg, h.hv, h.ll⟩, e, d1, d2, d3⟩
  obtain ⟨b1, b2⟩ := h.fr i f hi
  exact ⟨hf.blk b1 (hd _ (d3 i f hi)), b2⟩
theorem TD.drewN {w : World} {V g : Nat} {frames : List (List Int)} {D : Nat → Prop} (h : TD w V g frames D) (q : Nat) : TD (w.drewN q) V g frames D := h.frm (D' := fun _ => False) ((Frm.refl _ _).drewN q) (fun _ _ h => h)
theorem TD.drew {w : World} {V g : Nat} {frames : List (List Int)} {D : Nat → Prop} (h : TD w V g frames D) : TD w.drew V g frames D := h.frm (D' := fun _ => False) (Frm.refl _ _).drew (fun _ _ h => h)
theorem TD.lt {w : World} {V g : Nat} {frames : List (List Int)} {D : Nat → Prop} (h : TD w V g frames D) : g < w.heap.size := by
  obtain ⟨lv, fs, h, _⟩ := h; exact h.hd.lt
theorem RetTb.td {w w' : World} {V g : Nat} (h : TS w' w.heap.size V g []) : TD w' V g [] (fun b => w.heap.size ≤ b) := by
  obtain ⟨lv, fs, h, e⟩ := h
  refine ⟨lv, fs, h.base0, e, h.bg, fun b hb => (h.own.lt b hb).1, fun i f hf => (h.fr i f hf).2.2.1⟩
def TPushedD (w : World) (V g : Nat) (frames : List (List Int)) (D : Nat → Prop) (e : Ending) (w' : World) : Prop :=
  e = .returned (.int .i64 (frames.length : Nat)) ∧ ∃ D' : Nat → Prop, TD w' V g (frames ++ [frame0 V]) D' ∧ (∀ b, D' b → D b ∨ w.heap.size ≤ b) ∧ Frm D w w'
set_option maxHeartbeats 800000 in
theorem tpushD_any {w : World} {V g : Nat} {frames : List (List Int)} {D : Nat → Prop} (h : TD w V g frames D) (hl : frames.length < 1000000) :
    Calls Try.prog 56 #[.pointer (some ⟨g, 0, none⟩)] w (TPushedD w V g frames D) := by
  obtain ⟨lv, fs, h, rfl, d1, d2, d3⟩ := h
  have HD1 := Lib.hid d1
  have HD2 := Lib.hid d2
  have HD3 := Lib.hid d3
  clear d1 d2 d3
  rw [List.length_map] at hl
  have hV := h.hv
  have c0 := h.c0
  have hown := h.own
  have hbase : 0 ≤ w.heap.size := Nat.zero_le _
  have hbg := h.bg
  have hgl := h.hd.lt
  have HH := Lib.hid h
  clear h
  go_enter Try.func56, Try.ntmps56
  go_wp2_with (first
    | (at_make; refine wpList_make_blk _ rfl _ _ 34 rfl 3 (.int .i64 0) 8 Try.underlying34 info_int rfl _ _ _ _ (V + 1) rfl rfl (by omega) (by omega) (by omega) (by omega) ?_; intro w1 hbk hbl hz; have HZ := Lib.hid hz; clear hz; have HBL := Lib.hid hbl; have hc00 : w1.cell? ⟨w.heap.size, 0, none⟩ = some (.int .i64 0) := (by rw [hbk.cell 0]; simp [List.replicate_succ]); have hf00 := hbk.frozen 0; have HBK := Lib.hid hbk; have hc1 : (w1.setCell ⟨w.heap.size, 0, none⟩ (.int .i64 (-1))).cell? ⟨g, 1, none⟩ = some lv := (by rw [World.cell?_setCell_other _ _ _ _ (by intro e; injection e; omega), hbl.cell (by exact hgl)]; exact HH.out.c1); have hown1 := hown.kept (row := none) ⟨hbl.os, hbl.tape, hbl.output, hbl.size, fun i hi _ => hbl.block i hi⟩ (by rcases lv.ownBlock with _ | k; exact .inl rfl; exact .inr (by simp)); have hown2 := own_far (p := ⟨w.heap.size, 0, none⟩) (u := .int .i64 (-1)) hown1 (fun e => by have := hown.lt _ e; simp at this); clear hbk hbl hown1)
    | (at_builtin; (refine wpList_append_val _ rfl _ _ 106 rfl 0 34 (.slice none 0 0) 24 Try.underlying106 info_ints rfl lv _ _ rfl hown2 _ rfl _ rfl (by simp) (by omega) (by omega) (Nat.zero_le _) ?_); intro v' w3 hown' hg' hb' hat'; obtain ⟨hcg, hfg⟩ := HH.out.hd3 HBL.out hg'; have HP := Lib.hid (HH.out.pushed hl (by rw [zeros_vals]; exact HBK.out) HBL.out hown' hg'); have HG3 := Lib.hid hg'; have HAT := Lib.hid hat'; obtain ⟨A', c', rfl, hc1', hc2', _⟩ := own_slice hown'; clear hown' hg' hb' hat'))
  go_ret
  refine ⟨by rw [List.length_map]; rfl, fun b => D b ∨ w.heap.size ≤ b, ⟨_, _, HP.out, by simp, .inl HD1.out, fun b hb => ?_, fun j f hj => ?_⟩, fun b hb => hb, ?_⟩
  · rcases HAT.out with e | e
    · exact .inl (HD2.out b (by rw [← e]; exact hb))
    · rw [hb] at e
      injection e with e
      have h1 := HZ.out
      simp at e
      exact .inr (by omega)
  · rcases Nat.lt_or_ge j fs.length with h1 | h1
    · rw [List.getElem?_append_left h1] at hj; exact .inl (HD3.out j f hj)
    · rw [List.getElem?_append_right h1] at hj
      have h0 : j - fs.length = 0 := by
        rcases Nat.eq_zero_or_pos (j - fs.length) with h2 | h2
        · exact h2
        · rw [List.getElem?_eq_none (by simp; omega)] at hj; cases hj
      rw [h0] at hj
      simp at hj
      subst hj
      exact .inr (Nat.le_refl _)
  · refine Frm.setCell (Frm.grown (Frm.setCell_new (Frm.of_below HBL.out) (Nat.le_refl _)) HG3.out (fun b hb => HD2.out b hb)) HD1.out
set_option maxHeartbeats 800000 in
theorem tsetD_yes {w : World} {V g : Nat} {frames : List (List Int)} {D : Nat → Prop} (frame v l : Int) (h : TD w V g frames D) (hok : setOk frames.length V frame v l) :
    Calls Try.prog 57 #[.pointer (some ⟨g, 0, none⟩), .int .i64 frame, .int .i64 v, .int .i64 l] w fun e w' => e = .returned (.bool true) ∧ TD w' V g (fset frames frame v l) D ∧ Frm D w w' := by
  obtain ⟨h1, h2, h3, h4, h5, h6, h7⟩ := hok
  have HT := Lib.hid h.ts
  obtain ⟨lv, fs, h, rfl, d1, d2, d3⟩ := h
  have c0 := h.c0
  have hV := h.hv
  have hn := h.ll
  rw [List.length_map] at h2
  obtain ⟨i, rfl⟩ := Int.eq_ofNat_of_zero_le h1
  obtain ⟨v, rfl⟩ := Int.eq_ofNat_of_zero_le (show 0 ≤ v by omega)
  have c1 := h.c1
  obtain ⟨gl, c, f, rfl, hlc, hf, n1, n2, n3, hci, hcv⟩ := h.at_f (i := i) (by omega)
  obtain ⟨hcv, hfv⟩ := hcv v (by omega)
  have HS2 : Hid (TD (w.setCell ⟨f.1, v, none⟩ (.int .i64 l)) V g (fset (fs.map (·.2)) i v l) D) := ⟨_, _, h.set_v hf (by omega) h6 h7, fset_map fs i v l f hf, d1, d2, fun j f' hj => by
    rw [List.getElem?_set] at hj
    split at hj
    · split at hj
      · injection hj with hj; subst hj; exact d3 i f hf
      · cases hj
    · exact d3 j f' hj⟩
  have hdf : Hid (D f.1) := d3 i f hf
  obtain ⟨n, hnn⟩ : ∃ n, n = fs.length := ⟨_, rfl⟩
  rw [← hnn] at h2 hn c1 hlc
  have HN := Lib.hid hnn
  have h5' : (l == 0) = false := beq_eq_false_iff_ne.2 h5
  have hin : i < n := by omega
  have hvn : v < V + 1 := by omega
  clear h hnn h5 hf d1 d2 d3
  go_enter Try.func57, Try.ntmps57
  go_wp2_with fail
  refine (frames_any HT.out).mono ?_
  rw [List.length_map, ← HN.out]
  rintro e w' ⟨rfl, rfl⟩
  go_wp2_with fail
  go_ret
  exact ⟨rfl, HS2.out, (Frm.refl _ _).setCell hdf.out⟩
end Go.Proofs.Ytcfkagielgnkkaa
