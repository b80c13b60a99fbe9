/- A heap of variables: made, grown, pushed onto. -/
import Derived.Test.YtghmfggmimoinaaGreatSgD
namespace Go.Proofs.YtghmfggmimoinaaGreat
open Go Go.RowKit
structure Hq (w : World) (B g V n : Nat) (vl : Value) (bp cp ba ca : Nat) (ls ps az : List Int) : Prop where
 bx : Blk w g 68 #[vl, .slice (some ⟨bp, 0, none⟩) (V + 1) cp, .slice (some ⟨ba, 0, none⟩) (V + 1) ca]
 rl : w.ownsRow B 3 1 vl n (iv ls)
 rp : w.ownsRow B 3 1 (.slice (some ⟨bp, 0, none⟩) (V + 1) cp) (V + 1) (iv ps)
 ra : w.ownsRow B 2 1 (.slice (some ⟨ba, 0, none⟩) (V + 1) ca) (V + 1) (iv az)
 ne : vl.ownBlock ≠ some bp
 rng : ∀ i, i < n → 1 ≤ ls.getD i 0 ∧ ls.getD i 0 ≤ V
 hV : V ≤ 100000
 le : B ≤ g
def HqE (w : World) (B g V n : Nat) : Prop := ∃ vl bp cp ba ca ls ps az, Hq w B g V n vl bp cp ba ca ls ps az
theorem HqE.frm {ts : List TypeId} {B B' g V n : Nat} {w w' : World} (h : HqE w B g V n) (hf : Frm ts B' w w') (h1 : 68 ∉ ts) (h2 : 3 ∉ ts) (h3 : 2 ∉ ts) : HqE w' B g V n := by
 obtain ⟨vl, bp, cp, ba, ca, ls, ps, az, h⟩ := h
 exact ⟨vl, bp, cp, ba, ca, ls, ps, az, hf.box _ _ _ h.bx h1, own_frm h.rl hf h2, own_frm h.rp hf h2, own_frm h.ra hf h3, h.ne, h.rng, h.hV, h.le⟩
theorem wpList_app_num {P : Program} (W : World) {ops : Array Oper} {rest : List Oper} {o : Oper} {a : Act} {Q : Exit → Act → World → Prop} (hgd : o.guard = none) (s x : Operand) (t : TypeId)
  (ho : o.op = .call { callee := .builtin .append, args := #[s, x], argTypes := #[t, t] })
  (base : Nat) (e : TypeId) (z : Value) (bytes : Nat) (ht : P.underlying t = some (.slice e)) (hi : (P.info? e).map (fun i => (i.zero, i.size, i.bytes)) = some (some z, 1, bytes)) (hz : z.cells.size = 1) (hby : bytes ≤ 1000)
  (v : Value) (n : Nat) (xs : List Value) (hs : a.eval s = v) (hown : W.ownsRow base e 1 v n xs)
  (u : Value) (hu : u.oneCell' = true) (q : Nat) (hx : a.eval x = .slice (some ⟨q, 0, none⟩) 1 1) (hq : q = W.heap.size) (hn : n ≤ 1048576) (hbase : base ≤ W.heap.size)
  (h : ∀ v' w', w'.ownsRow base e 1 v' (n + 1) (xs ++ [u]) → W.grownBy w' v.ownBlock → (v'.ownBlock = v.ownBlock ∨ v'.ownBlock = some (W.heap.size + 1)) → wpList P ops Q rest (a.put o.dst v') w') : wpList P ops Q (o :: rest) a (W.alloc (.cells #[u] e)) := by
 subst hq
 obtain ⟨i0, hi0, hz0, hz1, hz2⟩ := info_parts hi
 have hr : Reads (W.alloc (.cells #[u] e)) (W.heap.size + 1) 1 (some ⟨W.heap.size, 0, none⟩) 1 [u] := by
  have := (Blk.new W e #[u]).reads (xs := [u])
  simpa using this
 have hbb : (n + 1) * bytes ≤ 1048577 * 1000 := Nat.mul_le_mul (by omega) hby
 refine Zlc _ hgd s x t ho base e i0 z 1 bytes ht hi0 hz0 hz1 hz2 hz (by omega) v n xs hs (hown.alloc _) _ _ 1 1 [u] hx hr (by intro y hy; simp at hy; subst hy; exact hu) (by unfold maxLen; omega) (by omega) (by simp; omega) ?_
 intro v' w' h2 h3 h4
 have hg : W.grownBy w' v.ownBlock := ⟨h3.os, h3.tape, h3.output, Nat.le_trans (by simp) h3.size, fun i hi hne => (h3.block i (by simp; omega) hne).trans (Below.heap_alloc W _ i hi)⟩
 exact h v' w' h2 hg (by simpa using h4)
theorem step_app_num {P : Program} (W : World) {ops : Array Oper} {o : Oper} {a : Act} {K : Act → World → Prop} {Q : Exit → Act → World → Prop} {E : Prop} (hgd : o.guard = none) (s x : Operand) (t : TypeId)
  (ho : o.op = .call { callee := .builtin .append, args := #[s, x], argTypes := #[t, t] })
  (base : Nat) (e : TypeId) (z : Value) (bytes : Nat) (ht : P.underlying t = some (.slice e)) (hi : (P.info? e).map (fun i => (i.zero, i.size, i.bytes)) = some (some z, 1, bytes)) (hz : z.cells.size = 1) (hby : bytes ≤ 1000)
  (v : Value) (n : Nat) (xs : List Value) (hs : a.eval s = v) (hown : W.ownsRow base e 1 v n xs)
  (u : Value) (hu : u.oneCell' = true) (q : Nat) (hx : a.eval x = .slice (some ⟨q, 0, none⟩) 1 1) (hq : q = W.heap.size) (hn : n ≤ 1048576) (hbase : base ≤ W.heap.size)
  (h : ∀ v' w', w'.ownsRow base e 1 v' (n + 1) (xs ++ [u]) → W.grownBy w' v.ownBlock → (v'.ownBlock = v.ownBlock ∨ v'.ownBlock = some (W.heap.size + 1)) → K (a.put o.dst v') w') :
  if Region.wanted o (yielded ops a.tmps) = true then Oper.wp P o a (W.alloc (.cells #[u] e)) K Q else E := by
 subst hq
 obtain ⟨i0, hi0, hz0, hz1, hz2⟩ := info_parts hi
 have hr : Reads (W.alloc (.cells #[u] e)) (W.heap.size + 1) 1 (some ⟨W.heap.size, 0, none⟩) 1 [u] := by
  have := (Blk.new W e #[u]).reads (xs := [u])
  simpa using this
 have hbb : (n + 1) * bytes ≤ 1048577 * 1000 := Nat.mul_le_mul (by omega) hby
 refine Zwa _ hgd s x t ho base e i0 z 1 bytes ht hi0 hz0 hz1 hz2 hz (by omega) v n xs hs (hown.alloc _) _ _ 1 1 [u] hx hr (by intro y hy; simp at hy; subst hy; exact hu) (by unfold maxLen; omega) (by omega) (by simp; omega) ?_
 intro v' w' h2 h3 h4
 have hg : W.grownBy w' v.ownBlock := ⟨h3.os, h3.tape, h3.output, Nat.le_trans (by simp) h3.size, fun i hi hne => (h3.block i (by simp; omega) hne).trans (Below.heap_alloc W _ i hi)⟩
 exact h v' w' h2 hg (by simpa using h4)
section
variable {w : World} {B g V n : Nat}
theorem hqIs {vl : Value} {bp cp ba ca : Nat} {ls ps az : List Int} (v : Int) (h : Hq w B g V n vl bp cp ba ca ls ps az) (h1 : 1 ≤ v) (h2 : v ≤ V) :
  Calls Tryz.prog 26 #[.pointer (some ⟨g, 0, none⟩), .int .i64 v] w fun e w' => e = .returned (.bool true) ∧ w = w' := by
 have c1 := h.bx.cell 1
 have e2 : v < (V : Int) + 1 := by omega
 clear h
 go_enter Tryz.func26, Tryz.ntmps26
 go_wp2
 go_ret
 exact ⟨rfl, rfl⟩
set_option maxHeartbeats 800000 in
theorem hqPush (v : Int) (h : HqE w B g V n) (hB : B ≤ w.heap.size) (h1 : 1 ≤ v) (h2 : v ≤ V) (hn : n < 900000) :
  Calls Tryz.prog 19 #[.pointer (some ⟨g, 0, none⟩), .int .i64 v] w fun e w' => ∃ b k, e = .returned (.bool b) ∧ k ≤ n + 1 ∧ HqE w' B g V k ∧ Frm [68, 3] B w w' := by
 obtain ⟨vl, bp, cp, ba, ca, ls, ps, az, h⟩ := h
 obtain ⟨v, rfl⟩ := Int.eq_ofNat_of_zero_le (show 0 ≤ v by omega)
 have hV := h.hV
 have hlp : ps.length = V + 1 := by have := h.rp.1; rw [iv_len] at this; omega
 have hll : ls.length = n := by have := h.rl.1; rw [iv_len] at this; omega
 have c0 := h.bx.cell 0
 have c1 := h.bx.cell 1
 have hc : w.cell? ⟨bp, v, none⟩ = some (.int .i64 (ps.getD v 0)) := by rw [h.rp.cellAt v (by omega), iv_get _ _ (by omega)]
 have l1 : v < V + 1 := by omega
 have HI := Lib.hid (hqIs v h h1 h2)
 have HH := Lib.hid h
 have HB := Lib.hid hB
 have HL := Lib.hid hll
 clear h hB hll
 generalize ps.getD v 0 = pv at *
 by_cases hp : 0 < pv
 ·go_enter Tryz.func19, Tryz.ntmps19
  go_wp2_with fail
  refine HI.out.mono ?_
  rintro e w' ⟨rfl, rfl⟩
  go_wp2_with fail
  go_ret
  exact ⟨false, n, rfl, by omega, ⟨vl, bp, cp, ba, ca, ls, ps, az, HH.out⟩, Frm.refl _ _ _⟩
 ·go_enter Tryz.func19, Tryz.ntmps19
  go_wp2_with fail
  refine HI.out.mono ?_
  rintro e w' ⟨rfl, rfl⟩
  go_wp2_with (at_builtin; refine wpList_app_num _ rfl _ _ 22 rfl B 3 (.int .i64 0) 8 Tryz.underlying22 Za52 rfl (by omega) vl n (iv ls) rfl HH.out.rl _ rfl _ rfl rfl (by omega) HB.out ?_; intro v' w1 hown' hg' hb'; have hx := HH.out.bx.grown hg' (fun e => Zpj HH.out.rl HH.out.bx (by decide) e.symm); have d0 := hx.cell 0; have f0 := hx.frozen 0; obtain ⟨A', c', rfl, hc1, hc2, _⟩ := Zrg hown'; have HX := Lib.hid hx; have HO := Lib.hid hown'; have HG := Lib.hid hg'; have HW := Lib.hid hb'; clear hx hown' hg' hb')
  obtain ⟨bl, cl, hv, hbl, hlt⟩ := HO.out.form (by omega)
  injection hv with hv1 hv2 hv3
  subst hv1 hv3
  have hF : Frm [68, 3] B w (w1.setCell ⟨g, 0, none⟩ (.slice (some ⟨bl, 0, none⟩) (n + 1) c')) := ((Frm.refl _ B w).app HH.out.rl HB.out HG.out (by simp)).set_ HX.out (by simp) HH.out.le 0 _
  have hbp := HH.out.rp.lt bp rfl
  have hne : bl ≠ bp := by
   rcases HW.out with e | e
   ·intro q; subst q; exact HH.out.ne (e.symm.trans rfl)
   ·simp [Value.ownBlock] at e; omega
  have hr : Hr (w1.setCell ⟨g, 0, none⟩ (.slice (some ⟨bl, 0, none⟩) (n + 1) c')) B g V (n + 1) bl c' bp cp ba ca (ls ++ [(v : Int)]) ps az := by
   refine ⟨HX.out.set_ 0 _, ?_, own_setB (HH.out.rp.kept HG.out (.inr (fun e => HH.out.ne e.symm))) HX.out (by decide) 0 _, own_frm HH.out.ra hF (by decide), hne, ?_, by omega, hV, HH.out.le⟩
   ·rw [iv_app]; exact own_setB HO.out HX.out (by decide) 0 _
   ·intro i hi
    rw [List.getD_eq_getElem?_getD, List.getElem?_append]
    split
    ·rw [← List.getD_eq_getElem?_getD]; exact HH.out.rng i (by have := HL.out; omega)
    ·have := HL.out
     rw [show i - ls.length = 0 by omega]
     exact ⟨h1, h2⟩
  refine (hqUp n hr (by omega)).mono ?_
  rintro e w2 ⟨rfl, ⟨l2, p2, h2⟩, hf2⟩
  go_wp2_with fail
  go_ret
  exact ⟨true, n + 1, rfl, by omega, ⟨_, bp, cp, ba, ca, l2, p2, az, h2.bx, h2.rl, h2.rp, h2.ra, by simp [Value.ownBlock]; exact h2.ne, h2.rng, hV, h2.le⟩, hF.trans (hf2.mono (by simp))⟩
theorem made1 : madeCells (Value.int .i64 0).cells (Int.toNat 1 * 1) = #[.int .i64 0] := by kernel_rfl
theorem mk_int1 (W : World) : (Instr.makeSlice 22 (.int .i64 1) (.int .i64 1)).run Tryz.prog W = .ok (.slice (some ⟨W.heap.size, 0, none⟩) 1 1) (W.alloc (.cells #[.int .i64 0] 3)) := by
 obtain ⟨i0, hi0, hz0, hz1, hz2⟩ := info_parts Za52
 have hr := run_make (P := Tryz.prog) W 22 3 i0 (.int .i64 0) Tryz.underlying22 hi0 hz0 .i64 .i64 1 1 (by omega) (Int.le_refl _) (by rw [hz2]; omega) (by omega)
 rw [hr, hz1, made1]; rfl
theorem mk_i641 (W : World) : (Instr.makeSlice 66 (.int .i64 1) (.int .i64 1)).run Tryz.prog W = .ok (.slice (some ⟨W.heap.size, 0, none⟩) 1 1) (W.alloc (.cells #[.int .i64 0] 2)) := by
 obtain ⟨i0, hi0, hz0, hz1, hz2⟩ := info_parts info_i64k
 have hr := run_make (P := Tryz.prog) W 66 2 i0 (.int .i64 0) Tryz.underlying66 hi0 hz0 .i64 .i64 1 1 (by omega) (Int.le_refl _) (by rw [hz2]; omega) (by omega)
 rw [hr, hz1, made1]; rfl
theorem hqNew (w : World) : Calls Tryz.prog 16 #[.int .i64 0] w fun e w' => ∃ g, e = .returned (.pointer (some ⟨g, 0, none⟩)) ∧ HqE w' w.heap.size g 0 0 ∧ Below w.heap.size w w' := by
 have m1 := fun W => mk_int1 W
 have m2 := fun W => mk_i641 W
 go_enter Tryz.func16, Tryz.ntmps16
 go_wp2
 go_region
 all_goals go_wp2
 all_goals go_ret
 ·have r1 := World.ownsRow_lit (base := w.heap.size) (e := 3) (size := 1) w #[.int .i64 0] 1 (Nat.le_refl _) (by simp [maxLen]) rfl
  have r2 := World.ownsRow_lit (base := w.heap.size) (e := 2) (size := 1) (w.alloc (.cells #[.int .i64 0] 3)) #[.int .i64 0] 1 (by simp) (by simp [maxLen]) rfl
  have b3 := Blk.new ((w.alloc (.cells #[.int .i64 0] 3)).alloc (.cells #[.int .i64 0] 2)) 68 #[.slice none 0 0, .slice (some ⟨w.heap.size, 0, none⟩) 1 1, .slice (some ⟨w.heap.size + 1, 0, none⟩) 1 1]
  rw [World.size_alloc] at b3 r2
  rw [World.size_alloc] at b3
  exact ⟨_, rfl, ⟨.slice none 0 0, _, _, _, _, [], [0], [0], b3, World.ownsRow_nil _ _ _ _, ((r1.alloc _).alloc _).drew, (r2.alloc _).drew, by simp [Value.ownBlock], fun i hi => absurd hi (by omega), by omega, by omega⟩,
   ((((Below.refl _ w).alloc (Nat.le_refl _) _).alloc (by simp) _).alloc (by simp; omega) _).drew⟩
 ·have r1 := World.ownsRow_lit (base := w.heap.size) (e := 2) (size := 1) w #[.int .i64 0] 1 (Nat.le_refl _) (by simp [maxLen]) rfl
  have r2 := World.ownsRow_lit (base := w.heap.size) (e := 3) (size := 1) (w.alloc (.cells #[.int .i64 0] 2)) #[.int .i64 0] 1 (by simp) (by simp [maxLen]) rfl
  have b3 := Blk.new ((w.alloc (.cells #[.int .i64 0] 2)).alloc (.cells #[.int .i64 0] 3)) 68 #[.slice none 0 0, .slice (some ⟨w.heap.size + 1, 0, none⟩) 1 1, .slice (some ⟨w.heap.size, 0, none⟩) 1 1]
  rw [World.size_alloc] at b3 r2
  rw [World.size_alloc] at b3
  exact ⟨_, rfl, ⟨.slice none 0 0, _, _, _, _, [], [0], [0], b3, World.ownsRow_nil _ _ _ _, (r2.alloc _).drew, ((r1.alloc _).alloc _).drew, by simp [Value.ownBlock], fun i hi => absurd hi (by omega), by omega, by omega⟩,
   ((((Below.refl _ w).alloc (Nat.le_refl _) _).alloc (by simp) _).alloc (by simp; omega) _).drew⟩
theorem own_form {w : World} {B n size : Nat} {e : TypeId} {v : Value} {xs : List Value} (h : w.ownsRow B e size v n xs) (hn : 0 < n) : ∃ b c, v = .slice (some ⟨b, 0, none⟩) n c ∧ b < w.heap.size := by
 obtain ⟨b, c, hv, hb, hlt⟩ := h.form hn
 exact ⟨b, c, hv, hlt⟩
set_option maxHeartbeats 800000 in
theorem hqGrow (m : Int) (h : HqE w B g V n) (hB : B ≤ w.heap.size) (hm : m ≤ 65536) :
  Calls Tryz.prog 18 #[.pointer (some ⟨g, 0, none⟩), .int .i64 m] w fun e w' => e = .returned (.tuple #[]) ∧ HqE w' B g (max V m.toNat) n ∧ Frm [68, 3, 2] B w w' := by
 obtain ⟨vl, bp, cp, ba, ca, ls, ps, az, h⟩ := h
 have hV := h.hV
 have c0 := h.bx.cell 0
 have c1 := h.bx.cell 1
 have c2 := h.bx.cell 2
 by_cases hs : m < (V : Int) + 1
 ·have HH := Lib.hid h
  rw [show max V m.toNat = V by omega]
  clear h
  go_enter Tryz.func18, Tryz.ntmps18
  go_wp2
  refine bodyPost_ret (results_none rfl _ _ _) rfl ?_
  exact ⟨rfl, ⟨vl, bp, cp, ba, ca, ls, ps, az, HH.out⟩, Frm.refl _ _ _⟩
 ·obtain ⟨m, rfl⟩ := Int.eq_ofNat_of_zero_le (show 0 ≤ m by omega)
  have hm2 : V + 1 ≤ m := by omega
  rw [show max V (m : Int).toNat = m by omega]
  have HH := Lib.hid h
  have HB := Lib.hid hB
  have hq : IntKind.i64.wrap (IntKind.i64.wrap ((m : Int) + 1) - ((V : Int) + 1)) = ((m - V : Nat) : Int) := by
   rw [IntWalk.i64_in ((m : Int) + 1) ⟨by omega, by omega⟩, IntWalk.i64_in _ ⟨by omega, by omega⟩]; omega
  clear h hB
  go_enter Tryz.func18, Tryz.ntmps18
  go_wp2_with (first
   | (at_builtin; refine wpList_append_zeros _ rfl _ _ 22 3 rfl B 3 (.int .i64 0) 1 8 .i64 Tryz.underlying22 Tryz.underlying3 Za52 rfl (by omega) (by intro u hu; simp [Value.cells] at hu; subst hu; rfl) (.slice (some ⟨bp, 0, none⟩) (V + 1) cp) (V + 1) (iv ps) rfl HH.out.rp (m - V) _ rfl (by omega) (by unfold maxLen; omega) (by omega) HB.out ?_; intro v1 w1 hown1 hg1 hb1; have hx := HH.out.bx.grown hg1 (fun e => Zpj HH.out.rp HH.out.bx (by decide) e.symm); have d1 := hx.cell 1; have f1 := hx.frozen 1; obtain ⟨A1, c1', rfl, _, _, _⟩ := Zrg hown1; have hx2 := hx.set_ 1 (Value.slice A1 (V + 1 + (m - V)) c1'); have d2 := hx2.cell 2; have HX1 := Lib.hid hx; have HO1 := Lib.hid hown1; have HG1 := Lib.hid hg1; have HW1 := Lib.hid hb1; have HX2 := Lib.hid hx2; clear hx hown1 hg1 hb1 hx2; have hFa := (Frm.refl [68, 3, 2] B w).app HH.out.rp HB.out HG1.out (by simp); have hFb := hFa.set_ HX1.out (by simp) HH.out.le 1 (Value.slice A1 (V + 1 + (m - V)) c1'); have HFB := Lib.hid hFb; have HRA := Lib.hid (own_frm HH.out.ra (((Frm.refl [68, 3] B w).app HH.out.rp HB.out HG1.out (by simp)).set_ HX1.out (by simp) HH.out.le 1 (Value.slice A1 (V + 1 + (m - V)) c1')) (by decide)); clear hFa hFb)
   | (at_builtin; refine wpList_append_zeros _ rfl _ _ 66 3 rfl B 2 (.int .i64 0) 1 8 .i64 Tryz.underlying66 Tryz.underlying3 info_i64k rfl (by omega) (by intro u hu; simp [Value.cells] at hu; subst hu; rfl) (.slice (some ⟨ba, 0, none⟩) (V + 1) ca) (V + 1) (iv az) rfl HRA.out (m - V) _ rfl (by omega) (by unfold maxLen; omega) (by omega) (by have := HB.out; have := HFB.out.size; omega) ?_; intro v2 w2 hown2 hg2 hb2; have hx := HX2.out.grown hg2 (fun e => Zpj HRA.out HX2.out (by decide) e.symm); have d3 := hx.cell 2; have f3 := hx.frozen 2; obtain ⟨A2, c2', rfl, _, _, _⟩ := Zrg hown2; have HX3 := Lib.hid hx; have HO2 := Lib.hid hown2; have HG2 := Lib.hid hg2; clear hx hown2 hg2 hb2))
  have e1 : V + 1 + (m - V) = m + 1 := by omega
  have hO1 := HO1.out
  have hO2 := HO2.out
  have hX1 := HX1.out
  have hX3 := HX3.out
  have hRA := HRA.out
  have hFB := HFB.out
  rw [zc_iv, ← iv_app, e1] at hO1 hO2
  rw [e1] at hX3 hRA hFB ⊢
  obtain ⟨b1, c1, hv, hl1⟩ := own_form hO1 (by omega)
  injection hv with hv1 hv2 hv3
  subst hv1 hv3
  obtain ⟨b2, c2, hv, hl2⟩ := own_form hO2 (by omega)
  injection hv with hv1 hv2 hv3
  subst hv1 hv3
  have hG2 := HG2.out
  rw [e1] at hG2
  have hBw := HB.out
  have F2 := ((Frm.refl [68, 2] B _).app hRA (by have := hFB.size; omega) hG2 (by simp)).set_ hX3 (by simp) HH.out.le 2 (.slice (some ⟨b2, 0, none⟩) (m + 1) c2')
  have hne : vl.ownBlock ≠ some b1 := by
   rcases HW1.out with e | e
   ·intro q
    have e : some b1 = some bp := e
    exact HH.out.ne (q.trans e)
   ·intro q
    have e : some b1 = some w.heap.size := e
    have := HH.out.rl.lt b1 q
    injection e with e
    omega
  refine ⟨rfl, .tuple #[], results_none rfl _ _ _, rfl, ⟨vl, b1, c1', b2, c2', ls, _, _, hX3.set_ 2 _, own_frm (own_setB (HH.out.rl.kept HG1.out (.inr HH.out.ne)) hX1 (by decide) 1 _) F2 (by decide), own_frm (own_setB hO1 hX1 (by decide) 1 _) F2 (by decide), own_setB hO2 hX3 (by decide) 2 _, hne, fun i hi => ?_, by omega, HH.out.le⟩, hFB.trans (F2.mono (by simp))⟩
  have := HH.out.rng i hi
  omega
end
end Go.Proofs.YtghmfggmimoinaaGreat
