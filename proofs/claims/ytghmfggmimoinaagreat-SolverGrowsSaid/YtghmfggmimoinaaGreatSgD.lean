/- A heap of variables: what it never does wrong, whatever its order. -/
import Derived.Test.YtghmfggmimoinaaGreatSgC
namespace Go.Proofs.YtghmfggmimoinaaGreat
open Go Go.RowKit
def iv (l : List Int) : List Value := l.map (Value.int .i64)
theorem iv_len (l : List Int) : (iv l).length = l.length := by simp [iv]
theorem iv_get (l : List Int) (k : Nat) (h : k < l.length) : (iv l)[k]? = some (.int .i64 (l.getD k 0)) := Za1y .i64 l k h
theorem iv_set (l : List Int) (k : Nat) (x : Int) : iv (l.set k x) = (iv l).set k (.int .i64 x) := by simp [iv, List.map_set]
theorem iv_app (l m : List Int) : iv (l ++ m) = iv l ++ iv m := by simp [iv]
theorem iv_one (l : List Int) : ∀ u ∈ iv l, u.oneCell' = true := by
 intro u hu
 obtain ⟨x, _, rfl⟩ := List.mem_map.1 hu
 rfl
theorem zc_iv (k : Nat) : zc (.int .i64 0) k = iv (List.replicate k 0) := by
 apply List.ext_getElem?
 intro i
 by_cases h : i < k
 ·rw [zc_get (by show i < k * 1; omega), iv_get _ _ (by simpa using h)]
  show some ((Value.int .i64 0).cells[i % 1]!) = _
  rw [Nat.mod_one]
  simp [List.getD_eq_getElem?_getD, List.getElem?_replicate, h, Value.cells]
 ·rw [List.getElem?_eq_none (by rw [zc_len]; show k * 1 ≤ i; omega), List.getElem?_eq_none (by rw [iv_len]; simp; omega)]
theorem info_i64k : (Tryz.prog.info? 2).map (fun i => (i.zero, i.size, i.bytes)) = some (some (.int .i64 0), 1, 8) := by kernel_rfl
structure Hr (w : World) (B g V n bl cl bp cp ba ca : Nat) (ls ps az : List Int) : Prop where
 bx : Blk w g 68 #[.slice (some ⟨bl, 0, none⟩) n cl, .slice (some ⟨bp, 0, none⟩) (V + 1) cp, .slice (some ⟨ba, 0, none⟩) (V + 1) ca]
 rl : w.ownsRow B 3 1 (.slice (some ⟨bl, 0, none⟩) n cl) n (iv ls)
 rp : w.ownsRow B 3 1 (.slice (some ⟨bp, 0, none⟩) (V + 1) cp) (V + 1) (iv ps)
 ra : w.ownsRow B 2 1 (.slice (some ⟨ba, 0, none⟩) (V + 1) ca) (V + 1) (iv az)
 ne : bl ≠ bp
 rng : ∀ i, i < n → 1 ≤ ls.getD i 0 ∧ ls.getD i 0 ≤ V
 hn : n ≤ 1000000
 hV : V ≤ 100000
 le : B ≤ g
section
variable {w : World} {B g V n bl cl bp cp ba ca : Nat} {ls ps az : List Int}
theorem Hr.ll (h : Hr w B g V n bl cl bp cp ba ca ls ps az) : ls.length = n := by have := h.rl.1; rw [iv_len] at this; omega
theorem Hr.lp (h : Hr w B g V n bl cl bp cp ba ca ls ps az) : ps.length = V + 1 := by have := h.rp.1; rw [iv_len] at this; omega
theorem Hr.la (h : Hr w B g V n bl cl bp cp ba ca ls ps az) : az.length = V + 1 := by have := h.ra.1; rw [iv_len] at this; omega
theorem Hr.cl_ (h : Hr w B g V n bl cl bp cp ba ca ls ps az) {i : Nat} (hi : i < n) : w.cell? ⟨bl, i, none⟩ = some (.int .i64 (ls.getD i 0)) := by
 rw [h.rl.cellAt i (by omega), iv_get _ _ (by rw [h.ll]; exact hi)]
theorem Hr.cp_ (h : Hr w B g V n bl cl bp cp ba ca ls ps az) {i : Nat} (hi : i ≤ V) : w.cell? ⟨bp, i, none⟩ = some (.int .i64 (ps.getD i 0)) := by
 rw [h.rp.cellAt i (by omega), iv_get _ _ (by rw [h.lp]; omega)]
theorem Hr.ca_ (h : Hr w B g V n bl cl bp cp ba ca ls ps az) {i : Nat} (hi : i ≤ V) : w.cell? ⟨ba, i, none⟩ = some (.int .i64 (az.getD i 0)) := by
 rw [h.ra.cellAt i (by omega), iv_get _ _ (by rw [h.la]; omega)]
theorem Hr.drewN (h : Hr w B g V n bl cl bp cp ba ca ls ps az) (k : Nat) : Hr (w.drewN k) B g V n bl cl bp cp ba ca ls ps az := ⟨h.bx.drewN k, h.rl, h.rp, h.ra, h.ne, h.rng, h.hn, h.hV, h.le⟩
theorem Hr.hp_ (h : Hr w B g V n bl cl bp cp ba ca ls ps az) : B ≤ bl ∧ bl < w.heap.size ∧ B ≤ bp ∧ bp < w.heap.size := by
 have h1 := h.rl.lt bl rfl
 have h2 := h.rp.lt bp rfl
 omega
set_option maxHeartbeats 800000 in
theorem hqAhead (v x : Int) (h : Hr w B g V n bl cl bp cp ba ca ls ps az) (hv0 : 0 ≤ v) (hv : v ≤ V) (hx0 : 0 ≤ x) (hx : x ≤ V) :
  Calls Tryz.prog 46 #[.pointer (some ⟨g, 0, none⟩), .int .i64 v, .int .i64 x] w fun e w' => ∃ b, e = .returned (.bool b) ∧ ∃ q, w' = w.drewN q := by
 have c2 := h.bx.cell 2
 have hV := h.hV
 obtain ⟨v, rfl⟩ := Int.eq_ofNat_of_zero_le hv0
 obtain ⟨x, rfl⟩ := Int.eq_ofNat_of_zero_le hx0
 have a1 := h.ca_ (i := v) (by omega)
 have a2 := h.ca_ (i := x) (by omega)
 clear h
 generalize az.getD v 0 = av at *
 generalize az.getD x 0 = ax at *
 have l1 : v < V + 1 := by omega
 have l2 : x < V + 1 := by omega
 by_cases hne : av = ax
 ·have hb : (av != ax) = false := by simp [hne]
  clear hne
  go_enter Tryz.func46, Tryz.ntmps46
  go_wp2
  go_quiet (fail)
  go_wp2
  go_ret
  exact ⟨_, rfl, nq, rfl⟩
 ·have hb : (av != ax) = true := by simpa using hne
  clear hne
  go_enter Tryz.func46, Tryz.ntmps46
  go_wp2
  go_quiet (fail)
  go_wp2
  go_quiet (fail)
  go_wp2
  go_ret
  exact ⟨_, rfl, _, by rw [World.drewN_drewN]⟩
theorem hqPut (i : Nat) (v : Int) (h : Hr w B g V n bl cl bp cp ba ca ls ps az) (hi : i < n) (hv0 : 1 ≤ v) (hv : v ≤ V) :
  Calls Tryz.prog 47 #[.pointer (some ⟨g, 0, none⟩), .int .i64 i, .int .i64 v] w fun e w' => e = .returned (.tuple #[]) ∧ Hr w' B g V n bl cl bp cp ba ca (ls.set i v) (ps.set v.toNat (i + 1)) az ∧ Frm [3] B w w' := by
 obtain ⟨v, rfl⟩ := Int.eq_ofNat_of_zero_le (show 0 ≤ v by omega)
 have hV := h.hV
 have hn := h.hn
 have c0 := h.bx.cell 0
 have hci := h.cl_ hi
 have hfi := h.rl.frozenAt i
 have hs1 := h.rl.stored i (.int .i64 v)
 have hp1 := h.rp.kept hs1.2 (.inr (by simp [Value.ownBlock]; exact fun e => h.ne e.symm))
 have hp2 := hp1.stored v (.int .i64 ((i : Int) + 1))
 have hx1 := h.bx.grown hs1.2 (fun e => Zpj h.rl h.bx (by decide) e.symm)
 have c1 := hx1.cell 1
 have hcp : (w.setCell ⟨bl, i, none⟩ (.int .i64 v)).cell? ⟨bp, v, none⟩ = some (.int .i64 (ps.getD v 0)) := by rw [hp1.cellAt v (by omega), iv_get _ _ (by rw [h.lp]; omega)]
 have hfp := hp1.frozenAt v
 have l1 : v < V + 1 := by omega
 have HH := Lib.hid h
 have HS := Lib.hid hs1
 have HP1 := Lib.hid hp1
 have HP2 := Lib.hid hp2
 have HX1 := Lib.hid hx1
 clear h hs1 hp1 hp2 hx1
 go_enter Tryz.func47, Tryz.ntmps47
 go_wp2
 have hB := HH.out.rl.lt bl rfl
 have hF1 : Frm [3] B w (w.setCell ⟨bl, i, none⟩ (.int .i64 (v : Int))) := (Frm.refl _ B w).app HH.out.rl (by omega) HS.out.2 (by simp)
 have hF2 := hF1.app HP1.out (by simp [World.setCell]; omega) HP2.out.2 (by simp)
 refine ⟨rfl, .tuple #[], results_none rfl _ _ _, rfl, ⟨HX1.out.grown HP2.out.2 (fun e => Zpj HP1.out HX1.out (by decide) e.symm), ?_, ?_, own_frm HH.out.ra hF2 (by decide), HH.out.ne, ?_, hn, hV, HH.out.le⟩, hF2⟩
 ·rw [iv_set]; exact HS.out.1.kept HP2.out.2 (.inr (by simp [Value.ownBlock]; exact HH.out.ne))
 ·rw [iv_set]; exact HP2.out.1
 ·intro j hj
  rw [List.getD_eq_getElem?_getD, List.getElem?_set]
  split
  ·split
   ·exact ⟨hv0, hv⟩
   ·have := HH.out.ll; omega
  ·rw [← List.getD_eq_getElem?_getD]; exact HH.out.rng j hj
set_option maxHeartbeats 1600000 in
theorem hqUp (i : Nat) (h : Hr w B g V n bl cl bp cp ba ca ls ps az) (hi : i < n) :
  Calls Tryz.prog 27 #[.pointer (some ⟨g, 0, none⟩), .int .i64 i] w fun e w' => e = .returned (.tuple #[]) ∧ (∃ ls' ps', Hr w' B g V n bl cl bp cp ba ca ls' ps' az) ∧ Frm [3] B w w' := by
 have hV := h.hV
 have hn := h.hn
 obtain ⟨v, hv⟩ : ∃ v, v = ls.getD i 0 := ⟨_, rfl⟩
 have hci := h.cl_ hi
 rw [← hv] at hci
 have hvr := h.rng i hi
 rw [← hv] at hvr
 have c0 := h.bx.cell 0
 have HH := Lib.hid h
 clear h hv
 go_enter Tryz.func27, Tryz.ntmps27
 go_wp2_with fail
 go_loopw [1] (fun x wr => ∃ (j : Nat) (l1 p1 : List Int), x = .int .i64 j ∧ j < n ∧ Hr wr B g V n bl cl bp cp ba ca l1 p1 az ∧ Frm [3] B w wr) (fun x _ => (intOf x).toNat)
 case atStart => exact ⟨i, ls, ps, rfl, hi, HH.out, Frm.refl _ _ _⟩
 case round =>
  clear HH
  obtain ⟨j, l1, p1, rfl, hj, h1, hf1⟩ := hrel
  have c0 := h1.bx.cell 0
  by_cases hj0 : 0 < j
  ·obtain ⟨p, hp⟩ : ∃ p, p = (j - 1) / 2 := ⟨_, rfl⟩
   have hpl : p < n := by omega
   have hcp := h1.cl_ hpl
   have hxr := h1.rng p hpl
   obtain ⟨x, hx⟩ : ∃ x, x = l1.getD p 0 := ⟨_, rfl⟩
   rw [← hx] at hcp hxr
   rw [hp] at hcp
   have HP := Lib.hid hp
   have HH1 := Lib.hid h1
   have HF1 := Lib.hid hf1
   clear h1 hf1 hx hp
   go_wp2_with fail
   refine (hqAhead v x HH1.out (by omega) (by omega) (by omega) (by omega)).mono ?_
   rintro e w1 ⟨b, rfl, q, rfl⟩
   rcases b with _ | _
   ·go_wp2_with fail
    refine (hqPut j v (HH1.out.drewN q) hj (by omega) (by omega)).mono ?_
    rintro e w2 ⟨rfl, h2, hb2⟩
    go_wp2_with fail
    go_end0
    exact ⟨rfl, ⟨_, _, h2⟩, (HF1.out.drewN q).trans hb2⟩
   ·go_wp2_with fail
    refine (hqPut j x (HH1.out.drewN q) hj (by omega) (by omega)).mono ?_
    rintro e w2 ⟨rfl, h2, hb2⟩
    have HH2 := Lib.hid h2
    have HB2 := Lib.hid hb2
    clear h2 hb2
    go_wp2_with fail
    go_roundw
    case rel =>
     have hpj := HP.out
     exact ⟨p, _, _, by go_num, by omega, HH2.out, (HF1.out.drewN q).trans HB2.out⟩
    case measure => simp [intOf]; omega
  ·have HH1 := Lib.hid h1
   have HF1 := Lib.hid hf1
   clear h1 hf1
   go_wp2_with fail
   refine (hqPut j v HH1.out hj (by omega) (by omega)).mono ?_
   rintro e w2 ⟨rfl, h2, hb2⟩
   go_wp2_with fail
   go_end0
   exact ⟨rfl, ⟨_, _, h2⟩, HF1.out.trans hb2⟩
end
end Go.Proofs.YtghmfggmimoinaaGreat
