/- A watch takes its first clause. -/
import Derived.Test.YtghmfggmimoinaaGreatSgK
import Derived.StillTailTactics
namespace Go.Proofs.YtghmfggmimoinaaGreat
open Go Go.RowKit
theorem Wt.frm {w w' : World} {B B' q g n k : Nat} {vL vs : Value} {ls cs : List Value} {ts : List TypeId} (h : Wt w B q g vL vs n ls k cs) (hf : Frm ts B' w w') (h1 : 65 ∉ ts) (h2 : 22 ∉ ts) : Wt w' B q g vL vs n ls k cs :=
 ⟨hf.box _ _ _ h.bx h1, own_frm h.rl hf h2, own_frm h.rs hf h2, h.ne, h.hn, h.hk, h.le⟩
theorem own_new {w w' : World} {base size n : Nat} {e : TypeId} {v : Value} {xs : List Value} (h : w.ownsRow base e size v n xs) (g : w.grownBy w' none) : w'.ownsRow base e size v n xs := h.kept g (Classical.em (v.ownBlock = none))
set_option maxHeartbeats 2000000 in
set_option maxRecDepth 20000 in
theorem wAdd_c {w : World} {B q g V m cap : Nat} {A : Option Addr} {mv : Value} {d : List Int} (h : Wt w B q g nilS nilS 0 [] 0 []) (ht : Trl w B g V mv) (hB : B ≤ w.heap.size) (hR : Reads w w.heap.size 1 A m (iv d)) (hm0 : 0 < m) (hm : m ≤ 1000) (hV : V ≤ 100000)
  (hd : ∀ x ∈ d, x ≠ 0 ∧ -(V : Int) ≤ x ∧ x ≤ V) (htwo : 2 ≤ m → d.getD 0 0 ≠ d.getD 1 0) :
  Calls Tryz.prog 24 #[.pointer (some ⟨q, 0, none⟩), .slice A m cap] w fun e w' => (∃ a b, e = .returned (.tuple #[a, b])) ∧ Below B w w' := by
 have h1 := clone_c w A m cap w.heap.size d hR (Nat.le_refl _) (by omega)
 have hl : d.length = m := by have := hR.1; rw [iv_len] at this; omega
 have hdj : ∀ j, j < m → d.getD j 0 ≠ 0 ∧ -(V : Int) ≤ d.getD j 0 ∧ d.getD j 0 ≤ V := by
  intro j hj
  rw [List.getD_eq_getElem?_getD, List.getElem?_eq_getElem (by omega)]
  exact hd _ (List.getElem_mem _)
 obtain ⟨b, c, rfl, _, _, _⟩ := ht.form
 have c1 := h.bx.cell 1
 have HH := Lib.hid h
 have HT := Lib.hid ht
 have HB := Lib.hid hB
 have HD := Lib.hid hd
 have HDJ := Lib.hid hdj
 have HTW := Lib.hid htwo
 clear h ht hB hR hd hdj htwo
 go_enter Tryz.func24, Tryz.ntmps24
 go_wp2_with fail
 refine h1.mono ?_
 rintro e w1 ⟨v1, rfl, hb1, ho1⟩
 obtain ⟨A1, cp1, rfl, hmc, _, _⟩ := Zrg ho1
 obtain ⟨b1, cp2, hv1, hlt1⟩ := own_form ho1 (by omega)
 injection hv1 with hv1 hv2 hv3
 subst hv1 hv3
 have hmin : min 2 (m : Int) = ((min 2 m : Nat) : Int) := by omega
 obtain ⟨p, hp⟩ : ∃ p, p = min 2 m := ⟨_, rfl⟩
 rw [← hp] at hmin
 have hpm : p ≤ m := by omega
 have hpc : p ≤ cp1 := by omega
 have HP := Lib.hid hp
 clear hp
 have F1 : Frm [] B w w1 := Frm.low hb1 HB.out
 have hW1 := HH.out.frm F1 (by simp) (by simp)
 have hT1 := HT.out.frm F1 (by simp) (by simp)
 have hf := first_c (cap := cp1) hW1 hT1 (Reads.of_own ho1) hm HD.out
 have HO1 := Lib.hid ho1
 have HF1 := Lib.hid F1
 have HW1 := Lib.hid hW1
 have HT1 := Lib.hid hT1
 clear hb1 ho1 F1 hW1 hT1
 go_wp2_with fail
 refine hf.mono ?_
 rintro e w2 ⟨rfl, r, rfl⟩
 have hx2 := (HW1.out.drewN r).bx
 have d1 := hx2.cell 1
 have HX2 := Lib.hid hx2
 have HS2 : Hid (B ≤ (w1.drewN r).heap.size) := Lib.hid (Nat.le_trans HB.out HF1.out.size)
 clear hx2
 go_wp2_with (at_builtin; refine wpList_app_num _ rfl _ _ 30 rfl B 22 nilS 24 Tryz.underlying30 info_ints rfl (by omega) nilS 0 [] rfl (World.ownsRow_nil _ _ _ _) (.slice (some ⟨b1, 0, none⟩) m cp1) rfl _ rfl rfl (by omega) HS2.out ?_; intro v3 w3 hown3 hg3 _; have hx := HX2.out.grown hg3 (by simp [Value.ownBlock]); have e1 := hx.cell 1; have f1 := hx.frozen 1; obtain ⟨A3, c3, rfl, _, _, _⟩ := Zrg hown3; have HX3 := Lib.hid hx; have HO3 := Lib.hid hown3; have HG3 := Lib.hid hg3; clear hx hown3 hg3)
 obtain ⟨W5, hW5⟩ : ∃ W5, W5 = w3.setCell ⟨q, 1, none⟩ (.slice A3 1 c3) := ⟨_, rfl⟩
 obtain ⟨b3, c3', hv3, _⟩ := own_form HO3.out (by omega)
 injection hv3 with hv3 hv4 hv5
 subst hv3 hv5
 rw [← hW5]
 have hF5 : Frm [65] B w W5 := by
  rw [hW5]
  exact (((HF1.out.mono (by simp)).drewN r).trans (frm_new HG3.out HS2.out)).set_ HX3.out (by simp) HH.out.le 1 _
 have hW : Wt W5 B q g (.slice (some ⟨b3, 0, none⟩) 1 c3) nilS 1 [.slice (some ⟨b1, 0, none⟩) m cp1] 0 [] := by
  rw [hW5]
  exact ⟨HX3.out.set_ 1 _, own_setB HO3.out HX3.out (by decide) 1 _, World.ownsRow_nil _ _ _ _, .inr (by simp [Value.ownBlock]), by omega, by omega, HH.out.le⟩
 have hc5 : W5.ownsRow w.heap.size 3 1 (.slice (some ⟨b1, 0, none⟩) m cp1) m (iv d) := by
  rw [hW5]
  exact own_setB (own_new (w := w1.drewN r) HO1.out HG3.out) HX3.out (by decide) 1 _
 have HF5 := Lib.hid hF5
 have HW5 := Lib.hid hW
 have HC5 := Lib.hid hc5
 have HS5 : Hid (B ≤ W5.heap.size) := Lib.hid (Nat.le_trans HB.out hF5.size)
 clear hW5 hF5 hW hc5 e1 f1 c1 d1
 go_loopw [43] (fun x wr => ∃ (j k : Nat) (vs : Value) (cs : List Value), x = .int .i64 j ∧ j ≤ p ∧ Wt wr B q g (.slice (some ⟨b3, 0, none⟩) 1 c3) vs 1 [.slice (some ⟨b1, 0, none⟩) m cp1] k cs ∧ (∀ i, j ≤ i → i < p → cs.getD (slotN (d.getD i 0)) nilS = nilS) ∧ Frm [65, 22] B W5 wr) (fun x _ => p - (intOf x).toNat)
 case atStart => exact ⟨0, 0, nilS, [], rfl, by omega, HW5.out, fun _ _ _ => rfl, Frm.refl _ _ _⟩
 case round =>
  obtain ⟨j, k, vs, cs, rfl, hj, hw, hcs, hf⟩ := hrel
  have hcw := own_frm HC5.out hf (by decide)
  by_cases hlt : j < p
  ·have hcj := hcw.cellAt j (by omega)
   rw [iv_get _ _ (by omega)] at hcj
   have hbd := HDJ.out j (by omega)
   have hnil := hcs j (Nat.le_refl _) hlt
   have hput := put_c (d.getD j 0) 0 hw (Nat.le_trans HS5.out hf.size) (by omega) (by omega) hnil
   have HX := Lib.hid hcs
   have HFr := Lib.hid hf
   clear hcs hf hw hnil hbd hcw
   obtain ⟨x, hx⟩ : ∃ x, x = d.getD j 0 := ⟨_, rfl⟩
   rw [← hx] at hcj hput
   have HXX := Lib.hid hx
   clear hx
   go_wp2_with fail
   refine hput.mono ?_
   rintro e w6 ⟨rfl, vs', k', cs', hw6, hk6, hf6⟩
   have HW6 := Lib.hid hw6
   have HK6 := Lib.hid hk6
   have HF6 := Lib.hid hf6
   clear hw6 hk6 hf6
   go_wp2_with fail
   go_roundw
   case rel =>
    refine ⟨j + 1, k', vs', cs', by go_num, by omega, HW6.out, fun i h1 h2 => HK6.out _ (fun e => ?_) (HX.out i (by omega) h2), HFr.out.trans HF6.out⟩
    have e := slotN_inj e
    have hp2 := HP.out
    obtain rfl : i = 1 := by omega
    obtain rfl : j = 0 := by omega
    exact HTW.out (by omega) (HXX.out.symm.trans e.symm)
   case measure => simp [intOf]; omega
  ·have hc0 := hcw.cellAt 0 (by omega)
   rw [iv_get _ _ (by omega)] at hc0
   have hF := (HF5.out.mono (ts' := [65, 22]) (by simp)).trans hf
   have hT := HT.out.frm hF (by decide) (by decide)
   have hx0 := hw.bx.cell 0
   have hb0 := HDJ.out 0 hm0
   have hv0 : ∀ s, Calls Tryz.prog 37 #[.pointer (some ⟨g, 0, none⟩), .int .i64 (d.getD 0 0)] (wr.drewN s) fun e w' => e = .returned (.int .i64 0) ∧ wr.drewN s = w' := fun s => trValue_any _ (hT.drewN s) hb0.1 hb0.2.1 hb0.2.2
   have him : ∀ s, Calls Tryz.prog 38 #[.pointer (some ⟨g, 0, none⟩), .int .i64 (d.getD 0 0), .int .i64 0] (wr.drewN s) fun e w' => (∃ b, e = .returned (.bool b)) ∧ Below B (wr.drewN s) w' := fun s => trImply_any _ (hT.drewN s) (Nat.le_trans HB.out hF.size) hb0.1 hb0.2.1 hb0.2.2
   have HV0 := Lib.hid hv0
   have HIM := Lib.hid him
   have HFF := Lib.hid hF
   by_cases hm1 : m = 1
   ·subst hm1
    clear hv0 him hF hT hw hcs hf hcw hb0
    generalize d.getD 0 0 = x0 at *
    go_wp2_with fail
    go_quiet ((go_at_call 37; exact quiet_left (HV0.out _)))
    obtain ⟨n1, rfl⟩ : ∃ n1, n1 = nq := ⟨_, rfl⟩
    go_wp2_with fail
    go_quiet (fail)
    obtain ⟨n2, rfl⟩ : ∃ n2, n2 = nq := ⟨_, rfl⟩
    go_wp2_with fail
    obtain ⟨W9, hW9⟩ : ∃ W9, W9 = (wr.drewN n1).drewN n2 := ⟨_, rfl⟩
    have hx9 : W9.cell? ⟨q, 0, none⟩ = some (.pointer (some ⟨g, 0, none⟩)) := by rw [hW9]; exact hx0
    have hc9 : W9.cell? ⟨b1, 0, none⟩ = some (.int .i64 x0) := by rw [hW9]; exact hc0
    have hi9 : Calls Tryz.prog 38 #[.pointer (some ⟨g, 0, none⟩), .int .i64 x0, .int .i64 0] W9.drew fun e w' => (∃ b, e = .returned (.bool b)) ∧ Below B w w' := by
     rw [hW9, World.drewN_drewN]
     exact (HIM.out (n1 + n2 + 1)).mono fun e w' ⟨h1, h2⟩ => ⟨h1, (below_drewN HFF.out.below _).trans h2⟩
    have HI9 := Lib.hid hi9
    rw [← hW9]
    clear hW9 hi9
    go_still_tail 8, (by kernel_rfl)
    change wpList _ _ _ _ _ W9.drew
    go_wp2_with fail
    refine HI9.out.mono ?_
    rintro e w9 ⟨⟨b9, rfl⟩, hb9⟩
    go_wp2_with fail
    go_ret2
    exact ⟨⟨_, _, rfl⟩, hb9⟩
   ·have hc1 := hcw.cellAt 1 (by omega)
    rw [iv_get _ _ (by omega)] at hc1
    have hb1 := HDJ.out 1 (by omega)
    have hv1 : ∀ s, Calls Tryz.prog 37 #[.pointer (some ⟨g, 0, none⟩), .int .i64 (d.getD 1 0)] (wr.drewN s) fun e w' => e = .returned (.int .i64 0) ∧ wr.drewN s = w' := fun s => trValue_any _ (hT.drewN s) hb1.1 hb1.2.1 hb1.2.2
    have hme : ((m : Int) == 1) = false := by simp; omega
    have HV1 := Lib.hid hv1
    have hm2 : 1 < m := by omega
    have hm3 : (1 : Int) < (m : Int) := by omega
    clear hv0 him hF hT hw hcs hf hcw hb0 hb1 hv1
    generalize d.getD 0 0 = x0 at *
    generalize d.getD 1 0 = x1 at *
    go_wp2_with fail
    go_quiet ((go_at_call 37; exact quiet_left (HV0.out _)))
    go_wp2_with fail
    go_quiet ((go_at_call 37; exact Zsc (HV1.out _)))
    go_wp2_with fail
    go_ret2
    exact ⟨⟨_, _, rfl⟩, below_drewN (below_drewN HFF.out.below _) _⟩
end Go.Proofs.YtghmfggmimoinaaGreat
