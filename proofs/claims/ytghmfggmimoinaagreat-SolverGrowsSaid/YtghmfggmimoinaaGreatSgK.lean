/- A clause's literal is watched. -/
import Derived.Test.YtghmfggmimoinaaGreatSgJ
namespace Go.Proofs.YtghmfggmimoinaaGreat
open Go Go.RowKit
abbrev nilS : Value := .slice none 0 0
theorem info_ints : (Tryz.prog.info? 22).map (fun i => (i.zero, i.size, i.bytes)) = some (some (.slice none 0 0), 1, 24) := by kernel_rfl
theorem zc_nil (k : Nat) : zc nilS k = List.replicate k nilS := by
 apply List.ext_getElem?
 intro i
 by_cases h : i < k
 ·rw [zc_get (by show i < k * 1; omega), List.getElem?_replicate, if_pos h]
  show some (nilS.cells[i % 1]!) = _
  rw [Nat.mod_one]; rfl
 ·rw [List.getElem?_eq_none (by rw [zc_len]; show k * 1 ≤ i; omega), List.getElem?_eq_none (by simp; omega)]
theorem getD_set_ne {cs : List Value} {i s : Nat} (v : Value) (h : i ≠ s) : (cs.set s v).getD i nilS = cs.getD i nilS := by
 rw [List.getD_eq_getElem?_getD, List.getElem?_set, if_neg (fun e => h e.symm), List.getD_eq_getElem?_getD]
theorem getD_app_nil {cs : List Value} {i k : Nat} (h : cs.getD i nilS = nilS) : (cs ++ List.replicate k nilS).getD i nilS = nilS := by
 rw [List.getD_eq_getElem?_getD] at h ⊢
 rw [List.getElem?_append]
 split
 ·exact h
 ·rw [List.getElem?_replicate]; split <;> rfl
theorem frm_new {ts : List TypeId} {B : Nat} {b c : World} (g : b.grownBy c none) (hB : B ≤ b.heap.size) : Frm ts B b c :=
 ⟨⟨g.os, g.tape, g.output, g.size, fun i hi => g.block i (by omega) (by simp)⟩, fun x t cs hb _ => hb.grown g (by simp)⟩
set_option maxHeartbeats 1000000 in
theorem put_c {w : World} {B q g n k : Nat} {vL vs : Value} {ls cs : List Value} (l id : Int) (h : Wt w B q g vL vs n ls k cs) (hB : B ≤ w.heap.size) (h1 : -100000 ≤ l) (h2 : l ≤ 100000) (hnil : cs.getD (slotN l) nilS = nilS) :
  Calls Tryz.prog 36 #[.pointer (some ⟨q, 0, none⟩), .int .i64 l, .int .i64 id] w fun e w' => e = .returned (.tuple #[]) ∧ ∃ vs' k' cs', Wt w' B q g vL vs' n ls k' cs' ∧ (∀ i, i ≠ slotN l → cs.getD i nilS = nilS → cs'.getD i nilS = nilS) ∧ Frm [65, 22] B w w' := by
 have hsl := slot_c w l h1 h2
 have hs0 : slotN l ≤ 200001 := by unfold slotN; split <;> omega
 generalize slotN l = s at *
 have c2 := h.bx.cell 2
 obtain ⟨A0, c0, rfl, _, _, _⟩ := Zrg h.rs
 have HH := Lib.hid h
 have HB := Lib.hid hB
 have hkk := h.hk
 by_cases hk : s < k
 ·obtain ⟨b1, c4, hv, _⟩ := own_form h.rs (by omega)
  injection hv with hv1 hv2 hv3
  subst hv1 hv3
  clear h hB
  obtain ⟨k4, rfl⟩ : ∃ k4, k4 = k := ⟨_, rfl⟩
  obtain ⟨c4, rfl⟩ : ∃ c4, c4 = c0 := ⟨_, rfl⟩
  go_enter Tryz.func36, Tryz.ntmps36
  go_wp2_with fail
  refine hsl.mono ?_
  rintro e w' ⟨rfl, rfl⟩
  go_wp2_with fail
  obtain ⟨W4, hW4⟩ : ∃ W4, W4 = w := ⟨_, rfl⟩
  have HX4 := Lib.hid (hW4 ▸ HH.out.bx)
  have HR4 := Lib.hid (hW4 ▸ HH.out.rs)
  have HL4 := Lib.hid (hW4 ▸ HH.out.rl)
  have HNE4 := Lib.hid HH.out.ne
  have HF4 : Hid (Frm [65, 22] B w W4) := Lib.hid (by rw [hW4]; exact Frm.refl _ _ _)
  have HS4 : Hid (B ≤ W4.heap.size) := Lib.hid (by rw [hW4]; exact HB.out)
  have HK4 := Lib.hid hk
  have HC4 : Hid (∀ i, cs.getD i nilS = nilS → cs.getD i nilS = nilS) := Lib.hid (fun i h => h)
  have HG4 : Hid (cs[s]? = some nilS) := Lib.hid (by
   have hl := HH.out.rs.1
   rw [List.getD_eq_getElem?_getD, List.getElem?_eq_getElem (by omega)] at hnil
   rw [List.getElem?_eq_getElem (by omega)]
   simpa using hnil)
  rw [← hW4]
  clear hW4 c2 hnil
  have hsk : s < k4 := HK4.out
  have e2 := HX4.out.cell 2
  have es := HR4.out.cellAt s (by omega)
  rw [HG4.out] at es
  have e2b := (HX4.out.alloc (Obj.cells #[Value.int .i64 id] 3)).cell 2
  have esb := (HR4.out.alloc (Obj.cells #[Value.int .i64 id] 3)).cellAt s (by omega)
  rw [HG4.out] at esb
  have hsz : (s : Int) < (k4 : Int) := by omega
  go_region_law ((refine step_app_num W4.drew rfl _ _ 22 rfl B 3 (.int .i64 0) 8 Tryz.underlying22 Za52 rfl (by omega) nilS 0 [] rfl (World.ownsRow_nil _ _ _ _) (.int .i64 id) rfl _ rfl rfl (by omega) HS4.out ?_; intro v2 w2 hown2 hg2 _; have hr := HR4.out.drew.kept hg2 (.inr (by simp [Value.ownBlock])); have hx := HX4.out.drew.grown hg2 (by simp [Value.ownBlock]); have d0 := hx.cell 2; have d1 := hr.cellAt s (by omega); have d2 := hr.frozenAt s; rw [HG4.out] at d1; obtain ⟨A2, c2', rfl, _, _, _⟩ := Zrg hown2; have HR5 := Lib.hid hr; have HX5 := Lib.hid hx; have HG2 := Lib.hid hg2; clear hx hr hown2 hg2))
  all_goals (
   have hst := HR5.out.stored s (.slice A2 (0 + 1) c2')
   have hF5 : Frm [65, 22] B w w2 := HF4.out.trans ((Frm.refl _ B _).drew.trans (frm_new HG2.out HS4.out))
   have hlt := HR5.out.lt b1 rfl
   refine ⟨rfl, .tuple #[], results_none rfl _ _ _, rfl, .slice (some ⟨b1, 0, none⟩) k4 c4, k4, _, ⟨HX5.out.far (p := ⟨b1, s, none⟩) (fun e => Zpj HR5.out HX5.out (by decide) (by rw [e]; rfl)) _, (HL4.out.drew.kept HG2.out (Classical.em (vL.ownBlock = none))).kept hst.2 HNE4.out, hst.1, HNE4.out, HH.out.hn, by omega, HH.out.le⟩, fun i hi hc => ?_, hF5.app HR5.out (by have := HB.out; have := hF5.size; omega) hst.2 (by simp)⟩
   rw [getD_set_ne _ hi]
   exact HC4.out i hc)
 ·have HN := Lib.hid hnil
  have HKS := Lib.hid (show k ≤ s by omega)
  clear h hB hnil
  go_enter Tryz.func36, Tryz.ntmps36
  go_wp2_with fail
  refine hsl.mono ?_
  rintro e w' ⟨rfl, rfl⟩
  go_wp2_with (at_builtin; refine wpList_append_zeros _ rfl _ _ 30 3 rfl B 22 nilS 1 24 .i64 Tryz.underlying30 Tryz.underlying3 info_ints rfl (by omega) (by intro u hu; simp [Value.cells] at hu; subst hu; rfl) (.slice A0 k c0) k cs rfl HH.out.rs (s + 1 - k) _ rfl (by omega) (by unfold maxLen; omega) (by omega) HB.out ?_; intro v1 w1 hown1 hg1 hb1; have hx := HH.out.bx.grown hg1 (fun e => Zpj HH.out.rs HH.out.bx (by decide) e.symm); have d1 := hx.cell 2; have f1 := hx.frozen 2; obtain ⟨A1, c4, rfl, _, _, _⟩ := Zrg hown1; have HX1 := Lib.hid hx; have HO1 := Lib.hid hown1; have HG1 := Lib.hid hg1; have HW1 := Lib.hid hb1; clear hx hown1 hg1 hb1)
  have hO1 := HO1.out
  have hX1 := HX1.out
  rw [zc_nil] at hO1
  obtain ⟨b1, c5, hv, hlt1⟩ := own_form hO1 (by omega)
  injection hv with hv1 hv2 hv3
  subst hv1 hv3
  obtain ⟨k4, hk4⟩ : ∃ k4, k4 = k + (s + 1 - k) := ⟨_, rfl⟩
  rw [← hk4] at hO1 ⊢
  have hks := HKS.out
  have hk4s : k4 = s + 1 := by omega
  obtain ⟨W4, hW4⟩ : ∃ W4, W4 = w1.setCell ⟨q, 2, none⟩ (.slice (some ⟨b1, 0, none⟩) k4 c4) := ⟨_, rfl⟩
  have hne : vL.ownBlock = none ∨ vL.ownBlock ≠ some b1 := by
   rcases HH.out.rl.2 with ⟨hz, _⟩ | ⟨gl, capl, curl, hz, _⟩
   ·left; rw [hz]; rfl
   ·right
    intro e
    have hlt := HH.out.rl.lt b1 e
    rcases HW1.out with e2 | e2
    ·have e2 : some b1 = (Value.slice A0 k c0).ownBlock := e2
     rcases HH.out.ne with h3 | h3
     ·rw [h3] at e; cases e
     ·exact h3 (e.trans e2)
    ·have e2 : some b1 = some w.heap.size := e2
     injection e2 with e2
     omega
  have hF0 : Frm [65, 22] B w w1 := (Frm.refl _ B w).app HH.out.rs HB.out HG1.out (by simp)
  have HX4 : Hid (Blk W4 q 65 #[.pointer (some ⟨g, 0, none⟩), vL, .slice (some ⟨b1, 0, none⟩) k4 c4, .slice none 0 0, .int .i64 (-1)]) := Lib.hid (by rw [hW4]; exact hX1.set_ 2 _)
  have HR4 : Hid (W4.ownsRow B 22 1 (.slice (some ⟨b1, 0, none⟩) k4 c4) k4 (cs ++ List.replicate (s + 1 - k) nilS)) := Lib.hid (by rw [hW4]; exact own_setB hO1 hX1 (by decide) 2 _)
  have HL4 : Hid (W4.ownsRow B 22 1 vL n ls) := Lib.hid (by rw [hW4]; exact own_setB (HH.out.rl.kept HG1.out HH.out.ne) hX1 (by decide) 2 _)
  have HNE4 := Lib.hid hne
  have HF4 : Hid (Frm [65, 22] B w W4) := Lib.hid (by rw [hW4]; exact hF0.set_ hX1 (by simp) HH.out.le 2 _)
  have HS4 : Hid (B ≤ W4.heap.size) := Lib.hid (Nat.le_trans HB.out HF4.out.size)
  have HK4 : Hid (s < k4) := Lib.hid (by omega)
  have HC4 : Hid (∀ i, cs.getD i nilS = nilS → (cs ++ List.replicate (s + 1 - k) nilS).getD i nilS = nilS) := Lib.hid (fun i h => getD_app_nil h)
  have HG4 : Hid ((cs ++ List.replicate (s + 1 - k) nilS)[s]? = some nilS) := Lib.hid (by
   have hl := HH.out.rs.1
   rw [List.getElem?_append_right (by omega), List.getElem?_replicate, if_pos (by omega)])
  rw [← hW4]
  have hk5 : k4 ≤ 1000000 := by omega
  clear hW4 hF0 hne hO1 hX1 c2 d1 f1 hk4 hk4s hks
  have hsk : s < k4 := HK4.out
  have e2 := HX4.out.cell 2
  have es := HR4.out.cellAt s (by omega)
  rw [HG4.out] at es
  have e2b := (HX4.out.alloc (Obj.cells #[Value.int .i64 id] 3)).cell 2
  have esb := (HR4.out.alloc (Obj.cells #[Value.int .i64 id] 3)).cellAt s (by omega)
  rw [HG4.out] at esb
  have hsz : (s : Int) < (k4 : Int) := by omega
  go_region_law ((refine step_app_num W4.drew rfl _ _ 22 rfl B 3 (.int .i64 0) 8 Tryz.underlying22 Za52 rfl (by omega) nilS 0 [] rfl (World.ownsRow_nil _ _ _ _) (.int .i64 id) rfl _ rfl rfl (by omega) HS4.out ?_; intro v2 w2 hown2 hg2 _; have hr := HR4.out.drew.kept hg2 (.inr (by simp [Value.ownBlock])); have hx := HX4.out.drew.grown hg2 (by simp [Value.ownBlock]); have d0 := hx.cell 2; have d1 := hr.cellAt s (by omega); have d2 := hr.frozenAt s; rw [HG4.out] at d1; obtain ⟨A2, c2', rfl, _, _, _⟩ := Zrg hown2; have HR5 := Lib.hid hr; have HX5 := Lib.hid hx; have HG2 := Lib.hid hg2; clear hx hr hown2 hg2))
  all_goals (
   have hst := HR5.out.stored s (.slice A2 (0 + 1) c2')
   have hF5 : Frm [65, 22] B w w2 := HF4.out.trans ((Frm.refl _ B _).drew.trans (frm_new HG2.out HS4.out))
   have hlt := HR5.out.lt b1 rfl
   refine ⟨rfl, .tuple #[], results_none rfl _ _ _, rfl, .slice (some ⟨b1, 0, none⟩) k4 c4, k4, _, ⟨HX5.out.far (p := ⟨b1, s, none⟩) (fun e => Zpj HR5.out HX5.out (by decide) (by rw [e]; rfl)) _, (HL4.out.drew.kept HG2.out (Classical.em (vL.ownBlock = none))).kept hst.2 HNE4.out, hst.1, HNE4.out, HH.out.hn, by omega, HH.out.le⟩, fun i hi hc => ?_, hF5.app HR5.out (by have := HB.out; have := hF5.size; omega) hst.2 (by simp)⟩
   rw [getD_set_ne _ hi]
   exact HC4.out i hc)
end Go.Proofs.YtghmfggmimoinaaGreat
