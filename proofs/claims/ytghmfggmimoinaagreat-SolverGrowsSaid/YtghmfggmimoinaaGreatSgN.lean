/- A fresh solver takes its first clause. -/
import Derived.Test.YtghmfggmimoinaaGreatSgM
namespace Go.Proofs.YtghmfggmimoinaaGreat
open Go Go.RowKit
theorem svUndo {w : World} {B s t M : Nat} {mv : Value} (h0 : w.cell? ⟨s, 0, none⟩ = some (.pointer (some ⟨t, 0, none⟩))) (ht : Trl w B t M mv) : Calls Tryz.prog 23 #[.pointer (some ⟨s, 0, none⟩), .int .i64 0] w fun e w' => e = .returned (.tuple #[]) ∧ w = w' := by
 have h1 := trLits_any ht
 have h2 := trBack_any ht
 clear ht
 go_enter Tryz.func23, Tryz.ntmps23
 go_wp2_with fail
 refine h1.mono ?_
 rintro e w' ⟨rfl, rfl⟩
 go_wp2_with fail
 refine h2.mono ?_
 rintro e w' ⟨rfl, rfl⟩
 go_wp2_with fail
 go_loopw [21] (fun x wr => x = .int .i64 0 ∧ w = wr) (fun x _ => 0)
 case atStart => exact ⟨rfl, rfl⟩
 case round =>
  obtain ⟨rfl, rfl⟩ := hrel
  go_wp2_with fail
  go_end0
  exact ⟨rfl, rfl⟩
theorem off_lit {V : Nat} {c : List Int} (h : rightL (V : Int) c = true) {x : Int} (hx : x ∈ c) : x ≠ 0 ∧ -(V : Int) ≤ x ∧ x ≤ V := by
 obtain ⟨i, hi, rfl⟩ := List.getElem_of_mem hx
 have := rightL_take.1 h i hi
 rw [List.getD_eq_getElem?_getD, List.getElem?_eq_getElem hi] at this
 simp [offB] at this
 omega
set_option maxHeartbeats 2000000 in
set_option maxRecDepth 20000 in
theorem svAdd {w : World} {B s V t q h k n cap : Nat} {mv ph : Value} {xs : List Value} {A : Option Addr} {c : List Int} {B0 : Nat} (hs : Sv w B s V V t q h k mv ph xs) (hB : B ≤ w.heap.size) (hR : Reads w B0 1 A n (iv c)) (hB0 : B0 ≤ B) (hn : n ≤ 1000) :
  Calls Tryz.prog 7 #[.pointer (some ⟨s, 0, none⟩), .slice A n cap] w fun e w' => e = .returned (.int .i64 (if rightL V c = true then 0 else 5)) ∧ Below B w w' := by
 have hM := hs.hM
 have hr := right_c (cap := cap) (V : Int) ⟨by omega, by omega⟩ hR (by omega) hn
 have c3 := hs.bx.cell 3
 have HS := Lib.hid hs
 have HB := Lib.hid hB
 have HR := Lib.hid hR
 clear hs hB hR
 rcases hq : rightL (V : Int) c with _ | _
 ·rw [hq] at hr
  clear hq
  go_enter Tryz.func7, Tryz.ntmps7
  go_wp2_with fail
  refine hr.mono ?_
  rintro e w1 ⟨rfl, hb1⟩
  have HB1 := Lib.hid hb1
  clear hb1
  go_wp2_with fail
  go_ret
  exact ⟨rfl, HB1.out.mono HB.out⟩
 ·rw [hq] at hr
  have HQ := Lib.hid hq
  clear hq
  go_enter Tryz.func7, Tryz.ntmps7
  go_wp2_with fail
  refine hr.mono ?_
  rintro e w1 ⟨rfl, hb1⟩
  have F1 : Frm [] B w w1 := Frm.low hb1 HB.out
  have hx1 := F1.box _ _ _ HS.out.bx (by simp)
  have hR1 := HR.out.below (hb1.mono (by have := HB.out; omega))
  have e4 := hx1.cell 4
  have hcl := clone_c w1.drew A n cap B0 c hR1.drew (by have := HB.out; have := F1.size; show B0 ≤ w1.heap.size; omega) (by omega)
  have HX1 := Lib.hid hx1
  have HCL := Lib.hid hcl
  have HF1 := Lib.hid F1
  have HR1 := Lib.hid hR1
  have HS1 : Hid (B ≤ w1.heap.size) := Lib.hid (Nat.le_trans HB.out F1.size)
  clear hb1 F1 hx1 hR1 hcl c3
  go_wp2_with fail
  go_region_law (first
   | (go_simp; go_at_call 21; refine HCL.out.mono ?_; rintro e w2 ⟨v2, rfl, hb2, ho2⟩; obtain ⟨A2, cp2, rfl, _, _, _⟩ := Zrg ho2; have hx2 := HX1.out.drew.below hb2 HX1.out.lt; have g4 := hx2.cell 4; have g4b := (hx2.alloc (Obj.cells #[Value.slice A2 n cp2] 22)).cell 4; have HX2 := Lib.hid hx2; have HB2 := Lib.hid hb2; have HO2 := Lib.hid ho2; have HS2 : Hid (B ≤ w2.heap.size) := Lib.hid (Nat.le_trans HS1.out hb2.size); clear hx2 hb2 ho2)
   | (refine step_app_num w2 rfl _ _ 30 rfl B 22 nilS 24 Tryz.underlying30 info_ints rfl (by omega) nilS 0 [] rfl (World.ownsRow_nil _ _ _ _) (.slice A2 n cp2) rfl _ rfl rfl (by omega) HS2.out ?_; intro v3 w3 hown3 hg3 _; have hx := HX2.out.grown hg3 (by simp [Value.ownBlock]); have d4 := hx.cell 4; have f4 := hx.frozen 4; obtain ⟨A3, cp3, rfl, _, _, _⟩ := Zrg hown3; have HX3 := Lib.hid hx; have HG3 := Lib.hid hg3; clear hx hown3 hg3))
  all_goals (
   obtain ⟨W4, hW4⟩ : ∃ W4, W4 = w3.setCell ⟨s, 4, none⟩ (.slice A3 (0 + 1) cp3) := ⟨_, rfl⟩
   have hx4 : Blk W4 s 50 #[.pointer (some ⟨t, 0, none⟩), .pointer (some ⟨q, 0, none⟩), .pointer (some ⟨h, 0, none⟩), .int .i64 V, .slice A3 (0 + 1) cp3, nilS, .int .i64 500, ph, nilS, .int .i64 64, .bool false, .int .i64 0, .int .i64 0, .int .i64 1] := by rw [hW4]; exact HX3.out.set_ 4 _
   have f13 : Frm [50] B w1.drew W4 := by
    rw [hW4]
    exact ((Frm.low HB2.out HS1.out).trans (frm_new HG3.out HS2.out)).set_ HX3.out (by simp) HS.out.le 4 _
   have f04 : Frm [50] B w W4 := (HF1.out.mono (by simp)).trans ((Frm.refl _ B w1).drew.trans f13)
   have hR4 := HR.out.below (f04.below.mono hB0)
   have hc4 : ∀ x ∈ c, -1000000 ≤ x ∧ x ≤ 1000000 := fun x hx => by have := off_lit HQ.out hx; omega
   have hnm := norm_c (cap := cap) hR4 (Nat.le_trans hB0 (Nat.le_trans HB.out f04.size)) hn hc4
   have HX4 := Lib.hid hx4
   have HF4 := Lib.hid f04
   have HNM := Lib.hid hnm
   clear hx4 f13 f04 hR4 hc4 hnm
   go_wp2_with fail
   rw [← hW4]
   clear hW4
   refine HNM.out.mono ?_
   rintro e w5 ⟨A5, m5, cp5, d5, fine, rfl, hm5, hd5, h25, hr5, hb5⟩
   have hx5 := HX4.out.below hb5 HX4.out.lt
   have hf5 : Frm [50] B w w5 := HF4.out.trans (Frm.low hb5 (Nat.le_trans HB.out HF4.out.size))
   have g0 := hx5.cell 0
   have g1 := hx5.cell 1
   have g10 := hx5.cell 10
   have g10f := hx5.frozen 10
   have ht5 := HS.out.tr.frm hf5 (by decide) (by decide)
   have hq5 := HS.out.wt.frm hf5 (by decide) (by decide)
   have HFF := Lib.hid hf5
   rcases fine with _ | _
   ·clear hx5 hf5 ht5 hq5 hd5 h25 hr5 hb5
    go_wp2_with fail
    go_ret
    exact ⟨rfl, HFF.out.below⟩
   ·by_cases hm : m5 = 0
    ·subst hm
     clear hx5 hf5 ht5 hq5 hd5 h25 hr5 hb5
     go_wp2_with fail
     go_ret
     exact ⟨rfl, HFF.out.below.setCell (p := ⟨s, 10, none⟩) HS.out.le _⟩
    ·have hu := svUndo g0 ht5
     have ha := wAdd_c (cap := cp5) hq5 ht5 (Nat.le_trans HB.out hf5.size) hr5 (by omega) (by omega) (by omega) (fun x hx => off_lit HQ.out (hd5 x hx)) h25
     have HU := Lib.hid hu
     have HA := Lib.hid ha
     have hme : ((m5 : Int) == 0) = false := by simp; omega
     clear hx5 hf5 ht5 hq5 hd5 h25 hr5 hb5 hu ha
     go_wp2_with fail
     refine HU.out.mono ?_
     rintro e w6 ⟨rfl, rfl⟩
     go_wp2_with fail
     refine HA.out.mono ?_
     rintro e w7 ⟨⟨a7, b7, rfl⟩, hb7⟩
     have HB7 := Lib.hid hb7
     clear hb7
     go_wp2_with fail
     go_ret
     exact ⟨rfl, HFF.out.below.trans HB7.out⟩)
end Go.Proofs.YtghmfggmimoinaaGreat
