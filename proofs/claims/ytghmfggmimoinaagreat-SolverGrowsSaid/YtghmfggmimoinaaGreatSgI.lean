/- A literal follows on a trail on which nothing stands. -/
import Derived.Test.YtghmfggmimoinaaGreatSgH
namespace Go.Proofs.YtghmfggmimoinaaGreat
open Go Go.RowKit
theorem trFree_any {w : World} {B g V b c : Nat} (l : Int) (h : Trl w B g V (.slice (some ⟨b, 0, none⟩) (V + 1) c)) (h0 : l ≠ 0) (h1 : -(V : Int) ≤ l) (h2 : l ≤ V) :
  Calls Tryz.prog 58 #[.pointer (some ⟨g, 0, none⟩), .int .i64 l] w fun e w' => ∃ (v : Nat) (s : Int), e = .returned (.tuple #[.pointer (some ⟨b, v * 3, none⟩), .int .i8 s]) ∧ v ≤ V ∧ w = w' := by
 have hV := h.hv
 obtain ⟨v, hv⟩ : ∃ v : Int, v = if l < 0 then -l else l := ⟨_, rfl⟩
 obtain ⟨s, hs⟩ : ∃ s : Int, s = if l < 0 then -1 else 1 := ⟨_, rfl⟩
 have hv1 : 1 ≤ v := by rw [hv]; split <;> omega
 have hv2 : v ≤ V := by rw [hv]; split <;> omega
 have hsp := trSplit_any w l (by omega) (by omega)
 rw [← hv, ← hs] at hsp
 have hof := trOf_any v h hv1 hv2
 have hc := h.cell (v := v.toNat) (by omega)
 clear h hs hv
 go_enter Tryz.func58, Tryz.ntmps58
 go_wp2_with fail
 refine hsp.mono ?_
 rintro e w' ⟨rfl, rfl⟩
 go_wp2_with fail
 refine hof.mono ?_
 rintro e w' ⟨rfl, rfl⟩
 go_wp2_with fail
 go_ret2
 exact ⟨v.toNat, s, rfl, by omega, rfl⟩
set_option maxHeartbeats 1000000 in
theorem trImply_any {w : World} {B g V : Nat} {mv : Value} (l : Int) (h : Trl w B g V mv) (hB : B ≤ w.heap.size) (h0 : l ≠ 0) (h1 : -(V : Int) ≤ l) (h2 : l ≤ V) :
  Calls Tryz.prog 38 #[.pointer (some ⟨g, 0, none⟩), .int .i64 l, .int .i64 0] w fun e w' => (∃ b, e = .returned (.bool b)) ∧ Below B w w' := by
 obtain ⟨b, c, rfl, hb, hc, hrow⟩ := h.form
 have hfr := trFree_any l h h0 h1 h2
 have c2 := h.bx.cell 2
 have HH := Lib.hid h
 have HR := Lib.hid hrow
 have HB := Lib.hid hB
 clear h hrow hB
 go_enter Tryz.func38, Tryz.ntmps38
 go_wp2_with fail
 refine hfr.mono ?_
 rintro e w' ⟨v, s, rfl, hv, rfl⟩
 have k0 := HR.out.cellAt (v * 3) (by omega)
 have k1 := HR.out.cellAt (v * 3 + 1) (by omega)
 have k2 := HR.out.cellAt (v * 3 + 2) (by omega)
 rw [zc_get (by show _ < (V + 1) * 3; omega)] at k0 k1 k2
 have f0 := HR.out.frozenAt (v * 3)
 have f1 := HR.out.frozenAt (v * 3 + 1)
 have f2 := HR.out.frozenAt (v * 3 + 2)
 have hgb : g ≠ b := fun e => Zpj HR.out HH.out.bx (by decide) (by rw [e]; rfl)
 have hx3 := ((HH.out.bx.far (p := ⟨b, v * 3, none⟩) hgb (.int .i8 s)).far (p := ⟨b, v * 3 + 1, none⟩) hgb (.int .i64 0)).far (p := ⟨b, v * 3 + 2, none⟩) hgb (.int .i64 0)
 have hb3 := (((Below.refl B w).setCell (p := ⟨b, v * 3, none⟩) hb (.int .i8 s)).setCell (p := ⟨b, v * 3 + 1, none⟩) hb (.int .i64 0)).setCell (p := ⟨b, v * 3 + 2, none⟩) hb (.int .i64 0)
 have e0 := hx3.cell 0
 have HX3 := Lib.hid hx3
 have HB3 := Lib.hid hb3
 clear hx3 hb3
 obtain ⟨W3, hW3⟩ : ∃ W3, W3 = ((w.setCell ⟨b, v * 3, none⟩ (.int .i8 s)).setCell ⟨b, v * 3 + 1, none⟩ (.int .i64 0)).setCell ⟨b, v * 3 + 2, none⟩ (.int .i64 0) := ⟨_, rfl⟩
 rw [← hW3] at HX3 HB3
 have HS3 := Lib.hid (Nat.le_trans HB.out HB3.out.size)
 have HSZ := Lib.hid (show w.heap.size = W3.heap.size by rw [hW3]; simp [World.setCell])
 go_wp2_with (at_builtin; rw [← hW3]; clear hW3; refine wpList_app_num W3 rfl _ _ 22 rfl B 3 (.int .i64 0) 8 Tryz.underlying22 Za52 rfl (by omega) (.slice none 0 0) 0 [] rfl (World.ownsRow_nil _ _ _ _) (.int .i64 l) rfl _ rfl HSZ.out (by omega) HS3.out ?_; intro v' w1 hown' hg' _; have hx := HX3.out.grown hg' (by simp [Value.ownBlock]); have d0 := hx.cell 0; have f0 := hx.frozen 0; obtain ⟨A', c', rfl, _, _, _⟩ := Zrg hown'; have hx4 := hx.set_ 0 (Value.slice A' (0 + 1) c'); have d4 := hx4.cell 4; have f4 := hx4.frozen 4; have hx5 := hx4.set_ 4 (Value.int .i64 1); have d53 := hx5.cell 3; have d54 := hx5.cell 4; have HX5 := Lib.hid hx5; have HG := Lib.hid hg'; clear hx hx4 hx5 hown' hg')
 obtain ⟨W5, hW5⟩ : ∃ W5, W5 = (w1.setCell ⟨g, 0, none⟩ (Value.slice A' (0 + 1) c')).setCell ⟨g, 4, none⟩ (Value.int .i64 1) := ⟨_, rfl⟩
 rw [← hW5] at HX5 d53 d54 ⊢
 have e3 : W5.cell? ⟨g, 3, none⟩ = some (.slice none 0 0) := d53
 have e4 : W5.cell? ⟨g, 4, none⟩ = some (.int .i64 1) := d54
 have hb5 : Below B w W5 := by rw [hW5]; exact (((HB3.out.grown HG.out HS3.out (by simp [Value.ownBlock])).setCell (p := ⟨g, 0, none⟩) HH.out.le _).setCell (p := ⟨g, 4, none⟩) HH.out.le _)
 have HB5 := Lib.hid hb5
 have HS5 := Lib.hid (Nat.le_trans HB.out hb5.size)
 have e3b : (W5.alloc (Obj.cells #[Value.int .i64 1] 3)).cell? ⟨g, 3, none⟩ = some (.slice none 0 0) := (HX5.out.alloc _).cell 3
 clear d53 d54 hb5 hW5 d0 f0 d4 f4 k0 k1 k2 e0 c2
 go_region_law ((refine step_app_num W5.drew rfl _ _ 22 rfl B 3 (.int .i64 0) 8 Tryz.underlying22 Za52 rfl (by omega) (.slice none 0 0) 0 [] rfl (World.ownsRow_nil _ _ _ _) (.int .i64 1) rfl _ rfl rfl (by omega) HS5.out ?_; intro v2 w2 hown2 hg2 _; have hx := HX5.out.drew.grown hg2 (by simp [Value.ownBlock]); have d0 := hx.cell 3; have f0 := hx.frozen 3; obtain ⟨A2, c2', rfl, _, _, _⟩ := Zrg hown2; have HG2 := Lib.hid hg2; clear hx hown2 hg2))
 all_goals (
  go_wp2_with fail
  go_ret
  exact ⟨⟨true, rfl⟩, ((HB5.out.drew).grown HG2.out HS5.out (by simp [Value.ownBlock])).setCell (p := ⟨g, 3, none⟩) HH.out.le _⟩)
end Go.Proofs.YtghmfggmimoinaaGreat
