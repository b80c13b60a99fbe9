/- A fresh solver: made, grown. -/
import Derived.Test.YtghmfggmimoinaaGreatSgL
namespace Go.Proofs.YtghmfggmimoinaaGreat
open Go Go.RowKit
structure Sv (w : World) (B s V M t q h k : Nat) (mv ph : Value) (xs : List Value) : Prop where
 bx : Blk w s 50 #[.pointer (some ⟨t, 0, none⟩), .pointer (some ⟨q, 0, none⟩), .pointer (some ⟨h, 0, none⟩), .int .i64 V, nilS, nilS, .int .i64 500, ph, nilS, .int .i64 64, .bool false, .int .i64 0, .int .i64 0, .int .i64 1]
 tr : Trl w B t M mv
 wt : Wt w B q t nilS nilS 0 [] 0 []
 hp : HqE w B h M k
 hk : k ≤ V
 pr : w.ownsRow B 4 1 ph (V + 1) xs
 hM : M ≤ 65536
 hV : V ≤ M
 le : B ≤ s
abbrev growTs : List TypeId := [50, 63, 92, 68, 3, 2, 4]
theorem svVars {w : World} {B s V M t q h k : Nat} {mv ph : Value} {xs : List Value} (hs : Sv w B s V M t q h k mv ph xs) : Calls Tryz.prog 8 #[.pointer (some ⟨s, 0, none⟩)] w fun e w' => e = .returned (.int .i64 V) ∧ w = w' := by
 have c3 := hs.bx.cell 3
 clear hs
 go_enter Tryz.func8, Tryz.ntmps8
 go_wp2
 go_ret
 exact ⟨rfl, rfl⟩
theorem svVarsNil (w : World) : Calls Tryz.prog 8 #[.pointer none] w fun e w' => e = .returned (.int .i64 0) ∧ w = w' := by
 go_enter Tryz.func8, Tryz.ntmps8
 go_wp2
 go_ret
 exact ⟨rfl, rfl⟩
theorem svClausesNil (w : World) : Calls Tryz.prog 9 #[.pointer none] w fun e w' => e = .returned nilS ∧ w = w' := by
 go_enter Tryz.func9, Tryz.ntmps9
 go_wp2
 go_ret
 exact ⟨rfl, rfl⟩
theorem svProofNil (w : World) : Calls Tryz.prog 10 #[.pointer none] w fun e w' => e = .returned nilS ∧ w = w' := by
 go_enter Tryz.func10, Tryz.ntmps10
 go_wp2
 go_ret
 exact ⟨rfl, rfl⟩
theorem svGrowNil (w : World) (n : Int) : Calls Tryz.prog 6 #[.pointer none, .int .i64 n] w fun e w' => e = .returned (.int .i64 1) ∧ w = w' := by
 go_enter Tryz.func6, Tryz.ntmps6
 go_wp2
 go_ret
 exact ⟨rfl, rfl⟩
theorem svAddNil (w : World) (v : Value) : Calls Tryz.prog 7 #[.pointer none, v] w fun e w' => e = .returned (.int .i64 1) ∧ w = w' := by
 go_enter Tryz.func7, Tryz.ntmps7
 go_wp2
 go_ret
 exact ⟨rfl, rfl⟩
theorem svGrowBig {w : World} {B s V M t q h k : Nat} {mv ph : Value} {xs : List Value} (n : Int) (hs : Sv w B s V M t q h k mv ph xs) (hn : 65536 < n) : Calls Tryz.prog 6 #[.pointer (some ⟨s, 0, none⟩), .int .i64 n] w fun e w' => e = .returned (.int .i64 10) ∧ w = w' := by
 clear hs
 go_enter Tryz.func6, Tryz.ntmps6
 go_wp2
 go_ret
 exact ⟨rfl, rfl⟩
set_option maxHeartbeats 2000000 in
set_option maxRecDepth 20000 in
theorem svGrow {w : World} {B s V t q h k : Nat} {mv ph : Value} {xs : List Value} (n : Int) (hs : Sv w B s V V t q h k mv ph xs) (hB : B ≤ w.heap.size) (hn : n ≤ 65536) :
  Calls Tryz.prog 6 #[.pointer (some ⟨s, 0, none⟩), .int .i64 n] w fun e w' => e = .returned (.int .i64 0) ∧ (∃ k' mv' ph' xs', Sv w' B s (max V n.toNat) (max V n.toNat) t q h k' mv' ph' xs') ∧ Frm growTs B w w' := by
 have hg1 := trGrow_any n hs.tr hB hn
 have c0 := hs.bx.cell 0
 have HS := Lib.hid hs
 have HB := Lib.hid hB
 have hVV := hs.hM
 obtain ⟨M, hM⟩ : ∃ M, M = max V n.toNat := ⟨_, rfl⟩
 rw [← hM] at hg1 ⊢
 have hMb : M ≤ 65536 := by omega
 have hVM : V ≤ M := by omega
 have hnM : n ≤ M := by omega
 have HMM := Lib.hid hM
 clear hs hB hM
 go_enter Tryz.func6, Tryz.ntmps6
 go_wp2_with fail
 refine hg1.mono ?_
 rintro e w1 ⟨rfl, mv1, ht1, hf1⟩
 have hx1 := hf1.box _ _ _ HS.out.bx (by decide)
 have d2 := hx1.cell 2
 have hh1 := HS.out.hp.frm hf1 (by decide) (by decide) (by decide)
 have hB1 := Nat.le_trans HB.out hf1.size
 have hg2 := hqGrow n hh1 hB1 hn
 rw [← HMM.out] at hg2
 have HT1 := Lib.hid ht1
 have HF1 := Lib.hid hf1
 have HX1 := Lib.hid hx1
 have HB1 := Lib.hid hB1
 clear ht1 hf1 hx1 hh1 hB1
 go_wp2_with fail
 refine hg2.mono ?_
 rintro e w2 ⟨rfl, hh2, hf2⟩
 have hF2 : Frm growTs B w w2 := (HF1.out.mono (by simp)).trans (hf2.mono (by simp))
 have hS2 : Sv w2 B s V M t q h k mv1 ph xs := ⟨hf2.box _ _ _ HX1.out (by decide), HT1.out.frm hf2 (by decide) (by decide), (HS.out.wt.frm HF1.out (by decide) (by decide)).frm hf2 (by decide) (by decide), hh2, HS.out.hk, own_frm (own_frm HS.out.pr HF1.out (by decide)) hf2 (by decide), hMb, hVM, HS.out.le⟩
 have HS2 := Lib.hid hS2
 have HF2 := Lib.hid hF2
 clear hh2 hf2 hF2 hS2 c0 d2 hg1 hg2
 go_wp2_with fail
 go_loopw [] (fun wr => ∃ (j k' : Nat) (ph' : Value) (xs' : List Value), V ≤ j ∧ Sv wr B s j M t q h k' mv1 ph' xs' ∧ Frm growTs B w wr) (fun wr => M - (intOf ((wr.cell? ⟨s, 3, none⟩).getD (.int .i64 0))).toNat)
 case atStart => exact ⟨V, k, ph, xs, Nat.le_refl _, HS2.out, HF2.out⟩
 case round =>
  clear HS2 HF2
  obtain ⟨j, k', ph', xs', hj, hs3, hf3⟩ := hrel
  have c3 := hs3.bx.cell 3
  have c7 := hs3.bx.cell 7
  have hjM := hs3.hV
  by_cases hlt : (j : Int) < n
  ·have HS3 := Lib.hid hs3
   have HF3 := Lib.hid hf3
   have HBr := Lib.hid (Nat.le_trans HB.out hf3.size)
   clear hs3 hf3
   go_wp2_with (at_builtin; refine wpList_app_num _ rfl _ _ 36 rfl B 4 (.bool false) 1 Tryz.underlying36 Za1q rfl (by omega) ph' (j + 1) xs' rfl HS3.out.pr (.bool false) rfl _ rfl rfl (by omega) HBr.out ?_; intro v' w4 hown' hg' _; have hx := HS3.out.bx.grown hg' (fun e => Zpj HS3.out.pr HS3.out.bx (by decide) e.symm); have e7 := hx.cell 7; have f7 := hx.frozen 7; obtain ⟨A', c', rfl, _, _, _⟩ := Zrg hown'; have HX := Lib.hid hx; have HO := Lib.hid hown'; have HG := Lib.hid hg'; clear hx hown' hg')
   obtain ⟨W5, hW5⟩ : ∃ W5, W5 = w4.setCell ⟨s, 7, none⟩ (.slice A' (j + 1 + 1) c') := ⟨_, rfl⟩
   have hx5 : Blk W5 s 50 #[.pointer (some ⟨t, 0, none⟩), .pointer (some ⟨q, 0, none⟩), .pointer (some ⟨h, 0, none⟩), .int .i64 j, nilS, nilS, .int .i64 500, .slice A' (j + 1 + 1) c', nilS, .int .i64 64, .bool false, .int .i64 0, .int .i64 0, .int .i64 1] := by rw [hW5]; exact HX.out.set_ 7 _
   have hf5 : Frm [50, 4] B wr W5 := by
    rw [hW5]
    exact ((Frm.refl _ B wr).app HS3.out.pr HBr.out HG.out (by simp)).set_ HX.out (by simp) HS3.out.le 7 _
   have ho5 : W5.ownsRow B 4 1 (.slice A' (j + 1 + 1) c') (j + 1 + 1) (xs' ++ [.bool false]) := by
    rw [hW5]
    exact own_setB HO.out HX.out (by decide) 7 _
   have e2 := hx5.cell 2
   have e3 := hx5.cell 3
   have hh5 := HS3.out.hp.frm hf5 (by decide) (by decide) (by decide)
   have hB5 := Nat.le_trans HBr.out hf5.size
   have hk5 := HS3.out.hk
   have hpush : Calls Tryz.prog 19 #[.pointer (some ⟨h, 0, none⟩), .int .i64 ((j : Int) + 1)] W5.drew _ := hqPush ((j : Int) + 1) (w := W5.drew) (by obtain ⟨a1, a2, a3, a4, a5, a6, a7, a8, hq⟩ := hh5; exact ⟨a1, a2, a3, a4, a5, a6, a7, a8, hq.bx.drew, hq.rl, hq.rp, hq.ra, hq.ne, hq.rng, hq.hV, hq.le⟩) hB5 (by omega) (by omega) (by omega)
   have HPU := Lib.hid hpush
   have HX5 := Lib.hid hx5
   have HF5 := Lib.hid hf5
   have HO5 := Lib.hid ho5
   rw [← hW5]
   clear hW5 hx5 hf5 ho5 hh5 hpush c3 c7 e7 f7
   go_still_tail 9, (by kernel_rfl)
   change wpList _ _ _ _ _ W5.drew
   go_wp2_with fail
   refine HPU.out.mono ?_
   rintro e w6 ⟨bb, k6, rfl, hk6, hh6, hf6⟩
   have hx6 := hf6.box _ _ _ HX5.out.drew (by decide)
   have g3 := hx6.cell 3
   have g3f := hx6.frozen 3
   have HX6 := Lib.hid hx6
   have HF6 := Lib.hid hf6
   have HH6 := Lib.hid hh6
   clear hx6 hf6 hh6 e2 e3
   go_wp2_with fail
   have hx7 : Blk (w6.setCell ⟨s, 3, none⟩ (.int .i64 ((j : Int) + 1))) s 50 #[.pointer (some ⟨t, 0, none⟩), .pointer (some ⟨q, 0, none⟩), .pointer (some ⟨h, 0, none⟩), .int .i64 ((j + 1 : Nat) : Int), nilS, nilS, .int .i64 500, .slice A' (j + 1 + 1) c', nilS, .int .i64 64, .bool false, .int .i64 0, .int .i64 0, .int .i64 1] := HX6.out.set_ 3 _
   have hf56 := (HF5.out.mono (ts' := growTs) (by simp)).trans ((Frm.refl growTs B W5).drew.trans (HF6.out.mono (by simp)))
   have hf7 : Frm [50] B w6 (w6.setCell ⟨s, 3, none⟩ (.int .i64 ((j : Int) + 1))) := (Frm.refl _ B w6).set_ HX6.out (by simp) HS3.out.le 3 _
   have h67 : Frm [50, 68, 3] B W5.drew (w6.setCell ⟨s, 3, none⟩ (.int .i64 ((j : Int) + 1))) := (HF6.out.mono (by simp)).trans (hf7.mono (by simp))
   have h57 : Frm [50, 4, 68, 3] B wr (w6.setCell ⟨s, 3, none⟩ (.int .i64 ((j : Int) + 1))) := (HF5.out.mono (by simp)).trans ((Frm.refl _ B W5).drew.trans (h67.mono (by simp)))
   have hs7 : Sv (w6.setCell ⟨s, 3, none⟩ (.int .i64 ((j : Int) + 1))) B s (j + 1) M t q h k6 mv1 (.slice A' (j + 1 + 1) c') (xs' ++ [.bool false]) := ⟨hx7, HS3.out.tr.frm h57 (by decide) (by decide), HS3.out.wt.frm h57 (by decide) (by decide), HH6.out.frm hf7 (by decide) (by decide) (by decide), by omega, own_frm (w := W5.drew) HO5.out h67 (by decide), hMb, by omega, HS3.out.le⟩
   have HS7 := Lib.hid hs7
   have HF7 := Lib.hid (HF3.out.trans (h57.mono (ts' := growTs) (by simp)))
   have g7 := hx7.cell 3
   clear hx7 hf56 hf7 h67 h57 hs7 g3 g3f
   go_roundw
   case rel => exact ⟨j + 1, k6, _, _, by omega, HS7.out, HF7.out⟩
   case measure =>
    have a1 : wr.cell? ⟨s, 3, none⟩ = some (.int .i64 (j : Int)) := HS3.out.bx.cell 3
    have a2 : (w6.setCell ⟨s, 3, none⟩ (.int .i64 ((j : Int) + 1))).cell? ⟨s, 3, none⟩ = some (.int .i64 ((j + 1 : Nat) : Int)) := HS7.out.bx.cell 3
    rw [a1, a2]
    show M - ((j + 1 : Nat) : Int).toNat < M - (j : Int).toNat
    omega
  ·have HS3 := Lib.hid hs3
   have HF3 := Lib.hid hf3
   have hjm : j = M := by have := HMM.out; omega
   clear hs3 hf3
   go_wp2_with fail
   go_ret
   subst hjm
   exact ⟨rfl, ⟨k', mv1, ph', xs', HS3.out⟩, HF3.out⟩
theorem own_mono {w : World} {base base' size n : Nat} {e : TypeId} {v : Value} {xs : List Value} (h : w.ownsRow base e size v n xs) (hb : base' ≤ base) : w.ownsRow base' e size v n xs := by
 refine ⟨h.1, ?_⟩
 rcases h.2 with hn | ⟨g, cap, cur, hv, hg, rest⟩
 ·exact .inl hn
 ·exact .inr ⟨g, cap, cur, hv, by omega, rest⟩
theorem HqE.mono {w : World} {B B' g V n : Nat} (h : HqE w B g V n) (hb : B' ≤ B) : HqE w B' g V n := by
 obtain ⟨vl, bp, cp, ba, ca, ls, ps, az, h⟩ := h
 exact ⟨vl, bp, cp, ba, ca, ls, ps, az, h.bx, own_mono h.rl hb, own_mono h.rp hb, own_mono h.ra hb, h.ne, h.rng, h.hV, by have := h.le; omega⟩
set_option maxHeartbeats 1000000 in
theorem svNew (w : World) (V : Int) (h0 : 0 ≤ V) (h1 : V ≤ 65536) :
  Calls Tryz.prog 5 #[.int .i64 V] w fun e w' => ∃ s t q h k mv ph xs, e = .returned (.pointer (some ⟨s, 0, none⟩)) ∧ Sv w' w.heap.size s V.toNat V.toNat t q h k mv ph xs ∧ Below w.heap.size w w' := by
 have ht := trNew_any w
 go_enter Tryz.func5, Tryz.ntmps5
 go_wp2_with fail
 refine ht.mono ?_
 rintro e w1 ⟨t, mv, rfl, ht1, hb1⟩
 have HT1 := Lib.hid ht1
 have HB1 := Lib.hid hb1
 clear ht1 hb1
 have hq := wNew_any w1 t
 go_wp2_with fail
 refine hq.mono ?_
 rintro e w2 ⟨rfl, hw2⟩
 have hh := hqNew w2
 have HW2 := Lib.hid hw2
 clear hw2
 go_wp2_with fail
 refine hh.mono ?_
 rintro e w3 ⟨h, rfl, hh3, hb3⟩
 have HH3 := Lib.hid hh3
 have HB3 := Lib.hid hb3
 clear hh3 hb3
 go_wp2_with fail
 have hs1 := HB1.out.size
 have e2 : w2.heap.size = w1.heap.size + 1 := by rw [HW2.out, World.size_alloc]
 have b12 : Below w1.heap.size w1 w2 := by rw [HW2.out]; exact (Below.refl _ w1).alloc (Nat.le_refl _) _
 have hs3 := HB3.out.size
 obtain ⟨bx, hbx⟩ : ∃ bx : Array Value, bx = #[.pointer (some ⟨t, 0, none⟩), .pointer (some ⟨w1.heap.size, 0, none⟩), .pointer (some ⟨h, 0, none⟩), .int .i64 0, .slice none 0 0, .slice none 0 0, .int .i64 500, .slice (some ⟨w3.heap.size, 0, none⟩) 1 1, .slice none 0 0, .int .i64 64, .bool false, .int .i64 0, .int .i64 0, .int .i64 1] := ⟨_, rfl⟩
 rw [← hbx]
 obtain ⟨W5, hW5⟩ : ∃ W5, W5 = (w3.alloc (Obj.cells #[Value.bool false] 4)).alloc (Obj.cells bx 50) := ⟨_, rfl⟩
 have b35 : Below w3.heap.size w3 W5 := by rw [hW5]; exact ((Below.refl _ w3).alloc (Nat.le_refl _) _).alloc (by simp) _
 have b25 : Below w2.heap.size w2 W5 := HB3.out.trans (b35.mono hs3)
 have b15 : Below w1.heap.size w1 W5 := b12.trans (b25.mono (by omega))
 have bw5 : Below w.heap.size w W5 := HB1.out.trans (b15.mono hs1)
 have hx5 : Blk W5 (w3.heap.size + 1) 50 bx := by
  have := Blk.new (w3.alloc (Obj.cells #[Value.bool false] 4)) 50 bx
  rw [World.size_alloc] at this
  rw [hW5]; exact this
 have hq2 : Blk w2 w1.heap.size 65 #[.pointer (some ⟨t, 0, none⟩), .slice none 0 0, .slice none 0 0, .slice none 0 0, .int .i64 (-1)] := by rw [HW2.out]; exact Blk.new _ _ _
 have hsv : Sv W5 w.heap.size (w3.heap.size + 1) 0 0 t w1.heap.size h 0 mv (.slice (some ⟨w3.heap.size, 0, none⟩) 1 1) [.bool false] := by
  refine ⟨by rw [hbx] at hx5; exact hx5, HT1.out.frm (Frm.low (ts := []) b15 hs1) (by simp) (by simp), ⟨hq2.below b25 (by omega), World.ownsRow_nil _ _ _ _, World.ownsRow_nil _ _ _ _, .inl rfl, by omega, by omega, hs1⟩, (HH3.out.mono (by omega)).frm (Frm.low (ts := []) b35 (by omega)) (by simp) (by simp) (by simp), by omega, ?_, by omega, by omega, by omega⟩
  have := World.ownsRow_lit (base := w.heap.size) (e := 4) (size := 1) w3 #[.bool false] 1 (by omega) (by simp [maxLen]) rfl
  rw [hW5]; exact this.alloc _
 have hgr := svGrow V hsv (by have := bw5.size; omega) h1
 rw [show max 0 V.toNat = V.toNat by omega] at hgr
 have HG := Lib.hid hgr
 have HBW := Lib.hid bw5
 rw [← hW5]
 clear hgr hsv hq2 hx5 b35 b25 b15 bw5 b12 hbx hW5 ht hq hh
 refine HG.out.mono ?_
 rintro e w6 ⟨rfl, ⟨k', mv', ph', xs', hs6⟩, hf6⟩
 have HS6 := Lib.hid hs6
 have HF6 := Lib.hid hf6
 clear hs6 hf6
 go_wp2_with fail
 go_ret
 exact ⟨_, t, _, h, k', mv', ph', xs', rfl, HS6.out, HBW.out.trans HF6.out.below⟩
end Go.Proofs.YtghmfggmimoinaaGreat
