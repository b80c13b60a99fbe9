/- A clause's literals in order, each once: slices.SortFunc and slices.Compact at []int. -/
import Derived.Test.YtghmfggmimoinaaGreatSgF
import Derived.Shelf.SlSortCmp.NoneTotal
import Derived.Shelf.Slices.CompactI
import Derived.Lib.OwnBridge
import Derived.Shelf.Lay
import Derived.Lib.Walk
namespace Go.Proofs.YtghmfggmimoinaaGreat
open Go Go.RowKit Go.Shelf Go.Sort
set_option maxRecDepth 100000
def sortRenI : Go.Shelf.Ren := ⟨fun | 6 => 30 | 15 => 50 | 14 => 49 | 28 => 83 | 29 => 84 | 20 => 75 | 21 => 76 | 22 => 77 | 23 => 78 | 24 => 79 | 25 => 80 | 26 => 81 | 27 => 82 | 46 => 106 | 47 => 107 | 48 => 108 | 49 => 109 | 50 => 110 | 57 => 122 | n => n, fun | 22 => 22 | 24 => 3 | 25 => 71 | 3 => 3 | 39 => 83 | 0 => 0 | 53 => 114 | 55 => 116 | 4 => 4 | 46 => 108 | 45 => 107 | 50 => 56 | 5 => 5 | 9 => 9 | 66 => 130 | 70 => 134 | 76 => 140 | 77 => 141 | n => n, fun | n => n⟩
theorem sortLayI : Go.Proofs.SlLaysF.n6 Tryz.prog sortRenI := {
 mixed := by kernel_rfl
 f6 := ⟨Tryz.f30.name, by decide, Tryz.func30.trans (congrArg some (by kernel_rfl))⟩
 f14 := ⟨Tryz.f49.name, by decide, Tryz.func49.trans (congrArg some (by kernel_rfl))⟩
 f15 := Tryz.func50.trans (congrArg some (by kernel_rfl))
 f20 := ⟨Tryz.f75.name, by decide, Tryz.func75.trans (congrArg some (by kernel_rfl))⟩
 f21 := ⟨Tryz.f76.name, by decide, Tryz.func76.trans (congrArg some (by kernel_rfl))⟩
 f22 := ⟨Tryz.f77.name, by decide, Tryz.func77.trans (congrArg some (by kernel_rfl))⟩
 f23 := ⟨Tryz.f78.name, by decide, Tryz.func78.trans (congrArg some (by kernel_rfl))⟩
 f24 := ⟨Tryz.f79.name, by decide, Tryz.func79.trans (congrArg some (by kernel_rfl))⟩
 f25 := ⟨Tryz.f80.name, by decide, Tryz.func80.trans (congrArg some (by kernel_rfl))⟩
 f26 := ⟨Tryz.f81.name, by decide, Tryz.func81.trans (congrArg some (by kernel_rfl))⟩
 f27 := ⟨Tryz.f82.name, by decide, Tryz.func82.trans (congrArg some (by kernel_rfl))⟩
 f28 := Tryz.func83.trans (congrArg some (by kernel_rfl))
 f29 := Tryz.func84.trans (congrArg some (by kernel_rfl))
 f46 := ⟨Tryz.f106.name, by decide, Tryz.func106.trans (congrArg some (by kernel_rfl))⟩
 f47 := Tryz.func107.trans (congrArg some (by kernel_rfl))
 f48 := Tryz.func108.trans (congrArg some (by kernel_rfl))
 f49 := ⟨Tryz.f109.name, by decide, Tryz.func109.trans (congrArg some (by kernel_rfl))⟩
 f50 := ⟨Tryz.f110.name, by decide, Tryz.func110.trans (congrArg some (by kernel_rfl))⟩
 f57 := ⟨Tryz.f122.name, by decide, Tryz.func122.trans (congrArg some (by kernel_rfl))⟩
 t0 := Tryz.underlying0
 a0 := Tryz.isAgg0
 z0 := Tryz.sizeOf0
 v0 := Tryz.zeroValue0
 t3 := Tryz.underlying3
 a3 := Tryz.isAgg3
 z3 := Tryz.sizeOf3
 v3 := Tryz.zeroValue3
 t4 := Tryz.underlying4
 a4 := Tryz.isAgg4
 z4 := Tryz.sizeOf4
 v4 := Tryz.zeroValue4
 t5 := Tryz.underlying5
 a5 := Tryz.isAgg5
 z5 := Tryz.sizeOf5
 v5 := Tryz.zeroValue5
 t9 := Tryz.underlying9
 a9 := Tryz.isAgg9
 z9 := Tryz.sizeOf9
 v9 := Tryz.zeroValue9
 t22 := Tryz.underlying22
 a22 := Tryz.isAgg22
 z22 := Tryz.sizeOf22
 v22 := Tryz.zeroValue22
 a24 := Tryz.isAgg3
 z24 := Tryz.sizeOf3
 t25 := Tryz.underlying71
 a25 := Tryz.isAgg71
 z25 := Tryz.sizeOf71
 v25 := Tryz.zeroValue71
 t39 := Tryz.underlying83
 a39 := Tryz.isAgg83
 z39 := Tryz.sizeOf83
 v39 := Tryz.zeroValue83
 t45 := Tryz.underlying107
 a45 := Tryz.isAgg107
 z45 := Tryz.sizeOf107
 v45 := Tryz.zeroValue107
 t46 := Tryz.underlying108
 a46 := Tryz.isAgg108
 z46 := Tryz.sizeOf108
 v46 := Tryz.zeroValue108
 t50 := Tryz.underlying56
 a50 := Tryz.isAgg56
 z50 := Tryz.sizeOf56
 v50 := Tryz.zeroValue56
 t53 := Tryz.underlying114
 a53 := Tryz.isAgg114
 z53 := Tryz.sizeOf114
 v53 := Tryz.zeroValue114
 t55 := Tryz.underlying116
 a55 := Tryz.isAgg116
 z55 := Tryz.sizeOf116
 v55 := Tryz.zeroValue116
 t66 := Tryz.underlying130
 a66 := Tryz.isAgg130
 z66 := Tryz.sizeOf130
 v66 := Tryz.zeroValue130
 t70 := Tryz.underlying134
 a70 := Tryz.isAgg134
 z70 := Tryz.sizeOf134
 v70 := Tryz.zeroValue134
 t76 := Tryz.underlying140
 a76 := Tryz.isAgg140
 z76 := Tryz.sizeOf140
 v76 := Tryz.zeroValue140
 t77 := Tryz.underlying141
 a77 := Tryz.isAgg141
 z77 := Tryz.sizeOf141
 v77 := Tryz.zeroValue141 }
def cmpRenI : Go.Shelf.Ren := ⟨fun | 20 => 32 | n => n, fun | 22 => 22 | 3 => 3 | 0 => 0 | 4 => 4 | n => n, fun | n => n⟩
theorem cmpLayI : Go.Proofs.Lays2.n20 Tryz.prog cmpRenI := {
 mixed := by kernel_rfl
 f20 := Tryz.func32.trans (congrArg some (by kernel_rfl))
 t0 := Tryz.underlying0
 a0 := Tryz.isAgg0
 z0 := Tryz.sizeOf0
 v0 := Tryz.zeroValue0
 t3 := Tryz.underlying3
 a3 := Tryz.isAgg3
 z3 := Tryz.sizeOf3
 v3 := Tryz.zeroValue3
 t4 := Tryz.underlying4
 a4 := Tryz.isAgg4
 z4 := Tryz.sizeOf4
 v4 := Tryz.zeroValue4
 t22 := Tryz.underlying22
 a22 := Tryz.isAgg22
 z22 := Tryz.sizeOf22
 v22 := Tryz.zeroValue22
 i3 := Za52 }
abbrev LI : Type := { x : Int // -1000000 ≤ x ∧ x ≤ 1000000 }
instance : Inhabited LI := ⟨⟨0, by omega⟩⟩
def encL (x : LI) : Value := .int .i64 x.1
def absI (x : Int) : Int := if x < 0 then -x else x
def cfI (x y : Int) : Int := if Lib.compareInt (absI x) (absI y) ≠ 0 then Lib.compareInt (absI x) (absI y) else Lib.compareInt y x
def cfL (x y : LI) : Int := cfI x.1 y.1
theorem cfI_neg (x y : Int) : cfI x y < 0 ↔ absI x < absI y ∨ (absI x = absI y ∧ y < x) := by
 unfold cfI Lib.compareInt
 (repeat' split) <;> omega
theorem swoL : SWO (ltOf cfL) where
 irrefl := fun x => by unfold ltOf cfL; rw [decide_eq_false_iff_not, cfI_neg]; omega
 trans := fun x y z h1 h2 => by unfold ltOf cfL at *; rw [decide_eq_true_iff, cfI_neg] at *; omega
 ntrans := fun x y z h1 h2 => by unfold ltOf cfL at *; rw [decide_eq_false_iff_not, cfI_neg] at *; omega
theorem isNaN_i (x : Int) (w : World) : Calls Tryz.prog 85 #[.int .i64 x] w fun e w' => e = .returned (.bool false) ∧ w' = w := by
 go_enter Tryz.func85, Tryz.ntmps85
 go_wp2
 go_ret
 exact ⟨by simp, rfl⟩
theorem compare_i (x y : Int) (w : World) : Calls Tryz.prog 52 #[.int .i64 x, .int .i64 y] w fun e w' => e = .returned (.int .i64 (Lib.compareInt x y)) ∧ w' = w := by
 have hc := fun x w => isNaN_i x w
 go_enter Tryz.func52, Tryz.ntmps52
 go_wp2_with (go_at_call 85; refine (hc _ _).mono ?_; rintro e w' ⟨rfl, rfl⟩)
 all_goals (go_ret; refine ⟨?_, rfl⟩; unfold Lib.compareInt; (repeat' split) <;> first | rfl | (exfalso; omega))
theorem abs_i (x : Int) (w : World) (h : -1000000 ≤ x ∧ x ≤ 1000000) : Calls Tryz.prog 53 #[.int .i64 x] w fun e w' => e = .returned (.int .i64 (absI x)) ∧ w' = w := by
 have hn := IntWalk.i64_in (-x) ⟨by omega, by omega⟩
 go_enter Tryz.func53, Tryz.ntmps53
 go_wp2
 go_ret
 exact ⟨Zm2 (by unfold absI; split <;> omega), rfl⟩
theorem or_i (a b : Int) (q : Nat) (w : World) (h0 : w.cell? ⟨q, 0, none⟩ = some (.int .i64 a)) (h1 : w.cell? ⟨q, 1, none⟩ = some (.int .i64 b)) : Calls Tryz.prog 51 #[.slice (some ⟨q, 0, none⟩) 2 2] w fun e w' => e = .returned (.int .i64 (if a ≠ 0 then a else b)) ∧ w = w' := by
 go_enter Tryz.func51, Tryz.ntmps51
 go_wp2_with fail
 go_loopw [8] (fun x wr => ∃ j : Nat, x = .int .i64 j ∧ j ≤ 2 ∧ (0 < j → a = 0) ∧ (1 < j → b = 0) ∧ w = wr) (fun x _ => 2 - (intOf x).toNat)
 case atStart => exact ⟨0, rfl, by omega, fun h => absurd h (by omega), fun h => absurd h (by omega), rfl⟩
 case round =>
  obtain ⟨j, rfl, hj, ha, hb, rfl⟩ := hrel
  match j, hj with
  | 0, _ =>
   by_cases q0 : a = 0
   ·have E := Lib.hid q0
    subst q0
    go_wp2_with fail
    go_roundw
    case rel => refine ⟨1, by go_num, by omega, ?_, ?_, ?_⟩ <;> first | trivial | (intro h; first | trivial | rfl | omega)
    case measure => simp [intOf]
   ·have E := Lib.hid q0
    have e : (a != 0) = true := by simpa using q0
    clear q0
    go_wp2_with fail
    go_ret
    exact ⟨Zm2 (by first | rfl | rw [if_pos E.out]), rfl⟩
  | 1, _ =>
   have E0 := Lib.hid (ha (by omega))
   by_cases q0 : b = 0
   ·subst q0
    clear ha hb
    go_wp2_with fail
    go_roundw
    case rel => refine ⟨2, by go_num, by omega, ?_, ?_, ?_⟩ <;> first | trivial | (intro h; first | trivial | exact E0.out | rfl | omega)
    case measure => simp [intOf]
   ·have e : (b != 0) = true := by simpa using q0
    clear ha hb q0
    go_wp2_with fail
    go_ret
    exact ⟨Zm2 (by first | rfl | rw [if_neg (by simpa using E0.out)]), rfl⟩
  | 2, _ =>
   have E0 := Lib.hid (ha (by omega))
   have E1 := Lib.hid (hb (by omega))
   clear ha hb
   go_wp2_with fail
   go_ret
   exact ⟨Zm2 (by first | exact E1.out.symm | rw [if_neg (by simpa using E0.out), E1.out]), rfl⟩
theorem cmp_i (x y : LI) (W : World) : Calls Tryz.prog 31 #[encL x, encL y] W fun e w' => e = .returned (.int .i64 (cfL x y)) ∧ ∃ q os', w' = grow (W.drewN q) os' := by
 obtain ⟨x, hx⟩ := x
 obtain ⟨y, hy⟩ := y
 show Calls Tryz.prog 31 #[.int .i64 x, .int .i64 y] W fun e w' => e = .returned (.int .i64 (cfI x y)) ∧ ∃ q os', w' = grow (W.drewN q) os'
 have c1 := fun w => abs_i x w hx
 have c2 := fun w => abs_i y w hy
 have c3 := fun w => compare_i (absI x) (absI y) w
 have c4 := fun w => compare_i y x w
 have E : Hid (cfI x y = if Lib.compareInt (absI x) (absI y) ≠ 0 then Lib.compareInt (absI x) (absI y) else Lib.compareInt y x) := rfl
 generalize Lib.compareInt (absI x) (absI y) = a at *
 generalize Lib.compareInt y x = b at *
 generalize absI x = ax at *
 generalize absI y = ay at *
 have hb0 := (Blk.new W 3 #[.int .i64 a, .int .i64 b]).cell 0
 have hb1 := (Blk.new W 3 #[.int .i64 a, .int .i64 b]).cell 1
 have c5 := or_i a b _ _ hb0 hb1
 obtain ⟨r, hr⟩ : ∃ r, r = if a ≠ 0 then a else b := ⟨_, rfl⟩
 rw [← hr] at c5
 have E2 := Lib.hid (hr.trans E.out.symm)
 clear hr E
 go_enter Tryz.func31, Tryz.ntmps31
 go_wp2_with fail
 refine (c1 _).mono ?_
 rintro e w' ⟨rfl, rfl⟩
 go_wp2_with fail
 refine (c2 _).mono ?_
 rintro e w' ⟨rfl, rfl⟩
 go_wp2_with fail
 refine (c3 _).mono ?_
 rintro e w' ⟨rfl, rfl⟩
 go_wp2_with fail
 refine (c4 _).mono ?_
 rintro e w' ⟨rfl, rfl⟩
 go_wp2_with fail
 refine c5.mono ?_
 rintro e w' ⟨rfl, rfl⟩
 go_wp2_with fail
 go_ret
 exact ⟨Zm2 E2.out, 0, #[_], alloc_eq_grow _ _⟩
theorem grownBy_grow (w : World) (os : Array Obj) (row : Option Nat) : w.grownBy (grow w os) row :=
 ⟨rfl, rfl, rfl, by simp [grow], fun i hi _ => by simp [grow, Array.getElem?_append_left hi]⟩
theorem frm_grow (ts : List TypeId) (B : Nat) (w : World) (os : Array Obj) (hB : B ≤ w.heap.size) : Frm ts B w (grow w os) :=
 ⟨⟨rfl, rfl, rfl, by simp [grow], fun i hi => by simp [grow, Array.getElem?_append_left (Nat.lt_of_lt_of_le hi hB)]⟩, fun x t cs hb ht => by
  have hl := hb.lt
  unfold Blk at *
  simp [grow, Array.getElem?_append_left hl]
  exact hb⟩
theorem frm_putRow {α : Type} [Inhabited α] {enc : α → Value} {w : World} {B b n c q : Nat} {e : TypeId} {xs : List Value} {d : Array α} (h : w.ownsRow B e 1 (.slice (some ⟨b, 0, none⟩) n c) n xs) (hB : B ≤ b) : Frm [e] B w (putRow enc (Sort.ahead w q) b 0 d) :=
 ⟨Lib.below_putRow (Below.refl _ _) hB, fun x t cs hb ht => by
  have hne := Zpj h hb (fun e => ht (by simp [e]))
  have hx : b ≠ x := fun e => hne (by simp [Value.ownBlock, e])
  unfold Blk at *
  simp [putRow, mapBlock, Sort.ahead, Array.getElem?_modify, hx, hb]⟩
theorem enters_cmp : ∀ args w, (callFunc 31 args).run Tryz.prog w = .ok (.enter 31 args) w := enters_of Tryz.func31 (by kernel_rfl) rfl
theorem sort_i {w : World} {B n c b : Nat} (L : List LI) (h : w.ownsRow B 3 1 (.slice (some ⟨b, 0, none⟩) n c) n (L.map encL)) (hn : n ≤ 1000) :
  Calls Tryz.prog 30 #[.slice (some ⟨b, 0, none⟩) n c, .func (.func 31) #[] #[]] w fun e w' => e = .returned (.tuple #[]) ∧ ∃ L' : List LI, L'.Perm L ∧ w'.ownsRow B 3 1 (.slice (some ⟨b, 0, none⟩) n c) n (L'.map encL) ∧ Frm [3] B w w' := by
 obtain ⟨g, cap, hv, hB, hlt, hnc, hcm, hl, hH⟩ := Lib.holds_of_ownsRow h (by simp)
 injection hv with hv1 hv2 hv3
 injection hv1 with hv1
 injection hv1 with hv1
 subst hv1 hv3
 have hs := Any.slices_SortFunc sortLayI encL (fun _ => rfl) cfL swoL 31 #[] b 0 c L.toArray w enters_cmp (fun m os dk _ x y => cmp_i x y _) hH hlt (by simp; omega)
 rw [List.size_toArray, hl] at hs
 refine hs.mono ?_
 rintro e w' ⟨rfl, d', k, os, hp, _, rfl⟩
 refine ⟨rfl, d'.toList, ?_, ?_, ?_⟩
 ·have h1 := hp.2.2
  have h2 : d'.size = n := by have := hp.1; simpa [hl] using this
  have h3 : d'.toList.length = n := h2
  simp only [Array.toList_extract, List.extract_eq_take_drop, List.drop_zero, Nat.sub_zero] at h1
  rw [List.take_of_length_le (by omega), List.take_of_length_le (by first | omega | (simp; omega))] at h1
  exact h1
 ·have h2 : d'.toList.length = n := by have := hp.1; simpa [hl] using this
  have := Lib.ownsRow_putRow (q := k) h h2 (Nat.le_refl n)
  rw [← h2, List.take_length, h2] at this
  exact this.kept (grownBy_grow _ os none) (.inr (by simp [Value.ownBlock]))
 ·exact (frm_putRow h hB).trans (frm_grow _ _ _ os (by rw [size_putRow]; show B ≤ w.heap.size; omega))
end Go.Proofs.YtghmfggmimoinaaGreat
