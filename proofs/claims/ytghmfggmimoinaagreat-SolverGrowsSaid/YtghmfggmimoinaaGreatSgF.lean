/- Is a list a clause of so many variables: the program's answer and the document's. -/
import Derived.Test.YtghmfggmimoinaaGreatSgE
namespace Go.Proofs.YtghmfggmimoinaaGreat
open Go Go.RowKit
def offB (V l : Int) : Bool := decide (l = 0) || decide (V < 0) || decide (V < l) || decide (l < -V)
def rightL (V : Int) (c : List Int) : Bool := c.all fun l => !(offB V l)
theorem rightL_take {V : Int} {c : List Int} : rightL V c = true ↔ ∀ i, i < c.length → offB V (c.getD i 0) = false := by
 unfold rightL
 rw [List.all_eq_true]
 constructor
 ·intro h i hi
  rw [List.getD_eq_getElem?_getD, List.getElem?_eq_getElem hi]
  have := h c[i] (List.getElem_mem hi)
  simpa using this
 ·intro h x hx
  obtain ⟨i, hi, rfl⟩ := List.getElem_of_mem hx
  have := h i hi
  rw [List.getD_eq_getElem?_getD, List.getElem?_eq_getElem hi] at this
  simpa using this
theorem rightL_false {V : Int} {c : List Int} {i : Nat} (hi : i < c.length) (h : offB V (c.getD i 0) = true) : rightL V c = false := by
 rcases hr : rightL V c with _ | _
 ·rfl
 ·rw [rightL_take.1 hr i hi] at h; cases h
theorem right1_c {w : World} {g : Nat} (l V : Int) (hv : -1000000 ≤ V ∧ V ≤ 1000000) (hg : w.cell? ⟨g, 0, none⟩ = some (.int .i64 V)) :
  Calls Tryz.prog 29 #[.int .i64 l, .pointer (some ⟨g, 0, none⟩)] w fun e w' => e = .returned (.bool (offB V l)) ∧ w = w' := by
 have hn := IntWalk.i64_in (-V) ⟨by omega, by omega⟩
 go_enter Tryz.func29, Tryz.ntmps29
 go_wp2
 all_goals go_ret
 all_goals refine ⟨Zof ?_, rfl⟩
 all_goals unfold offB
 all_goals grind
set_option maxHeartbeats 800000 in
theorem index_c {w : World} {g B n cap : Nat} {A : Option Addr} {c : List Int} (V : Int) (hv : -1000000 ≤ V ∧ V ≤ 1000000) (hg : w.cell? ⟨g, 0, none⟩ = some (.int .i64 V)) (hR : Reads w B 1 A n (iv c)) (hn : n ≤ 1000) :
  Calls Tryz.prog 48 #[.slice A n cap, .func (.func 29) #[] #[.pointer (some ⟨g, 0, none⟩)]] w fun e w' => ∃ k : Int, e = .returned (.int .i64 k) ∧ (decide (0 ≤ k) = !(rightL V c)) ∧ w = w' := by
 have hl : c.length = n := by have := hR.1; rw [iv_len] at this; omega
 have hcon := fun l => right1_c (w := w) (g := g) l V hv hg
 go_enter Tryz.func48, Tryz.ntmps48
 go_wp2_with fail
 go_loopw [8] (fun x wr => ∃ j : Nat, x = .int .i64 j ∧ j ≤ n ∧ (∀ i, i < j → offB V (c.getD i 0) = false) ∧ w = wr) (fun x _ => n - (intOf x).toNat)
 case atStart => exact ⟨0, rfl, by omega, fun i hi => absurd hi (by omega), rfl⟩
 case round =>
  obtain ⟨j, rfl, hj, hall, rfl⟩ := hrel
  by_cases hlt : j < n
  ·obtain ⟨b, off, rfl, _, hc⟩ := hR.intAt hlt
   obtain ⟨x, hx⟩ : ∃ x, x = c.getD j 0 := ⟨_, rfl⟩
   rw [← hx] at hc
   have hcj := hcon x
   have HX := Lib.hid hx
   have HA := Lib.hid hall
   have HL := Lib.hid hl
   clear hall hR hl hcon hx
   rcases ho : offB V x with _ | _
   ·rw [ho] at hcj
    have HO := Lib.hid ho
    clear ho
    go_wp2_with fail
    refine hcj.mono ?_
    rintro e w' ⟨rfl, rfl⟩
    go_wp2_with fail
    go_roundw
    case rel =>
     refine ⟨j + 1, by go_num, by omega, fun i hi => ?_, trivial⟩
     rcases Nat.lt_or_ge i j with h | h
     ·exact HA.out i h
     ·obtain rfl : i = j := by omega
      rw [← HX.out]; exact HO.out
    case measure => simp [intOf]; omega
   ·rw [ho] at hcj
    have HO := Lib.hid ho
    clear ho
    go_wp2_with fail
    refine hcj.mono ?_
    rintro e w' ⟨rfl, rfl⟩
    go_wp2_with fail
    go_ret
    exact ⟨j, rfl, by rw [rightL_false (i := j) (by rw [HL.out]; exact hlt) (by rw [← HX.out]; exact HO.out)]; simp, rfl⟩
  ·have HR := Lib.hid (rightL_take.2 (fun i hi => hall i (by omega)))
   clear hall hR hl hcon
   go_wp2_with fail
   go_ret
   exact ⟨-1, rfl, by rw [HR.out]; rfl, rfl⟩
theorem contains_c {w : World} {g B n cap : Nat} {A : Option Addr} {c : List Int} (V : Int) (hv : -1000000 ≤ V ∧ V ≤ 1000000) (hg : w.cell? ⟨g, 0, none⟩ = some (.int .i64 V)) (hR : Reads w B 1 A n (iv c)) (hn : n ≤ 1000) :
  Calls Tryz.prog 28 #[.slice A n cap, .func (.func 29) #[] #[.pointer (some ⟨g, 0, none⟩)]] w fun e w' => e = .returned (.bool (!(rightL V c))) ∧ w = w' := by
 have hf := index_c (cap := cap) V hv hg hR hn
 clear hR hg
 go_enter Tryz.func28, Tryz.ntmps28
 go_wp2_with fail
 refine hf.mono ?_
 rintro e w' ⟨k, rfl, hk, rfl⟩
 have HK := Lib.hid hk
 clear hk
 go_wp2_with fail
 go_ret
 exact ⟨Zof HK.out, rfl⟩
theorem right_c {w : World} {B n cap : Nat} {A : Option Addr} {c : List Int} (V : Int) (hv : -1000000 ≤ V ∧ V ≤ 1000000) (hR : Reads w B 1 A n (iv c)) (hB : B ≤ w.heap.size) (hn : n ≤ 1000) :
  Calls Tryz.prog 20 #[.slice A n cap, .int .i64 V] w fun e w' => e = .returned (.bool (rightL V c)) ∧ Below w.heap.size w w' := by
 have hR2 := hR.alloc hB (.cells #[.int .i64 V] 3)
 have hb := (Blk.new w 3 #[.int .i64 V]).cell 0
 have hf := contains_c (cap := cap) V hv hb hR2 hn
 have hw := (Below.refl _ w).alloc (Nat.le_refl _) (.cells #[.int .i64 V] 3)
 clear hR hR2 hb
 go_enter Tryz.func20, Tryz.ntmps20
 go_wp2_with fail
 refine hf.mono ?_
 rintro e w' ⟨rfl, rfl⟩
 go_wp2_with fail
 go_ret
 exact ⟨Zof (by simp), hw⟩
set_option maxHeartbeats 800000 in
theorem ref17_c {w : World} {B n cap : Nat} {A : Option Addr} {c : List Int} (V : Int) (hv : -1000000 ≤ V ∧ V ≤ 1000000) (hR : Reads w B 1 A n (iv c)) (hn : n ≤ 1000) :
  Calls Tryz.prog 11 #[.slice A n cap, .int .i64 V] w fun e w' => e = .returned (.bool (rightL V c)) ∧ w = w' := by
 have hl : c.length = n := by have := hR.1; rw [iv_len] at this; omega
 have hnv := IntWalk.i64_in (-V) ⟨by omega, by omega⟩
 go_enter Tryz.func11, Tryz.ntmps11
 go_wp2_with fail
 go_loopw [5] (fun x wr => ∃ j : Nat, x = .int .i64 j ∧ j ≤ n ∧ (∀ i, i < j → offB V (c.getD i 0) = false) ∧ w = wr) (fun x _ => n - (intOf x).toNat)
 case atStart => exact ⟨0, rfl, by omega, fun i hi => absurd hi (by omega), rfl⟩
 case round =>
  obtain ⟨j, rfl, hj, hall, rfl⟩ := hrel
  by_cases hlt : j < n
  ·obtain ⟨b, off, rfl, _, hc⟩ := hR.intAt hlt
   obtain ⟨x, hx⟩ : ∃ x, x = c.getD j 0 := ⟨_, rfl⟩
   rw [← hx] at hc
   have HX := Lib.hid hx
   have HA := Lib.hid hall
   have HL := Lib.hid hl
   clear hall hR hl hx
   rcases ho : offB V x with _ | _
   ·have HO := Lib.hid ho
    have o1 : ¬ x = 0 := by intro h; rw [h] at ho; simp [offB] at ho
    have o2 : ¬ V < 0 := by intro h; simp [offB, h] at ho
    have o3 : ¬ V < x := by intro h; simp [offB, h] at ho
    have o4 : ¬ x < -V := by intro h; simp [offB, h] at ho
    clear ho
    go_wp2_with fail
    go_roundw
    case rel =>
     refine ⟨j + 1, by go_num, by omega, fun i hi => ?_, trivial⟩
     rcases Nat.lt_or_ge i j with h | h
     ·exact HA.out i h
     ·obtain rfl : i = j := by omega
      rw [← HX.out]; exact HO.out
    case measure => simp [intOf]; omega
   ·have HO := Lib.hid ho
    have ho2 : x = 0 ∨ V < 0 ∨ V < x ∨ x < -V := by simp [offB] at ho; omega
    clear ho
    go_wp2_with fail
    all_goals go_ret
    all_goals exact ⟨Zof (rightL_false (i := j) (by rw [HL.out]; exact hlt) (by rw [← HX.out]; exact HO.out)).symm, rfl⟩
  ·have HR := Lib.hid (rightL_take.2 (fun i hi => hall i (by omega)))
   clear hall hR hl
   go_wp2_with fail
   go_ret
   exact ⟨Zof HR.out.symm, rfl⟩
end Go.Proofs.YtghmfggmimoinaaGreat
