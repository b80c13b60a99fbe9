/- A watch over a fresh trail takes its first clause. -/
import Derived.Test.YtghmfggmimoinaaGreatSgI
namespace Go.Proofs.YtghmfggmimoinaaGreat
open Go Go.RowKit
def slotN (l : Int) : Nat := if l < 0 then (2 * (-l) + 1).toNat else (2 * l).toNat
theorem slotN_inj {a b : Int} (h : slotN a = slotN b) : a = b := by unfold slotN at h; split at h <;> split at h <;> omega
theorem slotN_le {l : Int} {V : Nat} (h1 : -(V : Int) ≤ l) (h2 : l ≤ V) : slotN l ≤ 2 * V + 1 := by unfold slotN; split <;> omega
theorem sg_ofInt (a : Nat) (ha : a < 9223372036854775808) : (BitVec.ofInt 64 (a : Int)).toNat = a := by
 rw [BitVec.ofInt_natCast, BitVec.toNat_ofNat]; omega
theorem sg_or (v : Int) (h : 0 ≤ v) (h' : v ≤ 1000000) : bits .or .i64 (v * 2) 1 = 2 * v + 1 := by
 obtain ⟨n, rfl⟩ := Int.eq_ofNat_of_zero_le h
 rw [show ((n : Int) * 2) = ((2 * n : Nat) : Int) by omega]
 show IntKind.i64.wrap ((BitVec.ofInt 64 ((2 * n : Nat) : Int) ||| BitVec.ofInt 64 ((1 : Nat) : Int)).toNat : Int) = _
 have e1 : (2 * n ||| 1) % 2 = 1 := by rw [Nat.mod_two_eq_one_iff_testBit_zero, Nat.testBit_or]; simp [Nat.testBit_zero]
 have e2 : (2 * n ||| 1) / 2 = n := by rw [Nat.or_div_two]; simp
 rw [BitVec.toNat_or, sg_ofInt (2 * n) (by omega), sg_ofInt 1 (by omega), IntKind.wrap_i64]
 omega
theorem slot_c (w : World) (l : Int) (h1 : -100000 ≤ l) (h2 : l ≤ 100000) : Calls Tryz.prog 56 #[.int .i64 l] w fun e w' => e = .returned (.int .i64 (slotN l : Int)) ∧ w = w' := by
 have hn := IntWalk.i64_in (-l) ⟨by omega, by omega⟩
 by_cases h : l < 0
 ·go_enter Tryz.func56, Tryz.ntmps56
  go_wp2
  go_ret
  exact ⟨Zm2 (by rw [sg_or (-l) (by omega) (by omega)]; unfold slotN; rw [if_pos h]; omega), rfl⟩
 ·go_enter Tryz.func56, Tryz.ntmps56
  go_wp2
  go_ret
  exact ⟨Zm2 (by unfold slotN; rw [if_neg (by omega)]; omega), rfl⟩
theorem wNew_any (w : World) (g : Nat) : Calls Tryz.prog 15 #[.pointer (some ⟨g, 0, none⟩)] w fun e w' => e = .returned (.pointer (some ⟨w.heap.size, 0, none⟩)) ∧ w' = w.alloc (.cells #[.pointer (some ⟨g, 0, none⟩), .slice none 0 0, .slice none 0 0, .slice none 0 0, .int .i64 (-1)] 65) := by
 go_enter Tryz.func15, Tryz.ntmps15
 go_wp2
 go_ret
 exact ⟨rfl, rfl⟩
structure Wt (w : World) (B q g : Nat) (vL vs : Value) (n : Nat) (ls : List Value) (k : Nat) (cs : List Value) : Prop where
 bx : Blk w q 65 #[.pointer (some ⟨g, 0, none⟩), vL, vs, .slice none 0 0, .int .i64 (-1)]
 rl : w.ownsRow B 22 1 vL n ls
 rs : w.ownsRow B 22 1 vs k cs
 ne : vL.ownBlock = none ∨ vL.ownBlock ≠ vs.ownBlock
 hn : n ≤ 1000
 hk : k ≤ 1000000
 le : B ≤ q
theorem Wt.drewN {w : World} {B q g : Nat} {vL vs : Value} {n k : Nat} {ls cs : List Value} (h : Wt w B q g vL vs n ls k cs) (r : Nat) : Wt (w.drewN r) B q g vL vs n ls k cs := ⟨h.bx.drewN r, h.rl, h.rs, h.ne, h.hn, h.hk, h.le⟩
set_option maxHeartbeats 800000 in
theorem better_c {w : World} {B q g V b c n k : Nat} {vL vs : Value} {ls cs : List Value} (x y : Int) (h : Wt w B q g vL vs n ls k cs) (ht : Trl w B g V (.slice (some ⟨b, 0, none⟩) (V + 1) c)) (hx0 : x ≠ 0) (hx1 : -(V : Int) ≤ x) (hx2 : x ≤ V) (hy0 : y ≠ 0) (hy1 : -(V : Int) ≤ y) (hy2 : y ≤ V) :
  Calls Tryz.prog 55 #[.pointer (some ⟨q, 0, none⟩), .int .i64 x, .int .i64 y] w fun e w' => e = .returned (.bool false) ∧ ∃ r, w' = w.drewN r := by
 have c0 := h.bx.cell 0
 have hv : ∀ l, (l = x ∨ l = y) → ∀ r, Calls Tryz.prog 37 #[.pointer (some ⟨g, 0, none⟩), .int .i64 l] (w.drewN r) fun e w' => e = .returned (.int .i64 0) ∧ w.drewN r = w' := by
  rintro l (rfl | rfl) r
  ·exact trValue_any _ (ht.drewN r) hx0 hx1 hx2
  ·exact trValue_any _ (ht.drewN r) hy0 hy1 hy2
 have HV := Lib.hid hv
 clear h ht hv
 go_enter Tryz.func55, Tryz.ntmps55
 go_wp2_with fail
 go_quiet ((go_at_call 37; exact quiet_left (HV.out _ (by first | exact .inl rfl | exact .inr rfl) _)))
 go_wp2_with fail
 go_ret
 exact ⟨rfl, nq, rfl⟩
theorem first_c {w : World} {B q g V b c n k m cap : Nat} {A : Option Addr} {vL vs : Value} {ls cs : List Value} {d : List Int} (h : Wt w B q g vL vs n ls k cs) (ht : Trl w B g V (.slice (some ⟨b, 0, none⟩) (V + 1) c)) (hR : Reads w w.heap.size 1 A m (iv d)) (hm : m ≤ 1000) (hd : ∀ x ∈ d, x ≠ 0 ∧ -(V : Int) ≤ x ∧ x ≤ V) :
  Calls Tryz.prog 35 #[.pointer (some ⟨q, 0, none⟩), .slice A m cap] w fun e w' => e = .returned (.tuple #[]) ∧ ∃ r, w' = w.drewN r := by
 have hl : d.length = m := by have := hR.1; rw [iv_len] at this; omega
 have hdj : ∀ j, j < m → d.getD j 0 ≠ 0 ∧ -(V : Int) ≤ d.getD j 0 ∧ d.getD j 0 ≤ V := by
  intro j hj
  rw [List.getD_eq_getElem?_getD, List.getElem?_eq_getElem (by omega)]
  exact hd _ (List.getElem_mem _)
 have hb : ∀ i j, i < m → j < m → ∀ r, Calls Tryz.prog 55 #[.pointer (some ⟨q, 0, none⟩), .int .i64 (d.getD i 0), .int .i64 (d.getD j 0)] (w.drewN r) fun e w' => e = .returned (.bool false) ∧ ∃ s, w' = (w.drewN r).drewN s := by
  intro i j hi hj r
  have h1 := hdj i hi
  have h2 := hdj j hj
  exact better_c _ _ (h.drewN r) (ht.drewN r) h1.1 h1.2.1 h1.2.2 h2.1 h2.2.1 h2.2.2
 have hmin : min 2 (m : Int) = ((min 2 m : Nat) : Int) := by omega
 obtain ⟨p, hp⟩ : ∃ p, p = min 2 m := ⟨_, rfl⟩
 rw [← hp] at hmin
 have hpm : p ≤ m := by omega
 have HBt := Lib.hid hb
 clear h ht hd hdj hb hp
 go_enter Tryz.func35, Tryz.ntmps35
 go_wp2_with fail
 go_loopw [9] (fun x wr => ∃ i r : Nat, x = .int .i64 i ∧ i ≤ p ∧ wr = w.drewN r) (fun x _ => p - (intOf x).toNat)
 case atStart => exact ⟨0, 0, rfl, by omega, rfl⟩
 case round =>
  obtain ⟨i, r, rfl, hi, rfl⟩ := hrel
  by_cases hlt : i < p
  ·have e1 : (i : Int) < min 2 (m : Int) := by omega
   go_wp2_with fail
   go_loopw [5] (fun x wr => ∃ j r : Nat, x = .int .i64 j ∧ i + 1 ≤ j ∧ j ≤ m ∧ wr = w.drewN r) (fun x _ => m - (intOf x).toNat)
   case atStart => exact ⟨i + 1, r, by go_num, by omega, by omega, rfl⟩
   case round =>
    obtain ⟨j, r2, rfl, hj1, hj2, rfl⟩ := hrel
    by_cases hlt2 : j < m
    ·obtain ⟨bb, off, rfl, _, hcj⟩ := hR.intAt hlt2
     obtain ⟨bb', off', hA, _, hci⟩ := hR.intAt (k := i) (by omega)
     injection hA with hA
     injection hA with hA1 hA2
     subst hA1 hA2
     obtain ⟨W, hW⟩ : ∃ W, W = w.drewN r2 := ⟨_, rfl⟩
     have hc : ∀ s, Calls Tryz.prog 55 #[.pointer (some ⟨q, 0, none⟩), .int .i64 (d.getD j 0), .int .i64 (d.getD i 0)] (W.drewN s) fun e w' => e = .returned (.bool false) ∧ ∃ m, w' = (W.drewN s).drewN m := by
      intro s
      rw [hW, World.drewN_drewN]
      exact HBt.out j i hlt2 (by omega) _
     have hcj : W.cell? ⟨bb, off + j, none⟩ = some (.int .i64 (d.getD j 0)) := by rw [hW]; exact hcj
     have hci : W.cell? ⟨bb, off + i, none⟩ = some (.int .i64 (d.getD i 0)) := by rw [hW]; exact hci
     have HC := Lib.hid hc
     have HW := Lib.hid hW
     rw [← hW]
     clear hW hc
     generalize d.getD j 0 = x at *
     generalize d.getD i 0 = y at *
     clear hR
     have l1 : i < m := by omega
     go_wp2_with fail
     go_quiet ((go_at_call 55; exact Calls.quiet_of (HC.out _)))
     go_wp2_with fail
     go_roundw
     case rel => exact ⟨j + 1, r2 + nq, by go_num, by omega, by omega, by rw [HW.out, World.drewN_drewN]⟩
     case measure => simp [intOf]; omega
    ·go_wp2_with fail
     go_roundw
     case rel => exact ⟨i + 1, r2, by go_num, by omega, rfl⟩
     case measure => simp [intOf]; omega
  ·have e1 : ¬ (i : Int) < min 2 (m : Int) := by omega
   go_wp2_with fail
   go_end0
   exact ⟨rfl, r, rfl⟩
end Go.Proofs.YtghmfggmimoinaaGreat
