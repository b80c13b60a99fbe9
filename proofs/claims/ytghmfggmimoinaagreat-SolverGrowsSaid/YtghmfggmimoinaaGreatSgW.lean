/- SolverGrows, walked. -/
import Derived.Test.YtghmfggmimoinaaGreatSgN
namespace Go.Proofs.YtghmfggmimoinaaGreat
open Go Go.RowKit
theorem svNewNil (w : World) (V : Int) (h : V < 0 ∨ 65536 < V) : Calls Tryz.prog 5 #[.int .i64 V] w fun e w' => e = .returned (.pointer none) ∧ w = w' := by
 rcases h with h | h
 all_goals (
  go_enter Tryz.func5, Tryz.ntmps5
  go_wp2_with fail
  go_ret
  exact ⟨rfl, rfl⟩)
set_option maxHeartbeats 2000000 in
set_option maxRecDepth 20000 in
theorem growsWalk (ha : ∀ W, Calls Tryz.prog 4 #[] W fun e w' => e = .returned (.bool true) ∧ Below W.heap.size W w') (v m : Int) (A : Option Addr) (len cap : Nat) (l : List Int) (w : World) (hL : Reads w w.heap.size 1 A len (iv l)) :
  Calls Tryz.prog 3 #[.int .i64 v, .int .i64 m, .slice A len cap] w fun e w' => e = .returned (.bool true) ∧ Below w.heap.size w w' := by
 have HA := Lib.hid ha
 have HL := Lib.hid hL
 clear ha hL
 by_cases h1 : 30 < len
 ·go_enter Tryz.func3, Tryz.ntmps3
  go_wp2_with fail
  refine (HA.out _).mono ?_
  rintro e w' ⟨rfl, hb⟩
  have HB := Lib.hid hb
  clear hb
  go_wp2_with fail
  go_ret
  exact ⟨rfl, HB.out⟩
 by_cases h2 : 100 < v ∧ v ≤ 65536
 ·obtain ⟨h2a, h2b⟩ := h2
  go_enter Tryz.func3, Tryz.ntmps3
  go_wp2_with fail
  refine (HA.out _).mono ?_
  rintro e w' ⟨rfl, hb⟩
  have HB := Lib.hid hb
  clear hb
  go_wp2_with fail
  go_ret
  exact ⟨rfl, HB.out⟩
 by_cases h3 : 100 < m ∧ m ≤ 65536
 ·obtain ⟨h3a, h3b⟩ := h3
  have h2' : v ≤ 100 ∨ 65536 < v := by omega
  clear h2
  rcases h2' with h2 | h2
  all_goals (
   go_enter Tryz.func3, Tryz.ntmps3
   go_wp2_with fail
   refine (HA.out _).mono ?_
   rintro e w' ⟨rfl, hb⟩
   have HB := Lib.hid hb
   clear hb
   go_wp2_with fail
   go_ret
   exact ⟨rfl, HB.out⟩)
 by_cases h4 : v < 0 ∨ 65536 < v
 ·have hn := svNewNil w v h4
  have hm3 : m ≤ 100 ∨ 65536 < m := by omega
  clear h3
  rcases h4 with h4 | h4 <;> rcases hm3 with hm3 | hm3
  all_goals (
   go_enter Tryz.func3, Tryz.ntmps3
   go_wp2_with fail
   refine hn.mono ?_
   rintro e w' ⟨rfl, rfl⟩
   go_wp2_with fail
   refine (svGrowNil _ _).mono ?_
   rintro e w' ⟨rfl, rfl⟩
   go_wp2_with fail
   refine (svAddNil _ _).mono ?_
   rintro e w' ⟨rfl, rfl⟩
   go_wp2_with fail
   refine (svVarsNil _).mono ?_
   rintro e w' ⟨rfl, rfl⟩
   go_wp2_with fail
   refine (svClausesNil _).mono ?_
   rintro e w' ⟨rfl, rfl⟩
   go_wp2_with fail
   refine (svProofNil _).mono ?_
   rintro e w' ⟨rfl, rfl⟩
   go_wp2_with fail
   refine (HA.out _).mono ?_
   rintro e w' ⟨rfl, hb⟩
   have HB := Lib.hid hb
   clear hb
   go_wp2_with fail
   go_ret
   exact ⟨rfl, ((Below.refl _ w).alloc (Nat.le_refl _) _).trans (HB.out.mono (by rw [World.size_alloc]; omega))⟩)
 ·have hv0 : 0 ≤ v := by omega
  have hv1 : v ≤ 100 := by omega
  have hm3 : m ≤ 100 ∨ 65536 < m := by omega
  clear h2 h3 h4
  have hn := svNew w v hv0 (by omega)
  rcases hm3 with hm3 | hm3
  ·go_enter Tryz.func3, Tryz.ntmps3
   go_wp2_with fail
   refine hn.mono ?_
   rintro e w1 ⟨s, t, q, h, k, mv, ph, xs, rfl, hs, hb⟩
   have hBs := hb.size
   have hg := svGrow m hs hBs (by omega)
   have HB1 := Lib.hid hb
   have HBS := Lib.hid hBs
   clear hs hb hBs hn
   go_wp2_with fail
   refine hg.mono ?_
   rintro e w2 ⟨rfl, ⟨k2, mv2, ph2, xs2, hs2⟩, hf2⟩
   have hB2 := Nat.le_trans HBS.out hf2.size
   have hb2 := HB1.out.trans hf2.below
   have hR2 := HL.out.below hb2
   have hl : len ≤ 30 := by omega
   have hv := svVars hs2
   have ha := svAdd (cap := cap) hs2 hB2 hR2 (Nat.le_refl _) (by omega)
   have hM := hs2.hM
   have HS2 := Lib.hid hs2
   have HB2 := Lib.hid hb2
   have HV := Lib.hid hv
   have HAD := Lib.hid ha
   have HR2 := Lib.hid hR2
   clear hs2 hf2 hB2 hb2 hR2 hv ha hg
   go_wp2_with fail
   refine HV.out.mono ?_
   rintro e w' ⟨rfl, rfl⟩
   have hmx : ((max v.toNat m.toNat : Nat) : Int) = max v m := by omega
   go_wp2_with fail
   refine HAD.out.mono ?_
   rintro e w3 ⟨rfl, hb3⟩
   have hb03 := HB2.out.trans hb3
   have hR3 := HL.out.below hb03
   have hf3 := ref17_c (cap := cap) (max v m) ⟨by omega, by omega⟩ hR3 (by omega)
   rw [hmx]
   have HF3 := Lib.hid hf3
   have HB3 := Lib.hid hb03
   clear hR3 hb3 hb03 hf3 HAD HV
   generalize hq : rightL (max v m) l = q3 at HF3 ⊢
   clear hq
   rcases q3 with _ | _
   all_goals (
    go_wp2_with fail
    refine HF3.out.mono ?_
    rintro e w4 ⟨rfl, rfl⟩
    go_wp2_with fail
    refine (HA.out _).mono ?_
    rintro e w' ⟨rfl, hb⟩
    have HB := Lib.hid hb
    clear hb
    go_wp2_with fail
    go_ret
    exact ⟨rfl, HB3.out.trans (HB.out.mono HB3.out.size)⟩)
  ·go_enter Tryz.func3, Tryz.ntmps3
   go_wp2_with fail
   refine hn.mono ?_
   rintro e w1 ⟨s, t, q, h, k, mv, ph, xs, rfl, hs, hb⟩
   have hBs := hb.size
   have hg := svGrowBig m hs (by omega)
   have hv := svVars hs
   have hvv : ((v.toNat : Nat) : Int) = v := by omega
   rw [hvv] at hv
   have HB1 := Lib.hid hb
   have HV := Lib.hid hv
   clear hs hb hBs hn hv
   go_wp2_with fail
   refine hg.mono ?_
   rintro e w2 ⟨rfl, rfl⟩
   go_wp2_with fail
   refine HV.out.mono ?_
   rintro e w2 ⟨rfl, rfl⟩
   go_wp2_with fail
   refine (HA.out _).mono ?_
   rintro e w' ⟨rfl, hb⟩
   have HB := Lib.hid hb
   clear hb
   go_wp2_with fail
   go_ret
   exact ⟨rfl, HB1.out.trans (HB.out.mono HB1.out.size)⟩
end Go.Proofs.YtghmfggmimoinaaGreat
