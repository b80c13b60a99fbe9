/- The walk of BitsWords: it returns true. -/
import Derived.Test.YtcfkagielgnkkaaBitsAlive
namespace Go.Proofs.Ytcfkagielgnkkaa
open Go.RowKit Pl
set_option linter.unusedVariables false
theorem u64_nat {x : Int} (h : (Lit.int .u64 x).wf = true) : ∃ n : Nat, x = n ∧ n < 18446744073709551616 := by
  have := bounds_u64 h
  exact ⟨x.toNat, by omega, by omega⟩

set_option maxHeartbeats 400000 in
theorem bitsWordswalk (A : Option Addr) (len cap : Nat) (l : List Bool) (x n : Int) (w : World) (hR : Reads w w.heap.size 1 A len (l.map Value.bool) ∧ len ≤ cap ∧ cap ≤ maxLen)
    (hx : (Lit.int .u64 x).wf = true) (hn : (Lit.int .i64 n).wf = true) :
    Calls Try.prog 3 #[.slice A len cap, .int .u64 x, .int .i64 n] w fun e w' => e = .returned (.bool true) ∧ Below w.heap.size w w' := by
  obtain ⟨hR, hle, hcap⟩ := hR
  have hm := hcap
  unfold maxLen at hm
  have hnb := bounds_i64 hn
  obtain ⟨x, rfl, hx'⟩ := u64_nat hx
  clear hx hn
  by_cases h : len ≤ 200
  · go_enter Try.func3, Try.ntmps3
    go_wp2_with fail
    refine (word_any _ _ _ _ l _ hR hle hcap).mono ?_
    rintro e w' ⟨rfl, rfl⟩
    go_wp2_with fail
    refine (refWord_any _ _ _ _ l _ hR hle hcap).mono ?_
    rintro e w' ⟨rfl, rfl⟩
    go_wp2_with fail
    refine (bools_any x n _ hx').mono ?_
    rintro e w1 ⟨A1, c1, rfl, hc1, hm1, ho1, hb1⟩
    rw [List.length_map, boolsN_length] at hc1 ho1 ⊢
    go_wp2_with fail
    refine (refBools_any x n _ hx' hnb.2).mono ?_
    rintro e w2 ⟨A2, c2, rfl, hc2, hm2, ho2, hb2⟩
    rw [List.length_map, boolsN_length] at hc2 ho2 ⊢
    have hr1 := (Reads.of_own ho1).below hb2
    have hr2 := Reads.of_own ho2
    have hb := hb1.trans (hb2.mono hb1.size)
    clear ho1 ho2 hb1 hb2
    go_wp2_with fail
    refine (same_any _ _ _ _ _ _ _ _ _ _ _ hr1 hr2 (by omega) (by omega)).mono ?_
    rintro e w3 ⟨rfl, q, rfl⟩
    rw [beq_self_eq_true]
    clear hr1 hr2
    go_wp2_with fail
    refine (fits_any x n _ hx').mono ?_
    rintro e w' ⟨rfl, rfl⟩
    go_wp2_with fail
    refine (refFits_any x n _ hx' hnb.2).mono ?_
    rintro e w' ⟨rfl, rfl⟩
    go_wp2_with fail
    refine (alive10_any _).mono ?_
    rintro e w4 ⟨rfl, hb4⟩
    go_wp2
    go_ret
    exact ⟨rfl, (below_drewN hb q).trans (hb4.mono hb.size)⟩
  · go_enter Try.func3, Try.ntmps3
    go_wp2_with fail
    refine (alive10_any _).mono ?_
    rintro e w4 ⟨rfl, hb4⟩
    go_wp2
    go_ret
    exact ⟨rfl, hb4⟩
end Go.Proofs.Ytcfkagielgnkkaa
