/- The walks of BitsTexts and BitsBack. -/
import Derived.Test.YtcfkagielgnkkaaBitsAlive
import Derived.Test.YtcfkagielgnkkaaBitsParse
namespace Go.Proofs.Ytcfkagielgnkkaa
open Go.RowKit Pl
set_option linter.unusedVariables false

set_option maxHeartbeats 400000 in
theorem bitsTextswalk (A : Option Addr) (len cap : Nat) (l : List Bool) (s : ByteArray) (w : World) (hR : Reads w w.heap.size 1 A len (l.map Value.bool) ∧ len ≤ cap ∧ cap ≤ maxLen)
    (hs : s.size ≤ maxLen) :
    Calls Try.prog 4 #[.slice A len cap, .string s] w fun e w' => e = .returned (.bool true) ∧ Below w.heap.size w w' := by
  obtain ⟨hR, hle, hcap⟩ := hR
  have hm := hcap
  have hm' := hs
  unfold maxLen at hm hm'
  rcases (show (len ≤ 200 ∧ s.size ≤ 5000) ∨ (len ≤ 200 ∧ 5000 < s.size) ∨ 200 < len from by omega) with ⟨h1, h2⟩ | ⟨h1, h2⟩ | h1
  · go_enter Try.func4, Try.ntmps4
    go_wp2_with fail
    refine (parse_any s _ hs).mono ?_
    rintro e w1 ⟨A1, c1, rfl, hc1, hm1, ho1, hb1⟩
    go_wp2_with fail
    refine (refParse_any s _ hs).mono ?_
    rintro e w2 ⟨A2, c2, rfl, hc2, hm2, ho2, hb2⟩
    have hr1 := (Reads.of_own ho1).below hb2
    have hr2 := Reads.of_own ho2
    have hb := hb1.trans (hb2.mono hb1.size)
    have hRb := hR.below hb
    have hz := hb1.size
    have hz2 := hb2.size
    clear ho1 ho2 hb1 hb2 hR
    go_wp2_with fail
    refine (text_any _ _ _ _ l _ hRb hb.size hle (by omega)).mono ?_
    rintro e w3 ⟨rfl, hb3⟩
    go_wp2_with fail
    refine (refText_any _ _ _ _ l _ (hRb.below (hb3.mono hb.size)) hle (by omega)).mono ?_
    rintro e w' ⟨rfl, rfl⟩
    go_wp2_with fail
    refine (same_any _ _ _ _ _ _ _ _ _ _ _ (hr1.below (hb3.mono hz2)) (hr2.below hb3) (by omega) (by omega)).mono ?_
    rintro e w4 ⟨rfl, q, rfl⟩
    rw [beq_self_eq_true]
    clear hr1 hr2
    go_wp2_with fail
    refine (alive10_any _).mono ?_
    rintro e w5 ⟨rfl, hb5⟩
    go_wp2
    go_ret
    have hb' := hb.trans (hb3.mono hb.size)
    exact ⟨rfl, (below_drewN hb' q).trans (hb5.mono hb'.size)⟩
  · go_enter Try.func4, Try.ntmps4
    go_wp2_with fail
    refine (alive10_any _).mono ?_
    rintro e w4 ⟨rfl, hb4⟩
    go_wp2
    go_ret
    exact ⟨rfl, hb4⟩
  · go_enter Try.func4, Try.ntmps4
    go_wp2_with fail
    refine (alive10_any _).mono ?_
    rintro e w4 ⟨rfl, hb4⟩
    go_wp2
    go_ret
    exact ⟨rfl, hb4⟩
end Go.Proofs.Ytcfkagielgnkkaa
