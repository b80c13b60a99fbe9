/- The walk of BitsBack. -/
import Derived.Test.YtcfkagielgnkkaaBitsTexts
import Derived.Test.YtcfkagielgnkkaaBitsWords
namespace Go.Proofs.Ytcfkagielgnkkaa
open Go.RowKit Pl
set_option linter.unusedVariables false

theorem parse_text (l : List Bool) (h : l.length ≤ 64) : parseB (textB l) = some l := by
  have h1 : (textB l).map pb = l := by
    rw [textB, List.map_map]
    have : (pb ∘ bch) = id := by funext b; cases b <;> rfl
    rw [this, List.map_id]
  rw [parseB, if_pos, h1]
  refine ⟨by rw [textB_len]; omega, ?_⟩
  rw [textB, List.all_map]
  have : (okc ∘ bch) = fun _ => true := by funext b; cases b <;> rfl
  rw [this]
  simp
set_option maxHeartbeats 800000 in
theorem bitsBackwalk (A : Option Addr) (len cap : Nat) (l : List Bool) (x : Int) (w : World) (hR : Reads w w.heap.size 1 A len (l.map Value.bool) ∧ len ≤ cap ∧ cap ≤ maxLen)
    (hx : (Lit.int .u64 x).wf = true) :
    Calls Try.prog 6 #[.slice A len cap, .int .u64 x] w fun e w' => e = .returned (.bool true) ∧ Below w.heap.size w w' := by
  obtain ⟨hR, hle, hcap⟩ := hR
  have hm := hcap
  unfold maxLen at hm
  obtain ⟨x, rfl, hx'⟩ := u64_nat hx
  clear hx
  have HX := Lib.hid hx'
  clear hx'
  have hl : l.length = len := by have := hR.1; simpa using this
  have HL := Lib.hid hl
  clear hl
  by_cases h : len ≤ 64
  · go_enter Try.func6, Try.ntmps6
    go_wp2_with fail
    refine (text_any _ _ _ _ l _ hR (Nat.le_refl _) hle (by omega)).mono ?_
    rintro e w1 ⟨rfl, hb1⟩
    go_wp2_with fail
    refine (parse_any _ _ ?_).mono ?_
    · show (textB l).toArray.size ≤ maxLen
      rw [List.size_toArray, textB_len, HL.out]; unfold maxLen; omega
    rw [show (⟨(textB l).toArray⟩ : ByteArray).data.toList = textB l from rfl, parse_text l (by have := HL.out; omega)]
    rintro e w2 ⟨A2, c2, rfl, hc2, hm2, ho2, hb2⟩
    simp only [Option.getD_some, Option.isSome_some, HL.out] at hc2 ho2 ⊢
    have hr2 := Reads.of_own ho2
    have hb := hb1.trans (hb2.mono hb1.size)
    have hRb := hR.below hb
    have hz := hb1.size
    have hz2 := hb2.size
    clear ho2 hb1 hb2 hR
    go_wp2_with fail
    refine (same_any _ _ _ _ _ _ _ _ _ _ _ hr2 hRb (by omega) (by omega)).mono ?_
    rintro e w3 ⟨rfl, q, rfl⟩
    rw [beq_self_eq_true]
    clear hr2
    go_wp2_with fail
    refine (word_any _ _ _ _ l _ (hRb.drewN q) hle hcap).mono ?_
    rintro e w' ⟨rfl, rfl⟩
    go_wp2_with fail
    refine (bools_any (word64 l) len _ (word64_lt l)).mono ?_
    rw [show (min (len : Int) 64).toNat = len from by omega]
    rintro e w4 ⟨A4, c4, rfl, hc4, hm4, ho4, hb4⟩
    have eb : boolsN (word64 l) len = l := by have := boolsN_word64 l (by have := HL.out; omega); rwa [HL.out] at this
    rw [eb] at ho4 hc4 ⊢
    rw [List.length_map, HL.out] at ho4 hc4 ⊢
    clear eb
    have hr4 := Reads.of_own ho4
    have hRb4 := (hRb.drewN q).below (hb4.mono hb.size)
    have hbb := (below_drewN hb q).trans (hb4.mono hb.size)
    clear ho4 hb4
    go_wp2_with fail
    refine (same_any _ _ _ _ _ _ _ _ _ _ _ hr4 hRb4 (by omega) (by omega)).mono ?_
    rintro e w5 ⟨rfl, q5, rfl⟩
    rw [beq_self_eq_true]
    clear hr4
    go_wp2_with fail
    refine (word_any _ _ _ _ l _ (hRb4.drewN q5) hle hcap).mono ?_
    rintro e w' ⟨rfl, rfl⟩
    go_wp2_with fail
    refine (fits_any (word64 l) len _ (word64_lt l)).mono ?_
    rw [show (min (len : Int) 64).toNat = len from by omega]
    rintro e w' ⟨rfl, rfl⟩
    have ef : (word64 l / 2 ^ len == 0) = true := by have := word64_fits l (by have := HL.out; omega); rw [HL.out] at this; rw [this]; rfl
    rw [ef]
    clear ef
    go_wp2_with fail
    refine (bools_any x 64 _ HX.out).mono ?_
    rw [show (min (64 : Int) 64).toNat = 64 from rfl]
    rintro e w6 ⟨A6, c6, rfl, hc6, hm6, ho6, hb6⟩
    rw [List.length_map, boolsN_length] at ho6 hc6 ⊢
    have hr6 := Reads.of_own ho6
    clear ho6
    go_wp2_with fail
    refine (word_any _ _ _ _ (boolsN x 64) _ hr6 hc6 hm6).mono ?_
    rintro e w' ⟨rfl, rfl⟩
    rw [word64_boolsN x HX.out]
    clear hr6
    go_wp2_with fail
    refine (alive10_any _).mono ?_
    rintro e w7 ⟨rfl, hb7⟩
    go_wp2
    go_ret
    have hb' := (below_drewN hbb q5).trans (hb6.mono hbb.size)
    exact ⟨rfl, hb'.trans (hb7.mono hb'.size)⟩
  · go_enter Try.func6, Try.ntmps6
    go_wp2_with fail
    refine (alive10_any _).mono ?_
    rintro e w4 ⟨rfl, hb4⟩
    go_wp2
    go_ret
    exact ⟨rfl, hb4⟩
end Go.Proofs.Ytcfkagielgnkkaa
