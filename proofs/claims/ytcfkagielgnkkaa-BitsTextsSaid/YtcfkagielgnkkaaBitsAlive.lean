/- What alive of layer 10 says: true. -/
import Derived.Test.YtcfkagielgnkkaaBitsText
namespace Go.Proofs.Ytcfkagielgnkkaa
open Go.RowKit Pl
set_option linter.unusedVariables false
theorem reads_new (W : World) (e : TypeId) (xs : List Value) : Reads (W.alloc (.cells xs.toArray e)) (W.heap.size + 1) 1 (some ⟨W.heap.size, 0, none⟩) xs.length xs := by
  have := (Blk.new W e xs.toArray).reads
  simpa using this
theorem alive10_any (w : World) : Calls Try.prog 14 #[] w fun e w' => e = .returned (.bool true) ∧ Below w.heap.size w w' := by
  have h1 := reads_new w 4 ([true, false, true].map Value.bool)
  go_enter Try.func14, Try.ntmps14
  go_wp2_with fail
  refine (word_any _ 3 3 _ [true, false, true] _ h1 (by omega) (by simp [maxLen])).mono ?_
  rintro e w' ⟨rfl, rfl⟩
  have ew : word64 [true, false, true] = 5 := rfl
  rw [ew]
  clear ew h1
  go_wp2_with fail
  have h2 : Reads ((w.alloc (.cells #[.bool true, .bool false, .bool true] 4)).alloc (.cells #[.bool true, .bool false, .bool true] 4)) (w.heap.size + 2) 1 (some ⟨w.heap.size + 1, 0, none⟩) 3 ([true, false, true].map Value.bool) := by
    have := reads_new (w.alloc (.cells #[.bool true, .bool false, .bool true] 4)) 4 ([true, false, true].map Value.bool)
    rw [World.size_alloc] at this
    exact this
  refine (text_any _ 3 3 _ [true, false, true] _ h2 (by simp) (by omega) (by omega)).mono ?_
  rintro e w1 ⟨rfl, hb1⟩
  have et : textB [true, false, true] = [49, 48, 49] := rfl
  rw [et]
  have HB : Below w.heap.size w w1 := (((Below.refl _ _).alloc (Nat.le_refl _) _).alloc (by simp) _).trans (hb1.mono (by simp; omega))
  clear et h2 hb1
  go_wp2_with fail
  refine (fits_any 5 3 _ (by omega)).mono ?_
  rintro e w' ⟨rfl, rfl⟩
  rw [show (5 / 2 ^ (min 3 64 : Int).toNat == 0) = true from by decide]
  go_wp2_with fail
  refine (fits_any 5 2 _ (by omega)).mono ?_
  rintro e w' ⟨rfl, rfl⟩
  rw [show (5 / 2 ^ (min 2 64 : Int).toNat == 0) = false from by decide]
  go_wp2
  go_ret
  exact ⟨rfl, HB⟩
end Go.Proofs.Ytcfkagielgnkkaa
