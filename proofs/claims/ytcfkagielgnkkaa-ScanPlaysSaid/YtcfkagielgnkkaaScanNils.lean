/- alive of layer 3, the nil reader's Number, and the walk of ScanNils. -/
import Derived.Test.YtcfkagielgnkkaaScanNum
import Derived.Lib.SlBytesConst
namespace Go.Proofs.Ytcfkagielgnkkaa
open Go.RowKit Pl
set_option linter.unusedVariables false
set_option maxRecDepth 100000 in
set_option maxHeartbeats 400000 in
theorem numberNil_any (most : Int) (w : World) : Calls Try.prog 35 #[.pointer none, .int .i64 most] w fun e w' => e = .returned (.tuple #[.int .i64 0, .int .i64 12]) ∧ w = w' := by
  go_enter Try.func35, Try.ntmps35
  go_wp2_with fail
  go_step3
  go_wp2_with fail
  refine (leftNil_any _).mono ?_
  rintro e w1 ⟨rfl, rfl⟩
  go_wp2_with fail
  go_step3
  go_wp2_with fail
  refine wp_loop_rounds 1 ?_
  rw [rounds_succ]
  go_wp2_with fail
  try rw [Exit.noGoto_ret]
  go_ret2
  exact ⟨rfl, rfl⟩
theorem reads_mark8 (W : World) (e : TypeId) (bs : List UInt8) (fr : Nat × Nat) : Reads (W.alloc (.cells (u8s bs).toArray e fr)) (W.heap.size + 1) 1 (some ⟨W.heap.size, 0, none⟩) bs.length (u8s bs) := by
  refine ⟨by rw [u8s_length]; omega, fun _ => ⟨_, rfl, by simp, fun j u hu => ?_⟩⟩
  have e : (⟨W.heap.size, 0, none⟩ : Addr).add j = ⟨W.heap.size, j, none⟩ := by
    unfold Addr.add; split
    · simp
    · simp
  rw [e, World.cell?_alloc_mark]
  simpa using hu
set_option maxHeartbeats 400000 in
theorem alive03_any (w : World) : Calls Try.prog 30 #[] w fun e w' => e = .returned (.bool true) ∧ Below w.heap.size w w' := by
  have H1 := Lib.hid (reads_mark8 w 5 [49, 50] (2, 3))
  have HB0 : Hid (Below w.heap.size w (w.alloc (.cells #[.int .u8 49, .int .u8 50] 5 (2, 3)))) := (Below.refl _ _).alloc (Nat.le_refl _) _
  have kc := fun (w : World) (C : Array Value) (n c : Nat) => Lib.run_convert_bytes_const (P := Try.prog) w 39 5 C n c Try.underlying39 Try.underlying5
  go_enter Try.func30, Try.ntmps30
  go_wp2_with fail
  refine (new_any _ 2 2 _ [49, 50] _ H1.out (by simp) (by omega) (by simp)).mono ?_
  clear kc
  rintro e w1 ⟨g, A, c, rfl, hrd, hg, hb⟩
  rw [World.size_alloc] at hg hb
  have hb1 := HB0.out.trans (hb.mono (by omega))
  have hz := hb1.size
  clear HB0 hb
  go_wp2_with fail
  refine (number_any g 2 c 0 A [49, 50] 9 _ hrd (by omega) (by omega)).mono ?_
  rintro e w2 ⟨rfl, hrd2, hg2⟩
  rw [show number (List.drop 0 [49, 50]) 9 = (0, 4, 0) from by decide] at hrd2 ⊢
  have hb2 := below_only hb1 hg2 hz (by omega)
  have hz2 := hb2.size
  clear hrd hg2
  go_wp2_with fail
  refine (number_any g 2 c (0 + 0) A [49, 50] 99 _ hrd2 (by omega) (by omega)).mono ?_
  rintro e w3 ⟨rfl, hrd3, hg3⟩
  rw [show number (List.drop (0 + 0) [49, 50]) 99 = (12, 0, 2) from by decide] at hrd3 ⊢
  have hb3 := below_only hb2 hg3 hz2 (by omega)
  clear hrd2 hg3
  go_wp2_with fail
  refine (at_any g 2 c 2 A [49, 50] _ hrd3).mono ?_
  rintro e w' ⟨rfl, rfl⟩
  go_wp2_with fail
  go_ret
  exact ⟨rfl, hb3⟩
set_option maxHeartbeats 400000 in
theorem scanNilswalk (s : ByteArray) (most : Int) (w : World) (hs : s.size ≤ maxLen) (hm : (Lit.int .i64 most).wf = true) :
    Calls Try.prog 9 #[.string s, .int .i64 most] w fun e w' => e = .returned (.bool true) ∧ Below w.heap.size w w' := by
  have hs' := hs
  unfold maxLen at hs'
  clear hm
  rcases (show s.size = 0 ∨ (0 < s.size ∧ 60 < s.size) ∨ (0 < s.size ∧ s.size ≤ 60) from by omega) with h0 | ⟨h0, h1⟩ | ⟨h0, h1⟩
  · have h0' : ((s.size : Int) == 0) = true := beq_iff_eq.2 (by omega)
    clear h0
    go_enter Try.func9, Try.ntmps9
    go_wp2_with fail
    refine (alive03_any _).mono ?_
    rintro e w4 ⟨rfl, hb4⟩
    go_wp2
    go_ret
    exact ⟨rfl, hb4⟩
  · have h0' : ((s.size : Int) == 0) = false := beq_eq_false_iff_ne.2 (by omega)
    go_enter Try.func9, Try.ntmps9
    go_wp2_with fail
    refine (alive03_any _).mono ?_
    rintro e w4 ⟨rfl, hb4⟩
    go_wp2
    go_ret
    exact ⟨rfl, hb4⟩
  · have h0' : ((s.size : Int) == 0) = false := beq_eq_false_iff_ne.2 (by omega)
    go_enter Try.func9, Try.ntmps9
    go_wp2_with fail
    refine (byteNil_any _).mono ?_
    rintro e w' ⟨rfl, rfl⟩
    go_wp2_with fail
    refine (numberNil_any most _).mono ?_
    rintro e w' ⟨rfl, rfl⟩
    go_wp2_with fail
    refine (wantNil_any s _ h0 (by omega)).mono ?_
    rintro e w' ⟨rfl, rfl⟩
    go_wp2_with fail
    refine (atNil_any _).mono ?_
    rintro e w' ⟨rfl, rfl⟩
    go_wp2_with fail
    refine (leftLenNil_any _).mono ?_
    rintro e w' ⟨rfl, rfl⟩
    go_wp2_with fail
    refine (peekNil_any _).mono ?_
    rintro e w' ⟨rfl, rfl⟩
    go_wp2_with fail
    refine (restNil_any _).mono ?_
    rintro e w1 ⟨A1, c1, rfl, _, _, _, _, hb1⟩
    go_wp2_with fail
    refine (alive03_any _).mono ?_
    rintro e w4 ⟨rfl, hb4⟩
    go_wp2
    go_ret
    exact ⟨rfl, hb1.trans (hb4.mono hb1.size)⟩
end Go.Proofs.Ytcfkagielgnkkaa
