/- The trail of a fresh solver: what it reads, and how it grows. -/
import Derived.Test.YtghmfggmimoinaaGreatSgA
namespace Go.Proofs.YtghmfggmimoinaaGreat
open Go Go.RowKit
def mz : Value := .agg #[.int .i8 0, .int .i64 0, .int .i64 0]
theorem info_mark : (Tryz.prog.info? 92).map (fun i => (i.zero, i.size, i.bytes)) = some (some mz, 3, 24) := by kernel_rfl
theorem mz_one : ∀ u ∈ mz.cells.toList, u.oneCell' = true := by intro u hu; simp [mz, Value.cells] at hu; rcases hu with rfl | rfl | rfl <;> rfl
theorem zc_add (z : Value) (n k : Nat) (hz : 0 < z.cells.size) : zc z n ++ zc z k = zc z (n + k) := by
 apply List.ext_getElem?
 intro i
 rw [List.getElem?_append, zc_len]
 by_cases h : i < n * z.cells.size
 ·rw [if_pos h, zc_get h, zc_get (by rw [Nat.add_mul]; omega)]
 ·rw [if_neg h]
  by_cases h2 : i < (n + k) * z.cells.size
  ·rw [zc_get h2, zc_get (by rw [Nat.add_mul] at h2; omega)]
   congr 2
   obtain ⟨j, rfl⟩ : ∃ j, i = j + n * z.cells.size := ⟨i - n * z.cells.size, by omega⟩
   rw [Nat.add_sub_cancel, Nat.add_mul_mod_self_right]
  ·rw [List.getElem?_eq_none (by rw [zc_len]; rw [Nat.add_mul] at h2; omega), List.getElem?_eq_none (by rw [zc_len]; omega)]
structure Trl (w : World) (B g V : Nat) (mv : Value) : Prop where
 bx : Blk w g 63 #[.slice none 0 0, mv, .slice none 0 0, .slice none 0 0, .int .i64 0]
 row : w.ownsRow B 92 3 mv (V + 1) (zc mz (V + 1))
 le : B ≤ g
 hv : V ≤ 1048576
theorem zc1 : zc mz (0 + 1) = (#[.int .i8 0, .int .i64 0, .int .i64 0] : Array Value).toList := by kernel_rfl
theorem made3 : madeCells mz.cells (Int.toNat 1 * 3) = #[.int .i8 0, .int .i64 0, .int .i64 0] := by kernel_rfl
theorem mk_mark1 (W : World) : (Instr.makeSlice 61 (.int .i64 1) (.int .i64 1)).run Tryz.prog W = .ok (.slice (some ⟨W.heap.size, 0, none⟩) 1 1) (W.alloc (.cells #[.int .i8 0, .int .i64 0, .int .i64 0] 92)) := by
 obtain ⟨i0, hi0, hz0, hz1, hz2⟩ := info_parts info_mark
 have hr := run_make (P := Tryz.prog) W 61 92 i0 mz Tryz.underlying61 hi0 hz0 .i64 .i64 1 1 (by omega) (Int.le_refl _) (by rw [hz2]; omega) (by omega)
 rw [hr, hz1, made3]; rfl
theorem trNew_any (w : World) : Calls Tryz.prog 14 #[.int .i64 0] w fun e w' => ∃ g mv, e = .returned (.pointer (some ⟨g, 0, none⟩)) ∧ Trl w' w.heap.size g 0 mv ∧ Below w.heap.size w w' := by
 have m1 := fun W => mk_mark1 W
 go_enter Tryz.func14, Tryz.ntmps14
 go_wp2
 go_ret
 have b3 := Blk.new (w.alloc (.cells #[.int .i8 0, .int .i64 0, .int .i64 0] 92)) 63 #[.slice none 0 0, .slice (some ⟨w.heap.size, 0, none⟩) 1 1, .slice none 0 0, .slice none 0 0, .int .i64 0]
 rw [World.size_alloc] at b3
 refine ⟨_, _, rfl, ⟨b3, ?_, by omega, by omega⟩, ((Below.refl _ w).alloc (Nat.le_refl _) _).alloc (by simp) _⟩
 have := World.ownsRow_lit (base := w.heap.size) (e := 92) (size := 3) w #[.int .i8 0, .int .i64 0, .int .i64 0] 1 (Nat.le_refl _) (by simp [maxLen]) rfl
 rw [zc1]
 exact this.alloc _
theorem trSplit_any (w : World) (l : Int) (h1 : -2000000 ≤ l) (h2 : l ≤ 2000000) : Calls Tryz.prog 54 #[.int .i64 l] w fun e w' => e = .returned (.tuple #[.int .i64 (if l < 0 then -l else l), .int .i8 (if l < 0 then -1 else 1)]) ∧ w = w' := by
 have hw := IntWalk.i64_in (-l) ⟨by omega, by omega⟩
 by_cases h : l < 0
 ·rw [if_pos h, if_pos h]
  go_enter Tryz.func54, Tryz.ntmps54
  go_wp2
  go_ret2
  exact ⟨rfl, rfl⟩
 ·rw [if_neg h, if_neg h]
  go_enter Tryz.func54, Tryz.ntmps54
  go_wp2
  go_ret2
  exact ⟨rfl, rfl⟩
theorem Trl.form {w : World} {B g V : Nat} {mv : Value} (h : Trl w B g V mv) : ∃ b c, mv = .slice (some ⟨b, 0, none⟩) (V + 1) c ∧ B ≤ b ∧ V + 1 ≤ c ∧ w.ownsRow B 92 3 (.slice (some ⟨b, 0, none⟩) (V + 1) c) (V + 1) (zc mz (V + 1)) := by
 obtain ⟨b, c, hv, hb, hlt⟩ := h.row.form (by omega)
 obtain ⟨A, c', e, h3, h4, _⟩ := Zrg h.row
 subst hv
 injection e with e1 e2 e3
 subst e3
 exact ⟨b, c, rfl, hb, h3, h.row⟩
theorem trOf_any {w : World} {B g V b c : Nat} (v : Int) (h : Trl w B g V (.slice (some ⟨b, 0, none⟩) (V + 1) c)) (h1 : 1 ≤ v) (h2 : v ≤ V) :
  Calls Tryz.prog 57 #[.pointer (some ⟨g, 0, none⟩), .int .i64 v] w fun e w' => e = .returned (.pointer (some ⟨b, v.toNat * 3, none⟩)) ∧ w = w' := by
 obtain ⟨v, rfl⟩ := Int.eq_ofNat_of_zero_le (show 0 ≤ v by omega)
 have c1 := h.bx.cell 1
 have hV := h.hv
 have e1 : v < V + 1 := by omega
 have e2 : (v : Int) < (V : Int) + 1 := by omega
 clear h
 go_enter Tryz.func57, Tryz.ntmps57
 go_wp2
 go_ret
 exact ⟨rfl, rfl⟩
theorem Trl.cell {w : World} {B g V b c : Nat} (h : Trl w B g V (.slice (some ⟨b, 0, none⟩) (V + 1) c)) {v : Nat} (hv : v ≤ V) : w.cell? ⟨b, v * 3, none⟩ = some (.int .i8 0) := by
 rw [h.row.cellAt _ (by omega), zc_get (by show v * 3 < (V + 1) * 3; omega)]
 show some (mz.cells[(v * 3) % 3]!) = _
 rw [Nat.mul_mod_left]; rfl
theorem trValue_any {w : World} {B g V b c : Nat} (l : Int) (h : Trl w B g V (.slice (some ⟨b, 0, none⟩) (V + 1) c)) (h0 : l ≠ 0) (h1 : -(V : Int) ≤ l) (h2 : l ≤ V) :
  Calls Tryz.prog 37 #[.pointer (some ⟨g, 0, none⟩), .int .i64 l] w fun e w' => e = .returned (.int .i64 0) ∧ w = w' := by
 have hV := h.hv
 obtain ⟨v, hv⟩ : ∃ v : Int, v = if l < 0 then -l else l := ⟨_, rfl⟩
 obtain ⟨s, hs⟩ : ∃ s : Int, s = if l < 0 then -1 else 1 := ⟨_, rfl⟩
 have hv1 : 1 ≤ v := by rw [hv]; split <;> omega
 have hv2 : v ≤ V := by rw [hv]; split <;> omega
 have hsp := trSplit_any w l (by omega) (by omega)
 rw [← hv, ← hs] at hsp
 have hof := trOf_any v h hv1 hv2
 have hc := h.cell (v := v.toNat) (by omega)
 clear h hs hv
 go_enter Tryz.func37, Tryz.ntmps37
 go_wp2_with fail
 refine hsp.mono ?_
 rintro e w' ⟨rfl, rfl⟩
 go_wp2_with fail
 refine hof.mono ?_
 rintro e w' ⟨rfl, rfl⟩
 go_wp2_with fail
 go_ret
 exact ⟨rfl, rfl⟩
theorem trDepth_any {w : World} {B g V : Nat} {mv : Value} (h : Trl w B g V mv) : Calls Tryz.prog 40 #[.pointer (some ⟨g, 0, none⟩)] w fun e w' => e = .returned (.int .i64 0) ∧ w = w' := by
 have c2 := h.bx.cell 2
 clear h
 go_enter Tryz.func40, Tryz.ntmps40
 go_wp2
 go_ret
 exact ⟨rfl, rfl⟩
theorem trBack_any {w : World} {B g V : Nat} {mv : Value} (h : Trl w B g V mv) : Calls Tryz.prog 34 #[.pointer (some ⟨g, 0, none⟩), .int .i64 0] w fun e w' => e = .returned (.slice none 0 0) ∧ w = w' := by
 have hd := trDepth_any h
 clear h
 go_enter Tryz.func34, Tryz.ntmps34
 go_wp2_with (go_at_call 40; refine hd.mono ?_; rintro e w' ⟨rfl, rfl⟩)
 go_step3
 go_wp2_with (go_at_call 40; refine hd.mono ?_; rintro e w' ⟨rfl, rfl⟩)
 show bodyPost Tryz.prog Tryz.f34 (fun e w' => e = Ending.returned (Value.slice none 0 0) ∧ w = w') Exit.ret _ _
 go_ret
 exact ⟨rfl, rfl⟩
theorem clone_nil (w : World) : Calls Tryz.prog 21 #[.slice none 0 0] w fun e w' => e = .returned (.slice none 0 0) ∧ w = w' := by
 have hs := fun W => Lib.run_eql_slice_nil (P := Tryz.prog) W 22 3 none 0 0 0 0 Tryz.underlying22
 go_enter Tryz.func21, Tryz.ntmps21
 go_wp2
 go_ret
 exact ⟨rfl, rfl⟩
theorem trLits_any {w : World} {B g V : Nat} {mv : Value} (h : Trl w B g V mv) : Calls Tryz.prog 33 #[.pointer (some ⟨g, 0, none⟩)] w fun e w' => e = .returned (.slice none 0 0) ∧ w = w' := by
 have c0 := h.bx.cell 0
 have hd := clone_nil w
 clear h
 go_enter Tryz.func33, Tryz.ntmps33
 go_wp2_with fail
 refine hd.mono ?_
 rintro e w' ⟨rfl, rfl⟩
 go_wp2_with fail
 go_ret
 exact ⟨rfl, rfl⟩
end Go.Proofs.YtghmfggmimoinaaGreat
