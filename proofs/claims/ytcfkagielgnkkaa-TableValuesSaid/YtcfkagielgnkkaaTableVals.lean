/- Values of the table and of the reference's. -/
import Derived.Test.YtcfkagielgnkkaaTableVal
namespace Go.Proofs.Ytcfkagielgnkkaa
open Go.RowKit Pl
set_option linter.unusedVariables false
def vals (f : Int → Int) (model : List Bool) (n : Nat) : List Bool := (List.range n).map fun (v : Nat) => tval (f (2 * (v : Int))) model
theorem vals_length (f : Int → Int) (model : List Bool) (n : Nat) : (vals f model n).length = n := by simp [vals]
theorem vals_succ (f : Int → Int) (model : List Bool) (n : Nat) : vals f model (n + 1) = vals f model n ++ [tval (f (2 * (n : Int))) model] := by simp [vals, List.range_succ]
theorem make_any (v : Int) (w : World) (h : 0 ≤ v) (h' : v ≤ 1000000) : Calls Try.prog 83 #[.int .i64 v, .bool false] w fun e w' => e = .returned (.int .i64 (2 * v)) ∧ w = w' := by
  go_enter Try.func83, Try.ntmps83
  go_wp2
  go_ret
  exact ⟨ret_int (by omega), rfl⟩
theorem litT_bnd {w : World} {base V g : Nat} {frames : List (List Int)} (h : TS w base V g frames) (frame l : Int) : -65536 ≤ litT V frames frame l ∧ litT V frames frame l ≤ 65536 := by
  obtain ⟨lv, fs, h, rfl⟩ := h
  unfold litT
  split
  · omega
  · rename_i hc
    have hi : frame.toNat < fs.length := by rw [List.length_map] at hc; omega
    have e : (fs.map (·.2)).getD frame.toNat [] = (fs[frame.toNat]).2 := by
      rw [List.getD_eq_getElem?_getD, List.getElem?_map, List.getElem?_eq_getElem hi]; rfl
    rw [e]
    have := (h.fr frame.toNat _ (List.getElem?_eq_getElem hi)).2.2.2 (l / 2).toNat
    split <;> omega
theorem litR_bnd {w : World} {g V n : Nat} {cs : List Cell3} {D : Nat → Prop} (h : RD w g V n cs D) (frame l : Int) : -65536 ≤ litR n cs frame l ∧ litR n cs frame l ≤ 65536 := by
  obtain ⟨cv, h, _⟩ := h
  have := look_bnd cs frame (l / 2) (fun c hc => ⟨(h.bnd c hc).2.2.2.2.1, (h.bnd c hc).2.2.2.2.2⟩)
  unfold litR
  split
  · omega
  · split <;> omega
def RetVals (w : World) (on : Prop) (l : List Bool) (e : Ending) (w' : World) : Prop :=
  (on ∧ RetRow 4 w (l.map Value.bool) e w') ∨ (¬ on ∧ RetRow 4 w [] e w')
set_option maxHeartbeats 800000 in
theorem tvalues_any {w : World} {base V g : Nat} {frames : List (List Int)} (frame : Int) (A : Option Addr) (n c B : Nat) (model : List Bool) (h : TS w base V g frames)
    (hR : Reads w B 1 A n (model.map Value.bool)) (hB : B ≤ w.heap.size) (hn : n ≤ 9223372036854775807) :
    Calls Try.prog 54 #[.pointer (some ⟨g, 0, none⟩), .int .i64 frame, .slice A n c] w (RetVals w (0 ≤ frame ∧ frame < frames.length) (vals (litT V frames frame) model (V + 1))) := by
  have HT := Lib.hid h
  have HBN := Lib.hid (litT_bnd h frame)
  obtain ⟨lv, fs, h, hfs⟩ := h
  have c0 := h.c0
  have hV := h.hv
  have hbg := h.hd.lt
  have hnn : frames.length ≤ 1000000 := by rw [← hfs, List.length_map]; exact h.ll
  clear h hfs
  obtain ⟨m, hmm⟩ : ∃ m, m = frames.length := ⟨_, rfl⟩
  rw [← hmm] at hnn ⊢
  have HM := Lib.hid hmm
  clear hmm
  rcases (show frame < 0 ∨ (0 ≤ frame ∧ (m : Int) ≤ frame) ∨ (0 ≤ frame ∧ frame < m) from by omega) with h1 | ⟨h1, h2⟩ | ⟨h1, h2⟩
  · go_enter Try.func54, Try.ntmps54
    go_wp2_with fail
    go_ret
    exact .inr ⟨by omega, RetRow.mk rfl (World.ownsRow_nil _ _ _ _) (Below.refl _ _)⟩
  · go_enter Try.func54, Try.ntmps54
    go_wp2_with fail
    refine (frames_any HT.out).mono ?_
    rw [← HM.out]
    rintro e w' ⟨rfl, rfl⟩
    go_wp2_with fail
    go_ret
    exact .inr ⟨by omega, RetRow.mk rfl (World.ownsRow_nil _ _ _ _) (Below.refl _ _)⟩
  · go_enter Try.func54, Try.ntmps54
    go_wp2_with fail
    refine (frames_any HT.out).mono ?_
    rw [← HM.out]
    rintro e w' ⟨rfl, rfl⟩
    go_wp2_with fail
    go_loopw [6, 24] (fun v i wr => ∃ k : Nat, k ≤ V + 1 ∧ i = .int .i64 k ∧ wr.ownsRow w.heap.size 4 1 v k ((vals (litT V frames frame) model k).map Value.bool) ∧ Below w.heap.size w wr) (fun _ i _ => V + 1 - (intOf i).toNat)
    case atStart => exact ⟨0, Nat.zero_le _, rfl, World.ownsRow_nil _ _ _ _, Below.refl _ _⟩
    case round =>
      obtain ⟨k, hk, rfl, hown, hbel⟩ := hrel
      by_cases hlt : k < V + 1
      · have HT2 := Lib.hid (HT.out.below hbel)
        have HR2 := Lib.hid (hR.below (hbel.mono hB))
        have hsz := hbel.size
        have HS := Lib.hid (vals_succ (litT V frames frame) model k)
        go_wp2_with fail
        refine (make_any k _ (by omega) (by omega)).mono ?_
        rintro e w' ⟨rfl, rfl⟩
        go_wp2_with fail
        refine (tvalue_any frame (2 * (k : Int)) A n c B model HT2.out (by omega) HR2.out (by omega) hn (HBN.out _).1 (HBN.out _).2).mono ?_
        rintro e w2 ⟨rfl, hb2⟩
        have hown2 := hown.kept (w' := w2) (row := none) ⟨hb2.os, hb2.tape, hb2.output, hb2.size, fun i hi _ => hb2.block i hi⟩ (by rcases Value.ownBlock _ with _ | k'; exact .inl rfl; exact .inr (by simp))
        have hb3 := hbel.trans (hb2.mono hsz)
        clear hown hb2
        go_wp2_with (at_builtin; refine wpList_append_one _ rfl _ _ 22 rfl w.heap.size 4 (.bool false) 1 1 Try.underlying22 info_bool rfl (by decide) _ _ _ rfl hown2 _ rfl rfl one_bool (by omega) (by unfold maxLen; omega) hb3.size ?_; intro v' w3 hown' hg' hb'; have HO := Lib.hid hown'; clear hown')
        go_roundw
        case rel => exact ⟨k + 1, by omega, by go_num, by rw [HS.out]; simpa using HO.out, hb3.trans hb'⟩
        case measure => simp [intOf]; omega
      · go_wp2_with fail
        go_ret
        obtain rfl : k = V + 1 := by omega
        exact .inl ⟨⟨h1, h2⟩, RetRow.mk (by simp [vals_length]) hown hbel⟩
end Go.Proofs.Ytcfkagielgnkkaa
