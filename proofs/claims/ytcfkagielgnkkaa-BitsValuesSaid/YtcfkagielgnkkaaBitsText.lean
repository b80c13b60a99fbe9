/- The texts of bits: Text and its reference. -/
import Derived.Test.YtcfkagielgnkkaaBitsWalk
namespace Go.Proofs.Ytcfkagielgnkkaa
open Go.RowKit Pl
set_option linter.unusedVariables false
def bch (b : Bool) : UInt8 := if b then 49 else 48
def textB (l : List Bool) : List UInt8 := l.map bch
theorem textB_len (l : List Bool) : (textB l).length = l.length := by simp [textB]
theorem textB_step (l : List Bool) (k : Nat) (h : k < l.length) : textB (l.take (k + 1)) = textB (l.take k) ++ [bch (l.getD k false)] := by
  rw [take_succ' l k h]; simp [textB]
theorem str_snoc (l : List Bool) (k : Nat) (h : k < l.length) (c : UInt8) (hc : bch (l.getD k false) = c) :
    (⟨(textB (l.take k)).toArray⟩ : ByteArray) ++ ⟨#[c]⟩ = ⟨(textB (l.take (k + 1))).toArray⟩ := by
  rw [textB_step l k h, hc]
  apply ByteArray.ext
  simp
theorem refText_any (A : Option Addr) (n c B : Nat) (l : List Bool) (w : World) (hR : Reads w B 1 A n (l.map Value.bool)) (hnc : n ≤ c) (hn : n ≤ 1048576) :
    Calls Try.prog 25 #[.slice A n c] w fun e w' => e = .returned (.string ⟨(textB l).toArray⟩) ∧ w = w' := by
  have hl : l.length = n := by have := hR.1; simpa using this
  have HL := Lib.hid hl
  clear hl
  go_enter Try.func25, Try.ntmps25
  go_wp2
  go_loop [3, 4] (fun v i => ∃ k : Nat, k ≤ n ∧ i = .int .i64 k ∧ v = .string ⟨(textB (l.take k)).toArray⟩) (fun _ i => n - (intOf i).toNat)
  case atStart => exact ⟨0, Nat.zero_le _, rfl, rfl⟩
  case round =>
    obtain ⟨k, hk, rfl, rfl⟩ := hrel
    by_cases hlt : k < n
    · obtain ⟨b, off, rfl, hbB, hcell⟩ := hR.boolAt (k := k) (by omega)
      have hsz : (textB (l.take k)).length ≤ k := by rw [textB_len]; exact List.length_take_le _ _
      go_wp2
      · go_round
        case rel => exact ⟨k + 1, by omega, by go_num, congrArg _ (str_snoc l k (by have := HL.out; omega) _ (by rw [List.getD_eq_getElem?_getD]; simp [bch, *]))⟩
        case measure => simp [intOf]; omega
      · go_round
        case rel => exact ⟨k + 1, by omega, by go_num, congrArg _ (str_snoc l k (by have := HL.out; omega) _ (by rw [List.getD_eq_getElem?_getD]; simp [bch, *]))⟩
        case measure => simp [intOf]; omega
    · go_wp2
      go_ret
      refine ⟨?_, rfl⟩
      rw [List.take_of_length_le (by have := HL.out; omega)]
      rfl
def partB (l : List Bool) (n k : Nat) : List UInt8 := textB (l.take k) ++ List.replicate (n - k) 0
theorem put_any (g g1 n k : Nat) (x : Int) (v0 : Value) (w : World) (hk : k < n) (hn : n ≤ 1048576) (hcp : w.cell? ⟨g1, 0, none⟩ = some (.slice (some ⟨g, 0, none⟩) n n)) (hcg : w.cell? ⟨g, k, none⟩ = some v0) (hfg : w.frozen? ⟨g, k, none⟩ = false) :
    Calls Try.prog 64 #[.int .i64 k, .int .u8 x, .pointer (some ⟨g1, 0, none⟩)] w fun e w' => e = .returned (.tuple #[]) ∧ w.setCell ⟨g, k, none⟩ (.int .u8 x) = w' := by
  go_enter Try.func64, Try.ntmps64
  go_wp2
  go_end0
  exact ⟨rfl, rfl⟩
theorem partB_at (l : List Bool) (n k : Nat) (hl : l.length = n) (hk : k < n) : (u8s (partB l n k))[k]? = some (.int .u8 0) := by
  unfold u8s partB
  rw [List.map_append, List.getElem?_append_right (by simp [textB]; omega)]
  rw [show n - k = (n - k - 1) + 1 by omega, List.replicate_succ]
  simp [textB, hl, Nat.min_eq_left (show k ≤ n by omega)]
theorem partB_set (l : List Bool) (n k : Nat) (hl : l.length = n) (hk : k < n) (c : UInt8) (hc : bch (l.getD k false) = c) : (u8s (partB l n k)).set k (.int .u8 (c.toNat : Int)) = u8s (partB l n (k + 1)) := by
  have e : List.replicate (n - k) (0 : UInt8) = 0 :: List.replicate (n - (k + 1)) 0 := by
    rw [show n - k = (n - (k + 1)) + 1 by omega, List.replicate_succ]
  have hlen : (textB (l.take k)).length = k := by simp [textB]; omega
  unfold u8s partB
  rw [e, textB_step l k (by omega), hc, List.map_append, List.map_cons, List.set_append_right _ _ (by simp [hlen])]
  simp [hlen]
theorem partB_end (l : List Bool) (n k : Nat) (hl : l.length = n) (h1 : k ≤ n) (h2 : ¬ k < n) : partB l n k = textB l := by
  unfold partB
  rw [List.take_of_length_le (by omega), show n - k = 0 by omega]; simp

theorem text_any (A : Option Addr) (n c B : Nat) (l : List Bool) (w : World) (hR : Reads w B 1 A n (l.map Value.bool)) (hB : B ≤ w.heap.size) (hnc : n ≤ c) (hn : n ≤ 1048576) :
    Calls Try.prog 24 #[.slice A n c] w fun e w' => e = .returned (.string ⟨(textB l).toArray⟩) ∧ Below w.heap.size w w' := by
  have hl : l.length = n := by have := hR.1; simpa using this
  have HL := Lib.hid hl
  clear hl
  go_enter Try.func24, Try.ntmps24
  go_wp2_with (at_make; refine wpList_make_blk _ rfl _ _ 39 rfl 5 (.int .u8 0) 1 Try.underlying39 info_u8 rfl _ _ _ _ n rfl rfl rfl rfl (by omega) (by omega) ?_; intro w1 hbk hbl hz; have HZ := Lib.hid hz; clear hz; have HBK := Lib.hid hbk; clear hbk)
  obtain ⟨g, hg⟩ : ∃ g, g = w.heap.size := ⟨_, rfl⟩
  obtain ⟨g1, hg1⟩ : ∃ g, g = w1.heap.size := ⟨_, rfl⟩
  rw [← hg, ← hg1]
  have hgg : g < g1 := by have := HZ.out; omega
  have hBg : B ≤ g := by omega
  have HG := Lib.hid hg
  have HG1 := Lib.hid hg1
  clear hg hg1
  go_loopw [13] (fun i wr => ∃ k : Nat, k ≤ n ∧ i = .int .i64 k ∧ Blk wr g 5 (u8s (partB l n k)).toArray ∧ Blk wr g1 39 #[.slice (some ⟨g, 0, none⟩) n n] ∧ Below g w wr) (fun i _ => n - (intOf i).toNat)
  case atStart => 
    refine ⟨0, Nat.zero_le _, rfl, ?_, ?_, ?_⟩
    · have := HBK.out.alloc (.cells #[Value.slice (some ⟨w.heap.size, 0, none⟩) n n] 39)
      rw [← HG.out] at this
      simpa [partB, u8s, textB] using this
    · rw [HG1.out]; exact Blk.new _ _ _
    · rw [HG.out]; exact hbl.alloc (by have := hbl.size; omega) _
  case round =>
    obtain ⟨k, hk, rfl, hBk, hP, hBel⟩ := hrel
    have hcp : wr.cell? ⟨g1, 0, none⟩ = some (.slice (some ⟨g, 0, none⟩) n n) := by simpa using hP.cell 0
    by_cases hlt : k < n
    · obtain ⟨b, off, rfl, hbB, hcell0⟩ := hR.boolAt (k := k) (by omega)
      have hcell : wr.cell? ⟨b, off + k, none⟩ = some (.bool (l.getD k false)) := (hBel.cell (by show b < g; omega)).trans hcell0
      have hcg : wr.cell? ⟨g, k, none⟩ = some (.int .u8 0) := by
        rw [hBk.cell k]; simpa using partB_at l n k HL.out hlt
      have hfg : wr.frozen? ⟨g, k, none⟩ = false := hBk.frozen k
      have R0 : Blk (wr.setCell ⟨g, k, none⟩ (.int .u8 48)) g 5 (u8s (partB l n k)).toArray → True := fun _ => trivial
      have HBk := Lib.hid hBk
      have HP := Lib.hid hP
      clear hBk hP hR hcell0 R0
      go_wp2_with fail
      refine (put_any g g1 n k 48 _ _ hlt hn hcp hcg hfg).mono ?_
      rintro e w' ⟨rfl, rfl⟩
      have hcp2 : (wr.setCell ⟨g, k, none⟩ (.int .u8 48)).cell? ⟨g1, 0, none⟩ = some (.slice (some ⟨g, 0, none⟩) n n) := by simpa using (HP.out.far (p := ⟨g, k, none⟩) (by show g1 ≠ g; omega) (.int .u8 48)).cell 0
      go_wp2_with fail
      · refine (put_any g g1 n k 49 (.int .u8 48) _ hlt hn hcp2 (by go_simp) (by go_simp)).mono ?_
        rintro e w' ⟨rfl, rfl⟩
        go_wp2
        go_roundw
        case rel =>
          refine ⟨k + 1, by omega, by go_num, ?_, ?_, ?_⟩
          · have := (HBk.out.set_ k (.int .u8 48)).set_ k (.int .u8 49)
            rw [List.setIfInBounds_toArray, List.setIfInBounds_toArray, List.set_set] at this
            rw [← partB_set l n k HL.out hlt 49 (by rw [List.getD_eq_getElem?_getD]; simp [bch, *])]
            exact this
          · exact (HP.out.far (by show g1 ≠ g; omega) _).far (by show g1 ≠ g; omega) _
          · exact (hBel.setCell (by show g ≤ g; omega) _).setCell (by show g ≤ g; omega) _
        case measure => simp [intOf]; omega
      · go_roundw
        case rel =>
          refine ⟨k + 1, by omega, by go_num, ?_, ?_, ?_⟩
          · have := (HBk.out.set_ k (.int .u8 48))
            rw [List.setIfInBounds_toArray] at this
            rw [← partB_set l n k HL.out hlt 48 (by rw [List.getD_eq_getElem?_getD]; simp [bch, *])]
            exact this
          · exact HP.out.far (by show g1 ≠ g; omega) _
          · exact hBel.setCell (by show g ≤ g; omega) _
        case measure => simp [intOf]; omega
    · have hlen : (partB l n k).length = n := by simp [partB_end l n k HL.out hk hlt, textB, HL.out]
      have hR2 := hBk.reads
      rw [u8s_length, hlen, partB_end l n k HL.out hk hlt] at hR2
      have hcv := run_string_of (P := Try.prog) wr 39 9 5 (some ⟨g, 0, none⟩) n n _ (textB l) hR2 Try.underlying39 Try.underlying5 Try.underlying9
      clear hBk hP hR hR2 hlen
      go_wp2
      go_ret
      refine ⟨rfl, ?_⟩
      rw [← HG.out]; exact hBel
end Go.Proofs.Ytcfkagielgnkkaa
