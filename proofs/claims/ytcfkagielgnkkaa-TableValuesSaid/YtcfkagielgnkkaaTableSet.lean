/- The table's Set and Lit; the nil table's Push, Set, Lit, Lits, Find. -/
import Derived.Test.YtcfkagielgnkkaaTableOps
namespace Go.Proofs.Ytcfkagielgnkkaa
open Go.RowKit Pl
set_option linter.unusedVariables false
def setOk (n V : Nat) (frame v l : Int) : Prop := 0 ≤ frame ∧ frame < n ∧ 1 ≤ v ∧ v ≤ V ∧ l ≠ 0 ∧ -65536 ≤ l ∧ l ≤ 65536
def fset (frames : List (List Int)) (frame v l : Int) : List (List Int) := frames.set frame.toNat ((frames.getD frame.toNat []).set v.toNat l)
set_option maxHeartbeats 800000 in
theorem tset_no {w : World} {base V g : Nat} {frames : List (List Int)} (frame v l : Int) (h : TS w base V g frames) (hno : ¬ setOk frames.length V frame v l) :
    Calls Try.prog 57 #[.pointer (some ⟨g, 0, none⟩), .int .i64 frame, .int .i64 v, .int .i64 l] w fun e w' => e = .returned (.bool false) ∧ w = w' := by
  unfold setOk at hno
  have HT := Lib.hid h
  obtain ⟨lv, fs, h, hfs⟩ := h
  have c0 := h.c0
  have hV := h.hv
  have hn : frames.length ≤ 1000000 := by rw [← hfs, List.length_map]; exact h.ll
  clear h hfs
  obtain ⟨n, hnn⟩ : ∃ n, n = frames.length := ⟨_, rfl⟩
  rw [← hnn] at hno hn
  have HN := Lib.hid hnn
  clear hnn
  rcases (show frame < 0 ∨ (0 ≤ frame ∧ (n : Int) ≤ frame) ∨ (0 ≤ frame ∧ frame < n ∧ v < 1) ∨ (0 ≤ frame ∧ frame < n ∧ 1 ≤ v ∧ (V : Int) < v) ∨ (0 ≤ frame ∧ frame < n ∧ 1 ≤ v ∧ v ≤ V ∧ l = 0) ∨ (0 ≤ frame ∧ frame < n ∧ 1 ≤ v ∧ v ≤ V ∧ l ≠ 0 ∧ 65536 < l) ∨ (0 ≤ frame ∧ frame < n ∧ 1 ≤ v ∧ v ≤ V ∧ l ≠ 0 ∧ l < -65536) from by omega) with h1 | ⟨h1, h2⟩ | ⟨h1, h2, h3⟩ | ⟨h1, h2, h3, h4⟩ | ⟨h1, h2, h3, h4, h5⟩ | ⟨h1, h2, h3, h4, h5, h6⟩ | ⟨h1, h2, h3, h4, h5, h6⟩
  · clear hno
    go_enter Try.func57, Try.ntmps57
    go_wp2_with fail
    go_ret
    exact ⟨rfl, rfl⟩
  · clear hno
    go_enter Try.func57, Try.ntmps57
    go_wp2_with fail
    refine (frames_any HT.out).mono ?_
    rw [← HN.out]
    rintro e w' ⟨rfl, rfl⟩
    go_wp2_with fail
    go_ret
    exact ⟨rfl, rfl⟩
  · clear hno
    go_enter Try.func57, Try.ntmps57
    go_wp2_with fail
    refine (frames_any HT.out).mono ?_
    rw [← HN.out]
    rintro e w' ⟨rfl, rfl⟩
    go_wp2_with fail
    go_ret
    exact ⟨rfl, rfl⟩
  · clear hno
    go_enter Try.func57, Try.ntmps57
    go_wp2_with fail
    refine (frames_any HT.out).mono ?_
    rw [← HN.out]
    rintro e w' ⟨rfl, rfl⟩
    go_wp2_with fail
    go_ret
    exact ⟨rfl, rfl⟩
  · clear hno
    have h5' : (l == 0) = true := beq_iff_eq.2 h5
    clear h5
    go_enter Try.func57, Try.ntmps57
    go_wp2_with fail
    refine (frames_any HT.out).mono ?_
    rw [← HN.out]
    rintro e w' ⟨rfl, rfl⟩
    go_wp2_with fail
    go_ret
    exact ⟨rfl, rfl⟩
  · clear hno
    have h5' : (l == 0) = false := beq_eq_false_iff_ne.2 h5
    clear h5
    go_enter Try.func57, Try.ntmps57
    go_wp2_with fail
    refine (frames_any HT.out).mono ?_
    rw [← HN.out]
    rintro e w' ⟨rfl, rfl⟩
    go_wp2_with fail
    go_ret
    exact ⟨rfl, rfl⟩
  · clear hno
    have h5' : (l == 0) = false := beq_eq_false_iff_ne.2 h5
    clear h5
    go_enter Try.func57, Try.ntmps57
    go_wp2_with fail
    refine (frames_any HT.out).mono ?_
    rw [← HN.out]
    rintro e w' ⟨rfl, rfl⟩
    go_wp2_with fail
    go_ret
    exact ⟨rfl, rfl⟩

theorem fset_map (fs : List (Nat × List Int)) (i v : Nat) (x : Int) (f : Nat × List Int) (hf : fs[i]? = some f) : (fs.set i (f.1, f.2.set v x)).map (·.2) = fset (fs.map (·.2)) (i : Int) (v : Int) x := by
  unfold fset
  rw [List.map_set, Int.toNat_natCast, Int.toNat_natCast, List.getD_eq_getElem?_getD, List.getElem?_map, hf]; rfl
set_option maxHeartbeats 800000 in
theorem tset_yes {w : World} {base V g : Nat} {frames : List (List Int)} (frame v l : Int) (h : TS w base V g frames) (hok : setOk frames.length V frame v l) :
    Calls Try.prog 57 #[.pointer (some ⟨g, 0, none⟩), .int .i64 frame, .int .i64 v, .int .i64 l] w fun e w' => e = .returned (.bool true) ∧ TS w' base V g (fset frames frame v l) ∧ Below base w w' := by
  obtain ⟨h1, h2, h3, h4, h5, h6, h7⟩ := hok
  have HT := Lib.hid h
  obtain ⟨lv, fs, h, rfl⟩ := h
  have c0 := h.c0
  have hV := h.hv
  have hn := h.ll
  rw [List.length_map] at h2
  obtain ⟨i, rfl⟩ := Int.eq_ofNat_of_zero_le h1
  obtain ⟨v, rfl⟩ := Int.eq_ofNat_of_zero_le (show 0 ≤ v by omega)
  have c1 := h.c1
  obtain ⟨gl, c, f, rfl, hlc, hf, n1, n2, n3, hci, hcv⟩ := h.at_f (i := i) (by omega)
  obtain ⟨hcv, hfv⟩ := hcv v (by omega)
  have HS2 : Hid (TS (w.setCell ⟨f.1, v, none⟩ (.int .i64 l)) base V g (fset (fs.map (·.2)) i v l)) := ⟨_, _, h.set_v hf (by omega) h6 h7, fset_map fs i v l f hf⟩
  have hbf := (h.fr i f hf).2.2.1
  obtain ⟨n, hnn⟩ : ∃ n, n = fs.length := ⟨_, rfl⟩
  rw [← hnn] at h2 hn c1 hlc
  have HN := Lib.hid hnn
  have h5' : (l == 0) = false := beq_eq_false_iff_ne.2 h5
  have hin : i < n := by omega
  have hvn : v < V + 1 := by omega
  clear h hnn h5 hf
  go_enter Try.func57, Try.ntmps57
  go_wp2_with fail
  refine (frames_any HT.out).mono ?_
  rw [List.length_map, ← HN.out]
  rintro e w' ⟨rfl, rfl⟩
  go_wp2_with fail
  go_ret
  exact ⟨rfl, HS2.out, (Below.refl _ _).setCell hbf _⟩
theorem tsetNil_any (w : World) (frame v l : Int) : Calls Try.prog 57 #[.pointer none, .int .i64 frame, .int .i64 v, .int .i64 l] w fun e w' => e = .returned (.bool false) ∧ w = w' := by
  by_cases h : frame < 0
  · go_enter Try.func57, Try.ntmps57
    go_wp2_with fail
    go_ret
    exact ⟨rfl, rfl⟩
  · go_enter Try.func57, Try.ntmps57
    go_wp2_with fail
    refine (framesNil_any _).mono ?_
    rintro e w' ⟨rfl, rfl⟩
    go_wp2_with fail
    go_ret
    exact ⟨rfl, rfl⟩
theorem tpushNil_any (w : World) : Calls Try.prog 56 #[.pointer none] w fun e w' => e = .returned (.int .i64 (-1)) ∧ w = w' := by
  go_enter Try.func56, Try.ntmps56
  go_wp2_with fail
  go_ret
  exact ⟨rfl, rfl⟩
theorem findNil_any (w : World) (l : Int) : Calls Try.prog 50 #[.pointer none, .int .i64 l] w fun e w' => e = .returned (.tuple #[.int .i64 0, .int .i64 0, .bool false]) ∧ w = w' := by
  by_cases h : (l == 0) = true
  · go_enter Try.func50, Try.ntmps50
    go_wp2_with fail
    go_step3
    go_wp2_with fail
    try rw [Exit.noGoto_ret]
    go_ret3
    exact ⟨rfl, rfl⟩
  · have h' : (l == 0) = false := by simpa using h
    clear h
    go_enter Try.func50, Try.ntmps50
    go_wp2_with fail
    go_step3
    go_wp2_with fail
    try rw [Exit.noGoto_ret]
    go_ret3
    exact ⟨rfl, rfl⟩
theorem litsNil_any (w : World) (frame : Int) (A : Option Addr) (n c : Nat) : Calls Try.prog 59 #[.pointer none, .int .i64 frame, .slice A n c] w fun e w' => e = .returned (.slice none 0 0) ∧ w = w' := by
  go_enter Try.func59, Try.ntmps59
  go_wp2_with fail
  go_ret
  exact ⟨rfl, rfl⟩
theorem litNil_any (w : World) (frame l : Int) : Calls Try.prog 58 #[.pointer none, .int .i64 frame, .int .i64 l] w fun e w' => e = .returned (.int .i64 0) ∧ ∃ q, w' = w.drewN q := by
  by_cases h : frame < 0
  · have hd : decide (frame < 0) = true := by simpa using h
    go_enter Try.func58, Try.ntmps58
    go_wp2_with fail
    go_quiet (fail)
    go_wp2_with fail
    go_ret
    exact ⟨rfl, nq, rfl⟩
  · have hd : decide (frame < 0) = false := by simpa using h
    have h0 : 0 ≤ frame := by omega
    go_enter Try.func58, Try.ntmps58
    go_wp2_with fail
    go_quiet ((go_at_call 60; exact quiet_left (framesNil_any _)))
    go_wp2_with fail
    go_ret
    exact ⟨rfl, nq, rfl⟩
end Go.Proofs.Ytcfkagielgnkkaa
