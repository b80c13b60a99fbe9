/- The heap's Push, Bump, Pop, Has, Activity. -/
import Derived.Test.YtcfkagielgnkkaaHeapNew
import Derived.Test.YtcfkagielgnkkaaHeapLaw2
namespace Go.Proofs.Ytcfkagielgnkkaa
open Go.RowKit Pl
set_option linter.unusedVariables false

theorem Hp.lt_g {w : World} {base V g gp ga : Nat} {lv : Value} {ls ps az : List Int} (h : Hp w base V g gp ga lv ls ps az) : base ≤ w.heap.size := Nat.le_trans h.bg (Nat.le_of_lt h.hd.lt)
/-- the list grown by one, in the struct -/
theorem Hp.pushed {w w1 : World} {base V g gp ga : Nat} {lv v' : Value} {ls ps az : List Int} {x : Int} (h : Hp w base V g gp ga lv ls ps az) (hl : ls.length < 1048576)
    (ho : w1.ownsRow base 3 1 v' (ls.length + 1) (i64s ls ++ [.int .i64 x])) (hg : w.grownBy w1 lv.ownBlock) (hat : v'.ownBlock = lv.ownBlock ∨ v'.ownBlock = some (w.heap.size + 1)) :
    Hp (w1.setCell ⟨g, 0, none⟩ v') base V g gp ga v' (ls ++ [x]) ps az := by
  have b1 := h.hd.grown hg (fun e => h.ne_g e.symm)
  have b2 := h.pl.grown hg (fun e => h.ne e.symm)
  have b3 := h.ac.grown hg (fun e => h.ne_a e.symm)
  have n1 : gp ≠ g := h.pl.ne_ h.hd (by decide)
  have n2 : ga ≠ g := h.ac.ne_ h.hd (by decide)
  have n3 : v'.ownBlock ≠ some gp := by
    rcases hat with e | e
    · rw [e]; exact h.ne
    · rw [e]; intro e'; injection e' with e'; have := h.pl.lt; omega
  refine ⟨?_, ?_, b2.far n1 _, b3.far n2 _, n3, h.bg, h.bp, h.ba, h.lp, h.la, h.hv, by simp; omega⟩
  · have := b1.set_ 0 v'
    simpa using this
  · have e : i64s (ls ++ [x]) = i64s ls ++ [.int .i64 x] := by simp [i64s]
    rw [e, List.length_append]
    exact own_far ho (own_blk_ne ho b1 (by decide))
/-- what Push leaves -/
def Pushed (w : World) (base V g : Nat) (ls az : List Int) (v : Int) (e : Ending) (w' : World) : Prop :=
  ∃ b ls', e = .returned (.bool b) ∧ HS w' base V g ls' az ∧ Below base w w' ∧ ls'.length ≤ ls.length + 1 ∧ (b = false → ls' = ls) ∧ (isB V v = true → ¬ In ls v → b = true ∧ Same (ls ++ [v]) ls')
set_option maxHeartbeats 800000 in
theorem push_any {w : World} {base V g : Nat} {ls az : List Int} (v : Int) (h : HS w base V g ls az) (hl : ls.length < 1048576) :
    Calls Try.prog 43 #[.pointer (some ⟨g, 0, none⟩), .int .i64 v] w (Pushed w base V g ls az v) := by
  obtain ⟨gp, ga, lv, ps, h, hok, ho, hab⟩ := h
  have hV := h.hv
  have HAB := Lib.hid hab
  have HOK := Lib.hid hok
  have HHO := Lib.hid ho
  clear hab hok ho
  by_cases hv : 1 ≤ v ∧ v ≤ V
  · obtain ⟨v, rfl⟩ := Int.eq_ofNat_of_zero_le (show 0 ≤ v by omega)
    obtain ⟨hv1, hv2⟩ := hv
    have c1 := h.c1
    have c0 := h.c0
    have hcp := h.at_p (v := v) (by omega)
    have l1 : v < V + 1 := by omega
    have E := Lib.hid (isB_true hv1 hv2)
    by_cases hz : 0 < at_ ps v
    · have HH := Lib.hid h
      have hnin : ¬ ¬ In ls v := fun hn => by
        rcases HOK.out.out v (by omega) (by omega) with h5 | ⟨i, hi, e5⟩
        · omega
        · exact hn ⟨i, hi, e5⟩
      have HN := Lib.hid hnin
      clear h hnin
      generalize at_ ps v = pv at *
      go_enter Try.func43, Try.ntmps43
      go_wp2_with fail
      refine (is_any _ HH.out).mono ?_
      rw [E.out]
      rintro e w' ⟨rfl, rfl⟩
      go_wp2_with fail
      go_ret
      exact ⟨false, ls, rfl, ⟨gp, ga, lv, ps, HH.out, HOK.out, HHO.out, HAB.out⟩, Below.refl _ _, by omega, fun _ => rfl, fun _ hn => absurd hn HN.out⟩
    · have hz0 : at_ ps v = 0 := by
        rcases HOK.out.out v (by omega) (by omega) with h5 | ⟨i, hi, e5⟩
        · exact h5
        · have := HOK.out.plc i hi
          rw [e5, Int.toNat_natCast] at this
          omega
      have hown := h.own
      have hlt := h.lt_g
      have HH := Lib.hid h
      have HOK2 := Lib.hid (push_ok HOK.out (by omega) (by omega) hz0)
      rw [hz0] at hcp
      clear h hz hz0
      go_enter Try.func43, Try.ntmps43
      go_wp2_with fail
      refine (is_any _ HH.out).mono ?_
      rw [E.out]
      rintro e w' ⟨rfl, rfl⟩
      go_wp2_with (at_builtin; refine wpList_append_num _ rfl _ _ 34 rfl base 3 Try.underlying34 info_int _ _ _ rfl hown _ rfl (by omega) hlt ?_; intro v' w1 hown' hg' hb' hat'; have hcg := (HH.out.hd.grown hg' (fun e => HH.out.ne_g e.symm)).cell 0; have hfg := (HH.out.hd.grown hg' (fun e => HH.out.ne_g e.symm)).frozen 0; have HP := Lib.hid (HH.out.pushed hl hown' hg' hat'); obtain ⟨A', c', rfl, hc1, hc2, _⟩ := own_slice hown'; have HB := Lib.hid hb'; clear hown' hg' hb' hat')
      refine (up_any ls.length HP.out (by simp) (by rw [at_append_last, Int.toNat_natCast]; exact HOK2.out) (push_inv HHO.out)).mono ?_
      rintro e w2 ⟨l2, p2, rfl, h2, ok2, ho2, sm2, hb2⟩
      go_wp2_with fail
      go_ret
      have hsl := sm2.1
      rw [List.length_append] at hsl
      have hB1 : Below base w w2 := (HB.out.setCell (p := ⟨g, 0, none⟩) HH.out.bg _).trans hb2
      exact ⟨true, l2, rfl, ⟨gp, ga, _, p2, h2, ok2, ho2, HAB.out⟩, hB1, by simp at hsl; omega, fun h => absurd h (by decide), fun _ _ => ⟨rfl, sm2⟩⟩
  · have E := Lib.hid (isB_false hv)
    have HH := Lib.hid h
    clear h
    go_enter Try.func43, Try.ntmps43
    go_wp2_with fail
    refine (is_any _ HH.out).mono ?_
    rw [E.out]
    rintro e w' ⟨rfl, rfl⟩
    go_wp2_with fail
    go_ret
    exact ⟨false, ls, rfl, ⟨gp, ga, lv, ps, HH.out, HOK.out, HHO.out, HAB.out⟩, Below.refl _ _, by omega, fun _ => rfl, fun h _ => absurd (h.symm.trans E.out) (by decide)⟩

theorem pushNil_any (w : World) (v : Int) : Calls Try.prog 43 #[.pointer none, .int .i64 v] w fun e w' => e = .returned (.bool false) ∧ w = w' := by
  go_enter Try.func43, Try.ntmps43
  go_wp2_with fail
  refine (isNil_any _ _).mono ?_
  rintro e w' ⟨rfl, rfl⟩
  go_wp2_with fail
  go_ret
  exact ⟨rfl, rfl⟩
theorem hasNil_any (w : World) (v : Int) : Calls Try.prog 46 #[.pointer none, .int .i64 v] w fun e w' => e = .returned (.bool false) ∧ w = w' := by
  go_enter Try.func46, Try.ntmps46
  go_wp2_with fail
  refine (isNil_any _ _).mono ?_
  rintro e w' ⟨rfl, rfl⟩
  go_wp2_with fail
  go_ret
  exact ⟨rfl, rfl⟩
theorem actNil_any (w : World) (v : Int) : Calls Try.prog 47 #[.pointer none, .int .i64 v] w fun e w' => e = .returned (.int .i64 0) ∧ w = w' := by
  go_enter Try.func47, Try.ntmps47
  go_wp2_with fail
  refine (isNil_any _ _).mono ?_
  rintro e w' ⟨rfl, rfl⟩
  go_wp2_with fail
  go_ret
  exact ⟨rfl, rfl⟩
theorem popNil_any (w : World) : Calls Try.prog 45 #[.pointer none] w fun e w' => e = .returned (.tuple #[.int .i64 0, .bool false]) ∧ w = w' := by
  go_enter Try.func45, Try.ntmps45
  go_wp2_with fail
  refine (lenNil_any _).mono ?_
  rintro e w' ⟨rfl, rfl⟩
  go_wp2_with fail
  go_ret2
  exact ⟨rfl, rfl⟩
theorem bumpNil_any (w : World) (v d : Int) : Calls Try.prog 42 #[.pointer none, .int .i64 v, .int .i64 d] w fun e w' => e = .returned (.tuple #[]) ∧ w = w' := by
  go_enter Try.func42, Try.ntmps42
  go_wp2_with fail
  refine (isNil_any _ _).mono ?_
  rintro e w' ⟨rfl, rfl⟩
  go_wp2_with fail
  refine bodyPost_ret (results_none rfl _ _ _) rfl ?_
  exact ⟨rfl, rfl⟩
theorem halveNil_any (w : World) : Calls Try.prog 61 #[.pointer none] w fun e w' => e = .returned (.tuple #[]) ∧ w = w' := by
  go_enter Try.func61, Try.ntmps61
  go_wp2_with fail
  refine bodyPost_ret (results_none rfl _ _ _) rfl ?_
  exact ⟨rfl, rfl⟩
theorem growNil_any (w : World) (n : Int) : Calls Try.prog 62 #[.pointer none, .int .i64 n] w fun e w' => e = .returned (.tuple #[]) ∧ w = w' := by
  go_enter Try.func62, Try.ntmps62
  go_wp2_with fail
  refine bodyPost_ret (results_none rfl _ _ _) rfl ?_
  exact ⟨rfl, rfl⟩
end Go.Proofs.Ytcfkagielgnkkaa
