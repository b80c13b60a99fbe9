/- The heap's Bump, Has, Activity, Pop. -/
import Derived.Test.YtcfkagielgnkkaaHeapOps
namespace Go.Proofs.Ytcfkagielgnkkaa
open Go.RowKit Pl
set_option linter.unusedVariables false
theorem HS.of {w : World} {base V g gp ga : Nat} {lv : Value} {ls ps az : List Int} (h : Hp w base V g gp ga lv ls ps az) (hok : OK V ls ps) (ho : HO az ls) (hab : ∀ v : Nat, 0 ≤ at_ az v ∧ at_ az v ≤ 1125899906842624) : HS w base V g ls az := ⟨gp, ga, lv, ps, h, hok, ho, hab⟩
theorem ok_pos {V : Nat} {ls ps : List Int} {v : Nat} (h : OK V ls ps) (h1 : 1 ≤ v) (h2 : v ≤ V) : (In ls v ∧ 0 < at_ ps v) ∨ (¬ In ls v ∧ at_ ps v = 0) := by
  by_cases hin : In ls v
  · left
    obtain ⟨i, hi, e⟩ := hin
    refine ⟨⟨i, hi, e⟩, ?_⟩
    have := h.plc i hi
    rw [e, Int.toNat_natCast] at this
    omega
  · right
    refine ⟨hin, ?_⟩
    rcases h.out v h1 h2 with h5 | h5
    · exact h5
    · exact absurd h5 hin
theorem has_yes {w : World} {base V g : Nat} {ls az : List Int} (v : Int) (h : HS w base V g ls az) (hv : In ls v) :
    Calls Try.prog 46 #[.pointer (some ⟨g, 0, none⟩), .int .i64 v] w fun e w' => e = .returned (.bool true) ∧ w = w' := by
  obtain ⟨gp, ga, lv, ps, h, hok, ho, hab⟩ := h
  have hV := h.hv
  have hr : 1 ≤ v ∧ v ≤ V := by
    obtain ⟨i, hi, e⟩ := hv
    rw [← e]; exact hok.rng i hi
  obtain ⟨v, rfl⟩ := Int.eq_ofNat_of_zero_le (show 0 ≤ v by omega)
  have hp : 0 < at_ ps v := by
    rcases ok_pos hok (v := v) (by omega) (by omega) with h1 | h1
    · exact h1.2
    · exact absurd hv h1.1
  have c1 := h.c1
  have hcp := h.at_p (v := v) (by omega)
  have l1 : v < V + 1 := by omega
  have E := Lib.hid (isB_true hr.1 hr.2)
  have HH := Lib.hid h
  clear h hok ho hab hv
  generalize at_ ps v = pv at *
  go_enter Try.func46, Try.ntmps46
  go_wp2_with fail
  refine (is_any _ HH.out).mono ?_
  rw [E.out]
  rintro e w' ⟨rfl, rfl⟩
  go_wp2_with fail
  go_ret
  exact ⟨rfl, rfl⟩
theorem has_no {w : World} {base V g : Nat} {ls az : List Int} (v : Int) (h : HS w base V g ls az) (hv : ¬ In ls v) :
    Calls Try.prog 46 #[.pointer (some ⟨g, 0, none⟩), .int .i64 v] w fun e w' => e = .returned (.bool false) ∧ w = w' := by
  obtain ⟨gp, ga, lv, ps, h, hok, ho, hab⟩ := h
  have hV := h.hv
  by_cases hr : 1 ≤ v ∧ v ≤ V
  · obtain ⟨v, rfl⟩ := Int.eq_ofNat_of_zero_le (show 0 ≤ v by omega)
    have hp : at_ ps v = 0 := by
      rcases ok_pos hok (v := v) (by omega) (by omega) with h1 | h1
      · exact absurd h1.1 hv
      · exact h1.2
    have c1 := h.c1
    have hcp := h.at_p (v := v) (by omega)
    rw [hp] at hcp
    have l1 : v < V + 1 := by omega
    have E := Lib.hid (isB_true hr.1 hr.2)
    have HH := Lib.hid h
    clear h hok ho hab hv hp
    go_enter Try.func46, Try.ntmps46
    go_wp2_with fail
    refine (is_any _ HH.out).mono ?_
    rw [E.out]
    rintro e w' ⟨rfl, rfl⟩
    go_wp2_with fail
    go_ret
    exact ⟨rfl, rfl⟩
  · have E := Lib.hid (isB_false hr)
    have HH := Lib.hid h
    clear h hok ho hab hv
    go_enter Try.func46, Try.ntmps46
    go_wp2_with fail
    refine (is_any _ HH.out).mono ?_
    rw [E.out]
    rintro e w' ⟨rfl, rfl⟩
    go_wp2_with fail
    go_ret
    exact ⟨rfl, rfl⟩
theorem activity_any {w : World} {base V g : Nat} {ls az : List Int} (v : Int) (h : HS w base V g ls az) (h1 : 1 ≤ v) (h2 : v ≤ V) :
    Calls Try.prog 47 #[.pointer (some ⟨g, 0, none⟩), .int .i64 v] w fun e w' => e = .returned (.int .i64 (at_ az v.toNat)) ∧ w = w' := by
  obtain ⟨gp, ga, lv, ps, h, hok, ho, hab⟩ := h
  have hV := h.hv
  obtain ⟨v, rfl⟩ := Int.eq_ofNat_of_zero_le (show 0 ≤ v by omega)
  rw [Int.toNat_natCast]
  have c2 := h.c2
  have hcp := h.at_a (v := v) (by omega)
  have l1 : v < V + 1 := by omega
  have E := Lib.hid (isB_true h1 h2)
  have HH := Lib.hid h
  clear h hok ho hab
  generalize at_ az v = pv at *
  go_enter Try.func47, Try.ntmps47
  go_wp2_with fail
  refine (is_any _ HH.out).mono ?_
  rw [E.out]
  rintro e w' ⟨rfl, rfl⟩
  go_wp2_with fail
  go_ret
  exact ⟨rfl, rfl⟩
/-- what Bump leaves -/
def Bumped (w : World) (base V g : Nat) (ls az : List Int) (v d : Int) (e : Ending) (w' : World) : Prop :=
  ∃ ls' az', e = .returned (.tuple #[]) ∧ HS w' base V g ls' az' ∧ Below base w w' ∧ Same ls ls' ∧ (isB V v = true → 0 ≤ d → d ≤ 1099511627776 → az' = az.set v.toNat (min (at_ az v.toNat + d) 1125899906842624))
theorem set_bounds {az : List Int} {v : Nat} {a : Int} (h : ∀ v : Nat, 0 ≤ at_ az v ∧ at_ az v ≤ 1125899906842624) (ha : 0 ≤ a) (ha' : a ≤ 1125899906842624) : ∀ u : Nat, 0 ≤ at_ (az.set v a) u ∧ at_ (az.set v a) u ≤ 1125899906842624 := fun u => by
  rw [at_set]
  split
  · exact ⟨ha, ha'⟩
  · exact h u
theorem Hp.drew {w : World} {base V g gp ga : Nat} {lv : Value} {ls ps az : List Int} (h : Hp w base V g gp ga lv ls ps az) : Hp w.drew base V g gp ga lv ls ps az := ⟨h.hd, h.own, h.pl, h.ac, h.ne, h.bg, h.bp, h.ba, h.lp, h.la, h.hv, h.ll⟩
set_option maxHeartbeats 800000 in
theorem bump_any {w : World} {base V g : Nat} {ls az : List Int} (v d : Int) (h : HS w base V g ls az) (hd1 : -9223372036854775808 ≤ d) (hd2 : d ≤ 9223372036854775807) :
    Calls Try.prog 42 #[.pointer (some ⟨g, 0, none⟩), .int .i64 v, .int .i64 d] w (Bumped w base V g ls az v d) := by
  obtain ⟨gp, ga, lv, ps, h, hok, ho, hab⟩ := h
  have hV := h.hv
  have HAB := Lib.hid hab
  have HOK := Lib.hid hok
  have HHO := Lib.hid ho
  clear hab hok ho
  by_cases hv : 1 ≤ v ∧ v ≤ V
  · obtain ⟨v, rfl⟩ := Int.eq_ofNat_of_zero_le (show 0 ≤ v by omega)
    obtain ⟨hv1, hv2⟩ := hv
    have E := Lib.hid (isB_true hv1 hv2)
    rcases (show d < 0 ∨ (0 ≤ d ∧ 1099511627776 < d) ∨ (0 ≤ d ∧ d ≤ 1099511627776) from by omega) with hd | ⟨hd, hd'⟩ | ⟨hd, hd'⟩
    · have HH := Lib.hid h
      clear h
      go_enter Try.func42, Try.ntmps42
      go_wp2_with fail
      refine (is_any _ HH.out).mono ?_
      rw [E.out]
      rintro e w' ⟨rfl, rfl⟩
      go_wp2_with fail
      refine bodyPost_ret (results_none rfl _ _ _) rfl ?_
      exact ⟨ls, az, rfl, HS.of HH.out HOK.out HHO.out HAB.out, Below.refl _ _, Same.refl _, fun _ h _ => by omega⟩
    · have HH := Lib.hid h
      clear h
      go_enter Try.func42, Try.ntmps42
      go_wp2_with fail
      refine (is_any _ HH.out).mono ?_
      rw [E.out]
      rintro e w' ⟨rfl, rfl⟩
      go_wp2_with fail
      refine bodyPost_ret (results_none rfl _ _ _) rfl ?_
      exact ⟨ls, az, rfl, HS.of HH.out HOK.out HHO.out HAB.out, Below.refl _ _, Same.refl _, fun _ _ h => by omega⟩
    · have c2 := h.c2
      have c1 := h.c1
      have hca := h.at_a (v := v) (by omega)
      have hfa := h.ac.frozen v
      have hcp := h.at_p (v := v) (by omega)
      have l1 : v < V + 1 := by omega
      have hb := HAB.out v
      have hba := h.ba
      have HH := Lib.hid h
      obtain ⟨av, hav⟩ : ∃ av, av = at_ az v := ⟨_, rfl⟩
      rw [← hav] at hca hb
      have HAV := Lib.hid hav
      obtain ⟨pv, hpv⟩ : ∃ pv, pv = at_ ps v := ⟨_, rfl⟩
      rw [← hpv] at hcp
      have hpi : (¬ 0 < pv) ∨ ∃ i : Nat, pv = (i : Int) + 1 ∧ i < ls.length ∧ at_ ls i = (v : Int) := by
        rcases HOK.out.out v (by omega) (by omega) with h5 | ⟨i, hi, e5⟩
        · left; omega
        · right
          have := HOK.out.plc i hi
          rw [e5, Int.toNat_natCast] at this
          exact ⟨i, by omega, hi, e5⟩
      have HPV := Lib.hid hpv
      have HPI := Lib.hid hpi
      clear h hav hpv hpi
      obtain ⟨nv, hnv⟩ : ∃ nv, nv = min (av + d) 1125899906842624 := ⟨_, rfl⟩
      rcases (show (av + d ≤ 1125899906842624 ∧ nv = av + d) ∨ (1125899906842624 < av + d ∧ nv = 1125899906842624) from by omega) with ⟨hm, hm2⟩ | ⟨hm, hm2⟩
      all_goals
        have HNV := Lib.hid hnv
        have hnb : av ≤ nv := by omega
        have hnb2 : nv ≤ 1125899906842624 := by omega
        have HM2 := Lib.hid hm2
        clear hnv hm2
        have H2 := Lib.hid (HH.out.set_a (v := v) (x := nv))
        have hcp2 : (w.setCell ⟨ga, v, none⟩ (.int .i64 nv)).cell? ⟨gp, v, none⟩ = some (.int .i64 pv) := by rw [HPV.out]; exact H2.out.at_p (by omega)
        have hc12 := H2.out.c1
        rw [HM2.out] at hcp2 hc12
        go_enter Try.func42, Try.ntmps42
        go_wp2_with fail
        refine (is_any _ HH.out).mono ?_
        rw [E.out]
        rintro e w' ⟨rfl, rfl⟩
        go_wp2_with fail
        go_region
        rcases HPI.out with hp0 | ⟨i, hpi, hil, hiv⟩
        · go_wp2_with fail
          go_end0
          refine ⟨ls, az.set v nv, rfl, ?_, ((Below.refl _ _).setCell hba _).drew, Same.refl _, fun _ _ _ => by rw [Int.toNat_natCast, HNV.out, HAV.out]⟩
          have H3 := H2.out.drew
          rw [HM2.out] at H3
          have H5 := set_bounds (v := v) (a := nv) HAB.out (by omega) (by omega)
          have H6 : HO (az.set v nv) ls := bump_out HOK.out HHO.out (by have := HPV.out; have := ok_pos HOK.out (v := v) (by omega) (by omega); omega)
          rw [← HM2.out] at H3
          rw [← HM2.out]
          exact HS.of H3 HOK.out H6 H5
        · have hps : ps.set v ((i : Int) + 1) = ps := set_same ps v _ (by rw [← HPV.out, hpi]) (by have := HH.out.lp; omega)
          have hib : i < 1048576 := by have := HH.out.ll; omega
          have HPS := Lib.hid hps
          have HIV := Lib.hid hiv
          subst hpi
          clear hps hiv
          go_wp2_with fail
          have H3 := H2.out.drew
          have H4 := bump_inv HOK.out HHO.out hil HIV.out (a := nv) (by rw [← HAV.out]; exact hnb)
          rw [HM2.out] at H3 H4
          refine (up_any i H3 hil (by rw [HIV.out, Int.toNat_natCast, HPS.out]; exact HOK.out) H4).mono ?_
          clear H3 H4
          rintro e w2 ⟨l2, p2, rfl, h2, ok2, ho2, sm2, hb2⟩
          rw [← HM2.out] at h2 ho2
          go_wp2_with fail
          go_end0
          exact ⟨l2, az.set v nv, rfl, HS.of h2 ok2 ho2 (set_bounds HAB.out (by omega) (by omega)), ((Below.refl _ _).setCell hba _).drew.trans hb2, sm2, fun _ _ _ => by rw [Int.toNat_natCast, HNV.out, HAV.out]⟩
  · have E := Lib.hid (isB_false hv)
    have HH := Lib.hid h
    clear h
    go_enter Try.func42, Try.ntmps42
    go_wp2_with fail
    refine (is_any _ HH.out).mono ?_
    rw [E.out]
    rintro e w' ⟨rfl, rfl⟩
    go_wp2_with fail
    refine bodyPost_ret (results_none rfl _ _ _) rfl ?_
    exact ⟨ls, az, rfl, HS.of HH.out HOK.out HHO.out HAB.out, Below.refl _ _, Same.refl _, fun h _ _ => absurd (h.symm.trans E.out) (by decide)⟩
end Go.Proofs.Ytcfkagielgnkkaa
