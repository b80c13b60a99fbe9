/- The heap's sifting down. -/
import Derived.Test.YtcfkagielgnkkaaHeapSift
namespace Go.Proofs.Ytcfkagielgnkkaa
open Go.RowKit Pl
set_option linter.unusedVariables false

structure DownRel (V : Nat) (az l0 : List Int) (v : Int) (ls ps : List Int) (i : Nat) : Prop where
  lt : i < ls.length
  ok : OK V (ls.set i v) (ps.set v.toNat (i + 1))
  inv : DownInv az (ls.set i v) i
  same : Same l0 (ls.set i v)
theorem DownRel.v_rng {V : Nat} {az l0 : List Int} {v : Int} {ls ps : List Int} {i : Nat} (h : DownRel V az l0 v ls ps i) : 1 ≤ v ∧ v ≤ V := by
  have := h.ok.rng i (by rw [List.length_set]; exact h.lt)
  rwa [at_set_eq _ _ _ h.lt] at this
theorem DownRel.x_rng {V : Nat} {az l0 : List Int} {v : Int} {ls ps : List Int} {i p : Nat} (h : DownRel V az l0 v ls ps i) (hp : p < ls.length) (hne : i ≠ p) : 1 ≤ at_ ls p ∧ at_ ls p ≤ V ∧ at_ ls p ≠ v := by
  have h1 := h.ok.rng p (by rw [List.length_set]; exact hp)
  rw [at_set_ne _ _ _ _ hne] at h1
  refine ⟨h1.1, h1.2, fun e => hne ?_⟩
  refine h.ok.inj (by rw [List.length_set]; exact h.lt) (by rw [List.length_set]; exact hp) ?_
  rw [at_set_eq _ _ _ h.lt, at_set_ne _ _ _ _ hne, e]
theorem DownRel.step {V : Nat} {az l0 : List Int} {v : Int} {ls ps : List Int} {i k : Nat} (h : DownRel V az l0 v ls ps i) (hk0 : 0 < k) (hk : k < ls.length) (hki : (k - 1) / 2 = i) (hlt : Lt az (at_ ls k) v)
    (hbest : ∀ s, 0 < s → s < ls.length → (s - 1) / 2 = i → ¬ Lt az (at_ ls s) (at_ ls k)) :
    DownRel V az l0 v (ls.set i (at_ ls k)) (ps.set (at_ ls k).toNat (i + 1)) k := by
  have hi := h.lt
  have hpi : i ≠ k := by omega
  have hx := h.x_rng hk hpi
  have hv := h.v_rng
  have hsl : i < (ls.set i v).length := by rw [List.length_set]; exact hi
  have hpl' : k < (ls.set i v).length := by rw [List.length_set]; exact hk
  have e := set_swap ls i k v hi hpi
  refine ⟨by rw [List.length_set]; exact hk, ?_, ?_, ?_⟩
  · have := h.ok.swp hsl hpl' hpi
    rw [e, at_set_eq _ _ _ hi, at_set_ne _ _ _ _ hpi, plc_swap _ _ _ _ _ (by omega)] at this
    exact this
  · have := down_step h.inv hk0 hpl' hki (by rw [at_set_eq _ _ _ hi, at_set_ne _ _ _ _ hpi]; exact hlt) (fun s h1 h2 h3 => by
      rw [List.length_set] at h2
      rw [at_set_ne _ _ _ _ (by omega), at_set_ne _ _ _ _ hpi]
      exact hbest s h1 h2 h3)
    rw [e] at this
    exact this
  · have := h.same.trans (swp_same _ i k hsl hpl')
    rwa [e] at this
theorem DownRel.done {V : Nat} {az l0 : List Int} {v : Int} {ls ps : List Int} {i : Nat} (h : DownRel V az l0 v ls ps i) (hall : ∀ s, 0 < s → s < ls.length → (s - 1) / 2 = i → ¬ Lt az (at_ ls s) v) : HO az (ls.set i v) := by
  refine down_done h.inv fun s h1 h2 h3 => ?_
  rw [List.length_set] at h2
  rw [at_set_eq _ _ _ h.lt, at_set_ne _ _ _ _ (by omega)]
  exact hall s h1 h2 h3
set_option maxRecDepth 100000 in
set_option maxHeartbeats 1600000 in
theorem down_any {w : World} {base V g gp ga : Nat} {lv : Value} {ls ps az : List Int} (h : Hp w base V g gp ga lv ls ps az) (hi : 0 < ls.length) (hok : OK V ls (ps.set (at_ ls 0).toNat (0 + 1))) (hinv : DownInv az ls 0) :
    Calls Try.prog 77 #[.pointer (some ⟨g, 0, none⟩), .int .i64 0] w (Sifted w base V g gp ga lv ls az) := by
  have hV := h.hv
  have hll := h.ll
  obtain ⟨n, hn⟩ : ∃ n, n = ls.length := ⟨_, rfl⟩
  have hst : ls.set 0 (at_ ls 0) = ls := by
    apply List.ext_getElem?
    intro j
    rw [List.getElem?_set]
    by_cases hj : 0 = j
    · subst hj
      rw [if_pos rfl, if_pos hi, at_, List.getD_eq_getElem?_getD, List.getElem?_eq_getElem hi]; rfl
    · rw [if_neg hj]
  obtain ⟨v, hv⟩ : ∃ v, v = at_ ls 0 := ⟨_, rfl⟩
  have R0 : DownRel V az ls v ls ps 0 := by
    rw [hv]
    exact ⟨hi, by rw [hst]; exact hok, by rw [hst]; exact hinv, by rw [hst]; exact Same.refl _⟩
  obtain ⟨gl, c, rfl, hlc, n1, n2, n3, hcl, hfl⟩ := h.at_l hi
  have hci := hcl 0 hi
  have c0 := h.c0
  rw [← hn] at c0 hlc hi hll
  rw [← hn] at h ⊢
  rw [← hv] at hci
  have hvr := R0.v_rng
  have HH := Lib.hid h
  have HR0 := Lib.hid R0
  have HN := Lib.hid hn
  clear h hcl hfl hok hinv hst hv R0 hn
  go_enter Try.func77, Try.ntmps77
  go_wp2_with fail
  go_step3
  go_wp2_with fail
  go_step3
  go_wp2_with fail
  go_loopw [1] (fun x wr => ∃ (j : Nat) (l1 p1 : List Int), x = .int .i64 j ∧ j < n ∧ Hp wr base V g gp ga (.slice (some ⟨gl, 0, none⟩) n c) l1 p1 az ∧ l1.length = n ∧ DownRel V az ls v l1 p1 j ∧ Below base w wr) (fun x _ => n - (intOf x).toNat)
  case atStart => exact ⟨0, ls, ps, rfl, hi, HH.out, HN.out.symm, HR0.out, Below.refl _ _⟩
  case round =>
    clear HH HR0
    obtain ⟨j, l1, p1, rfl, hj, h1, hl1, hrel1, hbel⟩ := hrel
    have c0 := h1.c0
    by_cases hk : 2 * j + 1 < n
    · have hk1 : l1.length = n := hl1
      obtain ⟨gl', c', e', hlc', m1, m2, m3, hcl, hfl⟩ := h1.at_l (i := j) (by omega)
      injection e' with e1 e2 e3
      injection e1 with e1
      injection e1 with e1
      subst e1
      have HCL := Lib.hid hcl
      have HH1 := Lib.hid h1
      have HR1 := Lib.hid hrel1
      have HL1 := Lib.hid hl1
      clear h1 hrel1 hcl hfl e2 e3 hlc' hl1 hk1
      go_wp2_with fail
      obtain ⟨k, hkd⟩ : ∃ k : Nat, k = j * 2 + 1 := ⟨_, rfl⟩
      rw [show (j : Int) * 2 + 1 = (k : Int) from by omega]
      have hk1 : j * 2 + 1 ≤ k := by omega
      have hk2 : k ≤ j * 2 + 1 := by omega
      have hkn : k < n := by omega
      clear hkd hk
      have hck := HCL.out k (by have := HL1.out; omega)
      have ra := HR1.out.x_rng (p := k) (by have := HL1.out; omega) (by omega)
      by_cases hkk : k + 1 < n
      · have hck1 := HCL.out (k + 1) (by have := HL1.out; omega)
        have rb := HR1.out.x_rng (p := k + 1) (by have := HL1.out; omega) (by omega)
        have hgd : decide ((k : Int) + 1 < n) = true := by simp; omega
        go_quiet ((go_at_call 85; exact Calls.quiet_of (ahead_any (at_ l1 (k + 1)) (at_ l1 k) (HH1.out.drewN _) (by omega) (by omega) (by omega) (by omega))))
        rcases hab : Pl.ahead az (at_ l1 (k + 1)) (at_ l1 k) with _ | _
        · have HAB := Lib.hid hab
          clear hab
          have HBest : Hid (∀ s, 0 < s → s < l1.length → (s - 1) / 2 = j → ¬ Lt az (at_ l1 s) (at_ l1 k)) := fun s h1 h2 h3 => by
            rcases (show s = k ∨ s = k + 1 from by omega) with e | e
            · subst e; unfold Lt; omega
            · subst e; exact (ahead_not az _ _).1 HAB.out
          go_wp2_with fail
          refine (ahead_any (at_ l1 k) v (HH1.out.drewN nq) (by omega) (by omega) (by omega) (by omega)).mono ?_
          rintro e w2 ⟨rfl, q2, rfl⟩
          rcases hab2 : Pl.ahead az (at_ l1 k) v with _ | _
          · have HAB2 := Lib.hid hab2
            clear hab2
            go_wp2_with fail
            refine (put_h j v (HH1.out.drewN (nq + q2)) HR1.out.lt (by omega) (by omega)).mono ?_
            rintro e w3 ⟨rfl, h2, hb2⟩
            go_wp2_with fail
            go_end0
            refine ⟨_, _, rfl, h2, HR1.out.ok, HR1.out.done (fun s h1 h2 h3 => ?_), HR1.out.same, (below_drewN hbel _).trans hb2⟩
            exact Lt.co (HBest.out s h1 h2 h3) ((ahead_not az _ v).1 HAB2.out)
          · have HAB2 := Lib.hid hab2
            clear hab2
            go_wp2_with fail
            refine (put_h j (at_ l1 k) (HH1.out.drewN (nq + q2)) HR1.out.lt (by omega) (by omega)).mono ?_
            rintro e w3 ⟨rfl, h2, hb2⟩
            have HH2 := Lib.hid h2
            clear h2
            go_wp2_with fail
            go_roundw
            case rel =>
              have hst := HR1.out.step (k := k) (by omega) (by have := HL1.out; omega) (by omega) ((ahead_iff az _ v).1 HAB2.out) HBest.out
              exact ⟨k, _, _, by go_num, by omega, HH2.out, by rw [List.length_set]; exact HL1.out, hst, (below_drewN hbel _).trans hb2⟩
            case measure => simp [intOf]; omega
        · have HAB := Lib.hid hab
          clear hab
          have HBest : Hid (∀ s, 0 < s → s < l1.length → (s - 1) / 2 = j → ¬ Lt az (at_ l1 s) (at_ l1 (k + 1))) := fun s h1 h2 h3 => by
            rcases (show s = k ∨ s = k + 1 from by omega) with e | e
            · subst e; exact ((ahead_iff az _ _).1 HAB.out).asymm
            · subst e; unfold Lt; omega
          go_wp2_with fail
          refine (ahead_any (at_ l1 (k + 1)) v (HH1.out.drewN nq) (by omega) (by omega) (by omega) (by omega)).mono ?_
          rintro e w2 ⟨rfl, q2, rfl⟩
          rcases hab2 : Pl.ahead az (at_ l1 (k + 1)) v with _ | _
          · have HAB2 := Lib.hid hab2
            clear hab2
            go_wp2_with fail
            refine (put_h j v (HH1.out.drewN (nq + q2)) HR1.out.lt (by omega) (by omega)).mono ?_
            rintro e w3 ⟨rfl, h2, hb2⟩
            go_wp2_with fail
            go_end0
            refine ⟨_, _, rfl, h2, HR1.out.ok, HR1.out.done (fun s h1 h2 h3 => ?_), HR1.out.same, (below_drewN hbel _).trans hb2⟩
            exact Lt.co (HBest.out s h1 h2 h3) ((ahead_not az _ v).1 HAB2.out)
          · have HAB2 := Lib.hid hab2
            clear hab2
            go_wp2_with fail
            refine (put_h j (at_ l1 (k + 1)) (HH1.out.drewN (nq + q2)) HR1.out.lt (by omega) (by omega)).mono ?_
            rintro e w3 ⟨rfl, h2, hb2⟩
            have HH2 := Lib.hid h2
            clear h2
            go_wp2_with fail
            go_roundw
            case rel =>
              have hst := HR1.out.step (k := k + 1) (by omega) (by have := HL1.out; omega) (by omega) ((ahead_iff az _ v).1 HAB2.out) HBest.out
              exact ⟨k + 1, _, _, by go_num, by omega, HH2.out, by rw [List.length_set]; exact HL1.out, hst, (below_drewN hbel _).trans hb2⟩
            case measure => simp [intOf]; omega
      · have hgd : decide ((k : Int) + 1 < n) = false := by simp; omega
        go_quiet (fail)
        have HBest : Hid (∀ s, 0 < s → s < l1.length → (s - 1) / 2 = j → ¬ Lt az (at_ l1 s) (at_ l1 k)) := fun s h1 h2 h3 => by
          have := HL1.out
          obtain rfl : s = k := by omega
          unfold Lt; omega
        go_wp2_with fail
        refine (ahead_any (at_ l1 k) v (HH1.out.drewN nq) (by omega) (by omega) (by omega) (by omega)).mono ?_
        rintro e w2 ⟨rfl, q2, rfl⟩
        rcases hab2 : Pl.ahead az (at_ l1 k) v with _ | _
        · have HAB2 := Lib.hid hab2
          clear hab2
          go_wp2_with fail
          refine (put_h j v (HH1.out.drewN (nq + q2)) HR1.out.lt (by omega) (by omega)).mono ?_
          rintro e w3 ⟨rfl, h2, hb2⟩
          go_wp2_with fail
          go_end0
          refine ⟨_, _, rfl, h2, HR1.out.ok, HR1.out.done (fun s h1 h2 h3 => ?_), HR1.out.same, (below_drewN hbel _).trans hb2⟩
          exact Lt.co (HBest.out s h1 h2 h3) ((ahead_not az _ v).1 HAB2.out)
        · have HAB2 := Lib.hid hab2
          clear hab2
          go_wp2_with fail
          refine (put_h j (at_ l1 k) (HH1.out.drewN (nq + q2)) HR1.out.lt (by omega) (by omega)).mono ?_
          rintro e w3 ⟨rfl, h2, hb2⟩
          have HH2 := Lib.hid h2
          clear h2
          go_wp2_with fail
          go_roundw
          case rel =>
            have hst := HR1.out.step (k := k) (by omega) (by have := HL1.out; omega) (by omega) ((ahead_iff az _ v).1 HAB2.out) HBest.out
            exact ⟨k, _, _, by go_num, by omega, HH2.out, by rw [List.length_set]; exact HL1.out, hst, (below_drewN hbel _).trans hb2⟩
          case measure => simp [intOf]; omega
    · have HH1 := Lib.hid h1
      have HR1 := Lib.hid hrel1
      have HL1 := Lib.hid hl1
      clear h1 hrel1 hl1
      go_wp2_with fail
      refine (put_h j v HH1.out HR1.out.lt (by omega) (by omega)).mono ?_
      rintro e w2 ⟨rfl, h2, hb2⟩
      go_wp2_with fail
      go_end0
      exact ⟨_, _, rfl, h2, HR1.out.ok, HR1.out.done (fun s h1 h2 h3 => by have := HL1.out; omega), HR1.out.same, hbel.trans hb2⟩
end Go.Proofs.Ytcfkagielgnkkaa
