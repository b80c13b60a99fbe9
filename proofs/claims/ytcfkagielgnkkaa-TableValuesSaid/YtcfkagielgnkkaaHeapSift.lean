/- The heap's sifting: up and down. -/
import Derived.Test.YtcfkagielgnkkaaHeapWalk
namespace Go.Proofs.Ytcfkagielgnkkaa
open Go.RowKit Pl
set_option linter.unusedVariables false

/-- up: the list with v at the hole i is as it must be but for i and its parent -/
structure UpRel (V : Nat) (az l0 : List Int) (v : Int) (ls ps : List Int) (i : Nat) : Prop where
  lt : i < ls.length
  ok : OK V (ls.set i v) (ps.set v.toNat (i + 1))
  inv : UpInv az (ls.set i v) i
  same : Same l0 (ls.set i v)
theorem UpRel.v_rng {V : Nat} {az l0 : List Int} {v : Int} {ls ps : List Int} {i : Nat} (h : UpRel V az l0 v ls ps i) : 1 ≤ v ∧ v ≤ V := by
  have := h.ok.rng i (by rw [List.length_set]; exact h.lt)
  rwa [at_set_eq _ _ _ h.lt] at this
theorem UpRel.x_rng {V : Nat} {az l0 : List Int} {v : Int} {ls ps : List Int} {i p : Nat} (h : UpRel V az l0 v ls ps i) (hp : p < ls.length) (hne : i ≠ p) : 1 ≤ at_ ls p ∧ at_ ls p ≤ V ∧ at_ ls p ≠ v := by
  have h1 := h.ok.rng p (by rw [List.length_set]; exact hp)
  rw [at_set_ne _ _ _ _ hne] at h1
  refine ⟨h1.1, h1.2, fun e => hne ?_⟩
  refine h.ok.inj (by rw [List.length_set]; exact h.lt) (by rw [List.length_set]; exact hp) ?_
  rw [at_set_eq _ _ _ h.lt, at_set_ne _ _ _ _ hne, e]
theorem set_swap (ls : List Int) (i p : Nat) (v : Int) (hi : i < ls.length) (hne : i ≠ p) : swp (ls.set i v) i p = (ls.set i (at_ ls p)).set p v := by
  unfold swp
  rw [at_set_eq _ _ _ hi, at_set_ne _ _ _ _ hne, List.set_set]
theorem plc_swap (ps : List Int) (v x : Nat) (a b : Int) (hne : v ≠ x) : ((ps.set v a).set x a).set v b = (ps.set x a).set v b := by
  rw [List.set_comm _ _ hne, List.set_set]
theorem UpRel.step {V : Nat} {az l0 : List Int} {v : Int} {ls ps : List Int} {i p : Nat} (h : UpRel V az l0 v ls ps i) (h0 : 0 < i) (hp : p = (i - 1) / 2) (hlt : Lt az v (at_ ls p)) :
    UpRel V az l0 v (ls.set i (at_ ls p)) (ps.set (at_ ls p).toNat (i + 1)) p := by
  have hi := h.lt
  have hpi : i ≠ p := by omega
  have hpl : p < ls.length := by omega
  have hx := h.x_rng hpl hpi
  have hv := h.v_rng
  have hsl : i < (ls.set i v).length := by rw [List.length_set]; exact hi
  have hpl' : p < (ls.set i v).length := by rw [List.length_set]; exact hpl
  have e := set_swap ls i p v hi hpi
  refine ⟨by rw [List.length_set]; exact hpl, ?_, ?_, ?_⟩
  · have := h.ok.swp hsl hpl' hpi
    rw [e, at_set_eq _ _ _ hi, at_set_ne _ _ _ _ hpi, plc_swap _ _ _ _ _ (by omega)] at this
    exact this
  · have := up_step h.inv h0 hsl (by rw [at_set_eq _ _ _ hi, ← hp, at_set_ne _ _ _ _ hpi]; exact hlt)
    rw [← hp, e] at this
    exact this
  · have := h.same.trans (swp_same _ i p hsl hpl')
    rwa [e] at this
/-- what up and down leave -/
def Sifted (w : World) (base V g gp ga : Nat) (lv : Value) (l0 az : List Int) (e : Ending) (w' : World) : Prop :=
  ∃ ls ps, e = .returned (.tuple #[]) ∧ Hp w' base V g gp ga lv ls ps az ∧ OK V ls ps ∧ HO az ls ∧ Same l0 ls ∧ Below base w w'
set_option maxHeartbeats 1600000 in
theorem up_any {w : World} {base V g gp ga : Nat} {lv : Value} {ls ps az : List Int} (i : Nat) (h : Hp w base V g gp ga lv ls ps az) (hi : i < ls.length) (hok : OK V ls (ps.set (at_ ls i).toNat (i + 1))) (hinv : UpInv az ls i) :
    Calls Try.prog 75 #[.pointer (some ⟨g, 0, none⟩), .int .i64 i] w (Sifted w base V g gp ga lv ls az) := by
  have hV := h.hv
  have hll := h.ll
  obtain ⟨n, hn⟩ : ∃ n, n = ls.length := ⟨_, rfl⟩
  have hst : ls.set i (at_ ls i) = ls := by
    apply List.ext_getElem?
    intro j
    rw [List.getElem?_set]
    by_cases hj : i = j
    · subst hj
      rw [if_pos rfl, if_pos hi, at_, List.getD_eq_getElem?_getD, List.getElem?_eq_getElem hi]; rfl
    · rw [if_neg hj]
  obtain ⟨v, hv⟩ : ∃ v, v = at_ ls i := ⟨_, rfl⟩
  have R0 : UpRel V az ls v ls ps i := by
    rw [hv]
    exact ⟨hi, by rw [hst]; exact hok, by rw [hst]; exact hinv, by rw [hst]; exact Same.refl _⟩
  obtain ⟨gl, c, rfl, hlc, n1, n2, n3, hcl, hfl⟩ := h.at_l hi
  have hci := hcl i hi
  have c0 := h.c0
  rw [← hn] at c0 hlc hi hll
  rw [← hn] at h ⊢
  rw [← hv] at hci
  have hvr := R0.v_rng
  have HH := Lib.hid h
  have HR0 := Lib.hid R0
  have HN := Lib.hid hn
  clear h hcl hfl hok hinv hst hv R0 hn
  go_enter Try.func75, Try.ntmps75
  go_wp2_with fail
  go_loopw [1] (fun x wr => ∃ (j : Nat) (l1 p1 : List Int), x = .int .i64 j ∧ j < n ∧ Hp wr base V g gp ga (.slice (some ⟨gl, 0, none⟩) n c) l1 p1 az ∧ l1.length = n ∧ UpRel V az ls v l1 p1 j ∧ Below base w wr) (fun x _ => (intOf x).toNat)
  case atStart => exact ⟨i, ls, ps, rfl, hi, HH.out, HN.out.symm, HR0.out, Below.refl _ _⟩
  case round =>
    clear HH HR0
    obtain ⟨j, l1, p1, rfl, hj, h1, hl1, hrel1, hbel⟩ := hrel
    have c0 := h1.c0
    by_cases hj0 : 0 < j
    · obtain ⟨p, hp⟩ : ∃ p, p = (j - 1) / 2 := ⟨_, rfl⟩
      have hpl : p < l1.length := by omega
      obtain ⟨gl', c', e', hlc', m1, m2, m3, hcl, hfl⟩ := h1.at_l hpl
      injection e' with e1 e2 e3
      injection e1 with e1
      injection e1 with e1
      subst e1
      have hcp := hcl p hpl
      obtain ⟨x, hx⟩ : ∃ x, x = at_ l1 p := ⟨_, rfl⟩
      have hxr := hrel1.x_rng hpl (by omega)
      rw [← hx] at hcp hxr
      have hbb := hbel.size
      have HH1 := Lib.hid h1
      have HR1 := Lib.hid hrel1
      have HX := Lib.hid hx
      have HP := Lib.hid hp
      rw [hp] at hcp
      have HCL := Lib.hid hcl
      have HL1 := Lib.hid hl1
      clear h1 hrel1 hcl hfl hx hp e2 e3 hlc' hl1
      go_wp2_with fail
      refine (ahead_any v x HH1.out (by omega) (by omega) (by omega) (by omega)).mono ?_
      rintro e w1 ⟨rfl, q, rfl⟩
      rcases hab : Pl.ahead az v x with _ | _
      · have HAB := Lib.hid hab
        clear hab
        go_wp2_with fail
        refine (put_h j v (HH1.out.drewN q) HR1.out.lt (by omega) (by omega)).mono ?_
        rintro e w2 ⟨rfl, h2, hb2⟩
        go_wp2_with fail
        go_end0
        refine ⟨_, _, rfl, h2, HR1.out.ok, up_done HR1.out.inv (fun _ => ?_), HR1.out.same, (below_drewN hbel q).trans hb2⟩
        rw [at_set_eq _ _ _ HR1.out.lt, ← HP.out, at_set_ne _ _ _ _ (by have := HP.out; omega), ← HX.out]
        exact (ahead_not az v x).1 HAB.out
      · have HAB := Lib.hid hab
        clear hab
        go_wp2_with fail
        refine (put_h j x (HH1.out.drewN q) HR1.out.lt (by omega) (by omega)).mono ?_
        rintro e w2 ⟨rfl, h2, hb2⟩
        have HH2 := Lib.hid h2
        clear h2
        go_wp2_with fail
        go_roundw
        case rel =>
          have hst := HR1.out.step hj0 HP.out (by rw [← HX.out]; exact (ahead_iff az v x).1 HAB.out)
          rw [← HX.out] at hst
          have hpj := HP.out
          refine ⟨p, _, _, by go_num, by omega, HH2.out, by rw [List.length_set]; exact HL1.out, hst, (below_drewN hbel q).trans hb2⟩
        case measure => simp [intOf]; omega
    · have HH1 := Lib.hid h1
      have HR1 := Lib.hid hrel1
      have HL1 := Lib.hid hl1
      clear h1 hrel1 hl1
      go_wp2_with fail
      refine (put_h j v HH1.out HR1.out.lt (by omega) (by omega)).mono ?_
      rintro e w2 ⟨rfl, h2, hb2⟩
      go_wp2_with fail
      go_end0
      exact ⟨_, _, rfl, h2, HR1.out.ok, up_done HR1.out.inv (fun h0 => absurd h0 hj0), HR1.out.same, hbel.trans hb2⟩
end Go.Proofs.Ytcfkagielgnkkaa
