/- act: one act on both readers. -/
import Derived.Test.YtcfkagielgnkkaaScanRefNum
namespace Go.Proofs.Ytcfkagielgnkkaa
open Go.RowKit Pl
set_option linter.unusedVariables false
/-- both readers behind as many bytes -/
def PR (w : World) (base g gx : Nat) (A : Option Addr) (n c : Nat) (A' : Option Addr) (c' : Nat) (bs : List UInt8) (p : Nat) : Prop :=
  Rd w g A n c bs p ∧ Rx w gx A' n c' bs p ∧ Reads w base 1 A' n (u8s bs) ∧ base ≤ g ∧ g < gx
theorem Rx.only {w w' : World} {base g gx n c p : Nat} {A : Option Addr} {bs : List UInt8} (h : Rx w gx A n c bs p) (hR : Reads w base 1 A n (u8s bs)) (hg : w.grownBy w' (some g)) (h1 : base ≤ g) (h2 : g < gx) : Rx w' gx A n c bs p ∧ Reads w' base 1 A n (u8s bs) := by
  have hlt := h.1.lt
  have := hR.only hg (by omega) h1
  exact ⟨⟨h.1.only hg (by omega), this.more (by omega), h.2.2⟩, this⟩
theorem PR.below {w w' : World} {B base g gx n c c' p : Nat} {A A' : Option Addr} {bs : List UInt8} (h : PR w base g gx A n c A' c' bs p) (hb : Below B w w') (hB : gx < B) : PR w' base g gx A n c A' c' bs p := by
  obtain ⟨h1, h2, h3, h4, h5⟩ := h
  exact ⟨h1.below hb (by omega), h2.below hb hB, h3.below (hb.mono (by omega)), h4, h5⟩
theorem grown_below {w w' : World} {base g : Nat} (hg : w.grownBy w' (some g)) (h : base ≤ g) (h2 : base ≤ w.heap.size) : Below base w w' :=
  ⟨hg.os, hg.tape, hg.output, hg.size, fun b hb => hg.block b (by omega) (fun e => by injection e; omega)⟩
/-- one on the reader, then one on the reference's -/
theorem PR.two {w w1 w2 : World} {base g gx n c c' p p' : Nat} {A A' : Option Addr} {bs : List UInt8} (h : PR w base g gx A n c A' c' bs p) (h1 : Rd w1 g A n c bs p') (hg1 : w.grownBy w1 (some g)) (h2 : Rx w2 gx A' n c' bs p') (hg2 : w1.grownBy w2 (some gx)) :
    PR w2 base g gx A n c A' c' bs p' ∧ Below base w w2 := by
  obtain ⟨a1, a2, a3, a4, a5⟩ := h
  have hl := a2.1.lt
  obtain ⟨b1, b2⟩ := a2.only a3 hg1 a4 a5
  have hs := hg1.size
  refine ⟨⟨h1.only hg2 a5, h2, b2.only hg2 (by omega) (by omega), a4, a5⟩, ?_⟩
  exact (grown_below hg1 a4 (by omega)).trans (grown_below hg2 (by omega) (by omega))
/-- where both stand behind the act -/
def actP (bs : List UInt8) (n p : Nat) (kind : Int) (s : List UInt8) (most : Int) : Nat :=
  if kind = 0 then (if p < n then p + 1 else p) else if kind = 1 then ((want (bs.drop p) s 0).elim (p + s.length) fun _ => p) else if kind = 2 then p + (number (bs.drop p) most).2.2 else p
def ActPost (base g gx : Nat) (A : Option Addr) (n c : Nat) (A' : Option Addr) (c' : Nat) (bs : List UInt8) (p2 : Nat) (w : World) (e : Ending) (w' : World) : Prop :=
  e = .returned (.bool true) ∧ PR w' base g gx A n c A' c' bs p2 ∧ Below base w w'
set_option maxRecDepth 100000 in
set_option maxHeartbeats 3200000 in
theorem act_any (base g gx n c c' p : Nat) (A A' : Option Addr) (bs : List UInt8) (kind : Int) (s : ByteArray) (most : Int) (w : World) (h : PR w base g gx A n c A' c' bs p) (hs : s.size ≤ 60) (hm1 : -9223372036854775808 ≤ most) (hm2 : most ≤ 9223372036854775807) :
    Calls Try.prog 37 #[.pointer (some ⟨g, 0, none⟩), .pointer (some ⟨gx, 0, none⟩), .agg #[.int .i64 kind, .string s, .int .i64 most]] w (ActPost base g gx A n c A' c' bs (actP bs n p kind s.data.toList most) w) := by
  have hlx := h.2.1.1.lt
  have hbg := h.2.2.2.1
  have hggx := h.2.2.2.2
  have hb0 : Below w.heap.size w (w.alloc (.cells #[.int .i64 kind, .string s, .int .i64 most] 44)) := (Below.refl _ _).alloc (Nat.le_refl _) _
  have h0 := h.below hb0 hlx
  have HH := Lib.hid h0
  have HB0 : Hid (Below base w (w.alloc (.cells #[.int .i64 kind, .string s, .int .i64 most] 44))) := hb0.mono (by omega)
  have HA : Hid (Blk (w.alloc (.cells #[.int .i64 kind, .string s, .int .i64 most] 44)) w.heap.size 44 #[.int .i64 kind, .string s, .int .i64 most]) := Blk.new _ _ _
  clear h hb0 h0
  rcases (show kind = 0 ∨ kind = 1 ∨ kind = 2 ∨ ((kind == 0) = false ∧ (kind == 1) = false ∧ (kind == 2) = false) from by
    simp only [beq_eq_false_iff_ne]; omega) with rfl | rfl | rfl | ⟨k0, k1, k2⟩
  · go_enter Try.func37, Try.ntmps37
    go_wp2_with fail
    refine (byte_any g n c p A bs _ HH.out.1).mono ?_
    rintro e w1 ⟨he, hr1, hg1⟩
    obtain ⟨hx1, hR1⟩ := HH.out.2.1.only HH.out.2.2.1 hg1 hbg hggx
    have HR1 := Lib.hid hr1
    have HG1 := Lib.hid hg1
    have HX1 := Lib.hid hx1
    clear hr1 hg1 hx1 hR1
    by_cases hp : p < n
    all_goals
      first | rw [if_pos hp, decide_eq_true hp] at he | rw [if_neg hp, decide_eq_false hp] at he
      subst he
      go_wp2_with fail
      refine (xbyte_any gx n c' p A' bs _ HX1.out).mono ?_
      rintro e w2 ⟨he, hr2, hg2⟩
      have HQ := Lib.hid (HH.out.two HR1.out HG1.out hr2 hg2)
      clear hr2 hg2
      first | rw [if_pos hp, if_pos hp] at he | rw [if_neg hp, if_neg hp] at he
      subst he
      go_wp2_with fail
      go_ret
      exact ⟨rfl, by rw [actP, if_pos rfl]; exact HQ.out.1, HB0.out.trans HQ.out.2⟩
  · go_enter Try.func37, Try.ntmps37
    go_wp2_with fail
    refine (want_any g n c p A bs s _ HH.out.1 (by omega)).mono ?_
    rintro e w1 hret
    unfold RetWant at hret
    cases hw : want (bs.drop p) s.data.toList 0 with
    | none =>
      rw [hw] at hret
      obtain ⟨rfl, hr1, hg1⟩ := hret
      obtain ⟨hx1, hR1⟩ := HH.out.2.1.only HH.out.2.2.1 hg1 hbg hggx
      have hA1 : w1.cell? ⟨w.heap.size, 1, none⟩ = some (.string s) := by simpa using (HA.out.only hg1 (by omega)).cell 1
      have HR1 := Lib.hid hr1
      have HG1 := Lib.hid hg1
      have HX1 := Lib.hid hx1
      clear hr1 hg1 hx1 hR1
      go_wp2_with fail
      refine (xwant_any gx n c' p A' bs s _ HX1.out (by omega)).mono ?_
      rintro e w2 hret
      unfold RxWant at hret
      rw [hw] at hret
      obtain ⟨rfl, hr2, hg2⟩ := hret
      have HQ := Lib.hid (HH.out.two HR1.out HG1.out hr2 hg2)
      clear hr2 hg2
      go_wp2_with fail
      go_ret
      exact ⟨rfl, by rw [actP, if_neg (by decide), if_pos rfl, hw]; exact HQ.out.1, HB0.out.trans HQ.out.2⟩
    | some r =>
      obtain ⟨i, f⟩ := r
      rw [hw] at hret
      obtain ⟨rfl, hr1, hg1⟩ := hret
      obtain ⟨hx1, hR1⟩ := HH.out.2.1.only HH.out.2.2.1 hg1 hbg hggx
      have hA1 : w1.cell? ⟨w.heap.size, 1, none⟩ = some (.string s) := by simpa using (HA.out.only hg1 (by omega)).cell 1
      have HR1 := Lib.hid hr1
      have HG1 := Lib.hid hg1
      have HX1 := Lib.hid hx1
      clear hr1 hg1 hx1 hR1
      go_wp2_with fail
      refine (xwant_any gx n c' p A' bs s _ HX1.out (by omega)).mono ?_
      rintro e w2 hret
      unfold RxWant at hret
      rw [hw] at hret
      obtain ⟨rfl, hr2, hg2⟩ := hret
      have HQ := Lib.hid (HH.out.two HR1.out HG1.out hr2 hg2)
      clear hr2 hg2
      go_wp2_with fail
      go_ret
      exact ⟨rfl, by rw [actP, if_neg (by decide), if_pos rfl, hw]; exact HQ.out.1, HB0.out.trans HQ.out.2⟩
  · obtain ⟨nv, hnv⟩ : ∃ nv, nv = number (bs.drop p) most := ⟨_, rfl⟩
    obtain ⟨v, f, k⟩ := nv
    go_enter Try.func37, Try.ntmps37
    go_wp2_with fail
    refine (number_any g n c p A bs most _ HH.out.1 hm1 hm2).mono ?_
    rintro e w1 hret
    unfold RetNum at hret
    rw [← hnv] at hret
    obtain ⟨rfl, hr1, hg1⟩ := hret
    obtain ⟨hx1, hR1⟩ := HH.out.2.1.only HH.out.2.2.1 hg1 hbg hggx
    have hA1 : w1.cell? ⟨w.heap.size, 2, none⟩ = some (.int .i64 most) := by simpa using (HA.out.only hg1 (by omega)).cell 2
    have HR1 := Lib.hid hr1
    have HG1 := Lib.hid hg1
    have HX1 := Lib.hid hx1
    clear hr1 hg1 hx1 hR1
    go_wp2_with fail
    refine (xnumber_any gx n c' p A' bs most _ HX1.out hm1 hm2).mono ?_
    rintro e w2 hret
    unfold RxNum at hret
    rw [← hnv] at hret
    obtain ⟨rfl, hr2, hg2⟩ := hret
    have HQ := Lib.hid (HH.out.two HR1.out HG1.out hr2 hg2)
    clear hr2 hg2
    go_wp2_with fail
    go_ret
    exact ⟨rfl, by rw [actP, if_neg (by decide), if_neg (by decide), if_pos rfl, ← hnv]; exact HQ.out.1, HB0.out.trans HQ.out.2⟩
  · have hc0 := HH.out.2.1.c0
    have hc1 := HH.out.2.1.c1
    have hnn := HH.out.2.1.2.2.2
    by_cases hp : p < n
    · obtain ⟨b, off, rfl, hb, hcell⟩ := HH.out.2.1.2.1.u8At (k := p) hp
      obtain ⟨cv, hcv⟩ : ∃ cv, cv = (bs.getD p 0).toNat := ⟨_, rfl⟩
      have hcb : cv < 256 := by rw [hcv]; exact UInt8.toNat_lt _
      rw [← hcv] at hcell
      have HCV := Lib.hid hcv
      clear hcv
      go_enter Try.func37, Try.ntmps37
      go_wp2_with fail
      go_quiet (fail)
      go_wp2_with fail
      go_quiet (fail)
      go_wp2_with fail
      refine (peek_any g n c p A bs _ (HH.out.1.drewN _)).mono ?_
      rintro e w1 ⟨he, q, rfl⟩
      rw [if_pos hp, ← HCV.out] at he
      subst he
      go_wp2_with fail
      go_ret
      exact ⟨rfl, by rw [actP, if_neg (by simpa using k0), if_neg (by simpa using k1), if_neg (by simpa using k2)]; exact HH.out, below_drewN HB0.out _⟩
    · go_enter Try.func37, Try.ntmps37
      go_wp2_with fail
      go_quiet (fail)
      go_wp2_with fail
      refine (peek_any g n c p A bs _ (HH.out.1.drewN _)).mono ?_
      rintro e w1 ⟨he, q, rfl⟩
      rw [if_neg hp] at he
      subst he
      go_wp2_with fail
      go_ret
      exact ⟨rfl, by rw [actP, if_neg (by simpa using k0), if_neg (by simpa using k1), if_neg (by simpa using k2)]; exact HH.out, below_drewN HB0.out _⟩
end Go.Proofs.Ytcfkagielgnkkaa
