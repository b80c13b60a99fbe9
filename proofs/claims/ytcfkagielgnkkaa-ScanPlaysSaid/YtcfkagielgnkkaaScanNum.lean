/- The scanner's Number. -/
import Derived.Test.YtcfkagielgnkkaaScanWant
namespace Go.Proofs.Ytcfkagielgnkkaa
open Go.RowKit Pl
set_option linter.unusedVariables false
/-- Number: what it hands back, and the reader behind it -/
def RetNum (w : World) (g : Nat) (A : Option Addr) (n c : Nat) (bs : List UInt8) (p : Nat) (most : Int) (e : Ending) (w' : World) : Prop :=
  e = .returned (.tuple #[.int .i64 (number (bs.drop p) most).1, .int .i64 (number (bs.drop p) most).2.1]) ∧ Rd w' g A n c bs (p + (number (bs.drop p) most).2.2) ∧ w.grownBy w' (some g)
theorem RetNum.of {w w' : World} {g n c p : Nat} {A : Option Addr} {bs : List UInt8} {most v f : Int} {k : Nat} {e : Ending} (hr : number (bs.drop p) most = (v, f, k)) (he : e = .returned (.tuple #[.int .i64 v, .int .i64 f])) (h : Rd w' g A n c bs (p + k)) (hg : w.grownBy w' (some g)) : RetNum w g A n c bs p most e w' := by
  unfold RetNum; rw [hr]; exact ⟨he, h, hg⟩
def Digs (l : List UInt8) (k : Nat) : Prop := ∀ j, j < k → dig (l.getD j 0) = true
theorem Digs.next {l : List UInt8} {k : Nat} (h : Digs l k) (hk : dig (l.getD k 0) = true) : Digs l (k + 1) := fun j hj => by
  rcases Nat.lt_or_ge j k with h1 | h1
  · exact h j h1
  · obtain rfl : j = k := by omega
    exact hk
theorem Digs.stop {l : List UInt8} {k : Nat} (h : Digs l k) (hk : k ≤ l.length) (hs : ¬ (k < l.length ∧ dig (l.getD k 0) = true)) : digs l = k := by
  refine digs_at (fun j hj hl => ?_) hk fun hl => ?_
  · have := h j hj; rwa [getD_get l j hl] at this
  · rw [← getD_get l k hl]
    cases hd : dig (l.getD k 0) with
    | false => rfl
    | true => exact absurd ⟨hl, hd⟩ hs
theorem dig_iff (c : UInt8) : dig c = true ↔ 48 ≤ c.toNat ∧ c.toNat ≤ 57 := by simp [dig]
theorem num_cons (most : Int) (c : UInt8) (r : List UInt8) (a : Int) : num most (c :: r) a = if most < (c.toNat : Int) - 48 ∨ (most - ((c.toNat : Int) - 48)) / 10 < a then none else num most r (a * 10 + ((c.toNat : Int) - 48)) := rfl
theorem take_drop_cons (l : List UInt8) (k j : Nat) (hj : j < k) (hk : k ≤ l.length) : (l.take k).drop j = l.getD j 0 :: (l.take k).drop (j + 1) := by
  rw [List.drop_eq_getElem_cons (by simp; omega), List.getElem_take, getD_get l j (by omega)]
theorem number_zero (l : List UInt8) (most : Int) (h : l.length = 0) : number l most = (0, 12, 0) := by rw [number, if_pos h]
theorem number_none (l : List UInt8) (most : Int) (h : l.length ≠ 0) (h2 : digs l = 0) : number l most = (0, 2, 0) := by rw [number, if_neg h, if_pos h2]
theorem number_lead (l : List UInt8) (most : Int) (h : l.length ≠ 0) (h2 : 1 < digs l) (h3 : l.getD 0 0 = 48) : number l most = (0, 4, 0) := by
  rw [number, if_neg h, if_neg (by omega), if_pos ⟨h2, by rw [← h3]; cases l <;> rfl⟩]
theorem number_big (l : List UInt8) (most : Int) (k : Nat) (h2 : digs l = k) (hk : 0 < k) (hl : k ≤ l.length) (h3 : ¬ (1 < k ∧ l.getD 0 0 = 48)) (hn : num most (l.take k) 0 = none) : number l most = (0, 4, 0) := by
  subst h2
  rw [number, if_neg (by omega), if_neg (by omega), if_neg (fun h => h3 ⟨h.1, by rw [← h.2]; cases l <;> rfl⟩), hn]
theorem number_good (l : List UInt8) (most : Int) (k : Nat) (v : Int) (h2 : digs l = k) (hk : 0 < k) (hl : k ≤ l.length) (h3 : ¬ (1 < k ∧ l.getD 0 0 = 48)) (hn : num most (l.take k) 0 = some v) : number l most = (v, 0, k) := by
  subst h2
  rw [number, if_neg (by omega), if_neg (by omega), if_neg (fun h => h3 ⟨h.1, by rw [← h.2]; cases l <;> rfl⟩), hn]
set_option maxRecDepth 100000 in
set_option maxHeartbeats 1600000 in
theorem number_any (g n c p : Nat) (A : Option Addr) (bs : List UInt8) (most : Int) (w : World) (h : Rd w g A n c bs p) (hm1 : -9223372036854775808 ≤ most) (hm2 : most ≤ 9223372036854775807) :
    Calls Try.prog 35 #[.pointer (some ⟨g, 0, none⟩), .int .i64 most] w (RetNum w g A n c bs p most) := by
  have hn := h.2.2.2.2.2.1
  have hpn := h.2.2.1
  have hc1 := h.c1
  have hf1 := h.f1
  have HH := Lib.hid h
  clear h
  go_enter Try.func35, Try.ntmps35
  go_wp2_with fail
  go_step3
  go_wp2_with fail
  refine (left_any g n c p A bs _ HH.out).mono ?_
  rintro e w1 ⟨A1, c1, q, rfl, h1, h2, h3, h4, rfl⟩
  have hl1 : (bs.drop p).length = n - p := by have := h4.1; simpa [u8s] using this
  have HL := Lib.hid hl1
  clear hl1 h3
  obtain ⟨m, hm⟩ : ∃ m, m = n - p := ⟨_, rfl⟩
  have hmb : m ≤ 1048576 := by omega
  rw [← hm] at HL h1 h4 ⊢
  have HM := Lib.hid hm
  clear hm
  obtain ⟨l, hl⟩ : ∃ l, l = bs.drop p := ⟨_, rfl⟩
  rw [← hl] at HL h4
  have HLL := Lib.hid hl
  clear hl
  have HMX := Lib.hid h2
  unfold maxLen at h2
  go_wp2_with fail
  go_step3
  go_wp2_with fail
  go_loop [7] (fun i => ∃ k : Nat, k ≤ m ∧ i = .int .i64 k ∧ Digs l k) (fun i => m - (intOf i).toNat)
  case atStart => exact ⟨0, Nat.zero_le _, rfl, fun j hj => absurd hj (by omega)⟩
  case round =>
    obtain ⟨k, hk, rfl, hd⟩ := hrel
    by_cases hx : k < m ∧ dig (l.getD k 0) = true
    · obtain ⟨hlt, hdk⟩ := hx
      obtain ⟨b, off, rfl, hb, hcell⟩ := h4.u8At (k := k) (by omega)
      have HD := Lib.hid (hd.next hdk)
      rw [dig_iff] at hdk
      obtain ⟨cv, hcv⟩ : ∃ cv, cv = (l.getD k 0).toNat := ⟨_, rfl⟩
      rw [← hcv] at hcell hdk
      clear hcv
      obtain ⟨hd1, hd2⟩ := hdk
      clear hd h4
      go_wp2_with fail
      go_round
      case rel => exact ⟨k + 1, by omega, by go_num, HD.out⟩
      case measure => simp [intOf]; omega
    · have hdg := hd.stop (by have := HL.out; omega) (by have := HL.out; rw [this]; exact hx)
      have HDG := Lib.hid hdg
      have HD := Lib.hid hd
      have HX := Lib.hid hx
      clear hdg hd hx
      rcases (show m = 0 ∨ (0 < m ∧ k = 0) ∨ (0 < m ∧ 0 < k) from by omega) with h0 | ⟨h0, hk0⟩ | ⟨h0, hk0⟩
      · subst h0
        clear h4
        have HN := Lib.hid (number_zero l most (by have := HL.out; omega))
        obtain rfl : k = 0 := by omega
        go_wp2_with fail
        try rw [Exit.noGoto_ret]
        go_ret2
        exact RetNum.of (k := 0) (by rw [← HLL.out]; exact HN.out) rfl (HH.out.drewN q) (only_drewN (only_refl w g) q)
      · subst hk0
        obtain ⟨b, off, rfl, hb, hcell⟩ := h4.u8At (k := 0) (by omega)
        have HN := Lib.hid (number_none l most (by have := HL.out; omega) HDG.out)
        rw [Nat.add_zero] at hcell
        obtain ⟨cv, hcv⟩ : ∃ cv, cv = (l.getD 0 0).toNat := ⟨_, rfl⟩
        have hcx : cv < 48 ∨ 57 < cv := by
          have h9 : ¬ (48 ≤ cv ∧ cv ≤ 57) := fun h => HX.out ⟨h0, (dig_iff _).2 (by rw [← hcv]; exact h)⟩
          omega
        rw [← hcv] at hcell
        clear hcv h4
        have hne : ((m : Int) == 0) = false := by simp; omega
        rcases hcx with hcx | hcx
        all_goals
          go_wp2_with fail
          try rw [Exit.noGoto_ret]
          go_ret2
          exact RetNum.of (k := 0) (by rw [← HLL.out]; exact HN.out) rfl (HH.out.drewN q) (only_drewN (only_refl w g) q)
      · obtain ⟨b, off, rfl, hb, hcell0⟩ := h4.u8At (k := 0) (by omega)
        rw [Nat.add_zero] at hcell0
        have hne : ((m : Int) == 0) = false := by simp; omega
        have hnk : ((k : Int) == 0) = false := by simp; omega
        have hex : k < m → ∃ cv : Nat, w.cell? ⟨b, off + k, none⟩ = some (.int .u8 (cv : Int)) ∧ (cv < 48 ∨ 57 < cv) := fun hlt => by
          obtain ⟨b', off', e, _, hc⟩ := h4.u8At (k := k) hlt
          injection e with e
          injection e with e1 e2 e3
          subst e1 e2
          refine ⟨_, hc, ?_⟩
          have h9 : ¬ (48 ≤ (l.getD k 0).toNat ∧ (l.getD k 0).toNat ≤ 57) := fun h => HX.out ⟨hlt, (dig_iff _).2 h⟩
          omega
        have HEX := Lib.hid hex
        clear hex
        obtain ⟨c0, hc0⟩ : ∃ c0, c0 = (l.getD 0 0).toNat := ⟨_, rfl⟩
        rw [← hc0] at hcell0
        have HC0 := Lib.hid hc0
        clear hc0
        by_cases hld : 1 < k ∧ c0 = 48
        · obtain ⟨hk1, h48⟩ := hld
          have HN := Lib.hid (number_lead l most (by have := HL.out; omega) (by rw [HDG.out]; exact hk1) (by apply UInt8.toNat_inj.1; rw [← HC0.out, h48]; rfl))
          subst h48
          rcases (show (¬ k < m) ∨ k < m from by omega) with hlt | hlt
          · clear h4
            go_wp2_with fail
            try rw [Exit.noGoto_ret]
            go_ret2
            exact RetNum.of (k := 0) (by rw [← HLL.out]; exact HN.out) rfl (HH.out.drewN q) (only_drewN (only_refl w g) q)
          · obtain ⟨cv, hcell, hcx⟩ := HEX.out hlt
            clear h4
            rcases hcx with hcx | hcx
            all_goals
              go_wp2_with fail
              try rw [Exit.noGoto_ret]
              go_ret2
              exact RetNum.of (k := 0) (by rw [← HLL.out]; exact HN.out) rfl (HH.out.drewN q) (only_drewN (only_refl w g) q)
        · have HLD : Hid (¬ (1 < k ∧ l.getD 0 0 = 48)) := fun h => hld ⟨h.1, by rw [HC0.out, h.2]; rfl⟩
          have hl2 : ¬ (1 : Int) < k ∨ ((1 : Int) < k ∧ ((c0 : Int) == 48) = false) := by
            rcases (show ¬ 1 < k ∨ 1 < k from by omega) with h9 | h9
            · exact .inl (by omega)
            · exact .inr ⟨by omega, by simp; intro h; exact hld ⟨h9, by omega⟩⟩
          clear hld
          have HR := Lib.hid h4
          clear h4
          have hex2 : (¬ k < m) ∨ (k < m ∧ ∃ cv : Nat, w.cell? ⟨b, off + k, none⟩ = some (.int .u8 (cv : Int)) ∧ cv < 48) ∨ (k < m ∧ ∃ cv : Nat, w.cell? ⟨b, off + k, none⟩ = some (.int .u8 (cv : Int)) ∧ 57 < cv) := by
            rcases (show (¬ k < m) ∨ k < m from by omega) with hlt | hlt
            · exact .inl hlt
            · obtain ⟨cv, hcell, hcx | hcx⟩ := HEX.out hlt
              · exact .inr (.inl ⟨hlt, cv, hcell, hcx⟩)
              · exact .inr (.inr ⟨hlt, cv, hcell, hcx⟩)
          clear HEX
          rcases hl2 with hl2 | ⟨hl2, hl3⟩ <;> rcases hex2 with hlt | ⟨hlt, cv, hcell, hcx⟩ | ⟨hlt, cv, hcell, hcx⟩
          all_goals
            go_wp2_with fail
            go_loop [4, 51] (fun v i => ∃ (j : Nat) (acc : Int), j ≤ k ∧ i = .int .i64 j ∧ v = .int .i64 acc ∧ 0 ≤ acc ∧ acc ≤ 9223372036854775807 ∧ Hid (num most (l.take k) 0 = num most ((l.take k).drop j) acc)) (fun _ i => k - (intOf i).toNat)
            case atStart => exact ⟨0, 0, Nat.zero_le _, rfl, rfl, by omega, by omega, rfl⟩
            case round =>
              obtain ⟨j, acc, hj, rfl, rfl, ha0, ha1, HNM⟩ := hrel
              by_cases hjk : j < k
              · obtain ⟨b', off', e', _, hcj⟩ := HR.out.u8At (k := j) (by omega)
                injection e' with e'
                injection e' with e1 e2 e3
                subst e1 e2
                clear e3
                have HS := Lib.hid (take_drop_cons l k j hjk (by have := HL.out; omega))
                have hdj := (dig_iff _).1 (HD.out j hjk)
                obtain ⟨cj, hcjv⟩ : ∃ cj, cj = (l.getD j 0).toNat := ⟨_, rfl⟩
                rw [← hcjv] at hcj hdj
                have HCJ := Lib.hid hcjv
                clear hcjv
                obtain ⟨hd1, hd2⟩ := hdj
                rcases (show most < (cj : Int) - 48 ∨ ((cj : Int) - 48 ≤ most ∧ (most - ((cj : Int) - 48)) / 10 < acc) ∨ ((cj : Int) - 48 ≤ most ∧ acc ≤ (most - ((cj : Int) - 48)) / 10) from by omega) with hq | ⟨hq, hq2⟩ | ⟨hq, hq2⟩
                · go_wp2_with fail
                  try rw [Exit.noGoto_ret]
                  go_ret2
                  refine RetNum.of (k := 0) (by rw [← HLL.out]; refine number_big l most k HDG.out hk0 (by have := HL.out; omega) HLD.out ?_; rw [HNM.out, HS.out, num_cons, ← HCJ.out, if_pos (.inl hq)]) rfl (HH.out.drewN q) (only_drewN (only_refl w g) q)
                · go_wp2_with fail
                  try rw [Exit.noGoto_ret]
                  go_ret2
                  refine RetNum.of (k := 0) (by rw [← HLL.out]; refine number_big l most k HDG.out hk0 (by have := HL.out; omega) HLD.out ?_; rw [HNM.out, HS.out, num_cons, ← HCJ.out, if_pos (.inr hq2)]) rfl (HH.out.drewN q) (only_drewN (only_refl w g) q)
                · go_wp2_with fail
                  go_round
                  case rel => exact ⟨j + 1, acc * 10 + ((cj : Int) - 48), by omega, by go_num, by go_num, by omega, by omega, by show num most (l.take k) 0 = _; rw [HNM.out, HS.out, num_cons, ← HCJ.out, if_neg (by omega)]⟩
                  case measure => simp [intOf]; omega
              · go_wp2_with fail
                try rw [Exit.noGoto_ret]
                go_ret2
                have e9 : (l.take k).drop j = [] := List.drop_eq_nil_of_le (by simp; omega)
                refine RetNum.of (k := k) (by rw [← HLL.out]; refine number_good l most k acc HDG.out hk0 (by have := HL.out; omega) HLD.out ?_; rw [HNM.out, e9]; rfl) rfl ((HH.out.drewN q).set (p' := p + k) (by have := HM.out; omega)) (only_setCell (only_drewN (only_refl w g) q) (.inl rfl) _)
end Go.Proofs.Ytcfkagielgnkkaa
