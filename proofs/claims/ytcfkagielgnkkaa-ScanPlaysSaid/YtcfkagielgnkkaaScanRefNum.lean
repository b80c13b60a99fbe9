/- The reference's reader: Number. -/
import Derived.Test.YtcfkagielgnkkaaScanRef
namespace Go.Proofs.Ytcfkagielgnkkaa
open Go.RowKit Pl
set_option linter.unusedVariables false
theorem digit_any (b : UInt8) (w : World) : Calls Try.prog 84 #[.int .u8 (b.toNat : Int)] w fun e w' => e = .returned (.bool (dig b)) ∧ w = w' := by
  obtain ⟨x, hx⟩ : ∃ x, x = b.toNat := ⟨_, rfl⟩
  have hd : dig b = (decide (48 ≤ x) && decide (x ≤ 57)) := by subst hx; rfl
  rw [← hx, hd]
  clear hd hx
  by_cases h1 : 48 ≤ x
  · go_enter Try.func84, Try.ntmps84
    go_wp2
    go_ret
    exact ⟨by simp [h1]; omega, rfl⟩
  · go_enter Try.func84, Try.ntmps84
    go_wp2
    go_ret
    exact ⟨by simp, rfl⟩
theorem Rx.at_ {w : World} {g b off n c p k : Nat} {bs : List UInt8} (h : Rx w g (some ⟨b, off, none⟩) n c bs p) (hk : k < n) : w.cell? ⟨b, off + k, none⟩ = some (.int .u8 ((bs.getD k 0).toNat : Int)) := by
  obtain ⟨b', off', e, _, hc⟩ := h.2.1.u8At (k := k) hk
  injection e with e
  injection e with e1 e2 e3
  subst e1 e2
  exact hc
theorem getD_drop (bs : List UInt8) (p k : Nat) : (bs.drop p).getD k 0 = bs.getD (p + k) 0 := by
  rw [List.getD_eq_getElem?_getD, List.getD_eq_getElem?_getD, List.getElem?_drop]
def RxNum (w : World) (g : Nat) (A : Option Addr) (n c : Nat) (bs : List UInt8) (p : Nat) (most : Int) (e : Ending) (w' : World) : Prop :=
  e = .returned (.tuple #[.int .i64 (number (bs.drop p) most).1, .int .i64 (number (bs.drop p) most).2.1]) ∧ Rx w' g A n c bs (p + (number (bs.drop p) most).2.2) ∧ w.grownBy w' (some g)
theorem RxNum.of {w w' : World} {g n c p : Nat} {A : Option Addr} {bs : List UInt8} {most v f : Int} {k : Nat} {e : Ending} (hr : number (bs.drop p) most = (v, f, k)) (he : e = .returned (.tuple #[.int .i64 v, .int .i64 f])) (h : Rx w' g A n c bs (p + k)) (hg : w.grownBy w' (some g)) : RxNum w g A n c bs p most e w' := by
  unfold RxNum; rw [hr]; exact ⟨he, h, hg⟩
set_option maxRecDepth 100000 in
set_option maxHeartbeats 3200000 in
theorem xnumber_any (g n c p : Nat) (A : Option Addr) (bs : List UInt8) (most : Int) (w : World) (h : Rx w g A n c bs p) (hm1 : -9223372036854775808 ≤ most) (hm2 : most ≤ 9223372036854775807) :
    Calls Try.prog 73 #[.pointer (some ⟨g, 0, none⟩), .int .i64 most] w (RxNum w g A n c bs p most) := by
  have hn := h.2.2.2
  have hpn := h.2.2.1
  have hc0 := h.c0
  have hc1 := h.c1
  have hf1 := h.f1
  have HH := Lib.hid h
  obtain ⟨m, hm⟩ : ∃ m, m = n - p := ⟨_, rfl⟩
  obtain ⟨l, hl⟩ : ∃ l, l = bs.drop p := ⟨_, rfl⟩
  have HL : Hid (l.length = m) := by have := h.len; show _ = _; rw [hl, hm, List.length_drop, this]
  have HLL := Lib.hid hl
  have HLK : Hid (∀ k, l.getD k 0 = bs.getD (p + k) 0) := fun k => by rw [hl]; exact getD_drop bs p k
  clear hl
  by_cases hp : p < n
  · obtain ⟨b, off, rfl, hb, hcell⟩ := h.2.1.u8At (k := p) hp
    clear h
    obtain ⟨c0, hcv⟩ : ∃ c0, c0 = bs.getD p 0 := ⟨_, rfl⟩
    rw [← hcv] at hcell
    have HC0 : Hid (c0 = l.getD 0 0) := by show _ = _; rw [HLK.out, hcv]; rfl
    clear hcv
    have HDG : Hid (∀ q, Calls Try.prog 84 #[.int .u8 (c0.toNat : Int)] (w.drewN q) fun e w' => e = .returned (.bool (dig c0)) ∧ w.drewN q = w') := fun q => digit_any c0 _
    by_cases hd : dig c0 = true
    · rw [hd] at HDG
      go_enter Try.func73, Try.ntmps73
      go_wp2_with fail
      go_quiet (fail)
      go_wp2_with fail
      go_quiet ((go_at_call 84; exact quiet_add_left (HDG.out _)))
      go_wp2_with fail
      have hdn : decide (n ≤ p) = false := decide_eq_false (by omega)
      rw [hdn]
      go_loopw [6] (fun i wr => ∃ k q : Nat, k ≤ m ∧ i = .int .i64 ((p : Int) + k) ∧ Digs l k ∧ wr = w.drewN q) (fun i _ => n - (intOf i).toNat)
      case atStart => exact ⟨0, _, Nat.zero_le _, by simp, fun j hj => absurd hj (by omega), rfl⟩
      case round =>
        obtain ⟨k, q, hk, rfl, hdk, rfl⟩ := hrel
        by_cases hx : k < m ∧ dig (l.getD k 0) = true
        · obtain ⟨hlt, hdx⟩ := hx
          have hck := HH.out.at_ (k := p + k) (by omega)
          rw [← HLK.out k] at hck
          have HD := Lib.hid (hdk.next hdx)
          clear hdk
          obtain ⟨cb, hcb⟩ : ∃ cb, cb = l.getD k 0 := ⟨_, rfl⟩
          rw [← hcb] at hck hdx
          clear hcb
          go_wp2_with fail
          refine (digit_any _ _).mono ?_
          rw [hdx]
          rintro e w' ⟨rfl, rfl⟩
          go_wp2_with fail
          go_roundw
          case rel => exact ⟨k + 1, q, by omega, by go_num, HD.out, rfl⟩
          case measure => simp [intOf]; omega
        · have hdg := hdk.stop (by have := HL.out; omega) (by have := HL.out; rw [this]; exact hx)
          have HDS := Lib.hid hdg
          have HD := Lib.hid hdk
          have hk0 : 0 < k := by
            rcases Nat.eq_zero_or_pos k with h0 | h0
            · subst h0; exact absurd ⟨by omega, by rw [← HC0.out]; exact hd⟩ hx
            · exact h0
          have hx' : (¬ k < m) ∨ (k < m ∧ dig (l.getD k 0) = false) := by
            rcases (show (¬ k < m) ∨ k < m from by omega) with h9 | h9
            · exact .inl h9
            · refine .inr ⟨h9, ?_⟩
              cases hq : dig (l.getD k 0) with
              | false => rfl
              | true => exact absurd ⟨h9, hq⟩ hx
          clear hdg hdk hx
          have hl3 : (((c0.toNat : Int) == 48) = false) ∨ (((c0.toNat : Int) == 48) = true ∧ ¬ 1 < k) ∨ (((c0.toNat : Int) == 48) = true ∧ 1 < k) := by
            cases hq : ((c0.toNat : Int) == 48) with
            | false => exact .inl rfl
            | true =>
              rcases (show (¬ 1 < k) ∨ 1 < k from by omega) with h9 | h9
              · exact .inr (.inl ⟨rfl, h9⟩)
              · exact .inr (.inr ⟨rfl, h9⟩)
          have HR : Hid (∀ j, j < m → w.cell? ⟨b, off + (p + j), none⟩ = some (.int .u8 ((l.getD j 0).toNat : Int))) := fun j hj => by
            have := HH.out.at_ (k := p + j) (by omega)
            rw [← HLK.out j] at this
            exact this
          rcases hl3 with h48 | ⟨h48, h1k⟩ | ⟨h48, h1k⟩
          case inr.inr =>
            have HN := Lib.hid (number_lead l most (by have := HL.out; omega) (by rw [HDS.out]; exact h1k) (by rw [← HC0.out]; apply UInt8.toNat_inj.1; simp at h48; exact Int.ofNat.inj h48))
            rcases hx' with hlt | ⟨hlt, hdx⟩
            rotate_left
            have hck := HR.out k hlt
            obtain ⟨cb, hcb⟩ : ∃ cb, cb = l.getD k 0 := ⟨_, rfl⟩
            rw [← hcb] at hck hdx
            clear hcb
            go_wp2_with fail
            refine (digit_any _ _).mono ?_
            rw [hdx]
            rintro e w' ⟨rfl, rfl⟩
            all_goals
              go_wp2_with fail
              go_quiet (fail)
              go_wp2_with fail
              go_ret2
              exact RxNum.of (k := 0) (by rw [← HLL.out]; exact HN.out) rfl (show Rx _ g _ n c bs p from HH.out) (only_drewN (only_drewN (only_refl w g) _) _)
          all_goals
            have HLD : Hid (¬ (1 < k ∧ l.getD 0 0 = 48)) := fun h => by
              have e0 := HC0.out
              rw [h.2] at e0
              subst e0
              first | (simp at h48; done) | exact absurd h.1 h1k
            rcases hx' with hlt | ⟨hlt, hdx⟩
            rotate_left
            have hck := HR.out k hlt
            obtain ⟨cb, hcb⟩ : ∃ cb, cb = l.getD k 0 := ⟨_, rfl⟩
            rw [← hcb] at hck hdx
            clear hcb
            go_wp2_with fail
            refine (digit_any _ _).mono ?_
            rw [hdx]
            rintro e w' ⟨rfl, rfl⟩
            all_goals
              go_wp2_with fail
              go_quiet (fail)
              go_wp2_with fail
              go_loop [7, 8] (fun v i => ∃ (j : Nat) (acc : Int), j ≤ k ∧ i = .int .i64 ((p : Int) + j) ∧ v = .int .i64 acc ∧ 0 ≤ acc ∧ acc ≤ 9223372036854775807 ∧ Hid (num most (l.take k) 0 = num most ((l.take k).drop j) acc)) (fun _ i => n - (intOf i).toNat)
              case atStart => exact ⟨0, 0, Nat.zero_le _, by simp, rfl, by omega, by omega, rfl⟩
              case round =>
                obtain ⟨j, acc, hj, rfl, rfl, ha0, ha1, HNM⟩ := hrel
                by_cases hjk : j < k
                · have hcj := HR.out j (by omega)
                  have HS := Lib.hid (take_drop_cons l k j hjk (by have := HL.out; omega))
                  have hdj := (dig_iff _).1 (HD.out j hjk)
                  obtain ⟨cj, hcjv⟩ : ∃ cj, cj = (l.getD j 0).toNat := ⟨_, rfl⟩
                  rw [← hcjv] at hcj hdj
                  have HCJ := Lib.hid hcjv
                  clear hcjv
                  obtain ⟨hd1, hd2⟩ := hdj
                  rcases (show most < (cj : Int) - 48 ∨ ((cj : Int) - 48 ≤ most ∧ (most - ((cj : Int) - 48)) / 10 < acc) ∨ ((cj : Int) - 48 ≤ most ∧ acc ≤ (most - ((cj : Int) - 48)) / 10) from by omega) with hq | ⟨hq, hq2⟩ | ⟨hq, hq2⟩
                  · go_wp2_with fail
                    try rw [Exit.noGoto_ret]
                    go_ret2
                    refine RxNum.of (k := 0) (by rw [← HLL.out]; refine number_big l most k HDS.out hk0 (by have := HL.out; omega) HLD.out ?_; rw [HNM.out, HS.out, num_cons, ← HCJ.out, if_pos (.inl hq)]) rfl (show Rx _ g _ n c bs p from HH.out) (only_drewN (only_refl w g) _)
                  · go_wp2_with fail
                    try rw [Exit.noGoto_ret]
                    go_ret2
                    refine RxNum.of (k := 0) (by rw [← HLL.out]; refine number_big l most k HDS.out hk0 (by have := HL.out; omega) HLD.out ?_; rw [HNM.out, HS.out, num_cons, ← HCJ.out, if_pos (.inr hq2)]) rfl (show Rx _ g _ n c bs p from HH.out) (only_drewN (only_refl w g) _)
                  · go_wp2_with fail
                    go_round
                    case rel => exact ⟨j + 1, acc * 10 + ((cj : Int) - 48), by omega, by go_num, by go_num, by omega, by omega, by show num most (l.take k) 0 = _; rw [HNM.out, HS.out, num_cons, ← HCJ.out, if_neg (by omega)]⟩
                    case measure => simp [intOf]; omega
                · go_wp2_with fail
                  try rw [Exit.noGoto_ret]
                  go_ret2
                  have e9 : (l.take k).drop j = [] := List.drop_eq_nil_of_le (by simp; omega)
                  refine RxNum.of (k := k) (by rw [← HLL.out]; refine number_good l most k acc HDS.out hk0 (by have := HL.out; omega) HLD.out ?_; rw [HNM.out, e9]; rfl) rfl ((HH.out.drewN 0).set (p' := p + k) (by omega)) (only_setCell (only_drewN (only_refl w g) _) (.inl rfl) _)
    · have hd' : dig c0 = false := by simpa using hd
      rw [hd'] at HDG
      have HN := Lib.hid (number_none l most (by have := HL.out; omega) (digs_at (k := 0) (fun j hj => absurd hj (by omega)) (Nat.zero_le _) (fun hl => by rw [← getD_get l 0 hl, ← HC0.out]; exact hd')))
      go_enter Try.func73, Try.ntmps73
      go_wp2_with fail
      go_quiet (fail)
      go_wp2_with fail
      go_quiet ((go_at_call 84; exact quiet_add_left (HDG.out _)))
      go_wp2_with fail
      go_ret2
      exact RxNum.of (k := 0) (by rw [← HLL.out]; exact HN.out) rfl (show Rx _ g _ n c bs p from HH.out) (only_drewN (only_drewN (only_refl w g) _) _)
  · clear h
    have HN := Lib.hid (number_zero l most (by have := HL.out; omega))
    go_enter Try.func73, Try.ntmps73
    go_wp2_with fail
    go_quiet (fail)
    go_wp2_with fail
    go_ret2
    exact RxNum.of (k := 0) (by rw [← HLL.out]; exact HN.out) rfl (show Rx _ g _ n c bs p from HH.out) (only_drewN (only_refl w g) _)
end Go.Proofs.Ytcfkagielgnkkaa
