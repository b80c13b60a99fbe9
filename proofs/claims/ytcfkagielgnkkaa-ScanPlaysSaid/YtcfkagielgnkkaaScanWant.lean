/- The scanner's Want. -/
import Derived.Test.YtcfkagielgnkkaaScanWalk
namespace Go.Proofs.Ytcfkagielgnkkaa
open Go.RowKit Pl
set_option linter.unusedVariables false
/-- Want: what it hands back, and the reader behind it -/
def RetWant (w : World) (g : Nat) (A : Option Addr) (n c : Nat) (bs : List UInt8) (p : Nat) (s : List UInt8) (e : Ending) (w' : World) : Prop :=
  match want (bs.drop p) s 0 with
  | none => e = .returned (.tuple #[.int .i64 (-1), .int .i64 0]) ∧ Rd w' g A n c bs (p + s.length) ∧ w.grownBy w' (some g)
  | some (i, f) => e = .returned (.tuple #[.int .i64 ((p : Int) + i), .int .i64 f]) ∧ Rd w' g A n c bs p ∧ w.grownBy w' (some g)
theorem RetWant.no {w w' : World} {g n c p : Nat} {A : Option Addr} {bs s : List UInt8} {i : Nat} {f : Int} {e : Ending} (hw : want (bs.drop p) s 0 = some (i, f)) (he : e = .returned (.tuple #[.int .i64 ((p : Int) + i), .int .i64 f])) (h : Rd w' g A n c bs p) (hg : w.grownBy w' (some g)) : RetWant w g A n c bs p s e w' := by
  unfold RetWant; rw [hw]; exact ⟨he, h, hg⟩
theorem RetWant.yes {w w' : World} {g n c p : Nat} {A : Option Addr} {bs s : List UInt8} {e : Ending} (hw : want (bs.drop p) s 0 = none) (he : e = .returned (.tuple #[.int .i64 (-1), .int .i64 0])) (h : Rd w' g A n c bs (p + s.length)) (hg : w.grownBy w' (some g)) : RetWant w g A n c bs p s e w' := by
  unfold RetWant; rw [hw]; exact ⟨he, h, hg⟩
theorem getD_get (l : List UInt8) (k : Nat) (h : k < l.length) : l.getD k 0 = l[k] := by rw [List.getD_eq_getElem?_getD, List.getElem?_eq_getElem h]; rfl
theorem drop_get (bs : List UInt8) (p k : Nat) (h2 : k < (bs.drop p).length) : (bs.drop p)[k] = bs[p + k]?.getD 0 := by
  rw [List.getElem_drop, List.getElem?_eq_getElem (by simp at h2; omega)]; rfl
theorem want_ne (bs : List UInt8) (s : ByteArray) (p k : Nat) (h1 : k < s.size) (h2 : k < (bs.drop p).length) (h : (((bs[p + k]?.getD 0).toNat : Int) != (s[k].toNat : Int)) = true) : (bs.drop p)[k] ≠ s.data.toList[k]'(by simpa using h1) := by
  intro e
  rw [drop_get] at e
  rw [e] at h
  have : s.data.toList[k]'(by simpa using h1) = s[k] := rfl
  rw [this] at h
  simp at h
theorem want_eq (bs : List UInt8) (s : ByteArray) (p k : Nat) (h1 : k < s.size) (h2 : k < (bs.drop p).length) (h : (((bs[p + k]?.getD 0).toNat : Int) != (s[k].toNat : Int)) = false) : (bs.drop p)[k] = s.data.toList[k]'(by simpa using h1) := by
  rw [drop_get]
  have : s.data.toList[k]'(by simpa using h1) = s[k] := rfl
  rw [this]
  simp at h
  apply UInt8.toNat_inj.1
  omega
set_option maxHeartbeats 800000 in
theorem want_any (g n c p : Nat) (A : Option Addr) (bs : List UInt8) (s : ByteArray) (w : World) (h : Rd w g A n c bs p) (hs : s.size ≤ 1048576) :
    Calls Try.prog 34 #[.pointer (some ⟨g, 0, none⟩), .string s] w (RetWant w g A n c bs p s.data.toList) := by
  have hn := h.2.2.2.2.2.1
  have hpn := h.2.2.1
  have hc1 := h.c1
  have hf1 := h.f1
  have HH := Lib.hid h
  clear h
  go_enter Try.func34, Try.ntmps34
  go_wp2_with fail
  refine (left_any g n c p A bs _ HH.out).mono ?_
  rintro e w1 ⟨A1, c1, q, rfl, h1, h2, h3, h4, rfl⟩
  have hl1 : (bs.drop p).length = n - p := by have := h4.1; simpa [u8s] using this
  have HL := Lib.hid hl1
  clear hl1
  go_wp2_with fail
  go_loopw [12] (fun i wr => ∃ k q : Nat, k ≤ s.size ∧ i = .int .i64 k ∧ Hid (want (bs.drop p) s.data.toList 0 = want ((bs.drop p).drop k) (s.data.toList.drop k) k) ∧ wr = w.drewN q) (fun i _ => s.size - (intOf i).toNat)
  case atStart => exact ⟨0, q, Nat.zero_le _, rfl, rfl, rfl⟩
  case round =>
    obtain ⟨k, q, hk, rfl, HW, rfl⟩ := hrel
    by_cases hlt : k < s.size
    · by_cases hkl : k < n - p
      · obtain ⟨b, off, rfl, hb, hcell⟩ := h4.u8At (k := k) (by omega)
        clear h4 h3
        go_wp2_with fail
        go_quiet (fail)
        go_wp2_with fail
        · refine (at_any g n c p _ bs _ (HH.out.drewN (q + nq))).mono ?_
          rintro e w1 ⟨rfl, rfl⟩
          go_wp2_with fail
          go_ret2
          exact RetWant.no (HW.out.trans (want_bad _ _ k (by simpa using hlt) (by have := HL.out; omega) (want_ne bs s p k hlt (by have := HL.out; omega) (by assumption)))) rfl (HH.out.drewN (q + nq)) (only_drewN (only_refl w g) (q + nq))
        · go_roundw
          case rel => exact ⟨k + 1, q + nq, by omega, by go_num, HW.out.trans (want_next _ _ k (by simpa using hlt) (by have := HL.out; omega) (want_eq bs s p k hlt (by have := HL.out; omega) (by assumption))), rfl⟩
          case measure => simp [intOf]; omega
      · clear h4 h3
        go_wp2_with fail
        refine (at_any g n c p A bs _ (HH.out.drewN q)).mono ?_
        rintro e w1 ⟨rfl, rfl⟩
        go_wp2_with fail
        go_ret2
        refine RetWant.no (HW.out.trans (want_end _ _ k (by simpa using hlt) (by have := HL.out; omega))) rfl (HH.out.drewN q) (only_drewN (only_refl w g) q)
    · clear h4 h3
      go_wp2_with fail
      go_ret2
      have hw := HW.out.trans (want_done _ _ k (by simp; omega))
      have hle := want_none_le _ _ _ hw
      rw [HL.out] at hle
      have e1 : s.data.toList.length = s.size := by simp
      refine RetWant.yes hw rfl ?_ (only_setCell (only_drewN (only_refl w g) q) (.inl rfl) _)
      rw [e1] at hle ⊢
      exact (HH.out.drewN q).set (p' := p + s.size) (by omega)
theorem wantNil_any (s : ByteArray) (w : World) (h0 : 0 < s.size) (hs : s.size ≤ 1048576) :
    Calls Try.prog 34 #[.pointer none, .string s] w fun e w' => e = .returned (.tuple #[.int .i64 0, .int .i64 12]) ∧ w = w' := by
  go_enter Try.func34, Try.ntmps34
  go_wp2_with fail
  refine (leftNil_any _).mono ?_
  rintro e w1 ⟨rfl, rfl⟩
  go_wp2_with fail
  refine wp_loop_rounds 1 ?_
  rw [rounds_succ]
  go_wp2_with fail
  refine (atNil_any _).mono ?_
  rintro e w1 ⟨rfl, rfl⟩
  go_wp2_with fail
  go_ret2
  exact ⟨rfl, rfl⟩
end Go.Proofs.Ytcfkagielgnkkaa
