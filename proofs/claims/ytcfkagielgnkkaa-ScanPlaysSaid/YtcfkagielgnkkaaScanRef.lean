/- The reference's reader: Byte and Want. -/
import Derived.Test.YtcfkagielgnkkaaScanNum
import Derived.Test.YtcfkagielgnkkaaScanWant
namespace Go.Proofs.Ytcfkagielgnkkaa
open Go.RowKit Pl
set_option linter.unusedVariables false
/-- the reference's reader: its bytes are anyone's, in older blocks -/
def Rx (w : World) (g : Nat) (A : Option Addr) (n c : Nat) (bs : List UInt8) (p : Nat) : Prop :=
  Blk w g 55 #[.slice A n c, .int .i64 p] ∧ Reads w g 1 A n (u8s bs) ∧ p ≤ n ∧ n ≤ 1048576
section
variable {w w' : World} {g g' n c p p' B : Nat} {A : Option Addr} {bs : List UInt8}
theorem Rx.c0 (h : Rx w g A n c bs p) : w.cell? ⟨g, 0, none⟩ = some (.slice A n c) := by simpa using h.1.cell 0
theorem Rx.c1 (h : Rx w g A n c bs p) : w.cell? ⟨g, 1, none⟩ = some (.int .i64 p) := by simpa using h.1.cell 1
theorem Rx.f1 (h : Rx w g A n c bs p) : w.frozen? ⟨g, 1, none⟩ = false := h.1.frozen 1
theorem Rx.len (h : Rx w g A n c bs p) : bs.length = n := by have := h.2.1.1; simpa [u8s] using this
theorem Rx.drewN (h : Rx w g A n c bs p) (q : Nat) : Rx (w.drewN q) g A n c bs p := h
theorem Rx.set (h : Rx w g A n c bs p) (hp : p' ≤ n) : Rx (w.setCell ⟨g, 1, none⟩ (.int .i64 p')) g A n c bs p' := by
  refine ⟨?_, h.2.1.setCell (Nat.le_refl _) _, hp, h.2.2.2⟩
  have := h.1.set_ 1 (.int .i64 p')
  simpa using this
theorem Rx.below (h : Rx w g A n c bs p) (hb : Below B w w') (hg : g < B) : Rx w' g A n c bs p :=
  ⟨h.1.below hb hg, h.2.1.below (hb.mono (by omega)), h.2.2⟩
end
def RxByte (w : World) (g : Nat) (A : Option Addr) (n c : Nat) (bs : List UInt8) (p : Nat) (e : Ending) (w' : World) : Prop :=
  e = .returned (.tuple #[.int .u8 (if p < n then ((bs.getD p 0).toNat : Int) else 0), .int .i64 (if p < n then 0 else 12)]) ∧ Rx w' g A n c bs (if p < n then p + 1 else p) ∧ w.grownBy w' (some g)
set_option maxHeartbeats 800000 in
theorem xbyte_any (g n c p : Nat) (A : Option Addr) (bs : List UInt8) (w : World) (h : Rx w g A n c bs p) :
    Calls Try.prog 71 #[.pointer (some ⟨g, 0, none⟩)] w (RxByte w g A n c bs p) := by
  have hn := h.2.2.2
  have hc0 := h.c0
  have hc1 := h.c1
  have hf1 := h.f1
  have HH := Lib.hid h
  by_cases hp : p < n
  · obtain ⟨b, off, rfl, hb, hcell⟩ := h.2.1.u8At (k := p) hp
    clear h
    have hd0 : (w.setCell ⟨g, 1, none⟩ (.int .i64 ((p : Int) + 1))).cell? ⟨g, 0, none⟩ = some (.slice (some ⟨b, off, none⟩) n c) := by
      rw [World.cell?_setCell_other _ _ _ _ (by intro e; injection e; omega)]; exact hc0
    have hcell2 : (w.setCell ⟨g, 1, none⟩ (.int .i64 ((p : Int) + 1))).cell? ⟨b, off + p, none⟩ = some (.int .u8 ((bs.getD p 0).toNat : Int)) := by
      rw [World.cell?_setCell_other _ _ _ _ (by intro e; injection e; omega)]; exact hcell
    have hd1 : (w.setCell ⟨g, 1, none⟩ (.int .i64 ((p : Int) + 1))).cell? ⟨g, 1, none⟩ = some (.int .i64 ((p : Int) + 1)) := by
      have := (HH.out.set (p' := p + 1) (by omega)).c1
      simpa using this
    go_enter Try.func71, Try.ntmps71
    go_wp2_with fail
    go_quiet (fail)
    go_wp2_with fail
    go_quiet (fail)
    go_wp2_with fail
    go_ret2
    refine ⟨by rw [if_pos hp, if_pos hp]; rfl, ?_, ?_⟩
    · rw [if_pos hp]; exact (HH.out.drewN _).set (p' := p + 1) (by omega)
    · exact only_drewN (only_setCell (only_drewN (only_refl w g) _) (.inl rfl) _) _
  · clear h
    go_enter Try.func71, Try.ntmps71
    go_wp2_with fail
    go_quiet (fail)
    go_wp2_with fail
    go_ret2
    exact ⟨by rw [if_neg hp, if_neg hp]; rfl, by rw [if_neg hp]; exact HH.out.drewN _, only_drewN (only_refl w g) _⟩
def RxWant (w : World) (g : Nat) (A : Option Addr) (n c : Nat) (bs : List UInt8) (p : Nat) (s : List UInt8) (e : Ending) (w' : World) : Prop :=
  match want (bs.drop p) s 0 with
  | none => e = .returned (.tuple #[.int .i64 0, .int .i64 (-1)]) ∧ Rx w' g A n c bs (p + s.length) ∧ w.grownBy w' (some g)
  | some (i, f) => e = .returned (.tuple #[.int .i64 f, .int .i64 ((p : Int) + i)]) ∧ Rx w' g A n c bs p ∧ w.grownBy w' (some g)
theorem RxWant.no {w w' : World} {g n c p : Nat} {A : Option Addr} {bs s : List UInt8} {i : Nat} {f : Int} {e : Ending} (hw : want (bs.drop p) s 0 = some (i, f)) (he : e = .returned (.tuple #[.int .i64 f, .int .i64 ((p : Int) + i)])) (h : Rx w' g A n c bs p) (hg : w.grownBy w' (some g)) : RxWant w g A n c bs p s e w' := by
  unfold RxWant; rw [hw]; exact ⟨he, h, hg⟩
theorem RxWant.yes {w w' : World} {g n c p : Nat} {A : Option Addr} {bs s : List UInt8} {e : Ending} (hw : want (bs.drop p) s 0 = none) (he : e = .returned (.tuple #[.int .i64 0, .int .i64 (-1)])) (h : Rx w' g A n c bs (p + s.length)) (hg : w.grownBy w' (some g)) : RxWant w g A n c bs p s e w' := by
  unfold RxWant; rw [hw]; exact ⟨he, h, hg⟩
set_option maxHeartbeats 1600000 in
theorem xwant_any (g n c p : Nat) (A : Option Addr) (bs : List UInt8) (s : ByteArray) (w : World) (h : Rx w g A n c bs p) (hs : s.size ≤ 1048576) :
    Calls Try.prog 72 #[.pointer (some ⟨g, 0, none⟩), .string s] w (RxWant w g A n c bs p s.data.toList) := by
  have hn := h.2.2.2
  have hpn := h.2.2.1
  have hc0 := h.c0
  have hc1 := h.c1
  have hf1 := h.f1
  have HH := Lib.hid h
  have HL : Hid ((bs.drop p).length = n - p) := by have := h.len; show _ = _; rw [List.length_drop, this]
  clear h
  go_enter Try.func72, Try.ntmps72
  go_wp2_with fail
  go_loopw [6] (fun i wr => ∃ k q : Nat, k ≤ s.size ∧ i = .int .i64 k ∧ Hid (want (bs.drop p) s.data.toList 0 = want ((bs.drop p).drop k) (s.data.toList.drop k) k) ∧ wr = w.drewN q) (fun i _ => s.size - (intOf i).toNat)
  case atStart => exact ⟨0, 0, Nat.zero_le _, rfl, rfl, rfl⟩
  case round =>
    obtain ⟨k, q, hk, rfl, HW, rfl⟩ := hrel
    by_cases hlt : k < s.size
    · by_cases hkl : k < n - p
      · obtain ⟨b, off, rfl, hb, hcell⟩ := HH.out.2.1.u8At (k := p + k) (by omega)
        go_wp2_with fail
        go_quiet (fail)
        go_wp2_with fail
        go_quiet (fail)
        go_wp2_with fail
        · go_quiet (fail)
          go_wp2_with fail
          go_ret2
          exact RxWant.no (HW.out.trans (want_bad _ _ k (by simpa using hlt) (by have := HL.out; omega) (want_ne bs s p k hlt (by have := HL.out; omega) (by assumption)))) rfl (show Rx _ g _ n c bs p from HH.out) (only_drewN (only_drewN (only_drewN (only_drewN (only_refl w g) _) _) _) _)
        · go_roundw
          case rel => exact ⟨k + 1, _, by omega, by go_num, HW.out.trans (want_next _ _ k (by simpa using hlt) (by have := HL.out; omega) (want_eq bs s p k hlt (by have := HL.out; omega) (by assumption))), rfl⟩
          case measure => simp [intOf]; omega
      · go_wp2_with fail
        go_quiet (fail)
        go_wp2_with fail
        go_quiet (fail)
        go_wp2_with fail
        go_ret2
        refine RxWant.no (HW.out.trans (want_end _ _ k (by simpa using hlt) (by have := HL.out; omega))) rfl (show Rx _ g _ n c bs p from HH.out) (only_drewN (only_drewN (only_drewN (only_refl w g) _) _) _)
    · go_wp2_with fail
      go_ret2
      have hw := HW.out.trans (want_done _ _ k (by simp; omega))
      have hle := want_none_le _ _ _ hw
      rw [HL.out] at hle
      have e1 : s.data.toList.length = s.size := by simp
      refine RxWant.yes hw rfl ?_ (only_setCell (only_drewN (only_refl w g) q) (.inl rfl) _)
      rw [e1] at hle ⊢
      exact (HH.out.drewN q).set (p' := p + s.size) (by omega)
end Go.Proofs.Ytcfkagielgnkkaa
