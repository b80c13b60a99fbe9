/- Frames by types of blocks; the trail grows. -/
import Derived.Test.YtghmfggmimoinaaGreatSgB
import Derived.Deep.RegionLaw
namespace Go.Proofs.YtghmfggmimoinaaGreat
open Go Go.RowKit
structure Frm (ts : List TypeId) (B : Nat) (w w' : World) : Prop where
 below : Below B w w'
 box : ∀ (c : Nat) (t : TypeId) (cs : Array Value), Blk w c t cs → t ∉ ts → Blk w' c t cs
section
variable {ts ts' : List TypeId} {B : Nat} {a b c : World}
theorem Frm.refl (ts : List TypeId) (B : Nat) (w : World) : Frm ts B w w := ⟨Below.refl _ _, fun _ _ _ h _ => h⟩
theorem Frm.trans (h : Frm ts B a b) (k : Frm ts B b c) : Frm ts B a c := ⟨h.below.trans k.below, fun x t cs hb ht => k.box x t cs (h.box x t cs hb ht) ht⟩
theorem Frm.mono (h : Frm ts B a b) (hs : ∀ t ∈ ts, t ∈ ts') : Frm ts' B a b := ⟨h.below, fun x t cs hb ht => h.box x t cs hb fun q => ht (hs t q)⟩
theorem Frm.alloc (h : Frm ts B a b) (hb : B ≤ b.heap.size) (o : Obj) : Frm ts B a (b.alloc o) := ⟨h.below.alloc hb o, fun x t cs hB ht => (h.box x t cs hB ht).alloc o⟩
theorem Frm.drewN (h : Frm ts B a b) (n : Nat) : Frm ts B a (b.drewN n) := ⟨below_drewN h.below n, fun x t cs hB ht => (h.box x t cs hB ht).drewN n⟩
theorem Frm.drew (h : Frm ts B a b) : Frm ts B a b.drew := ⟨h.below.drew, fun x t cs hB ht => (h.box x t cs hB ht).drew⟩
theorem Frm.size (h : Frm ts B a b) : a.heap.size ≤ b.heap.size := h.below.size
theorem Frm.app {e : TypeId} {size n : Nat} {v : Value} {xs : List Value} (h : Frm ts B a b) (own : b.ownsRow B e size v n xs) (hb : B ≤ b.heap.size) (g : b.grownBy c v.ownBlock) (he : e ∈ ts) : Frm ts B a c :=
 h.trans ⟨⟨g.os, g.tape, g.output, g.size, fun i hi => g.block i (by omega) fun e => by have := (own.lt i e.symm).1; omega⟩,
  fun x t cs hB ht => hB.grown g fun e => Zpj own hB (fun e => ht (e ▸ he)) e.symm⟩
theorem Frm.low (h : Below b.heap.size b c) (hb : B ≤ b.heap.size) : Frm ts B b c := ⟨h.mono hb, fun x t cs hB ht => hB.below h hB.lt⟩
theorem Frm.set_ (h : Frm ts B a b) {g : Nat} {t : TypeId} {cs : Array Value} (hg : Blk b g t cs) (ht : t ∈ ts) (hB : B ≤ g) (i : Nat) (u : Value) : Frm ts B a (b.setCell ⟨g, i, none⟩ u) :=
 ⟨h.below.setCell hB u, fun x t' cs' hb ht' => (h.box x t' cs' hb ht').far (p := ⟨g, i, none⟩) (fun e => by
  subst e
  have h1 := h.box _ t' cs' hb ht'
  unfold Blk at h1 hg
  rw [hg] at h1
  injection h1 with h1
  injection h1 with _ h1
  exact ht' (h1 ▸ ht)) u⟩
end
theorem own_frm {ts : List TypeId} {B base : Nat} {w w' : World} {e : TypeId} {size n : Nat} {v : Value} {xs : List Value} (h : w.ownsRow base e size v n xs) (hf : Frm ts B w w') (he : e ∉ ts) : w'.ownsRow base e size v n xs := by
 refine ⟨h.1, ?_⟩
 rcases h.2 with hn | ⟨g, cap, cur, rfl, hb, hgg, rest⟩
 ·exact .inl hn
 ·exact .inr ⟨g, cap, cur, rfl, hb, hf.box g e cur hgg he, rest⟩
theorem own_setB {w : World} {base : Nat} {e : TypeId} {size n : Nat} {v : Value} {xs : List Value} {g : Nat} {t : TypeId} {cs : Array Value} (h : w.ownsRow base e size v n xs) (hg : Blk w g t cs) (hne : e ≠ t) (i : Nat) (u : Value) :
  (w.setCell ⟨g, i, none⟩ u).ownsRow base e size v n xs :=
 h.kept (only_setCell (only_refl w g) (p := ⟨g, i, none⟩) (.inl rfl) u) (.inr (Zpj h hg hne))
theorem Trl.frm {ts : List TypeId} {B B' g V : Nat} {w w' : World} {mv : Value} (h : Trl w B g V mv) (hf : Frm ts B' w w') (h1 : 63 ∉ ts) (h2 : 92 ∉ ts) : Trl w' B g V mv :=
 ⟨hf.box _ _ _ h.bx h1, own_frm h.row hf h2, h.le, h.hv⟩
theorem Trl.drewN {B g V : Nat} {w : World} {mv : Value} (h : Trl w B g V mv) (n : Nat) : Trl (w.drewN n) B g V mv := ⟨h.bx.drewN n, h.row, h.le, h.hv⟩
theorem trGrow_any {w : World} {B g V : Nat} {mv : Value} (n : Int) (h : Trl w B g V mv) (hB : B ≤ w.heap.size) (hn : n ≤ 65536) :
  Calls Tryz.prog 17 #[.pointer (some ⟨g, 0, none⟩), .int .i64 n] w fun e w' => e = .returned (.tuple #[]) ∧ ∃ mv', Trl w' B g (max V n.toNat) mv' ∧ Frm [63, 92] B w w' := by
 obtain ⟨b, c, rfl, hb, hc, hrow⟩ := h.form
 have hV := h.hv
 have c1 := h.bx.cell 1
 by_cases hs : n < (V : Int) + 1
 ·have HT := Lib.hid h
  clear h hrow
  go_enter Tryz.func17, Tryz.ntmps17
  go_wp2
  refine bodyPost_ret (results_none rfl _ _ _) rfl ?_
  rw [show max V n.toNat = V by omega]
  exact ⟨rfl, _, HT.out, Frm.refl _ _ _⟩
 ·obtain ⟨m, rfl⟩ := Int.eq_ofNat_of_zero_le (show 0 ≤ n by omega)
  have hm : V + 1 ≤ m := by omega
  rw [show max V (m : Int).toNat = m by omega]
  have HT := Lib.hid h
  have HR := Lib.hid hrow
  have HB := Lib.hid hB
  have hq : IntKind.i64.wrap (IntKind.i64.wrap ((m : Int) + 1) - ((V : Int) + 1)) = ((m - V : Nat) : Int) := by
   rw [IntWalk.i64_in ((m : Int) + 1) ⟨by omega, by omega⟩, IntWalk.i64_in _ ⟨by omega, by omega⟩]; omega
  have HQ := Lib.hid hq
  clear h hrow hB hq
  go_enter Tryz.func17, Tryz.ntmps17
  go_wp2
  go_region_law ((refine step_append_zeros _ rfl _ _ 61 3 rfl B 92 mz 3 24 .i64 Tryz.underlying61 Tryz.underlying3 info_mark rfl (by omega) mz_one (.slice (some ⟨b, 0, none⟩) (V + 1) c) (V + 1) _ rfl HR.out (m - V) _ rfl HQ.out (by unfold maxLen; omega) (by omega) HB.out ?_; intro v1 w1 hown1 hg1 hb1; have hx := HT.out.bx.drew.grown hg1 (fun e => Zpj HR.out HT.out.bx (by decide) e.symm); have d1 := hx.cell 1; have f1 := hx.frozen 1; obtain ⟨A', c', rfl, _, _, _⟩ := Zrg hown1; have HX := Lib.hid hx; have HO := Lib.hid hown1; have HG := Lib.hid hg1; clear hx hown1 hg1))
  all_goals (
   have hO := HO.out
   have e1 : V + 1 + (m - V) = m + 1 := by omega
   rw [zc_add _ _ _ (by decide), e1] at hO
   rw [e1]
   refine ⟨rfl, .tuple #[], results_none rfl _ _ _, rfl, _, ⟨HX.out.set_ 1 _, own_setB hO HX.out (by decide) 1 _, HT.out.le, by omega⟩, ((Frm.refl _ B w).drew.app HR.out.drew HB.out HG.out (by simp)).set_ HX.out (by simp) HT.out.le 1 _⟩)
end Go.Proofs.YtghmfggmimoinaaGreat
