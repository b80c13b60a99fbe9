/- net.Literals: all literals of a netlist, in their order. -/
import Derived.Test.YtpdgjcejkmkglaaGreatNetVars
import Derived.OneCell
namespace Go.Proofs.YtpdgjcejkmkglaaGreat
open Go.RowKit Pl
set_option linter.unusedVariables false

/-- what lay below base lies as it lay, and so do boxes of other types than int, but g -/
structure PutF (base g : Nat) (w w' : World) : Prop where
  below : Below base w w'
  box : ∀ (c : Nat) (t : TypeId) (cs : Array Value), Blk w c t cs → t ≠ 3 → c ≠ g → Blk w' c t cs
theorem PutF.refl (base g : Nat) (w : World) : PutF base g w w := ⟨Below.refl _ _, fun _ _ _ h _ _ => h⟩
theorem PutF.trans {base g : Nat} {a b c : World} (h : PutF base g a b) (k : PutF base g b c) : PutF base g a c := ⟨h.below.trans k.below, fun x t cs hb ht hg => k.box x t cs (h.box x t cs hb ht hg) ht hg⟩
theorem PutF.alloc {base g : Nat} {a b : World} (h : PutF base g a b) (hb : base ≤ b.heap.size) (o : Obj) : PutF base g a (b.alloc o) := ⟨h.below.alloc hb o, fun x t cs hB ht hg => (h.box x t cs hB ht hg).alloc o⟩
/-- the slice in box g is one of ours, and holds xs -/
def Acc (w : World) (base g : Nat) (xs : List Int) : Prop := ∃ v, Blk w g 22 #[v] ∧ w.ownsRow base 3 1 v xs.length (ints xs)
theorem Acc.alloc {w : World} {base g : Nat} {xs : List Int} (h : Acc w base g xs) (o : Obj) : Acc (w.alloc o) base g xs := by
  obtain ⟨v, h1, h2⟩ := h
  exact ⟨v, h1.alloc o, h2.alloc o⟩
theorem Acc.lt {w : World} {base g : Nat} {xs : List Int} (h : Acc w base g xs) : g < w.heap.size := by obtain ⟨v, h1, h2⟩ := h; exact h1.lt

theorem one_ints (l : List Int) : ∀ u ∈ ints l, u.oneCell' = true := by
  intro u hu
  obtain ⟨x, _, rfl⟩ := List.mem_map.1 hu
  rfl
def RetPut (base g : Nat) (xs : List Int) (w : World) (e : Ending) (w' : World) : Prop := e = .returned (.tuple #[]) ∧ Acc w' base g xs ∧ PutF base g w w'
set_option maxHeartbeats 400000 in
theorem put_any (base g : Nat) (xs : List Int) (A : Option Addr) (c : Nat) (l : List Int) (w : World) (hacc : Acc w base g xs) (hS : Sl w w.heap.size 1 A l.length c (ints l)) (hlen : xs.length + l.length ≤ 1000000) (hbase : base ≤ g) :
    Calls Tryz.prog 356 #[.slice A l.length c, .pointer (some ⟨g, 0, none⟩)] w (RetPut base g (xs ++ l) w) := by
  obtain ⟨v, hb, hown⟩ := hacc
  have hc0 : w.cell? ⟨g, 0, none⟩ = some v := hb.cell 0
  have hgl := hb.lt
  have hne := own_blk_ne hown hb (by decide)
  obtain ⟨Av, cv, rfl, hv1, hv2, _⟩ := own_slice hown
  obtain ⟨i0, hi0, hz0, hz1, hz2⟩ := info_parts info_int
  have HNE := Lib.hid hne
  have HB := Lib.hid hb
  clear hne hb
  go_enter Tryz.func356, Tryz.ntmps356
  go_wp2_with (at_builtin; refine wpList_append_any _ rfl _ _ 22 rfl base 3 i0 (.int .i64 0) 1 8 Tryz.underlying22 hi0 hz0 hz1 hz2 rfl (by decide) _ _ _ rfl hown w.heap.size A l.length c (ints l) rfl hS.1 (one_ints l) (by unfold maxLen; omega) (by omega) (by omega) ?_; intro v' w1 hown' hg' hbb; obtain ⟨A1, c1, rfl, h11, h12, _⟩ := own_slice hown'; have hb1 := HB.out.grown hg' (fun e => HNE.out e.symm); have hc1 := hb1.cell 0; have hf1 := hb1.frozen 0; simp only [List.getElem?_toArray, List.getElem?_cons_zero] at hc1)
  refine bodyPost_end (results_none rfl _ _ _) rfl ?_
  have hne' : Value.ownBlock (.slice A1 (xs.length + l.length) c1) ≠ some g := own_blk_ne hown' hb1 (by decide)
  have hB1 : Below base w w1 := by
    refine ⟨hg'.os, hg'.tape, hg'.output, hg'.size, fun i hi => hg'.block i (by omega) ?_⟩
    intro e
    have := (hown.lt i e.symm).1
    omega
  refine ⟨rfl, ⟨_, hb1.set_ 0 _, ?_⟩, ⟨hB1.setCell (p := ⟨g, 0, none⟩) hbase _, fun x t cs hB ht hg => ?_⟩⟩
  · have e1 : (xs ++ l).length = xs.length + l.length := by simp
    have e2 : ints (xs ++ l) = ints xs ++ ints l := by simp [ints]
    rw [e1, e2]
    exact ownsRow_setCell_other hown' (a := ⟨g, 0, none⟩) hne' _
  · have h1 := hB.grown hg' (fun e => own_blk_ne hown hB (fun e => ht e.symm) e.symm)
    exact h1.far (p := ⟨g, 0, none⟩) hg _

/- the literals in their order, as far as they have come -/
def memLH (m : MemH) : List Int := m.reads.flatMap (·.addr) ++ m.writes.flatMap fun x => x.on :: (x.addr ++ x.data)
theorem memLH_d (m : MemH) : memL m.d = memLH m := by
  unfold memL memLH MemH.d
  rw [List.flatMap_map, List.flatMap_map]; rfl
def k1 (N : NetH) (k : Nat) : List Int := (N.latches.take k).map (·.next)
def k2 (N : NetH) (k : Nat) : List Int := N.latches.map (·.next) ++ N.outputs ++ N.bads ++ N.constraints ++ (N.mems.take k).flatMap memLH
def k3 (N : NetH) (k : Nat) (m : MemH) (j : Nat) : List Int := k2 N k ++ (m.reads.take j).flatMap (·.addr)
def k4 (N : NetH) (k : Nat) (m : MemH) (j : Nat) : List Int := k2 N k ++ m.reads.flatMap (·.addr) ++ (m.writes.take j).flatMap fun x => x.on :: (x.addr ++ x.data)
def k5 (N : NetH) (k : Nat) : List Int := N.latches.map (·.next) ++ N.outputs ++ N.bads ++ N.constraints ++ N.mems.flatMap memLH ++ (N.ands.take k).flatMap andL
theorem literalsH (N : NetH) : literalsL N.d = N.latches.map (·.next) ++ N.outputs ++ N.bads ++ N.constraints ++ N.mems.flatMap memLH ++ N.ands.flatMap andL := by
  unfold literalsL NetH.d
  simp only
  rw [List.flatMap_map]
  congr 2
  exact congrArg (fun f => N.mems.flatMap f) (funext memLH_d)
section
variable {N : NetH} {k j : Nat}
theorem k1_succ {x : LatchD} (h : N.latches[k]? = some x) : k1 N (k + 1) = k1 N k ++ [x.next] := by unfold k1; rw [take_snoc h]; simp
theorem k1_pre : k1 N k <+: literalsL N.d := by
  rw [literalsH]; simp only [List.append_assoc]
  exact (List.IsPrefix.map _ (List.take_prefix _ _)).trans (List.prefix_append _ _)
theorem k1_full (hk : N.latches.length ≤ k) : k1 N k ++ N.outputs ++ N.bads ++ N.constraints = k2 N 0 := by
  unfold k1 k2; rw [List.take_of_length_le hk]; simp
theorem k2_pre : k2 N k <+: literalsL N.d := by
  rw [literalsH]
  refine List.IsPrefix.trans ?_ (List.prefix_append _ _)
  refine pre_mono ?_
  have h := List.prefix_append ((N.mems.take k).flatMap memLH) ((N.mems.drop k).flatMap memLH)
  rwa [← List.flatMap_append, List.take_append_drop] at h
theorem k3_zero {m : MemH} : k3 N k m 0 = k2 N k := by simp [k3]
theorem k3_succ {m : MemH} {r : ReadH} (h : m.reads[j]? = some r) : k3 N k m (j + 1) = k3 N k m j ++ r.addr := by
  unfold k3; rw [flat_take_succ _ h, List.append_assoc]
theorem k3_full {m : MemH} (hj : m.reads.length ≤ j) : k3 N k m j = k4 N k m 0 := by
  unfold k3 k4; rw [List.take_of_length_le hj]; simp
theorem k4_succ {m : MemH} {r : WriteH} (h : m.writes[j]? = some r) : k4 N k m (j + 1) = k4 N k m j ++ [r.on] ++ r.addr ++ r.data := by
  unfold k4; rw [flat_take_succ _ h]; simp
theorem k2_succ {m : MemH} (h : N.mems[k]? = some m) : k2 N (k + 1) = k2 N k ++ memLH m := by
  unfold k2; rw [flat_take_succ _ h]; simp
theorem k4_full {m : MemH} (h : N.mems[k]? = some m) (hj : m.writes.length ≤ j) : k4 N k m j = k2 N (k + 1) := by
  rw [k2_succ h]; unfold k4 memLH; rw [List.take_of_length_le hj]; simp
theorem k4_pre {m : MemH} (h : N.mems[k]? = some m) : k4 N k m j <+: literalsL N.d := by
  refine List.IsPrefix.trans ?_ (k2_pre (k := k + 1))
  rw [k2_succ h]
  unfold k4 memLH
  rw [List.append_assoc]
  refine pre_mono (pre_mono ?_)
  have h := List.prefix_append ((m.writes.take j).flatMap fun x : WriteH => x.on :: (x.addr ++ x.data)) ((m.writes.drop j).flatMap fun x => x.on :: (x.addr ++ x.data))
  rwa [← List.flatMap_append, List.take_append_drop] at h
theorem k3_pre {m : MemH} (h : N.mems[k]? = some m) : k3 N k m j <+: literalsL N.d := by
  refine List.IsPrefix.trans ?_ (k4_pre (j := 0) h)
  unfold k3 k4
  have h := List.prefix_append ((m.reads.take j).flatMap (·.addr)) ((m.reads.drop j).flatMap (·.addr))
  rw [← List.flatMap_append, List.take_append_drop] at h
  simp only [List.take_zero, List.flatMap_nil, List.append_nil]
  exact pre_mono h
theorem k2_full (hk : N.mems.length ≤ k) : k2 N k = k5 N 0 := by
  unfold k2 k5; rw [List.take_of_length_le hk]; simp
theorem k5_succ {x : AndD} (h : N.ands[k]? = some x) : k5 N (k + 1) = k5 N k ++ [x.a, x.b] := by
  unfold k5; rw [flat_take_succ _ h]; simp [andL]
theorem k5_full (hk : N.ands.length ≤ k) : k5 N k = literalsL N.d := by
  rw [literalsH]; unfold k5; rw [List.take_of_length_le hk]
theorem k5_pre : k5 N k <+: literalsL N.d := by
  rw [literalsH]
  unfold k5
  refine pre_mono ?_
  have h := List.prefix_append ((N.ands.take k).flatMap andL) ((N.ands.drop k).flatMap andL)
  rwa [← List.flatMap_append, List.take_append_drop] at h
end
theorem sl_new (W : World) (l : List Int) (hl : l.length ≤ 1000) : Sl (W.alloc (.cells (ints l).toArray 3)) (W.alloc (.cells (ints l).toArray 3)).heap.size 1 (some ⟨W.heap.size, 0, none⟩) l.length l.length (ints l) := by
  have h := (Blk.new W 3 (ints l).toArray).reads
  have e : (ints l).length = l.length := by simp [ints]
  rw [e] at h
  exact ⟨h, Nat.le_refl _, by unfold maxLen; omega⟩
end Go.Proofs.YtpdgjcejkmkglaaGreat
