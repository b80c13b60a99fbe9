/- A new heap. -/
import Derived.Test.YtcfkagielgnkkaaHeapDown
namespace Go.Proofs.Ytcfkagielgnkkaa
open Go.RowKit Pl
set_option linter.unusedVariables false
theorem info_i64 : (Try.prog.info? 2).map (fun i => (i.zero, i.size, i.bytes)) = some (some (.int .i64 0), 1, 8) := by kernel_rfl
def zeros (n : Nat) : List Int := List.replicate n 0
theorem zeros_len (n : Nat) : (zeros n).length = n := by simp [zeros]
theorem zeros_at (n i : Nat) : at_ (zeros n) i = 0 := by
  unfold at_ zeros
  rw [List.getD_eq_getElem?_getD, List.getElem?_replicate]
  split <;> rfl
theorem run_make_zeros {P : Program} (t e : TypeId) (ht : P.underlying t = some (.slice e)) (hi : (P.info? e).map (fun i => (i.zero, i.size, i.bytes)) = some (some (.int .i64 0), 1, 8))
    (n : Nat) (hn : n ≤ 1048577) (w : World) :
    (Instr.makeSlice t (.int .i64 (n : Int)) (.int .i64 (n : Int))).run P w = .ok (.slice (some ⟨w.heap.size, 0, none⟩) n n) (w.alloc (.cells (i64s (zeros n)).toArray e)) := by
  obtain ⟨i0, hi0, hz0, hz1, hz2⟩ := info_parts hi
  have hr := run_make (P := P) w t e i0 (.int .i64 0) ht hi0 hz0 .i64 .i64 n n (by omega) (Int.le_refl _) (by rw [hz2]; omega) (by omega)
  simp only [Int.toNat_natCast] at hr
  rw [hr, hz1, Nat.mul_one]
  have : madeCells (Value.int .i64 0).cells n = (i64s (zeros n)).toArray := by
    apply Array.toList_inj.1
    show (madeCells #[Value.int .i64 0] n).toList = _
    rw [toList_madeCells_one]
    simp [i64s, zeros]
  rw [this]
/-- a heap in order: its list, and the activities -/
def HS (w : World) (base V g : Nat) (ls az : List Int) : Prop :=
  ∃ gp ga lv ps, Hp w base V g gp ga lv ls ps az ∧ OK V ls ps ∧ HO az ls ∧ ∀ v : Nat, 0 ≤ at_ az v ∧ at_ az v ≤ 1125899906842624
def RetHeap (w : World) (V : Nat) (e : Ending) (w' : World) : Prop :=
  ∃ g, e = .returned (.pointer (some ⟨g, 0, none⟩)) ∧ HS w' w.heap.size V g [] (zeros (V + 1)) ∧ Below w.heap.size w w'
theorem OK_empty (V : Nat) : OK V [] (zeros (V + 1)) := ⟨zeros_len _, fun i h => absurd h (by simp), fun i h => absurd h (by simp), fun v _ _ => .inl (zeros_at _ _)⟩
theorem RetHeap.mk {w w' : World} {V g gp ga : Nat} (hV : V ≤ 1048576) (h1 : Blk w' g 98 #[.slice none 0 0, .slice (some ⟨gp, 0, none⟩) (V + 1) (V + 1), .slice (some ⟨ga, 0, none⟩) (V + 1) (V + 1)])
    (h2 : Blk w' gp 3 (i64s (zeros (V + 1))).toArray) (h3 : Blk w' ga 2 (i64s (zeros (V + 1))).toArray) (b1 : w.heap.size ≤ g) (b2 : w.heap.size ≤ gp) (b3 : w.heap.size ≤ ga) (hb : Below w.heap.size w w') :
    RetHeap w V (.returned (.pointer (some ⟨g, 0, none⟩))) w' :=
  ⟨g, rfl, ⟨gp, ga, _, zeros (V + 1), ⟨h1, World.ownsRow_nil _ _ _ _, h2, h3, by simp [Value.ownBlock], b1, b2, b3, zeros_len _, zeros_len _, hV, by simp⟩, OK_empty V, fun j _ hl => absurd hl (by simp), fun v => by rw [zeros_at]; omega⟩, hb⟩
set_option maxHeartbeats 400000 in
theorem newHeap_any (V : Nat) (w : World) (hV : V ≤ 1048576) : Calls Try.prog 41 #[.int .i64 V] w (RetHeap w V) := by
  have m1 := fun W => run_make_zeros (P := Try.prog) 34 3 Try.underlying34 info_int (V + 1) (by omega) W
  have m2 := fun W => run_make_zeros (P := Try.prog) 96 2 Try.underlying96 info_i64 (V + 1) (by omega) W
  rw [show (((V + 1 : Nat)) : Int) = (V : Int) + 1 from by omega] at m1 m2
  obtain ⟨Z, hZ⟩ : ∃ Z, Z = (i64s (zeros (V + 1))).toArray := ⟨_, rfl⟩
  rw [← hZ] at m1 m2
  have HZ := Lib.hid hZ
  clear hZ
  go_enter Try.func41, Try.ntmps41
  go_wp2
  go_region
  all_goals go_wp2
  all_goals go_ret
  · have b1 := ((Blk.new w 3 Z).alloc (.cells Z 2)).alloc (.cells #[.slice none 0 0, .slice (some ⟨w.heap.size, 0, none⟩) (V + 1) (V + 1), .slice (some ⟨w.heap.size + 1, 0, none⟩) (V + 1) (V + 1)] 98)
    have b2 := (Blk.new (w.alloc (.cells Z 3)) 2 Z).alloc (.cells #[.slice none 0 0, .slice (some ⟨w.heap.size, 0, none⟩) (V + 1) (V + 1), .slice (some ⟨w.heap.size + 1, 0, none⟩) (V + 1) (V + 1)] 98)
    have b3 := Blk.new ((w.alloc (.cells Z 3)).alloc (.cells Z 2)) 98 #[.slice none 0 0, .slice (some ⟨w.heap.size, 0, none⟩) (V + 1) (V + 1), .slice (some ⟨w.heap.size + 1, 0, none⟩) (V + 1) (V + 1)]
    rw [World.size_alloc] at b2 b3
    rw [World.size_alloc] at b3
    rw [HZ.out] at b1 b2 b3
    refine RetHeap.mk (gp := w.heap.size) (ga := w.heap.size + 1) hV ?_ ?_ ?_ (by omega) (by omega) (by omega) ?_
    · rw [HZ.out]; exact b3.drew
    · rw [HZ.out]; exact b1.drew
    · rw [HZ.out]; exact b2.drew
    · exact ((((Below.refl _ _).alloc (Nat.le_refl _) _).alloc (by simp) _).alloc (by simp; omega) _).drew
  · have b1 := ((Blk.new w 2 Z).alloc (.cells Z 3)).alloc (.cells #[.slice none 0 0, .slice (some ⟨w.heap.size + 1, 0, none⟩) (V + 1) (V + 1), .slice (some ⟨w.heap.size, 0, none⟩) (V + 1) (V + 1)] 98)
    have b2 := (Blk.new (w.alloc (.cells Z 2)) 3 Z).alloc (.cells #[.slice none 0 0, .slice (some ⟨w.heap.size + 1, 0, none⟩) (V + 1) (V + 1), .slice (some ⟨w.heap.size, 0, none⟩) (V + 1) (V + 1)] 98)
    have b3 := Blk.new ((w.alloc (.cells Z 2)).alloc (.cells Z 3)) 98 #[.slice none 0 0, .slice (some ⟨w.heap.size + 1, 0, none⟩) (V + 1) (V + 1), .slice (some ⟨w.heap.size, 0, none⟩) (V + 1) (V + 1)]
    rw [World.size_alloc] at b2 b3
    rw [World.size_alloc] at b3
    rw [HZ.out] at b1 b2 b3
    refine RetHeap.mk (gp := w.heap.size + 1) (ga := w.heap.size) hV ?_ ?_ ?_ (by omega) (by omega) (by omega) ?_
    · rw [HZ.out]; exact b3.drew
    · rw [HZ.out]; exact b2.drew
    · rw [HZ.out]; exact b1.drew
    · exact ((((Below.refl _ _).alloc (Nat.le_refl _) _).alloc (by simp) _).alloc (by simp; omega) _).drew

/-- append of one number onto a row of the call's own: where the new row lies -/
theorem wpList_append_num {P : Program} (W : World) {ops : Array Oper} {rest : List Oper} {o : Oper} {a : Act} {Q : Exit → Act → World → Prop} (hgd : o.guard = none) (s x : Operand) (t : TypeId)
    (ho : o.op = .call { callee := .builtin .append, args := #[s, x], argTypes := #[t, t] })
    (base : Nat) (e : TypeId) (ht : P.underlying t = some (.slice e)) (hi : (P.info? e).map (fun i => (i.zero, i.size, i.bytes)) = some (some (.int .i64 0), 1, 8))
    (v : Value) (n : Nat) (xs : List Value) (hs : a.eval s = v) (hown : W.ownsRow base e 1 v n xs)
    (u : Int) (hx : a.eval x = .slice (some ⟨W.heap.size, 0, none⟩) 1 1) (hn : n ≤ 1048576) (hbase : base ≤ W.heap.size)
    (h : ∀ v' w', w'.ownsRow base e 1 v' (n + 1) (xs ++ [.int .i64 u]) → W.grownBy w' v.ownBlock → Below base W w' → (v'.ownBlock = v.ownBlock ∨ v'.ownBlock = some (W.heap.size + 1)) → wpList P ops Q rest (a.put o.dst v') w') : wpList P ops Q (o :: rest) a (W.alloc (.cells #[.int .i64 u] e)) := by
  obtain ⟨i0, hi0, hz0, hz1, hz2⟩ := info_parts hi
  have hr : Reads (W.alloc (.cells #[.int .i64 u] e)) (W.heap.size + 1) 1 (some ⟨W.heap.size, 0, none⟩) 1 [.int .i64 u] := by
    have := (Blk.new W e #[.int .i64 u]).reads (xs := [.int .i64 u])
    simpa using this
  refine wpList_append_any _ hgd s x t ho base e i0 (.int .i64 0) 1 8 ht hi0 hz0 hz1 hz2 rfl (by omega) v n xs hs (hown.alloc _) _ _ 1 1 [.int .i64 u] hx hr (by intro u hu; simp at hu; subst hu; rfl) (by unfold maxLen; omega) (by omega) (by simp; omega) ?_
  intro v' w' h2 h3 h4
  have hg : W.grownBy w' v.ownBlock := ⟨h3.os, h3.tape, h3.output, Nat.le_trans (by simp) h3.size, fun i hi hne => (h3.block i (by simp; omega) hne).trans (Below.heap_alloc W _ i hi)⟩
  refine h v' w' h2 hg ?_ (by simpa using h4)
  refine ⟨hg.os, hg.tape, hg.output, hg.size, fun i hi => hg.block i (by omega) ?_⟩
  intro e
  have := (hown.lt i e.symm).1
  omega
end Go.Proofs.Ytcfkagielgnkkaa
