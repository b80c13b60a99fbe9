/- net.defines: what is wrong with definitions. -/
import Derived.Test.YtpdgjcejkmkglaaGreatNetVars
namespace Go.Proofs.YtpdgjcejkmkglaaGreat
open Go.RowKit Go.Shelf Pl
set_option linter.unusedVariables false
attribute [local go_sem] Oper.semAt_some

/-- definitions that are right so far -/
def Fine (V : Nat) (pre : List Int) : Prop := pre.Nodup ∧ ∀ x ∈ pre, 1 ≤ x ∧ x ≤ (V : Int)
theorem Fine.snoc {V : Nat} {pre : List Int} {x : Int} (h : Fine V pre) (h1 : 1 ≤ x) (h2 : x ≤ V) (h3 : pre.contains x = false) : Fine V (pre ++ [x]) := by
  refine ⟨?_, fun y hy => ?_⟩
  · rw [List.nodup_append]
    refine ⟨h.1, by simp, fun a ha b hb => ?_⟩
    simp at hb
    subst hb
    rintro rfl
    rw [List.contains_eq_mem] at h3
    simp at h3
    exact h3 ha
  · rcases List.mem_append.1 hy with hy | hy
    · exact h.2 y hy
    · simp at hy; subst hy; exact ⟨h1, h2⟩
theorem dup_fine {V : Nat} : ∀ (l pre : List Int), Fine V (pre ++ l) → dup V pre l = if ((pre ++ l).length : Int) < V then 7 else 0
  | [], pre, _ => by simp [dup]
  | x :: l, pre, h => by
    have hx := h.2 x (by simp)
    have hn : pre.contains x = false := by
      rw [List.contains_eq_mem]
      simp
      intro hm
      have := h.1
      rw [List.nodup_append] at this
      exact this.2.2 x hm x (by simp) rfl
    rw [dup, if_neg (by omega), if_neg (by rw [hn]; simp), dup_fine l (pre ++ [x]) (by simpa using h)]
    simp
theorem dup_bad {V : Nat} {x : Int} {rest : List Int} : ∀ (l pre : List Int), Fine V (pre ++ l) → dup V pre (l ++ x :: rest) = dup V (pre ++ l) (x :: rest)
  | [], pre, _ => by simp
  | y :: l, pre, h => by
    have hx := h.2 y (by simp)
    have hn : pre.contains y = false := by
      rw [List.contains_eq_mem]
      simp
      intro hm
      have := h.1
      rw [List.nodup_append] at this
      exact this.2.2 y hm y (by simp) rfl
    show dup V pre (y :: (l ++ x :: rest)) = _
    rw [dup, if_neg (by omega), if_neg (by rw [hn]; simp), dup_bad l (pre ++ [y]) (by simpa using h)]
    simp
/-- what a bad one says -/
def badOf (V : Nat) (pre : List Int) (x : Int) : Option Int := if x < 1 ∨ (V : Int) < x then some 5 else if pre.contains x then some 6 else none
theorem dup_pre {V : Nat} {D pre : List Int} {x r : Int} (h : Fine V pre) (hp : pre ++ [x] <+: D) (hb : badOf V pre x = some r) : dup V [] D = r := by
  obtain ⟨rest, rfl⟩ := hp
  rw [List.append_assoc, List.singleton_append, dup_bad pre [] (by simpa using h), List.nil_append, dup]
  unfold badOf at hb
  split
  · rename_i h1; rw [if_pos h1] at hb; injection hb
  · rename_i h1
    rw [if_neg h1] at hb
    split
    · rename_i h2; rw [if_pos h2] at hb; injection hb
    · rename_i h2; rw [if_neg h2] at hb; cases hb

theorem blk_own {β : Type} {B g : Nat} {t : TypeId} (cs : β → Array Value) : OwnFrom B (fun (s : β) W => Blk W g t (cs s)) := fun s W W' row hs hg hr =>
  hs.grown hg (fun e => by
    obtain ⟨_, o, ho, hc⟩ := hr g e.symm
    have hs' : W.heap[g]? = some (.cells (cs s) t (0, 0)) := hs
    rw [ho] at hs'
    injection hs' with hs'
    subst hs'
    cases hc)
theorem own_pure {β : Type} {B : Nat} (p : β → Prop) : OwnFrom B (fun (s : β) (_ : World) => p s) := fun _ _ _ _ hs _ _ => hs
theorem madeCells_seen (V : Nat) : madeCells #[Value.bool false] (V + 1) = ((seenL V []).map Value.bool).toArray := by
  apply Array.toList_inj.1
  rw [toList_madeCells_one, seenL_nil]
  simp
theorem seen_set_arr {V v : Nat} {pre : List Int} (h : v ≤ V) : (((seenL V pre).map Value.bool).toArray).setIfInBounds v (.bool true) = ((seenL V (pre ++ [(v : Int)])).map Value.bool).toArray := by
  rw [← seenL_set h, List.setIfInBounds_toArray, List.map_set]
theorem seen_cell {V v : Nat} {pre : List Int} (h : v ≤ V) : (((seenL V pre).map Value.bool).toArray)[v]? = some (.bool (pre.contains (v : Int))) := by
  simp only [List.getElem?_toArray, List.getElem?_map, seenL_at h]; rfl

set_option maxRecDepth 100000 in
set_option maxHeartbeats 4000000 in
theorem defines_any (N : NetH) (V : Nat) (w : World) (hV : N.vars = (V : Int)) (hV2 : V ≤ 2000) (hok : N.okIn w w.heap.size) (ft : Fit N.d) (hD : (definedL N.d).length ≤ 1000000) :
    Calls Tryz.prog 291 #[N.v] w fun e w' => e = .returned (.int .i64 (dup V [] (definedL N.d))) ∧ Below w.heap.size w w' := by
  have HV := Lib.hid hV
  have HF := Lib.hid ft
  have HOK := Lib.hid hok
  clear ft hok
  unfold NetH.v NetH.fs
  rw [hV]
  clear hV
  obtain ⟨i0, hi0, hz0, hz1, hz2⟩ := info_parts info_bool
  have hb : (i0.bytes : Int) * ((V : Int) + 1) ≤ 281474976710656 := by rw [hz2]; omega
  have hmk := fun w : World => run_make (P := Tryz.prog) w 25 4 i0 (.bool false) Tryz.underlying25 hi0 hz0 .i64 .i64 ((V : Int) + 1) ((V : Int) + 1) (by omega) (Int.le_refl _) hb (by omega)
  clear hi0 hz0 hz2 hb
  have hv : ∀ n w, CallsIn Fence.wide n Tryz.prog 355 #[.agg #[.int .i64 V, .slice N.Ai N.inputs.length N.ci, .slice N.Al N.latches.length N.cl, .slice N.Ao N.outputs.length N.co, .slice N.Ab N.bads.length N.cb, .slice N.Ac N.constraints.length N.cc, .slice N.Am N.mems.length N.cm, .slice N.An N.ands.length N.cn]] w fun e w' => e = .returned (.func (.func 389) #[] #[.pointer (some ⟨w.heap.size, 0, none⟩)]) ∧ w' = w.alloc (.cells #[.int .i64 V, .slice N.Ai N.inputs.length N.ci, .slice N.Al N.latches.length N.cl, .slice N.Ao N.outputs.length N.co, .slice N.Ab N.bads.length N.cb, .slice N.Ac N.constraints.length N.cc, .slice N.Am N.mems.length N.cm, .slice N.An N.ands.length N.cn] 60) := fun n w => by
    have := vars_in Fence.wide n trivial rfl N w
    unfold NetH.v NetH.fs at this
    rw [HV.out] at this
    exact this
  have HVI := Lib.hid hv
  clear hv
  refine (callsIn_wide (n := 3)).1 ?_
  refine callsIn_of_wp_marks Tryz.func291 rfl trivial ?_ rfl
  simp only [Tryz.ntmps291, List.size_toArray, List.length_cons, List.length_nil, Nat.reduceAdd, Nat.reduceSub, Array.replicate_succ, Array.replicate_zero, List.push_toArray, List.append_toArray, List.nil_append, List.cons_append]
  have hvf : Fence.wide.fn 355 := trivial
  gi_wp2_with (gi_at_call 355; refine (HVI.out _ _).mono ?_; rintro e w' ⟨rfl, rfl⟩)
  have hw0 : Below w.heap.size w (((((w.alloc (.cells #[.int .i64 V, .slice N.Ai N.inputs.length N.ci, .slice N.Al N.latches.length N.cl, .slice N.Ao N.outputs.length N.co, .slice N.Ab N.bads.length N.cb, .slice N.Ac N.constraints.length N.cc, .slice N.Am N.mems.length N.cm, .slice N.An N.ands.length N.cn] 60)).alloc (.cells #[.int .i64 0] 29)).alloc (.cells (madeCells #[Value.bool false] (V + 1)) 4)).alloc (.cells #[.slice (some ⟨w.heap.size + 1 + 1, 0, none⟩) (V + 1) (V + 1)] 25)).alloc (.cells #[.int .i64 V] 3)) :=
    (((((Below.refl _ w).alloc (Nat.le_refl _) _).alloc (by simp) _).alloc (by simp; omega) _).alloc (by simp; omega) _).alloc (by simp; omega) _
  have hw1 := hw0.alloc (by simp; omega) (.cells #[.int .i64 V, .slice N.Ai N.inputs.length N.ci, .slice N.Al N.latches.length N.cl, .slice N.Ao N.outputs.length N.co, .slice N.Ab N.bads.length N.cb, .slice N.Ac N.constraints.length N.cc, .slice N.Am N.mems.length N.cm, .slice N.An N.ands.length N.cn] 60)
  have b0 := ((((Blk.new w 60 #[.int .i64 V, .slice N.Ai N.inputs.length N.ci, .slice N.Al N.latches.length N.cl, .slice N.Ao N.outputs.length N.co, .slice N.Ab N.bads.length N.cb, .slice N.Ac N.constraints.length N.cc, .slice N.Am N.mems.length N.cm, .slice N.An N.ands.length N.cn]).alloc (.cells #[.int .i64 0] 29)).alloc (.cells (madeCells #[Value.bool false] (V + 1)) 4)).alloc (.cells #[.slice (some ⟨w.heap.size + 1 + 1, 0, none⟩) (V + 1) (V + 1)] 25)).alloc (.cells #[.int .i64 V] 3) |>.alloc (.cells #[.int .i64 V, .slice N.Ai N.inputs.length N.ci, .slice N.Al N.latches.length N.cl, .slice N.Ao N.outputs.length N.co, .slice N.Ab N.bads.length N.cb, .slice N.Ac N.constraints.length N.cc, .slice N.Am N.mems.length N.cm, .slice N.An N.ands.length N.cn] 60)
  have b1 := (((Blk.new (w.alloc (.cells #[.int .i64 V, .slice N.Ai N.inputs.length N.ci, .slice N.Al N.latches.length N.cl, .slice N.Ao N.outputs.length N.co, .slice N.Ab N.bads.length N.cb, .slice N.Ac N.constraints.length N.cc, .slice N.Am N.mems.length N.cm, .slice N.An N.ands.length N.cn] 60)) 29 #[.int .i64 0]).alloc (.cells (madeCells #[Value.bool false] (V + 1)) 4)).alloc (.cells #[.slice (some ⟨w.heap.size + 1 + 1, 0, none⟩) (V + 1) (V + 1)] 25)).alloc (.cells #[.int .i64 V] 3) |>.alloc (.cells #[.int .i64 V, .slice N.Ai N.inputs.length N.ci, .slice N.Al N.latches.length N.cl, .slice N.Ao N.outputs.length N.co, .slice N.Ab N.bads.length N.cb, .slice N.Ac N.constraints.length N.cc, .slice N.Am N.mems.length N.cm, .slice N.An N.ands.length N.cn] 60)
  have b2 := ((Blk.new ((w.alloc (.cells #[.int .i64 V, .slice N.Ai N.inputs.length N.ci, .slice N.Al N.latches.length N.cl, .slice N.Ao N.outputs.length N.co, .slice N.Ab N.bads.length N.cb, .slice N.Ac N.constraints.length N.cc, .slice N.Am N.mems.length N.cm, .slice N.An N.ands.length N.cn] 60)).alloc (.cells #[.int .i64 0] 29)) 4 (madeCells #[Value.bool false] (V + 1))).alloc (.cells #[.slice (some ⟨w.heap.size + 1 + 1, 0, none⟩) (V + 1) (V + 1)] 25)).alloc (.cells #[.int .i64 V] 3) |>.alloc (.cells #[.int .i64 V, .slice N.Ai N.inputs.length N.ci, .slice N.Al N.latches.length N.cl, .slice N.Ao N.outputs.length N.co, .slice N.Ab N.bads.length N.cb, .slice N.Ac N.constraints.length N.cc, .slice N.Am N.mems.length N.cm, .slice N.An N.ands.length N.cn] 60)
  have b3 := (Blk.new (((w.alloc (.cells #[.int .i64 V, .slice N.Ai N.inputs.length N.ci, .slice N.Al N.latches.length N.cl, .slice N.Ao N.outputs.length N.co, .slice N.Ab N.bads.length N.cb, .slice N.Ac N.constraints.length N.cc, .slice N.Am N.mems.length N.cm, .slice N.An N.ands.length N.cn] 60)).alloc (.cells #[.int .i64 0] 29)).alloc (.cells (madeCells #[Value.bool false] (V + 1)) 4)) 25 #[.slice (some ⟨w.heap.size + 1 + 1, 0, none⟩) (V + 1) (V + 1)]).alloc (.cells #[.int .i64 V] 3) |>.alloc (.cells #[.int .i64 V, .slice N.Ai N.inputs.length N.ci, .slice N.Al N.latches.length N.cl, .slice N.Ao N.outputs.length N.co, .slice N.Ab N.bads.length N.cb, .slice N.Ac N.constraints.length N.cc, .slice N.Am N.mems.length N.cm, .slice N.An N.ands.length N.cn] 60)
  have b4 := (Blk.new ((((w.alloc (.cells #[.int .i64 V, .slice N.Ai N.inputs.length N.ci, .slice N.Al N.latches.length N.cl, .slice N.Ao N.outputs.length N.co, .slice N.Ab N.bads.length N.cb, .slice N.Ac N.constraints.length N.cc, .slice N.Am N.mems.length N.cm, .slice N.An N.ands.length N.cn] 60)).alloc (.cells #[.int .i64 0] 29)).alloc (.cells (madeCells #[Value.bool false] (V + 1)) 4)).alloc (.cells #[.slice (some ⟨w.heap.size + 1 + 1, 0, none⟩) (V + 1) (V + 1)] 25)) 3 #[.int .i64 V]).alloc (.cells #[.int .i64 V, .slice N.Ai N.inputs.length N.ci, .slice N.Al N.latches.length N.cl, .slice N.Ao N.outputs.length N.co, .slice N.Ab N.bads.length N.cb, .slice N.Ac N.constraints.length N.cc, .slice N.Am N.mems.length N.cm, .slice N.An N.ands.length N.cn] 60)
  have b5 := Blk.new (((((w.alloc (.cells #[.int .i64 V, .slice N.Ai N.inputs.length N.ci, .slice N.Al N.latches.length N.cl, .slice N.Ao N.outputs.length N.co, .slice N.Ab N.bads.length N.cb, .slice N.Ac N.constraints.length N.cc, .slice N.Am N.mems.length N.cm, .slice N.An N.ands.length N.cn] 60)).alloc (.cells #[.int .i64 0] 29)).alloc (.cells (madeCells #[Value.bool false] (V + 1)) 4)).alloc (.cells #[.slice (some ⟨w.heap.size + 1 + 1, 0, none⟩) (V + 1) (V + 1)] 25)).alloc (.cells #[.int .i64 V] 3)) 60 #[.int .i64 V, .slice N.Ai N.inputs.length N.ci, .slice N.Al N.latches.length N.cl, .slice N.Ao N.outputs.length N.co, .slice N.Ab N.bads.length N.cb, .slice N.Ac N.constraints.length N.cc, .slice N.Am N.mems.length N.cm, .slice N.An N.ands.length N.cn]
  simp only [World.size_alloc] at b1 b2 b3 b4 b5
  have hsz : ((((((w.alloc (.cells #[.int .i64 V, .slice N.Ai N.inputs.length N.ci, .slice N.Al N.latches.length N.cl, .slice N.Ao N.outputs.length N.co, .slice N.Ab N.bads.length N.cb, .slice N.Ac N.constraints.length N.cc, .slice N.Am N.mems.length N.cm, .slice N.An N.ands.length N.cn] 60)).alloc (.cells #[.int .i64 0] 29)).alloc (.cells (madeCells #[Value.bool false] (V + 1)) 4)).alloc (.cells #[.slice (some ⟨w.heap.size + 1 + 1, 0, none⟩) (V + 1) (V + 1)] 25)).alloc (.cells #[.int .i64 V] 3)).alloc (.cells #[.int .i64 V, .slice N.Ai N.inputs.length N.ci, .slice N.Al N.latches.length N.cl, .slice N.Ao N.outputs.length N.co, .slice N.Ab N.bads.length N.cb, .slice N.Ac N.constraints.length N.cc, .slice N.Am N.mems.length N.cm, .slice N.An N.ands.length N.cn] 60)).heap.size = w.heap.size + 6 := by simp
  generalize (((((w.alloc (.cells #[.int .i64 V, .slice N.Ai N.inputs.length N.ci, .slice N.Al N.latches.length N.cl, .slice N.Ao N.outputs.length N.co, .slice N.Ab N.bads.length N.cb, .slice N.Ac N.constraints.length N.cc, .slice N.Am N.mems.length N.cm, .slice N.An N.ands.length N.cn] 60)).alloc (.cells #[.int .i64 0] 29)).alloc (.cells (madeCells #[Value.bool false] (V + 1)) 4)).alloc (.cells #[.slice (some ⟨w.heap.size + 1 + 1, 0, none⟩) (V + 1) (V + 1)] 25)).alloc (.cells #[.int .i64 V] 3)).alloc (.cells #[.int .i64 V, .slice N.Ai N.inputs.length N.ci, .slice N.Al N.latches.length N.cl, .slice N.Ao N.outputs.length N.co, .slice N.Ab N.bads.length N.cb, .slice N.Ac N.constraints.length N.cc, .slice N.Am N.mems.length N.cm, .slice N.An N.ands.length N.cn] 60) = W0 at hw1 b0 b1 b2 b3 b4 b5 hsz ⊢
  clear hw0 hmk hz1
  rw [madeCells_seen] at b2
  have hfs : N.fs = #[.int .i64 V, .slice N.Ai N.inputs.length N.ci, .slice N.Al N.latches.length N.cl, .slice N.Ao N.outputs.length N.co, .slice N.Ab N.bads.length N.cb, .slice N.Ac N.constraints.length N.cc, .slice N.Am N.mems.length N.cm, .slice N.An N.ands.length N.cn] := by unfold NetH.fs; rw [HV.out]
  refine wpIn_rangeFunc_ownF rfl (by omega) (gf := 389) (lb := #[.pointer (some ⟨w.heap.size + 1 + 1 + 1 + 1 + 1, 0, none⟩)]) rfl trivial (enters_of Tryz.func389 (by kernel_rfl) rfl)
    (vars_stops Fence.wide 2 trivial rfl (by omega) (w.heap.size + 1 + 1 + 1 + 1 + 1) w.heap.size (w.heap.size + 1 + 1 + 1 + 1 + 1) N W0 (by rw [hfs]; exact b5) (Nat.le_refl _) (HOK.out.below hw1) (by omega) HF.out) Kp2.trans (kp2_b (by omega)) (Below.refl _ _) (fun _ => rfl)
    (fun pre W => (Fine V pre ∧ Blk W w.heap.size 60 #[.int .i64 V, .slice N.Ai N.inputs.length N.ci, .slice N.Al N.latches.length N.cl, .slice N.Ao N.outputs.length N.co, .slice N.Ab N.bads.length N.cb, .slice N.Ac N.constraints.length N.cc, .slice N.Am N.mems.length N.cm, .slice N.An N.ands.length N.cn] ∧ Blk W (w.heap.size + 1) 29 #[.int .i64 0] ∧ Blk W (w.heap.size + 1 + 1) 4 ((seenL V pre).map Value.bool).toArray ∧ Blk W (w.heap.size + 1 + 1 + 1) 25 #[.slice (some ⟨w.heap.size + 1 + 1, 0, none⟩) (V + 1) (V + 1)] ∧ Blk W (w.heap.size + 1 + 1 + 1 + 1) 3 #[.int .i64 ((V : Int) - pre.length)]) ∧ Below w.heap.size w W)
    (fun c pre W => (∃ pre' x r, (c = .ret ∧ pre = pre' ++ [x] ∧ Fine V pre' ∧ badOf V pre' x = some r) ∧ Blk W (w.heap.size + 1) 29 #[.int .i64 r]) ∧ Below w.heap.size w W)
    (OwnFrom.and (OwnFrom.and (own_pure _) (OwnFrom.and (blk_own _) (OwnFrom.and (blk_own _) (OwnFrom.and (blk_own _) (OwnFrom.and (blk_own _) (blk_own _)))))) (ownFrom_below (Nat.le_refl _) (by omega)))
    (fun c => OwnFrom.and (fun s W W' row hs hg hr => by
      obtain ⟨pre', x, r, h1, h2⟩ := hs
      exact ⟨pre', x, r, h1, blk_own (β := Unit) (fun _ => #[.int .i64 r]) () W W' row h2 hg hr⟩) (ownFrom_below (Nat.le_refl _) (by omega)))
    ⟨⟨⟨List.nodup_nil, by simp⟩, b0, b1, b2, b3, by simpa using b4⟩, hw1⟩
    (fun x => { tmps := #[.agg #[.int .i64 V, .slice N.Ai N.inputs.length N.ci, .slice N.Al N.latches.length N.cl, .slice N.Ao N.outputs.length N.co, .slice N.Ab N.bads.length N.cb, .slice N.Ac N.constraints.length N.cc, .slice N.Am N.mems.length N.cm, .slice N.An N.ands.length N.cn], .pointer (some ⟨w.heap.size, 0, none⟩), .pointer (some ⟨w.heap.size + 1, 0, none⟩), .pointer (some ⟨w.heap.size + 1 + 1 + 1, 0, none⟩), .pointer (some ⟨w.heap.size + 1 + 1 + 1 + 1, 0, none⟩), .int .i64 x, .pointer (some ⟨w.heap.size, 0, none⟩), .int .i64 V, .int .i64 ((V : Int) + 1), .slice (some ⟨w.heap.size + 1 + 1, 0, none⟩) (V + 1) (V + 1), .pointer (some ⟨w.heap.size, 0, none⟩), .int .i64 V, .agg #[.int .i64 V, .slice N.Ai N.inputs.length N.ci, .slice N.Al N.latches.length N.cl, .slice N.Ao N.outputs.length N.co, .slice N.Ab N.bads.length N.cb, .slice N.Ac N.constraints.length N.cc, .slice N.Am N.mems.length N.cm, .slice N.An N.ands.length N.cn], .func (.func 389) #[] #[.pointer (some ⟨w.heap.size + 1 + 1 + 1 + 1 + 1, 0, none⟩)], .int .i64 x, undef, undef, undef, undef, undef, undef, undef, undef, undef, undef, undef, undef, undef, undef, undef, undef, undef, undef, undef, undef, undef], defers := [] }) ?assign ?body ?done ?stop
  case assign =>
    intro l x W K hK
    gi_wp2
    exact hK
  case body =>
    rintro l pre x W ⟨⟨hfn, c0, c1, c2, c3, c4⟩, hB⟩ hlen
    clear b0 b1 b2 b3 b4 b5 hw1 HOK HF HVI hfs
    have hc0 := c0.cell 0
    have hc1 := c1.cell 0
    have hf1 := c1.frozen 0
    have hc3 := c3.cell 0
    have hc4 := c4.cell 0
    have hf4 := c4.frozen 0
    simp only [List.getElem?_toArray, List.getElem?_cons_zero] at hc0 hc1 hc3 hc4
    by_cases hbad : x < 1 ∨ (V : Int) < x
    · have hbo : badOf V pre x = some 5 := by unfold badOf; rw [if_pos hbad]
      have HBO := Lib.hid hbo
      have HFN := Lib.hid hfn
      clear hbo hfn c0 c2 c3 c4
      rcases (show x < 1 ∨ (¬ x < 1 ∧ (V : Int) < x) from by omega) with h1 | ⟨h1, h2⟩
      all_goals
        gi_wp2
        exact ⟨KeepsOthers.setCell _ _ _, ⟨pre, x, 5, ⟨rfl, rfl, HFN.out, HBO.out⟩, c1.set_ 0 _⟩, hB.setCell (p := ⟨w.heap.size + 1, 0, none⟩) (by simp) _⟩
    · obtain ⟨v, rfl⟩ := Int.eq_ofNat_of_zero_le (show 0 ≤ x by omega)
      have h1 : ¬ ((v : Int) < 1) := by omega
      have h2 : ¬ ((V : Int) < v) := by omega
      have h3 : v ≤ V := by omega
      have hcs := (c2.cell v).trans (seen_cell h3)
      have hfs := c2.frozen v
      rcases hct : pre.contains (v : Int) with _ | _
      · rw [hct] at hcs
        have HFN := Lib.hid (hfn.snoc (by omega) (by omega) hct)
        have hlen2 : pre.length ≤ 1000000 := by omega
        clear hct hfn hbad
        gi_wp2
        refine ⟨(KeepsOthers.setCell _ _ _).trans (KeepsOthers.setCell _ _ _), ((Kp2.refl _ _ _).setCell (p := ⟨w.heap.size + 1 + 1, v, none⟩) (by simp; omega) (by simp) _).setCell (p := ⟨w.heap.size + 1 + 1 + 1 + 1, 0, none⟩) (by simp; omega) (by simp) _, ⟨HFN.out, ?_, ?_, ?_, ?_, ?_⟩, (hB.setCell (p := ⟨w.heap.size + 1 + 1, v, none⟩) (by simp; omega) _).setCell (p := ⟨w.heap.size + 1 + 1 + 1 + 1, 0, none⟩) (by simp; omega) _⟩
        · exact (c0.far (p := ⟨w.heap.size + 1 + 1, v, none⟩) (by simp; omega) _).far (by simp; omega) _
        · exact (c1.far (p := ⟨w.heap.size + 1 + 1, v, none⟩) (by simp) _).far (by simp <;> omega) _
        · have := (c2.set_ v (.bool true)).far (p := ⟨w.heap.size + 1 + 1 + 1 + 1, 0, none⟩) (by simp <;> omega) (.int .i64 ((V : Int) - pre.length - 1))
          rw [seen_set_arr h3] at this
          exact this
        · exact (c3.far (p := ⟨w.heap.size + 1 + 1, v, none⟩) (by simp) _).far (by simp) _
        · have := (c4.far (p := ⟨w.heap.size + 1 + 1, v, none⟩) (by simp; omega) (.bool true)).set_ 0 (.int .i64 ((V : Int) - pre.length - 1))
          rw [show (V : Int) - ((pre ++ [(v : Int)]).length : Nat) = (V : Int) - pre.length - 1 by simp; omega]
          exact this
      · have hbo : badOf V pre v = some 6 := by unfold badOf; rw [if_neg hbad, if_pos hct]
        rw [hct] at hcs
        have HBO := Lib.hid hbo
        have HFN := Lib.hid hfn
        clear hbo hfn hct c0 c2 c3 c4 hbad
        gi_wp2
        exact ⟨KeepsOthers.setCell _ _ _, ⟨pre, v, 6, ⟨rfl, rfl, HFN.out, HBO.out⟩, c1.set_ 0 _⟩, hB.setCell (p := ⟨w.heap.size + 1, 0, none⟩) (by simp) _⟩
  case done =>
    rintro D ys W hD2 hys ⟨⟨hfn, c0, c1, c2, c3, c4⟩, hB⟩ hK
    have hdu := dup_fine ys [] (by simpa using hfn)
    rw [hys] at hdu
    have hyl : ys.length ≤ 1000000 := by rw [hys]; exact hD
    have hyl2 : (definedL N.d).length = ys.length := by rw [hys]
    rw [List.nil_append, hyl2] at hdu
    have HDU := Lib.hid hdu
    have hc1 := c1.cell 0
    have hf1 := c1.frozen 0
    have hc4 := c4.cell 0
    simp only [List.getElem?_toArray, List.getElem?_cons_zero] at hc1 hc4
    clear b0 b1 b2 b3 b4 b5 hw1 HOK HF HVI hfs hdu hyl2 hys hfn c0 c2 c3 c4
    by_cases hlt : (0 : Int) < (V : Int) - ys.length
    · gi_wp2
      have hK' := (KeepsOthers.setCell W ⟨w.heap.size + 1, 0, none⟩ (.int .i64 7)).same D _ hK rfl
      refine ⟨by simp, .inl ⟨_, _, rfl, run_takeDeferred hK', ?_⟩⟩
      have hc5 := cell_kept (World.cell?_setCell_same' W ⟨w.heap.size + 1, 0, none⟩ (.int .i64 7) (by rw [hc1]; rfl)) (grownBy_putObj' _ D (.deferred none)) (fun r e => by cases e; exact ⟨_, hK', rfl⟩)
      refine ⟨.int .i64 7, ?_, by rw [HDU.out, if_pos (by omega)], (hB.setCell (p := ⟨w.heap.size + 1, 0, none⟩) (by simp) _).trans (belowK_b (w := w) (Nat.le_refl _) _ D _ _ (by omega) hK' rfl rfl)⟩
      simp [results, Tryz.f291, go_sem, hc5]
    · gi_wp2
      have hK' := (KeepsOthers.setCell W ⟨w.heap.size + 1, 0, none⟩ (.int .i64 0)).same D _ hK rfl
      refine ⟨by simp, .inl ⟨_, _, rfl, run_takeDeferred hK', ?_⟩⟩
      have hc5 := cell_kept (World.cell?_setCell_same' W ⟨w.heap.size + 1, 0, none⟩ (.int .i64 0) (by rw [hc1]; rfl)) (grownBy_putObj' _ D (.deferred none)) (fun r e => by cases e; exact ⟨_, hK', rfl⟩)
      refine ⟨.int .i64 0, ?_, by rw [HDU.out, if_neg (by omega)], (hB.setCell (p := ⟨w.heap.size + 1, 0, none⟩) (by simp) _).trans (belowK_b (w := w) (Nat.le_refl _) _ D _ _ (by omega) hK' rfl rfl)⟩
      simp [results, Tryz.f291, go_sem, hc5]
  case stop =>
    rintro D c pre W hD2 hpre ⟨⟨pre', x, r, ⟨rfl, rfl, hfn, hbo⟩, c1⟩, hB⟩ hK
    have HDU := Lib.hid (dup_pre hfn hpre hbo)
    have hc1 := c1.cell 0
    simp only [List.getElem?_toArray, List.getElem?_cons_zero] at hc1
    clear b0 b1 b2 b3 b4 b5 hw1 HOK HF HVI hfs hfn hpre hbo
    gi_wp2
    refine ⟨by simp, .inl ⟨_, _, rfl, run_takeDeferred hK, ?_⟩⟩
    have hc5 := cell_kept hc1 (grownBy_putObj' _ D (.deferred none)) (fun r e => by cases e; exact ⟨_, hK, rfl⟩)
    refine ⟨.int .i64 r, ?_, by rw [HDU.out], hB.trans (belowK_b (w := w) (Nat.le_refl _) W D _ _ (by omega) hK rfl rfl)⟩
    simp [results, Tryz.f291, go_sem, hc5]
end Go.Proofs.YtpdgjcejkmkglaaGreat
