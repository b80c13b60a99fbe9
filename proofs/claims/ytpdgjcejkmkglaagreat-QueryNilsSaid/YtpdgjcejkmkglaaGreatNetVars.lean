/- The iterator of net.vars: what it hands on. -/
import Derived.RangeFuncNested
import Derived.RangeFuncBound
import Derived.RangeFuncCalls
import Derived.RangeFuncLeaves
import Derived.Shelf.Abstract
import Derived.OwnWalkIn
import Derived.TacticsInMore
import Derived.LoopNIn
import Derived.LoopIn
import Derived.Test.YtpdgjcejkmkglaaGreatNetView
namespace Go.Proofs.YtpdgjcejkmkglaaGreat
open Go.RowKit Go.Shelf Pl
set_option linter.unusedVariables false
attribute [local go_sem] Oper.semAt_some

/-- whatever lay below n₀, and the cells from B on, lie as they lay -/
structure Kp2 (n₀ B : Nat) (W W' : World) : Prop where
  below : Below n₀ W W'
  far : ∀ (i : Nat) (o : Obj), B ≤ i → W.heap[i]? = some o → o.isCells = true → W'.heap[i]? = some o
theorem Kp2.refl (n₀ B : Nat) (W : World) : Kp2 n₀ B W W := ⟨Below.refl _ _, fun _ _ _ h _ => h⟩
theorem Kp2.trans {n₀ B : Nat} {A C D : World} (h : Kp2 n₀ B A C) (k : Kp2 n₀ B C D) : Kp2 n₀ B A D := ⟨h.below.trans k.below, fun i o hi hA ho => k.far i o hi (h.far i o hi hA ho) ho⟩
theorem Kp2.alloc {n₀ B : Nat} {W W' : World} (h : Kp2 n₀ B W W') (hn : n₀ ≤ W'.heap.size) (o : Obj) : Kp2 n₀ B W (W'.alloc o) :=
  ⟨h.below.alloc hn o, fun i o' hi hW ho => by
    have h1 := h.far i o' hi hW ho
    exact (Below.heap_alloc W' o i (Array.getElem?_eq_some_iff.1 h1).1).trans h1⟩
theorem Kp2.setCell {n₀ B : Nat} {W W' : World} (h : Kp2 n₀ B W W') {p : Addr} (h1 : n₀ ≤ p.block) (h2 : p.block < B) (v : Value) : Kp2 n₀ B W (W'.setCell p v) :=
  ⟨h.below.setCell h1 v, fun i o' hi hW ho => (Below.heap_setCell W' p v i (by omega)).trans (h.far i o' hi hW ho)⟩
theorem kp2_b {n₀ B : Nat} {w : World} (hn : n₀ ≤ w.heap.size) (W : World) (l : Nat) (o o' : Obj) (hl : w.heap.size ≤ l) (h : W.heap[l]? = some o) (hc : o.isCells = false) (hw : o.isWalk = false) : Kp2 n₀ B W (W.putObj l o') :=
  ⟨belowK_b hn W l o o' hl h hc hw, fun i o2 hi hW ho => by
    by_cases e : i = l
    · subst e
      rw [h] at hW
      injection hW with hW
      subst hW
      rw [hc] at ho
      cases ho
    · exact (World.putObj_heap_other (by omega)).trans hW⟩
theorem Blk.kp2 {n₀ B g : Nat} {W W' : World} {t : TypeId} {cs : Array Value} (h : Blk W g t cs) (k : Kp2 n₀ B W W') (hg : B ≤ g) : Blk W' g t cs := k.far g _ hg h rfl

/- the variables in their order, as far as they have come -/
def v2 (N : NetH) (k : Nat) : List Int := N.inputs ++ (N.latches.take k).map (·.var)
def memV (m : MemH) : List Int := m.reads.flatMap fun r => dataL r.var m.word.toNat
def v3 (N : NetH) (k : Nat) : List Int := N.inputs ++ N.latches.map (·.var) ++ (N.mems.take k).flatMap memV
def v4 (N : NetH) (k : Nat) (m : MemH) (j : Nat) : List Int := v3 N k ++ (m.reads.take j).flatMap fun r => dataL r.var m.word.toNat
def v5 (N : NetH) (k : Nat) (m : MemH) (j : Nat) (r : ReadH) (i : Nat) : List Int := v4 N k m j ++ dataL r.var i
def v6 (N : NetH) (k : Nat) : List Int := N.inputs ++ N.latches.map (·.var) ++ N.mems.flatMap memV ++ (N.ands.take k).map (·.var)
theorem memV_d (m : MemH) : readsL m.d = memV m := by
  unfold readsL memV MemH.d
  rw [List.flatMap_map]; rfl
theorem definedH (N : NetH) : definedL N.d = N.inputs ++ N.latches.map (·.var) ++ N.mems.flatMap memV ++ N.ands.map (·.var) := by
  unfold definedL NetH.d
  simp only
  rw [List.flatMap_map]
  congr 2
  exact congrArg (fun f => N.mems.flatMap f) (funext memV_d)
theorem dataL_succ (v : Int) (i : Nat) : dataL v (i + 1) = dataL v i ++ [v + (i : Int)] := by simp [dataL, List.range_succ]
theorem dataL_pre (v : Int) {i j : Nat} (h : i ≤ j) : dataL v i <+: dataL v j := by
  obtain ⟨d, rfl⟩ := Nat.le.dest h
  induction d with
  | zero => exact List.prefix_refl _
  | succ d ih => rw [← Nat.add_assoc, dataL_succ]; exact (ih (by omega)).trans (List.prefix_append _ _)
theorem flat_take_pre {α β : Type} (f : α → List β) (l : List α) (k : Nat) {x : α} (h : l[k]? = some x) : (l.take k).flatMap f ++ f x <+: l.flatMap f := by
  have : (l.take (k + 1)).flatMap f = (l.take k).flatMap f ++ f x := by rw [take_snoc h]; simp
  rw [← this]
  conv => rhs; rw [← List.take_append_drop (k + 1) l]
  rw [List.flatMap_append]
  exact List.prefix_append _ _
theorem flat_take_succ {α β : Type} (f : α → List β) {l : List α} {k : Nat} {x : α} (h : l[k]? = some x) : (l.take (k + 1)).flatMap f = (l.take k).flatMap f ++ f x := by rw [take_snoc h]; simp
theorem pre_mono {α : Type} {a b c : List α} (h : b <+: c) : a ++ b <+: a ++ c := (List.prefix_append_right_inj a).2 h
section
variable {N : NetH} {k j i : Nat}
theorem v1_pre {x : Int} (h : N.inputs[k]? = some x) : N.inputs.take k ++ [x] <+: definedL N.d := by
  rw [definedH, ← take_snoc h, List.append_assoc, List.append_assoc]
  exact (List.take_prefix _ _).trans (List.prefix_append _ _)
theorem v2_succ {x : LatchD} (h : N.latches[k]? = some x) : v2 N (k + 1) = v2 N k ++ [x.var] := by
  unfold v2; rw [take_snoc h]; simp
theorem v2_pre {x : LatchD} (h : N.latches[k]? = some x) : v2 N k ++ [x.var] <+: definedL N.d := by
  rw [definedH, ← v2_succ h, List.append_assoc]
  refine List.IsPrefix.trans ?_ (List.prefix_append _ _)
  exact pre_mono (List.IsPrefix.map _ (List.take_prefix _ _))
theorem v3_le {m : MemH} (h : N.mems[k]? = some m) : v3 N k ++ memV m <+: definedL N.d := by
  rw [definedH]
  refine List.IsPrefix.trans ?_ (List.prefix_append _ _)
  unfold v3
  rw [List.append_assoc]
  exact pre_mono (flat_take_pre memV _ _ h)
theorem v5_pre {m : MemH} {r : ReadH} (h : N.mems[k]? = some m) (h2 : m.reads[j]? = some r) (hi : i < m.word.toNat) : v5 N k m j r i ++ [r.var + (i : Int)] <+: definedL N.d := by
  refine List.IsPrefix.trans ?_ (v3_le h)
  unfold v5 v4
  rw [List.append_assoc, List.append_assoc, ← dataL_succ]
  refine pre_mono (List.IsPrefix.trans (pre_mono (dataL_pre _ (show i + 1 ≤ m.word.toNat by omega))) ?_)
  exact flat_take_pre (fun r : ReadH => dataL r.var m.word.toNat) _ _ h2
theorem v5_succ {m : MemH} {r : ReadH} : v5 N k m j r (i + 1) = v5 N k m j r i ++ [r.var + (i : Int)] := by unfold v5; rw [dataL_succ, List.append_assoc]
theorem v5_zero {m : MemH} {r : ReadH} : v5 N k m j r 0 = v4 N k m j := by simp [v5, dataL]
theorem v5_full {m : MemH} {r : ReadH} (h2 : m.reads[j]? = some r) : v5 N k m j r m.word.toNat = v4 N k m (j + 1) := by
  unfold v5 v4
  rw [flat_take_succ _ h2, List.append_assoc]
theorem v4_zero {m : MemH} : v4 N k m 0 = v3 N k := by simp [v4]
theorem v4_full {m : MemH} (h : N.mems[k]? = some m) (hj : m.reads.length ≤ j) : v4 N k m j = v3 N (k + 1) := by
  unfold v4 v3
  rw [flat_take_succ _ h, List.take_of_length_le hj]
  simp [memV]
theorem v3_full (hk : N.mems.length ≤ k) : v3 N k = v6 N 0 := by
  unfold v3 v6
  rw [List.take_of_length_le hk]; simp
theorem v3_zero (hk : N.latches.length ≤ k) : v2 N k = v3 N 0 := by
  unfold v2 v3
  rw [List.take_of_length_le hk]; simp
theorem v2_zero (hk : N.inputs.length ≤ k) : N.inputs.take k = v2 N 0 := by
  unfold v2
  rw [List.take_of_length_le hk]; simp
theorem v6_succ {x : AndD} (h : N.ands[k]? = some x) : v6 N (k + 1) = v6 N k ++ [x.var] := by
  unfold v6; rw [take_snoc h]; simp
theorem v6_pre {x : AndD} (h : N.ands[k]? = some x) : v6 N k ++ [x.var] <+: definedL N.d := by
  rw [definedH, ← v6_succ h]
  exact pre_mono (List.IsPrefix.map _ (List.take_prefix _ _))
theorem v6_full (hk : N.ands.length ≤ k) : v6 N k = definedL N.d := by
  rw [definedH]; unfold v6; rw [List.take_of_length_le hk]
end
theorem pre_lt {D pre : List Int} {x : Int} (h : pre ++ [x] <+: D) : pre.length < D.length := by
  have := h.length_le
  simp at this
  omega

set_option maxRecDepth 100000 in
set_option maxHeartbeats 4000000 in
theorem vars1_in (F : Fence) (n : Nat) (hF : F.fn 389) (hro : F.round = none) (hn : 1 ≤ n) (l Bx n₀ B : Nat) (N : NetH) (J Jx : List Int → World → Prop) (W : World)
    (hJ : ∀ (s : List Int) (A : World) (o : Obj), J s A → J s (A.alloc o))
    (hY : ∀ pre x W1, J pre W1 → pre.length < (definedL N.d).length → YieldAt F (n - 1) Tryz.prog l #[.int .i64 x] W1 fun e W' =>
      (e = .returned (.bool true) ∧ J (pre ++ [x]) W' ∧ Kp2 n₀ B W1 W') ∨ (e = .returned (.bool false) ∧ Jx (pre ++ [x]) W'))
    (hBx : Blk W Bx 60 N.fs) (hBl : B ≤ Bx) (hok : N.okIn W n₀) (hn0 : n₀ ≤ W.heap.size) (hBW : B ≤ W.heap.size) (h0 : J [] W) (ft : Fit N.d) :
    CallsIn F n Tryz.prog 389 #[.func (.yield l) #[] #[], .pointer (some ⟨Bx, 0, none⟩)] W fun e W' => (∃ v, e = .returned v) ∧
      ((∃ ys, ys = definedL N.d ∧ J ys W') ∨ (∃ pre, pre <+: definedL N.d ∧ Jx pre W')) := by
  have HJ := Lib.hid hJ
  have HY := Lib.hid hY
  have HB := Lib.hid hBx
  have HOK := Lib.hid hok
  have hl1 : N.inputs.length ≤ 4000 := ft.ins.1
  have hl2 : N.latches.length ≤ 4000 := ft.lat.1
  have hl3 : N.ands.length ≤ 4000 := ft.ands.1
  have hl4 : N.mems.length ≤ 100 := by have := ft.mems.1; simpa [NetH.d] using this
  have HMF := Lib.hid (ft.mems.2)
  have hf1 : W.cell? ⟨Bx, 1, none⟩ = some (.slice N.Ai N.inputs.length N.ci) := hBx.cell 1
  clear hJ hY hok ft hBx
  refine callsIn_of_wp Tryz.func389 rfl hF ?_ hro
  simp only [Tryz.ntmps389, List.size_toArray, List.length_cons, List.length_nil, Nat.reduceAdd, Nat.reduceSub, Array.replicate_succ, Array.replicate_zero, List.push_toArray, List.append_toArray, List.nil_append, List.cons_append]
  gi_wp2
  gi_loopw [17] (fun i wr => ∃ k : Nat, k ≤ N.inputs.length ∧ i = .int .i64 k ∧ J (N.inputs.take k) wr ∧ Kp2 n₀ B W wr) (fun i _ => N.inputs.length - (intOf i).toNat)
  case atStart => exact ⟨0, Nat.zero_le _, rfl, by simpa using h0, Kp2.refl _ _ _⟩
  case round =>
    obtain ⟨k, hk, rfl, hJs, hkp⟩ := hrel
    by_cases hlt : k < N.inputs.length
    · obtain ⟨b, off, x, e1, hb, hx, hm, hc⟩ := (HOK.out.below hkp.below).ins.intAt hlt
      have hp := v1_pre hx
      obtain ⟨fn, tmps, assign, body, hy, hR⟩ := HY.out (N.inputs.take k) x wr hJs (pre_lt hp)
      have HX := Lib.hid hx
      have HP := Lib.hid hp
      have HE1 := Lib.hid e1
      clear hx hp hm
      rw [e1]
      clear e1
      gi_wp2
      refine hR.mono ?_
      rintro e W3 (⟨rfl, hJ3, hk3⟩ | ⟨rfl, hJx3⟩)
      · gi_wp2
        go_roundw
        case rel => exact ⟨k + 1, by omega, by simp, by rw [take_snoc HX.out]; exact hJ3, hkp.trans hk3⟩
        case measure => simp [intOf]; omega
      · gi_wp2
        refine bodyPost_ret (results_none rfl _ _ _) rfl ?_
        exact ⟨⟨_, rfl⟩, .inr ⟨_, HP.out, hJx3⟩⟩
    · rw [v2_zero (by omega)] at hJs
      have hf2 : wr.cell? ⟨Bx, 2, none⟩ = some (.slice N.Al N.latches.length N.cl) := (HB.out.kp2 hkp hBl).cell 2
      gi_wp2
      obtain ⟨w1, rfl⟩ : ∃ w1 : World, w1 = wr := ⟨_, rfl⟩
      clear hf2 hlt hk
      gi_loopw [29] (fun i wr => ∃ k : Nat, k ≤ N.latches.length ∧ i = .int .i64 k ∧ J (v2 N k) wr ∧ Kp2 n₀ B W wr) (fun i _ => N.latches.length - (intOf i).toNat)
      case atStart => exact ⟨0, Nat.zero_le _, rfl, hJs, hkp⟩
      case round =>
        clear hJs hkp
        obtain ⟨k, hk, rfl, hJs, hkp⟩ := hrel
        have hsz := hkp.below.size
        by_cases hlt : k < N.latches.length
        · obtain ⟨b, off, x, e1, hb, hx, hm, hcs⟩ := (HOK.out.below hkp.below).lat.elem (by omega) (fun _ => rfl) hlt
          obtain ⟨hc0, hc1, hc2⟩ := LatchD.at_ hcs
          have hp := v2_pre hx
          obtain ⟨fn, tmps, assign, body, hy, hR⟩ := HY.out (v2 N k) x.var (wr.alloc (.cells #[.int .i64 x.var, .int .i64 x.next, .int .i64 x.init] 115)) (HJ.out _ _ _ hJs) (pre_lt hp)
          have HX := Lib.hid hx
          have HP := Lib.hid hp
          clear hx hp hm hcs
          rw [e1]
          clear e1
          gi_wp2
          refine hR.mono ?_
          rintro e W3 (⟨rfl, hJ3, hk3⟩ | ⟨rfl, hJx3⟩)
          · gi_wp2
            go_roundw
            case rel => exact ⟨k + 1, by omega, by simp, by rw [v2_succ HX.out]; exact hJ3, (hkp.alloc (by omega) _).trans hk3⟩
            case measure => simp [intOf]; omega
          · gi_wp2
            refine bodyPost_ret (results_none rfl _ _ _) rfl ?_
            exact ⟨⟨_, rfl⟩, .inr ⟨_, HP.out, hJx3⟩⟩
        · rw [v3_zero (by omega)] at hJs
          have hf3 : wr.cell? ⟨Bx, 6, none⟩ = some (.slice N.Am N.mems.length N.cm) := (HB.out.kp2 hkp hBl).cell 6
          gi_wp2
          obtain ⟨w2, rfl⟩ : ∃ w2 : World, w2 = wr := ⟨_, rfl⟩
          clear hf3 hlt hk hsz
          gi_loopw [42] (fun i wr => ∃ k : Nat, k ≤ N.mems.length ∧ i = .int .i64 k ∧ J (v3 N k) wr ∧ Kp2 n₀ B W wr) (fun i _ => N.mems.length - (intOf i).toNat)
          case atStart => exact ⟨0, Nat.zero_le _, rfl, hJs, hkp⟩
          case round =>
            clear hJs hkp
            obtain ⟨k, hk, rfl, hJs, hkp⟩ := hrel
            have hsz := hkp.below.size
            by_cases hlt : k < N.mems.length
            · obtain ⟨b, off, m, e1, hb, hx, hm, hcs⟩ := (HOK.out.below hkp.below).mem.elem (by omega) (fun _ => rfl) hlt
              obtain ⟨hc0, hc1, hc2, hc3, hc4⟩ := MemH.at_ hcs
              have HX := Lib.hid hx
              have HM := Lib.hid (HOK.out.mms m hm)
              have hfm := HMF.out m.d (List.mem_map_of_mem hm)
              have hrn : m.reads.length ≤ 100 := by have := hfm.rdn; simpa [MemH.d] using this
              have hw1 : m.word ≤ 4000 := hfm.word.2
              have hw0 : -9223372036854775808 ≤ m.word := hfm.word.1.1
              have HRF := Lib.hid hfm.rds
              clear hx hm hcs hfm
              rw [e1]
              clear e1
              gi_wp2
              obtain ⟨c, hc⟩ : ∃ c, c = wr.heap.size := ⟨_, rfl⟩
              have hkp2 := hkp.alloc (show n₀ ≤ wr.heap.size by omega) (.cells m.cells.toArray 98)
              have hJ2 := HJ.out _ _ (.cells m.cells.toArray 98) hJs
              have hbk := Blk.new wr 98 m.cells.toArray
              have hcB : B ≤ c := by omega
              rw [← hc] at hbk ⊢
              rw [← v4_zero (m := m)] at hJ2
              clear hc hJs hkp hc0 hc1 hc2 hc3 hc4
              change Code.wpIn _ _ _ _ _ _ (wr.alloc (.cells m.cells.toArray 98))
              obtain ⟨w3, hw3⟩ : ∃ w3 : World, w3 = wr.alloc (.cells m.cells.toArray 98) := ⟨_, rfl⟩
              rw [← hw3] at hkp2 hJ2 hbk ⊢
              clear hw3 hsz
              gi_loopw [49] (fun i wr => ∃ j : Nat, j ≤ m.reads.length ∧ i = .int .i64 j ∧ J (v4 N k m j) wr ∧ Kp2 n₀ B W wr ∧ Blk wr c 98 m.cells.toArray) (fun i _ => m.reads.length - (intOf i).toNat)
              case atStart => exact ⟨0, Nat.zero_le _, rfl, hJ2, hkp2, hbk⟩
              case round =>
                clear hJ2 hkp2 hbk
                obtain ⟨j, hj, rfl, hJs, hkp, hbk⟩ := hrel
                have hsz := hkp.below.size
                by_cases hlt2 : j < m.reads.length
                · obtain ⟨b2, off2, r, e1, hb2, hx2, hm2, hcs⟩ := (HM.out.below hkp.below).rd.elem (by omega) (fun _ => rfl) hlt2
                  obtain ⟨hc0, hc1⟩ := ReadH.at_ hcs
                  have HX2 := Lib.hid hx2
                  obtain ⟨_, hv1, hv2, _⟩ := HRF.out r.d (List.mem_map_of_mem hm2)
                  change -1099511627776 ≤ r.var at hv1
                  change r.var ≤ 1099511627776 at hv2
                  have hcw : wr.cell? ⟨c, 1, none⟩ = some (.int .i64 m.word) := hbk.cell 1
                  have hcl : c < wr.heap.size := hbk.lt
                  clear hx2 hm2 hcs
                  rw [e1]
                  clear e1
                  gi_wp2
                  obtain ⟨d, hd⟩ : ∃ d, d = wr.heap.size := ⟨_, rfl⟩
                  have hkp2 := hkp.alloc (show n₀ ≤ wr.heap.size by omega) (.cells r.cells.toArray 108)
                  have hJ2 := HJ.out _ _ (.cells r.cells.toArray 108) hJs
                  have hbk2 := Blk.new wr 108 r.cells.toArray
                  have hbk1 := hbk.alloc (.cells r.cells.toArray 108)
                  have hdB : B ≤ d := by omega
                  rw [← hd] at hbk2 ⊢
                  rw [← v5_zero (r := r)] at hJ2
                  clear hd hJs hkp hbk hc0 hc1 hcw
                  change Code.wpIn _ _ _ _ _ _ (wr.alloc (.cells r.cells.toArray 108))
                  obtain ⟨w4, hw4⟩ : ∃ w4 : World, w4 = wr.alloc (.cells r.cells.toArray 108) := ⟨_, rfl⟩
                  rw [← hw4] at hkp2 hJ2 hbk2 hbk1 ⊢
                  clear hw4 hsz hcl
                  gi_loopw [55] (fun i wr => ∃ q : Nat, q ≤ m.word.toNat ∧ i = .int .i64 q ∧ J (v5 N k m j r q) wr ∧ Kp2 n₀ B W wr ∧ Blk wr c 98 m.cells.toArray ∧ Blk wr d 108 r.cells.toArray) (fun i _ => m.word.toNat - (intOf i).toNat)
                  case atStart => exact ⟨0, Nat.zero_le _, rfl, hJ2, hkp2, hbk1, hbk2⟩
                  case round =>
                    clear hJ2 hkp2 hbk1 hbk2
                    obtain ⟨q, hq, rfl, hJs, hkp, hbk1, hbk2⟩ := hrel
                    by_cases hlt3 : (q : Int) < m.word
                    · have hp := v5_pre (i := q) HX.out HX2.out (by omega)
                      obtain ⟨fn, tmps, assign, body, hy, hR⟩ := HY.out (v5 N k m j r q) (r.var + (q : Int)) wr hJs (pre_lt hp)
                      have HP := Lib.hid hp
                      have hcv : wr.cell? ⟨d, 0, none⟩ = some (.int .i64 r.var) := hbk2.cell 0
                      clear hp
                      gi_wp2
                      refine hR.mono ?_
                      rintro e W3 (⟨rfl, hJ3, hk3⟩ | ⟨rfl, hJx3⟩)
                      · gi_wp2
                        go_roundw
                        case rel => exact ⟨q + 1, by omega, by simp, by rw [v5_succ]; exact hJ3, hkp.trans hk3, hbk1.kp2 hk3 hcB, hbk2.kp2 hk3 hdB⟩
                        case measure => simp [intOf]; omega
                      · gi_wp2
                        refine bodyPost_ret (results_none rfl _ _ _) rfl ?_
                        exact ⟨⟨_, rfl⟩, .inr ⟨_, HP.out, hJx3⟩⟩
                    · obtain rfl : q = m.word.toNat := by omega
                      rw [v5_full HX2.out] at hJs
                      gi_wp2
                      go_roundw
                      case rel => exact ⟨j + 1, by omega, by simp, hJs, hkp, hbk1⟩
                      case measure => simp [intOf]; omega
                · rw [v4_full HX.out (by omega)] at hJs
                  gi_wp2
                  go_roundw
                  case rel => exact ⟨k + 1, by omega, by simp, hJs, hkp⟩
                  case measure => simp [intOf]; omega
            · rw [v3_full (by omega)] at hJs
              have hf4 : wr.cell? ⟨Bx, 7, none⟩ = some (.slice N.An N.ands.length N.cn) := (HB.out.kp2 hkp hBl).cell 7
              gi_wp2
              obtain ⟨w3, rfl⟩ : ∃ w3 : World, w3 = wr := ⟨_, rfl⟩
              clear hf4 hlt hk hsz
              gi_loopw [71] (fun i wr => ∃ k : Nat, k ≤ N.ands.length ∧ i = .int .i64 k ∧ J (v6 N k) wr ∧ Kp2 n₀ B W wr) (fun i _ => N.ands.length - (intOf i).toNat)
              case atStart => exact ⟨0, Nat.zero_le _, rfl, hJs, hkp⟩
              case round =>
                clear hJs hkp
                obtain ⟨k, hk, rfl, hJs, hkp⟩ := hrel
                have hsz := hkp.below.size
                by_cases hlt : k < N.ands.length
                · obtain ⟨b, off, x, e1, hb, hx, hm, hcs⟩ := (HOK.out.below hkp.below).and.elem (by omega) (fun _ => rfl) hlt
                  obtain ⟨hc0, hc1, hc2⟩ := AndD.at_ hcs
                  have hp := v6_pre hx
                  obtain ⟨fn, tmps, assign, body, hy, hR⟩ := HY.out (v6 N k) x.var (wr.alloc (.cells #[.int .i64 x.var, .int .i64 x.a, .int .i64 x.b] 162)) (HJ.out _ _ _ hJs) (pre_lt hp)
                  have HX := Lib.hid hx
                  have HP := Lib.hid hp
                  clear hx hp hm hcs
                  rw [e1]
                  clear e1
                  gi_wp2
                  refine hR.mono ?_
                  rintro e W3 (⟨rfl, hJ3, hk3⟩ | ⟨rfl, hJx3⟩)
                  · gi_wp2
                    go_roundw
                    case rel => exact ⟨k + 1, by omega, by simp, by rw [v6_succ HX.out]; exact hJ3, (hkp.alloc (by omega) _).trans hk3⟩
                    case measure => simp [intOf]; omega
                  · gi_wp2
                    refine bodyPost_ret (results_none rfl _ _ _) rfl ?_
                    exact ⟨⟨_, rfl⟩, .inr ⟨_, HP.out, hJx3⟩⟩
                · rw [v6_full (by omega)] at hJs
                  gi_wp2
                  go_end0
                  exact ⟨⟨_, rfl⟩, .inl ⟨_, rfl, hJs⟩⟩

theorem vars_stops (F : Fence) (n : Nat) (hF : F.fn 389) (hro : F.round = none) (hn : 1 ≤ n) (Bx n₀ B : Nat) (N : NetH) (w : World)
    (hBx : Blk w Bx 60 N.fs) (hBl : B ≤ Bx) (hok : N.okIn w n₀) (hn0 : n₀ ≤ w.heap.size) (ft : Fit N.d) :
    SeqStopsK F n Tryz.prog 389 #[.pointer (some ⟨Bx, 0, none⟩)] (fun x : Int => #[Value.int .i64 x]) (Kp2 n₀ B) (fun ys => ys = definedL N.d) (fun pre => pre <+: definedL N.d) (definedL N.d).length w :=
  fun l J Jx W hW hJ _ hY h0 => vars1_in F n hF hro hn l Bx n₀ B N J Jx W (fun s A o h => hJ s A _ none h (World.grownBy_alloc A o none) (fun r e => by cases e)) hY (hBx.below hW hBx.lt) hBl (hok.below (hW.mono hn0)) (Nat.le_trans hn0 hW.size) (Nat.le_trans (Nat.le_of_lt (Nat.lt_of_le_of_lt hBl hBx.lt)) hW.size) h0 ft
theorem vars_in (F : Fence) (n : Nat) (hF : F.fn 355) (hro : F.round = none) (N : NetH) (w : World) :
    CallsIn F n Tryz.prog 355 #[N.v] w fun e w' => e = .returned (.func (.func 389) #[] #[.pointer (some ⟨w.heap.size, 0, none⟩)]) ∧ w' = w.alloc (.cells N.fs 60) := by
  unfold NetH.v NetH.fs
  refine callsIn_of_wp Tryz.func355 rfl hF ?_ hro
  simp only [Tryz.ntmps355, List.size_toArray, List.length_cons, List.length_nil, Nat.reduceAdd, Nat.reduceSub, Array.replicate_succ, Array.replicate_zero, List.push_toArray, List.append_toArray, List.nil_append, List.cons_append]
  gi_wp2
  go_ret
  exact ⟨rfl, rfl⟩
end Go.Proofs.YtpdgjcejkmkglaaGreat
