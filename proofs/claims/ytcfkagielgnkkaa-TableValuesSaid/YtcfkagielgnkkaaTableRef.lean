/- The reference's table in memory: Set, Lit. -/
import Derived.Test.YtcfkagielgnkkaaTableDom
import Derived.Test.YtcfkagielgnkkaaViewActs
namespace Go.Proofs.Ytcfkagielgnkkaa
open Go.RowKit Pl
set_option linter.unusedVariables false
abbrev Cell3 := Int × Int × Int
def cvals (c : Cell3) : List Value := [.int .i64 c.1, .int .i64 c.2.1, .int .i64 c.2.2]
structure Rt (w : World) (g V n : Nat) (cv : Value) (cs : List Cell3) : Prop where
  hd : Blk w g 103 #[.int .i64 V, .int .i64 n, cv]
  own : w.ownsRow 0 114 3 cv cs.length (cs.flatMap cvals)
  bnd : ∀ c ∈ cs, 0 ≤ c.1 ∧ c.1 < n ∧ 1 ≤ c.2.1 ∧ c.2.1 ≤ V ∧ -65536 ≤ c.2.2 ∧ c.2.2 ≤ 65536
  ll : cs.length ≤ 1000000
  hv : V ≤ 2000
  hn : n ≤ 1000000
def RD (w : World) (g V n : Nat) (cs : List Cell3) (D : Nat → Prop) : Prop := ∃ cv, Rt w g V n cv cs ∧ D g ∧ ∀ b, cv.ownBlock = some b → D b
section
variable {w w' : World} {g V n : Nat} {cv : Value} {cs : List Cell3} {D D' : Nat → Prop}
theorem Rt.c0 (h : Rt w g V n cv cs) : w.cell? ⟨g, 0, none⟩ = some (.int .i64 V) := by simpa using h.hd.cell 0
theorem Rt.c1 (h : Rt w g V n cv cs) : w.cell? ⟨g, 1, none⟩ = some (.int .i64 n) := by simpa using h.hd.cell 1
theorem Rt.c2 (h : Rt w g V n cv cs) : w.cell? ⟨g, 2, none⟩ = some cv := by simpa using h.hd.cell 2
theorem Rt.slc (h : Rt w g V n cv cs) : ∃ A c, cv = .slice A cs.length c ∧ cs.length ≤ c ∧ c ≤ maxLen := by
  obtain ⟨A, c, e, h1, h2, _⟩ := own_slice h.own
  exact ⟨A, c, e, h1, h2⟩
theorem Rt.at_c (h : Rt w g V n cv cs) {k : Nat} (hk : k < cs.length) : ∃ gl c x, cv = .slice (some ⟨gl, 0, none⟩) cs.length c ∧ cs[k]? = some x ∧
    w.cell? ⟨gl, k * 3, none⟩ = some (.int .i64 x.1) ∧ w.cell? ⟨gl, k * 3 + 1, none⟩ = some (.int .i64 x.2.1) ∧ w.cell? ⟨gl, k * 3 + 2, none⟩ = some (.int .i64 x.2.2) := by
  obtain ⟨gl, cap, e, _⟩ := h.own.form (by omega)
  subst e
  have hr := Reads.of_own h.own
  obtain ⟨b, off, x, e1, _, hx, hc⟩ := hr.elem (f := cvals) (by omega) (fun _ => rfl) rfl hk
  injection e1 with e1
  injection e1 with e1 e2
  subst e1 e2
  have h0 := hc 0 _ rfl
  have h1 := hc 1 _ rfl
  have h2 := hc 2 _ rfl
  simp only [Nat.zero_add, Nat.add_zero] at h0 h1 h2
  exact ⟨gl, cap, x, rfl, hx, h0, h1, h2⟩
theorem RD.frm (h : RD w g V n cs D) (hf : Frm D' w w') (hd : ∀ b, D b → ¬ D' b) : RD w' g V n cs D := by
  obtain ⟨cv, h, d1, d2⟩ := h
  exact ⟨cv, ⟨hf.blk h.hd (hd _ d1), hf.own h.own (fun b hb => hd b (d2 b hb)), h.bnd, h.ll, h.hv, h.hn⟩, d1, d2⟩
theorem RD.drewN (h : RD w g V n cs D) (q : Nat) : RD (w.drewN q) g V n cs D := h.frm (D' := fun _ => False) ((Frm.refl _ _).drewN q) (fun _ _ h => h)
theorem RD.lt (h : RD w g V n cs D) : g < w.heap.size := by obtain ⟨cv, h, _⟩ := h; exact h.hd.lt
end
/-- append of one element of several cells onto a row of the call's own: where the new row lies -/
theorem wpList_append_cells {P : Program} (W : World) {ops : Array Oper} {rest : List Oper} {o : Oper} {a : Act} {Q : Exit → Act → World → Prop} (hgd : o.guard = none) (s x : Operand) (t : TypeId)
    (ho : o.op = .call { callee := .builtin .append, args := #[s, x], argTypes := #[t, t] })
    (base : Nat) (e : TypeId) (z : Value) (size bytes : Nat) (ht : P.underlying t = some (.slice e)) (hi : (P.info? e).map (fun i => (i.zero, i.size, i.bytes)) = some (some z, size, bytes)) (hz : z.cells.size = size) (hsz : 0 < size)
    (v : Value) (n : Nat) (xs : List Value) (hs : a.eval s = v) (hown : W.ownsRow base e size v n xs)
    (us : List Value) (hus : us.length = size) (hu : ∀ u ∈ us, u.oneCell' = true) (m : Nat) (hx : a.eval x = .slice (some ⟨m, 0, none⟩) 1 1) (hm : m = W.heap.size) (hn : n ≤ 1000000) (hby : bytes ≤ 1000) (hbase : base ≤ W.heap.size)
    (h : ∀ v' w', w'.ownsRow base e size v' (n + 1) (xs ++ us) → W.grownBy w' v.ownBlock → (v'.ownBlock = v.ownBlock ∨ v'.ownBlock = some (W.heap.size + 1)) → wpList P ops Q rest (a.put o.dst v') w') : wpList P ops Q (o :: rest) a (W.alloc (.cells us.toArray e)) := by
  subst hm
  obtain ⟨i0, hi0, hz0, hz1, hz2⟩ := info_parts hi
  have hr : Reads (W.alloc (.cells us.toArray e)) (W.heap.size + 1) size (some ⟨W.heap.size, 0, none⟩) 1 us := by
    refine ⟨by rw [hus]; omega, fun _ => ⟨_, rfl, by simp, fun j u hj => cells_of_new W us.toArray e j u (by simpa using hj)⟩⟩
  have hbb : (n + 1) * bytes ≤ 1000001 * 1000 := Nat.mul_le_mul (by omega) hby
  refine wpList_append_any _ hgd s x t ho base e i0 z size bytes ht hi0 hz0 hz1 hz2 hz hsz v n xs hs (hown.alloc _) _ _ 1 1 us hx hr hu (by unfold maxLen; omega) (by omega) (by simp; omega) ?_
  intro v' w' h2 h3 h4
  have hg : W.grownBy w' v.ownBlock := ⟨h3.os, h3.tape, h3.output, Nat.le_trans (by simp) h3.size, fun i hi hne => (h3.block i (by simp; omega) hne).trans (Below.heap_alloc W _ i hi)⟩
  exact h v' w' h2 hg (by simpa using h4)
theorem info_cell : (Try.prog.info? 114).map (fun i => (i.zero, i.size, i.bytes)) = some (some (.agg #[.int .i64 0, .int .i64 0, .int .i64 0]), 3, 24) := by kernel_rfl
set_option maxHeartbeats 800000 in
theorem rset_no {w : World} {g V n : Nat} {cs : List Cell3} {D : Nat → Prop} (frame v l : Int) (h : RD w g V n cs D) (hno : ¬ setOk n V frame v l) :
    Calls Try.prog 79 #[.pointer (some ⟨g, 0, none⟩), .int .i64 frame, .int .i64 v, .int .i64 l] w fun e w' => e = .returned (.bool false) ∧ w = w' := by
  unfold setOk at hno
  obtain ⟨cv, h, _⟩ := h
  have c0 := h.c0
  have c1 := h.c1
  have hV := h.hv
  have hn := h.hn
  clear h
  rcases (show frame < 0 ∨ (0 ≤ frame ∧ (n : Int) ≤ frame) ∨ (0 ≤ frame ∧ frame < n ∧ v < 1) ∨ (0 ≤ frame ∧ frame < n ∧ 1 ≤ v ∧ (V : Int) < v) ∨ (0 ≤ frame ∧ frame < n ∧ 1 ≤ v ∧ v ≤ V ∧ l = 0) ∨ (0 ≤ frame ∧ frame < n ∧ 1 ≤ v ∧ v ≤ V ∧ l ≠ 0 ∧ 65536 < l) ∨ (0 ≤ frame ∧ frame < n ∧ 1 ≤ v ∧ v ≤ V ∧ l ≠ 0 ∧ l < -65536) from by omega) with h1 | ⟨h1, h2⟩ | ⟨h1, h2, h3⟩ | ⟨h1, h2, h3, h4⟩ | ⟨h1, h2, h3, h4, h5⟩ | ⟨h1, h2, h3, h4, h5, h6⟩ | ⟨h1, h2, h3, h4, h5, h6⟩
  · clear hno
    go_enter Try.func79, Try.ntmps79
    go_wp2_with fail
    go_ret
    exact ⟨rfl, rfl⟩
  · clear hno
    go_enter Try.func79, Try.ntmps79
    go_wp2_with fail
    go_ret
    exact ⟨rfl, rfl⟩
  · clear hno
    go_enter Try.func79, Try.ntmps79
    go_wp2_with fail
    go_ret
    exact ⟨rfl, rfl⟩
  · clear hno
    go_enter Try.func79, Try.ntmps79
    go_wp2_with fail
    go_ret
    exact ⟨rfl, rfl⟩
  · clear hno
    have h5' : (l == 0) = true := beq_iff_eq.2 h5
    clear h5
    go_enter Try.func79, Try.ntmps79
    go_wp2_with fail
    go_ret
    exact ⟨rfl, rfl⟩
  · clear hno
    have h5' : (l == 0) = false := beq_eq_false_iff_ne.2 h5
    clear h5
    go_enter Try.func79, Try.ntmps79
    go_wp2_with fail
    go_ret
    exact ⟨rfl, rfl⟩
  · clear hno
    have h5' : (l == 0) = false := beq_eq_false_iff_ne.2 h5
    clear h5
    go_enter Try.func79, Try.ntmps79
    go_wp2_with fail
    go_ret
    exact ⟨rfl, rfl⟩
theorem flat_snoc (cs : List Cell3) (c : Cell3) : (cs ++ [c]).flatMap cvals = cs.flatMap cvals ++ cvals c := by simp
theorem Rt.pushed {w w3 : World} {g V n : Nat} {cv v' : Value} {cs : List Cell3} {c : Cell3} (h : Rt w g V n cv cs) (hl : cs.length < 1000000) (hc : 0 ≤ c.1 ∧ c.1 < n ∧ 1 ≤ c.2.1 ∧ c.2.1 ≤ V ∧ -65536 ≤ c.2.2 ∧ c.2.2 ≤ 65536)
    (ho : w3.ownsRow 0 114 3 v' (cs.length + 1) (cs.flatMap cvals ++ cvals c)) (hg : w.grownBy w3 cv.ownBlock) :
    w3.cell? ⟨g, 2, none⟩ = some cv ∧ w3.frozen? ⟨g, 2, none⟩ = false ∧ Rt (w3.setCell ⟨g, 2, none⟩ v') g V n v' (cs ++ [c]) := by
  have b1 := h.hd.grown hg (fun e => own_blk_ne h.own h.hd (by decide) e.symm)
  have hne : v'.ownBlock ≠ some g := own_blk_ne ho b1 (by decide)
  refine ⟨by simpa using b1.cell 2, b1.frozen 2, ?_, ?_, fun x hx => ?_, by simp; omega, h.hv, h.hn⟩
  · have := b1.set_ 2 v'
    simpa using this
  · rw [flat_snoc, List.length_append]
    refine ⟨ho.1, ?_⟩
    rcases ho.2 with h1 | ⟨gl, cap, cur, rfl, hb, hh, r⟩
    · exact .inl h1
    · have hB : Blk w3 gl 114 cur := hh
      exact .inr ⟨gl, cap, cur, rfl, hb, hB.far (p := ⟨g, 2, none⟩) (fun e => hne (by rw [e]; rfl)) _, r⟩
  · rw [List.mem_append] at hx
    rcases hx with hx | hx
    · exact h.bnd x hx
    · simp at hx; subst hx; exact hc
set_option maxHeartbeats 800000 in
theorem rset_yes {w : World} {g V n : Nat} {cs : List Cell3} {D : Nat → Prop} (frame v l : Int) (h : RD w g V n cs D) (hok : setOk n V frame v l) (hl : cs.length < 1000000) :
    Calls Try.prog 79 #[.pointer (some ⟨g, 0, none⟩), .int .i64 frame, .int .i64 v, .int .i64 l] w fun e w' => e = .returned (.bool true) ∧ ∃ D' : Nat → Prop, RD w' g V n (cs ++ [(frame, v, l)]) D' ∧ (∀ b, D' b → D b ∨ w.heap.size ≤ b) ∧ Frm D w w' := by
  obtain ⟨h1, h2, h3, h4, h5, h6, h7⟩ := hok
  obtain ⟨cv, h, d1, d2⟩ := h
  have c0 := h.c0
  have c1 := h.c1
  have c2 := h.c2
  have hV := h.hv
  have hn := h.hn
  have hown := h.own
  have h5' : (l == 0) = false := beq_eq_false_iff_ne.2 h5
  have HH := Lib.hid h
  have HD1 := Lib.hid d1
  have HD2 := Lib.hid d2
  clear h d1 d2 h5
  go_enter Try.func79, Try.ntmps79
  go_wp2_with (at_builtin; refine wpList_append_cells _ rfl _ _ 101 rfl 0 114 (.agg #[.int .i64 0, .int .i64 0, .int .i64 0]) 3 24 Try.underlying101 info_cell rfl (by omega) cv _ _ rfl hown (cvals (frame, v, l)) rfl (by intro u hu; simp [cvals] at hu; rcases hu with rfl | rfl | rfl <;> rfl) _ rfl rfl (by omega) (by omega) (Nat.zero_le _) ?_; intro v' w3 hown' hg' hat'; obtain ⟨hcg, hfg, hP⟩ := HH.out.pushed (c := (frame, v, l)) hl ⟨h1, h2, h3, h4, h6, h7⟩ hown' hg'; have HP := Lib.hid hP; have HG := Lib.hid hg'; have HAT := Lib.hid hat'; obtain ⟨A', c', rfl, hc1', hc2', _⟩ := own_slice hown'; clear hown' hg' hat' hP)
  go_ret
  refine ⟨rfl, fun b => D b ∨ w.heap.size ≤ b, ⟨_, HP.out, .inl HD1.out, fun b hb => ?_⟩, fun b hb => hb, Frm.setCell (Frm.grown (Frm.refl _ _) HG.out (fun b hb => HD2.out b hb)) HD1.out⟩
  rcases HAT.out with e | e
  · exact .inl (HD2.out b (by rw [← e]; exact hb))
  · rw [hb] at e
    injection e with e
    exact .inr (by omega)

/-- what was set last -/
def look (cs : List Cell3) (frame v : Int) : Int := cs.foldl (fun o c => if c.1 = frame ∧ c.2.1 = v then c.2.2 else o) (if v = 0 then -1 else 0)
theorem look_snoc (cs : List Cell3) (c : Cell3) (frame v : Int) : look (cs ++ [c]) frame v = if c.1 = frame ∧ c.2.1 = v then c.2.2 else look cs frame v := by simp [look]
theorem fold_bnd (frame v : Int) : ∀ (cs : List Cell3) (o : Int), -65536 ≤ o ∧ o ≤ 65536 → (∀ c ∈ cs, -65536 ≤ c.2.2 ∧ c.2.2 ≤ 65536) →
    -65536 ≤ cs.foldl (fun o c => if c.1 = frame ∧ c.2.1 = v then c.2.2 else o) o ∧ cs.foldl (fun o c => if c.1 = frame ∧ c.2.1 = v then c.2.2 else o) o ≤ 65536
  | [], o, ho, _ => ho
  | c :: cs, o, ho, h => by
    rw [List.foldl_cons]
    refine fold_bnd frame v cs _ ?_ fun x hx => h x (by simp [hx])
    split
    · exact h c (by simp)
    · exact ho
theorem look_bnd (cs : List Cell3) (frame v : Int) (h : ∀ c ∈ cs, -65536 ≤ c.2.2 ∧ c.2.2 ≤ 65536) : -65536 ≤ look cs frame v ∧ look cs frame v ≤ 65536 :=
  fold_bnd frame v cs _ (by split <;> omega) h
theorem take_snoc3 (cs : List Cell3) (k : Nat) (x : Cell3) (h : cs[k]? = some x) : cs.take (k + 1) = cs.take k ++ [x] := by
  obtain ⟨hl, e⟩ := List.getElem?_eq_some_iff.1 h
  rw [List.take_succ_eq_append_getElem hl, e]
def litR (n : Nat) (cs : List Cell3) (frame l : Int) : Int := if frame < 0 ∨ (n : Int) ≤ frame ∨ l < 0 then 0 else if l % 2 = 1 then - look cs frame (l / 2) else look cs frame (l / 2)
end Go.Proofs.Ytcfkagielgnkkaa
