/- made: both tables behind the same acts. -/
import Derived.Test.YtcfkagielgnkkaaTableAgree
import Derived.Deep.RegionHeld3
namespace Go.Proofs.Ytcfkagielgnkkaa
open Go.RowKit Pl Go.ChangeShapes Go.WideShapes Go.Deep
set_option linter.unusedVariables false
/-- an act of the table: its kind, its frame, its variable, its literal -/
structure Act30 where
  kind : Int
  frame : Int
  v : Int
  l : Int
def Act30.cells (a : Act30) : List Value := [.int .i64 a.kind, .int .i64 a.frame, .int .i64 a.v, .int .i64 a.l]
theorem view_acts30 {H : Type} {enc : TypeId × Value → H} {W : World} {A : Option Addr} {len cap : Nat} {d : DataW H} {p : List MemPlace} (h : DataW.Trod enc Try.prog W 0 (fun _ => true) true 70 (.slice A len cap) d p) :
    ∃ l : List Act30, l.length = len ∧ Reads W W.heap.size 4 A len (l.flatMap Act30.cells) ∧ len ≤ cap ∧ cap ≤ maxLen ∧ ∀ x ∈ l, True := by
  refine view_slice Try.underlying70 (show Try.prog.cellsOf 105 = 4 from by kernel_rfl) (by omega) Act30.cells (fun _ => rfl) (fun _ => True) (fun n cs y hy => ?_) h
  obtain ⟨hl, hf⟩ := struct_cells Try.underlying105 (by kernel_rfl) (by kernel_rfl) hy
  obtain ⟨v0, y0, m0, e0, t0⟩ := hf 0 _ rfl
  obtain ⟨v1, y1, m1, e1, t1⟩ := hf 1 _ rfl
  obtain ⟨v2, y2, m2, e2, t2⟩ := hf 2 _ rfl
  obtain ⟨v3, y3, m3, e3, t3⟩ := hf 3 _ rfl
  obtain ⟨k, h0, _, w0⟩ := DataW.trod_int Try.underlying3 t0
  obtain ⟨s, h1, _, w1⟩ := DataW.trod_int Try.underlying3 t1
  obtain ⟨m, h2, _, w2⟩ := DataW.trod_int Try.underlying3 t2
  obtain ⟨q, h3, _, w3⟩ := DataW.trod_int Try.underlying3 t3
  simp only [List.cons.injEq, and_true] at h0 h1 h2 h3
  subst h0 h1 h2 h3
  match cs, hl with
  | [c0, c1, c2, c3], _ =>
    simp at e0 e1 e2 e3
    subst e0 e1 e2 e3
    exact ⟨⟨k, s, m, q⟩, rfl, trivial⟩
theorem Act30.cells_at {w : World} {b off k : Nat} {a : Act30} (h : ∀ j u, a.cells[j]? = some u → w.cell? ⟨b, off + (k * 4 + j), none⟩ = some u) :
    w.cell? ⟨b, off + k * 4, none⟩ = some (.int .i64 a.kind) ∧ w.cell? ⟨b, off + k * 4 + 1, none⟩ = some (.int .i64 a.frame) ∧ w.cell? ⟨b, off + k * 4 + 2, none⟩ = some (.int .i64 a.v) ∧ w.cell? ⟨b, off + k * 4 + 3, none⟩ = some (.int .i64 a.l) :=
  ⟨h 0 _ rfl, h 1 _ rfl, h 2 _ rfl, h 3 _ rfl⟩
theorem RD.c1 {w : World} {g V n : Nat} {cs : List Cell3} {D : Nat → Prop} (h : RD w g V n cs D) : w.cell? ⟨g, 1, none⟩ = some (.int .i64 n) ∧ w.frozen? ⟨g, 1, none⟩ = false ∧ n ≤ 1000000 := by
  obtain ⟨cv, h, _⟩ := h; exact ⟨h.c1, h.hd.frozen 1, h.hn⟩
/-- both behind a Push: the reference's count is raised -/
theorem MR.pushed {w w' : World} {base V g gr n : Nat} {frames : List (List Int)} {cs : List Cell3} {D1 D2 D1' : Nat → Prop} (hbase : base ≤ w.heap.size) (hn : n < 1000000) (r : RD w gr V n cs D2) (ag : Agree V n frames cs) (dj : ∀ b, D1 b → ¬ D2 b) (l1 : ∀ b, D1 b → base ≤ b ∧ b < w.heap.size) (l2 : ∀ b, D2 b → base ≤ b ∧ b < w.heap.size)
    (t : TD w' V g (frames ++ [frame0 V]) D1') (hd : ∀ b, D1' b → D1 b ∨ w.heap.size ≤ b) (hf : Frm D1 w w') :
    w'.cell? ⟨gr, 1, none⟩ = some (.int .i64 n) ∧ w'.frozen? ⟨gr, 1, none⟩ = false ∧ MR (w'.setCell ⟨gr, 1, none⟩ (.int .i64 ((n : Int) + 1))) base V g gr (n + 1) (frames ++ [frame0 V]) cs ∧ Below base w (w'.setCell ⟨gr, 1, none⟩ (.int .i64 ((n : Int) + 1))) := by
  have r2 := r.frm hf (fun b h h' => dj b h' h)
  obtain ⟨c1, c2, _⟩ := r2.c1
  obtain ⟨cv, rt, d1, d2⟩ := r2
  have hgr := l2 gr d1
  refine ⟨c1, c2, ?_, ?_⟩
  · refine ⟨fun b => D1' b ∧ b < w'.heap.size, D2, ?_, ?_, ag.push, fun b ⟨h1, _⟩ h2 => ?_, fun b ⟨h1, h3⟩ => ?_, fun b hb => ?_⟩
    · refine TD.frm (D' := fun b => b = gr) t.cap ((Frm.refl _ _).setCell rfl) fun b ⟨h1, _⟩ e => ?_
      subst e
      rcases hd _ h1 with h5 | h5
      · exact dj _ h5 d1
      · omega
    · refine ⟨cv, ⟨?_, ?_, fun c hc => by have := rt.bnd c hc; omega, rt.ll, rt.hv, by omega⟩, d1, d2⟩
      · have := rt.hd.set_ 1 (.int .i64 ((n : Int) + 1))
        simpa using this
      · have hne : cv.ownBlock ≠ some gr := own_blk_ne rt.own rt.hd (by decide)
        exact (Frm.setCell (D := fun b => b = gr) (Frm.refl _ w') (p := ⟨gr, 1, none⟩) rfl).own rt.own (fun b hb e => hne (by rw [hb, e]))
    · rcases hd b h1 with h5 | h5
      · exact dj b h5 h2
      · have := l2 b h2; omega
    · have hs := hf.size
      simp only [World.size_setCell]
      rcases hd b h1 with h5 | h5
      · have := l1 b h5; omega
      · omega
    · have hs := hf.size
      simp only [World.size_setCell]
      have := l2 b hb; omega
  · exact (hf.below hbase (fun b hb => (l1 b hb).1)).setCell hgr.1 _
end Go.Proofs.Ytcfkagielgnkkaa
