/- The heap in memory, and what its small methods do: is, ahead, put, Len, Has, Activity. -/
import Derived.Test.YtcfkagielgnkkaaAppend
import Derived.Test.YtcfkagielgnkkaaHeapLaw
namespace Go.Proofs.Ytcfkagielgnkkaa
open Go.RowKit Pl
set_option linter.unusedVariables false

def i64s (l : List Int) : List Value := l.map (Value.int .i64)
theorem i64s_length (l : List Int) : (i64s l).length = l.length := by simp [i64s]
theorem i64s_at (l : List Int) (i : Nat) (h : i < l.length) : (i64s l)[i]? = some (.int .i64 (at_ l i)) := by
  unfold i64s at_
  rw [List.getElem?_map, List.getElem?_eq_getElem h, List.getD_eq_getElem?_getD, List.getElem?_eq_getElem h]; rfl
theorem i64s_set (l : List Int) (i : Nat) (x : Int) : (i64s l).set i (.int .i64 x) = i64s (l.set i x) := by simp [i64s, List.map_set]

/-- a heap at block g: its list (a row of the call's own), places (block gp) and activities (block ga) -/
structure Hp (w : World) (base V g gp ga : Nat) (lv : Value) (ls ps az : List Int) : Prop where
  hd : Blk w g 98 #[lv, .slice (some ⟨gp, 0, none⟩) (V + 1) (V + 1), .slice (some ⟨ga, 0, none⟩) (V + 1) (V + 1)]
  own : w.ownsRow base 3 1 lv ls.length (i64s ls)
  pl : Blk w gp 3 (i64s ps).toArray
  ac : Blk w ga 2 (i64s az).toArray
  ne : lv.ownBlock ≠ some gp
  bg : base ≤ g
  bp : base ≤ gp
  ba : base ≤ ga
  lp : ps.length = V + 1
  la : az.length = V + 1
  hv : V ≤ 1048576
  ll : ls.length ≤ 1048576

section
variable {w w' : World} {base V g gp ga : Nat} {lv : Value} {ls ps az : List Int}
theorem Hp.c0 (h : Hp w base V g gp ga lv ls ps az) : w.cell? ⟨g, 0, none⟩ = some lv := by simpa using h.hd.cell 0
theorem Hp.c1 (h : Hp w base V g gp ga lv ls ps az) : w.cell? ⟨g, 1, none⟩ = some (.slice (some ⟨gp, 0, none⟩) (V + 1) (V + 1)) := by simpa using h.hd.cell 1
theorem Hp.c2 (h : Hp w base V g gp ga lv ls ps az) : w.cell? ⟨g, 2, none⟩ = some (.slice (some ⟨ga, 0, none⟩) (V + 1) (V + 1)) := by simpa using h.hd.cell 2
theorem Hp.at_p (h : Hp w base V g gp ga lv ls ps az) {v : Nat} (hv : v ≤ V) : w.cell? ⟨gp, v, none⟩ = some (.int .i64 (at_ ps v)) := by
  rw [h.pl.cell v]; simpa using i64s_at ps v (by have := h.lp; omega)
theorem Hp.at_a (h : Hp w base V g gp ga lv ls ps az) {v : Nat} (hv : v ≤ V) : w.cell? ⟨ga, v, none⟩ = some (.int .i64 (at_ az v)) := by
  rw [h.ac.cell v]; simpa using i64s_at az v (by have := h.la; omega)
theorem Hp.slc (h : Hp w base V g gp ga lv ls ps az) : ∃ A c, lv = .slice A ls.length c ∧ ls.length ≤ c ∧ c ≤ maxLen := by
  obtain ⟨A, c, e, h1, h2, _⟩ := own_slice h.own
  exact ⟨A, c, e, h1, h2⟩
theorem Hp.at_l (h : Hp w base V g gp ga lv ls ps az) {i : Nat} (hi : i < ls.length) : ∃ gl c, lv = .slice (some ⟨gl, 0, none⟩) ls.length c ∧ ls.length ≤ c ∧ gl ≠ gp ∧ gl ≠ g ∧ gl ≠ ga ∧
    (∀ j, j < ls.length → w.cell? ⟨gl, j, none⟩ = some (.int .i64 (at_ ls j))) ∧ ∀ j, w.frozen? ⟨gl, j, none⟩ = false := by
  rcases h.own.2 with ⟨_, h0⟩ | ⟨gl, cap, cur, rfl, hb, hh, hl, hm, hs, ht⟩
  · omega
  · have hB : Blk w gl 3 cur := hh
    refine ⟨gl, cap, rfl, hl, fun e => h.ne (by rw [e]; rfl), hB.ne_ h.hd (by decide), hB.ne_ h.ac (by decide), fun j hj => ?_, fun j => hB.frozen j⟩
    rw [hB.cell j]
    have h1 := i64s_at ls j hj
    rw [← ht] at h1
    rw [List.getElem?_take, if_pos (by omega)] at h1
    simpa using h1
theorem Hp.drewN (h : Hp w base V g gp ga lv ls ps az) (q : Nat) : Hp (w.drewN q) base V g gp ga lv ls ps az := ⟨h.hd, h.own, h.pl, h.ac, h.ne, h.bg, h.bp, h.ba, h.lp, h.la, h.hv, h.ll⟩
theorem own_set {w : World} {base : Nat} {e : TypeId} {gl n cap j : Nat} {xs : List Value} {u : Value} (h : w.ownsRow base e 1 (.slice (some ⟨gl, 0, none⟩) n cap) n xs) : (w.setCell ⟨gl, j, none⟩ u).ownsRow base e 1 (.slice (some ⟨gl, 0, none⟩) n cap) n (xs.set j u) := (h.stored j u).1
theorem own_far {w : World} {base : Nat} {e : TypeId} {v : Value} {n : Nat} {xs : List Value} {p : Addr} {u : Value} (h : w.ownsRow base e 1 v n xs) (hne : v.ownBlock ≠ some p.block) : (w.setCell p u).ownsRow base e 1 v n xs := by
  refine h.kept (row := some p.block) ?_ (.inr hne)
  exact ⟨rfl, rfl, rfl, by simp [World.setCell], fun i hi hn => Below.heap_setCell w p u i (fun e => hn (by rw [e]))⟩
theorem Hp.ne_g (h : Hp w base V g gp ga lv ls ps az) : lv.ownBlock ≠ some g := own_blk_ne h.own h.hd (by decide)
theorem Hp.ne_a (h : Hp w base V g gp ga lv ls ps az) : lv.ownBlock ≠ some ga := own_blk_ne h.own h.ac (by decide)
theorem Hp.set_l {gl c j : Nat} {x : Int} (h : Hp w base V g gp ga (.slice (some ⟨gl, 0, none⟩) ls.length c) ls ps az) :
    Hp (w.setCell ⟨gl, j, none⟩ (.int .i64 x)) base V g gp ga (.slice (some ⟨gl, 0, none⟩) ls.length c) (ls.set j x) ps az := by
  have n1 : g ≠ gl := fun e => h.ne_g (by rw [e]; rfl)
  have n2 : gp ≠ gl := fun e => h.ne (by rw [e]; rfl)
  have n3 : ga ≠ gl := fun e => h.ne_a (by rw [e]; rfl)
  refine ⟨h.hd.far n1 _, ?_, h.pl.far n2 _, h.ac.far n3 _, h.ne, h.bg, h.bp, h.ba, h.lp, h.la, h.hv, by simpa using h.ll⟩
  rw [List.length_set, ← i64s_set]
  exact own_set h.own
theorem Hp.set_p {v : Nat} {x : Int} (h : Hp w base V g gp ga lv ls ps az) : Hp (w.setCell ⟨gp, v, none⟩ (.int .i64 x)) base V g gp ga lv ls (ps.set v x) az := by
  have n1 : g ≠ gp := h.hd.ne_ h.pl (by decide)
  have n3 : ga ≠ gp := h.ac.ne_ h.pl (by decide)
  refine ⟨h.hd.far n1 _, own_far h.own h.ne, ?_, h.ac.far n3 _, h.ne, h.bg, h.bp, h.ba, by simpa using h.lp, h.la, h.hv, h.ll⟩
  have := h.pl.set_ v (.int .i64 x)
  rwa [List.setIfInBounds_toArray, i64s_set] at this
theorem Hp.set_a {v : Nat} {x : Int} (h : Hp w base V g gp ga lv ls ps az) : Hp (w.setCell ⟨ga, v, none⟩ (.int .i64 x)) base V g gp ga lv ls ps (az.set v x) := by
  have n1 : g ≠ ga := h.hd.ne_ h.ac (by decide)
  have n3 : gp ≠ ga := h.pl.ne_ h.ac (by decide)
  refine ⟨h.hd.far n1 _, own_far h.own h.ne_a, h.pl.far n3 _, ?_, h.ne, h.bg, h.bp, h.ba, h.lp, by simpa using h.la, h.hv, h.ll⟩
  have := h.ac.set_ v (.int .i64 x)
  rwa [List.setIfInBounds_toArray, i64s_set] at this
end

def isB (V : Nat) (v : Int) : Bool := decide (1 ≤ v) && decide (v ≤ V)
theorem isB_true {V : Nat} {v : Int} (h1 : 1 ≤ v) (h2 : v ≤ V) : isB V v = true := by simp [isB, h1, h2]
theorem isB_false {V : Nat} {v : Int} (h : ¬ (1 ≤ v ∧ v ≤ V)) : isB V v = false := by
  cases hb : isB V v with
  | false => rfl
  | true => simp [isB] at hb; exact absurd hb h
theorem is_any {w : World} {base V g gp ga : Nat} {lv : Value} {ls ps az : List Int} (v : Int) (h : Hp w base V g gp ga lv ls ps az) :
    Calls Try.prog 74 #[.pointer (some ⟨g, 0, none⟩), .int .i64 v] w fun e w' => e = .returned (.bool (isB V v)) ∧ w = w' := by
  have c1 := h.c1
  have hv := h.hv
  clear h
  rcases (show ¬ 1 ≤ v ∨ (1 ≤ v ∧ v ≤ V) ∨ (1 ≤ v ∧ (V : Int) < v) from by omega) with h1 | ⟨h1, h2⟩ | ⟨h1, h2⟩
  · have E := Lib.hid (isB_false (V := V) (v := v) (by omega))
    go_enter Try.func74, Try.ntmps74
    go_wp2
    go_ret
    exact ⟨ret_bool (by rw [E.out]), rfl⟩
  · have E := Lib.hid (isB_true h1 h2)
    have h3 : v < (V : Int) + 1 := by omega
    go_enter Try.func74, Try.ntmps74
    go_wp2
    go_ret
    exact ⟨ret_bool (by rw [E.out]), rfl⟩
  · have E := Lib.hid (isB_false (V := V) (v := v) (by omega))
    have h3 : ¬ v < (V : Int) + 1 := by omega
    go_enter Try.func74, Try.ntmps74
    go_wp2
    go_ret
    exact ⟨ret_bool (by rw [E.out]), rfl⟩
theorem isNil_any (w : World) (v : Int) : Calls Try.prog 74 #[.pointer none, .int .i64 v] w fun e w' => e = .returned (.bool false) ∧ w = w' := by
  go_enter Try.func74, Try.ntmps74
  go_wp2
  go_ret
  exact ⟨rfl, rfl⟩
theorem len_any {w : World} {base V g gp ga : Nat} {lv : Value} {ls ps az : List Int} (h : Hp w base V g gp ga lv ls ps az) :
    Calls Try.prog 44 #[.pointer (some ⟨g, 0, none⟩)] w fun e w' => e = .returned (.int .i64 (ls.length : Nat)) ∧ w = w' := by
  have c0 := h.c0
  have hl := h.ll
  obtain ⟨A, c, rfl, _, _⟩ := h.slc
  clear h
  go_enter Try.func44, Try.ntmps44
  go_wp2
  go_ret
  exact ⟨rfl, rfl⟩
theorem lenNil_any (w : World) : Calls Try.prog 44 #[.pointer none] w fun e w' => e = .returned (.int .i64 0) ∧ w = w' := by
  go_enter Try.func44, Try.ntmps44
  go_wp2
  go_ret
  exact ⟨rfl, rfl⟩
set_option maxHeartbeats 400000 in
theorem ahead_any {w : World} {base V g gp ga : Nat} {lv : Value} {ls ps az : List Int} (v x : Int) (h : Hp w base V g gp ga lv ls ps az) (hv0 : 0 ≤ v) (hv : v ≤ V) (hx0 : 0 ≤ x) (hx : x ≤ V) :
    Calls Try.prog 85 #[.pointer (some ⟨g, 0, none⟩), .int .i64 v, .int .i64 x] w fun e w' => e = .returned (.bool (Pl.ahead az v x)) ∧ ∃ q, w' = w.drewN q := by
  have c2 := h.c2
  have hV := h.hv
  obtain ⟨v, rfl⟩ := Int.eq_ofNat_of_zero_le hv0
  obtain ⟨x, rfl⟩ := Int.eq_ofNat_of_zero_le hx0
  have a1 := h.at_a (v := v) (by omega)
  have a2 := h.at_a (v := x) (by omega)
  have E : Hid (Pl.ahead az v x = if at_ az v ≠ at_ az x then decide (at_ az x < at_ az v) else decide ((v : Int) < x)) := rfl
  clear h
  generalize at_ az v = av at *
  generalize at_ az x = ax at *
  have l1 : v < V + 1 := by omega
  have l2 : x < V + 1 := by omega
  by_cases hne : av = ax
  · have hb : (av != ax) = false := by simp [hne]
    have E2 := Lib.hid (E.out.trans (if_neg (by simpa using hne)))
    clear hne E
    go_enter Try.func85, Try.ntmps85
    go_wp2
    go_quiet (fail)
    go_wp2
    go_ret
    exact ⟨ret_bool (by rw [E2.out]; rw [Bool.eq_iff_iff]; simp), nq, rfl⟩
  · have hb : (av != ax) = true := by simpa using hne
    have E2 := Lib.hid (E.out.trans (if_pos (by simpa using hne)))
    clear hne E
    go_enter Try.func85, Try.ntmps85
    go_wp2
    go_quiet (fail)
    go_wp2
    go_quiet (fail)
    go_wp2
    go_ret
    exact ⟨ret_bool (by rw [E2.out]), _, by rw [World.drewN_drewN]⟩
set_option maxHeartbeats 400000 in
theorem put_h {w : World} {base V g gp ga : Nat} {lv : Value} {ls ps az : List Int} (i : Nat) (v : Int) (h : Hp w base V g gp ga lv ls ps az) (hi : i < ls.length) (hv0 : 0 ≤ v) (hv : v ≤ V) :
    Calls Try.prog 76 #[.pointer (some ⟨g, 0, none⟩), .int .i64 i, .int .i64 v] w fun e w' => e = .returned (.tuple #[]) ∧ Hp w' base V g gp ga lv (ls.set i v) (ps.set v.toNat (i + 1)) az ∧ Below base w w' := by
  have hV := h.hv
  have hll := h.ll
  obtain ⟨v, rfl⟩ := Int.eq_ofNat_of_zero_le hv0
  obtain ⟨gl, c, rfl, hlc, n1, n2, n3, hcl, hfl⟩ := h.at_l hi
  have hci := hcl i hi
  have hfi := hfl i
  have c0 := h.c0
  have hB1 : base ≤ gl := by
    have := h.own.lt gl rfl
    exact this.1
  have HH := Lib.hid h
  have h2 := h.set_l (j := i) (x := v)
  have c1 := h2.c1
  have ap := h2.at_p (v := v) (by omega)
  have fp := h2.pl.frozen v
  have HP2 := Lib.hid (h2.set_p (v := v) (x := (i : Int) + 1))
  have hbp := h.bp
  clear h h2 hcl hfl
  have l1 : v < V + 1 := by omega
  go_enter Try.func76, Try.ntmps76
  go_wp2
  go_end0
  exact ⟨rfl, HP2.out, ((Below.refl _ _).setCell hB1 _).setCell hbp _⟩
end Go.Proofs.Ytcfkagielgnkkaa
