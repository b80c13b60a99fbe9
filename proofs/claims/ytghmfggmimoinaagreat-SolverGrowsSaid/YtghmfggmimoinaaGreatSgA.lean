/- append(s, make([]T, k)...) onto a row of the call's own. No condition beyond Go's limits. -/
import Derived.Test.YtghmfggmimoinaaGreatAppend
import Derived.Lib.AppendZerosOnto
namespace Go.Proofs.YtghmfggmimoinaaGreat
open Go Go.RowKit
def zc (z : Value) (k : Nat) : List Value := (Builtin.zeroCells z.cells k).toList
theorem zc_len (z : Value) (k : Nat) : (zc z k).length = k * z.cells.size := by unfold zc; rw [Array.length_toList, size_zeroCells]
theorem zc_get {z : Value} {k i : Nat} (h : i < k * z.cells.size) : (zc z k)[i]? = some (z.cells[i % z.cells.size]!) := by
 unfold zc Builtin.zeroCells
 rw [Array.getElem?_toList, Array.getElem?_map, Array.getElem?_range, if_pos h]; rfl
theorem zc_mem {z u : Value} {k : Nat} (hz : 0 < z.cells.size) (h : u ∈ zc z k) : u ∈ z.cells.toList := by
 obtain ⟨i, hi⟩ := List.mem_iff_getElem?.1 h
 have hl : i < k * z.cells.size := by
  rcases Nat.lt_or_ge i (zc z k).length with h | h
  ·rw [zc_len] at h; exact h
  ·rw [List.getElem?_eq_none h] at hi; cases hi
 rw [zc_get hl] at hi
 injection hi with hi
 have hm := Nat.mod_lt i hz
 rw [← hi, Array.getElem!_eq_getD, Array.getD_eq_getD_getElem?, Array.getElem?_eq_getElem hm]
 simp
section
variable {P : Program} (w : World)
theorem run_append_zeros_own (base : Nat) (t tn ty e : TypeId) (i : TypeInfo) (z : Value) (size bytes : Nat) (kn : IntKind) (ht : P.underlying t = some (.slice e)) (htn : P.underlying tn = some (.int kn)) (hi : P.info? e = some i) (hz : i.zero = some z)
  (hsize : i.size = size) (hby : i.bytes = bytes) (hzs : z.cells.size = size) (hsz : 0 < size) (hz1 : ∀ u ∈ z.cells.toList, u.oneCell' = true)
  (v : Value) (n : Nat) (xs : List Value) (hown : w.ownsRow base e size v n xs) (k : Nat)
  (h63 : n + k ≤ maxLen) (hbytes : (n + k) * bytes ≤ 140737488355328) (hbase : base ≤ w.heap.size) :
  ∃ v' w', (Builtin.append_ #[t, tn] ty #[v, .int .i64 (k : Int)]).run P w = .ok v' w' ∧ w'.ownsRow base e size v' (n + k) (xs ++ zc z k) ∧ w.grownBy w' v.ownBlock ∧
   (v'.ownBlock = v.ownBlock ∨ v'.ownBlock = some w.heap.size) := by
 subst hsize
 subst hby
 have hsmall : n + k ≤ 9223372036854775807 := by simp only [maxLen] at h63; omega
 have hlz := zc_len z k
 rw [hzs] at hlz
 have hlen : (xs ++ zc z k).length = (n + k) * i.size := by rw [List.length_append, hown.1, hlz, Nat.add_mul]
 have hw : IntKind.i64.wrap (k : Int) = k := by rw [IntKind.wrap_i64]; omega
 have hkb : k * i.bytes ≤ 140737488355328 := Nat.le_trans (Nat.mul_le_mul_right _ (Nat.le_add_left k n)) hbytes
 have h48i : ¬ (281474976710656 < (k : Int) * (i.bytes : Int)) := by
  rw [← Int.natCast_mul]
  omega
 have hneg : ¬ ((k : Int) < 0) := by omega
 have grown : ∀ (old : Nat), old < n + k → ∀ (row : Option Nat),
   (w.drew.alloc (.cells (xs.toArray ++ Builtin.zeroCells z.cells k ++ Builtin.zeroCells z.cells (grownCap w (n + k) old e - (n + k))) e)).ownsRow base e i.size
    (.slice (some ⟨w.heap.size, 0, none⟩) (n + k) (grownCap w (n + k) old e)) (n + k) (xs ++ zc z k) ∧
   w.grownBy (w.drew.alloc (.cells (xs.toArray ++ Builtin.zeroCells z.cells k ++ Builtin.zeroCells z.cells (grownCap w (n + k) old e - (n + k))) e)) row := by
  intro old ho row
  have hge := grownCap_ge w (n + k) old e
  have hcm : grownCap w (n + k) old e ≤ maxLen := grownCap_le_maxLen w (n + k) old e h63
  refine ⟨⟨hlen, .inr ⟨w.heap.size, _, _, rfl, hbase, heap_alloc_new w.drew _, hge, hcm, ?_, ?_⟩⟩, ⟨rfl, rfl, rfl, by simp, fun j hj _ => Below.heap_alloc w.drew _ j hj⟩⟩
  ·simp only [Array.size_append, List.size_toArray, size_zeroCells, hzs, hown.1, ← Nat.add_mul]
   congr 1
   omega
  ·simp only [Array.toList_append, List.append_assoc]
   rw [← List.append_assoc, ← hlen]
   exact List.take_left
 rcases hown.2 with ⟨rfl, rfl⟩ | ⟨g, cap, cur, rfl, hbg, hg, hnc, hcm, hcs, htake⟩
 ·have hx : xs = [] := List.eq_nil_of_length_eq_zero (by simpa using hown.1)
  subst hx
  by_cases hk : k = 0
  ·subst hk
   refine ⟨.slice none 0 0, w, ?_, ?_, ⟨rfl, rfl, rfl, Nat.le_refl _, fun _ _ _ => rfl⟩, .inl rfl⟩
   ·simp [Builtin.append_, run_underlying ht, run_underlying htn, sizeOf, typeInfo, hi, asInt, asIntOf, show IntKind.i64.wrap 0 = 0 from rfl]
   ·have : zc z 0 = [] := List.eq_nil_of_length_eq_zero (by rw [zc_len, Nat.zero_mul])
    rw [this]
    exact World.ownsRow_nil w base e i.size
  ·have hr := Lib.run_append_nil_zeros (P := P) w t tn ty e i z .i64 kn ht htn hi hz k (by omega) hsz (by omega) (by omega)
   have hgr := grown 0 (by omega) (Value.ownBlock (.slice none 0 0))
   simp only [Nat.zero_add, List.nil_append, Array.empty_append] at hgr ⊢
   exact ⟨_, _, hr, hgr.1, hgr.2, .inr rfl⟩
 ·by_cases hroom : n + k ≤ cap
  ·have hfit : n * i.size + (zc z k).length ≤ cur.size := by rw [hlz, hcs, ← Nat.add_mul]; exact Nat.mul_le_mul_right _ hroom
   have h1 : ∀ u ∈ zc z k, u.oneCell' = true := fun u hu => hz1 u (zc_mem (by omega) hu)
   have hst := run_storeCells_at P g (n * i.size) e (zc z k) 0 cur w hg (by simpa using hfit) h1
   simp only [Nat.add_zero] at hst
   have hadd : (⟨g, 0, none⟩ : Addr).add (n * i.size) = ⟨g, n * i.size, none⟩ := by unfold Addr.add; split <;> simp_all
   have hr : (Builtin.append_ #[t, tn] ty #[.slice (some ⟨g, 0, none⟩) n cap, .int .i64 (k : Int)]).run P w = .ok (.slice (some ⟨g, 0, none⟩) (n + k) cap) (w.setRow g (cur.toList.take (n * i.size) ++ zc z k ++ cur.toList.drop (n * i.size + (zc z k).length)).toArray) := by
    by_cases hk : k = 0
    ·subst hk
     have : zc z 0 = [] := List.eq_nil_of_length_eq_zero (by rw [zc_len, Nat.zero_mul])
     rw [this] at hst ⊢
     simp [Builtin.append_, run_underlying ht, run_underlying htn, sizeOf, typeInfo, hi, asInt, asIntOf, show IntKind.i64.wrap 0 = 0 from rfl, hnc, hadd]
     simp at hst
     rw [hst]; rfl
    ·have hns : ¬ (k * i.size = 0) := Nat.mul_ne_zero hk (by omega)
     simp [Builtin.append_, run_underlying ht, run_underlying htn, sizeOf, typeInfo, zeroValue, hi, hz, asInt, asIntOf, hw, hneg, hns, h48i, hroom, hadd]
     have hst' : (storeCells ⟨g, n * i.size, none⟩ (Builtin.zeroCells z.cells k).toList).run P w = _ := hst
     rw [hst']; simp
   refine ⟨_, _, hr, ⟨hlen, .inr ⟨g, cap, _, rfl, hbg, setRow_heap w g cur _ e _ hg, hroom, hcm, ?_, ?_⟩⟩, ⟨rfl, rfl, rfl, by simp, fun k _ hk => setRow_other w g k _ (fun e => hk (by simp [Value.ownBlock, e]))⟩, .inl rfl⟩
   ·simp only [List.size_toArray, List.length_append, List.length_take, List.length_drop, Array.length_toList]
    omega
   ·rw [htake, ← hlen]
    exact List.take_left
  ·have holds : ∀ j u, xs[j]? = some u → w.cell? ((⟨g, 0, none⟩ : Addr).add j) = some u := hown.cells (g := g) rfl
   have hr := Lib.run_append_grow_zeros (P := P) w t tn ty e i z .i64 kn ht htn hi hz (some ⟨g, 0, none⟩) n cap xs (run_firstCells_some w.drew _ _ _ _ _ _ hown.1 holds) k (by omega) hsz (by omega) (by omega) (by omega) (growslice_fits (by omega) hbytes)
   have hgr := grown cap (by omega) (Value.ownBlock (.slice (some ⟨g, 0, none⟩) n cap))
   exact ⟨_, _, hr, hgr.1, hgr.2, .inr rfl⟩
theorem wpList_append_zeros {ops : Array Oper} {rest : List Oper} {o : Oper} {a : Act} {Q : Exit → Act → World → Prop} (hgd : o.guard = none) (s x : Operand) (t tn : TypeId)
  (ho : o.op = .call { callee := .builtin .append, args := #[s, x], argTypes := #[t, tn] })
  (base : Nat) (e : TypeId) (z : Value) (size bytes : Nat) (kn : IntKind) (ht : P.underlying t = some (.slice e)) (htn : P.underlying tn = some (.int kn)) (hi : (P.info? e).map (fun i => (i.zero, i.size, i.bytes)) = some (some z, size, bytes))
  (hzs : z.cells.size = size) (hsz : 0 < size) (hz1 : ∀ u ∈ z.cells.toList, u.oneCell' = true)
  (v : Value) (n : Nat) (xs : List Value) (hs : a.eval s = v) (hown : w.ownsRow base e size v n xs) (k : Nat) (q : Int) (hx : a.eval x = .int .i64 q) (hq : q = (k : Int))
  (h63 : n + k ≤ maxLen) (hbytes : (n + k) * bytes ≤ 140737488355328) (hbase : base ≤ w.heap.size)
  (h : ∀ v' w', w'.ownsRow base e size v' (n + k) (xs ++ zc z k) → w.grownBy w' v.ownBlock → (v'.ownBlock = v.ownBlock ∨ v'.ownBlock = some w.heap.size) → wpList P ops Q rest (a.put o.dst v') w') : wpList P ops Q (o :: rest) a w := by
 obtain ⟨i, hi0, hz0, h2, h3⟩ := info_parts hi
 obtain ⟨v', w', hr, g1, g2, g3⟩ := run_append_zeros_own (P := P) w base t tn o.type e i z size bytes kn ht htn hi0 hz0 h2 h3 hzs hsz hz1 v n xs hown k h63 hbytes hbase
 subst hq
 exact Lib.wpList_append_run w hgd s x t tn ho v (.int .i64 (k : Int)) hs hx v' w' hr (h v' w' g1 g2 g3)
theorem step_append_zeros {ops : Array Oper} {o : Oper} {a : Act} {K : Act → World → Prop} {Q : Exit → Act → World → Prop} {E : Prop} (hgd : o.guard = none) (s x : Operand) (t tn : TypeId)
  (ho : o.op = .call { callee := .builtin .append, args := #[s, x], argTypes := #[t, tn] })
  (base : Nat) (e : TypeId) (z : Value) (size bytes : Nat) (kn : IntKind) (ht : P.underlying t = some (.slice e)) (htn : P.underlying tn = some (.int kn)) (hi : (P.info? e).map (fun i => (i.zero, i.size, i.bytes)) = some (some z, size, bytes))
  (hzs : z.cells.size = size) (hsz : 0 < size) (hz1 : ∀ u ∈ z.cells.toList, u.oneCell' = true)
  (v : Value) (n : Nat) (xs : List Value) (hs : a.eval s = v) (hown : w.ownsRow base e size v n xs) (k : Nat) (q : Int) (hx : a.eval x = .int .i64 q) (hq : q = (k : Int))
  (h63 : n + k ≤ maxLen) (hbytes : (n + k) * bytes ≤ 140737488355328) (hbase : base ≤ w.heap.size)
  (h : ∀ v' w', w'.ownsRow base e size v' (n + k) (xs ++ zc z k) → w.grownBy w' v.ownBlock → (v'.ownBlock = v.ownBlock ∨ v'.ownBlock = some w.heap.size) → K (a.put o.dst v') w') :
  if Region.wanted o (yielded ops a.tmps) = true then Oper.wp P o a w K Q else E := by
 have hw : Region.wanted o (yielded ops a.tmps) = true := by simp [Region.wanted, hgd]
 rw [if_pos hw]
 obtain ⟨i, hi0, hz0, h2, h3⟩ := info_parts hi
 obtain ⟨v', w', hr, g1, g2, g3⟩ := run_append_zeros_own (P := P) w base t tn o.type e i z size bytes kn ht htn hi0 hz0 h2 h3 hzs hsz hz1 v n xs hown k h63 hbytes hbase
 subst hq
 exact Lib.wp_append_run w s x t tn ho v (.int .i64 (k : Int)) hs hx v' w' hr (h v' w' g1 g2 g3)
end
end Go.Proofs.YtghmfggmimoinaaGreat
