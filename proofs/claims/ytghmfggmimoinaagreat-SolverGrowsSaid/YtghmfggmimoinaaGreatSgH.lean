/- A clause's literals in order, each once. -/
import Derived.Test.YtghmfggmimoinaaGreatSgG
namespace Go.Proofs.YtghmfggmimoinaaGreat
open Go Go.RowKit Go.Shelf Go.Sort
theorem comp_inv (d : Array Int) : ∀ m, 1 ≤ m → ∃ C, Lib.compactUpTo d m = d[0]! :: C ∧ (C = [] → ∀ j, j < m → d[j]! = d[0]!) ∧ (∀ y C2, C = y :: C2 → y ≠ d[0]!)
 | 1, _ => ⟨[], rfl, (fun _ j hj => by obtain rfl : j = 0 := (by omega); rfl), (fun _ _ h => by cases h)⟩
 | m + 2, _ => by
  obtain ⟨C, h1, h2, h3⟩ := comp_inv d (m + 1) (by omega)
  rw [Lib.compactUpTo_succ, h1]
  by_cases hk : d[m + 1]! = d[m]!
  ·rw [Lib.keeps_neg (by omega) hk]
   refine ⟨C, by simp, fun h j hj => ?_, h3⟩
   rcases Nat.lt_or_ge j (m + 1) with q | q
   ·exact h2 h j q
   ·obtain rfl : j = m + 1 := by omega
    rw [hk]; exact h2 h m (by omega)
  ·rw [Lib.keeps_pos hk]
   refine ⟨C ++ [d[m + 1]!], by simp, fun h => by simp at h, fun y C2 h => ?_⟩
   cases C with
   | nil =>
    simp at h
    rw [← h.1]
    intro e
    exact hk (e.trans (h2 rfl m (by omega)).symm)
   | cons z C =>
    simp at h
    rw [← h.1]
    exact h3 z C rfl
theorem comp_two (zs : List Int) (h : 2 ≤ (Lib.compact zs).length) : (Lib.compact zs).getD 0 0 ≠ (Lib.compact zs).getD 1 0 := by
 unfold Lib.compact at h ⊢
 rcases Nat.eq_zero_or_pos zs.length with h0 | h0
 ·rw [h0] at h; simp [Lib.compactUpTo] at h
 ·obtain ⟨C, h1, h2, h3⟩ := comp_inv zs.toArray zs.length h0
  rw [h1] at h ⊢
  cases C with
  | nil => simp at h
  | cons y C => exact fun e => h3 y C rfl e.symm
theorem comp_mem {zs : List Int} {x : Int} (h : x ∈ Lib.compact zs) : x ∈ zs := by
 unfold Lib.compact Lib.compactUpTo at h
 obtain ⟨j, hj, rfl⟩ := List.mem_map.1 h
 have := (List.mem_filter.1 hj).1
 have hj := List.mem_range.1 this
 rw [getElem!_pos _ j (by simpa using hj)]
 simp
theorem comp_len (zs : List Int) : (Lib.compact zs).length ≤ zs.length := by
 unfold Lib.compact Lib.compactUpTo
 rw [List.length_map]
 exact Nat.le_trans (List.length_filter_le _ _) (by simp)
theorem toLI : ∀ (c : List Int), (∀ x ∈ c, -1000000 ≤ x ∧ x ≤ 1000000) → ∃ L : List LI, L.map (·.1) = c
 | [], _ => ⟨[], rfl⟩
 | x :: c, h => by
  obtain ⟨L, hL⟩ := toLI c fun y hy => h y (List.mem_cons_of_mem _ hy)
  exact ⟨⟨x, h x (List.mem_cons_self ..)⟩ :: L, by rw [List.map_cons, hL]⟩
theorem encL_iv (L : List LI) : L.map encL = iv (L.map (·.1)) := by unfold iv; rw [List.map_map]; rfl
theorem clone_c (w : World) (A : Option Addr) (n c B : Nat) (xs : List Int) (hR : Reads w B 1 A n (iv xs)) (hB : B ≤ w.heap.size) (hn : n ≤ 1048576) :
  Calls Tryz.prog 21 #[.slice A n c] w fun e w' => ∃ v', e = .returned v' ∧ Below w.heap.size w w' ∧ w'.ownsRow w.heap.size 3 1 v' n (iv xs) := by
 rcases A with _ | ad
 ·have hn0 : n = 0 := by
   rcases Nat.eq_zero_or_pos n with h | h
   ·exact h
   ·obtain ⟨_, h, _⟩ := hR.2 h; cases h
  subst hn0
  have hx : xs = [] := List.eq_nil_of_length_eq_zero (by have := hR.1; simpa [iv] using this)
  subst hx
  have hs := fun W => Lib.run_eql_slice_nil (P := Tryz.prog) W 22 3 none 0 c 0 0 Tryz.underlying22
  go_enter Tryz.func21, Tryz.ntmps21
  go_wp2
  go_ret
  exact ⟨_, rfl, Below.refl _ _, World.ownsRow_nil _ _ _ _⟩
 ·have hs := fun W => Lib.run_eql_slice_nil (P := Tryz.prog) W 22 3 (some ad) n c 0 0 Tryz.underlying22
  obtain ⟨i0, hi0, hz0, hz1, hz2⟩ := info_parts Za52
  have hown := World.ownsRow_made (base := w.heap.size) (e := 3) (size := 1) w #[] 0 (Nat.le_refl _) (by simp [maxLen]) rfl
  have hR2 := hR.alloc hB (.cells #[] 3)
  have H1 := Lib.hid hi0
  have H2 := Lib.hid hz0
  have H3 := Lib.hid hz1
  have H4 := Lib.hid hz2
  clear hi0 hz0 hz1 hz2
  go_enter Tryz.func21, Tryz.ntmps21
  go_wp2_with (at_builtin; refine Zlc _ rfl _ _ 22 rfl w.heap.size 3 i0 (.int .i64 0) 1 8 Tryz.underlying22 H1.out H2.out H3.out H4.out rfl (by decide) _ 0 [] rfl hown B (some ad) n c (iv xs) rfl hR2 (iv_one xs) (by unfold maxLen; omega) (by omega) (by simp) ?_; intro v1 w1 hown1 hg1 hat1)
  go_ret
  rw [Nat.zero_add, List.nil_append] at hown1
  refine ⟨_, rfl, ((Below.refl _ w).alloc (Nat.le_refl _) (.cells #[] 3)).grown hg1 (by simp) ?_, hown1⟩
  intro k hk
  injection hk with hk
  exact Nat.le_of_eq hk
theorem compact_i {w : World} {B n c b : Nat} (zs : List Int) (h : w.ownsRow B 3 1 (.slice (some ⟨b, 0, none⟩) n c) n (iv zs)) (hn : n ≤ 1000) :
  Calls Tryz.prog 32 #[.slice (some ⟨b, 0, none⟩) n c] w fun e w' => e = .returned (.slice (some ⟨b, 0, none⟩) (Lib.compact zs).length c) ∧ w'.ownsRow B 3 1 (.slice (some ⟨b, 0, none⟩) (Lib.compact zs).length c) (Lib.compact zs).length (iv (Lib.compact zs)) ∧ Frm [3] B w w' := by
 obtain ⟨g, cap, hv, hB, hlt, hnc, hcm, hl, hH⟩ := Lib.holds_of_ownsRow (enc := Value.int .i64) h (by simp)
 injection hv with hv1 hv2 hv3
 injection hv1 with hv1
 injection hv1 with hv1
 subst hv1 hv3
 have hs := Any.slices_Compact_int cmpLayI b 0 c zs w hH (by omega) (by omega)
 rw [hl] at hs
 refine hs.mono ?_
 rintro e w' ⟨rfl, q, rfl⟩
 have hk := comp_len zs
 refine ⟨rfl, ?_, frm_putRow h hB⟩
 have := Lib.ownsRow_putRow (q := q) (enc := Value.int .i64) (k := (Lib.compact zs).length) (ys := Lib.compact zs ++ List.replicate (n - (Lib.compact zs).length) 0) h (by simp; omega) (by omega)
 rw [List.take_left] at this
 exact this
theorem sort_c {w : World} {B n c : Nat} {A : Option Addr} {xs : List Int} (h : w.ownsRow B 3 1 (.slice A n c) n (iv xs)) (hn : n ≤ 1000) (hc : ∀ x ∈ xs, -1000000 ≤ x ∧ x ≤ 1000000) :
  Calls Tryz.prog 30 #[.slice A n c, .func (.func 31) #[] #[]] w fun e w' => e = .returned (.tuple #[]) ∧ ∃ zs : List Int, (∀ x ∈ zs, x ∈ xs) ∧ w'.ownsRow B 3 1 (.slice A n c) n (iv zs) ∧ Frm [3] B w w' := by
 by_cases h0 : n = 0
 ·subst h0
  refine (AnyF.slices_SortFunc_none { sortLayI with } A c (.func (.func 31) #[] #[]) w).mono ?_
  rintro e w' ⟨rfl, rfl⟩
  exact ⟨rfl, xs, fun _ h => h, h, Frm.refl _ _ _⟩
 ·obtain ⟨L, hL⟩ := toLI xs hc
  obtain ⟨b1, c1, hv, hlt1⟩ := own_form h (by omega)
  injection hv with hv1 hv2 hv3
  subst hv1 hv3
  rw [← hL, ← encL_iv] at h
  refine (sort_i L h hn).mono ?_
  rintro e w2 ⟨rfl, L2, hp, ho2, hf2⟩
  rw [encL_iv] at ho2
  refine ⟨rfl, _, fun x hx => ?_, ho2, hf2⟩
  rw [← hL]
  exact (hp.map (·.1)).mem_iff.1 hx
theorem compact_c {w : World} {B n c : Nat} {A : Option Addr} {xs : List Int} (h : w.ownsRow B 3 1 (.slice A n c) n (iv xs)) (hn : n ≤ 1000) :
  Calls Tryz.prog 32 #[.slice A n c] w fun e w' => ∃ m d, e = .returned (.slice A m c) ∧ m ≤ n ∧ (∀ x ∈ d, x ∈ xs) ∧ (2 ≤ m → d.getD 0 0 ≠ d.getD 1 0) ∧ w'.ownsRow B 3 1 (.slice A m c) m (iv d) ∧ Frm [3] B w w' := by
 by_cases h0 : n = 0
 ·subst h0
  refine (Any.slices_Compact_int_empty cmpLayI A c w).mono ?_
  rintro e w' ⟨rfl, rfl⟩
  exact ⟨0, xs, rfl, Nat.le_refl _, fun _ h => h, fun h => absurd h (by omega), h, Frm.refl _ _ _⟩
 ·obtain ⟨b1, c1, hv, hlt1⟩ := own_form h (by omega)
  injection hv with hv1 hv2 hv3
  subst hv1 hv3
  refine (compact_i xs h hn).mono ?_
  rintro e w2 ⟨rfl, ho2, hf2⟩
  have hl : xs.length = n := by have := h.1; rw [iv_len] at this; omega
  exact ⟨_, _, rfl, by have := comp_len xs; omega, fun x hx => comp_mem hx, comp_two xs, ho2, hf2⟩
set_option maxHeartbeats 1000000 in
theorem norm_c {w : World} {B n cap : Nat} {A : Option Addr} {c : List Int} (hR : Reads w B 1 A n (iv c)) (hB : B ≤ w.heap.size) (hn : n ≤ 1000) (hc : ∀ x ∈ c, -1000000 ≤ x ∧ x ≤ 1000000) :
  Calls Tryz.prog 22 #[.slice A n cap] w fun e w' => ∃ A' m cap' d fine, e = .returned (.tuple #[.slice A' m cap', .bool fine]) ∧ m ≤ n ∧ (∀ x ∈ d, x ∈ c) ∧ (2 ≤ m → d.getD 0 0 ≠ d.getD 1 0) ∧ Reads w' w'.heap.size 1 A' m (iv d) ∧ Below w.heap.size w w' := by
 have h1 := clone_c w A n cap B c hR hB (by omega)
 have HC := Lib.hid hc
 clear hR hc
 go_enter Tryz.func22, Tryz.ntmps22
 go_wp2_with fail
 refine h1.mono ?_
 rintro e w1 ⟨v1, rfl, hb1, ho1⟩
 obtain ⟨A1, c1, rfl, _, _, _⟩ := Zrg ho1
 have s1 := sort_c ho1 hn HC.out
 have HB1 := Lib.hid hb1
 clear hb1 ho1
 go_wp2_with fail
 refine s1.mono ?_
 rintro e w2 ⟨rfl, zs, hz, ho2, hf2⟩
 have s2 := compact_c ho2 hn
 have HZ := Lib.hid hz
 have HF2 := Lib.hid hf2
 clear hz hf2 ho2
 go_wp2_with fail
 refine s2.mono ?_
 rintro e w3 ⟨m, d, rfl, hm, hd, htwo, ho3, hf3⟩
 have hr3 := Reads.of_own ho3
 have hl3 : d.length = m := by have := ho3.1; rw [iv_len] at this; omega
 have HD := Lib.hid hd
 have HT := Lib.hid htwo
 have HF3 := Lib.hid hf3
 clear hd htwo ho3 hf3
 go_wp2_with fail
 go_loopw [14] (fun x wr => ∃ j q : Nat, x = .int .i64 j ∧ j ≤ m ∧ wr = w3.drewN q) (fun x _ => m - (intOf x).toNat)
 case atStart => exact ⟨0, 0, rfl, by omega, rfl⟩
 case round =>
  obtain ⟨j, q, rfl, hj, rfl⟩ := hrel
  by_cases hlt : j < m
  ·obtain ⟨b, off, rfl, _, hcj⟩ := hr3.intAt hlt
   have HR3 := Lib.hid hr3
   obtain ⟨W, hW⟩ : ∃ W, W = w3.drewN q := ⟨_, rfl⟩
   generalize d.getD j 0 = x at hcj
   have hcj : W.cell? ⟨b, off + j, none⟩ = some (.int .i64 x) := by rw [hW]; exact hcj
   by_cases hj0 : 0 < j
   ·obtain ⟨b', off', hA, _, hcp⟩ := hr3.intAt (k := j - 1) (by omega)
    injection hA with hA
    injection hA with hA1 hA2
    subst hA1 hA2
    generalize d.getD (j - 1) 0 = y at hcp
    have hcp : W.cell? ⟨b, off + (j - 1), none⟩ = some (.int .i64 y) := by rw [hW]; exact hcp
    rw [← hW]
    have HW := Lib.hid hW
    clear hr3 hW
    go_wp2_with fail
    rcases hz : (x == wrap64 (-y)) with _ | _
    ·go_region
     all_goals (
      go_wp2_with fail
      go_roundw
      case rel => exact ⟨j + 1, q + 1, by go_num, by omega, by rw [HW.out]; rfl⟩
      case measure => simp [intOf]; omega)
    ·go_region
     all_goals (
      go_wp2_with fail
      go_ret2
      have hw := HW.out
      subst hw
      exact ⟨_, m, c1, d, _, rfl, hm, fun x hx => HZ.out x (HD.out x hx), HT.out, HR3.out, (below_drewN ((HB1.out.trans HF2.out.below).trans HF3.out.below) q).drew⟩)
   ·obtain rfl : j = 0 := by omega
    rw [← hW]
    have HW := Lib.hid hW
    clear hr3 hW
    go_wp2_with fail
    go_region
    all_goals (
     go_wp2_with fail
     go_roundw
     case rel => exact ⟨1, q + 1, by go_num, by omega, by rw [HW.out]; rfl⟩
     case measure => simp [intOf]; omega)
  ·have HR3 := Lib.hid hr3
   clear hr3
   go_wp2_with fail
   go_ret2
   exact ⟨A1, m, c1, d, true, rfl, hm, fun x hx => HZ.out x (HD.out x hx), HT.out, HR3.out, below_drewN ((HB1.out.trans HF2.out.below).trans HF3.out.below) q⟩
end Go.Proofs.YtghmfggmimoinaaGreat
