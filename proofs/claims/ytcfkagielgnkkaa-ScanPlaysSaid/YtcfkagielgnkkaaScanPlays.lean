/- The walk of ScanPlays. -/
import Derived.Test.YtcfkagielgnkkaaScanAct
import Derived.Test.YtcfkagielgnkkaaScanWhole
import Derived.Deep.RegionHeld3
import Derived.IntWalk
namespace Go.Proofs.Ytcfkagielgnkkaa
open Go.RowKit Pl
set_option linter.unusedVariables false
set_option linter.unusedSimpArgs false
theorem actP_le (bs : List UInt8) (n p : Nat) (kind : Int) (s : List UInt8) (most : Int) (hl : bs.length = n) (hp : p ≤ n) : actP bs n p kind s most ≤ n := by
  unfold actP
  split
  · split <;> omega
  · split
    · cases hw : want (bs.drop p) s 0 with
      | none =>
        have := want_none_le _ _ _ hw
        rw [List.length_drop] at this
        show p + s.length ≤ n
        omega
      | some r => exact hp
    · split
      · have := number_le (bs.drop p) most
        rw [List.length_drop] at this
        omega
      · exact hp
set_option maxRecDepth 100000 in
set_option maxHeartbeats 8000000 in
theorem scanPlayswalk (A : Option Addr) (n cap : Nat) (bs : List UInt8) (A1 : Option Addr) (len cap1 : Nat) (l : List Act3) (w : World)
    (hR : Reads w w.heap.size 1 A n (u8s bs) ∧ n ≤ cap ∧ cap ≤ maxLen ∧ (A = none → cap = 0))
    (hL : l.length = len ∧ Reads w w.heap.size 3 A1 len (l.flatMap Act3.cells) ∧ len ≤ cap1 ∧ cap1 ≤ maxLen ∧ ∀ x ∈ l, x.ok) :
    Calls Try.prog 8 #[.slice A n cap, .slice A1 len cap1] w fun e w' => e = .returned (.bool true) ∧ Below w.heap.size w w' := by
  obtain ⟨hR, hle, hcap, hnil⟩ := hR
  obtain ⟨hll, hRL, hle1, hcap1, hok⟩ := hL
  have hm := hcap
  have hm1 := hcap1
  unfold maxLen at hm hm1
  have HLL := Lib.hid hll
  have HOK := Lib.hid hok
  have HNIL := Lib.hid hnil
  have HR := Lib.hid hR
  clear hll hok hnil hcap hcap1
  rcases (show 200 < n ∨ (n ≤ 200 ∧ 60 < len) ∨ (n ≤ 200 ∧ len ≤ 60) from by omega) with h1 | ⟨h1, h2⟩ | ⟨h1, h2⟩
  iterate 2
    · go_enter Try.func8, Try.ntmps8
      go_wp2_with fail
      refine (alive03_any _).mono ?_
      rintro e w4 ⟨rfl, hb4⟩
      go_wp2_with fail
      go_ret
      exact ⟨rfl, hb4⟩
  · go_enter Try.func8, Try.ntmps8
    go_wp2_with fail
    refine (new_any A n cap _ bs _ hR (Nat.le_refl _) (by omega) HNIL.out).mono ?_
    rintro e w1 ⟨g, A', c', rfl, hrd, hgw, hb⟩
    clear hR
    have hgl := hrd.1.lt
    have HP0 : Hid (PR (w1.alloc (.cells #[.slice A n cap, .int .i64 0] 55)) w.heap.size g w1.heap.size A' n c' A cap bs 0) := by
      have hb2 : Below w1.heap.size w1 (w1.alloc (.cells #[.slice A n cap, .int .i64 0] 55)) := (Below.refl _ _).alloc (Nat.le_refl _) _
      have hR2 := (HR.out.below hb).below (hb2.mono hb.size)
      exact ⟨hrd.below hb2 hgl, ⟨Blk.new _ _ _, hR2.more hb.size, Nat.zero_le _, by omega⟩, hR2, hgw, hgl⟩
    have HB0 : Hid (Below w.heap.size w (w1.alloc (.cells #[.slice A n cap, .int .i64 0] 55))) := hb.alloc hb.size _
    clear hrd hb
    obtain ⟨gx, hgx⟩ : ∃ gx, gx = w1.heap.size := ⟨_, rfl⟩
    rw [← hgx] at HP0
    go_wp2_with fail
    rw [← hgx]
    have hggx : g < gx := by omega
    clear hgx hgl
    go_loopw [7] (fun i wr => ∃ k p : Nat, k ≤ len ∧ i = .int .i64 k ∧ PR wr w.heap.size g gx A' n c' A cap bs p ∧ Below w.heap.size w wr) (fun i _ => len - (intOf i).toNat)
    case atStart => exact ⟨0, 0, Nat.zero_le _, rfl, HP0.out, HB0.out⟩
    case round =>
      clear HP0 HB0
      obtain ⟨k, p, hk, rfl, hpr, hbel⟩ := hrel
      by_cases hlt : k < len
      · obtain ⟨b, off, a, rfl, hbB, hx, hcs⟩ := (hRL.below hbel).elem (by omega) (fun _ => rfl) HLL.out hlt
        obtain ⟨hcK, hcS, hcM⟩ := Act3.cells_at hcs
        obtain ⟨o1, o2, o3⟩ := HOK.out a (List.mem_of_getElem? hx)
        have hmb := bounds_i64 o3
        unfold maxLen at o2
        clear hcs hx o1 o3
        obtain ⟨ak, sa, am⟩ := a
        simp only at hcK hcS hcM hmb o2
        by_cases hs60 : sa.size ≤ 60
        · obtain ⟨p2, hp2⟩ : ∃ p2, p2 = actP bs n p ak sa.data.toList am := ⟨_, rfl⟩
          have HACT : Hid (∀ W, PR W w.heap.size g gx A' n c' A cap bs p → Calls Try.prog 37 #[.pointer (some ⟨g, 0, none⟩), .pointer (some ⟨gx, 0, none⟩), .agg #[.int .i64 ak, .string sa, .int .i64 am]] W fun e w' => e = .returned (.bool true) ∧ PR w' w.heap.size g gx A' n c' A cap bs p2 ∧ Below w.heap.size W w') := fun W hW => by
            have := act_any w.heap.size g gx n c' cap p A' A bs ak sa am W hW hs60 hmb.1 (by omega)
            rw [← hp2] at this
            exact this
          have hp2n : p2 ≤ n := by rw [hp2]; exact actP_le _ _ _ _ _ _ hpr.1.len hpr.1.2.2.1
          have HPR := Lib.hid hpr
          clear hp2 hpr
          have hwr : IntKind.i64.wrap ((n : Int) - (p2 : Int)) = (n : Int) - (p2 : Int) := IntWalk.i64_in _ (by omega)
          have hsum : (((n - p2 : Nat) : Int) != (n : Int) - (p2 : Int)) = false := by rw [bne_eq_false_iff_eq]; omega
          have hpp : (((p2 : Nat) : Int) != (p2 : Int)) = false := by simp
          have hbw : Hid (b < w.heap.size) := hbB
          by_cases hcp : cap = p2
          iterate 2
          · go_wp2_with fail
            refine wp_region_any (by kernel_rfl) ?_
            change wpAny _ _ _ _ _ _ _ (World.drew _)
            refine wpAny_take (i := 0) (v := ?_) rfl (by kernel_rfl) (by kernel_rfl) (by kernel_rfl) (fun _ _ _ h => h) (Or.inl ⟨by rfl, ?_⟩) ?_
            rotate_left
            (intro w9; go_simp; try with_reducible rfl)
            try simp only [Act.put, List.getElem_toArray, List.getElem_cons_zero, List.getElem_cons_succ, List.setIfInBounds_toArray, List.set_cons_zero, List.set_cons_succ]
            refine wpAny_take (i := 1) (v := ?_) rfl (by kernel_rfl) (by kernel_rfl) (by kernel_rfl) (fun _ _ _ h => h) (Or.inl ⟨by rfl, ?_⟩) ?_
            rotate_left
            (intro w9; go_simp; try with_reducible rfl)
            try simp only [Act.put, List.getElem_toArray, List.getElem_cons_zero, List.getElem_cons_succ, List.setIfInBounds_toArray, List.set_cons_zero, List.set_cons_succ]
            refine wpAny_take (i := 2) (v := ?_) rfl (by kernel_rfl) (by kernel_rfl) (by kernel_rfl) (fun _ _ _ h => h) (Or.inl ⟨by rfl, ?_⟩) ?_
            rotate_left
            (intro w9; go_simp; try with_reducible rfl)
            try simp only [Act.put, List.getElem_toArray, List.getElem_cons_zero, List.getElem_cons_succ, List.setIfInBounds_toArray, List.set_cons_zero, List.set_cons_succ]
            refine wpAny_take (i := 3) (v := ?_) rfl (by kernel_rfl) (by kernel_rfl) (by kernel_rfl) (fun _ _ _ h => h) (Or.inl ⟨by rfl, ?_⟩) ?_
            rotate_left
            (intro w9; go_simp; try with_reducible rfl)
            try simp only [Act.put, List.getElem_toArray, List.getElem_cons_zero, List.getElem_cons_succ, List.setIfInBounds_toArray, List.set_cons_zero, List.set_cons_succ]
            refine wpAny_take (i := 4) (v := ?_) rfl (by kernel_rfl) (by kernel_rfl) (by kernel_rfl) (fun _ _ _ h => h) (Or.inl ⟨by rfl, ?_⟩) ?_
            rotate_left
            (intro w9; go_simp; try with_reducible rfl)
            try simp only [Act.put, List.getElem_toArray, List.getElem_cons_zero, List.getElem_cons_succ, List.setIfInBounds_toArray, List.set_cons_zero, List.set_cons_succ]
            refine wpAny_ready (rs := [5]) (by kernel_rfl) (by simp) ?_
            refine AllReady.cons rfl (fun K hK => ?_) AllReady.nil
            go_simp
            refine hK _ _ ?_
            clear hK K
            try simp only [Act.put, List.getElem_toArray, List.getElem_cons_zero, List.getElem_cons_succ, List.setIfInBounds_toArray, List.set_cons_zero, List.set_cons_succ]
            refine wpAny_ready (rs := [6]) (by kernel_rfl) (by simp) ?_
            refine AllReady.cons rfl (fun K hK => ?_) AllReady.nil
            go_simp
            refine (HACT.out _ ?_).mono ?_
            · exact HPR.out
            rintro e w2 ⟨rfl, hpr2, hb2⟩
            have hcx : w2.cell? ⟨gx, 1, none⟩ = some (.int .i64 p2) := hpr2.2.1.c1
            have HPR2 := Lib.hid hpr2
            have HB2 := Lib.hid hb2
            clear hpr2 hb2
            try dsimp only
            refine hK _ _ ?_
            clear hK K
            try simp only [Act.put, List.getElem_toArray, List.getElem_cons_zero, List.getElem_cons_succ, List.setIfInBounds_toArray, List.set_cons_zero, List.set_cons_succ]
            refine wpAny_take (i := 7) (v := ?_) rfl (by kernel_rfl) (by kernel_rfl) (by kernel_rfl) (fun _ _ _ h => h) (Or.inl ⟨by rfl, ?_⟩) ?_
            rotate_left
            (intro w9; go_simp; try with_reducible rfl)
            try simp only [Act.put, List.getElem_toArray, List.getElem_cons_zero, List.getElem_cons_succ, List.setIfInBounds_toArray, List.set_cons_zero, List.set_cons_succ]
            refine wpAny_take (i := 8) (v := ?_) rfl (by kernel_rfl) (by kernel_rfl) (by kernel_rfl) (fun _ _ _ h => h) (Or.inl ⟨by rfl, ?_⟩) ?_
            rotate_left
            (intro w9; go_simp; try with_reducible rfl)
            try simp only [Act.put, List.getElem_toArray, List.getElem_cons_zero, List.getElem_cons_succ, List.setIfInBounds_toArray, List.set_cons_zero, List.set_cons_succ]
            refine wpAny_of_held (S := fun W => W.cell? ⟨gx, 1, none⟩ = some (.int .i64 p2) ∧ Reads W w.heap.size 1 A n (u8s bs)) _ _ _ _ ?_
            have hHeld : (fun W : World => W.cell? ⟨gx, 1, none⟩ = some (.int .i64 p2) ∧ Reads W w.heap.size 1 A n (u8s bs)) w2 := ⟨hcx, HPR2.out.2.2.1⟩
            refine wpAnyH_take (i := 9) (v := ?_) rfl (by kernel_rfl) (by kernel_rfl) (by kernel_rfl) (fun _ _ _ h => h) (Or.inl ⟨by rfl, ?_⟩) hHeld ?_
            rotate_left
            (intro w9 hSw; (try dsimp only at hSw); obtain ⟨hSc, hSr⟩ := hSw; go_simp; try with_reducible rfl)
            try simp only [Act.put, List.getElem_toArray, List.getElem_cons_zero, List.getElem_cons_succ, List.setIfInBounds_toArray, List.set_cons_zero, List.set_cons_succ]
            refine wpAnyH_take (i := 11) (v := ?_) rfl (by kernel_rfl) (by kernel_rfl) (by kernel_rfl) (fun _ _ _ h => h) (Or.inl ⟨by rfl, ?_⟩) hHeld ?_
            rotate_left
            (intro w9 hSw; (try dsimp only at hSw); obtain ⟨hSc, hSr⟩ := hSw; go_simp; try with_reducible rfl)
            try simp only [Act.put, List.getElem_toArray, List.getElem_cons_zero, List.getElem_cons_succ, List.setIfInBounds_toArray, List.set_cons_zero, List.set_cons_succ]
            refine wpAnyH_take (i := 12) (v := ?_) rfl (by kernel_rfl) (by kernel_rfl) (by kernel_rfl) (fun _ _ _ h => h) (Or.inl ⟨by rfl, ?_⟩) hHeld ?_
            rotate_left
            (intro w9 hSw; (try dsimp only at hSw); obtain ⟨hSc, hSr⟩ := hSw; go_simp; try with_reducible rfl)
            try simp only [Act.put, List.getElem_toArray, List.getElem_cons_zero, List.getElem_cons_succ, List.setIfInBounds_toArray, List.set_cons_zero, List.set_cons_succ]
            refine wpAnyH_take (i := 13) (v := ?_) rfl (by kernel_rfl) (by kernel_rfl) (by kernel_rfl) (fun _ _ _ h => h) (Or.inl ⟨by rfl, ?_⟩) hHeld ?_
            rotate_left
            (intro w9 hSw; (try dsimp only at hSw); obtain ⟨hSc, hSr⟩ := hSw; go_simp; try with_reducible rfl)
            try simp only [Act.put, List.getElem_toArray, List.getElem_cons_zero, List.getElem_cons_succ, List.setIfInBounds_toArray, List.set_cons_zero, List.set_cons_succ]
            refine wpAnyH_take (i := 14) (v := ?_) rfl (by kernel_rfl) (by kernel_rfl) (by kernel_rfl) (fun _ _ _ h => h) (Or.inl ⟨by rfl, ?_⟩) hHeld ?_
            rotate_left
            (intro w9 hSw; (try dsimp only at hSw); obtain ⟨hSc, hSr⟩ := hSw; go_simp; try with_reducible rfl)
            try simp only [Act.put, List.getElem_toArray, List.getElem_cons_zero, List.getElem_cons_succ, List.setIfInBounds_toArray, List.set_cons_zero, List.set_cons_succ]
            refine wpAnyH_ready (rs := [10]) (by kernel_rfl) (by simp) ?_
            refine AllReadyH.cons rfl (fun K hK => ?_) AllReadyH.nil
            go_simp
            refine (at_any g n c' p2 A' bs _ HPR2.out.1).mono ?_
            rintro e w' ⟨rfl, rfl⟩
            try dsimp only
            refine hK.out _ _ ?_ (fun hHeld => ?_)
            · exact hHeld
            clear hK K
            try simp only [Act.put, List.getElem_toArray, List.getElem_cons_zero, List.getElem_cons_succ, List.setIfInBounds_toArray, List.set_cons_zero, List.set_cons_succ]
            refine wpAnyH_take (i := 15) (v := ?_) rfl (by kernel_rfl) (by kernel_rfl) (by kernel_rfl) (fun _ _ _ h => h) (Or.inl ⟨by rfl, ?_⟩) hHeld ?_
            rotate_left
            (intro w9 hSw; (try dsimp only at hSw); obtain ⟨hSc, hSr⟩ := hSw; go_simp; try with_reducible rfl)
            try simp only [Act.put, List.getElem_toArray, List.getElem_cons_zero, List.getElem_cons_succ, List.setIfInBounds_toArray, List.set_cons_zero, List.set_cons_succ]
            refine wpAnyH_take (i := 16) (v := ?_) rfl (by kernel_rfl) (by kernel_rfl) (by kernel_rfl) (fun _ _ _ h => h) (Or.inl ⟨by rfl, ?_⟩) hHeld ?_
            rotate_left
            (intro w9 hSw; (try dsimp only at hSw); obtain ⟨hSc, hSr⟩ := hSw; go_simp; try with_reducible rfl)
            try simp only [Act.put, List.getElem_toArray, List.getElem_cons_zero, List.getElem_cons_succ, List.setIfInBounds_toArray, List.set_cons_zero, List.set_cons_succ]
            refine wpAnyH_take (i := 17) (v := ?_) rfl (by kernel_rfl) (by kernel_rfl) (by kernel_rfl) (fun _ _ _ h => h) (Or.inl ⟨by rfl, ?_⟩) hHeld ?_
            rotate_left
            (intro w9 hSw; (try dsimp only at hSw); obtain ⟨hSc, hSr⟩ := hSw; go_simp; try with_reducible rfl)
            try simp only [Act.put, List.getElem_toArray, List.getElem_cons_zero, List.getElem_cons_succ, List.setIfInBounds_toArray, List.set_cons_zero, List.set_cons_succ]
            refine wpAnyH_take (i := 18) (v := ?_) rfl (by kernel_rfl) (by kernel_rfl) (by kernel_rfl) (fun _ _ _ h => h) (Or.inl ⟨by rfl, ?_⟩) hHeld ?_
            rotate_left
            (intro w9 hSw; (try dsimp only at hSw); obtain ⟨hSc, hSr⟩ := hSw; go_simp; try with_reducible rfl)
            try simp only [Act.put, List.getElem_toArray, List.getElem_cons_zero, List.getElem_cons_succ, List.setIfInBounds_toArray, List.set_cons_zero, List.set_cons_succ]
            refine wpAnyH_take (i := 20) (v := ?_) rfl (by kernel_rfl) (by kernel_rfl) (by kernel_rfl) (fun _ _ _ h => h) (Or.inl ⟨by rfl, ?_⟩) hHeld ?_
            rotate_left
            (intro w9 hSw; (try dsimp only at hSw); obtain ⟨hSc, hSr⟩ := hSw; go_simp; try with_reducible rfl)
            try simp only [Act.put, List.getElem_toArray, List.getElem_cons_zero, List.getElem_cons_succ, List.setIfInBounds_toArray, List.set_cons_zero, List.set_cons_succ]
            refine wpAnyH_take (i := 21) (v := ?_) rfl (by kernel_rfl) (by kernel_rfl) (by kernel_rfl) (fun _ _ _ h => h) (Or.inl ⟨by rfl, ?_⟩) hHeld ?_
            rotate_left
            (intro w9 hSw; (try dsimp only at hSw); obtain ⟨hSc, hSr⟩ := hSw; go_simp; try with_reducible rfl)
            try simp only [Act.put, List.getElem_toArray, List.getElem_cons_zero, List.getElem_cons_succ, List.setIfInBounds_toArray, List.set_cons_zero, List.set_cons_succ]
            refine wpAnyH_take (i := 22) (v := ?_) rfl (by kernel_rfl) (by kernel_rfl) (by kernel_rfl) (fun _ _ _ h => h) (Or.inl ⟨by rfl, ?_⟩) hHeld ?_
            rotate_left
            (intro w9 hSw; (try dsimp only at hSw); obtain ⟨hSc, hSr⟩ := hSw; go_simp; try with_reducible rfl)
            try simp only [Act.put, List.getElem_toArray, List.getElem_cons_zero, List.getElem_cons_succ, List.setIfInBounds_toArray, List.set_cons_zero, List.set_cons_succ]
            refine wpAnyH_take (i := 23) (v := ?_) rfl (by kernel_rfl) (by kernel_rfl) (by kernel_rfl) (fun _ _ _ h => h) (Or.inl ⟨by rfl, ?_⟩) hHeld ?_
            rotate_left
            (intro w9 hSw; (try dsimp only at hSw); obtain ⟨hSc, hSr⟩ := hSw; go_simp; try with_reducible rfl)
            try simp only [Act.put, List.getElem_toArray, List.getElem_cons_zero, List.getElem_cons_succ, List.setIfInBounds_toArray, List.set_cons_zero, List.set_cons_succ]
            refine wpAnyH_take (i := 24) (v := ?_) rfl (by kernel_rfl) (by kernel_rfl) (by kernel_rfl) (fun _ _ _ h => h) (Or.inl ⟨by rfl, ?_⟩) hHeld ?_
            rotate_left
            (intro w9 hSw; (try dsimp only at hSw); obtain ⟨hSc, hSr⟩ := hSw; go_simp; try with_reducible rfl)
            try simp only [Act.put, List.getElem_toArray, List.getElem_cons_zero, List.getElem_cons_succ, List.setIfInBounds_toArray, List.set_cons_zero, List.set_cons_succ]
            refine wpAnyH_take (i := 25) (v := ?_) rfl (by kernel_rfl) (by kernel_rfl) (by kernel_rfl) (fun _ _ _ h => h) (Or.inl ⟨by rfl, ?_⟩) hHeld ?_
            rotate_left
            (intro w9 hSw; (try dsimp only at hSw); obtain ⟨hSc, hSr⟩ := hSw; go_simp; try with_reducible rfl)
            try simp only [Act.put, List.getElem_toArray, List.getElem_cons_zero, List.getElem_cons_succ, List.setIfInBounds_toArray, List.set_cons_zero, List.set_cons_succ]
            refine wpAnyH_take (i := 26) (v := ?_) rfl (by kernel_rfl) (by kernel_rfl) (by kernel_rfl) (fun _ _ _ h => h) (Or.inl ⟨by rfl, ?_⟩) hHeld ?_
            rotate_left
            (intro w9 hSw; (try dsimp only at hSw); obtain ⟨hSc, hSr⟩ := hSw; go_simp; try with_reducible rfl)
            try simp only [Act.put, List.getElem_toArray, List.getElem_cons_zero, List.getElem_cons_succ, List.setIfInBounds_toArray, List.set_cons_zero, List.set_cons_succ]
            refine wpAnyH_ready (rs := [19]) (by kernel_rfl) (by simp) ?_
            refine AllReadyH.cons rfl (fun K hK => ?_) AllReadyH.nil
            go_simp
            refine (leftLen_any g n c' p2 A' bs _ HPR2.out.1).mono ?_
            rintro e w3 ⟨rfl, q3, rfl⟩
            try dsimp only
            refine hK.out _ _ ?_ (fun hHeld => ?_)
            · exact hHeld
            clear hK K
            try simp only [Act.put, List.getElem_toArray, List.getElem_cons_zero, List.getElem_cons_succ, List.setIfInBounds_toArray, List.set_cons_zero, List.set_cons_succ]
            refine wpAnyH_take (i := 27) (v := ?_) rfl (by kernel_rfl) (by kernel_rfl) (by kernel_rfl) (fun _ _ _ h => h) (Or.inl ⟨by rfl, ?_⟩) hHeld ?_
            rotate_left
            (intro w9 hSw; (try dsimp only at hSw); obtain ⟨hSc, hSr⟩ := hSw; go_simp; try with_reducible rfl)
            try simp only [Act.put, List.getElem_toArray, List.getElem_cons_zero, List.getElem_cons_succ, List.setIfInBounds_toArray, List.set_cons_zero, List.set_cons_succ]
            refine wpAnyH_take (i := 28) (v := ?_) rfl (by kernel_rfl) (by kernel_rfl) (by kernel_rfl) (fun _ _ _ h => h) (Or.inl ⟨by rfl, ?_⟩) hHeld ?_
            rotate_left
            (intro w9 hSw; (try dsimp only at hSw); obtain ⟨hSc, hSr⟩ := hSw; go_simp; try with_reducible rfl)
            try simp only [Act.put, List.getElem_toArray, List.getElem_cons_zero, List.getElem_cons_succ, List.setIfInBounds_toArray, List.set_cons_zero, List.set_cons_succ]
            refine wpAnyH_take (i := 29) (v := ?_) rfl (by kernel_rfl) (by kernel_rfl) (by kernel_rfl) (fun _ _ _ h => h) (Or.inl ⟨by rfl, ?_⟩) hHeld ?_
            rotate_left
            (intro w9 hSw; (try dsimp only at hSw); obtain ⟨hSc, hSr⟩ := hSw; go_simp; try with_reducible rfl)
            try simp only [Act.put, List.getElem_toArray, List.getElem_cons_zero, List.getElem_cons_succ, List.setIfInBounds_toArray, List.set_cons_zero, List.set_cons_succ]
            refine wpAnyH_take (i := 30) (v := ?_) rfl (by kernel_rfl) (by kernel_rfl) (by kernel_rfl) (fun _ _ _ h => h) (Or.inl ⟨by rfl, ?_⟩) hHeld ?_
            rotate_left
            (intro w9 hSw; (try dsimp only at hSw); obtain ⟨hSc, hSr⟩ := hSw; go_simp; try with_reducible rfl)
            try simp only [Act.put, List.getElem_toArray, List.getElem_cons_zero, List.getElem_cons_succ, List.setIfInBounds_toArray, List.set_cons_zero, List.set_cons_succ]
            refine wpAnyH_take (i := 33) (v := ?_) rfl (by kernel_rfl) (by kernel_rfl) (by kernel_rfl) (fun _ _ _ h => h) (Or.inl ⟨by rfl, ?_⟩) hHeld ?_
            rotate_left
            (intro w9 hSw; (try dsimp only at hSw); obtain ⟨hSc, hSr⟩ := hSw; go_simp; try with_reducible rfl)
            try simp only [Act.put, List.getElem_toArray, List.getElem_cons_zero, List.getElem_cons_succ, List.setIfInBounds_toArray, List.set_cons_zero, List.set_cons_succ]
            refine wpAnyH_take (i := 34) (v := ?_) rfl (by kernel_rfl) (by kernel_rfl) (by kernel_rfl) (fun _ _ _ h => h) (Or.inl ⟨by rfl, ?_⟩) hHeld ?_
            rotate_left
            (intro w9 hSw; (try dsimp only at hSw); obtain ⟨hSc, hSr⟩ := hSw; go_simp; try with_reducible rfl)
            try simp only [Act.put, List.getElem_toArray, List.getElem_cons_zero, List.getElem_cons_succ, List.setIfInBounds_toArray, List.set_cons_zero, List.set_cons_succ]
            refine wpAnyH_take (i := 35) (v := ?_) rfl (by kernel_rfl) (by kernel_rfl) (by kernel_rfl) (fun _ _ _ h => h) (Or.inl ⟨by rfl, ?_⟩) hHeld ?_
            rotate_left
            (intro w9 hSw; (try dsimp only at hSw); obtain ⟨hSc, hSr⟩ := hSw; go_simp; try with_reducible rfl)
            try simp only [Act.put, List.getElem_toArray, List.getElem_cons_zero, List.getElem_cons_succ, List.setIfInBounds_toArray, List.set_cons_zero, List.set_cons_succ]
            refine wpAnyH_take (i := 36) (v := ?_) rfl (by kernel_rfl) (by kernel_rfl) (by kernel_rfl) (fun _ _ _ h => h) (Or.inl ⟨by rfl, ?_⟩) hHeld ?_
            rotate_left
            (intro w9 hSw; (try dsimp only at hSw); obtain ⟨hSc, hSr⟩ := hSw; go_simp; try with_reducible rfl)
            try simp only [Act.put, List.getElem_toArray, List.getElem_cons_zero, List.getElem_cons_succ, List.setIfInBounds_toArray, List.set_cons_zero, List.set_cons_succ]
            refine wpAnyH_take (i := 37) (v := ?_) rfl (by kernel_rfl) (by kernel_rfl) (by kernel_rfl) (fun _ _ _ h => h) (Or.inl ⟨by rfl, ?_⟩) hHeld ?_
            rotate_left
            (intro w9 hSw; (try dsimp only at hSw); obtain ⟨hSc, hSr⟩ := hSw; go_simp; try with_reducible rfl)
            try simp only [Act.put, List.getElem_toArray, List.getElem_cons_zero, List.getElem_cons_succ, List.setIfInBounds_toArray, List.set_cons_zero, List.set_cons_succ]
            refine wpAnyH_take (i := 38) (v := ?_) rfl (by kernel_rfl) (by kernel_rfl) (by kernel_rfl) (fun _ _ _ h => h) (Or.inl ⟨by rfl, ?_⟩) hHeld ?_
            rotate_left
            (intro w9 hSw; (try dsimp only at hSw); obtain ⟨hSc, hSr⟩ := hSw; go_simp; try with_reducible rfl)
            try simp only [Act.put, List.getElem_toArray, List.getElem_cons_zero, List.getElem_cons_succ, List.setIfInBounds_toArray, List.set_cons_zero, List.set_cons_succ]
            refine wpAnyH_take (i := 39) (v := ?_) rfl (by kernel_rfl) (by kernel_rfl) (by kernel_rfl) (fun _ _ _ h => h) (Or.inl ⟨by rfl, ?_⟩) hHeld ?_
            rotate_left
            (intro w9 hSw; (try dsimp only at hSw); obtain ⟨hSc, hSr⟩ := hSw; have hct := hSr.cut hp2n hle; rw [Nat.mul_one, u8s_drop] at hct; (first | rw [if_neg hcp] at hct | rw [if_pos hcp] at hct); have hcv := run_string_of (P := Try.prog) w9 39 9 5 _ _ (cap - p2) _ (bs.drop p2) hct Try.underlying39 Try.underlying5 Try.underlying9; have hcv0 := run_string_of (P := Try.prog) w9 39 9 5 _ _ 0 _ (bs.drop p2) hct Try.underlying39 Try.underlying5 Try.underlying9; clear hct hSr; go_simp; try with_reducible rfl)
            try simp only [Act.put, List.getElem_toArray, List.getElem_cons_zero, List.getElem_cons_succ, List.setIfInBounds_toArray, List.set_cons_zero, List.set_cons_succ]
            refine wpAnyH_ready (rs := [31]) (by kernel_rfl) (by simp) ?_
            refine AllReadyH.cons rfl (fun K hK => ?_) AllReadyH.nil
            go_simp
            refine (rest_any g n c' p2 A' bs _ (HPR2.out.1.drewN q3)).mono ?_
            rintro e w4 ⟨A4, c4, rfl, h41, h42, h43, h44, h45⟩
            have hcv4 := run_string_of (P := Try.prog) w4 39 9 5 A4 (n - p2) c4 _ (bs.drop p2) h44 Try.underlying39 Try.underlying5 Try.underlying9
            have HPR4 := Lib.hid ((show PR (w2.drewN q3) w.heap.size g gx A' n c' A cap bs p2 from HPR2.out).below h45 (by have := HPR2.out.2.1.1.lt; simpa using this))
            have HB4 := Lib.hid h45
            clear h45 h44
            try dsimp only
            refine hK.out _ _ ?_ (fun hHeld => ?_)
            · exact ⟨HPR4.out.2.1.c1, HPR4.out.2.2.1⟩
            clear hK K
            try simp only [Act.put, List.getElem_toArray, List.getElem_cons_zero, List.getElem_cons_succ, List.setIfInBounds_toArray, List.set_cons_zero, List.set_cons_succ]
            refine wpAnyH_ready (rs := [32]) (by kernel_rfl) (by simp) ?_
            refine AllReadyH.cons rfl (fun K hK => ?_) AllReadyH.nil
            go_simp
            refine hK.out _ _ ?_ (fun hHeld => ?_)
            · exact hHeld
            clear hK K
            try simp only [Act.put, List.getElem_toArray, List.getElem_cons_zero, List.getElem_cons_succ, List.setIfInBounds_toArray, List.set_cons_zero, List.set_cons_succ]
            refine wpAnyH_take (i := 40) (v := ?_) rfl (by kernel_rfl) (by kernel_rfl) (by kernel_rfl) (fun _ _ _ h => h) (Or.inl ⟨by rfl, ?_⟩) hHeld ?_
            rotate_left
            (intro w9 hSw; (try dsimp only at hSw); obtain ⟨hSc, hSr⟩ := hSw; go_simp; try with_reducible rfl)
            try simp only [Act.put, List.getElem_toArray, List.getElem_cons_zero, List.getElem_cons_succ, List.setIfInBounds_toArray, List.set_cons_zero, List.set_cons_succ]
            refine wpAnyH_take (i := 41) (v := ?_) rfl (by kernel_rfl) (by kernel_rfl) (by kernel_rfl) (fun _ _ _ h => h) (Or.inl ⟨by rfl, ?_⟩) hHeld ?_
            rotate_left
            (intro w9 hSw; (try dsimp only at hSw); obtain ⟨hSc, hSr⟩ := hSw; go_simp; try with_reducible rfl)
            try simp only [Act.put, List.getElem_toArray, List.getElem_cons_zero, List.getElem_cons_succ, List.setIfInBounds_toArray, List.set_cons_zero, List.set_cons_succ]
            refine wpAnyH_done (by kernel_rfl) ?_ _
            go_wp2_with fail
            go_roundw
            case rel =>
              have HBE : Below w.heap.size w w4 := (hbel.drew.trans HB2.out).trans ((below_drewN (Below.refl _ _) q3).trans (HB4.out.mono (by have := (hbel.drew.trans HB2.out).size; simpa using this)))
              first
              | exact ⟨k + 1, p2, by omega, by go_num, HPR4.out, HBE⟩
              | exact ⟨k + 1, by omega, by omega, ⟨p2, hcp ▸ HPR4.out⟩, HBE⟩
            case measure => simp [intOf]; omega
        · go_wp2_with fail
          refine (alive03_any _).mono ?_
          rintro e w4 ⟨rfl, hb4⟩
          go_wp2_with fail
          go_ret
          exact ⟨rfl, hbel.trans (hb4.mono hbel.size)⟩
      · go_wp2_with fail
        refine (alive03_any _).mono ?_
        rintro e w4 ⟨rfl, hb4⟩
        go_wp2_with fail
        go_ret
        exact ⟨rfl, hbel.trans (hb4.mono hbel.size)⟩
end Go.Proofs.Ytcfkagielgnkkaa
