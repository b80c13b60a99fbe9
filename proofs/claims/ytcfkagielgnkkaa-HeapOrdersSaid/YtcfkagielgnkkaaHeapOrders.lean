/- The walk of HeapOrders. -/
import Derived.Test.YtcfkagielgnkkaaHeapAlive
import Derived.Test.YtcfkagielgnkkaaViewActs
import Derived.StillTailTactics
namespace Go.Proofs.Ytcfkagielgnkkaa
open Go.RowKit Pl Go.ChangeShapes Go.WideShapes Go.Deep
set_option linter.unusedVariables false
/-- an act of the heap: its kind, its variable, by how much -/
structure Act19 where
  kind : Int
  v : Int
  d : Int
def Act19.cells (a : Act19) : List Value := [.int .i64 a.kind, .int .i64 a.v, .int .i64 a.d]
def Act19.ok (a : Act19) : Prop := (Lit.int .i64 a.kind).wf = true ∧ (Lit.int .i64 a.v).wf = true ∧ (Lit.int .i64 a.d).wf = true
theorem view_acts19 {H : Type} {enc : TypeId × Value → H} {W : World} {A : Option Addr} {len cap : Nat} {d : DataW H} {p : List MemPlace} (h : DataW.Trod enc Try.prog W 0 (fun _ => true) true 59 (.slice A len cap) d p) :
    ∃ l : List Act19, l.length = len ∧ Reads W W.heap.size 3 A len (l.flatMap Act19.cells) ∧ len ≤ cap ∧ cap ≤ maxLen ∧ ∀ x ∈ l, x.ok := by
  refine view_slice Try.underlying59 (show Try.prog.cellsOf 63 = 3 from by kernel_rfl) (by omega) Act19.cells (fun _ => rfl) Act19.ok (fun n cs y hy => ?_) h
  obtain ⟨hl, hf⟩ := struct_cells Try.underlying63 (by kernel_rfl) (by kernel_rfl) hy
  obtain ⟨v0, y0, m0, e0, t0⟩ := hf 0 _ rfl
  obtain ⟨v1, y1, m1, e1, t1⟩ := hf 1 _ rfl
  obtain ⟨v2, y2, m2, e2, t2⟩ := hf 2 _ rfl
  obtain ⟨k, h0, _, w0⟩ := DataW.trod_int Try.underlying3 t0
  obtain ⟨s, h1, _, w1⟩ := DataW.trod_int Try.underlying3 t1
  obtain ⟨m, h2, _, w2⟩ := DataW.trod_int Try.underlying2 t2
  simp only [List.cons.injEq, and_true] at h0 h1 h2
  subst h0 h1 h2
  match cs, hl with
  | [c0, c1, c2], _ =>
    simp at e0 e1 e2
    subst e0 e1 e2
    exact ⟨⟨k, s, m⟩, rfl, w0, w1, w2⟩
theorem Act19.cells_at {w : World} {b off k : Nat} {a : Act19} (h : ∀ j u, a.cells[j]? = some u → w.cell? ⟨b, off + (k * 3 + j), none⟩ = some u) :
    w.cell? ⟨b, off + k * 3, none⟩ = some (.int .i64 a.kind) ∧ w.cell? ⟨b, off + k * 3 + 1, none⟩ = some (.int .i64 a.v) ∧ w.cell? ⟨b, off + k * 3 + 2, none⟩ = some (.int .i64 a.d) :=
  ⟨h 0 _ rfl, h 1 _ rfl, h 2 _ rfl⟩
/-- the last one popped stands ahead of all that are left -/
def After (az : List Int) (last : Int) (ls : List Int) : Prop := last = 0 ∨ (1 ≤ last ∧ last ≤ 20 ∧ ∀ u, In ls u → Lt az last u)

theorem HS.drew {w : World} {base V g : Nat} {ls az : List Int} (h : HS w base V g ls az) : HS w.drew base V g ls az := by
  obtain ⟨gp, ga, lv, ps, h, hok, ho, hab⟩ := h
  exact ⟨gp, ga, lv, ps, h.drew, hok, ho, hab⟩
theorem HS.root {w : World} {base V g : Nat} {ls az : List Int} (h : HS w base V g ls az) (hl : 0 < ls.length) : 1 ≤ at_ ls 0 ∧ at_ ls 0 ≤ V ∧ In ls (at_ ls 0) ∧ ∀ u, In ls u → u ≠ at_ ls 0 → Lt az (at_ ls 0) u := by
  obtain ⟨gp, ga, lv, ps, h, hok, ho, hab⟩ := h
  have h0 := hok.rng 0 hl
  refine ⟨h0.1, h0.2, ⟨0, hl, rfl⟩, fun u ⟨j, hj, e⟩ hne => ?_⟩
  have := ho.root j hj
  rw [e] at this
  unfold Lt at *
  omega

set_option maxRecDepth 100000 in
set_option maxHeartbeats 3200000 in
theorem heapOrderswalk (A : Option Addr) (len cap : Nat) (l : List Act19) (w : World)
    (hL : l.length = len ∧ Reads w w.heap.size 3 A len (l.flatMap Act19.cells) ∧ len ≤ cap ∧ cap ≤ maxLen ∧ ∀ x ∈ l, x.ok) :
    Calls Try.prog 10 #[.slice A len cap] w fun e w' => e = .returned (.bool true) ∧ Below w.heap.size w w' := by
  obtain ⟨hll, hRL, hle1, hcap1, hok⟩ := hL
  have hm1 := hcap1
  unfold maxLen at hm1
  have HLL := Lib.hid hll
  have HOK := Lib.hid hok
  clear hll hok hcap1
  by_cases h1 : len ≤ 100
  · go_enter Try.func10, Try.ntmps10
    go_wp2_with fail
    refine (newHeap_any 20 w (by omega)).mono ?_
    rintro e w1 ⟨g, rfl, hs1, hb1⟩
    go_wp2_with fail
    go_loopw [4] (fun i wr => ∃ (k : Nat) (ls az : List Int), k ≤ len ∧ i = .int .i64 k ∧ HS wr w.heap.size 20 g ls az ∧ ls.length ≤ k ∧ Below w.heap.size w wr) (fun i _ => len - (intOf i).toNat)
    case atStart => exact ⟨0, [], _, Nat.zero_le _, rfl, hs1, Nat.zero_le _, hb1⟩
    case round =>
      clear hs1 hb1
      obtain ⟨k, ls, az, hk, rfl, hs, hlk, hbel⟩ := hrel
      by_cases hlt : k < len
      · obtain ⟨b, off, a, rfl, hbB, hx, hcs⟩ := (hRL.below hbel).elem (by omega) (fun _ => rfl) HLL.out hlt
        obtain ⟨hcK, hcS, hcM⟩ := Act19.cells_at hcs
        obtain ⟨o1, o2, o3⟩ := HOK.out a (List.mem_of_getElem? hx)
        have hdb := bounds_i64 o3
        clear hcs hx o1 o2 o3
        obtain ⟨ak, av, ad⟩ := a
        simp only at hcK hcS hcM hdb
        by_cases hk2 : (ak == 2) = true
        · have HS1 := Lib.hid hs
          clear hs
          go_wp2_with fail
          go_still_tail 11, (by kernel_rfl)
          change wpList _ _ _ _ _ wr.drew
          go_wp2_with fail
          refine (bump_any av ad (HS.drew HS1.out) hdb.1 hdb.2).mono ?_
          rintro e w2 ⟨l2, a2, rfl, hs2, hb2, sm2, _⟩
          have hsl := sm2.1
          clear sm2
          have HS2 := Lib.hid hs2
          have hl2 : l2.length ≤ k := by omega
          clear hs2 hsl
          go_wp2_with fail
          go_roundw
          case rel => exact ⟨k + 1, l2, a2, by omega, by go_num, HS2.out, by omega, hbel.drew.trans hb2⟩
          case measure => simp [intOf]; omega
        · have hk2' : (ak == 2) = false := by simpa using hk2
          clear hk2
          have HS1 := Lib.hid hs
          clear hs
          go_wp2_with fail
          refine (push_any av HS1.out (by omega)).mono ?_
          rintro e w2 ⟨b2, l2, rfl, hs2, hb2, hl2, _, _⟩
          go_wp2_with fail
          go_roundw
          case rel => exact ⟨k + 1, l2, az, by omega, by go_num, hs2, by omega, hbel.trans hb2⟩
          case measure => simp [intOf]; omega
      · have HS1 := Lib.hid hs
        have hlb : ls.length ≤ 100 := by omega
        clear hs
        go_wp2_with fail
        refine (lenS_any HS1.out).mono ?_
        rintro e w2 ⟨rfl, rfl⟩
        obtain ⟨n, hn⟩ : ∃ n, n = ls.length := ⟨_, rfl⟩
        rw [← hn] at hlb ⊢
        have HN := Lib.hid hn
        clear hn
        go_wp2_with fail
        go_loopw [6, 7] (fun x i wr => ∃ (j : Nat) (last : Int) (l1 : List Int), j ≤ n ∧ i = .int .i64 j ∧ x = .int .i64 last ∧ HS wr w.heap.size 20 g l1 az ∧ l1.length + j = n ∧ After az last l1 ∧ Below w.heap.size w wr) (fun _ i _ => n - (intOf i).toNat)
        case atStart => exact ⟨0, 0, ls, Nat.zero_le _, rfl, rfl, HS1.out, by have := HN.out; omega, .inl rfl, hbel⟩
        case round =>
          clear HS1 hbel
          obtain ⟨j, last, l1, hj, rfl, rfl, hs3, hl1, haf, hbel⟩ := hrel
          by_cases hlt2 : j < n
          · have hl1' : l1.length = (l1.length - 1) + 1 := by omega
            have HRT := Lib.hid (hs3.root (by omega))
            have hr1 := HRT.out.1
            have hr2 := HRT.out.2.1
            have HS3 := Lib.hid hs3
            have HL1 := Lib.hid hl1
            have haf2 : last = 0 ∨ (1 ≤ last ∧ last ≤ 20 ∧ Lt az last (at_ l1 0)) := by
              rcases haf with h | ⟨h3, h4, h5⟩
              · exact .inl h
              · exact .inr ⟨h3, h4, h5 _ HRT.out.2.2.1⟩
            have HAF2 := Lib.hid haf2
            clear hs3 hl1 haf haf2
            go_wp2_with fail
            refine (pop_any HS3.out hl1').mono ?_
            rintro e w5 ⟨l5, rfl, hs5, hb5, hl5, hin5⟩
            have hni : ¬ In l5 (at_ l1 0) := fun h => ((hin5 _).1 h).2 rfl
            have HNI := Lib.hid hni
            have HAF : Hid (After az (at_ l1 0) l5) := .inr ⟨HRT.out.1, HRT.out.2.1, fun u hu => HRT.out.2.2.2 u ((hin5 u).1 hu).1 ((hin5 u).1 hu).2⟩
            have HS5 := Lib.hid hs5
            clear hni hin5 hs5
            generalize at_ l1 0 = v at *
            go_wp2_with fail
            refine (has_no v HS5.out HNI.out).mono ?_
            rintro e w' ⟨rfl, rfl⟩
            rcases HAF2.out with h0 | ⟨h3, h4, h5⟩
            · subst h0
              go_wp2_with fail
              go_roundw
              case rel => exact ⟨j + 1, v, l5, by omega, by go_num, rfl, HS5.out, by have := HL1.out; omega, HAF.out, hbel.trans hb5⟩
              case measure => simp [intOf]; omega
            · unfold Lt at h5
              rcases h5 with h5 | ⟨h5, h6⟩
              · obtain ⟨xv, hxv⟩ : ∃ xv, xv = at_ az v.toNat := ⟨_, rfl⟩
                obtain ⟨xl, hxl⟩ : ∃ xl, xl = at_ az last.toNat := ⟨_, rfl⟩
                rw [← hxv, ← hxl] at h5
                have HXV := Lib.hid hxv
                have HXL := Lib.hid hxl
                clear hxv hxl
                have q1 : (xv == xl) = false := beq_eq_false_iff_ne.2 (by omega)
                go_wp2_with fail
                refine (activity_any v HS5.out (by omega) (by omega)).mono ?_
                rw [← HXV.out]
                rintro e w' ⟨rfl, rfl⟩
                go_wp2_with fail
                refine (activity_any last HS5.out (by omega) (by omega)).mono ?_
                rw [← HXL.out]
                rintro e w' ⟨rfl, rfl⟩
                go_wp2_with fail
                refine (activity_any v HS5.out (by omega) (by omega)).mono ?_
                rw [← HXV.out]
                rintro e w' ⟨rfl, rfl⟩
                go_wp2_with fail
                refine (activity_any last HS5.out (by omega) (by omega)).mono ?_
                rw [← HXL.out]
                rintro e w' ⟨rfl, rfl⟩
                go_wp2_with fail
                go_roundw
                case rel => exact ⟨j + 1, v, l5, by omega, by go_num, rfl, HS5.out, by have := HL1.out; omega, HAF.out, hbel.trans hb5⟩
                case measure => simp [intOf]; omega
              · obtain ⟨xv, hxv⟩ : ∃ xv, xv = at_ az v.toNat := ⟨_, rfl⟩
                obtain ⟨xl, hxl⟩ : ∃ xl, xl = at_ az last.toNat := ⟨_, rfl⟩
                rw [← hxv, ← hxl] at h5
                have HXV := Lib.hid hxv
                have HXL := Lib.hid hxl
                clear hxv hxl
                subst h5
                have q1 : (xl == xl) = true := beq_self_eq_true xl
                go_wp2_with fail
                refine (activity_any v HS5.out (by omega) (by omega)).mono ?_
                rw [← HXV.out]
                rintro e w' ⟨rfl, rfl⟩
                go_wp2_with fail
                refine (activity_any last HS5.out (by omega) (by omega)).mono ?_
                rw [← HXL.out]
                rintro e w' ⟨rfl, rfl⟩
                go_wp2_with fail
                refine (activity_any v HS5.out (by omega) (by omega)).mono ?_
                rw [← HXV.out]
                rintro e w' ⟨rfl, rfl⟩
                go_wp2_with fail
                refine (activity_any last HS5.out (by omega) (by omega)).mono ?_
                rw [← HXL.out]
                rintro e w' ⟨rfl, rfl⟩
                go_wp2_with fail
                go_roundw
                case rel => exact ⟨j + 1, v, l5, by omega, by go_num, rfl, HS5.out, by have := HL1.out; omega, HAF.out, hbel.trans hb5⟩
                case measure => simp [intOf]; omega
          · have hl0 : l1 = [] := List.eq_nil_of_length_eq_zero (by omega)
            subst hl0
            have HS3 := Lib.hid hs3
            clear hs3 haf
            go_wp2_with fail
            refine (popEmpty_any HS3.out).mono ?_
            rintro e w' ⟨rfl, rfl⟩
            go_wp2_with fail
            refine (lenS_any HS3.out).mono ?_
            rintro e w' ⟨rfl, rfl⟩
            go_wp2_with fail
            refine (alive19_any _).mono ?_
            rintro e w4 ⟨rfl, hb4⟩
            go_wp2_with fail
            go_ret
            exact ⟨rfl, hbel.trans (hb4.mono hbel.size)⟩
  · go_enter Try.func10, Try.ntmps10
    go_wp2_with fail
    refine (alive19_any _).mono ?_
    rintro e w4 ⟨rfl, hb4⟩
    go_wp2_with fail
    go_ret
    exact ⟨rfl, hb4⟩
end Go.Proofs.Ytcfkagielgnkkaa
