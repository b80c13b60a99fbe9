/- net.Literals: the walk. -/
import Derived.Test.YtpdgjcejkmkglaaGreatNetLits
namespace Go.Proofs.YtpdgjcejkmkglaaGreat
open Go.RowKit Pl
set_option linter.unusedVariables false
theorem pre_len {D a : List Int} {n : Nat} (h : a <+: D) (hD : D.length ≤ n) : a.length ≤ n := Nat.le_trans h.length_le hD
theorem PutF.net {base : Nat} {W1 wr : World} {N : NetH} (h : PutF base (base + 1) W1 wr) (hb : Blk W1 base 60 N.fs) : Blk wr base 60 N.fs := h.box _ _ _ hb (by decide) (by omega)
theorem put1_any (base g : Nat) (xs : List Int) (x : Int) (W : World) (s : Nat) (hs : s = W.heap.size) (hacc : Acc W base g xs) (hlen : xs.length + 1 ≤ 1000000) (hbase : base ≤ g) :
    Calls Tryz.prog 356 #[.slice (some ⟨s, 0, none⟩) 1 1, .pointer (some ⟨g, 0, none⟩)] (W.alloc (.cells #[.int .i64 x] 3)) (RetPut base g (xs ++ [x]) (W.alloc (.cells #[.int .i64 x] 3))) := by
  subst hs
  exact put_any base g xs (some ⟨W.heap.size, 0, none⟩) 1 [x] (W.alloc (.cells #[.int .i64 x] 3)) (hacc.alloc _) (sl_new W [x] (by simp)) (by simpa using hlen) hbase
theorem put2_any (base g : Nat) (xs : List Int) (x y : Int) (W : World) (s : Nat) (hs : s = W.heap.size) (hacc : Acc W base g xs) (hlen : xs.length + 2 ≤ 1000000) (hbase : base ≤ g) :
    Calls Tryz.prog 356 #[.slice (some ⟨s, 0, none⟩) 2 2, .pointer (some ⟨g, 0, none⟩)] (W.alloc (.cells #[.int .i64 x, .int .i64 y] 3)) (RetPut base g (xs ++ [x, y]) (W.alloc (.cells #[.int .i64 x, .int .i64 y] 3))) := by
  subst hs
  exact put_any base g xs (some ⟨W.heap.size, 0, none⟩) 2 [x, y] (W.alloc (.cells #[.int .i64 x, .int .i64 y] 3)) (hacc.alloc _) (sl_new W [x, y] (by simp)) (by simpa using hlen) hbase
set_option maxRecDepth 100000 in
set_option maxHeartbeats 2000000 in
theorem literals_any (N : NetH) (w : World) (hok : N.okIn w w.heap.size) (ft : Fit N.d) (hD : (literalsL N.d).length ≤ 1000000) :
    Calls Tryz.prog 292 #[N.v] w (RetRow 3 w (ints (literalsL N.d))) := by
  have hl2 : N.latches.length ≤ 4000 := ft.lat.1
  have hl3 : N.ands.length ≤ 4000 := ft.ands.1
  have hl4 : N.mems.length ≤ 100 := by have := ft.mems.1; simpa [NetH.d] using this
  have HMF := Lib.hid (ft.mems.2)
  have HD := Lib.hid hD
  clear ft hD
  obtain ⟨base, hbase⟩ : ∃ base, base = w.heap.size := ⟨_, rfl⟩
  have hb0 : Blk ((w.alloc (.cells N.fs 60)).alloc (.cells #[.slice none 0 0] 22)) base 60 N.fs := by rw [hbase]; exact (Blk.new w 60 N.fs).alloc _
  have hb1 : Blk ((w.alloc (.cells N.fs 60)).alloc (.cells #[.slice none 0 0] 22)) (base + 1) 22 #[.slice none 0 0] := by
    have := Blk.new (w.alloc (.cells N.fs 60)) 22 #[.slice none 0 0]
    rw [World.size_alloc] at this
    rw [hbase]; exact this
  have hB : Below base w ((w.alloc (.cells N.fs 60)).alloc (.cells #[.slice none 0 0] 22)) := by rw [hbase]; exact ((Below.refl _ w).alloc (Nat.le_refl _) _).alloc (by simp) _
  have hsz : ((w.alloc (.cells N.fs 60)).alloc (.cells #[.slice none 0 0] 22)).heap.size = base + 2 := by rw [hbase]; simp
  have hacc : Acc ((w.alloc (.cells N.fs 60)).alloc (.cells #[.slice none 0 0] 22)) base (base + 1) (k1 N 0) := ⟨_, hb1, by simp [k1, ints]; exact World.ownsRow_nil _ _ _ _⟩
  have hok2 : N.okIn ((w.alloc (.cells N.fs 60)).alloc (.cells #[.slice none 0 0] 22)) base := by rw [← hbase] at hok; exact hok.below hB
  have HOK := Lib.hid hok2
  have HBE := Lib.hid hB
  clear hok hok2 hb1 hB
  unfold NetH.v
  go_enter Tryz.func292, Tryz.ntmps292
  unfold NetH.fs
  go_wp2_with fail
  rw [← hbase]
  change Code.wp _ _ _ _ ((w.alloc (.cells N.fs 60)).alloc (.cells #[.slice none 0 0] 22))
  generalize (w.alloc (.cells N.fs 60)).alloc (.cells #[.slice none 0 0] 22) = W1 at hb0 hacc hsz HOK HBE ⊢
  have HB0 := Lib.hid hb0
  have HSZ := Lib.hid hsz
  have HBA := Lib.hid hbase
  clear hb0 hsz hbase
  go_loopw [18] (fun i wr => ∃ k : Nat, k ≤ N.latches.length ∧ i = .int .i64 k ∧ Acc wr base (base + 1) (k1 N k) ∧ PutF base (base + 1) W1 wr) (fun i _ => N.latches.length - (intOf i).toNat)
  case atStart => exact ⟨0, Nat.zero_le _, rfl, hacc, PutF.refl _ _ _⟩
  case round =>
    clear hacc
    obtain ⟨k, hk, rfl, hacc, hpf⟩ := hrel
    have hsz : base + 2 ≤ wr.heap.size := by have := hpf.below.size; have := HSZ.out; omega
    by_cases hlt : k < N.latches.length
    · obtain ⟨b, off, x, e1, hb, hx, hm, hcs⟩ := (HOK.out.below hpf.below).lat.elem (by omega) (fun _ => rfl) hlt
      obtain ⟨hc0, hc1, hc2⟩ := LatchD.at_ hcs
      have hp := pre_len (k1_pre (k := k + 1)) HD.out
      rw [k1_succ hx] at hp
      have HX := Lib.hid hx
      clear hx hm hcs
      rw [e1]
      clear e1
      simp only [List.length_append, List.length_cons, List.length_nil] at hp
      go_wp2_with fail
      refine (put1_any base (base + 1) (k1 N k) x.next _ _ (by simp) (hacc.alloc _) (by omega) (by omega)).mono ?_
      rintro e w2 ⟨rfl, hacc2, hpf2⟩
      rw [← k1_succ HX.out] at hacc2
      go_wp2_with fail
      go_roundw
      case rel => exact ⟨k + 1, by omega, by go_num, hacc2, ((hpf.alloc (by omega) _).alloc (by simp; omega) _).trans hpf2⟩
      case measure => simp [intOf]; omega
    · have hf3 : wr.cell? ⟨base, 3, none⟩ = some (.slice N.Ao N.outputs.length N.co) := (hpf.net HB0.out).cell 3
      have hp := pre_len (k2_pre (k := 0)) HD.out
      rw [← k1_full (show N.latches.length ≤ k by omega)] at hp
      simp only [List.length_append] at hp
      go_wp2_with fail
      refine (put_any base (base + 1) (k1 N k) N.Ao N.co N.outputs _ hacc ((HOK.out.below hpf.below).out.more (by omega)) (by omega) (by omega)).mono ?_
      rintro e w2 ⟨rfl, hacc2, hpf2⟩
      have hpf3 := hpf.trans hpf2
      have hs3 := hpf2.below.size
      have hf4 : w2.cell? ⟨base, 4, none⟩ = some (.slice N.Ab N.bads.length N.cb) := (hpf3.net HB0.out).cell 4
      clear hacc hpf hpf2 hf3
      go_wp2_with fail
      refine (put_any base (base + 1) _ N.Ab N.cb N.bads _ hacc2 ((HOK.out.below hpf3.below).bad.more (by omega)) (by simp; omega) (by omega)).mono ?_
      rintro e w3 ⟨rfl, hacc3, hpf4⟩
      have hpf5 := hpf3.trans hpf4
      have hs5 := hpf4.below.size
      have hf5 : w3.cell? ⟨base, 5, none⟩ = some (.slice N.Ac N.constraints.length N.cc) := (hpf5.net HB0.out).cell 5
      clear hacc2 hpf3 hpf4 hf4
      go_wp2_with fail
      refine (put_any base (base + 1) _ N.Ac N.cc N.constraints _ hacc3 ((HOK.out.below hpf5.below).con.more (by omega)) (by simp; omega) (by omega)).mono ?_
      rintro e w4 ⟨rfl, hacc4, hpf6⟩
      have hpf7 := hpf5.trans hpf6
      have hf6 : w4.cell? ⟨base, 6, none⟩ = some (.slice N.Am N.mems.length N.cm) := (hpf7.net HB0.out).cell 6
      rw [k1_full (by omega)] at hacc4
      clear hacc3 hpf5 hpf6 hf5 hs3 hs5 hsz hlt hp hk
      go_wp2_with fail
      go_loopw [43] (fun i wr => ∃ k : Nat, k ≤ N.mems.length ∧ i = .int .i64 k ∧ Acc wr base (base + 1) (k2 N k) ∧ PutF base (base + 1) W1 wr) (fun i _ => N.mems.length - (intOf i).toNat)
      case atStart => exact ⟨0, Nat.zero_le _, rfl, hacc4, hpf7⟩
      case round =>
        clear hacc4 hpf7 hf6
        obtain ⟨k, hk, rfl, hacc, hpf⟩ := hrel
        have hsz : base + 2 ≤ wr.heap.size := by have := hpf.below.size; have := HSZ.out; omega
        by_cases hlt : k < N.mems.length
        · obtain ⟨b, off, m, e1, hb, hx, hm, hcs⟩ := (HOK.out.below hpf.below).mem.elem (by omega) (fun _ => rfl) hlt
          obtain ⟨hc0, hc1, hc2, hc3, hc4⟩ := MemH.at_ hcs
          have HX := Lib.hid hx
          have HM := Lib.hid (HOK.out.mms m hm)
          have hfm := HMF.out m.d (List.mem_map_of_mem hm)
          have hrn : m.reads.length ≤ 100 := by have := hfm.rdn; simpa [MemH.d] using this
          have hwn : m.writes.length ≤ 100 := by have := hfm.wrn; simpa [MemH.d] using this
          clear hx hm hcs hfm
          rw [e1]
          clear e1
          go_wp2_with fail
          obtain ⟨c, hc⟩ : ∃ c, c = wr.heap.size := ⟨_, rfl⟩
          have hpf2 := hpf.alloc (show base ≤ wr.heap.size by omega) (.cells m.cells.toArray 98)
          have hacc2 := hacc.alloc (.cells m.cells.toArray 98)
          have hbk := Blk.new wr 98 m.cells.toArray
          have hcB : base + 2 ≤ c := by omega
          rw [← hc] at hbk ⊢
          rw [← k3_zero (m := m)] at hacc2
          clear hc hacc hpf hc0 hc1 hc2 hc3 hc4
          change Code.wp _ _ _ _ (wr.alloc (.cells m.cells.toArray 98))
          obtain ⟨w3, hw3⟩ : ∃ w3 : World, w3 = wr.alloc (.cells m.cells.toArray 98) := ⟨_, rfl⟩
          rw [← hw3] at hpf2 hacc2 hbk ⊢
          clear hw3 hsz
          go_loopw [50] (fun i wr => ∃ j : Nat, j ≤ m.reads.length ∧ i = .int .i64 j ∧ Acc wr base (base + 1) (k3 N k m j) ∧ PutF base (base + 1) W1 wr ∧ Blk wr c 98 m.cells.toArray) (fun i _ => m.reads.length - (intOf i).toNat)
          case atStart => exact ⟨0, Nat.zero_le _, rfl, hacc2, hpf2, hbk⟩
          case round =>
            clear hacc2 hpf2 hbk
            obtain ⟨j, hj, rfl, hacc, hpf, hbk⟩ := hrel
            have hsz : base + 2 ≤ wr.heap.size := by have := hpf.below.size; have := HSZ.out; omega
            by_cases hlt2 : j < m.reads.length
            · obtain ⟨b2, off2, r, e1, hb2, hx2, hm2, hcs⟩ := (HM.out.below hpf.below).rd.elem (by omega) (fun _ => rfl) hlt2
              obtain ⟨hc0, hc1⟩ := ReadH.at_ hcs
              have HX2 := Lib.hid hx2
              have HR := Lib.hid (HM.out.rds r hm2)
              have hp := pre_len (k3_pre (j := j + 1) HX.out) HD.out
              rw [k3_succ hx2] at hp
              simp only [List.length_append] at hp
              clear hx2 hm2 hcs
              rw [e1]
              clear e1
              go_wp2_with fail
              refine (put_any base (base + 1) (k3 N k m j) r.A r.c r.addr _ (hacc.alloc _) (Sl.more (HR.out.below (hpf.alloc (by omega) _).below) (by simp; omega)) (by omega) (by omega)).mono ?_
              rintro e w2 ⟨rfl, hacc2, hpf2⟩
              rw [← k3_succ HX2.out] at hacc2
              go_wp2_with fail
              go_roundw
              case rel => exact ⟨j + 1, by omega, by go_num, hacc2, (hpf.alloc (by omega) _).trans hpf2, hpf2.box _ _ _ (hbk.alloc _) (by decide) (by omega)⟩
              case measure => simp [intOf]; omega
            · rw [k3_full (by omega)] at hacc
              have hcw : wr.cell? ⟨c, 4, none⟩ = some (.slice m.A2 m.writes.length m.c2) := hbk.cell 4
              go_wp2_with fail
              obtain ⟨w5, rfl⟩ : ∃ w5 : World, w5 = wr := ⟨_, rfl⟩
              clear hlt2 hj hsz hcw hbk
              go_loopw [62] (fun i wr => ∃ j : Nat, j ≤ m.writes.length ∧ i = .int .i64 j ∧ Acc wr base (base + 1) (k4 N k m j) ∧ PutF base (base + 1) W1 wr) (fun i _ => m.writes.length - (intOf i).toNat)
              case atStart => exact ⟨0, Nat.zero_le _, rfl, hacc, hpf⟩
              case round =>
                clear hacc hpf
                obtain ⟨j, hj, rfl, hacc, hpf⟩ := hrel
                have hsz : base + 2 ≤ wr.heap.size := by have := hpf.below.size; have := HSZ.out; omega
                by_cases hlt2 : j < m.writes.length
                · obtain ⟨b2, off2, r, e1, hb2, hx2, hm2, hcs⟩ := (HM.out.below hpf.below).wr.elem (by omega) (fun _ => rfl) hlt2
                  obtain ⟨hc0, hc1, hc2⟩ := WriteH.at_ hcs
                  have HX2 := Lib.hid hx2
                  have HR := Lib.hid (HM.out.wrs r hm2)
                  have hp := pre_len (k4_pre (j := j + 1) HX.out) HD.out
                  rw [k4_succ hx2] at hp
                  simp only [List.length_append, List.length_cons, List.length_nil] at hp
                  clear hx2 hm2 hcs
                  rw [e1]
                  clear e1
                  go_wp2_with fail
                  refine (put1_any base (base + 1) (k4 N k m j) r.on _ _ (by simp) (hacc.alloc _) (by omega) (by omega)).mono ?_
                  rintro e w2 ⟨rfl, hacc2, hpf2⟩
                  obtain ⟨d, hd⟩ : ∃ d, d = wr.heap.size := ⟨_, rfl⟩
                  have hbk := hpf2.box _ _ _ ((Blk.new wr 221 r.cells.toArray).alloc _) (by decide) (by omega)
                  rw [← hd] at hbk
                  have hd1 : w2.cell? ⟨d, 1, none⟩ = some (.slice r.A r.addr.length r.c) := hbk.cell 1
                  have hpf3 := ((hpf.alloc (by omega) _).alloc (by simp; omega) _).trans hpf2
                  have hs2 : base + 2 ≤ w2.heap.size := by have := hpf3.below.size; have := HSZ.out; omega
                  have hdB : base + 2 ≤ d := by omega
                  rw [← hd]
                  clear hd hacc hpf hpf2 hc0 hc1 hc2
                  go_wp2_with fail
                  refine (put_any base (base + 1) _ r.A r.c r.addr _ hacc2 ((HR.out.1.below hpf3.below).more (by omega)) (by simp; omega) (by omega)).mono ?_
                  rintro e w4 ⟨rfl, hacc3, hpf4⟩
                  have hbk2 := hpf4.box _ _ _ hbk (by decide) (by omega)
                  have hd2 : w4.cell? ⟨d, 2, none⟩ = some (.slice r.A2 r.data.length r.c2) := hbk2.cell 2
                  have hpf5 := hpf3.trans hpf4
                  have hs4 : base + 2 ≤ w4.heap.size := by have := hpf5.below.size; have := HSZ.out; omega
                  clear hacc2 hpf3 hpf4 hd1 hbk hbk2
                  go_wp2_with fail
                  refine (put_any base (base + 1) _ r.A2 r.c2 r.data _ hacc3 ((HR.out.2.below hpf5.below).more (by omega)) (by simp; omega) (by omega)).mono ?_
                  rintro e w6 ⟨rfl, hacc4, hpf6⟩
                  rw [← k4_succ HX2.out] at hacc4
                  go_wp2_with fail
                  go_roundw
                  case rel => exact ⟨j + 1, by omega, by go_num, hacc4, hpf5.trans hpf6⟩
                  case measure => simp [intOf]; omega
                · rw [k4_full HX.out (by omega)] at hacc
                  go_wp2_with fail
                  go_roundw
                  case rel => exact ⟨k + 1, by omega, by go_num, hacc, hpf⟩
                  case measure => simp [intOf]; omega
        · rw [k2_full (by omega)] at hacc
          have hf7 : wr.cell? ⟨base, 7, none⟩ = some (.slice N.An N.ands.length N.cn) := (hpf.net HB0.out).cell 7
          go_wp2_with fail
          obtain ⟨w5, rfl⟩ : ∃ w5 : World, w5 = wr := ⟨_, rfl⟩
          clear hlt hk hsz hf7
          go_loopw [84] (fun i wr => ∃ k : Nat, k ≤ N.ands.length ∧ i = .int .i64 k ∧ Acc wr base (base + 1) (k5 N k) ∧ PutF base (base + 1) W1 wr) (fun i _ => N.ands.length - (intOf i).toNat)
          case atStart => exact ⟨0, Nat.zero_le _, rfl, hacc, hpf⟩
          case round =>
            clear hacc hpf
            obtain ⟨k, hk, rfl, hacc, hpf⟩ := hrel
            have hsz : base + 2 ≤ wr.heap.size := by have := hpf.below.size; have := HSZ.out; omega
            by_cases hlt : k < N.ands.length
            · obtain ⟨b, off, x, e1, hb, hx, hm, hcs⟩ := (HOK.out.below hpf.below).and.elem (by omega) (fun _ => rfl) hlt
              obtain ⟨hc0, hc1, hc2⟩ := AndD.at_ hcs
              have hp := pre_len (k5_pre (k := k + 1)) HD.out
              rw [k5_succ hx] at hp
              have HX := Lib.hid hx
              clear hx hm hcs
              rw [e1]
              clear e1
              simp only [List.length_append, List.length_cons, List.length_nil] at hp
              go_wp2_with fail
              refine (put2_any base (base + 1) (k5 N k) x.a x.b _ _ (by simp) (hacc.alloc _) (by omega) (by omega)).mono ?_
              rintro e w2 ⟨rfl, hacc2, hpf2⟩
              rw [← k5_succ HX.out] at hacc2
              go_wp2_with fail
              go_roundw
              case rel => exact ⟨k + 1, by omega, by go_num, hacc2, ((hpf.alloc (by omega) _).alloc (by simp; omega) _).trans hpf2⟩
              case measure => simp [intOf]; omega
            · rw [k5_full (by omega)] at hacc
              obtain ⟨v, hv, hown⟩ := hacc
              have hc := hv.cell 0
              have hf := hv.frozen 0
              simp only [List.getElem?_toArray, List.getElem?_cons_zero] at hc
              obtain ⟨Av, cv, rfl, hv1, hv2, _⟩ := own_slice hown
              have hne := own_blk_ne hown hv (by decide)
              have hc' := (hv.set_ 0 (.slice Av (literalsL N.d).length cv)).cell 0
              have hbe := (HBE.out.trans hpf.below).setCell (p := ⟨base + 1, 0, none⟩) (by simp) (.slice Av (literalsL N.d).length cv)
              rw [HBA.out] at hbe
              have HBE2 := Lib.hid hbe
              have HC := Lib.hid hc'
              have HNE := Lib.hid hne
              clear hbe hc' hne
              go_wp2_with fail
              have hc2 := HC.out
              simp at hc2
              refine bodyPost_ret (v := .slice Av (literalsL N.d).length cv) (by simp [results, Tryz.results292, go_sem, hc2]) rfl ?_
              have hown2 := ownsRow_setCell_other hown (a := ⟨base + 1, 0, none⟩) HNE.out (.slice Av (literalsL N.d).length cv)
              rw [HBA.out] at hown2
              exact RetRow.mk (n := (literalsL N.d).length) (by simp [ints]) (by rw [HBA.out]; exact hown2) (by rw [HBA.out]; exact HBE2.out)
end Go.Proofs.YtpdgjcejkmkglaaGreat
