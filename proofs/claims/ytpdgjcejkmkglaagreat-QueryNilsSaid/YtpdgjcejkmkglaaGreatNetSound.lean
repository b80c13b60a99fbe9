/- net.Sound: which netlists are sound. -/
import Derived.Test.YtpdgjcejkmkglaaGreatNetWide
import Derived.Test.YtpdgjcejkmkglaaGreatNetDefines
import Derived.Test.YtpdgjcejkmkglaaGreatNetLits2
namespace Go.Proofs.YtpdgjcejkmkglaaGreat
open Go.RowKit Pl
set_option linter.unusedVariables false
theorem litVar_any (x : Int) (w : World) (h : 0 ≤ x) (h' : x ≤ 9223372036854775807) : Calls Tryz.prog 136 #[.int .i64 x] w fun e w' => e = .returned (.int .i64 (x / 2)) ∧ w = w' := by
  go_enter Tryz.func136, Tryz.ntmps136
  go_wp2
  go_ret
  exact ⟨rfl, rfl⟩
theorem fit_lits {n : NetD} (ft : Fit n) : ∀ x ∈ literalsL n, I64 x := by
  intro x hx
  unfold literalsL at hx
  simp only [List.mem_append, List.mem_map, List.mem_flatMap] at hx
  rcases hx with ((((⟨l, hl, rfl⟩ | h) | h) | h) | ⟨m, hm, h⟩) | ⟨a, ha, h⟩
  · exact (ft.lat.2 l hl).2.1
  · exact ft.out.2 x h
  · exact ft.bad.2 x h
  · exact ft.con.2 x h
  · have hf := ft.mems.2 m hm
    unfold memL at h
    simp only [List.mem_append, List.mem_flatMap] at h
    rcases h with ⟨r, hr, h⟩ | ⟨r, hr, h⟩
    · exact (hf.rds r hr).2.2.2 x h
    · obtain ⟨_, _, h3, h4, h5⟩ := hf.wrs r hr
      unfold writeL at h
      simp only [List.mem_cons, List.mem_append] at h
      rcases h with rfl | h | h
      · exact h3
      · exact h4 x h
      · exact h5 x h
  · unfold andL at h
    simp at h
    rcases h with rfl | rfl
    · exact (ft.ands.2 a ha).2.1
    · exact (ft.ands.2 a ha).2.2
theorem flat_len_le {α β : Type} (f : α → List β) (c : Nat) : ∀ (l : List α), (∀ x ∈ l, (f x).length ≤ c) → (l.flatMap f).length ≤ l.length * c
  | [], _ => by simp
  | x :: l, h => by
    rw [List.flatMap_cons, List.length_append, List.length_cons, Nat.succ_mul]
    have := flat_len_le f c l (fun y hy => h y (by simp [hy]))
    have := h x (by simp)
    omega
theorem fit_lits_len {n : NetD} (ft : Fit n) (hl : ∀ m ∈ n.mems, m.reads.length ≤ 6 ∧ m.writes.length ≤ 6) (hm : n.mems.length ≤ 6) : (literalsL n).length ≤ 1000000 := by
  have h1 : (n.mems.flatMap memL).length ≤ n.mems.length * 72006 := flat_len_le memL 72006 _ fun m hm => by
    have hf := ft.mems.2 m hm
    have hc := hl m hm
    unfold memL
    rw [List.length_append]
    have a1 : (m.reads.flatMap (·.addr)).length ≤ m.reads.length * 4000 := flat_len_le _ 4000 _ fun r hr => (hf.rds r hr).1
    have a2 : (m.writes.flatMap writeL).length ≤ m.writes.length * 8001 := flat_len_le _ 8001 _ fun r hr => by
      have := hf.wrs r hr
      simp only [writeL, List.length_cons, List.length_append]
      omega
    have b1 : m.reads.length * 4000 ≤ 6 * 4000 := Nat.mul_le_mul_right _ hc.1
    have b2 : m.writes.length * 8001 ≤ 6 * 8001 := Nat.mul_le_mul_right _ hc.2
    omega
  have h2 : (n.ands.flatMap andL).length ≤ n.ands.length * 2 := flat_len_le andL 2 _ fun a _ => by simp [andL]
  have h3 : n.mems.length * 72006 ≤ 6 * 72006 := Nat.mul_le_mul_right _ hm
  have := ft.lat.1
  have := ft.out.1
  have := ft.bad.1
  have := ft.con.1
  have := ft.ands.1
  unfold literalsL
  simp only [List.length_append, List.length_map]
  omega
theorem fit_defs_len {n : NetD} (ft : Fit n) (hl : ∀ m ∈ n.mems, m.reads.length ≤ 6 ∧ m.writes.length ≤ 6) (hm : n.mems.length ≤ 6) : (definedL n).length ≤ 1000000 := by
  have h1 : (n.mems.flatMap readsL).length ≤ n.mems.length * 24000 := flat_len_le readsL 24000 _ fun m hm => by
    have hf := ft.mems.2 m hm
    have hc := hl m hm
    unfold readsL
    have a1 : (m.reads.flatMap fun r => dataL r.var m.word.toNat).length ≤ m.reads.length * 4000 := flat_len_le _ 4000 _ fun r hr => by
      have := hf.word.2
      simp [dataL]; omega
    have b1 : m.reads.length * 4000 ≤ 6 * 4000 := Nat.mul_le_mul_right _ hc.1
    omega
  have h3 : n.mems.length * 24000 ≤ 6 * 24000 := Nat.mul_le_mul_right _ hm
  have := ft.ins.1
  have := ft.lat.1
  have := ft.ands.1
  unfold definedL
  simp only [List.length_append, List.length_map]
  omega
theorem limits_no {n : NetD} (h : limitsB n = false) : 0 ≤ n.vars ∧ n.vars ≤ 2000 ∧ n.mems.length ≤ 6 ∧ ∀ m ∈ n.mems, m.reads.length ≤ 6 ∧ m.writes.length ≤ 6 := by
  unfold limitsB at h
  rw [Bool.or_eq_false_iff] at h
  obtain ⟨h1, h2⟩ := h
  have h1 := of_decide_eq_false h1
  refine ⟨by omega, by omega, by omega, fun m hm => ?_⟩
  have := List.any_eq_false.1 h2 m hm
  unfold portsB at this
  simp at this
  omega
theorem Blk.net {w : World} {g : Nat} {N : NetH} (h : Blk w g 60 N.fs) : w.cell? ⟨g, 0, none⟩ = some (.int .i64 N.vars) ∧ w.cell? ⟨g, 1, none⟩ = some (.slice N.Ai N.inputs.length N.ci) ∧ w.cell? ⟨g, 2, none⟩ = some (.slice N.Al N.latches.length N.cl) ∧ w.cell? ⟨g, 3, none⟩ = some (.slice N.Ao N.outputs.length N.co) ∧ w.cell? ⟨g, 4, none⟩ = some (.slice N.Ab N.bads.length N.cb) ∧ w.cell? ⟨g, 5, none⟩ = some (.slice N.Ac N.constraints.length N.cc) ∧ w.cell? ⟨g, 6, none⟩ = some (.slice N.Am N.mems.length N.cm) ∧ w.cell? ⟨g, 7, none⟩ = some (.slice N.An N.ands.length N.cn) :=
  ⟨h.cell 0, h.cell 1, h.cell 2, h.cell 3, h.cell 4, h.cell 5, h.cell 6, h.cell 7⟩
set_option maxRecDepth 100000 in
set_option maxHeartbeats 2000000 in
theorem sound_any (N : NetH) (w : World) (hok : N.okIn w w.heap.size) (ft : Fit N.d) :
    Calls Tryz.prog 224 #[N.v] w fun e w' => e = .returned (.int .i64 (soundF N.d)) ∧ Below w.heap.size w w' := by
  obtain ⟨z, hz⟩ : ∃ z, z = soundF N.d := ⟨_, rfl⟩
  rw [← hz]
  unfold soundF at hz
  have HZ := Lib.hid hz
  clear hz
  have hmw : N.d.mems.any wideB = N.mems.any (fun x => wideB x.d) := by show (N.mems.map MemH.d).any wideB = _; rw [List.any_map]; rfl
  rw [hmw] at HZ
  clear hmw
  change Hid (z = if limitsB N.d = true then 10 else if (N.mems.any fun x => wideB x.d) = true then 9 else if N.latches.any initB = true then 1 else if dup N.vars [] (definedL N.d) ≠ 0 then dup N.vars [] (definedL N.d) else if (literalsL N.d).any (litB N.vars) = true then 5 else 0) at HZ
  obtain ⟨base, hbase⟩ : ∃ base, base = w.heap.size := ⟨_, rfl⟩
  have hb0 : Blk (w.alloc (.cells N.fs 60)) base 60 N.fs := by rw [hbase]; exact Blk.new w _ _
  have hB : Below base w (w.alloc (.cells N.fs 60)) := by rw [hbase]; exact (Below.refl _ _).alloc (Nat.le_refl _) _
  have hsz : base < (w.alloc (.cells N.fs 60)).heap.size := by rw [hbase]; simp
  rw [← hbase] at hok
  have HOK := Lib.hid (hok.below hB)
  have HF := Lib.hid ft
  have HB := Lib.hid hB
  have HB0 := Lib.hid hb0
  have HBA := Lib.hid hbase
  clear hok hB
  unfold NetH.v
  go_enter Tryz.func224, Tryz.ntmps224
  unfold NetH.fs
  go_wp2_with fail
  rw [← hbase]
  change Calls _ _ #[N.v] (w.alloc (.cells N.fs 60)) _
  generalize w.alloc (.cells N.fs 60) = W1 at hb0 hsz HOK HB HB0 ⊢
  clear hbase
  refine (limits_any N W1 (HOK.out.more (by omega)) HF.out).mono ?_
  rintro e w2 ⟨rfl, hbl⟩
  rcases h1 : limitsB N.d with _ | _
  · have hs2 := hbl.size
    obtain ⟨hv0, hv2, hml, hmr⟩ := limits_no h1
    have HDL := Lib.hid (fit_defs_len HF.out hmr hml)
    have HLL := Lib.hid (fit_lits_len HF.out hmr hml)
    have hml2 : N.mems.length ≤ 6 := by simpa [NetH.d] using hml
    have hmf : ∀ x ∈ N.mems, x.okIn w2 w2.heap.size ∧ x.reads.length ≤ 100 ∧ x.writes.length ≤ 100 := fun x hx => by
      have h := hmr x.d (List.mem_map_of_mem hx)
      simp only [MemH.d, List.length_map] at h
      exact ⟨((HOK.out.mms x hx).below (hbl.mono (by omega))).more (by omega), by omega, by omega⟩
    have HMF := Lib.hid hmf
    change 0 ≤ N.vars at hv0
    change N.vars ≤ 2000 at hv2
    have hlat : N.latches.length ≤ 4000 := HF.out.lat.1
    obtain ⟨c0, c1, c2, c3, c4, c5, c6, c7⟩ := (hb0.below hbl hsz).net
    have HZ1 := HZ.out
    rw [if_neg (by rw [h1]; simp)] at HZ1
    have HZ2 := Lib.hid HZ1
    have HOK2 := Lib.hid (HOK.out.below (hbl.mono (by omega)))
    have HB2 := Lib.hid (HB.out.trans (hbl.mono (by omega)))
    have HB02 := Lib.hid (hb0.below hbl hsz)
    clear HZ1 HZ h1 hmf hml hmr hb0 hbl
    go_wp2_with fail
    refine (conWide_any N.Am N.cm N.mems w2 (HOK2.out.mem.more (by omega)) HMF.out (by omega)).mono ?_
    rintro e w3 ⟨rfl, hbl⟩
    have hs3 := hbl.size
    rcases h2 : N.mems.any (fun x => wideB x.d) with _ | _
    · have HZ1 := HZ2.out
      rw [if_neg (by rw [h2]; simp)] at HZ1
      have HZ3 := Lib.hid HZ1
      clear HZ1 HZ2 h2 HMF c0 c1 c2 c3 c4 c5 c6 c7
      obtain ⟨c0, c1, c2, c3, c4, c5, c6, c7⟩ := (HB02.out.below hbl (by omega)).net
      have HOK3 := Lib.hid (HOK2.out.below (hbl.mono (by omega)))
      have HB3 := Lib.hid (HB2.out.trans (hbl.mono (by omega)))
      have HB03 := Lib.hid (HB02.out.below hbl (by omega))
      clear HOK2 HB2 HB02 hbl
      go_wp2_with fail
      refine (conInit_any N.Al N.cl N.latches w3 (HOK3.out.lat.more (by omega)) (by omega)).mono ?_
      rintro e w4 ⟨rfl, hbl⟩
      have hs4 := hbl.size
      rcases h3 : N.latches.any initB with _ | _
      · have HZ1 := HZ3.out
        rw [if_neg (by rw [h3]; simp)] at HZ1
        have HZ4 := Lib.hid HZ1
        clear HZ1 HZ3 h3 c0 c1 c2 c3 c4 c5 c6 c7
        obtain ⟨c0, c1, c2, c3, c4, c5, c6, c7⟩ := (HB03.out.below hbl (by omega)).net
        have HOK4 := Lib.hid (HOK3.out.below (hbl.mono (by omega)))
        have HB4 := Lib.hid (HB3.out.trans (hbl.mono (by omega)))
        have HB04 := Lib.hid (HB03.out.below hbl (by omega))
        clear HOK3 HB3 HB03 hbl
        obtain ⟨V, hV⟩ := Int.eq_ofNat_of_zero_le hv0
        rw [hV] at HZ4
        have HV := Lib.hid hV
        clear hV
        go_wp2_with fail
        change Calls _ _ #[N.v] w4 _
        refine (defines_any N V w4 HV.out (by have := HV.out; omega) (HOK4.out.more (by omega)) HF.out HDL.out).mono ?_
        rintro e w5 ⟨rfl, hbl⟩
        have hs5 := hbl.size
        clear c0 c1 c2 c3 c4 c5 c6 c7
        obtain ⟨c0, c1, c2, c3, c4, c5, c6, c7⟩ := (HB04.out.below hbl (by omega)).net
        have HOK5 := Lib.hid (HOK4.out.below (hbl.mono (by omega)))
        have HB5 := Lib.hid (HB4.out.trans (hbl.mono (by omega)))
        have HB05 := Lib.hid (HB04.out.below hbl (by omega))
        clear HOK4 HB4 HB04 hbl
        obtain ⟨dd, hdd⟩ : ∃ dd, dd = dup V [] (definedL N.d) := ⟨_, rfl⟩
        rw [← hdd] at HZ4 ⊢
        clear hdd
        by_cases hd0 : dd = 0
        · subst hd0
          rw [if_neg (by simp)] at HZ4
          go_wp2_with fail
          change Calls _ _ #[N.v] w5 _
          refine (literals_any N w5 (HOK5.out.more (by omega)) HF.out HLL.out).mono ?_
          rintro e w6 ⟨A, c, rfl, h61, h62, hown, hbl⟩
          have hs6 := hbl.size
          obtain ⟨L, hL⟩ : ∃ L, L = literalsL N.d := ⟨_, rfl⟩
          have hI : ∀ x ∈ L, I64 x := by rw [hL]; exact fit_lits HF.out
          have hln : L.length ≤ 1000000 := by rw [hL]; exact HLL.out
          rw [← hL] at HZ4 hown
          have eln : (ints (literalsL N.d)).length = L.length := by rw [hL]; simp [ints]
          rw [eln] at h61 ⊢
          have eln2 : (ints L).length = L.length := by simp [ints]
          rw [eln2] at hown
          have hSl := Sl.own hown
          have hc0 := (HB05.out.below hbl (by omega)).net.1
          have HB6 := Lib.hid (HB5.out.trans (hbl.mono (by omega)))
          rw [HV.out] at hc0
          clear hL eln eln2 hown hbl HB05 HOK5 HB5 c0 c1 c2 c3 c4 c5 c6 c7
          have HI := Lib.hid hI
          clear hI
          go_wp2_with fail
          go_loopw [25] (fun i wr => ∃ k q : Nat, k ≤ L.length ∧ i = .int .i64 k ∧ (L.take k).any (litB V) = false ∧ wr = w6.drewN q) (fun i _ => L.length - (intOf i).toNat)
          case atStart => exact ⟨0, 0, Nat.zero_le _, rfl, rfl, rfl⟩
          case round =>
            obtain ⟨k, q, hk, rfl, hno, rfl⟩ := hrel
            have HNO := Lib.hid hno
            clear hno
            by_cases hlt : k < L.length
            · obtain ⟨b, off, x, e1, hb, hx, hm, hcx⟩ := hSl.intAt hlt
              have hxi := HI.out x hm
              have hx1 := hxi.1
              have hx2 := hxi.2
              have HX := Lib.hid hx
              have HM := Lib.hid hm
              clear hx hm hxi
              rw [e1]
              clear e1
              by_cases hx0 : x < 0
              · go_wp2_with fail
                go_quiet (fail)
                go_wp2_with fail
                go_ret
                exact ⟨by rw [HZ4.out, if_pos (List.any_eq_true.2 ⟨x, HM.out, by unfold litB; simp; omega⟩)]; rfl, by rw [← HBA.out]; exact below_drewN (below_drewN HB6.out _) _⟩
              · have HVAR : Hid (∀ n, Calls Tryz.prog 136 #[.int .i64 x] (w6.drewN n) fun e w' => e = .returned (.int .i64 (x / 2)) ∧ w6.drewN n = w') := fun n => litVar_any x _ (by omega) (by omega)
                by_cases hx3 : (V : Int) < x / 2
                · go_wp2_with fail
                  go_quiet ((go_at_call 136; exact quiet_add_left (HVAR.out _)))
                  go_wp2_with fail
                  go_ret
                  exact ⟨by rw [HZ4.out, if_pos (List.any_eq_true.2 ⟨x, HM.out, by unfold litB; simp; omega⟩)]; rfl, by rw [← HBA.out]; exact below_drewN (below_drewN HB6.out _) _⟩
                · go_wp2_with fail
                  go_quiet ((go_at_call 136; exact quiet_add_left (HVAR.out _)))
                  go_wp2_with fail
                  go_roundw
                  case rel => exact ⟨k + 1, _, by omega, by go_num, any_take_succ HX.out HNO.out (by unfold litB; simp; omega), rfl⟩
                  case measure => simp [intOf]; omega
            · go_wp2_with fail
              go_ret
              exact ⟨by rw [HZ4.out, any_take_all (by omega) HNO.out]; rfl, by rw [← HBA.out]; exact below_drewN HB6.out _⟩
        · have hd1 : (dd != 0) = true := by simpa using hd0
          go_wp2_with fail
          go_ret
          exact ⟨by rw [HZ4.out, if_pos hd0]; rfl, by rw [← HBA.out]; exact HB5.out⟩
      · have HZ1 := HZ3.out
        rw [if_pos h3] at HZ1
        have HZ4 := Lib.hid HZ1
        clear HZ1
        go_wp2_with fail
        go_ret
        exact ⟨by rw [HZ4.out]; rfl, by rw [← HBA.out]; exact HB3.out.trans (hbl.mono (by omega))⟩
    · have HZ1 := HZ2.out
      rw [if_pos h2] at HZ1
      have HZ4 := Lib.hid HZ1
      clear HZ1
      go_wp2_with fail
      go_ret
      exact ⟨by rw [HZ4.out]; rfl, by rw [← HBA.out]; exact HB2.out.trans (hbl.mono (by omega))⟩
  · go_wp2_with fail
    go_ret
    exact ⟨by rw [HZ.out, if_pos h1]; rfl, by rw [← HBA.out]; exact HB.out.trans (hbl.mono (by omega))⟩
end Go.Proofs.YtpdgjcejkmkglaaGreat
