/- net.wide, net.limits, and the tests of lists by slices.ContainsFunc: what they answer. -/
import Derived.Test.YtpdgjcejkmkglaaGreatNetView
namespace Go.Proofs.YtpdgjcejkmkglaaGreat
open Go.RowKit Pl
set_option linter.unusedVariables false

theorem any_take_succ {α : Type} {p : α → Bool} {l : List α} {k : Nat} {x : α} (hx : l[k]? = some x) (h : (l.take k).any p = false) (hp : p x = false) : (l.take (k + 1)).any p = false := by
  rw [take_snoc hx, List.any_append, h]; simp [hp]
theorem any_take_all {α : Type} {p : α → Bool} {l : List α} {k : Nat} (hk : l.length ≤ k) (h : (l.take k).any p = false) : l.any p = false := by
  rwa [List.take_of_length_le hk] at h
/-- an index is told, and whether there is one -/
def RetIdx (b : Bool) (w : World) (e : Ending) (w' : World) : Prop := ∃ i : Int, e = .returned (.int .i64 i) ∧ decide (0 ≤ i) = b ∧ Below w.heap.size w w'

theorem wideR_any (m : MemH) (g : Nat) (v : Int) (A : Option Addr) (n c : Nat) (w : World) (hg : Blk w g 98 m.cells.toArray) :
    Calls Tryz.prog 350 #[.agg #[.int .i64 v, .slice A n c], .pointer (some ⟨g, 0, none⟩)] w fun e w' => e = .returned (.bool ((n : Int) != m.addr)) ∧ Below w.heap.size w w' := by
  have h0 : (w.alloc (.cells #[.int .i64 v, .slice A n c] 108)).cell? ⟨g, 0, none⟩ = some (.int .i64 m.addr) := ((hg.alloc _).cell 0)
  clear hg
  go_enter Tryz.func350, Tryz.ntmps350
  go_wp2_with fail
  go_ret
  exact ⟨rfl, (Below.refl _ _).alloc (Nat.le_refl _) _⟩
theorem wideW_any (m : MemH) (g : Nat) (v : Int) (A : Option Addr) (n c : Nat) (A2 : Option Addr) (n2 c2 : Nat) (w : World) (hg : Blk w g 98 m.cells.toArray) :
    Calls Tryz.prog 351 #[.agg #[.int .i64 v, .slice A n c, .slice A2 n2 c2], .pointer (some ⟨g, 0, none⟩)] w fun e w' => e = .returned (.bool ((n : Int) != m.addr || (n2 : Int) != m.word)) ∧ Below w.heap.size w w' := by
  have h0 : (w.alloc (.cells #[.int .i64 v, .slice A n c, .slice A2 n2 c2] 221)).cell? ⟨g, 0, none⟩ = some (.int .i64 m.addr) := ((hg.alloc _).cell 0)
  have h1 : (w.alloc (.cells #[.int .i64 v, .slice A n c, .slice A2 n2 c2] 221)).cell? ⟨g, 1, none⟩ = some (.int .i64 m.word) := ((hg.alloc _).cell 1)
  clear hg
  rcases hb : ((n : Int) != m.addr) with _ | _
  all_goals
    go_enter Tryz.func351, Tryz.ntmps351
    go_wp2_with fail
    go_ret
    exact ⟨by simp, (Below.refl _ _).alloc (Nat.le_refl _) _⟩
theorem ports_any (a wd : Int) (y : Bool) (A : Option Addr) (n c : Nat) (A2 : Option Addr) (n2 c2 : Nat) (w : World) (hn : n ≤ 100) (hn2 : n2 ≤ 100) :
    Calls Tryz.prog 348 #[.agg #[.int .i64 a, .int .i64 wd, .bool y, .slice A n c, .slice A2 n2 c2]] w fun e w' => e = .returned (.bool (decide (4 < n ∨ 4 < n2))) ∧ Below w.heap.size w w' := by
  by_cases h1 : 4 < n <;> by_cases h2 : 4 < n2
  all_goals
    go_enter Tryz.func348, Tryz.ntmps348
    go_wp2_with fail
    go_ret
    exact ⟨ret_bool (by rw [Bool.eq_iff_iff]; try (first | (simp; done) | (simp; omega))), (Below.refl _ _).alloc (Nat.le_refl _) _⟩
theorem init_any (l : LatchD) (w : World) :
    Calls Tryz.prog 290 #[.agg #[.int .i64 l.var, .int .i64 l.next, .int .i64 l.init]] w fun e w' => e = .returned (.bool (initB l)) ∧ Below w.heap.size w w' := by
  obtain ⟨z, hz⟩ : ∃ z, z = initB l := ⟨_, rfl⟩
  have HZ := Lib.hid hz
  rw [← hz]
  clear hz
  obtain ⟨a, b, i⟩ := l
  rcases (show i < 0 ∨ (¬ i < 0 ∧ 2 < i) ∨ (¬ i < 0 ∧ ¬ 2 < i) from by omega) with h1 | ⟨h1, h2⟩ | ⟨h1, h2⟩
  all_goals
    go_enter Tryz.func290, Tryz.ntmps290
    go_wp2_with fail
    go_ret
    exact ⟨ret_bool (by rw [HZ.out, Bool.eq_iff_iff]; unfold initB; first | (simp; done) | (simp; omega)), (Below.refl _ _).alloc (Nat.le_refl _) _⟩

set_option maxHeartbeats 400000 in
theorem idxRead_any (m : MemH) (g : Nat) (A : Option Addr) (c : Nat) (l : List ReadH) (w : World) (hS : Sl w w.heap.size 2 A l.length c (l.flatMap ReadH.cells)) (hg : Blk w g 98 m.cells.toArray) (hn : l.length ≤ 4000) :
    Calls Tryz.prog 387 #[.slice A l.length c, .func (.func 350) #[] #[.pointer (some ⟨g, 0, none⟩)]] w (RetIdx (l.any (fun x => wideR m.d x.d)) w) := by
  go_enter Tryz.func387, Tryz.ntmps387
  go_wp2_with fail
  go_loopw [8] (fun i wr => ∃ k : Nat, k ≤ l.length ∧ i = .int .i64 k ∧ (l.take k).any (fun x => wideR m.d x.d) = false ∧ Below w.heap.size w wr) (fun i _ => l.length - (intOf i).toNat)
  case atStart => exact ⟨0, Nat.zero_le _, rfl, rfl, Below.refl _ _⟩
  case round =>
    obtain ⟨k, hk, rfl, hno, hbel⟩ := hrel
    have HNO := Lib.hid hno
    clear hno
    by_cases hlt : k < l.length
    · obtain ⟨b, off, x, rfl, hb, hx, hm, hcs⟩ := (hS.below hbel).elem (by omega) (fun _ => rfl) hlt
      obtain ⟨hc0, hc1⟩ := ReadH.at_ hcs
      have HX := Lib.hid hx
      have HM := Lib.hid hm
      clear hcs hx hm
      go_wp2_with fail
      refine (wideR_any m g x.var x.A x.addr.length x.c wr (hg.below hbel hg.lt)).mono ?_
      rintro e w1 ⟨rfl, hb1⟩
      rcases hp : (fun x => wideR m.d x.d) x with _ | _
      · have hp' := hp
        change ((x.addr.length : Int) != m.addr) = _ at hp'
        rw [hp']
        clear hp'
        go_wp2_with fail
        go_roundw
        case rel => exact ⟨k + 1, by omega, by go_num, any_take_succ HX.out HNO.out hp, hbel.trans (hb1.mono hbel.size)⟩
        case measure => simp [intOf]; omega
      · have hp' := hp
        change ((x.addr.length : Int) != m.addr) = _ at hp'
        rw [hp']
        clear hp'
        go_wp2_with fail
        go_ret
        exact ⟨k, rfl, by rw [List.any_eq_true.2 ⟨x, HM.out, hp⟩]; simp, hbel.trans (hb1.mono hbel.size)⟩
    · go_wp2_with fail
      go_ret
      exact ⟨-1, rfl, by rw [any_take_all (by omega) HNO.out]; rfl, hbel⟩
theorem conRead_any (m : MemH) (g : Nat) (A : Option Addr) (c : Nat) (l : List ReadH) (w : World) (hS : Sl w w.heap.size 2 A l.length c (l.flatMap ReadH.cells)) (hg : Blk w g 98 m.cells.toArray) (hn : l.length ≤ 4000) :
    Calls Tryz.prog 352 #[.slice A l.length c, .func (.func 350) #[] #[.pointer (some ⟨g, 0, none⟩)]] w fun e w' => e = .returned (.bool (l.any (fun x => wideR m.d x.d))) ∧ Below w.heap.size w w' := by
  go_enter Tryz.func352, Tryz.ntmps352
  go_wp2_with fail
  refine (idxRead_any m g A c l w hS hg hn).mono ?_
  rintro e w1 ⟨i, rfl, hi, hb1⟩
  have HI := Lib.hid hi
  clear hi
  go_wp2_with fail
  go_ret
  exact ⟨by rw [HI.out]; rfl, hb1⟩
set_option maxHeartbeats 400000 in
theorem idxWrite_any (m : MemH) (g : Nat) (A : Option Addr) (c : Nat) (l : List WriteH) (w : World) (hS : Sl w w.heap.size 3 A l.length c (l.flatMap WriteH.cells)) (hg : Blk w g 98 m.cells.toArray) (hn : l.length ≤ 4000) :
    Calls Tryz.prog 388 #[.slice A l.length c, .func (.func 351) #[] #[.pointer (some ⟨g, 0, none⟩)]] w (RetIdx (l.any (fun x => wideW m.d x.d)) w) := by
  go_enter Tryz.func388, Tryz.ntmps388
  go_wp2_with fail
  go_loopw [8] (fun i wr => ∃ k : Nat, k ≤ l.length ∧ i = .int .i64 k ∧ (l.take k).any (fun x => wideW m.d x.d) = false ∧ Below w.heap.size w wr) (fun i _ => l.length - (intOf i).toNat)
  case atStart => exact ⟨0, Nat.zero_le _, rfl, rfl, Below.refl _ _⟩
  case round =>
    obtain ⟨k, hk, rfl, hno, hbel⟩ := hrel
    have HNO := Lib.hid hno
    clear hno
    by_cases hlt : k < l.length
    · obtain ⟨b, off, x, rfl, hb, hx, hm, hcs⟩ := (hS.below hbel).elem (by omega) (fun _ => rfl) hlt
      obtain ⟨hc0, hc1, hc2⟩ := WriteH.at_ hcs
      have HX := Lib.hid hx
      have HM := Lib.hid hm
      clear hcs hx hm
      go_wp2_with fail
      refine (wideW_any m g x.on x.A x.addr.length x.c x.A2 x.data.length x.c2 wr (hg.below hbel hg.lt)).mono ?_
      rintro e w1 ⟨rfl, hb1⟩
      rcases hp : (fun x => wideW m.d x.d) x with _ | _
      · have hp' := hp
        change ((x.addr.length : Int) != m.addr || (x.data.length : Int) != m.word) = _ at hp'
        rw [hp']
        clear hp'
        go_wp2_with fail
        go_roundw
        case rel => exact ⟨k + 1, by omega, by go_num, any_take_succ HX.out HNO.out hp, hbel.trans (hb1.mono hbel.size)⟩
        case measure => simp [intOf]; omega
      · have hp' := hp
        change ((x.addr.length : Int) != m.addr || (x.data.length : Int) != m.word) = _ at hp'
        rw [hp']
        clear hp'
        go_wp2_with fail
        go_ret
        exact ⟨k, rfl, by rw [List.any_eq_true.2 ⟨x, HM.out, hp⟩]; simp, hbel.trans (hb1.mono hbel.size)⟩
    · go_wp2_with fail
      go_ret
      exact ⟨-1, rfl, by rw [any_take_all (by omega) HNO.out]; rfl, hbel⟩
theorem conWrite_any (m : MemH) (g : Nat) (A : Option Addr) (c : Nat) (l : List WriteH) (w : World) (hS : Sl w w.heap.size 3 A l.length c (l.flatMap WriteH.cells)) (hg : Blk w g 98 m.cells.toArray) (hn : l.length ≤ 4000) :
    Calls Tryz.prog 353 #[.slice A l.length c, .func (.func 351) #[] #[.pointer (some ⟨g, 0, none⟩)]] w fun e w' => e = .returned (.bool (l.any (fun x => wideW m.d x.d))) ∧ Below w.heap.size w w' := by
  go_enter Tryz.func353, Tryz.ntmps353
  go_wp2_with fail
  refine (idxWrite_any m g A c l w hS hg hn).mono ?_
  rintro e w1 ⟨i, rfl, hi, hb1⟩
  have HI := Lib.hid hi
  clear hi
  go_wp2_with fail
  go_ret
  exact ⟨by rw [HI.out]; rfl, hb1⟩
set_option maxHeartbeats 400000 in
theorem idxPorts_any  (A : Option Addr) (c : Nat) (l : List MemH) (w : World) (hS : Sl w w.heap.size 5 A l.length c (l.flatMap MemH.cells)) (hf : ∀ x ∈ l, x.reads.length ≤ 100 ∧ x.writes.length ≤ 100) (hn : l.length ≤ 4000) :
    Calls Tryz.prog 349 #[.slice A l.length c, .func (.func 348) #[] #[]] w (RetIdx (l.any (fun x => portsB x.d)) w) := by
  go_enter Tryz.func349, Tryz.ntmps349
  go_wp2_with fail
  go_loopw [8] (fun i wr => ∃ k : Nat, k ≤ l.length ∧ i = .int .i64 k ∧ (l.take k).any (fun x => portsB x.d) = false ∧ Below w.heap.size w wr) (fun i _ => l.length - (intOf i).toNat)
  case atStart => exact ⟨0, Nat.zero_le _, rfl, rfl, Below.refl _ _⟩
  case round =>
    obtain ⟨k, hk, rfl, hno, hbel⟩ := hrel
    have HNO := Lib.hid hno
    clear hno
    by_cases hlt : k < l.length
    · obtain ⟨b, off, x, rfl, hb, hx, hm, hcs⟩ := (hS.below hbel).elem (by omega) (fun _ => rfl) hlt
      obtain ⟨hc0, hc1, hc2, hc3, hc4⟩ := MemH.at_ hcs
      have HX := Lib.hid hx
      have HM := Lib.hid hm
      clear hcs hx hm
      go_wp2_with fail
      refine (ports_any x.addr x.word x.any x.A x.reads.length x.c x.A2 x.writes.length x.c2 wr (hf x HM.out).1 (hf x HM.out).2).mono ?_
      rintro e w1 ⟨rfl, hb1⟩
      rcases hp : (fun x => portsB x.d) x with _ | _
      · have hp' := hp
        simp only [portsB, MemH.d, List.length_map] at hp'
        rw [hp']
        clear hp'
        go_wp2_with fail
        go_roundw
        case rel => exact ⟨k + 1, by omega, by go_num, any_take_succ HX.out HNO.out hp, hbel.trans (hb1.mono hbel.size)⟩
        case measure => simp [intOf]; omega
      · have hp' := hp
        simp only [portsB, MemH.d, List.length_map] at hp'
        rw [hp']
        clear hp'
        go_wp2_with fail
        go_ret
        exact ⟨k, rfl, by rw [List.any_eq_true.2 ⟨x, HM.out, hp⟩]; simp, hbel.trans (hb1.mono hbel.size)⟩
    · go_wp2_with fail
      go_ret
      exact ⟨-1, rfl, by rw [any_take_all (by omega) HNO.out]; rfl, hbel⟩
theorem conPorts_any  (A : Option Addr) (c : Nat) (l : List MemH) (w : World) (hS : Sl w w.heap.size 5 A l.length c (l.flatMap MemH.cells)) (hf : ∀ x ∈ l, x.reads.length ≤ 100 ∧ x.writes.length ≤ 100) (hn : l.length ≤ 4000) :
    Calls Tryz.prog 287 #[.slice A l.length c, .func (.func 348) #[] #[]] w fun e w' => e = .returned (.bool (l.any (fun x => portsB x.d))) ∧ Below w.heap.size w w' := by
  go_enter Tryz.func287, Tryz.ntmps287
  go_wp2_with fail
  refine (idxPorts_any  A c l w hS hf hn).mono ?_
  rintro e w1 ⟨i, rfl, hi, hb1⟩
  have HI := Lib.hid hi
  clear hi
  go_wp2_with fail
  go_ret
  exact ⟨by rw [HI.out]; rfl, hb1⟩
set_option maxHeartbeats 400000 in
theorem idxInit_any  (A : Option Addr) (c : Nat) (l : List LatchD) (w : World) (hS : Sl w w.heap.size 3 A l.length c (l.flatMap LatchD.cells)) (hn : l.length ≤ 4000) :
    Calls Tryz.prog 354 #[.slice A l.length c, .func (.func 290) #[] #[]] w (RetIdx (l.any initB) w) := by
  go_enter Tryz.func354, Tryz.ntmps354
  go_wp2_with fail
  go_loopw [8] (fun i wr => ∃ k : Nat, k ≤ l.length ∧ i = .int .i64 k ∧ (l.take k).any initB = false ∧ Below w.heap.size w wr) (fun i _ => l.length - (intOf i).toNat)
  case atStart => exact ⟨0, Nat.zero_le _, rfl, rfl, Below.refl _ _⟩
  case round =>
    obtain ⟨k, hk, rfl, hno, hbel⟩ := hrel
    have HNO := Lib.hid hno
    clear hno
    by_cases hlt : k < l.length
    · obtain ⟨b, off, x, rfl, hb, hx, hm, hcs⟩ := (hS.below hbel).elem (by omega) (fun _ => rfl) hlt
      obtain ⟨hc0, hc1, hc2⟩ := LatchD.at_ hcs
      have HX := Lib.hid hx
      have HM := Lib.hid hm
      clear hcs hx hm
      go_wp2_with fail
      refine (init_any x wr).mono ?_
      rintro e w1 ⟨rfl, hb1⟩
      rcases hp : initB x with _ | _
      · have hp' := hp
        clear hp'
        go_wp2_with fail
        go_roundw
        case rel => exact ⟨k + 1, by omega, by go_num, any_take_succ HX.out HNO.out hp, hbel.trans (hb1.mono hbel.size)⟩
        case measure => simp [intOf]; omega
      · have hp' := hp
        clear hp'
        go_wp2_with fail
        go_ret
        exact ⟨k, rfl, by rw [List.any_eq_true.2 ⟨x, HM.out, hp⟩]; simp, hbel.trans (hb1.mono hbel.size)⟩
    · go_wp2_with fail
      go_ret
      exact ⟨-1, rfl, by rw [any_take_all (by omega) HNO.out]; rfl, hbel⟩
theorem conInit_any  (A : Option Addr) (c : Nat) (l : List LatchD) (w : World) (hS : Sl w w.heap.size 3 A l.length c (l.flatMap LatchD.cells)) (hn : l.length ≤ 4000) :
    Calls Tryz.prog 289 #[.slice A l.length c, .func (.func 290) #[] #[]] w fun e w' => e = .returned (.bool (l.any initB)) ∧ Below w.heap.size w w' := by
  go_enter Tryz.func289, Tryz.ntmps289
  go_wp2_with fail
  refine (idxInit_any  A c l w hS hn).mono ?_
  rintro e w1 ⟨i, rfl, hi, hb1⟩
  have HI := Lib.hid hi
  clear hi
  go_wp2_with fail
  go_ret
  exact ⟨by rw [HI.out]; rfl, hb1⟩
set_option maxHeartbeats 400000 in
theorem wide_any (m : MemH) (w : World) (hm : m.okIn w w.heap.size) (h1 : m.reads.length ≤ 4000) (h2 : m.writes.length ≤ 4000) :
    Calls Tryz.prog 288 #[m.v] w fun e w' => e = .returned (.bool (wideB m.d)) ∧ Below w.heap.size w w' := by
  have hW : wideB m.d = (decide (m.addr < 1 ∨ 62 < m.addr ∨ m.word < 1 ∨ 64 < m.word) || m.reads.any (fun x => wideR m.d x.d) || m.writes.any (fun x => wideW m.d x.d)) := by
    unfold wideB
    rw [show m.d.reads = m.reads.map ReadH.d from rfl, show m.d.writes = m.writes.map WriteH.d from rfl, List.any_map, List.any_map]
    rfl
  have HW := Lib.hid hW
  clear hW
  have hm2 : m.okIn (w.alloc (.cells m.cells.toArray 98)) w.heap.size := hm.keep fun p hp => World.cell?_alloc_lt w _ p hp
  have HM := Lib.hid hm2
  have HG := Lib.hid (Blk.new w 98 m.cells.toArray)
  clear hm hm2
  unfold MemH.v
  rcases (show m.addr < 1 ∨ (¬ m.addr < 1 ∧ 62 < m.addr) ∨ (¬ m.addr < 1 ∧ ¬ 62 < m.addr ∧ m.word < 1) ∨ (¬ m.addr < 1 ∧ ¬ 62 < m.addr ∧ ¬ m.word < 1 ∧ 64 < m.word) ∨ (¬ m.addr < 1 ∧ ¬ 62 < m.addr ∧ ¬ m.word < 1 ∧ ¬ 64 < m.word) from by omega) with a1 | ⟨a1, a2⟩ | ⟨a1, a2, a3⟩ | ⟨a1, a2, a3, a4⟩ | ⟨a1, a2, a3, a4⟩
  iterate 4
    · go_enter Tryz.func288, Tryz.ntmps288
      go_wp2_with fail
      go_ret
      exact ⟨by rw [HW.out]; rw [decide_eq_true (by omega)]; rfl, (Below.refl _ _).alloc (Nat.le_refl _) _⟩
  · go_enter Tryz.func288, Tryz.ntmps288
    go_wp2_with fail
    refine (conRead_any m w.heap.size m.A m.c m.reads _ (HM.out.rd.more (by simp)) HG.out h1).mono ?_
    rintro e w1 ⟨rfl, hb1⟩
    have hsz : w.heap.size < w1.heap.size := by have := hb1.size; simp at this; omega
    have hc4 : w1.cell? ⟨w.heap.size, 4, none⟩ = some (.slice m.A2 m.writes.length m.c2) := (HG.out.below hb1 (by simp)).cell 4
    have HG1 := Lib.hid (HG.out.below hb1 (by simp))
    have hb0 : Below w.heap.size w w1 := ((Below.refl _ _).alloc (Nat.le_refl _) _).trans (hb1.mono (by simp))
    have HM1 := Lib.hid (HM.out.below (hb1.mono (by simp)))
    clear hb1
    rcases hp : m.reads.any (fun x => wideR m.d x.d) with _ | _
    · rw [hp] at HW
      clear hp
      go_wp2_with fail
      refine (conWrite_any m w.heap.size m.A2 m.c2 m.writes _ (HM1.out.wr.more (by omega)) HG1.out h2).mono ?_
      rintro e w2 ⟨rfl, hb2⟩
      go_wp2_with fail
      go_ret
      exact ⟨by rw [HW.out, decide_eq_false (by omega)]; rfl, hb0.trans (hb2.mono (by omega))⟩
    · rw [hp] at HW
      clear hp
      go_wp2_with fail
      go_ret
      exact ⟨by rw [HW.out]; simp, hb0⟩
set_option maxHeartbeats 400000 in
theorem idxWide_any  (A : Option Addr) (c : Nat) (l : List MemH) (w : World) (hS : Sl w w.heap.size 5 A l.length c (l.flatMap MemH.cells)) (hf : ∀ x ∈ l, x.okIn w w.heap.size ∧ x.reads.length ≤ 100 ∧ x.writes.length ≤ 100) (hn : l.length ≤ 4000) :
    Calls Tryz.prog 349 #[.slice A l.length c, .func (.func 288) #[] #[]] w (RetIdx (l.any (fun x => wideB x.d)) w) := by
  go_enter Tryz.func349, Tryz.ntmps349
  go_wp2_with fail
  go_loopw [8] (fun i wr => ∃ k : Nat, k ≤ l.length ∧ i = .int .i64 k ∧ (l.take k).any (fun x => wideB x.d) = false ∧ Below w.heap.size w wr) (fun i _ => l.length - (intOf i).toNat)
  case atStart => exact ⟨0, Nat.zero_le _, rfl, rfl, Below.refl _ _⟩
  case round =>
    obtain ⟨k, hk, rfl, hno, hbel⟩ := hrel
    have HNO := Lib.hid hno
    clear hno
    by_cases hlt : k < l.length
    · obtain ⟨b, off, x, rfl, hb, hx, hm, hcs⟩ := (hS.below hbel).elem (by omega) (fun _ => rfl) hlt
      obtain ⟨hc0, hc1, hc2, hc3, hc4⟩ := MemH.at_ hcs
      have HX := Lib.hid hx
      have HM := Lib.hid hm
      clear hcs hx hm
      go_wp2_with fail
      refine (wide_any x wr (((hf x HM.out).1.below hbel).more hbel.size) (by have := (hf x HM.out).2.1; omega) (by have := (hf x HM.out).2.2; omega)).mono ?_
      rintro e w1 ⟨rfl, hb1⟩
      rcases hp : (fun x => wideB x.d) x with _ | _
      · have hp' := hp
        clear hp'
        go_wp2_with fail
        go_roundw
        case rel => exact ⟨k + 1, by omega, by go_num, any_take_succ HX.out HNO.out hp, hbel.trans (hb1.mono hbel.size)⟩
        case measure => simp [intOf]; omega
      · have hp' := hp
        clear hp'
        go_wp2_with fail
        go_ret
        exact ⟨k, rfl, by rw [List.any_eq_true.2 ⟨x, HM.out, hp⟩]; simp, hbel.trans (hb1.mono hbel.size)⟩
    · go_wp2_with fail
      go_ret
      exact ⟨-1, rfl, by rw [any_take_all (by omega) HNO.out]; rfl, hbel⟩
theorem conWide_any  (A : Option Addr) (c : Nat) (l : List MemH) (w : World) (hS : Sl w w.heap.size 5 A l.length c (l.flatMap MemH.cells)) (hf : ∀ x ∈ l, x.okIn w w.heap.size ∧ x.reads.length ≤ 100 ∧ x.writes.length ≤ 100) (hn : l.length ≤ 4000) :
    Calls Tryz.prog 287 #[.slice A l.length c, .func (.func 288) #[] #[]] w fun e w' => e = .returned (.bool (l.any (fun x => wideB x.d))) ∧ Below w.heap.size w w' := by
  go_enter Tryz.func287, Tryz.ntmps287
  go_wp2_with fail
  refine (idxWide_any  A c l w hS hf hn).mono ?_
  rintro e w1 ⟨i, rfl, hi, hb1⟩
  have HI := Lib.hid hi
  clear hi
  go_wp2_with fail
  go_ret
  exact ⟨by rw [HI.out]; rfl, hb1⟩
theorem many_any (x : Int) (w : World) : Calls Tryz.prog 347 #[.int .i64 x] w fun e w' => e = .returned (.bool (decide (2000 < x))) ∧ w = w' := by
  go_enter Tryz.func347, Tryz.ntmps347
  go_wp2
  go_ret
  exact ⟨rfl, rfl⟩
set_option maxHeartbeats 4000000 in
theorem limits_any (n : NetH) (w : World) (hn : n.okIn w w.heap.size) (ft : Fit n.d) :
    Calls Tryz.prog 286 #[n.v] w fun e w' => e = .returned (.bool (limitsB n.d)) ∧ Below w.heap.size w w' := by
  have hn2 : n.okIn (w.alloc (.cells n.fs 60)) w.heap.size := hn.keep fun p hp => World.cell?_alloc_lt w _ p hp
  have HN := Lib.hid hn2
  have HE : Hid (limitsB n.d = (decide (n.d.vars < 0 ∨ 2000 < n.d.vars ∨ 2000 < n.d.inputs.length ∨ 2000 < n.d.latches.length ∨ 2000 < n.d.ands.length ∨ 1000 < n.d.outputs.length + n.d.bads.length + n.d.constraints.length ∨ 4 < n.d.mems.length) || n.d.mems.any portsB)) := rfl
  have hpf : ∀ x ∈ n.mems, x.reads.length ≤ 100 ∧ x.writes.length ≤ 100 := fun x hx => by
    have h := ft.mems.2 x.d (List.mem_map_of_mem hx)
    have h1 := h.rdn
    have h2 := h.wrn
    simp only [MemH.d, List.length_map] at h1 h2
    exact ⟨h1, h2⟩
  have HPF := Lib.hid hpf
  have hml : n.mems.length ≤ 100 := by have := ft.mems.1; simpa [NetH.d] using this
  have hpa : n.d.mems.any portsB = n.mems.any (fun x => portsB x.d) := by show (n.mems.map MemH.d).any portsB = _; rw [List.any_map]; rfl
  rw [hpa] at HE
  have hl1 : n.inputs.length ≤ 4000 := ft.ins.1
  have hl2 : n.latches.length ≤ 4000 := ft.lat.1
  have hl3 : n.ands.length ≤ 4000 := ft.ands.1
  have hl4 : n.outputs.length ≤ 4000 := ft.out.1
  have hl5 : n.bads.length ≤ 4000 := ft.bad.1
  have hl6 : n.constraints.length ≤ 4000 := ft.con.1
  clear hn hn2 hpa hpf ft
  obtain ⟨z, hz⟩ : ∃ z, z = limitsB n.d := ⟨_, rfl⟩
  rw [← hz] at HE ⊢
  clear hz
  unfold NetH.v NetH.fs
  simp only [NetH.d, List.length_map] at HE
  rcases (show n.vars < 0 ∨ (¬ n.vars < 0 ∧ 2000 < n.vars) ∨ (¬ n.vars < 0 ∧ ¬ 2000 < n.vars ∧ (2000 : Int) < n.inputs.length) ∨ (¬ n.vars < 0 ∧ ¬ 2000 < n.vars ∧ ¬ (2000 : Int) < n.inputs.length ∧ (2000 : Int) < n.latches.length) ∨ (¬ n.vars < 0 ∧ ¬ 2000 < n.vars ∧ ¬ (2000 : Int) < n.inputs.length ∧ ¬ (2000 : Int) < n.latches.length ∧ (2000 : Int) < n.ands.length) ∨ (¬ n.vars < 0 ∧ ¬ 2000 < n.vars ∧ ¬ (2000 : Int) < n.inputs.length ∧ ¬ (2000 : Int) < n.latches.length ∧ ¬ (2000 : Int) < n.ands.length) from by omega) with a1 | ⟨a1, a2⟩ | ⟨a1, a2, a3⟩ | ⟨a1, a2, a3, a4⟩ | ⟨a1, a2, a3, a4, a5⟩ | ⟨a1, a2, a3, a4, a5⟩
  iterate 5
    · go_enter Tryz.func286, Tryz.ntmps286
      go_wp2_with (go_at_call 347; refine (many_any _ _).mono ?_; rintro e w' ⟨rfl, rfl⟩)
      go_ret
      refine ⟨ret_bool ?_, (Below.refl _ _).alloc (Nat.le_refl _) _⟩
      rw [HE.out, decide_eq_true (by omega)]
      rfl
  · rcases (show (1000 : Int) < n.outputs.length + n.bads.length + n.constraints.length ∨ (¬ (1000 : Int) < n.outputs.length + n.bads.length + n.constraints.length ∧ (4 : Int) < n.mems.length) ∨ (¬ (1000 : Int) < n.outputs.length + n.bads.length + n.constraints.length ∧ ¬ (4 : Int) < n.mems.length) from by omega) with b1 | ⟨b1, b2⟩ | ⟨b1, b2⟩
    iterate 2
      · go_enter Tryz.func286, Tryz.ntmps286
        go_wp2_with (go_at_call 347; refine (many_any _ _).mono ?_; rintro e w' ⟨rfl, rfl⟩)
        go_ret
        refine ⟨ret_bool ?_, (Below.refl _ _).alloc (Nat.le_refl _) _⟩
        rw [HE.out, decide_eq_true (by omega)]
        rfl
    · go_enter Tryz.func286, Tryz.ntmps286
      go_wp2_with (first | (go_at_call 347; refine (many_any _ _).mono ?_; rintro e w' ⟨rfl, rfl⟩) | (go_at_call 287; refine (conPorts_any n.Am n.cm n.mems _ (HN.out.mem.more (by simp)) HPF.out (by omega)).mono ?_; rintro e w1 ⟨rfl, hb1⟩))
      go_ret
      refine ⟨ret_bool ?_, ((Below.refl _ _).alloc (Nat.le_refl _) _).trans (hb1.mono (by simp))⟩
      rw [HE.out, decide_eq_false (by omega)]
      rfl
end Go.Proofs.YtpdgjcejkmkglaaGreat
