/- The walk of made. -/
import Derived.Test.YtcfkagielgnkkaaTableMade
namespace Go.Proofs.Ytcfkagielgnkkaa
open Go.RowKit Pl
set_option linter.unusedVariables false
theorem MR.setted {w w1 w2 : World} {base V g gr n : Nat} {frames : List (List Int)} {cs : List Cell3} {D1 D2 D2' : Nat → Prop} {f v l : Int} (hbase : base ≤ w.heap.size) (ag : Agree V n frames cs) (hs : setOk n V f v l) (dj : ∀ b, D1 b → ¬ D2 b) (l1 : ∀ b, D1 b → base ≤ b ∧ b < w.heap.size) (l2 : ∀ b, D2 b → base ≤ b ∧ b < w.heap.size)
    (t : TD w1 V g (fset frames f v l) D1) (hf1 : Frm D1 w w1) (r : RD w2 gr V n (cs ++ [(f, v, l)]) D2') (hd : ∀ b, D2' b → D2 b ∨ w1.heap.size ≤ b) (hf2 : Frm D2 w1 w2) :
    MR w2 base V g gr n (fset frames f v l) (cs ++ [(f, v, l)]) ∧ Below base w w2 := by
  have hs1 := hf1.size
  have hs2 := hf2.size
  refine ⟨⟨D1, fun b => D2' b ∧ b < w2.heap.size, t.frm hf2 dj, r.cap, ag.set hs, fun b h1 ⟨h2, _⟩ => ?_, fun b hb => ?_, fun b ⟨hb, h3⟩ => ?_⟩, ?_⟩
  · rcases hd b h2 with h5 | h5
    · exact dj b h1 h5
    · have := l1 b h1; omega
  · have := l1 b hb; omega
  · rcases hd b hb with h5 | h5
    · have := l2 b h5; omega
    · omega
  · exact (hf1.below hbase (fun b hb => (l1 b hb).1)).trans (hf2.below (by omega) (fun b hb => (l2 b hb).1))
def RetMade (w : World) (V : Nat) (e : Ending) (w' : World) : Prop :=
  ∃ g gr n frames cs, e = .returned (.tuple #[.pointer (some ⟨g, 0, none⟩), .pointer (some ⟨gr, 0, none⟩), .bool true]) ∧ MR w' w.heap.size V g gr n frames cs ∧ Below w.heap.size w w'
set_option maxRecDepth 100000 in
set_option maxHeartbeats 3200000 in
theorem made_any (V : Nat) (A1 : Option Addr) (len cap1 : Nat) (l : List Act30) (w : World) (hV : V ≤ 60) (hlen : len ≤ 60)
    (hll : l.length = len) (hRL : Reads w w.heap.size 4 A1 len (l.flatMap Act30.cells)) :
    Calls Try.prog 49 #[.int .i64 V, .slice A1 len cap1] w (RetMade w V) := by
  have HLL := Lib.hid hll
  clear hll
  go_enter Try.func49, Try.ntmps49
  go_wp2_with fail
  refine (newTable_any V w (by omega)).mono ?_
  rintro e w1 ⟨g, rfl, hs1, hb1⟩
  have hMR0 : MR (w1.alloc (.cells #[.int .i64 V, .int .i64 0, .slice none 0 0] 103)) w.heap.size V g w1.heap.size 0 [] [] := by
    have t := (RetTb.td hs1).cap
    have hb2 : Below w1.heap.size w1 (w1.alloc (.cells #[.int .i64 V, .int .i64 0, .slice none 0 0] 103)) := (Below.refl _ _).alloc (Nat.le_refl _) _
    refine ⟨_, fun b => b = w1.heap.size, t.frm (D' := fun _ => False) (Frm.of_below hb2) (fun _ _ h => h), ⟨.slice none 0 0, ⟨Blk.new _ _ _, World.ownsRow_nil _ _ _ _, (fun c h => by cases h), by simp, by omega, by omega⟩, rfl, fun b hb => by simp [Value.ownBlock] at hb⟩, Agree.nil V, fun b ⟨h1, h2⟩ e => by omega, fun b ⟨h1, h2⟩ => ⟨h1, by simp; omega⟩, fun b e => ⟨by have := hb1.size; omega, by simp; omega⟩⟩
  have HM0 := Lib.hid hMR0
  have HB0 := Lib.hid (hb1.alloc hb1.size (.cells #[.int .i64 V, .int .i64 0, .slice none 0 0] 103))
  clear hMR0 hs1 hb1
  obtain ⟨gr, hgr⟩ : ∃ gr, gr = w1.heap.size := ⟨_, rfl⟩
  rw [← hgr] at HM0
  go_wp2_with fail
  rw [← hgr]
  clear hgr
  go_loopw [9] (fun i wr => ∃ (k n : Nat) (frames : List (List Int)) (cs : List Cell3), k ≤ len ∧ i = .int .i64 k ∧ n ≤ k ∧ cs.length ≤ k ∧ MR wr w.heap.size V g gr n frames cs ∧ Below w.heap.size w wr) (fun i _ => len - (intOf i).toNat)
  case atStart => exact ⟨0, 0, [], [], Nat.zero_le _, rfl, Nat.le_refl _, by simp, HM0.out, HB0.out⟩
  case round =>
    clear HM0 HB0
    obtain ⟨k, n, frames, cs, hk, rfl, hnk, hck, hMR, hbel⟩ := hrel
    by_cases hlt : k < len
    · obtain ⟨b, off, a, rfl, hbB, hx, hcs⟩ := (hRL.below hbel).elem (by omega) (fun _ => rfl) HLL.out hlt
      obtain ⟨hc0, hc1, hc2, hc3⟩ := Act30.cells_at hcs
      clear hcs hx
      obtain ⟨ak, af, av, al⟩ := a
      simp only at hc0 hc1 hc2 hc3
      by_cases hk0 : (ak == 0) = true
      · have hbsz := hbel.size
        obtain ⟨D1, D2, td, rd, ag, dj, l1, l2⟩ := hMR
        obtain ⟨hr1, hr2, hr3⟩ := rd.c1
        have HT := Lib.hid td.drew
        have HRD := Lib.hid rd
        have HAG := Lib.hid ag
        have HDJ := Lib.hid dj
        have HL1 := Lib.hid l1
        have HL2 := Lib.hid l2
        have hfl : frames.length = n := ag.1
        have HFL := Lib.hid hfl
        clear td rd ag dj l1 l2 hfl
        go_wp2_with fail
        go_region_held3 (fun w' => w'.cell? ⟨gr, 1, none⟩ = some (.int .i64 n)) (first | assumption | (simp; assumption)) (first | (go_at_call 56; refine (tpushD_any HT.out (by have := HFL.out; omega)).mono ?_; rintro e w2 ⟨rfl, D1', t2, hd2, hf2⟩; rw [HFL.out]; obtain ⟨q1, q2, q3, q4⟩ := MR.pushed (w := wr.drew) hbsz (by omega) (HRD.out.frm (D' := fun _ => False) (Frm.refl _ _).drew (fun _ _ h => h)) HAG.out HDJ.out HL1.out HL2.out t2 hd2 hf2; have HQ3 := Lib.hid q3; have HQ4 := Lib.hid q4; clear q3 q4 t2 hd2 hf2))
        have hfl2 : (frames ++ [frame0 V]).length = n + 1 := by rw [List.length_append, HFL.out]; rfl
        have HF : Hid (∀ q, Calls Try.prog 60 #[.pointer (some ⟨g, 0, none⟩)] ((w2.setCell ⟨gr, 1, none⟩ (.int .i64 ((n : Int) + 1))).drewN q) fun e w' => e = .returned (.int .i64 ((n : Int) + 1)) ∧ (w2.setCell ⟨gr, 1, none⟩ (.int .i64 ((n : Int) + 1))).drewN q = w') := fun q => by
          have := frames_any (HQ3.out.ts.drewN q)
          rw [hfl2] at this
          exact this
        clear hfl2
        have hnn : ((n : Int) != n) = false := by simp
        go_wp2_with fail
        go_quiet ((go_at_call 60; exact quiet_left (HF.out _)))
        go_wp2_with fail
        go_roundw
        case rel => exact ⟨k + 1, n + 1, _, cs, by omega, by go_num, by omega, by omega, HQ3.out.drewN nq, below_drewN (hbel.drew.trans HQ4.out) nq⟩
        case measure => simp [intOf]; omega
      · have hk0' : (ak == 0) = false := by simpa using hk0
        clear hk0
        have hbsz := hbel.size
        obtain ⟨D1, D2, td, rd, ag, dj, l1, l2⟩ := hMR
        obtain ⟨hr1, hr2, hr3⟩ := rd.c1
        have hfl : frames.length = n := ag.1
        have HFL := Lib.hid hfl
        by_cases hs : setOk n V af av al
        · have hbw : b < wr.heap.size := by omega
          have hnD1 : ¬ D1 b := fun h => by have := l1 b h; omega
          have hnD2 : ¬ D2 b := fun h => by have := l2 b h; omega
          have HT := Lib.hid td.drew
          have HRD : Hid (RD wr.drew gr V n cs D2) := rd.frm (D' := fun _ => False) (Frm.refl _ _).drew (fun _ _ h => h)
          have HAG := Lib.hid ag
          have HDJ := Lib.hid dj
          have HL1 := Lib.hid l1
          have HL2 := Lib.hid l2
          have HND1 := Lib.hid hnD1
          have HND2 := Lib.hid hnD2
          have HS := Lib.hid hs
          clear td rd ag dj l1 l2 hfl hs hnD1 hnD2
          go_wp2_with fail
          go_region_held3 (fun w' => w'.cell? ⟨b, off + k * 4 + 1, none⟩ = some (.int .i64 af) ∧ w'.cell? ⟨b, off + k * 4 + 2, none⟩ = some (.int .i64 av) ∧ w'.cell? ⟨b, off + k * 4 + 3, none⟩ = some (.int .i64 al)) (first | assumption | (refine ⟨?_, ?_, ?_⟩ <;> assumption) | (refine ⟨?_, ?_, ?_⟩ <;> (simp; assumption))) (first
            | (go_at_call 57; refine (tsetD_yes af av al HT.out (by rw [HFL.out]; exact HS.out)).mono ?_; rintro e w2 ⟨rfl, t2, f2⟩; have HT2 := Lib.hid t2; have HF2 := Lib.hid f2; have hd1 : w2.cell? ⟨b, off + k * 4 + 1, none⟩ = some (.int .i64 af) := ((HF2.out.cell hbw HND1.out).trans hc1); have hd2 : w2.cell? ⟨b, off + k * 4 + 2, none⟩ = some (.int .i64 av) := ((HF2.out.cell hbw HND1.out).trans hc2); have hd3 : w2.cell? ⟨b, off + k * 4 + 3, none⟩ = some (.int .i64 al) := ((HF2.out.cell hbw HND1.out).trans hc3); clear t2 f2)
            | (go_at_call 79; refine (rset_yes af av al (HRD.out.frm HF2.out (fun b h2 h1 => HDJ.out b h1 h2)) HS.out (by omega)).mono ?_; rintro e w3 ⟨rfl, D2', r3, hdd3, f3⟩; have hw2 : b < w2.heap.size := (Nat.lt_of_lt_of_le hbw HF2.out.size); have he1 : w3.cell? ⟨b, off + k * 4 + 1, none⟩ = some (.int .i64 af) := ((f3.cell hw2 HND2.out).trans hd1); have he2 : w3.cell? ⟨b, off + k * 4 + 2, none⟩ = some (.int .i64 av) := ((f3.cell hw2 HND2.out).trans hd2); have he3 : w3.cell? ⟨b, off + k * 4 + 3, none⟩ = some (.int .i64 al) := ((f3.cell hw2 HND2.out).trans hd3); have HQ := Lib.hid (MR.setted (w := wr.drew) hbsz HAG.out HS.out HDJ.out HL1.out HL2.out HT2.out HF2.out r3 hdd3 f3); clear r3 hdd3 f3))
          obtain ⟨q3, q4⟩ := HQ.out
          have HQ3 := Lib.hid q3
          have HQ4 := Lib.hid q4
          clear q3 q4 HQ
          obtain ⟨hfl2, hr1', hr2', hr3'⟩ : (fset frames af av al).length = n ∧ w3.cell? ⟨gr, 1, none⟩ = some (.int .i64 n) ∧ w3.frozen? ⟨gr, 1, none⟩ = false ∧ n ≤ 1000000 := by
            obtain ⟨_, _, _, r, ag, _⟩ := HQ3.out
            exact ⟨ag.1, r.c1⟩
          have HF : Hid (∀ q, Calls Try.prog 60 #[.pointer (some ⟨g, 0, none⟩)] (w3.drewN q) fun e w' => e = .returned (.int .i64 (n : Int)) ∧ w3.drewN q = w') := fun q => by
            have := frames_any (HQ3.out.ts.drewN q)
            rw [hfl2] at this
            exact this
          clear hfl2
          have hnn : ((n : Int) != n) = false := by simp
          go_wp2_with fail
          go_quiet ((go_at_call 60; exact quiet_left (HF.out _)))
          go_wp2_with fail
          go_roundw
          case rel => exact ⟨k + 1, n, _, cs ++ [(af, av, al)], by omega, by go_num, by omega, by simp; omega, HQ3.out.drewN nq, below_drewN (hbel.drew.trans HQ4.out) nq⟩
          case measure => simp [intOf]; omega
        · have HSN : Hid (∀ q, Calls Try.prog 57 #[.pointer (some ⟨g, 0, none⟩), .int .i64 af, .int .i64 av, .int .i64 al] (wr.drewN q) fun e w' => e = .returned (.bool false) ∧ wr.drewN q = w') := fun q => tset_no af av al (td.ts.drewN q) (by rw [hfl]; exact hs)
          have HRN : Hid (∀ q, Calls Try.prog 79 #[.pointer (some ⟨gr, 0, none⟩), .int .i64 af, .int .i64 av, .int .i64 al] (wr.drewN q) fun e w' => e = .returned (.bool false) ∧ wr.drewN q = w') := fun q => rset_no af av al (rd.drewN q) hs
          have HF : Hid (∀ q, Calls Try.prog 60 #[.pointer (some ⟨g, 0, none⟩)] (wr.drewN q) fun e w' => e = .returned (.int .i64 (n : Int)) ∧ wr.drewN q = w') := fun q => by
            have := frames_any (td.ts.drewN q)
            rw [hfl] at this
            exact this
          have HM : Hid (MR wr w.heap.size V g gr n frames cs) := ⟨D1, D2, td, rd, ag, dj, l1, l2⟩
          have hnn : ((n : Int) != n) = false := by simp
          clear td rd ag dj l1 l2 hfl hs
          go_wp2_with fail
          go_quiet ((first | (go_at_call 57; exact quiet_left (HSN.out _)) | (go_at_call 79; exact quiet_left (HRN.out _))))
          go_wp2_with fail
          go_quiet ((go_at_call 60; exact quiet_add_left (HF.out _)))
          go_wp2_with fail
          go_roundw
          case rel => exact ⟨k + 1, n, frames, cs, by omega, by go_num, by omega, by omega, HM.out.drewN _, below_drewN hbel _⟩
          case measure => simp [intOf]; omega
    · go_wp2_with fail
      go_ret3
      exact ⟨g, gr, n, frames, cs, rfl, hMR, hbel⟩
end Go.Proofs.Ytcfkagielgnkkaa
