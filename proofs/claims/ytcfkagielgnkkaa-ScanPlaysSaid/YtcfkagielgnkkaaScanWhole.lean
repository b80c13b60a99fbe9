/- The walk of ScanWhole. Written by gen_scanwhole.py. -/
import Derived.Test.YtcfkagielgnkkaaScanNils
import Derived.Test.YtcfkagielgnkkaaViewActs
namespace Go.Proofs.Ytcfkagielgnkkaa
open Go.RowKit Pl
set_option linter.unusedVariables false

theorem Act3.cells_at {w : World} {b off k : Nat} {a : Act3} (h : ∀ j u, a.cells[j]? = some u → w.cell? ⟨b, off + (k * 3 + j), none⟩ = some u) :
    w.cell? ⟨b, off + k * 3, none⟩ = some (.int .i64 a.kind) ∧ w.cell? ⟨b, off + k * 3 + 1, none⟩ = some (.string a.s) ∧ w.cell? ⟨b, off + k * 3 + 2, none⟩ = some (.int .i64 a.most) :=
  ⟨h 0 _ rfl, h 1 _ rfl, h 2 _ rfl⟩

theorem want_fault : ∀ (l s : List UInt8) (i : Nat) {wi : Nat} {wf : Int}, want l s i = some (wi, wf) → (wf != 0) = true
  | _, [], _, _, _ => by simp [want]
  | [], _ :: _, i, _, _ => by
    intro h
    rw [want] at h
    injection h with h
    injection h with h1 h2
    subst h2; decide
  | a :: l, b :: s, i, _, _ => by
    intro h
    rw [want] at h
    split at h
    · exact want_fault l s (i + 1) h
    · injection h with h
      injection h with h1 h2
      subst h2; decide

set_option maxRecDepth 100000 in
set_option maxHeartbeats 3200000 in
theorem scanWholewalk (A : Option Addr) (n cap : Nat) (bs : List UInt8) (A1 : Option Addr) (len cap1 : Nat) (l : List Act3) (w : World)
    (hR : Reads w w.heap.size 1 A n (u8s bs) ∧ n ≤ cap ∧ cap ≤ maxLen ∧ (A = none → cap = 0))
    (hL : l.length = len ∧ Reads w w.heap.size 3 A1 len (l.flatMap Act3.cells) ∧ len ≤ cap1 ∧ cap1 ≤ maxLen ∧ ∀ x ∈ l, x.ok) :
    Calls Try.prog 7 #[.slice A n cap, .slice A1 len cap1] w fun e w' => e = .returned (.bool true) ∧ Below w.heap.size w w' := by
  obtain ⟨hR, hle, hcap, hnil⟩ := hR
  obtain ⟨hll, hRL, hle1, hcap1, hok⟩ := hL
  have hm := hcap
  have hm1 := hcap1
  unfold maxLen at hm hm1
  have HLL := Lib.hid hll
  have HOK := Lib.hid hok
  have HNIL := Lib.hid hnil
  clear hll hok hnil hcap hcap1
  rcases (show 200 < n ∨ (n ≤ 200 ∧ 60 < len) ∨ (n ≤ 200 ∧ len ≤ 60) from by omega) with h1 | ⟨h1, h2⟩ | ⟨h1, h2⟩
  · go_enter Try.func7, Try.ntmps7
    go_wp2_with fail
    refine (alive03_any _).mono ?_
    rintro e w4 ⟨rfl, hb4⟩
    go_wp2_with fail
    go_ret
    exact ⟨rfl, hb4⟩
  · go_enter Try.func7, Try.ntmps7
    go_wp2_with fail
    refine (alive03_any _).mono ?_
    rintro e w4 ⟨rfl, hb4⟩
    go_wp2_with fail
    go_ret
    exact ⟨rfl, hb4⟩
  · go_enter Try.func7, Try.ntmps7
    go_wp2_with fail
    refine (new_any A n cap _ bs _ hR (Nat.le_refl _) (by omega) HNIL.out).mono ?_
    rintro e w1 ⟨g, A', c', rfl, hrd, hgw, hb⟩
    clear hR
    go_wp2_with fail
    go_loopw [6] (fun i wr => ∃ k p : Nat, k ≤ len ∧ i = .int .i64 k ∧ Rd wr g A' n c' bs p ∧ Below w.heap.size w wr) (fun i _ => len - (intOf i).toNat)
    case atStart => exact ⟨0, 0, Nat.zero_le _, rfl, hrd, hb⟩
    case round =>
      clear hrd hb
      obtain ⟨k, p, hk, rfl, hrd, hbel⟩ := hrel
      have hpn := hrd.2.2.1
      by_cases hlt : k < len
      · obtain ⟨b, off, a, rfl, hbB, hx, hcs⟩ := (hRL.below hbel).elem (by omega) (fun _ => rfl) HLL.out hlt
        obtain ⟨hcK, hcS, hcM⟩ := Act3.cells_at hcs
        obtain ⟨o1, o2, o3⟩ := HOK.out a (List.mem_of_getElem? hx)
        have hmb := bounds_i64 o3
        unfold maxLen at o2
        clear hcs hx o1 o3
        obtain ⟨ak, sa, am⟩ := a
        simp only at hcK hcS hcM hmb o2
        by_cases hs60 : sa.size ≤ 60
        · rcases (show ak = 0 ∨ ak = 1 ∨ ak = 2 ∨ (ak ≠ 0 ∧ ak ≠ 1 ∧ ak ≠ 2) from by omega) with h9 | h9 | h9 | ⟨h9, h10, h11⟩
          · subst h9
            go_wp2_with fail
            refine (at_any g n c' p A' bs _ hrd).mono ?_
            rintro e w' ⟨rfl, rfl⟩
            go_wp2_with fail
            refine (byte_any g n c' p A' bs _ hrd).mono ?_
            by_cases hp : p < n
            · rintro e w2 ⟨rfl, hrd2, hg2⟩
              rw [if_pos hp] at hrd2
              rw [if_pos hp, decide_eq_true hp]
              obtain ⟨p2, hp2⟩ : ∃ p2, p2 = p + 1 := ⟨_, rfl⟩
              rw [← hp2] at hrd2
              have hpp : p ≤ p2 := by omega
              clear hp2
              have hb2 := below_only hbel hg2 hbel.size hgw
              have hpn2 := hrd2.2.2.1
              clear hg2
              go_wp2_with fail
              refine (at_any g n c' p2 A' bs _ hrd2).mono ?_
              rintro e w' ⟨rfl, rfl⟩
              go_wp2_with fail
              refine (at_any g n c' p2 A' bs _ hrd2).mono ?_
              rintro e w' ⟨rfl, rfl⟩
              go_wp2_with fail
              refine (leftLen_any g n c' p2 A' bs _ hrd2).mono ?_
              rintro e w3 ⟨rfl, q3, rfl⟩
              have hsum : (((p2 : Nat) : Int) + ((n - p2 : Nat) : Int) != (n : Int)) = false := by rw [bne_eq_false_iff_eq]; omega
              go_wp2_with fail
              go_roundw
              case rel => exact ⟨k + 1, p2, by omega, by go_num, hrd2.drewN q3, below_drewN hb2 q3⟩
              case measure => simp [intOf]; omega
            · rintro e w2 ⟨rfl, hrd2, hg2⟩
              rw [if_neg hp] at hrd2
              rw [if_neg hp, decide_eq_false hp]
              have hb2 := below_only hbel hg2 hbel.size hgw
              have hpn2 := hrd2.2.2.1
              clear hg2
              go_wp2_with fail
              refine (at_any g n c' p A' bs _ hrd2).mono ?_
              rintro e w' ⟨rfl, rfl⟩
              go_wp2_with fail
              refine (at_any g n c' p A' bs _ hrd2).mono ?_
              rintro e w' ⟨rfl, rfl⟩
              go_wp2_with fail
              refine (at_any g n c' p A' bs _ hrd2).mono ?_
              rintro e w' ⟨rfl, rfl⟩
              go_wp2_with fail
              refine (leftLen_any g n c' p A' bs _ hrd2).mono ?_
              rintro e w3 ⟨rfl, q3, rfl⟩
              have hsum : (((p : Nat) : Int) + ((n - p : Nat) : Int) != (n : Int)) = false := by rw [bne_eq_false_iff_eq]; omega
              go_wp2_with fail
              go_roundw
              case rel => exact ⟨k + 1, p, by omega, by go_num, hrd2.drewN q3, below_drewN hb2 q3⟩
              case measure => simp [intOf]; omega
          · subst h9
            go_wp2_with fail
            refine (at_any g n c' p A' bs _ hrd).mono ?_
            rintro e w' ⟨rfl, rfl⟩
            go_wp2_with fail
            refine (want_any g n c' p A' bs sa _ hrd (by omega)).mono ?_
            unfold RetWant
            rcases hw : want (bs.drop p) sa.data.toList 0 with _ | ⟨wi, wf⟩
            · clear hw
              rintro e w2 ⟨rfl, hrd2, hg2⟩
              obtain ⟨p2, hp2⟩ : ∃ p2, p2 = p + sa.data.toList.length := ⟨_, rfl⟩
              rw [← hp2] at hrd2
              have hpp : p ≤ p2 := by omega
              clear hp2
              have hb2 := below_only hbel hg2 hbel.size hgw
              have hpn2 := hrd2.2.2.1
              clear hg2
              go_wp2_with fail
              refine (at_any g n c' p2 A' bs _ hrd2).mono ?_
              rintro e w' ⟨rfl, rfl⟩
              go_wp2_with fail
              refine (at_any g n c' p2 A' bs _ hrd2).mono ?_
              rintro e w' ⟨rfl, rfl⟩
              go_wp2_with fail
              refine (leftLen_any g n c' p2 A' bs _ hrd2).mono ?_
              rintro e w3 ⟨rfl, q3, rfl⟩
              have hsum : (((p2 : Nat) : Int) + ((n - p2 : Nat) : Int) != (n : Int)) = false := by rw [bne_eq_false_iff_eq]; omega
              go_wp2_with fail
              go_roundw
              case rel => exact ⟨k + 1, p2, by omega, by go_num, hrd2.drewN q3, below_drewN hb2 q3⟩
              case measure => simp [intOf]; omega
            · have hwf : (wf != 0) = true := want_fault _ _ _ hw
              clear hw
              rintro e w2 ⟨rfl, hrd2, hg2⟩
              have hb2 := below_only hbel hg2 hbel.size hgw
              have hpn2 := hrd2.2.2.1
              clear hg2
              go_wp2_with fail
              refine (at_any g n c' p A' bs _ hrd2).mono ?_
              rintro e w' ⟨rfl, rfl⟩
              go_wp2_with fail
              refine (at_any g n c' p A' bs _ hrd2).mono ?_
              rintro e w' ⟨rfl, rfl⟩
              go_wp2_with fail
              refine (at_any g n c' p A' bs _ hrd2).mono ?_
              rintro e w' ⟨rfl, rfl⟩
              go_wp2_with fail
              refine (leftLen_any g n c' p A' bs _ hrd2).mono ?_
              rintro e w3 ⟨rfl, q3, rfl⟩
              have hsum : (((p : Nat) : Int) + ((n - p : Nat) : Int) != (n : Int)) = false := by rw [bne_eq_false_iff_eq]; omega
              go_wp2_with fail
              go_roundw
              case rel => exact ⟨k + 1, p, by omega, by go_num, hrd2.drewN q3, below_drewN hb2 q3⟩
              case measure => simp [intOf]; omega
          · subst h9
            go_wp2_with fail
            refine (at_any g n c' p A' bs _ hrd).mono ?_
            rintro e w' ⟨rfl, rfl⟩
            go_wp2_with fail
            refine (number_any g n c' p A' bs am _ hrd hmb.1 hmb.2).mono ?_
            unfold RetNum
            have hbad := number_bad (bs.drop p) am
            generalize number (bs.drop p) am = r at *
            obtain ⟨nv, nf, nk⟩ := r
            simp only at hbad ⊢
            by_cases hnf : nf = 0
            · subst hnf
              clear hbad
              rintro e w2 ⟨rfl, hrd2, hg2⟩
              obtain ⟨p2, hp2⟩ : ∃ p2, p2 = p + nk := ⟨_, rfl⟩
              rw [← hp2] at hrd2
              have hpp : p ≤ p2 := by omega
              clear hp2
              have hb2 := below_only hbel hg2 hbel.size hgw
              have hpn2 := hrd2.2.2.1
              clear hg2
              go_wp2_with fail
              refine (at_any g n c' p2 A' bs _ hrd2).mono ?_
              rintro e w' ⟨rfl, rfl⟩
              go_wp2_with fail
              refine (at_any g n c' p2 A' bs _ hrd2).mono ?_
              rintro e w' ⟨rfl, rfl⟩
              go_wp2_with fail
              refine (leftLen_any g n c' p2 A' bs _ hrd2).mono ?_
              rintro e w3 ⟨rfl, q3, rfl⟩
              have hsum : (((p2 : Nat) : Int) + ((n - p2 : Nat) : Int) != (n : Int)) = false := by rw [bne_eq_false_iff_eq]; omega
              go_wp2_with fail
              go_roundw
              case rel => exact ⟨k + 1, p2, by omega, by go_num, hrd2.drewN q3, below_drewN hb2 q3⟩
              case measure => simp [intOf]; omega
            · have hnk := hbad hnf
              subst hnk
              have hwf : (nf != 0) = true := by simpa using hnf
              clear hbad hnf
              rintro e w2 ⟨rfl, hrd2, hg2⟩
              rw [Nat.add_zero] at hrd2
              have hb2 := below_only hbel hg2 hbel.size hgw
              have hpn2 := hrd2.2.2.1
              clear hg2
              go_wp2_with fail
              refine (at_any g n c' p A' bs _ hrd2).mono ?_
              rintro e w' ⟨rfl, rfl⟩
              go_wp2_with fail
              refine (at_any g n c' p A' bs _ hrd2).mono ?_
              rintro e w' ⟨rfl, rfl⟩
              go_wp2_with fail
              refine (at_any g n c' p A' bs _ hrd2).mono ?_
              rintro e w' ⟨rfl, rfl⟩
              go_wp2_with fail
              refine (leftLen_any g n c' p A' bs _ hrd2).mono ?_
              rintro e w3 ⟨rfl, q3, rfl⟩
              have hsum : (((p : Nat) : Int) + ((n - p : Nat) : Int) != (n : Int)) = false := by rw [bne_eq_false_iff_eq]; omega
              go_wp2_with fail
              go_roundw
              case rel => exact ⟨k + 1, p, by omega, by go_num, hrd2.drewN q3, below_drewN hb2 q3⟩
              case measure => simp [intOf]; omega
          · have h9' : (ak == 0) = false := beq_eq_false_iff_ne.2 h9
            have h10' : (ak == 1) = false := beq_eq_false_iff_ne.2 h10
            have h11' : (ak == 2) = false := beq_eq_false_iff_ne.2 h11
            clear h9 h10 h11
            have hrd2 := hrd
            have hb2 := hbel
            go_wp2_with fail
            refine (at_any g n c' p A' bs _ hrd).mono ?_
            rintro e w' ⟨rfl, rfl⟩
            go_wp2_with fail
            refine (at_any g n c' p A' bs _ hrd2).mono ?_
            rintro e w' ⟨rfl, rfl⟩
            go_wp2_with fail
            refine (at_any g n c' p A' bs _ hrd2).mono ?_
            rintro e w' ⟨rfl, rfl⟩
            go_wp2_with fail
            refine (leftLen_any g n c' p A' bs _ hrd2).mono ?_
            rintro e w3 ⟨rfl, q3, rfl⟩
            have hsum : (((p : Nat) : Int) + ((n - p : Nat) : Int) != (n : Int)) = false := by rw [bne_eq_false_iff_eq]; omega
            go_wp2_with fail
            go_roundw
            case rel => exact ⟨k + 1, p, by omega, by go_num, hrd2.drewN q3, below_drewN hb2 q3⟩
            case measure => simp [intOf]; omega
        · go_wp2_with fail
          refine (alive03_any _).mono ?_
          rintro e w4 ⟨rfl, hb4⟩
          go_wp2_with fail
          go_ret
          exact ⟨rfl, hbel.trans (hb4.mono hbel.size)⟩
      · go_wp2_with fail
        refine (alive03_any _).mono ?_
        rintro e w4 ⟨rfl, hb4⟩
        go_wp2_with fail
        go_ret
        exact ⟨rfl, hbel.trans (hb4.mono hbel.size)⟩
end Go.Proofs.Ytcfkagielgnkkaa
