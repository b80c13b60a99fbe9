/- What the scanner's methods do: the reader in memory, New, left, At, Left, Byte, Peek, Rest. -/
import Derived.Test.YtcfkagielgnkkaaAppend
import Derived.Test.YtcfkagielgnkkaaScanLaw
namespace Go.Proofs.Ytcfkagielgnkkaa
open Go.RowKit Pl
set_option linter.unusedVariables false

/-- bytes in new memory are handed back -/
def RetU8 (w : World) (n : Nat) (bs : List UInt8) (e : Ending) (w' : World) : Prop :=
  ∃ A c, e = .returned (.slice A n c) ∧ n ≤ c ∧ c ≤ maxLen ∧ (A = none → c = 0) ∧ Reads w' w'.heap.size 1 A n (u8s bs) ∧ Below w.heap.size w w'

theorem u8s_one (l : List UInt8) : ∀ u ∈ u8s l, u.oneCell' = true := by
  intro u hu
  simp only [u8s, List.mem_map] at hu
  obtain ⟨b, _, rfl⟩ := hu
  rfl
set_option maxHeartbeats 400000 in
theorem clone_any (A : Option Addr) (n c B : Nat) (bs : List UInt8) (w : World) (hR : Reads w B 1 A n (u8s bs)) (hB : B ≤ w.heap.size) (hn : n ≤ 1048576) (hnc : A = none → c = 0) :
    Calls Try.prog 69 #[.slice A n c] w (RetU8 w n bs) := by
  rcases A with _ | ad
  · have := hnc rfl
    subst this
    clear hnc
    have hl : n = 0 := by
      rcases Nat.eq_zero_or_pos n with h | h
      · exact h
      · obtain ⟨ad, h, _⟩ := hR.2 h; cases h
    subst hl
    have hb : bs = [] := List.eq_nil_of_length_eq_zero (by have := hR.1; simpa [u8s] using this)
    subst hb
    have hs := fun W => Lib.run_eql_slice_nil (P := Try.prog) W 39 5 none 0 0 0 0 Try.underlying39
    go_enter Try.func69, Try.ntmps69
    go_wp2
    go_ret
    exact ⟨none, 0, rfl, Nat.le_refl _, by simp [maxLen], fun _ => rfl, Reads.none_, Below.refl _ _⟩
  · have hs := fun W => Lib.run_eql_slice_nil (P := Try.prog) W 39 5 (some ad) n c 0 0 Try.underlying39
    clear hnc
    obtain ⟨i0, hi0, hz0, hz1, hz2⟩ := info_parts info_u8
    have hown := World.ownsRow_made (base := w.heap.size) (e := 5) (size := 1) w #[] 0 (Nat.le_refl _) (by simp [maxLen]) rfl
    have hR2 := hR.alloc hB (.cells #[] 5)
    have H1 := Lib.hid hi0
    have H2 := Lib.hid hz0
    have H3 := Lib.hid hz1
    have H4 := Lib.hid hz2
    clear hi0 hz0 hz1 hz2
    go_enter Try.func69, Try.ntmps69
    go_wp2_with (at_builtin; refine wpList_append_any _ rfl _ _ 39 rfl w.heap.size 5 i0 _ 1 1 Try.underlying39 H1.out H2.out H3.out H4.out rfl (by omega) _ 0 [] rfl hown B (some ad) n c (u8s bs) rfl hR2 (u8s_one bs) (by unfold maxLen; omega) (by omega) (by simp) ?_; intro v1 w1 hown1 hg1 hat1)
    go_ret
    rw [Nat.zero_add, List.nil_append] at hown1
    obtain ⟨A1, c1, rfl, h1, h2, hr⟩ := own_slice hown1
    refine ⟨A1, c1, rfl, h1, h2, ?_, hr, ?_⟩
    · rintro rfl
      rcases hown1.2 with ⟨e, _⟩ | ⟨_, _, _, e, _⟩
      · injection e
      · cases e
    · refine ((Below.refl _ w).alloc (Nat.le_refl _) (.cells #[] 5)).grown hg1 (by simp) ?_
      intro k hk
      injection hk with hk
      exact Nat.le_of_eq hk

/-- the reader at block g: of the bytes bs (a slice A, n, c), of which p were read -/
def Rd (w : World) (g : Nat) (A : Option Addr) (n c : Nat) (bs : List UInt8) (p : Nat) : Prop :=
  Blk w g 90 #[.slice A n c, .int .i64 p] ∧ Reads w g 1 A n (u8s bs) ∧ p ≤ n ∧ n ≤ c ∧ c ≤ maxLen ∧ n ≤ 1048576 ∧ (A = none → c = 0)
theorem Rd.c0 {w : World} {g n c p : Nat} {A : Option Addr} {bs : List UInt8} (h : Rd w g A n c bs p) : w.cell? ⟨g, 0, none⟩ = some (.slice A n c) := by simpa using h.1.cell 0
theorem Rd.c1 {w : World} {g n c p : Nat} {A : Option Addr} {bs : List UInt8} (h : Rd w g A n c bs p) : w.cell? ⟨g, 1, none⟩ = some (.int .i64 p) := by simpa using h.1.cell 1
theorem Rd.f1 {w : World} {g n c p : Nat} {A : Option Addr} {bs : List UInt8} (h : Rd w g A n c bs p) : w.frozen? ⟨g, 1, none⟩ = false := h.1.frozen 1
theorem Rd.len {w : World} {g n c p : Nat} {A : Option Addr} {bs : List UInt8} (h : Rd w g A n c bs p) : bs.length = n := by have := h.2.1.1; simpa [u8s] using this
theorem Rd.drewN {w : World} {g n c p : Nat} {A : Option Addr} {bs : List UInt8} (h : Rd w g A n c bs p) (q : Nat) : Rd (w.drewN q) g A n c bs p := h
theorem Rd.set {w : World} {g n c p p' : Nat} {A : Option Addr} {bs : List UInt8} (h : Rd w g A n c bs p) (hp : p' ≤ n) : Rd (w.setCell ⟨g, 1, none⟩ (.int .i64 p')) g A n c bs p' := by
  refine ⟨?_, h.2.1.setCell (Nat.le_refl _) _, hp, h.2.2.2⟩
  have := h.1.set_ 1 (.int .i64 p')
  simpa using this
theorem Rd.only {w w' : World} {g g' n c p : Nat} {A : Option Addr} {bs : List UInt8} (h : Rd w g A n c bs p) (hg : w.grownBy w' (some g')) (hne : g < g') : Rd w' g A n c bs p :=
  ⟨h.1.only hg (by omega), h.2.1.only hg (by have := h.1.lt; omega) (by omega), h.2.2⟩
theorem Rd.below {w w' : World} {B g n c p : Nat} {A : Option Addr} {bs : List UInt8} (h : Rd w g A n c bs p) (hb : Below B w w') (hg : g < B) : Rd w' g A n c bs p :=
  ⟨h.1.below hb hg, h.2.1.below (hb.mono (by omega)), h.2.2⟩

/-- a reader in new memory is handed back, of which none was read -/
def RetRd (w : World) (n : Nat) (bs : List UInt8) (e : Ending) (w' : World) : Prop :=
  ∃ g A c, e = .returned (.pointer (some ⟨g, 0, none⟩)) ∧ Rd w' g A n c bs 0 ∧ w.heap.size ≤ g ∧ Below w.heap.size w w'
theorem new_any (A : Option Addr) (n c B : Nat) (bs : List UInt8) (w : World) (hR : Reads w B 1 A n (u8s bs)) (hB : B ≤ w.heap.size) (hn : n ≤ 1048576) (hnc : A = none → c = 0) :
    Calls Try.prog 31 #[.slice A n c] w (RetRd w n bs) := by
  go_enter Try.func31, Try.ntmps31
  go_wp2_with fail
  refine (clone_any A n c B bs _ hR hB hn hnc).mono ?_
  rintro e w1 ⟨A1, c1, rfl, h1, h2, h3, hr, hb⟩
  clear hR hnc
  go_wp2_with fail
  go_ret
  exact ⟨w1.heap.size, A1, c1, rfl, ⟨Blk.new _ _ _, hr.alloc (Nat.le_refl _) _, Nat.zero_le _, h1, h2, hn, h3⟩, hb.size, hb.alloc hb.size _⟩

/-- what was not read: a part of the reader's bytes -/
def RetLeft (w : World) (B m : Nat) (bs : List UInt8) (e : Ending) (w' : World) : Prop :=
  ∃ A c q, e = .returned (.slice A m c) ∧ m ≤ c ∧ c ≤ maxLen ∧ (A = none → c = 0) ∧ Reads w B 1 A m (u8s bs) ∧ w' = w.drewN q
theorem u8s_drop (l : List UInt8) (k : Nat) : (u8s l).drop k = u8s (l.drop k) := by simp [u8s, List.map_drop]
set_option maxHeartbeats 400000 in
theorem left_any (g n c p : Nat) (A : Option Addr) (bs : List UInt8) (w : World) (h : Rd w g A n c bs p) :
    Calls Try.prog 70 #[.pointer (some ⟨g, 0, none⟩)] w (RetLeft w g (n - p) (bs.drop p)) := by
  have hc0 := h.c0
  have hc1 := h.c1
  have HR := Lib.hid h.2.1
  obtain ⟨_, _, h1, h2, h3, h4, h5⟩ := h
  have HM := Lib.hid h3
  unfold maxLen at h3
  have hcut := HR.out.cut h1 h2
  rw [Nat.mul_one, u8s_drop] at hcut
  have HN := Lib.hid h5
  clear h5
  by_cases hcp : c = p
  · obtain rfl : n = p := by omega
    subst hcp
    rw [if_pos rfl] at hcut
    have HC := Lib.hid hcut
    clear hcut
    go_enter Try.func70, Try.ntmps70
    go_wp2
    go_quiet (fail)
    go_wp2
    go_ret
    exact ⟨A, 0, nq, by rw [Nat.sub_self]; rfl, by omega, by simp [maxLen], fun _ => rfl, HC.out, rfl⟩
  · rw [if_neg hcp] at hcut
    have HC := Lib.hid hcut
    clear hcut
    go_enter Try.func70, Try.ntmps70
    go_wp2
    go_quiet (fail)
    go_wp2
    go_ret
    exact ⟨_, _, nq, rfl, by omega, by unfold maxLen; omega, fun h => by have := HN.out (by simpa using h); omega, HC.out, rfl⟩
theorem leftNil_any (w : World) : Calls Try.prog 70 #[.pointer none] w fun e w' => e = .returned (.slice none 0 0) ∧ w = w' := by
  go_enter Try.func70, Try.ntmps70
  go_wp2
  go_ret
  exact ⟨rfl, rfl⟩
theorem at_any (g n c p : Nat) (A : Option Addr) (bs : List UInt8) (w : World) (h : Rd w g A n c bs p) :
    Calls Try.prog 32 #[.pointer (some ⟨g, 0, none⟩)] w fun e w' => e = .returned (.int .i64 p) ∧ w = w' := by
  have hc1 := h.c1
  go_enter Try.func32, Try.ntmps32
  go_wp2
  go_ret
  exact ⟨rfl, rfl⟩
theorem atNil_any (w : World) : Calls Try.prog 32 #[.pointer none] w fun e w' => e = .returned (.int .i64 0) ∧ w = w' := by
  go_enter Try.func32, Try.ntmps32
  go_wp2
  go_ret
  exact ⟨rfl, rfl⟩
theorem leftLen_any (g n c p : Nat) (A : Option Addr) (bs : List UInt8) (w : World) (h : Rd w g A n c bs p) :
    Calls Try.prog 36 #[.pointer (some ⟨g, 0, none⟩)] w fun e w' => e = .returned (.int .i64 ((n - p : Nat) : Int)) ∧ ∃ q, w' = w.drewN q := by
  have hn := h.2.2.2.2.2.1
  go_enter Try.func36, Try.ntmps36
  go_wp2_with fail
  refine (left_any g n c p A bs _ h).mono ?_
  rintro e w1 ⟨A1, c1, q, rfl, h1, h2, h3, h4, rfl⟩
  go_wp2_with fail
  go_ret
  exact ⟨rfl, q, rfl⟩
theorem leftLenNil_any (w : World) : Calls Try.prog 36 #[.pointer none] w fun e w' => e = .returned (.int .i64 0) ∧ w = w' := by
  go_enter Try.func36, Try.ntmps36
  go_wp2_with fail
  refine (leftNil_any _).mono ?_
  rintro e w1 ⟨rfl, rfl⟩
  go_wp2_with fail
  go_ret
  exact ⟨rfl, rfl⟩
theorem rest_any (g n c p : Nat) (A : Option Addr) (bs : List UInt8) (w : World) (h : Rd w g A n c bs p) :
    Calls Try.prog 38 #[.pointer (some ⟨g, 0, none⟩)] w (RetU8 w (n - p) (bs.drop p)) := by
  have hn := h.2.2.2.2.2.1
  have hlt := h.1.lt
  go_enter Try.func38, Try.ntmps38
  go_wp2_with fail
  refine (left_any g n c p A bs _ h).mono ?_
  rintro e w1 ⟨A1, c1, q, rfl, h1, h2, h3, h4, rfl⟩
  go_wp2_with fail
  refine (clone_any _ _ _ _ _ _ (h4.drewN q) (by simp; omega) (by omega) h3).mono ?_
  rintro e w2 ⟨A2, c2, rfl, h5, h6, h7, h8, h9⟩
  go_wp2_with fail
  go_ret
  exact ⟨A2, c2, rfl, h5, h6, h7, h8, (below_drewN (Below.refl _ _) q).trans h9⟩
theorem restNil_any (w : World) : Calls Try.prog 38 #[.pointer none] w (RetU8 w 0 []) := by
  go_enter Try.func38, Try.ntmps38
  go_wp2_with fail
  refine (leftNil_any _).mono ?_
  rintro e w1 ⟨rfl, rfl⟩
  go_wp2_with fail
  refine (clone_any none 0 0 0 [] _ Reads.none_ (by omega) (by omega) (fun _ => rfl)).mono ?_
  rintro e w2 ⟨A2, c2, rfl, h5, h6, h7, h8, h9⟩
  go_wp2_with fail
  go_ret
  exact ⟨A2, c2, rfl, h5, h6, h7, h8, h9⟩
theorem Reads.u8At {w : World} {B n k : Nat} {A : Option Addr} {l : List UInt8} (h : Reads w B 1 A n (u8s l)) (hk : k < n) :
    ∃ b off, A = some ⟨b, off, none⟩ ∧ b < B ∧ w.cell? ⟨b, off + k, none⟩ = some (.int .u8 ((l.getD k 0).toNat : Int)) := by
  have e : u8s l = (l.map fun b => (b.toNat : Int)).map (Value.int .u8) := by simp [u8s]
  rw [e] at h
  obtain ⟨b, off, h1, h2, h3⟩ := h.intAt hk
  refine ⟨b, off, h1, h2, ?_⟩
  rw [h3]
  have hl : k < l.length := by have := h.1; simp at this; omega
  simp [List.getD_eq_getElem?_getD, hl]

/-- Byte: what it hands back, and the reader behind it -/
def RetByte (w : World) (g : Nat) (A : Option Addr) (n c : Nat) (bs : List UInt8) (p : Nat) (e : Ending) (w' : World) : Prop :=
  e = .returned (.tuple #[.int .u8 (if p < n then ((bs.getD p 0).toNat : Int) else 0), .bool (decide (p < n))]) ∧ Rd w' g A n c bs (if p < n then p + 1 else p) ∧ w.grownBy w' (some g)
set_option maxHeartbeats 400000 in
theorem byte_any (g n c p : Nat) (A : Option Addr) (bs : List UInt8) (w : World) (h : Rd w g A n c bs p) :
    Calls Try.prog 33 #[.pointer (some ⟨g, 0, none⟩)] w (RetByte w g A n c bs p) := by
  have hn := h.2.2.2.2.2.1
  have hc1 := h.c1
  have hf1 := h.f1
  have HH := Lib.hid h
  clear h
  by_cases hp : p < n
  · go_enter Try.func33, Try.ntmps33
    go_wp2_with fail
    refine (left_any g n c p A bs _ HH.out).mono ?_
    rintro e w1 ⟨A1, c1, q, rfl, h1, h2, h3, h4, rfl⟩
    obtain ⟨b, off, rfl, hb, hcell⟩ := h4.u8At (k := 0) (by omega)
    clear h4 h3
    have hne : (((n - p : Nat) : Int) == 0) = false := by simp; omega
    have h0 : (0 : Int) < ((n - p : Nat) : Int) := by omega
    have ev : (bs.drop p).getD 0 0 = bs.getD p 0 := by simp [List.getD_eq_getElem?_getD]
    rw [ev, Nat.add_zero] at hcell
    clear ev
    have hcell2 : (w.setCell ⟨g, 1, none⟩ (.int .i64 ((p : Int) + 1))).cell? ⟨b, off, none⟩ = some (.int .u8 ((bs.getD p 0).toNat : Int)) := by
      rw [World.cell?_setCell_other _ _ _ _ (by intro e; injection e; omega)]; exact hcell
    go_wp2_with fail
    go_ret2
    refine ⟨by rw [if_pos hp, decide_eq_true hp]; rfl, ?_, ?_⟩
    · rw [if_pos hp]; exact (HH.out.drewN q).set (p' := p + 1) (by omega)
    · exact only_setCell (only_drewN (only_refl w g) q) (.inl rfl) _
  · go_enter Try.func33, Try.ntmps33
    go_wp2_with fail
    refine (left_any g n c p A bs _ HH.out).mono ?_
    rintro e w1 ⟨A1, c1, q, rfl, h1, h2, h3, h4, rfl⟩
    have hne : (((n - p : Nat) : Int) == 0) = true := by simp; omega
    go_wp2_with fail
    go_ret2
    exact ⟨by rw [if_neg hp, decide_eq_false hp]; rfl, by rw [if_neg hp]; exact HH.out.drewN q, only_drewN (only_refl w g) q⟩
theorem byteNil_any (w : World) : Calls Try.prog 33 #[.pointer none] w fun e w' => e = .returned (.tuple #[.int .u8 0, .bool false]) ∧ w = w' := by
  go_enter Try.func33, Try.ntmps33
  go_wp2_with fail
  refine (leftNil_any _).mono ?_
  rintro e w1 ⟨rfl, rfl⟩
  go_wp2_with fail
  go_ret2
  exact ⟨rfl, rfl⟩
theorem peek_any (g n c p : Nat) (A : Option Addr) (bs : List UInt8) (w : World) (h : Rd w g A n c bs p) :
    Calls Try.prog 39 #[.pointer (some ⟨g, 0, none⟩)] w fun e w' => e = .returned (.int .i64 (if p < n then ((bs.getD p 0).toNat : Int) else -1)) ∧ ∃ q, w' = w.drewN q := by
  have hn := h.2.2.2.2.2.1
  have HH := Lib.hid h
  clear h
  by_cases hp : p < n
  · rw [if_pos hp]
    go_enter Try.func39, Try.ntmps39
    go_wp2_with fail
    refine (left_any g n c p A bs _ HH.out).mono ?_
    rintro e w1 ⟨A1, c1, q, rfl, h1, h2, h3, h4, rfl⟩
    obtain ⟨b, off, rfl, hb, hcell⟩ := h4.u8At (k := 0) (by omega)
    clear h4 h3
    have hne : (((n - p : Nat) : Int) == 0) = false := by simp; omega
    have h0 : (0 : Int) < ((n - p : Nat) : Int) := by omega
    have ev : (bs.drop p).getD 0 0 = bs.getD p 0 := by simp [List.getD_eq_getElem?_getD]
    rw [ev, Nat.add_zero] at hcell
    clear ev
    have hbv : (bs.getD p 0).toNat < 256 := UInt8.toNat_lt _
    obtain ⟨bv, hv⟩ : ∃ bv, bv = (bs.getD p 0).toNat := ⟨_, rfl⟩
    rw [← hv] at hcell hbv
    have HV := Lib.hid hv
    clear hv
    go_wp2_with fail
    go_ret
    exact ⟨by rw [← HV.out]; rfl, q, rfl⟩
  · rw [if_neg hp]
    go_enter Try.func39, Try.ntmps39
    go_wp2_with fail
    refine (left_any g n c p A bs _ HH.out).mono ?_
    rintro e w1 ⟨A1, c1, q, rfl, h1, h2, h3, h4, rfl⟩
    have hne : (((n - p : Nat) : Int) == 0) = true := by simp; omega
    go_wp2_with fail
    go_ret
    exact ⟨rfl, q, rfl⟩
theorem peekNil_any (w : World) : Calls Try.prog 39 #[.pointer none] w fun e w' => e = .returned (.int .i64 (-1)) ∧ w = w' := by
  go_enter Try.func39, Try.ntmps39
  go_wp2_with fail
  refine (leftNil_any _).mono ?_
  rintro e w1 ⟨rfl, rfl⟩
  go_wp2_with fail
  go_ret
  exact ⟨rfl, rfl⟩
end Go.Proofs.Ytcfkagielgnkkaa
