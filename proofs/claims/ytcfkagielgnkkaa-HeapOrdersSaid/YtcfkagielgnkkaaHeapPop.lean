/- The heap's Pop. -/
import Derived.Test.YtcfkagielgnkkaaHeapOps2
namespace Go.Proofs.Ytcfkagielgnkkaa
open Go.RowKit Pl
set_option linter.unusedVariables false
theorem Hp.popped {w : World} {base V g gp ga gl c n : Nat} {ls ps az : List Int} (h : Hp w base V g gp ga (.slice (some ⟨gl, 0, none⟩) (n + 1) c) ls ps az) (hn : ls.length = n + 1) :
    Hp (w.setCell ⟨g, 0, none⟩ (.slice (some ⟨gl, 0, none⟩) n c)) base V g gp ga (.slice (some ⟨gl, 0, none⟩) n c) (ls.take n) ps az := by
  have n1 : gp ≠ g := h.pl.ne_ h.hd (by decide)
  have n2 : ga ≠ g := h.ac.ne_ h.hd (by decide)
  have ht : (ls.take n).length = n := by simp; omega
  refine ⟨?_, ?_, h.pl.far n1 _, h.ac.far n2 _, h.ne, h.bg, h.bp, h.ba, h.lp, h.la, h.hv, by have := h.ll; omega⟩
  · have := h.hd.set_ 0 (.slice (some ⟨gl, 0, none⟩) n c)
    simpa using this
  · rw [ht]
    have ho : w.ownsRow base 3 1 (.slice (some ⟨gl, 0, none⟩) n c) n (i64s (ls.take n)) := by
      rcases h.own.2 with ⟨e, _⟩ | ⟨gl', cap, cur, e, hb, hh, hl, hm, hs, ht'⟩
      · cases e
      · injection e with e1 e2 e3
        injection e1 with e1
        injection e1 with e1
        subst e1 e3
        refine ⟨by rw [i64s_length, ht]; omega, .inr ⟨gl, c, cur, rfl, hb, hh, by omega, hm, hs, ?_⟩⟩
        have e4 : i64s (ls.take n) = (i64s ls).take n := by simp [i64s, List.map_take]
        rw [e4, ← ht', List.take_take]
        congr 1
        omega
    exact own_far ho h.ne_g
/-- what Pop leaves -/
def Popped (w : World) (base V g : Nat) (ls az : List Int) (e : Ending) (w' : World) : Prop :=
  ∃ ls', e = .returned (.tuple #[.int .i64 (at_ ls 0), .bool true]) ∧ HS w' base V g ls' az ∧ Below base w w' ∧ ls'.length + 1 = ls.length ∧ ∀ u, In ls' u ↔ In ls u ∧ u ≠ at_ ls 0
theorem popEmpty_any {w : World} {base V g : Nat} {az : List Int} (h : HS w base V g [] az) :
    Calls Try.prog 45 #[.pointer (some ⟨g, 0, none⟩)] w fun e w' => e = .returned (.tuple #[.int .i64 0, .bool false]) ∧ w = w' := by
  obtain ⟨gp, ga, lv, ps, h, hok, ho, hab⟩ := h
  have HH := Lib.hid h
  clear h hok ho hab
  go_enter Try.func45, Try.ntmps45
  go_wp2_with fail
  refine (len_any HH.out).mono ?_
  rintro e w' ⟨rfl, rfl⟩
  go_wp2_with fail
  go_ret2
  exact ⟨rfl, rfl⟩
theorem Same.in {a b : List Int} (h : Same a b) (u : Int) : In a u ↔ In b u := h.2 u
set_option maxHeartbeats 800000 in
theorem pop_any {w : World} {base V g n : Nat} {ls az : List Int} (h : HS w base V g ls az) (hn : ls.length = n + 1) :
    Calls Try.prog 45 #[.pointer (some ⟨g, 0, none⟩)] w (Popped w base V g ls az) := by
  obtain ⟨gp, ga, lv, ps, h, hok, ho, hab⟩ := h
  have hV := h.hv
  have hll := h.ll
  have HAB := Lib.hid hab
  have HOK := Lib.hid hok
  have HHO := Lib.hid ho
  have r0 := hok.rng 0 (by omega)
  have rn := hok.rng n (by omega)
  obtain ⟨gl, c, rfl, hlc, n1, n2, n3, hcl, hfl⟩ := h.at_l (i := 0) (by omega)
  have HH0 := Lib.hid h
  rw [hn] at h
  have c0 := h.c0
  have f0 := h.hd.frozen 0
  have hc0 := hcl 0 (by omega)
  have hcn := hcl n (by omega)
  have h1 := h.popped hn
  have c1 := h1.c1
  have hbg := h.bg
  have hbp := h.bp
  obtain ⟨v, hv⟩ : ∃ v : Nat, (v : Int) = at_ ls 0 := ⟨(at_ ls 0).toNat, by omega⟩
  obtain ⟨x, hx⟩ : ∃ x : Nat, (x : Int) = at_ ls n := ⟨(at_ ls n).toNat, by omega⟩
  rw [← hv] at hc0 r0
  rw [← hx] at hcn rn
  have cp := h1.at_p (v := v) (by omega)
  have fp := h1.pl.frozen v
  have l1 : v < V + 1 := by omega
  have H2 := Lib.hid (h1.set_p (v := v) (x := 0))
  have HVV := Lib.hid hv
  have HXX := Lib.hid hx
  have HN := Lib.hid hn
  have hlc2 : n + 1 ≤ c := by omega
  have hlb : n ≤ 1048576 := by omega
  clear h h1 hcl hfl hok ho hab hv hx hlc hll
  rcases Nat.eq_zero_or_pos n with hz | hz
  · subst hz
    go_enter Try.func45, Try.ntmps45
    go_wp2_with fail
    refine (len_any HH0.out).mono ?_
    rw [HN.out]
    rintro e w' ⟨rfl, rfl⟩
    go_wp2_with fail
    go_ret2
    refine ⟨ls.take 0, by rw [← HVV.out]; rfl, ?_, ((Below.refl _ _).setCell hbg _).setCell hbp _, by rw [HN.out]; rfl, fun u => ?_⟩
    · refine HS.of H2.out ?_ (fun j _ h2 => absurd h2 (by simp)) HAB.out
      have := pop_last HOK.out HN.out
      rwa [← HVV.out, Int.toNat_natCast] at this
    · constructor
      · rintro ⟨i, hi, _⟩; simp at hi
      · rintro ⟨⟨i, hi, e⟩, hne⟩
        obtain rfl : i = 0 := by have := HN.out; omega
        exact absurd e.symm hne
  · go_enter Try.func45, Try.ntmps45
    go_wp2_with fail
    refine (len_any HH0.out).mono ?_
    rw [HN.out]
    rintro e w' ⟨rfl, rfl⟩
    have htl : 0 < (ls.take n).length := by simp; have := HN.out; omega
    go_wp2_with fail
    refine (put_h 0 x H2.out htl (by omega) (by omega)).mono ?_
    rintro e w2 ⟨rfl, h2, hb2⟩
    have HH2 := Lib.hid h2
    clear h2
    go_wp2_with fail
    have hok2 := pop_ok HOK.out HN.out hz
    have hinv := pop_inv (x := at_ ls n) HHO.out HN.out
    have hin := pop_in HOK.out HN.out hz
    rw [← HXX.out, ← HVV.out, Int.toNat_natCast, Int.toNat_natCast] at hok2
    rw [← HXX.out] at hinv hin
    have h3 := HH2.out
    rw [Int.toNat_natCast] at h3
    have HIN := Lib.hid hin
    refine (down_any h3 (by simpa using htl) ?_ hinv).mono ?_
    · rw [at_set_eq _ _ _ htl, Int.toNat_natCast, List.set_set]
      exact hok2
    clear h3 hok2 hinv hin
    rintro e w3 ⟨l3, p3, rfl, h3, ok3, ho3, sm3, hb3⟩
    go_wp2_with fail
    go_ret2
    have hsl := sm3.1
    rw [List.length_set, List.length_take, HN.out] at hsl
    refine ⟨l3, by rw [← HVV.out]; rfl, HS.of h3 ok3 ho3 HAB.out, ((((Below.refl _ _).setCell hbg _).setCell hbp _).trans hb2).trans hb3, by have := HN.out; omega, fun u => ?_⟩
    rw [← Same.in sm3 u]
    exact HIN.out u
end Go.Proofs.Ytcfkagielgnkkaa
