/- Parse of bits and of its reference. -/
import Derived.Test.YtcfkagielgnkkaaBitsText
namespace Go.Proofs.Ytcfkagielgnkkaa
open Go.RowKit Pl
set_option linter.unusedVariables false
def okc (c : UInt8) : Bool := c == 48 || c == 49
def pb (c : UInt8) : Bool := c == 49
def parseB (l : List UInt8) : Option (List Bool) := if l.length ≤ 4096 ∧ l.all okc = true then some (l.map pb) else none
theorem take_snoc8 (s : ByteArray) (k : Nat) (h : k < s.size) : s.data.toList.take (k + 1) = s.data.toList.take k ++ [s[k]] := by
  rw [List.take_succ_eq_append_getElem (by simpa using h)]; rfl
theorem size_toList (s : ByteArray) : s.data.toList.length = s.size := by simp
def ParsedAt (s : ByteArray) (k : Nat) : Prop := (s.data.toList.take k).all okc = true
def parsed (s : ByteArray) (k : Nat) : List Value := ((s.data.toList.take k).map pb).map Value.bool
theorem ParsedAt.next {s : ByteArray} {k : Nat} (h : k < s.size) (hp : ParsedAt s k) (hc : okc s[k] = true) : ParsedAt s (k + 1) := by
  unfold ParsedAt at *
  rw [take_snoc8 s k h, List.all_append, hp, List.all_cons, hc]; rfl
theorem parsed_next {s : ByteArray} {k : Nat} (h : k < s.size) : parsed s (k + 1) = parsed s k ++ #[Value.bool (pb s[k])].toList := by
  unfold parsed
  rw [take_snoc8 s k h]; simp
theorem parsed_end {s : ByteArray} {k : Nat} (h1 : s.size ≤ k) (hs : s.size ≤ 4096) (hp : ParsedAt s k) : parseB s.data.toList = some (s.data.toList.map pb) ∧ parsed s k = (s.data.toList.map pb).map Value.bool := by
  unfold ParsedAt at hp
  unfold parsed
  rw [List.take_of_length_le (by rw [size_toList]; exact h1)] at hp ⊢
  exact ⟨by rw [parseB, if_pos ⟨by rw [size_toList]; exact hs, hp⟩], rfl⟩
theorem parsed_bad {s : ByteArray} {k : Nat} (h : k < s.size) (hc : okc s[k] = false) : parseB s.data.toList = none := by
  rw [parseB, if_neg]
  rintro ⟨_, h2⟩
  have := List.all_eq_true.1 h2 s[k] (by
    have : s.data.toList[k]'(by simpa using h) ∈ s.data.toList := List.getElem_mem _
    exact this)
  rw [hc] at this
  cases this
theorem parsed_long {s : ByteArray} (h : 4096 < s.size) : parseB s.data.toList = none := by
  rw [parseB, if_neg]
  rintro ⟨h1, _⟩
  rw [size_toList] at h1
  omega
theorem beq_u8 (c : UInt8) (n : Nat) (hn : n < 256) : ((c.toNat : Int) == (n : Int)) = (c == UInt8.ofNat n) := by
  rw [Bool.eq_iff_iff, beq_iff_eq, beq_iff_eq, ← UInt8.toNat_inj, UInt8.toNat_ofNat']
  omega
theorem pb_int (c : UInt8) : ((c.toNat : Int) == 49) = pb c := beq_u8 c 49 (by omega)
theorem is48 (c : UInt8) : ((c.toNat : Int) == 48) = (c == 48) := beq_u8 c 48 (by omega)
theorem okc_int (c : UInt8) : okc c = ((c.toNat : Int) == 48 || (c.toNat : Int) == 49) := by rw [okc, is48, pb_int]; rfl
/-- what Parse hands back -/
def RetParse (w : World) (r : Option (List Bool)) (e : Ending) (w' : World) : Prop :=
  ∃ A c, e = .returned (.tuple #[.slice A (r.getD []).length c, .bool r.isSome]) ∧ (r.getD []).length ≤ c ∧ c ≤ maxLen ∧
    w'.ownsRow w.heap.size 4 1 (.slice A (r.getD []).length c) (r.getD []).length ((r.getD []).map Value.bool) ∧ Below w.heap.size w w'
theorem RetParse.none_ {w w' : World} {r : Option (List Bool)} (hr : r = none) (hb : Below w.heap.size w w') : RetParse w r (.returned (.tuple #[.slice none 0 0, .bool false])) w' := by
  subst hr
  exact ⟨none, 0, rfl, by simp, by simp [maxLen], World.ownsRow_nil _ _ _ _, hb⟩
theorem RetParse.some_ {w w' : World} {l : List Bool} {r : Option (List Bool)} {v : Value} {n : Nat} (hr : r = some l) (hn : l.length = n) (h : w'.ownsRow w.heap.size 4 1 v n (l.map Value.bool)) (hb : Below w.heap.size w w') : RetParse w r (.returned (.tuple #[v, .bool true])) w' := by
  subst hr hn
  obtain ⟨A, c, rfl, h1, h2, _⟩ := own_slice h
  exact ⟨A, c, rfl, h1, h2, h, hb⟩

set_option maxHeartbeats 800000 in
theorem parse_any (s : ByteArray) (w : World) (hs : s.size ≤ maxLen) : Calls Try.prog 22 #[.string s] w (RetParse w (parseB s.data.toList)) := by
  unfold maxLen at hs
  by_cases hlen : s.size ≤ 4096
  · go_enter Try.func22, Try.ntmps22
    go_wp2
    go_step3
    go_wp2
    go_step3
    go_wp2
    go_loopw [2, 10] (fun v i wr => ∃ k : Nat, k ≤ s.size ∧ i = .int .i64 k ∧ ParsedAt s k ∧ wr.ownsRow w.heap.size 4 1 v k (parsed s k) ∧ Below w.heap.size w wr) (fun _ i _ => s.size - (intOf i).toNat)
    case atStart => exact ⟨0, Nat.zero_le _, rfl, rfl, World.ownsRow_nil _ _ _ _, Below.refl _ _⟩
    case round =>
      obtain ⟨k, hk, rfl, hpa, hown, hbel⟩ := hrel
      by_cases hlt : k < s.size
      · have hnx := parsed_next hlt
        have HN := Lib.hid hnx
        clear hnx
        go_wp2_with (at_builtin; refine wpList_append_one _ rfl _ _ 22 rfl w.heap.size 4 (.bool false) 1 1 Try.underlying22 info_bool rfl (by decide) _ _ _ rfl hown _ rfl rfl one_bool (by omega) (by unfold maxLen; omega) hbel.size ?_; intro v' w1 hown' hg' hb'; have HO := Lib.hid hown'; clear hown')
        · go_roundw
          case rel =>
            refine ⟨k + 1, by omega, by go_num, hpa.next hlt (by rw [okc_int]; simp [*]), ?_, hbel.trans hb'⟩
            have h := HO.out
            rw [pb_int] at h
            rw [HN.out]; exact h
          case measure => simp [intOf]; omega
        · go_roundw
          case rel =>
            refine ⟨k + 1, by omega, by go_num, hpa.next hlt (by rw [okc_int]; simp [*]), ?_, hbel.trans hb'⟩
            have h := HO.out
            have hp : pb s[k] = true := by rw [← pb_int]; assumption
            rw [HN.out, hp]; exact h
          case measure => simp [intOf]; omega
        · try rw [Exit.noGoto_ret]
          go_ret2
          exact RetParse.none_ (parsed_bad hlt (by rw [okc_int]; simp [*])) hbel
      · go_wp2
        try rw [Exit.noGoto_ret]
        go_ret2
        obtain ⟨e1, e2⟩ := parsed_end (by omega) hlen hpa
        rw [e2] at hown
        exact RetParse.some_ e1 (by simp; omega) hown hbel
  · go_enter Try.func22, Try.ntmps22
    go_wp2
    go_step3
    go_wp2
    try rw [Exit.noGoto_ret]
    go_ret2
    exact RetParse.none_ (parsed_long (by omega)) (Below.refl _ _)

set_option maxHeartbeats 800000 in
theorem refParse_any (s : ByteArray) (w : World) (hs : s.size ≤ maxLen) : Calls Try.prog 23 #[.string s] w (RetParse w (parseB s.data.toList)) := by
  unfold maxLen at hs
  by_cases hlen : s.size ≤ 4096
  · go_enter Try.func23, Try.ntmps23
    go_wp2
    go_loopw [4, 5] (fun v i wr => ∃ k : Nat, k ≤ s.size ∧ i = .int .i64 k ∧ ParsedAt s k ∧ wr.ownsRow w.heap.size 4 1 v k (parsed s k) ∧ Below w.heap.size w wr) (fun _ i _ => s.size - (intOf i).toNat)
    case atStart => exact ⟨0, Nat.zero_le _, rfl, rfl, World.ownsRow_nil _ _ _ _, Below.refl _ _⟩
    case round =>
      obtain ⟨k, hk, rfl, hpa, hown, hbel⟩ := hrel
      by_cases hlt : k < s.size
      · have hnx := parsed_next hlt
        have HN := Lib.hid hnx
        clear hnx
        by_cases h48 : ((s[k].toNat : Int) == 48) = true
        · have h48' : ((s[k].toNat : Int) != 48) = false := by rw [bne, h48]; rfl
          go_wp2_with (at_builtin; refine wpList_append_one _ rfl _ _ 22 rfl w.heap.size 4 (.bool false) 1 1 Try.underlying22 info_bool rfl (by decide) _ _ _ rfl hown _ rfl rfl one_bool (by omega) (by unfold maxLen; omega) hbel.size ?_; intro v' w1 hown' hg' hb'; have HO := Lib.hid hown'; clear hown')
          go_roundw
          case rel =>
            refine ⟨k + 1, by omega, by go_num, hpa.next hlt (by rw [okc_int]; simp [*]), ?_, hbel.trans hb'⟩
            have h := HO.out
            rw [pb_int] at h
            rw [HN.out]; exact h
          case measure => simp [intOf]; omega
        · have h48' : ((s[k].toNat : Int) != 48) = true := by rw [bne]; simpa using h48
          have h48'' : ((s[k].toNat : Int) == 48) = false := by simpa using h48
          clear h48
          by_cases h49 : ((s[k].toNat : Int) == 49) = true
          · have h49' : ((s[k].toNat : Int) != 49) = false := by rw [bne, h49]; rfl
            go_wp2_with (at_builtin; refine wpList_append_one _ rfl _ _ 22 rfl w.heap.size 4 (.bool false) 1 1 Try.underlying22 info_bool rfl (by decide) _ _ _ rfl hown _ rfl rfl one_bool (by omega) (by unfold maxLen; omega) hbel.size ?_; intro v' w1 hown' hg' hb'; have HO := Lib.hid hown'; clear hown')
            go_roundw
            case rel =>
              refine ⟨k + 1, by omega, by go_num, hpa.next hlt (by rw [okc_int]; simp [*]), ?_, hbel.trans hb'⟩
              have h := HO.out
              have hp : pb s[k] = true := by rw [← pb_int]; assumption
              rw [HN.out, hp]; exact h
            case measure => simp [intOf]; omega
          · have h49' : ((s[k].toNat : Int) != 49) = true := by rw [bne]; simpa using h49
            have h49'' : ((s[k].toNat : Int) == 49) = false := by simpa using h49
            clear h49
            go_wp2
            go_ret2
            exact RetParse.none_ (parsed_bad hlt (by rw [okc_int]; simp [*])) hbel
      · go_wp2
        go_ret2
        obtain ⟨e1, e2⟩ := parsed_end (by omega) hlen hpa
        rw [e2] at hown
        exact RetParse.some_ e1 (by simp; omega) hown hbel
  · go_enter Try.func23, Try.ntmps23
    go_wp2
    go_ret2
    exact RetParse.none_ (parsed_long (by omega)) (Below.refl _ _)
end Go.Proofs.Ytcfkagielgnkkaa
