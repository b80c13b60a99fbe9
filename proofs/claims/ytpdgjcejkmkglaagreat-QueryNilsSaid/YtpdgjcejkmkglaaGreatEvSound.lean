/- The small machine: net.Sound of a netlist without memories, by its contract. -/
import Derived.Test.YtpdgjcejkmkglaaGreatEvDq
import Derived.Test.YtpdgjcejkmkglaaGreatNetSound
namespace Go.Proofs.YtpdgjcejkmkglaaGreat.Ev
open Go Go.RowKit Go.Proofs.YtpdgjcejkmkglaaGreat.Pl
set_option linter.unusedVariables false
set_option linter.unusedSimpArgs false

def okI : Int → Bool
  | .ofNat n => Nat.ble n 9223372036854775807
  | .negSucc n => Nat.ble n 9223372036854775807
theorem okI_spec {x : Int} (h : okI x = true) : I64 x := by
  cases x with
  | ofNat n =>
    have := Nat.le_of_ble_eq_true h
    have e : Int.ofNat n = (n : Int) := rfl
    rw [e]; constructor <;> omega
  | negSucc n =>
    have := Nat.le_of_ble_eq_true h
    have e : Int.negSucc n = -(n : Int) - 1 := by rw [Int.negSucc_eq]; omega
    rw [e]; constructor <;> omega
def isI64 : IntKind → Bool | .i64 => true | _ => false
def int64s : List AV → Option (List Int)
  | [] => some []
  | v :: l => match v with
    | .int k n => match isI64 k, okI n, int64s l with
      | true, true, some ns => some (n :: ns)
      | _, _, _ => none
    | _ => none
theorem int64s_spec {s : Sg} : ∀ {l : List AV} {ns : List Int}, int64s l = some ns → concL s l = ints ns ∧ (∀ x ∈ ns, I64 x) ∧ ns.length = l.length
  | [], ns, h => by simp [int64s] at h; subst h; exact ⟨rfl, by simp, rfl⟩
  | v :: l, ns, h => by
    simp only [int64s] at h
    split at h <;> try cases h
    rename_i k n
    split at h <;> try cases h
    rename_i ns' h1 h2 h3
    obtain ⟨a, b, c⟩ := int64s_spec (s := s) h3
    have hk : k = .i64 := by cases k <;> simp [isI64] at h1; rfl
    subst hk
    refine ⟨by simp [concL, conc, a, ints], ?_, by simp [c]⟩
    intro x hx
    rcases List.mem_cons.1 hx with rfl | hx
    · exact okI_spec h2
    · exact b x hx
def three : List Int → Option (List (Int × Int × Int))
  | [] => some []
  | a :: l => match l with
    | b :: c :: l => match three l with
      | some r => some ((a, b, c) :: r)
      | none => none
    | _ => none
theorem three_spec : ∀ {l : List Int} {r : List (Int × Int × Int)}, three l = some r → l = r.flatMap (fun x => [x.1, x.2.1, x.2.2])
  | [], r, h => by simp [three] at h; subst h; rfl
  | [a], r, h => by simp [three] at h
  | [a, b], r, h => by simp [three] at h
  | a :: b :: c :: l, r, h => by
    simp only [three] at h
    split at h <;> try cases h
    rename_i r' h'
    have := three_spec h'
    simp [← this]
def rdSl (h : Hp) (sz : Nat) (v : AV) : Option (Nat × List Int) := match v with
  | .nils => some (0, [])
  | .slice b off len u c => match u, Nat.ble len c, Nat.ble c 9223372036854775807, Nat.ble len 4000, srcCells h sz (.slice b off len u c) with
    | false, true, true, true, some (n, l) => match int64s l with
      | some ns => some (n, ns)
      | none => none
    | _, _, _, _, _ => none
  | _ => none
theorem rdSl_spec {h : Hp} {sz : Nat} {v : AV} {n : Nat} {ns : List Int} (e : rdSl h sz v = some (n, ns)) {s : Sg} {w : World} (H : HRel s h w) :
    ∃ A c, conc s v = .slice A n c ∧ Sl w w.heap.size sz A n c (ints ns) ∧ n ≤ 4000 ∧ (∀ x ∈ ns, I64 x) ∧ ns.length = n * sz := by
  unfold rdSl at e
  split at e
  · simp at e; obtain ⟨rfl, rfl⟩ := e
    exact ⟨none, 0, rfl, ⟨⟨by simp [ints], fun h => by omega⟩, by omega, by simp [maxLen]⟩, by omega, by simp, by simp⟩
  · rename_i b off len u c
    split at e <;> try cases e
    rename_i l h1 h2 h3 h4
    split at e <;> try cases e
    rename_i hi
    have h1 := Nat.le_of_ble_eq_true h1
    have h2 := Nat.le_of_ble_eq_true h2
    have h3 := Nat.le_of_ble_eq_true h3
    have hsrc := h4
    unfold srcCells at h4
    simp only [] at h4
    split at h4 <;> try cases h4
    rename_i cs ty op hb
    split at h4 <;> try cases h4
    rename_i hle
    have hle := Nat.le_of_ble_eq_true hle
    obtain ⟨a1, a2, a3⟩ := int64s_spec (s := s) hi
    obtain ⟨_, _, _, hll⟩ := srcCells_run (P := default) hsrc H
    obtain ⟨tail, hw, _, _⟩ := H.cells hb
    refine ⟨some ⟨(s b).1, off, none⟩, c, rfl, ⟨⟨by rw [← a1, concL_length, hll], fun _ => ⟨_, rfl, H.bound hb, ?_⟩⟩, h1, by simpa [maxLen] using h2⟩, h3, a2, by rw [a3, hll]⟩
    intro j u hu
    rw [← a1] at hu
    rw [addr_add]
    simp only [takeN_eq, dropN_eq, concL_take, concL_drop] at hu
    have hj : j < n * sz := by
      rcases Nat.lt_or_ge j (n * sz) with q | q
      · exact q
      · rw [List.getElem?_eq_none (by simp; omega)] at hu; cases hu
    rw [List.getElem?_take, if_pos hj, List.getElem?_drop] at hu
    simp only [World.cell?, hw, Option.isSome_none, Bool.false_eq_true, if_false, List.getElem?_toArray]
    have hL := concL_length s cs
    rw [List.getElem?_append_left (by omega)]
    exact hu
  · cases e

theorem Below.hrel {s : Sg} {h : Hp} {w w' : World} (H : HRel s h w) (b : Below w.heap.size w w') : HRel s h w' where
  obj i o hi := by rw [b.block _ (H.bound hi)]; exact H.obj i o hi
  inj := H.inj
  lt := H.lt
  wso := H.wso
theorem Below.ext {s : Sg} {h : Hp} {w w' : World} (b : Below w.heap.size w w') : Ext s h w s h w' :=
  ⟨b.os, b.tape, b.output, b.size, fun _ _ => rfl, Nat.le_refl _, fun k hk _ => b.block k hk, fun j o hj => .inl ⟨j, o, hj, rfl⟩, fun j o hj _ => ⟨o, hj⟩⟩

def orcD (h : Hp) (vs : List AV) : Option NetD := match vs with
  | [.agg [.int k vars, si, sl, so, sb, sc, sm, sa]] => match isI64 k, okI vars, rdSl h 1 si, rdSl h 3 sl, rdSl h 1 so, rdSl h 1 sb, rdSl h 1 sc, rdSl h 5 sm, rdSl h 3 sa with
    | true, true, some (_, i), some (_, l), some (_, o), some (_, b), some (_, c), some (0, _), some (_, a) => match three l, three a with
      | some l, some a => some ⟨vars, i, l.map (fun x => ⟨x.1, x.2.1, x.2.2⟩), o, b, c, [], a.map (fun x => ⟨x.1, x.2.1, x.2.2⟩)⟩
      | _, _ => none
    | _, _, _, _, _, _, _, _, _ => none
  | _ => none
def orc : Cl := fun f vs h => match Nat.beq f 224 with
  | true => match orcD h vs with
    | some d => some (.int .i64 (soundF d), h)
    | none => none
  | false => none
theorem orcD_spec {h : Hp} {vs : List AV} {d : NetD} (e : orcD h vs = some d) {s : Sg} {w : World} (H : HRel s h w) :
    ∃ N : NetH, (concL s vs).toArray = #[N.v] ∧ N.okIn w w.heap.size ∧ Fit N.d ∧ N.d = d := by
  unfold orcD at e
  split at e <;> try cases e
  rename_i k vars si sl so sb sc sm sa
  split at e <;> try cases e
  rename_i ni i nl l no o nb b nc c nm na a' hk hv h1 h2 h3 h4 h5 h6 h7
  split at e <;> try cases e
  rename_i l3 a3 hl3 ha3
  have hk' : k = .i64 := by cases k <;> simp [isI64] at hk; rfl
  subst hk'
  obtain ⟨A1, c1, e1, s1, b1, r1, t1⟩ := rdSl_spec h1 H
  obtain ⟨A2, c2, e2, s2, b2, r2, t2⟩ := rdSl_spec h2 H
  obtain ⟨A3, c3, e3, s3, b3, r3, t3⟩ := rdSl_spec h3 H
  obtain ⟨A4, c4, e4, s4, b4, r4, t4⟩ := rdSl_spec h4 H
  obtain ⟨A5, c5, e5, s5, b5, r5, t5⟩ := rdSl_spec h5 H
  obtain ⟨A6, c6, e6, s6, b6, r6, t6⟩ := rdSl_spec h6 H
  obtain ⟨A7, c7, e7, s7, b7, r7, t7⟩ := rdSl_spec h7 H
  have hl := three_spec hl3
  have ha := three_spec ha3
  have len3 : ∀ r : List (Int × Int × Int), (r.flatMap (fun x => [x.1, x.2.1, x.2.2])).length = r.length * 3 := by
    intro r; induction r with
    | nil => rfl
    | cons x r ih => simp only [List.flatMap_cons, List.length_append, ih]; simp; omega
  have n2 : l3.length = nl := by have := len3 l3; rw [← hl, t2] at this; omega
  have n7 : a3.length = na := by have := len3 a3; rw [← ha, t7] at this; omega
  simp only [Nat.mul_one] at t1 t3 t4 t5
  refine ⟨⟨vars, A1, c1, i, A2, c2, l3.map (fun x => ⟨x.1, x.2.1, x.2.2⟩), A3, c3, o, A4, c4, b, A5, c5, c, A6, c6, [], A7, c7, a3.map (fun x => ⟨x.1, x.2.1, x.2.2⟩)⟩, ?_, ⟨?_, ?_, ?_, ?_, ?_, ?_, ?_, ?_⟩, ⟨?_, ?_, ?_, ?_, ?_, ?_, ?_, ?_⟩, rfl⟩
  · simp only [concL, conc, e1, e2, e3, e4, e5, e6, e7, NetH.v, NetH.fs, t1, t3, t4, t5, List.length_map, n2, n7, List.length_nil]
  · simp only [t1]; exact s1
  · simp only [List.length_map, n2]
    have : ints l = (l3.map (fun x => (⟨x.1, x.2.1, x.2.2⟩ : LatchD))).flatMap LatchD.cells := by
      rw [hl]; simp [ints, LatchD.cells, List.map_flatMap, List.flatMap_map]
    rw [← this]; exact s2
  · simp only [t3]; exact s3
  · simp only [t4]; exact s4
  · simp only [t5]; exact s5
  · have : A6 = A6 := rfl
    simp only [List.length_nil, List.flatMap_nil]
    exact ⟨⟨by simp, fun h => by omega⟩, by omega, s6.2.2⟩
  · intro m hm; cases hm
  · simp only [List.length_map, n7]
    have : ints a' = (a3.map (fun x => (⟨x.1, x.2.1, x.2.2⟩ : AndD))).flatMap AndD.cells := by
      rw [ha]; simp [ints, AndD.cells, List.map_flatMap, List.flatMap_map]
    rw [← this]; exact s7
  · exact okI_spec hv
  · exact ⟨by simp [NetH.d, t1]; omega, r1⟩
  · refine ⟨by simp [NetH.d, n2]; omega, ?_⟩
    intro x hx
    simp only [NetH.d, List.mem_map] at hx
    obtain ⟨y, hy, rfl⟩ := hx
    have mem : ∀ z ∈ [y.1, y.2.1, y.2.2], z ∈ l := by
      intro z hz; rw [hl]; exact List.mem_flatMap.2 ⟨y, hy, hz⟩
    exact ⟨r2 _ (mem _ (by simp)), r2 _ (mem _ (by simp)), r2 _ (mem _ (by simp))⟩
  · exact ⟨by simp [NetH.d, t3]; omega, r3⟩
  · exact ⟨by simp [NetH.d, t4]; omega, r4⟩
  · exact ⟨by simp [NetH.d, t5]; omega, r5⟩
  · exact ⟨by simp [NetH.d], fun m hm => by simp [NetH.d] at hm⟩
  · refine ⟨by simp [NetH.d, n7]; omega, ?_⟩
    intro x hx
    simp only [NetH.d, List.mem_map] at hx
    obtain ⟨y, hy, rfl⟩ := hx
    have mem : ∀ z ∈ [y.1, y.2.1, y.2.2], z ∈ a' := by
      intro z hz; rw [ha]; exact List.mem_flatMap.2 ⟨y, hy, hz⟩
    exact ⟨r7 _ (mem _ (by simp)), r7 _ (mem _ (by simp)), r7 _ (mem _ (by simp))⟩
theorem orc_ok : ClOk Tryz.prog orc := by
  intro f vs h v h' e
  unfold orc at e
  split at e <;> try cases e
  rename_i hf
  have hf := Nat.eq_of_beq_eq_true hf
  subst hf
  split at e <;> try cases e
  rename_i d hd
  refine ⟨⟨Tryz.f224, _, Tryz.func224, by kernel_rfl, rfl⟩, ?_⟩
  intro F w args hne hF hw
  obtain ⟨s₁, hs₁⟩ := hne
  obtain ⟨N, n1, n2, n3, n4⟩ := orcD_spec hd (hF s₁ hs₁).1
  rw [← (hF s₁ hs₁).2, n1]
  refine (sound_any N w n2 n3).mono ?_
  rintro en w' ⟨rfl, hb⟩
  refine ⟨F, _, rfl, ⟨fun s hs => ⟨s, hs, Below.ext hb⟩, fun s hs => ⟨s, hs, Below.ext hb⟩⟩, fun s hs => ⟨Below.hrel (hF s hs).1 hb, by rw [n4]; rfl⟩⟩
end Go.Proofs.YtpdgjcejkmkglaaGreat.Ev
