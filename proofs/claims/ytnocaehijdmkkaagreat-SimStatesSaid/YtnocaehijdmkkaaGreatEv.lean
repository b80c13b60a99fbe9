import Derived.Test.YtnocaehijdmkkaaGreatMe
import Derived.Test.YtnocaehijdmkkaaGreatNa
import Derived.Test.YtnocaehijdmkkaaGreatMd
import Derived.Test.YtnocaehijdmkkaaGreatChecked
section
/- The small machine: a call with plain arguments, run. -/
namespace Go.Proofs.YtnocaehijdmkkaaGreat.Ev
open Go Go.RowKit
set_option linter.unusedVariables false
set_option linter.unusedSimpArgs false
def Za5g (P : Program) (E : Env) (dr : Dr) (orc : Cl) (k : Nat) (f : FuncId) (vs : List AV) : Option AV := match evF P E (evC P E dr orc k) f vs ⟨.nil, 1⟩ with
 | some (v, _) => some v
 | none => none
theorem Za26 {P : Program} {E : Env} (hE : EnvOk P E) {dr : Dr} (hdr : DrOk P dr) {orc : Cl} (ho : ClOk P orc) {k : Nat} {f : FuncId} {vs : List AV} {v : AV} {x : Value} (h : Za5g P E dr orc k f vs = some v)
  (hx : scal v = some x) (hw : wsL 1 vs = true) (s : Sg) (w : World) :
  Calls P f (concL s vs).toArray w fun e w' => e = .returned x ∧ Below w.heap.size w w' := by
 unfold Za5g at h
 split at h <;> try cases h
 rename_i h' he
 have := (Za96 hE (Zx4 hE hdr ho k).1 f vs ⟨.nil, 1⟩ v h' he).2 (fun s' => s' = s) w (concL s vs).toArray ⟨s, rfl⟩
  (fun s' e => ⟨⟨fun i o hi => by simp [Tr.get] at hi, fun i j o o' hi => by simp [Tr.get] at hi, fun i o hi => by simp [Tr.get] at hi, fun i o hi => by simp [Tr.get] at hi⟩, by rw [e]⟩) hw
 refine this.mono ?_
 rintro e w' ⟨F', V, rfl, hE', hF'⟩
 obtain ⟨s', hs', hx'⟩ := hE'.to s rfl
 exact ⟨by rw [← (hF' s' hs').2, Zet hx], hx'.os, hx'.tape, hx'.output, hx'.size, fun b hb => hx'.frame b hb (fun i o hi => by simp [Tr.get] at hi)⟩
def isT : Option AV → Bool
 | some (.bool true) => true
 | _ => false
theorem isT_eq {v : Option AV} (h : isT v = true) : v = some (.bool true) := by
 unfold isT at h
 split at h
 ·rfl
 ·cases h
theorem evTrue {P : Program} {E : Env} (hE : EnvOk P E) {dr : Dr} (hdr : DrOk P dr) {orc : Cl} (ho : ClOk P orc) {k : Nat} {f : FuncId} {vs : List AV} (h : isT (Za5g P E dr orc k f vs) = true)
  (hw : wsL 1 vs = true) (s : Sg) (w : World) :
  Calls P f (concL s vs).toArray w fun e w' => e = .returned (.bool true) ∧ Below w.heap.size w w' :=
 Za26 hE hdr ho (isT_eq h) rfl hw s w
end Go.Proofs.YtnocaehijdmkkaaGreat.Ev
end
section
/- The small machine: net.Sound of a netlist without memories, by its contract. -/
namespace Go.Proofs.YtnocaehijdmkkaaGreat.Ev
open Go Go.RowKit Go.Proofs.YtnocaehijdmkkaaGreat.Pl
set_option linter.unusedVariables false
set_option linter.unnecessarySimpa false
set_option linter.unusedSimpArgs false
def okI : Int → Bool
 | .ofNat n => Nat.ble n 9223372036854775807
 | .negSucc n => Nat.ble n 9223372036854775807
theorem Za4u {x : Int} (h : okI x = true) : I64 x := by
 cases x with
 | ofNat n =>
  have := Nat.le_of_ble_eq_true h
  have e : Int.ofNat n = (n : Int) := rfl
  rw [e]; constructor <;> omega
 | negSucc n =>
  have := Nat.le_of_ble_eq_true h
  have e : Int.negSucc n = -(n : Int) - 1 := by rw [Int.negSucc_eq]; omega
  rw [e]; constructor <;> omega
def isI64 : IntKind → Bool | .i64 => true | _ => false
def Za1o : List AV → Option (List Int)
 | [] => some []
 | v :: l => match v with
  | .int k n => match isI64 k, okI n, Za1o l with
   | true, true, some ns => some (n :: ns)
   | _, _, _ => none
  | _ => none
theorem Zx1 {s : Sg} : ∀ {l : List AV} {ns : List Int}, Za1o l = some ns → concL s l = ints ns ∧ (∀ x ∈ ns, I64 x) ∧ ns.length = l.length
 | [], ns, h => by simp [Za1o] at h; subst h; exact ⟨rfl, by simp, rfl⟩
 | v :: l, ns, h => by
  simp only [Za1o] at h
  split at h <;> try cases h
  rename_i k n
  split at h <;> try cases h
  rename_i ns' h1 h2 h3
  obtain ⟨a, b, c⟩ := Zx1 (s := s) h3
  have hk : k = .i64 := by cases k <;> simp [isI64] at h1; rfl
  subst hk
  refine ⟨by simp [concL, conc, a, ints], ?_, by simp [c]⟩
  intro x hx
  rcases List.mem_cons.1 hx with rfl | hx
  ·exact Za4u h2
  ·exact b x hx
def three : List Int → Option (List (Int × Int × Int))
 | [] => some []
 | a :: l => match l with
  | b :: c :: l => match three l with
   | some r => some ((a, b, c) :: r)
   | none => none
  | _ => none
theorem Zty : ∀ {l : List Int} {r : List (Int × Int × Int)}, three l = some r → l = r.flatMap (fun x => [x.1, x.2.1, x.2.2])
 | [], r, h => by simp [three] at h; subst h; rfl
 | [a], r, h => by simp [three] at h
 | [a, b], r, h => by simp [three] at h
 | a :: b :: c :: l, r, h => by
  simp only [three] at h
  split at h <;> try cases h
  rename_i r' h'
  have := Zty h'
  simp [← this]
def rdSl (h : Hp) (sz : Nat) (v : AV) : Option (Nat × List Int) := match v with
 | .nils => some (0, [])
 | .slice b off len u c => match u, Nat.ble len c, Nat.ble c 9223372036854775807, Nat.ble len 4000, Zmc h sz (.slice b off len u c) with
  | false, true, true, true, some (n, l) => match Za1o l with
   | some ns => some (n, ns)
   | none => none
  | _, _, _, _, _ => none
 | _ => none
theorem Zmv {h : Hp} {sz : Nat} {v : AV} {n : Nat} {ns : List Int} (e : rdSl h sz v = some (n, ns)) {s : Sg} {w : World} (H : HRel s h w) :
  ∃ A c, conc s v = .slice A n c ∧ Sl w w.heap.size sz A n c (ints ns) ∧ n ≤ 4000 ∧ (∀ x ∈ ns, I64 x) ∧ ns.length = n * sz := by
 unfold rdSl at e
 split at e
 ·simp at e; obtain ⟨rfl, rfl⟩ := e
  exact ⟨none, 0, rfl, ⟨⟨by simp [ints], fun h => by omega⟩, by omega, by simp [maxLen]⟩, by omega, by simp, by simp⟩
 ·rename_i b off len u c
  split at e <;> try cases e
  rename_i l h1 h2 h3 h4
  split at e <;> try cases e
  rename_i hi
  have h1 := Nat.le_of_ble_eq_true h1
  have h2 := Nat.le_of_ble_eq_true h2
  have h3 := Nat.le_of_ble_eq_true h3
  have hsrc := h4
  unfold Zmc at h4
  simp only [] at h4
  split at h4 <;> try cases h4
  rename_i cs ty op hb
  split at h4 <;> try cases h4
  rename_i hle
  have hle := Nat.le_of_ble_eq_true hle
  obtain ⟨a1, a2, a3⟩ := Zx1 (s := s) hi
  obtain ⟨_, _, _, hll⟩ := Zi4 (P := default) hsrc H
  obtain ⟨tail, hw, _, _⟩ := H.cells hb
  refine ⟨some ⟨(s b).1, off, none⟩, c, rfl, ⟨⟨by rw [← a1, Zc3, hll], fun _ => ⟨_, rfl, H.bound hb, ?_⟩⟩, h1, by simpa [maxLen] using h2⟩, h3, a2, by rw [a3, hll]⟩
  intro j u hu
  rw [← a1] at hu
  rw [Zd7]
  simp only [Zdt, Ze9, Zln, Zmo] at hu
  have hj : j < n * sz := by
   rcases Nat.lt_or_ge j (n * sz) with q | q
   ·exact q
   ·rw [List.getElem?_eq_none (by simp; omega)] at hu; cases hu
  rw [List.getElem?_take, if_pos hj, List.getElem?_drop] at hu
  simp only [World.cell?, hw, Option.isSome_none, Bool.false_eq_true, if_false, List.getElem?_toArray]
  have hL := Zc3 s cs
  rw [List.getElem?_append_left (by omega)]
  exact hu
 ·cases e
theorem Below.hrel {s : Sg} {h : Hp} {w w' : World} (H : HRel s h w) (b : Below w.heap.size w w') : HRel s h w' where
 obj i o hi := by rw [b.block _ (H.bound hi)]; exact H.obj i o hi
 inj := H.inj
 lt := H.lt
 wso := H.wso
theorem Below.ext {s : Sg} {h : Hp} {w w' : World} (b : Below w.heap.size w w') : Ext s h w s h w' :=
 ⟨b.os, b.tape, b.output, b.size, fun _ _ => rfl, Nat.le_refl _, fun k hk _ => b.block k hk, fun j o hj => .inl ⟨j, o, hj, rfl⟩, fun j o hj _ => ⟨o, hj⟩⟩
def orcD (h : Hp) (vs : List AV) : Option NetD := match vs with
 | [.agg [.int k vars, si, sl, so, sb, sc, sm, sa]] => match isI64 k, okI vars, rdSl h 1 si, rdSl h 3 sl, rdSl h 1 so, rdSl h 1 sb, rdSl h 1 sc, rdSl h 5 sm, rdSl h 3 sa with
  | true, true, some (_, i), some (_, l), some (_, o), some (_, b), some (_, c), some (0, _), some (_, a) => match three l, three a with
   | some l, some a => some ⟨vars, i, l.map (fun x => ⟨x.1, x.2.1, x.2.2⟩), o, b, c, [], a.map (fun x => ⟨x.1, x.2.1, x.2.2⟩)⟩
   | _, _ => none
  | _, _, _, _, _, _, _, _, _ => none
 | _ => none
def orc : Cl := fun f vs h => match Nat.beq f 105 with
 | true => match orcD h vs with
  | some d => some (.int .i64 (Zj3 d), h)
  | none => none
 | false => none
theorem Za7k {h : Hp} {vs : List AV} {d : NetD} (e : orcD h vs = some d) {s : Sg} {w : World} (H : HRel s h w) :
  ∃ N : NetH, (concL s vs).toArray = #[N.v] ∧ N.okIn w w.heap.size ∧ Fit N.d ∧ N.d = d := by
 unfold orcD at e
 split at e <;> try cases e
 rename_i k vars si sl so sb sc sm sa
 split at e <;> try cases e
 rename_i ni i nl l no o nb b nc c nm na a' hk hv h1 h2 h3 h4 h5 h6 h7
 split at e <;> try cases e
 rename_i l3 a3 hl3 ha3
 have hk' : k = .i64 := by cases k <;> simp [isI64] at hk; rfl
 subst hk'
 obtain ⟨A1, c1, e1, s1, b1, r1, t1⟩ := Zmv h1 H
 obtain ⟨A2, c2, e2, s2, b2, r2, t2⟩ := Zmv h2 H
 obtain ⟨A3, c3, e3, s3, b3, r3, t3⟩ := Zmv h3 H
 obtain ⟨A4, c4, e4, s4, b4, r4, t4⟩ := Zmv h4 H
 obtain ⟨A5, c5, e5, s5, b5, r5, t5⟩ := Zmv h5 H
 obtain ⟨A6, c6, e6, s6, b6, r6, t6⟩ := Zmv h6 H
 obtain ⟨A7, c7, e7, s7, b7, r7, t7⟩ := Zmv h7 H
 have hl := Zty hl3
 have ha := Zty ha3
 have len3 : ∀ r : List (Int × Int × Int), (r.flatMap (fun x => [x.1, x.2.1, x.2.2])).length = r.length * 3 := by
  intro r; induction r with
  | nil => rfl
  | cons x r ih => simp only [List.flatMap_cons, List.length_append, ih]; simp; omega
 have n2 : l3.length = nl := by have := len3 l3; rw [← hl, t2] at this; omega
 have n7 : a3.length = na := by have := len3 a3; rw [← ha, t7] at this; omega
 simp only [Nat.mul_one] at t1 t3 t4 t5
 refine ⟨⟨vars, A1, c1, i, A2, c2, l3.map (fun x => ⟨x.1, x.2.1, x.2.2⟩), A3, c3, o, A4, c4, b, A5, c5, c, A6, c6, [], A7, c7, a3.map (fun x => ⟨x.1, x.2.1, x.2.2⟩)⟩, ?_, ⟨?_, ?_, ?_, ?_, ?_, ?_, ?_, ?_⟩, ⟨?_, ?_, ?_, ?_, ?_, ?_, ?_, ?_⟩, rfl⟩
 ·simp only [concL, conc, e1, e2, e3, e4, e5, e6, e7, NetH.v, NetH.fs, t1, t3, t4, t5, List.length_map, n2, n7, List.length_nil]
 ·simp only [t1]; exact s1
 ·simp only [List.length_map, n2]
  have : ints l = (l3.map (fun x => (⟨x.1, x.2.1, x.2.2⟩ : Zgv))).flatMap Zgv.cells := by
   rw [hl]; simp [ints, Zgv.cells, List.map_flatMap, List.flatMap_map]
  rw [← this]; exact s2
 ·simp only [t3]; exact s3
 ·simp only [t4]; exact s4
 ·simp only [t5]; exact s5
 ·have : A6 = A6 := rfl
  simp only [List.length_nil, List.flatMap_nil]
  exact ⟨⟨by simp, fun h => by omega⟩, by omega, s6.2.2⟩
 ·intro m hm; cases hm
 ·simp only [List.length_map, n7]
  have : ints a' = (a3.map (fun x => (⟨x.1, x.2.1, x.2.2⟩ : AndD))).flatMap AndD.cells := by
   rw [ha]; simp [ints, AndD.cells, List.map_flatMap, List.flatMap_map]
  rw [← this]; exact s7
 ·exact Za4u hv
 ·exact ⟨by simp [NetH.d, t1]; omega, r1⟩
 ·refine ⟨by simp [NetH.d, n2]; omega, ?_⟩
  intro x hx
  simp only [NetH.d, List.mem_map] at hx
  obtain ⟨y, hy, rfl⟩ := hx
  have mem : ∀ z ∈ [y.1, y.2.1, y.2.2], z ∈ l := by
   intro z hz; rw [hl]; exact List.mem_flatMap.2 ⟨y, hy, hz⟩
  exact ⟨r2 _ (mem _ (by simp)), r2 _ (mem _ (by simp)), r2 _ (mem _ (by simp))⟩
 ·exact ⟨by simp [NetH.d, t3]; omega, r3⟩
 ·exact ⟨by simp [NetH.d, t4]; omega, r4⟩
 ·exact ⟨by simp [NetH.d, t5]; omega, r5⟩
 ·exact ⟨by simp [NetH.d], fun m hm => by simp [NetH.d] at hm⟩
 ·refine ⟨by simp [NetH.d, n7]; omega, ?_⟩
  intro x hx
  simp only [NetH.d, List.mem_map] at hx
  obtain ⟨y, hy, rfl⟩ := hx
  have mem : ∀ z ∈ [y.1, y.2.1, y.2.2], z ∈ a' := by
   intro z hz; rw [ha]; exact List.mem_flatMap.2 ⟨y, hy, hz⟩
  exact ⟨r7 _ (mem _ (by simp)), r7 _ (mem _ (by simp)), r7 _ (mem _ (by simp))⟩
theorem orc_ok : ClOk Tryz.prog orc := by
 intro f vs h v h' e
 unfold orc at e
 split at e <;> try cases e
 rename_i hf
 have hf := Nat.eq_of_beq_eq_true hf
 subst hf
 split at e <;> try cases e
 rename_i d hd
 refine ⟨⟨Tryz.f105, _, Tryz.func105, by kernel_rfl, rfl⟩, ?_⟩
 intro F w args hne hF hw
 obtain ⟨s₁, hs₁⟩ := hne
 obtain ⟨N, n1, n2, n3, n4⟩ := Za7k hd (hF s₁ hs₁).1
 rw [← (hF s₁ hs₁).2, n1]
 refine (Za0r N w n2 n3).mono ?_
 rintro en w' ⟨rfl, hb⟩
 refine ⟨F, _, rfl, ⟨fun s hs => ⟨s, hs, Below.ext hb⟩, fun s hs => ⟨s, hs, Below.ext hb⟩⟩, fun s hs => ⟨Below.hrel (hF s hs).1 hb, by rw [n4]; rfl⟩⟩
end Go.Proofs.YtnocaehijdmkkaaGreat.Ev
end
section
/- The functions that a closed run comes to, as the small machine finds them. -/
namespace Go.Proofs.YtnocaehijdmkkaaGreat.Ev
open Go Go.RowKit
def Tr.All {α : Type} (p : Nat → α → Prop) : Tr α → Nat → Nat → Prop
 | .nil, _, _ => True
 | .node v l r, a, b => (match v with | some x => p b x | none => True) ∧ Tr.All p l (2 * a) (a + b) ∧ Tr.All p r (2 * a) (2 * a + b)
theorem Tr.Za4d {α : Type} {p : Nat → α → Prop} : ∀ {t : Tr α} {a b : Nat}, Tr.All p t a b → ∀ n x, t.get n = some x → p (a * n + b) x
 | .nil, _, _, _, n, x, h => by simp [Tr.get] at h
 | .node v l r, a, b, ⟨h1, h2, h3⟩, n, x, h => by
  cases n with
  | zero =>
   simp [Tr.get] at h; subst h
   simpa using h1
  | succ m =>
   rw [Tr.Ztk] at h
   split at h
   ·have := Tr.Za4d h2 _ _ h
    rw [show a * (m + 1) + b = 2 * a * (m / 2) + (a + b) by
     have : m = 2 * (m / 2) := by omega
     rw [show a * (m + 1) = a * m + a by rw [Nat.mul_add]; simp, show a * m = a * (2 * (m / 2)) by rw [← this], show a * (2 * (m / 2)) = 2 * a * (m / 2) by rw [← Nat.mul_assoc, Nat.mul_comm a 2]]; omega]
    exact this
   ·have := Tr.Za4d h3 _ _ h
    rw [show a * (m + 1) + b = 2 * a * (m / 2) + (2 * a + b) by
     have : m = 2 * (m / 2) + 1 := by omega
     rw [show a * (m + 1) = a * m + a by rw [Nat.mul_add]; simp, show a * m = a * (2 * (m / 2) + 1) by rw [← this], show a * (2 * (m / 2) + 1) = 2 * a * (m / 2) + a by rw [Nat.mul_add, ← Nat.mul_assoc, Nat.mul_comm a 2]; simp]; omega]
    exact this
set_option maxRecDepth 100000
noncomputable def env : Env := .node (some Tryz.f0) (.node (some Tryz.f1) (.node (some Tryz.f3) (.node (some Tryz.f7) (.node (some Tryz.f15) (.node (some Tryz.f31) (.node (some Tryz.f63) (.node (some Tryz.f127) (.nil) (.nil)) (.nil)) (.node (some Tryz.f95) (.node (some Tryz.f159) (.nil) (.nil)) (.nil))) (.node (some Tryz.f47) (.node (some Tryz.f79) (.node (some Tryz.f143) (.nil) (.nil)) (.nil)) (.node (some Tryz.f111) (.node (some Tryz.f175) (.nil) (.nil)) (.nil)))) (.node (some Tryz.f23) (.node (some Tryz.f39) (.node (some Tryz.f71) (.node (some Tryz.f135) (.nil) (.nil)) (.nil)) (.node (some Tryz.f103) (.node (some Tryz.f167) (.nil) (.nil)) (.nil))) (.node (some Tryz.f55) (.node (some Tryz.f87) (.node (some Tryz.f151) (.nil) (.nil)) (.nil)) (.node (some Tryz.f119) (.nil) (.nil))))) (.node (some Tryz.f11) (.node (some Tryz.f19) (.node (some Tryz.f35) (.node (some Tryz.f67) (.node (some Tryz.f131) (.nil) (.nil)) (.nil)) (.node (some Tryz.f99) (.node (some Tryz.f163) (.nil) (.nil)) (.nil))) (.node (some Tryz.f51) (.node (some Tryz.f83) (.node (some Tryz.f147) (.nil) (.nil)) (.nil)) (.node (some Tryz.f115) (.node (some Tryz.f179) (.nil) (.nil)) (.nil)))) (.node (some Tryz.f27) (.node (some Tryz.f43) (.node (some Tryz.f75) (.node (some Tryz.f139) (.nil) (.nil)) (.nil)) (.node (some Tryz.f107) (.node (some Tryz.f171) (.nil) (.nil)) (.nil))) (.node (some Tryz.f59) (.node (some Tryz.f91) (.node (some Tryz.f155) (.nil) (.nil)) (.nil)) (.node (some Tryz.f123) (.nil) (.nil)))))) (.node (some Tryz.f5) (.node (some Tryz.f9) (.node (some Tryz.f17) (.node (some Tryz.f33) (.node (some Tryz.f65) (.node (some Tryz.f129) (.nil) (.nil)) (.nil)) (.node (some Tryz.f97) (.node (some Tryz.f161) (.nil) (.nil)) (.nil))) (.node (some Tryz.f49) (.node (some Tryz.f81) (.node (some Tryz.f145) (.nil) (.nil)) (.nil)) (.node (some Tryz.f113) (.node (some Tryz.f177) (.nil) (.nil)) (.nil)))) (.node (some Tryz.f25) (.node (some Tryz.f41) (.node (some Tryz.f73) (.node (some Tryz.f137) (.nil) (.nil)) (.nil)) (.node (some Tryz.f105) (.node (some Tryz.f169) (.nil) (.nil)) (.nil))) (.node (some Tryz.f57) (.node (some Tryz.f89) (.node (some Tryz.f153) (.nil) (.nil)) (.nil)) (.node (some Tryz.f121) (.nil) (.nil))))) (.node (some Tryz.f13) (.node (some Tryz.f21) (.node (some Tryz.f37) (.node (some Tryz.f69) (.node (some Tryz.f133) (.nil) (.nil)) (.nil)) (.node (some Tryz.f101) (.node (some Tryz.f165) (.nil) (.nil)) (.nil))) (.node (some Tryz.f53) (.node (some Tryz.f85) (.node (some Tryz.f149) (.nil) (.nil)) (.nil)) (.node (some Tryz.f117) (.node (some Tryz.f181) (.nil) (.nil)) (.nil)))) (.node (some Tryz.f29) (.node (some Tryz.f45) (.node (some Tryz.f77) (.node (some Tryz.f141) (.nil) (.nil)) (.nil)) (.node (some Tryz.f109) (.node (some Tryz.f173) (.nil) (.nil)) (.nil))) (.node (some Tryz.f61) (.node (some Tryz.f93) (.node (some Tryz.f157) (.nil) (.nil)) (.nil)) (.node (some Tryz.f125) (.nil) (.nil))))))) (.node (some Tryz.f2) (.node (some Tryz.f4) (.node (some Tryz.f8) (.node (some Tryz.f16) (.node (some Tryz.f32) (.node (some Tryz.f64) (.node (some Tryz.f128) (.nil) (.nil)) (.nil)) (.node (some Tryz.f96) (.node (some Tryz.f160) (.nil) (.nil)) (.nil))) (.node (some Tryz.f48) (.node (some Tryz.f80) (.node (some Tryz.f144) (.nil) (.nil)) (.nil)) (.node (some Tryz.f112) (.node (some Tryz.f176) (.nil) (.nil)) (.nil)))) (.node (some Tryz.f24) (.node (some Tryz.f40) (.node (some Tryz.f72) (.node (some Tryz.f136) (.nil) (.nil)) (.nil)) (.node (some Tryz.f104) (.node (some Tryz.f168) (.nil) (.nil)) (.nil))) (.node (some Tryz.f56) (.node (some Tryz.f88) (.node (some Tryz.f152) (.nil) (.nil)) (.nil)) (.node (some Tryz.f120) (.nil) (.nil))))) (.node (some Tryz.f12) (.node (some Tryz.f20) (.node (some Tryz.f36) (.node (some Tryz.f68) (.node (some Tryz.f132) (.nil) (.nil)) (.nil)) (.node (some Tryz.f100) (.node (some Tryz.f164) (.nil) (.nil)) (.nil))) (.node (some Tryz.f52) (.node (some Tryz.f84) (.node (some Tryz.f148) (.nil) (.nil)) (.nil)) (.node (some Tryz.f116) (.node (some Tryz.f180) (.nil) (.nil)) (.nil)))) (.node (some Tryz.f28) (.node (some Tryz.f44) (.node (some Tryz.f76) (.node (some Tryz.f140) (.nil) (.nil)) (.nil)) (.node (some Tryz.f108) (.node (some Tryz.f172) (.nil) (.nil)) (.nil))) (.node (some Tryz.f60) (.node (some Tryz.f92) (.node (some Tryz.f156) (.nil) (.nil)) (.nil)) (.node (some Tryz.f124) (.nil) (.nil)))))) (.node (some Tryz.f6) (.node (some Tryz.f10) (.node (some Tryz.f18) (.node (some Tryz.f34) (.node (some Tryz.f66) (.node (some Tryz.f130) (.nil) (.nil)) (.nil)) (.node (some Tryz.f98) (.node (some Tryz.f162) (.nil) (.nil)) (.nil))) (.node (some Tryz.f50) (.node (some Tryz.f82) (.node (some Tryz.f146) (.nil) (.nil)) (.nil)) (.node (some Tryz.f114) (.node (some Tryz.f178) (.nil) (.nil)) (.nil)))) (.node (some Tryz.f26) (.node (some Tryz.f42) (.node (some Tryz.f74) (.node (some Tryz.f138) (.nil) (.nil)) (.nil)) (.node (some Tryz.f106) (.node (some Tryz.f170) (.nil) (.nil)) (.nil))) (.node (some Tryz.f58) (.node (some Tryz.f90) (.node (some Tryz.f154) (.nil) (.nil)) (.nil)) (.node (some Tryz.f122) (.nil) (.nil))))) (.node (some Tryz.f14) (.node (some Tryz.f22) (.node (some Tryz.f38) (.node (some Tryz.f70) (.node (some Tryz.f134) (.nil) (.nil)) (.nil)) (.node (some Tryz.f102) (.node (some Tryz.f166) (.nil) (.nil)) (.nil))) (.node (some Tryz.f54) (.node (some Tryz.f86) (.node (some Tryz.f150) (.nil) (.nil)) (.nil)) (.node (some Tryz.f118) (.node (some Tryz.f182) (.nil) (.nil)) (.nil)))) (.node (some Tryz.f30) (.node (some Tryz.f46) (.node (some Tryz.f78) (.node (some Tryz.f142) (.nil) (.nil)) (.nil)) (.node (some Tryz.f110) (.node (some Tryz.f174) (.nil) (.nil)) (.nil))) (.node (some Tryz.f62) (.node (some Tryz.f94) (.node (some Tryz.f158) (.nil) (.nil)) (.nil)) (.node (some Tryz.f126) (.nil) (.nil)))))))
set_option maxRecDepth 100000 in
theorem env_all : Tr.All (fun f fn => Tryz.prog.funcs[f]? = some fn ∧ (fn.name == "runtime.NumGoroutine") = false) env 1 0 := ⟨⟨Tryz.func0, by kernel_rfl⟩, ⟨⟨Tryz.func1, by kernel_rfl⟩, ⟨⟨Tryz.func3, by kernel_rfl⟩, ⟨⟨Tryz.func7, by kernel_rfl⟩, ⟨⟨Tryz.func15, by kernel_rfl⟩, ⟨⟨Tryz.func31, by kernel_rfl⟩, ⟨⟨Tryz.func63, by kernel_rfl⟩, ⟨⟨Tryz.func127, by kernel_rfl⟩, trivial, trivial⟩, trivial⟩, ⟨⟨Tryz.func95, by kernel_rfl⟩, ⟨⟨Tryz.func159, by kernel_rfl⟩, trivial, trivial⟩, trivial⟩⟩, ⟨⟨Tryz.func47, by kernel_rfl⟩, ⟨⟨Tryz.func79, by kernel_rfl⟩, ⟨⟨Tryz.func143, by kernel_rfl⟩, trivial, trivial⟩, trivial⟩, ⟨⟨Tryz.func111, by kernel_rfl⟩, ⟨⟨Tryz.func175, by kernel_rfl⟩, trivial, trivial⟩, trivial⟩⟩⟩, ⟨⟨Tryz.func23, by kernel_rfl⟩, ⟨⟨Tryz.func39, by kernel_rfl⟩, ⟨⟨Tryz.func71, by kernel_rfl⟩, ⟨⟨Tryz.func135, by kernel_rfl⟩, trivial, trivial⟩, trivial⟩, ⟨⟨Tryz.func103, by kernel_rfl⟩, ⟨⟨Tryz.func167, by kernel_rfl⟩, trivial, trivial⟩, trivial⟩⟩, ⟨⟨Tryz.func55, by kernel_rfl⟩, ⟨⟨Tryz.func87, by kernel_rfl⟩, ⟨⟨Tryz.func151, by kernel_rfl⟩, trivial, trivial⟩, trivial⟩, ⟨⟨Tryz.func119, by kernel_rfl⟩, trivial, trivial⟩⟩⟩⟩, ⟨⟨Tryz.func11, by kernel_rfl⟩, ⟨⟨Tryz.func19, by kernel_rfl⟩, ⟨⟨Tryz.func35, by kernel_rfl⟩, ⟨⟨Tryz.func67, by kernel_rfl⟩, ⟨⟨Tryz.func131, by kernel_rfl⟩, trivial, trivial⟩, trivial⟩, ⟨⟨Tryz.func99, by kernel_rfl⟩, ⟨⟨Tryz.func163, by kernel_rfl⟩, trivial, trivial⟩, trivial⟩⟩, ⟨⟨Tryz.func51, by kernel_rfl⟩, ⟨⟨Tryz.func83, by kernel_rfl⟩, ⟨⟨Tryz.func147, by kernel_rfl⟩, trivial, trivial⟩, trivial⟩, ⟨⟨Tryz.func115, by kernel_rfl⟩, ⟨⟨Tryz.func179, by kernel_rfl⟩, trivial, trivial⟩, trivial⟩⟩⟩, ⟨⟨Tryz.func27, by kernel_rfl⟩, ⟨⟨Tryz.func43, by kernel_rfl⟩, ⟨⟨Tryz.func75, by kernel_rfl⟩, ⟨⟨Tryz.func139, by kernel_rfl⟩, trivial, trivial⟩, trivial⟩, ⟨⟨Tryz.func107, by kernel_rfl⟩, ⟨⟨Tryz.func171, by kernel_rfl⟩, trivial, trivial⟩, trivial⟩⟩, ⟨⟨Tryz.func59, by kernel_rfl⟩, ⟨⟨Tryz.func91, by kernel_rfl⟩, ⟨⟨Tryz.func155, by kernel_rfl⟩, trivial, trivial⟩, trivial⟩, ⟨⟨Tryz.func123, by kernel_rfl⟩, trivial, trivial⟩⟩⟩⟩⟩, ⟨⟨Tryz.func5, by kernel_rfl⟩, ⟨⟨Tryz.func9, by kernel_rfl⟩, ⟨⟨Tryz.func17, by kernel_rfl⟩, ⟨⟨Tryz.func33, by kernel_rfl⟩, ⟨⟨Tryz.func65, by kernel_rfl⟩, ⟨⟨Tryz.func129, by kernel_rfl⟩, trivial, trivial⟩, trivial⟩, ⟨⟨Tryz.func97, by kernel_rfl⟩, ⟨⟨Tryz.func161, by kernel_rfl⟩, trivial, trivial⟩, trivial⟩⟩, ⟨⟨Tryz.func49, by kernel_rfl⟩, ⟨⟨Tryz.func81, by kernel_rfl⟩, ⟨⟨Tryz.func145, by kernel_rfl⟩, trivial, trivial⟩, trivial⟩, ⟨⟨Tryz.func113, by kernel_rfl⟩, ⟨⟨Tryz.func177, by kernel_rfl⟩, trivial, trivial⟩, trivial⟩⟩⟩, ⟨⟨Tryz.func25, by kernel_rfl⟩, ⟨⟨Tryz.func41, by kernel_rfl⟩, ⟨⟨Tryz.func73, by kernel_rfl⟩, ⟨⟨Tryz.func137, by kernel_rfl⟩, trivial, trivial⟩, trivial⟩, ⟨⟨Tryz.func105, by kernel_rfl⟩, ⟨⟨Tryz.func169, by kernel_rfl⟩, trivial, trivial⟩, trivial⟩⟩, ⟨⟨Tryz.func57, by kernel_rfl⟩, ⟨⟨Tryz.func89, by kernel_rfl⟩, ⟨⟨Tryz.func153, by kernel_rfl⟩, trivial, trivial⟩, trivial⟩, ⟨⟨Tryz.func121, by kernel_rfl⟩, trivial, trivial⟩⟩⟩⟩, ⟨⟨Tryz.func13, by kernel_rfl⟩, ⟨⟨Tryz.func21, by kernel_rfl⟩, ⟨⟨Tryz.func37, by kernel_rfl⟩, ⟨⟨Tryz.func69, by kernel_rfl⟩, ⟨⟨Tryz.func133, by kernel_rfl⟩, trivial, trivial⟩, trivial⟩, ⟨⟨Tryz.func101, by kernel_rfl⟩, ⟨⟨Tryz.func165, by kernel_rfl⟩, trivial, trivial⟩, trivial⟩⟩, ⟨⟨Tryz.func53, by kernel_rfl⟩, ⟨⟨Tryz.func85, by kernel_rfl⟩, ⟨⟨Tryz.func149, by kernel_rfl⟩, trivial, trivial⟩, trivial⟩, ⟨⟨Tryz.func117, by kernel_rfl⟩, ⟨⟨Tryz.func181, by kernel_rfl⟩, trivial, trivial⟩, trivial⟩⟩⟩, ⟨⟨Tryz.func29, by kernel_rfl⟩, ⟨⟨Tryz.func45, by kernel_rfl⟩, ⟨⟨Tryz.func77, by kernel_rfl⟩, ⟨⟨Tryz.func141, by kernel_rfl⟩, trivial, trivial⟩, trivial⟩, ⟨⟨Tryz.func109, by kernel_rfl⟩, ⟨⟨Tryz.func173, by kernel_rfl⟩, trivial, trivial⟩, trivial⟩⟩, ⟨⟨Tryz.func61, by kernel_rfl⟩, ⟨⟨Tryz.func93, by kernel_rfl⟩, ⟨⟨Tryz.func157, by kernel_rfl⟩, trivial, trivial⟩, trivial⟩, ⟨⟨Tryz.func125, by kernel_rfl⟩, trivial, trivial⟩⟩⟩⟩⟩⟩, ⟨⟨Tryz.func2, by kernel_rfl⟩, ⟨⟨Tryz.func4, by kernel_rfl⟩, ⟨⟨Tryz.func8, by kernel_rfl⟩, ⟨⟨Tryz.func16, by kernel_rfl⟩, ⟨⟨Tryz.func32, by kernel_rfl⟩, ⟨⟨Tryz.func64, by kernel_rfl⟩, ⟨⟨Tryz.func128, by kernel_rfl⟩, trivial, trivial⟩, trivial⟩, ⟨⟨Tryz.func96, by kernel_rfl⟩, ⟨⟨Tryz.func160, by kernel_rfl⟩, trivial, trivial⟩, trivial⟩⟩, ⟨⟨Tryz.func48, by kernel_rfl⟩, ⟨⟨Tryz.func80, by kernel_rfl⟩, ⟨⟨Tryz.func144, by kernel_rfl⟩, trivial, trivial⟩, trivial⟩, ⟨⟨Tryz.func112, by kernel_rfl⟩, ⟨⟨Tryz.func176, by kernel_rfl⟩, trivial, trivial⟩, trivial⟩⟩⟩, ⟨⟨Tryz.func24, by kernel_rfl⟩, ⟨⟨Tryz.func40, by kernel_rfl⟩, ⟨⟨Tryz.func72, by kernel_rfl⟩, ⟨⟨Tryz.func136, by kernel_rfl⟩, trivial, trivial⟩, trivial⟩, ⟨⟨Tryz.func104, by kernel_rfl⟩, ⟨⟨Tryz.func168, by kernel_rfl⟩, trivial, trivial⟩, trivial⟩⟩, ⟨⟨Tryz.func56, by kernel_rfl⟩, ⟨⟨Tryz.func88, by kernel_rfl⟩, ⟨⟨Tryz.func152, by kernel_rfl⟩, trivial, trivial⟩, trivial⟩, ⟨⟨Tryz.func120, by kernel_rfl⟩, trivial, trivial⟩⟩⟩⟩, ⟨⟨Tryz.func12, by kernel_rfl⟩, ⟨⟨Tryz.func20, by kernel_rfl⟩, ⟨⟨Tryz.func36, by kernel_rfl⟩, ⟨⟨Tryz.func68, by kernel_rfl⟩, ⟨⟨Tryz.func132, by kernel_rfl⟩, trivial, trivial⟩, trivial⟩, ⟨⟨Tryz.func100, by kernel_rfl⟩, ⟨⟨Tryz.func164, by kernel_rfl⟩, trivial, trivial⟩, trivial⟩⟩, ⟨⟨Tryz.func52, by kernel_rfl⟩, ⟨⟨Tryz.func84, by kernel_rfl⟩, ⟨⟨Tryz.func148, by kernel_rfl⟩, trivial, trivial⟩, trivial⟩, ⟨⟨Tryz.func116, by kernel_rfl⟩, ⟨⟨Tryz.func180, by kernel_rfl⟩, trivial, trivial⟩, trivial⟩⟩⟩, ⟨⟨Tryz.func28, by kernel_rfl⟩, ⟨⟨Tryz.func44, by kernel_rfl⟩, ⟨⟨Tryz.func76, by kernel_rfl⟩, ⟨⟨Tryz.func140, by kernel_rfl⟩, trivial, trivial⟩, trivial⟩, ⟨⟨Tryz.func108, by kernel_rfl⟩, ⟨⟨Tryz.func172, by kernel_rfl⟩, trivial, trivial⟩, trivial⟩⟩, ⟨⟨Tryz.func60, by kernel_rfl⟩, ⟨⟨Tryz.func92, by kernel_rfl⟩, ⟨⟨Tryz.func156, by kernel_rfl⟩, trivial, trivial⟩, trivial⟩, ⟨⟨Tryz.func124, by kernel_rfl⟩, trivial, trivial⟩⟩⟩⟩⟩, ⟨⟨Tryz.func6, by kernel_rfl⟩, ⟨⟨Tryz.func10, by kernel_rfl⟩, ⟨⟨Tryz.func18, by kernel_rfl⟩, ⟨⟨Tryz.func34, by kernel_rfl⟩, ⟨⟨Tryz.func66, by kernel_rfl⟩, ⟨⟨Tryz.func130, by kernel_rfl⟩, trivial, trivial⟩, trivial⟩, ⟨⟨Tryz.func98, by kernel_rfl⟩, ⟨⟨Tryz.func162, by kernel_rfl⟩, trivial, trivial⟩, trivial⟩⟩, ⟨⟨Tryz.func50, by kernel_rfl⟩, ⟨⟨Tryz.func82, by kernel_rfl⟩, ⟨⟨Tryz.func146, by kernel_rfl⟩, trivial, trivial⟩, trivial⟩, ⟨⟨Tryz.func114, by kernel_rfl⟩, ⟨⟨Tryz.func178, by kernel_rfl⟩, trivial, trivial⟩, trivial⟩⟩⟩, ⟨⟨Tryz.func26, by kernel_rfl⟩, ⟨⟨Tryz.func42, by kernel_rfl⟩, ⟨⟨Tryz.func74, by kernel_rfl⟩, ⟨⟨Tryz.func138, by kernel_rfl⟩, trivial, trivial⟩, trivial⟩, ⟨⟨Tryz.func106, by kernel_rfl⟩, ⟨⟨Tryz.func170, by kernel_rfl⟩, trivial, trivial⟩, trivial⟩⟩, ⟨⟨Tryz.func58, by kernel_rfl⟩, ⟨⟨Tryz.func90, by kernel_rfl⟩, ⟨⟨Tryz.func154, by kernel_rfl⟩, trivial, trivial⟩, trivial⟩, ⟨⟨Tryz.func122, by kernel_rfl⟩, trivial, trivial⟩⟩⟩⟩, ⟨⟨Tryz.func14, by kernel_rfl⟩, ⟨⟨Tryz.func22, by kernel_rfl⟩, ⟨⟨Tryz.func38, by kernel_rfl⟩, ⟨⟨Tryz.func70, by kernel_rfl⟩, ⟨⟨Tryz.func134, by kernel_rfl⟩, trivial, trivial⟩, trivial⟩, ⟨⟨Tryz.func102, by kernel_rfl⟩, ⟨⟨Tryz.func166, by kernel_rfl⟩, trivial, trivial⟩, trivial⟩⟩, ⟨⟨Tryz.func54, by kernel_rfl⟩, ⟨⟨Tryz.func86, by kernel_rfl⟩, ⟨⟨Tryz.func150, by kernel_rfl⟩, trivial, trivial⟩, trivial⟩, ⟨⟨Tryz.func118, by kernel_rfl⟩, ⟨⟨Tryz.func182, by kernel_rfl⟩, trivial, trivial⟩, trivial⟩⟩⟩, ⟨⟨Tryz.func30, by kernel_rfl⟩, ⟨⟨Tryz.func46, by kernel_rfl⟩, ⟨⟨Tryz.func78, by kernel_rfl⟩, ⟨⟨Tryz.func142, by kernel_rfl⟩, trivial, trivial⟩, trivial⟩, ⟨⟨Tryz.func110, by kernel_rfl⟩, ⟨⟨Tryz.func174, by kernel_rfl⟩, trivial, trivial⟩, trivial⟩⟩, ⟨⟨Tryz.func62, by kernel_rfl⟩, ⟨⟨Tryz.func94, by kernel_rfl⟩, ⟨⟨Tryz.func158, by kernel_rfl⟩, trivial, trivial⟩, trivial⟩, ⟨⟨Tryz.func126, by kernel_rfl⟩, trivial, trivial⟩⟩⟩⟩⟩⟩⟩
theorem env_ok : EnvOk Tryz.prog env := by
 intro f fn h
 have := Tr.Za4d env_all f fn h
 simpa using this
end Go.Proofs.YtnocaehijdmkkaaGreat.Ev
end
