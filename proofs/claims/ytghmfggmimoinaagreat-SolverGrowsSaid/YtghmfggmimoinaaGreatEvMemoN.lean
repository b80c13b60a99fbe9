/- The small machine: calls that were run before, by what they came to. -/
import Derived.Test.YtghmfggmimoinaaGreatEvTop
namespace Go.Proofs.YtghmfggmimoinaaGreat.Ev
open Go Go.RowKit
mutual
def eqv : AV → AV → Bool
 | .bool a, .bool b => (match a, b with | true, true => true | false, false => true | _, _ => false)
 | .int k a, .int l b => (match decide (k = l) with | true => decide (a = b) | false => false)
 | .str a, .str b => decide (a.data.toList = b.data.toList)
 | .nilp, .nilp => true
 | .ptr a i, .ptr b j => (match Nat.beq a b with | true => Nat.beq i j | false => false)
 | .nils, .nils => true
 | .slice a i n u c, .slice b j m v d => (match Nat.beq a b, Nat.beq i j, Nat.beq n m, Nat.beq c d, u, v with | true, true, true, true, true, true => true | true, true, true, true, false, false => true | _, _, _, _, _, _ => false)
 | .tailS a i i' c, .tailS b j j' d => (match Nat.beq a b, Nat.beq i j, Nat.beq i' j', Nat.beq c d with | true, true, true, true => true | _, _, _, _ => false)
 | .nilm, .nilm => true
 | .map a, .map b => Nat.beq a b
 | .func f x c, .func g y d => (match Nat.beq f g, eqL x y with | true, true => eqL c d | _, _ => false)
 | .nilf, .nilf => true
 | .nili, .nili => true
 | .agg a, .agg b => eqL a b
 | .tup a, .tup b => eqL a b
 | _, _ => false
termination_by structural x => x
def eqL : List AV → List AV → Bool
 | [], [] => true
 | x :: l, y :: m => (match eqv x y with | true => eqL l m | false => false)
 | _, _ => false
termination_by structural x => x
end
mutual
theorem Zhz : ∀ a b : AV, eqv a b = true → a = b := by
 intro a b h
 cases a <;> cases b <;> simp only [eqv] at h <;> try rfl
 all_goals first | cases h | skip
 case bool.bool a b => cases a <;> cases b <;> first | rfl | cases h
 case int.int k a l b =>
  split at h
  ·rename_i hk
   rw [of_decide_eq_true hk, of_decide_eq_true h]
  ·cases h
 case str.str a b =>
  obtain ⟨⟨a⟩⟩ := a
  obtain ⟨⟨b⟩⟩ := b
  have h : a = b := of_decide_eq_true h
  rw [h]
 case ptr.ptr a i b j =>
  split at h
  ·rename_i hk
   rw [Nat.eq_of_beq_eq_true hk, Nat.eq_of_beq_eq_true h]
  ·cases h
 case slice.slice a i n u c b j m v d =>
  split at h
  ·rename_i h1 h2 h3 h4
   rw [Nat.eq_of_beq_eq_true h1, Nat.eq_of_beq_eq_true h2, Nat.eq_of_beq_eq_true h3, Nat.eq_of_beq_eq_true h4]
  ·rename_i h1 h2 h3 h4
   rw [Nat.eq_of_beq_eq_true h1, Nat.eq_of_beq_eq_true h2, Nat.eq_of_beq_eq_true h3, Nat.eq_of_beq_eq_true h4]
  ·cases h
 case tailS.tailS a i i' c b j j' d =>
  split at h
  ·rename_i h1 h2 h3 h4
   rw [Nat.eq_of_beq_eq_true h1, Nat.eq_of_beq_eq_true h2, Nat.eq_of_beq_eq_true h3, Nat.eq_of_beq_eq_true h4]
  ·cases h
 case map.map a b => rw [Nat.eq_of_beq_eq_true h]
 case func.func f x c g y d =>
  split at h
  ·rename_i h1 h2
   rw [Nat.eq_of_beq_eq_true h1, eqL_eq x y h2, eqL_eq c d h]
  ·cases h
 case agg.agg a b => rw [eqL_eq a b h]
 case tup.tup a b => rw [eqL_eq a b h]
theorem eqL_eq : ∀ a b : List AV, eqL a b = true → a = b
 | [], [], _ => rfl
 | [], _ :: _, h => by simp [eqL] at h
 | _ :: _, [], h => by simp [eqL] at h
 | x :: l, y :: m, h => by
  simp only [eqL] at h
  split at h
  ·rename_i q
   rw [Zhz x y q, eqL_eq l m h]
  ·cases h
end
def eqE : List (AV × AV × Nat) → List (AV × AV × Nat) → Bool
 | [], [] => true
 | x :: l, y :: m => match eqv x.1 y.1, eqv x.2.1 y.2.1, Nat.beq x.2.2 y.2.2 with
  | true, true, true => eqE l m
  | _, _, _ => false
 | _, _ => false
theorem eqE_eq : ∀ a b : List (AV × AV × Nat), eqE a b = true → a = b
 | [], [], _ => rfl
 | [], _ :: _, h => by simp [eqE] at h
 | _ :: _, [], h => by simp [eqE] at h
 | (x, y, n) :: l, (x', y', n') :: m, h => by
  simp only [eqE] at h
  split at h
  ·rename_i h1 h2 h3
   rw [Zhz _ _ h1, Zhz _ _ h2, Nat.eq_of_beq_eq_true h3, eqE_eq l m h]
  ·cases h
def eqN : Option Nat → Option Nat → Bool
 | none, none => true
 | some a, some b => Nat.beq a b
 | _, _ => false
theorem eqN_eq {a b : Option Nat} (h : eqN a b = true) : a = b := by
 cases a <;> cases b <;> simp only [eqN] at h <;> first | rfl | cases h | rw [Nat.eq_of_beq_eq_true h]
def eqO : AObj → AObj → Bool
 | .cells l t o, .cells m u p => match eqL l m, Nat.beq t u with
  | true, true => eqN o p
  | _, _ => false
 | .map e c, .map f d => match eqE e f with
  | true => Nat.beq c d
  | false => false
 | _, _ => false
theorem eqO_eq {a b : AObj} (h : eqO a b = true) : a = b := by
 cases a <;> cases b <;> simp only [eqO] at h <;> try cases h
 ·split at h
  ·rename_i h1 h2
   rw [eqL_eq _ _ h1, Nat.eq_of_beq_eq_true h2, eqN_eq h]
  ·cases h
 ·split at h
  ·rename_i h1
   rw [eqE_eq _ _ h1, Nat.eq_of_beq_eq_true h]
  ·cases h
def eqT : Tr AObj → Tr AObj → Bool
 | .nil, .nil => true
 | .node v l r, .node v' l' r' => match v, v' with
  | none, none => (match eqT l l' with | true => eqT r r' | false => false)
  | some a, some b => (match eqO a b, eqT l l' with | true, true => eqT r r' | _, _ => false)
  | _, _ => false
 | _, _ => false
theorem eqT_eq : ∀ a b : Tr AObj, eqT a b = true → a = b
 | .nil, .nil, _ => rfl
 | .nil, .node .., h => by simp [eqT] at h
 | .node .., .nil, h => by simp [eqT] at h
 | .node v l r, .node v' l' r', h => by
  simp only [eqT] at h
  cases v <;> cases v' <;> simp only [] at h <;> try cases h
  ·split at h
   ·rename_i h1
    rw [eqT_eq l l' h1, eqT_eq r r' h]
   ·cases h
  ·split at h
   ·rename_i h1 h2
    rw [eqO_eq h1, eqT_eq l l' h2, eqT_eq r r' h]
   ·cases h
def eqH (a b : Hp) : Bool := match Nat.beq a.next b.next with
 | true => eqT a.tr b.tr
 | false => false
theorem eqH_eq {a b : Hp} (h : eqH a b = true) : a = b := by
 unfold eqH at h
 split at h
 ·rename_i h1
  obtain ⟨t, n⟩ := a
  obtain ⟨t', n'⟩ := b
  have h1 : n = n' := Nat.eq_of_beq_eq_true h1
  have h2 : t = t' := eqT_eq _ _ h
  rw [h1, h2]
 ·cases h
def was (g : FuncId) (us : List AV) (q : Hp) (v : AV) (q' : Hp) : Cl := fun f vs h => match Nat.beq f g with
 | true => match eqL vs us with
  | true => match eqH h q with
   | true => some (v, q')
   | false => none
  | false => none
 | false => none
def cameTo (r : Option (AV × Hp)) (v : AV) (q : Hp) : Bool := match r with
 | some (v', q') => match eqv v' v with
  | true => eqH q' q
  | false => false
 | none => false
theorem was_ok {P : Program} {E : Env} (hE : EnvOk P E) {dr : Dr} (hdr : DrOk P dr) {orc : Cl} (ho : ClOk P orc) (k : Nat) {g : FuncId} {us : List AV} {q : Hp} {v : AV} {q' : Hp} (e : cameTo (evF P E (evC P E dr orc k) g us q) v q' = true) : ClOk P (orElse (was g us q v q') orc) := by
 refine Za7l ?_ ho
 intro f vs h u h' hx
 unfold was at hx
 split at hx <;> try cases hx
 rename_i h1
 split at hx <;> try cases hx
 rename_i h2
 split at hx <;> try cases hx
 rename_i h3
 obtain rfl := Nat.eq_of_beq_eq_true h1
 obtain rfl := eqL_eq _ _ h2
 obtain rfl := eqH_eq h3
 unfold cameTo at e
 split at e
 ·rename_i v₁ q₁ he
  split at e
  ·rename_i h4
   have a := Zhz _ _ h4
   have b := eqH_eq e
   subst a; subst b
   exact Za96 hE (Zx4 hE hdr ho k).1 f vs h v₁ q₁ he
  ·cases e
 ·cases e
theorem calls_of_cl {P : Program} {call : Cl} (hc : ClOk P call) {f : FuncId} {vs : List AV} {v : AV} {h' : Hp} {x : Value} (he : call f vs ⟨.nil, 1⟩ = some (v, h'))
  (hx : scal v = some x) (hw : wsL 1 vs = true) (s : Sg) (w : World) :
  Calls P f (concL s vs).toArray w fun e w' => e = .returned x ∧ Below w.heap.size w w' := by
 have := (hc f vs ⟨.nil, 1⟩ v h' he).2 (fun s' => s' = s) w (concL s vs).toArray ⟨s, rfl⟩
  (fun s' e => ⟨⟨fun i o hi => by simp [Tr.get] at hi, fun i j o o' hi => by simp [Tr.get] at hi, fun i o hi => by simp [Tr.get] at hi, fun i o hi => by simp [Tr.get] at hi⟩, by rw [e]⟩) hw
 refine this.mono ?_
 rintro e w' ⟨F', V, rfl, hE', hF'⟩
 obtain ⟨s', hs', hx'⟩ := hE'.to s rfl
 exact ⟨by rw [← (hF' s' hs').2, Zet hx], hx'.os, hx'.tape, hx'.output, hx'.size, fun b hb => hx'.frame b hb (fun i o hi => by simp [Tr.get] at hi)⟩
def orcN : Cl := fun _ _ _ => none
theorem orcN_ok {P : Program} : ClOk P orcN := by intro f vs h v h' e; cases e
end Go.Proofs.YtghmfggmimoinaaGreat.Ev
