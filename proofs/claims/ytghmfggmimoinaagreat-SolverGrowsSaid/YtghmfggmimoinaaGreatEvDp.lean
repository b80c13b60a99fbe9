/- The small machine: a region that draws comes to the same in every order. -/
import Derived.Test.YtghmfggmimoinaaGreatEvStage
namespace Go.Proofs.YtghmfggmimoinaaGreat.Ev
open Go Go.RowKit
theorem HRel.more' {s : Sg} {h h' : Hp} {w : World} (H : HRel s h w) (ht : h'.tr = h.tr) (hn : h.next ≤ h'.next) : HRel s h' w where
 obj i o hi := H.obj i o (ht ▸ hi)
 inj i j o o' hi hj := H.inj i j o o' (ht ▸ hi) (ht ▸ hj)
 lt i o hi := Nat.lt_of_lt_of_le (H.lt i o (ht ▸ hi)) hn
 wso i o hi := Zm7 hn (H.wso i o (ht ▸ hi))
def Pdg (ops : Array Oper) (pl : List PE) (m : Nat) (L : Nat → Bool) (t : Tmp) : Prop :=
 ∃ (x : Nat) (o : Oper) (l h : Nat), ops[x]? = some o ∧ pl[x]? = some (.p l h) ∧ l < m ∧ L x = false ∧ o.dst = some t
structure Inv (n : Nat) (ops : Array Oper) (pl : List PE) (F₀ : Fam) (h₀ : Hp) (w₀ : World) (m q : Nat) (L : Nat → Bool) (a : Act) (w : World) (st : St) (pd : Pend) (F : Fam) : Prop where
 ne : ∃ s₀, F₀ s₀
 size : a.tmps.size = n
 defers : a.defers = []
 free : ∀ s₀, F₀ s₀ → ∀ g : Sg, ∃ s, F s ∧ Ext s₀ h₀ w₀ s st.h w ∧ ∀ p ∈ pd, L p.1 = false → s p.2.1 = g p.2.1
 orig : ∀ s, F s → ∃ s₀, F₀ s₀ ∧ Ext s₀ h₀ w₀ s st.h w
 tmp : ∀ s, F s → ∀ t v, st.T.get t = some v → ¬ Pdg ops pl m L t → a.tmps[t]? = some (conc s v)
 all : ∀ t v, st.T.get t = some v → t < n ∧ ws st.h.next v = true
 H : ∀ s, F s → HRel s st.h w
 low : h₀.next ≤ st.h.next
 pge : ∀ p ∈ pd, h₀.next ≤ p.2.1
 pid : ∀ p ∈ pd, p.2.1 < st.h.next ∧ st.h.tr.get p.2.1 = none ∧ wsO st.h.next p.2.2 = true ∧ ∃ lo hi, pl[p.1]? = some (.p lo hi) ∧ lo < m ∧ q ≤ hi
 pob : ∀ p ∈ pd, L p.1 = true → ∀ s, F s → ORel s p.2.1 p.2.2 w.heap[(s p.2.1).1]? ∧ w₀.heap.size ≤ (s p.2.1).1 ∧ ∀ j o, st.h.tr.get j = some o → (s j).1 ≠ (s p.2.1).1
 pinj : ∀ p ∈ pd, ∀ p' ∈ pd, L p.1 = true → L p'.1 = true → ∀ s, F s → (s p.2.1).1 = (s p'.2.1).1 → p.2.1 = p'.2.1
 puni : ∀ p ∈ pd, ∀ p' ∈ pd, p.1 = p'.1 ∨ p.2.1 = p'.2.1 → p = p'
 down : ∀ (z : Nat) (o : Oper), ops[z]? = some o → L z = true → ∀ e ∈ edges o, L e = true
 wl : ∀ (i j : Nat), pl[i]? = some (.w j) → (L i = true ↔ j ≤ q)
 lo : ∀ (i l h : Nat), pl[i]? = some (.p l h) → L i = true → l ≤ q
 hi : ∀ (i l h : Nat), pl[i]? = some (.p l h) → h < q → L i = true
section
variable {n : Nat} {ops : Array Oper} {pl : List PE} {F₀ : Fam} {h₀ : Hp} {w₀ : World} {q : Nat} {L : Nat → Bool} {a : Act} {w : World} {st : St} {pd : Pend} {F : Fam}
theorem Inv.enter {P : Program} {st' : St} {pd' : Pend} (I : Inv n ops pl F₀ h₀ w₀ q q L a w st pd F) (hun : ∀ (i l h : Nat), pl[i]? = some (.p l h) → q ≤ l → L i = false)
  (e : Zmz P n ops q ops.toList pl 0 st pd = some (st', pd')) :
  Inv n ops pl F₀ h₀ w₀ (q + 1) q L a w st' pd' (fun s => ∃ s₁, F s₁ ∧ ∀ i, i < st.h.next → s i = s₁ i) := by
 obtain ⟨new, rfl, S⟩ := Za25 e I.all
 have hHcl : ∀ s s₁, F s₁ → (∀ i, i < st.h.next → s i = s₁ i) → HRel s st'.h w := by
  intro s s₁ h1 hs
  exact ((I.H s₁ h1).congr hs).more' S.tr S.next
 have hlt : ∀ s₁, F s₁ → ∀ i o, st.h.tr.get i = some o → i < st.h.next := fun s₁ h1 i o hi => (I.H s₁ h1).lt i o hi
 have hEcl : ∀ s₀ s s₁, F s₁ → Ext s₀ h₀ w₀ s₁ st.h w → (∀ i, i < st.h.next → s i = s₁ i) → Ext s₀ h₀ w₀ s st'.h w := by
  intro s₀ s s₁ h1 hE hs
  refine (hE.congr (hlt s₁ h1) hs).relay S.next ?_
  intro j o hj
  rw [S.tr] at hj
  exact .inl ⟨o, hj⟩
 have hnew : ∀ p ∈ new, L p.1 = false := by
  intro p hp
  obtain ⟨_, _, _, x, h, hx, hpx⟩ := S.ids p hp
  exact hun p.1 q h (by rw [hx]; simpa using hpx) (Nat.le_refl _)
 refine ⟨I.ne, I.size, I.defers, ?_, ?_, ?_, S.all, fun s ⟨s₁, h1, hs⟩ => hHcl s s₁ h1 hs, Nat.le_trans I.low S.next, ?_, ?_, ?_, ?_, ?_, I.down, I.wl, I.lo, I.hi⟩
 ·intro s₀ hs₀ g
  obtain ⟨s₁, h1, hE, hg⟩ := I.free s₀ hs₀ g
  refine ⟨fun i => if i < st.h.next then s₁ i else g i, ⟨s₁, h1, fun i hi => by simp [hi]⟩, hEcl s₀ _ s₁ h1 hE (fun i hi => by simp [hi]), ?_⟩
  intro p hp hL
  simp only []
  rcases List.mem_append.1 hp with hp | hp
  ·have := (S.ids p hp).1
   rw [if_neg (by omega)]
  ·rw [if_pos (I.pid p hp).1]; exact hg p hp hL
 ·rintro s ⟨s₁, h1, hs⟩
  obtain ⟨s₀, hs₀, hE⟩ := I.orig s₁ h1
  exact ⟨s₀, hs₀, hEcl s₀ s s₁ h1 hE hs⟩
 ·rintro s ⟨s₁, h1, hs⟩ t v hv hnp
  have hsame : st'.T.get t = st.T.get t := by
   refine S.same t ?_
   intro x o h ho hp hd
   exact hnp ⟨x, o, q, h, by simpa using ho, hp, by omega, hun x q h hp (Nat.le_refl _), hd⟩
  rw [hsame] at hv
  have hnp' : ¬ Pdg ops pl q L t := fun ⟨x, o, l, h, p1, p2, p3, p4, p5⟩ => hnp ⟨x, o, l, h, p1, p2, by omega, p4, p5⟩
  rw [Zlm hs v (I.all t v hv).2]
  exact I.tmp s₁ h1 t v hv hnp'
 ·intro p hp
  rcases List.mem_append.1 hp with hp | hp
  ·exact Nat.le_trans I.low (S.ids p hp).1
  ·exact I.pge p hp
 ·intro p hp
  rcases List.mem_append.1 hp with hp | hp
  ·obtain ⟨p1, p2, p3, x, h, hx, hpx⟩ := S.ids p hp
   refine ⟨p2, ?_, p3, q, h, by rw [hx]; simpa using hpx, by omega, ?_⟩
   ·rw [S.tr]
    cases hg : st.h.tr.get p.2.1 with
    | none => rfl
    | some o =>
     exfalso
     obtain ⟨s₀, hs₀⟩ := I.ne
     obtain ⟨s₁, h1, _⟩ := I.free s₀ hs₀ (fun _ => (0, 0))
     have := hlt s₁ h1 _ _ hg
     omega
   ·rcases Nat.lt_or_ge h q with r | r
    ·have h1 := I.hi p.1 q h (by rw [hx]; simpa using hpx) r
     rw [hnew p hp] at h1; cases h1
    ·exact r
  ·obtain ⟨p1, p2, p3, lo, hi, p4, p5, p6⟩ := I.pid p hp
   exact ⟨Nat.lt_of_lt_of_le p1 S.next, by rw [S.tr]; exact p2, Zm7 S.next p3, lo, hi, p4, by omega, p6⟩
 ·rintro p hp hL s ⟨s₁, h1, hs⟩
  rcases List.mem_append.1 hp with hp | hp
  ·rw [hnew p hp] at hL; cases hL
  ·obtain ⟨p1, p2, p3, _⟩ := I.pid p hp
   obtain ⟨r1, r2, r3⟩ := I.pob p hp hL s₁ h1
   rw [hs p.2.1 p1]
   refine ⟨r1.congr hs p1 p3, r2, ?_⟩
   intro j o hj
   rw [S.tr] at hj
   rw [hs j (hlt s₁ h1 j o hj)]
   exact r3 j o hj
 ·rintro p hp p' hp' hL hL' s ⟨s₁, h1, hs⟩ he
  rcases List.mem_append.1 hp with hp | hp
  ·rw [hnew p hp] at hL; cases hL
  ·rcases List.mem_append.1 hp' with hp' | hp'
   ·rw [hnew p' hp'] at hL'; cases hL'
   ·rw [hs _ (I.pid p hp).1, hs _ (I.pid p' hp').1] at he
    exact I.pinj p hp p' hp' hL hL' s₁ h1 he
 ·intro p hp p' hp' hpp
  have cross : ∀ p ∈ new, ∀ p' ∈ pd, ¬ (p.1 = p'.1 ∨ p.2.1 = p'.2.1) := by
   rintro p hp p' hp' (r | r)
   ·obtain ⟨_, _, _, x, h, hx, hpx⟩ := S.ids p hp
    obtain ⟨_, _, _, lo, hi, p4, p5, _⟩ := I.pid p' hp'
    grind
   ·have := (S.ids p hp).1
    have := (I.pid p' hp').1
    omega
  rcases List.mem_append.1 hp with hp | hp <;> rcases List.mem_append.1 hp' with hp' | hp'
  ·exact S.uni p hp p' hp' hpp
  ·exact absurd hpp (cross p hp p' hp')
  ·exact absurd (hpp.imp Eq.symm Eq.symm) (cross p' hp' p hp)
  ·exact I.puni p hp p' hp' hpp
theorem Zld : ∀ {l : List Operand} {t : Tmp}, Operand.tmp t ∈ l → t ∈ tmpsOf l
 | [], t, h => by cases h
 | x :: l, t, h => by
  rcases List.mem_cons.1 h with rfl | h2
  ·simp [tmpsOf]
  ·have := Zld h2
   cases x <;> simp [tmpsOf, this]
theorem Zj0 {o : Oper} {t : Tmp} (h : Operand.tmp t ∈ o.op.operands) : t ∈ looks ops.toList o := by
 have := Zld (Array.mem_toList_iff.2 h)
 unfold looks
 grind
theorem Zhr {o oj : Oper} {t : Tmp} {j : Nat} {b : Bool} (h : o.guard = some (j, b)) (hj : ops[j]? = some oj) (hd : oj.dst = some t) : t ∈ looks ops.toList o := by
 unfold looks
 have hj' : nth ops.toList j = some oj := by rw [Zcg]; simpa using hj
 simp [h, hj', hd]
theorem Inv.sees {m k : Nat} (I : Inv n ops pl F₀ h₀ w₀ m q L a w st pd F) (hP : Zks ops pl k) {i : Nat} {o : Oper} (ho : ops[i]? = some o) (hr : ∀ e ∈ edges o, L e = true)
  {t : Tmp} (ht : t ∈ looks ops.toList o) : ¬ Pdg ops pl m L t := by
 rintro ⟨x, ox, l, h, p1, p2, p3, p4, p5⟩
 have := hr x (hP.fresh i o ho t ht x ox l h p1 p2 p5)
 rw [p4] at this; cases this
theorem Inv.stage {k : Nat} (I : Inv n ops pl F₀ h₀ w₀ (q + 1) q L a w st pd F) (hP : Zks ops pl k) {i : Nat} {o : Oper} (ho : ops[i]? = some o) (hr : ∀ e ∈ edges o, L e = true) (hL : L i = false) {l h : Nat}
  (hp : pl[i]? = some (.p l h)) : l ≤ q ∧ q ≤ h := by
 constructor
 ·rcases hP.lo i o l h ho hp with r | ⟨e, pe, h1, h2, h3⟩
  ·omega
  ·have hLe := hr e h1
   cases pe with
   | w j => have := (I.wl e j h2).1 hLe; simp only [PE.num] at h3; omega
   | p l' h' => have := I.lo e l' h' h2 hLe; simp only [PE.num] at h3; omega
 ·rcases Nat.lt_or_ge h q with r | r
  ·have := I.hi i l h hp r; rw [hL] at this; cases this
  ·exact r
theorem Zj6 {i j : Nat} (h : L j = true) : mark L i j = true := by unfold mark; split <;> simp [h]
theorem Zh3 {i j : Nat} (h : mark L i j = false) : L j = false ∧ j ≠ i := by
 unfold mark at h
 grind
theorem Inv.ran {F' : Fam} {w' : World} {i : Nat} {o : Oper} {l h : Nat} {V : Value} (I : Inv n ops pl F₀ h₀ w₀ (q + 1) q L a w st pd F) (ho : ops[i]? = some o) (hr : ∀ e ∈ edges o, L e = true)
  (hp : pl[i]? = some (.p l h)) (hl : l ≤ q) (hsub : ∀ s, F' s → F s) (hV : ∀ s, F' s → ∀ t, o.dst = some t → ∃ v, st.T.get t = some v ∧ conc s v = V)
  (free : ∀ s₀, F₀ s₀ → ∀ g : Sg, ∃ s, F' s ∧ Ext s₀ h₀ w₀ s st.h w' ∧ ∀ p ∈ pd, mark L i p.1 = false → s p.2.1 = g p.2.1)
  (orig : ∀ s, F' s → ∃ s₀, F₀ s₀ ∧ Ext s₀ h₀ w₀ s st.h w') (H : ∀ s, F' s → HRel s st.h w')
  (pob : ∀ p ∈ pd, mark L i p.1 = true → ∀ s, F' s → ORel s p.2.1 p.2.2 w'.heap[(s p.2.1).1]? ∧ w₀.heap.size ≤ (s p.2.1).1 ∧ ∀ j o, st.h.tr.get j = some o → (s j).1 ≠ (s p.2.1).1)
  (pinj : ∀ p ∈ pd, ∀ p' ∈ pd, mark L i p.1 = true → mark L i p'.1 = true → ∀ s, F' s → (s p.2.1).1 = (s p'.2.1).1 → p.2.1 = p'.2.1) :
  Inv n ops pl F₀ h₀ w₀ (q + 1) q (mark L i) (a.put o.dst V) w' st pd F' := by
 refine ⟨I.ne, ?_, ?_, free, orig, ?_, I.all, H, I.low, I.pge, I.pid, pob, pinj, I.puni, ?_, ?_, ?_, fun j l h hj hh => Zj6 (I.hi j l h hj hh)⟩
 ·cases hd : o.dst <;> simp [Act.put, hd, I.size]
 ·cases hd : o.dst <;> simp [Act.put, hd, I.defers]
 ·intro s hs t v hv hnp
  by_cases hd : o.dst = some t
  ·obtain ⟨v', hv', hc⟩ := hV s hs t hd
   rw [hv] at hv'
   simp at hv'; subst hv'
   simp only [Act.put, hd, Array.getElem?_setIfInBounds, if_true]
   rw [if_pos (by rw [I.size]; exact (I.all t v hv).1), hc]
  ·have hnp' : ¬ Pdg ops pl (q + 1) L t := by
    rintro ⟨x, ox, l', h', p1, p2, p3, p4, p5⟩
    refine hnp ⟨x, ox, l', h', p1, p2, p3, ?_, p5⟩
    unfold mark
    grind
   have := I.tmp s (hsub s hs) t v hv hnp'
   cases hd' : o.dst with
   | none => exact this
   | some d =>
    simp only [Act.put, Array.getElem?_setIfInBounds]
    rw [if_neg (fun e => hd (by rw [hd', e]))]
    exact this
 ·intro z oz hz hLz e he
  unfold mark at hLz
  split at hLz
  ·rename_i e1
   subst e1
   rw [ho] at hz
   simp at hz; subst hz
   exact Zj6 (hr e he)
  ·exact Zj6 (I.down z oz hz hLz e he)
 ·intro j x hj
  have hne : j ≠ i := by intro e; subst e; rw [hp] at hj; simp at hj
  unfold mark
  rw [if_neg hne]
  exact I.wl j x hj
 ·intro j l' h' hj hLj
  unfold mark at hLj
  split at hLj
  ·rename_i e
   subst e
   rw [hp] at hj
   simp at hj
   omega
  ·exact I.lo j l' h' hj hLj
theorem Zud {T : Tr AV} {d : Option Tmp} {v : AV} (h : dstIs T d v = true) {t : Tmp} (hd : d = some t) : T.get t = some v := by
 subst hd
 simp only [dstIs] at h
 split at h <;> try cases h
 rename_i u hu
 rw [hu, AV.Zhz h]
theorem Inv.step {P : Program} {k : Nat} (I : Inv n ops pl F₀ h₀ w₀ (q + 1) q L a w st pd F) (hP : Zks ops pl k) {i : Nat} {o : Oper} (ho : ops[i]? = some o) (hr : ∀ e ∈ edges o, L e = true) (hL : L i = false)
  {l h : Nat} (hp : pl[i]? = some (.p l h)) (hc : Za2k P ops st pd o i = true) {K : Act → World → Prop} {Q : Exit → Act → World → Prop}
  (hK : ∀ a' w' F', Inv n ops pl F₀ h₀ w₀ (q + 1) q (mark L i) a' w' st pd F' → K a' w') : wpOp P ops Q i K a w := by
 obtain ⟨hlq, hqh⟩ := I.stage hP ho hr hL hp
 obtain ⟨s₀, hs₀⟩ := I.ne
 obtain ⟨s₁, hs₁, _⟩ := I.free s₀ hs₀ (fun _ => (0, 0))
 have hO : ∀ s, F s → Opnd s st.T a o.op := fun s hs => Zso fun t ht u hu => I.tmp s hs t u hu (I.sees hP ho hr (Zj0 ht))
 have hW : ∀ {b}, Zqs ops st.T o = some b → Region.wanted o (yielded ops a.tmps) = b := fun hw =>
  Zqr hw (fun j b oj t v hg hj hd hv => I.tmp s₁ hs₁ t v hv (I.sees hP ho hr (Zhr hg hj hd)))
 have mk : ∀ {p : Nat × Nat × AObj}, findP i pd = none → p ∈ pd → mark L i p.1 = L p.1 := by
  intro p hf hp'
  unfold mark
  rw [if_neg (Zyt hf p hp')]
 have quiet : ∀ V, findP i pd = none → (∀ s, F s → ∀ t, o.dst = some t → ∃ v, st.T.get t = some v ∧ conc s v = V) → K (a.put o.dst V) w := by
  intro V hf hV
  refine hK _ w F (I.ran ho hr hp hlq (fun s hs => hs) hV ?_ I.orig I.H ?_ ?_)
  ·intro s₀ hs₀ g
   obtain ⟨s, h1, h2, h3⟩ := I.free s₀ hs₀ g
   exact ⟨s, h1, h2, fun p hp' hm => h3 p hp' (by rw [mk hf hp'] at hm; exact hm)⟩
  ·intro p hp' hm
   rw [mk hf hp'] at hm
   exact I.pob p hp' hm
  ·intro p hp' p' hp'' hm hm'
   rw [mk hf hp'] at hm
   rw [mk hf hp''] at hm'
   exact I.pinj p hp' p' hp'' hm hm'
 unfold wpOp
 rw [ho]
 simp only []
 unfold Za2k at hc
 split at hc
 ·rename_i hw
  rw [hW hw]
  simp only [Bool.false_eq_true, if_false]
  split at hc <;> try cases hc
  rename_i hf
  exact quiet undef hf (fun s hs t ht => ⟨_, Zud hc ht, rfl⟩)
 ·rename_i hw
  rw [hW hw]
  simp only [if_true]
  left
  unfold Oper.wp
  split at hc
  ·rename_i id ob hf
   have hmem := Za22 hf
   split at hc <;> try cases hc
   rename_i ob' v ha
   split at hc <;> try cases hc
   rename_i hob
   have hob := objEq_eq hob
   subst hob
   obtain ⟨s₂, hs₂, hE₂, hg₂⟩ := I.free s₀ hs₀ (fun _ => (w.heap.size, 0))
   have hid : s₂ id = (w.heap.size, 0) := hg₂ _ hmem hL
   obtain ⟨x₂, hrun, hor⟩ := Za0g ha (hO s₂ hs₂) w hid
   rw [hrun]
   have each : ∀ s, F s → s id = (w.heap.size, 0) → conc s v = conc s₂ v ∧ ORel s id ob (some x₂) := by
    intro s hs hsi
    obtain ⟨x, hrun', hor'⟩ := Za0g ha (hO s hs) w hsi
    rw [hrun] at hrun'
    simp only [Result.ok.injEq, Next.value.injEq, World.mk.injEq, Array.push_eq_push, and_true, true_and] at hrun'
    obtain ⟨q1, rfl⟩ := hrun'
    exact ⟨q1.symm, hor'⟩
   have other : ∀ p ∈ pd, p.1 ≠ i → p.2.1 ≠ id := fun p hp' hne e => hne (congrArg Prod.fst (I.puni p hp' _ hmem (.inr e)))
   have old : ∀ p ∈ pd, L p.1 = true → ∀ s, F s → (s p.2.1).1 < w.heap.size := by
    intro p hp' hLp s hs
    obtain ⟨y, hy⟩ := (I.pob p hp' hLp s hs).1.there
    rcases Nat.lt_or_ge (s p.2.1).1 w.heap.size with r | r
    ·exact r
    ·rw [Array.getElem?_eq_none r] at hy; cases hy
   have split_ : ∀ p ∈ pd, mark L i p.1 = true → p = (i, id, ob) ∨ (L p.1 = true ∧ p.1 ≠ i) := by
    intro p hp' hm
    unfold mark at hm
    split at hm
    ·rename_i e; exact .inl (I.puni p hp' _ hmem (.inl e))
    ·rename_i e; exact .inr ⟨hm, e⟩
   refine hK _ _ (fun s => F s ∧ s id = (w.heap.size, 0)) (I.ran ho hr hp hlq (fun s hs => hs.1) ?_ ?_ ?_ ?_ ?_ ?_)
   ·intro s hs t ht
    exact ⟨v, Zud hc ht, (each s hs.1 hs.2).1⟩
   ·intro s₀' hs₀' g
    obtain ⟨s, h1, h2, h3⟩ := I.free s₀' hs₀' (upd g id (w.heap.size, 0))
    refine ⟨s, ⟨h1, by rw [h3 _ hmem hL]; exact Zbb _ _ _⟩, h2.push x₂, ?_⟩
    intro p hp' hm
    obtain ⟨hLp, hne⟩ := Zh3 hm
    rw [h3 p hp' hLp]
    simp only [upd]
    rw [if_neg (other p hp' hne)]
   ·rintro s ⟨hs, _⟩
    obtain ⟨s₀', h1, h2⟩ := I.orig s hs
    exact ⟨s₀', h1, h2.push x₂⟩
   ·rintro s ⟨hs, _⟩; exact (I.H s hs).push x₂
   ·rintro p hp' hm s ⟨hs, hsi⟩
    rcases split_ p hp' hm with rfl | ⟨hLp, hne⟩
    ·rw [hsi]
     refine ⟨?_, ?_, ?_⟩
     ·show ORel s id ob (w.heap.push x₂)[w.heap.size]?
      simpa using (each s hs hsi).2
     ·obtain ⟨_, _, hE⟩ := I.orig s hs; exact hE.size
     ·intro j o' hj
      have := (I.H s hs).bound hj
      show (s j).1 ≠ w.heap.size
      omega
    ·obtain ⟨r1, r2, r3⟩ := I.pob p hp' hLp s hs
     refine ⟨?_, r2, r3⟩
     show ORel s p.2.1 p.2.2 (w.heap.push x₂)[(s p.2.1).1]?
     have := old p hp' hLp s hs
     rw [Array.getElem?_push, if_neg (by omega)]; exact r1
   ·rintro p hp' p' hp'' hm hm' s ⟨hs, hsi⟩ he
    rcases split_ p hp' hm with rfl | ⟨hLp, hne⟩ <;> rcases split_ p' hp'' hm' with rfl | ⟨hLp', hne'⟩
    ·rfl
    ·have := old p' hp'' hLp' s hs
     rw [hsi] at he; simp only [] at he; omega
    ·have := old p hp' hLp s hs
     rw [hsi] at he; simp only [] at he; omega
    ·exact I.pinj p hp' p' hp'' hLp hLp' s hs he
  ·rename_i hf
   split at hc <;> try cases hc
   rename_i v hv
   have h₁ := Zlk hv (hO s₁ hs₁) (I.H s₁ hs₁)
   rw [h₁]
   refine quiet (conc s₁ v) hf ?_
   intro s hs t ht
   refine ⟨v, Zud hc ht, ?_⟩
   have h₂ := Zlk hv (hO s hs) (I.H s hs)
   rw [h₁] at h₂
   simp only [Result.ok.injEq, Next.value.injEq, and_true] at h₂
   exact h₂.symm
 ·cases hc
end
end Go.Proofs.YtghmfggmimoinaaGreat.Ev
