/- The small machine: a region that draws, whole. -/
import Derived.Test.YtghmfggmimoinaaGreatEvDp
namespace Go.Proofs.YtghmfggmimoinaaGreat.Ev
open Go Go.RowKit
section
variable {n : Nat} {ops : Array Oper} {pl : List PE} {F₀ : Fam} {h₀ : Hp} {w₀ : World} {q : Nat} {L : Nat → Bool} {a : Act} {w : World} {st : St} {pd : Pend} {F : Fam}
theorem Inv.due {k m : Nat} (I : Inv n ops pl F₀ h₀ w₀ m q L a w st pd F) (hP : Zks ops pl k) {i : Nat} {o : Oper} (ho : ops[i]? = some o) (hr : ∀ e ∈ edges o, L e = true)
  (hw : pl[i]? = some (.w (q + 1))) : ∀ d (x l h : Nat), ops.size ≤ x + d → pl[x]? = some (.p l h) → h ≤ q → L x = true := by
 have hk : q + 1 ≤ k := (hP.w i o (q + 1) ho hw).2.1
 intro d
 induction d with
 | zero =>
  intro x l h hx hp _
  have : x < pl.length := by grind
  rw [hP.len] at this; omega
 | succ d ih =>
  intro x l h hx hp hh
  rcases hP.hi x l h hp with r | ⟨z, oz, pe, h1, h2, h3, h4⟩
  ·omega
  ·have hxz := hP.below z oz h1 x h3
   have hz : L z = true ∨ z = i := by
    rcases h4 with ⟨j, rfl, hj⟩ | ⟨l', h', rfl, hh'⟩
    ·rcases Nat.lt_or_ge q j with r | r
     ·have : j = q + 1 := by omega
      subst this
      exact .inr (hP.uniq z i _ h2 hw)
     ·exact .inl ((I.wl z j h2).2 r)
    grind
   rcases hz with hz | rfl
   ·exact I.down z oz h1 hz x h3
   grind
theorem Inv.lay {m : Nat} {pd' : Pend} {h' : Hp} (I : Inv n ops pl F₀ h₀ w₀ m q L a w st pd F) (hdue : ∀ p ∈ pd, (∃ lo hi, pl[p.1]? = some (.p lo hi) ∧ hi ≤ q) → L p.1 = true)
  (e : Zsn pl q pd st.h = some (pd', h')) :
  Inv n ops pl F₀ h₀ w₀ m q L a w ⟨st.T, h'⟩ pd' F ∧ ∀ p ∈ pd', ∃ lo hi, pl[p.1]? = some (.p lo hi) ∧ q < hi := by
 obtain ⟨e1, e2, e3⟩ := Zus e
 have hE : ∀ s₀ s, F s → Ext s₀ h₀ w₀ s st.h w → Ext s₀ h₀ w₀ s h' w := by
  intro s₀ s hs hE
  refine hE.relay (by rw [e1]; exact Nat.le_refl _) ?_
  intro j o hj
  rcases e2 j o hj with r | ⟨p, hp, hd, rfl, rfl⟩
  ·exact .inl ⟨o, r⟩
  ·exact .inr ⟨(I.pob p hp (hdue p hp hd) s hs).2.1, I.pge p hp⟩
 have hnd : ∀ p ∈ pd', ∀ p' ∈ pd, (∃ lo hi, pl[p'.1]? = some (.p lo hi) ∧ hi ≤ q) → p.2.1 ≠ p'.2.1 := by
  rintro p hp p' hp' ⟨lo, hi, h1, h2⟩ heq
  have := I.puni p (e3 p hp).1 p' hp' (.inr heq)
  subst this
  obtain ⟨_, lo', hi', h3, h4⟩ := e3 p hp
  rw [h1] at h3; simp at h3; omega
 refine ⟨⟨I.ne, I.size, I.defers, ?_, ?_, I.tmp, ?_, ?_, by rw [e1]; exact I.low, fun p hp => I.pge p (e3 p hp).1, ?_, ?_, ?_, ?_, I.down, I.wl, I.lo, I.hi⟩, fun p hp => (e3 p hp).2⟩
 ·intro s₀ hs₀ g
  obtain ⟨s, h1, h2, h3⟩ := I.free s₀ hs₀ g
  exact ⟨s, h1, hE s₀ s h1 h2, fun p hp => h3 p (e3 p hp).1⟩
 ·intro s hs
  obtain ⟨s₀, h1, h2⟩ := I.orig s hs
  exact ⟨s₀, h1, hE s₀ s hs h2⟩
 ·intro t v hv; rw [e1]; exact I.all t v hv
 ·intro s hs
  have H := I.H s hs
  refine ⟨?_, ?_, ?_, ?_⟩
  ·intro j o hj
   rcases e2 j o hj with r | ⟨p, hp, hd, rfl, rfl⟩
   ·exact H.obj j o r
   ·exact (I.pob p hp (hdue p hp hd) s hs).1
  ·intro j j' o o' hj hj' he
   rcases e2 j o hj with r | ⟨p, hp, hd, rfl, rfl⟩ <;> rcases e2 j' o' hj' with r' | ⟨p', hp', hd', rfl, rfl⟩
   ·exact H.inj j j' o o' r r' he
   ·exact absurd he ((I.pob p' hp' (hdue p' hp' hd') s hs).2.2 j o r)
   ·exact absurd he.symm ((I.pob p hp (hdue p hp hd) s hs).2.2 j' o' r')
   ·exact I.pinj p hp p' hp' (hdue p hp hd) (hdue p' hp' hd') s hs he
  ·intro j o hj
   rw [e1]
   rcases e2 j o hj with r | ⟨p, hp, hd, rfl, rfl⟩
   ·exact H.lt j o r
   ·exact (I.pid p hp).1
  ·intro j o hj
   rw [e1]
   rcases e2 j o hj with r | ⟨p, hp, hd, rfl, rfl⟩
   ·exact H.wso j o r
   ·exact (I.pid p hp).2.2.1
 ·intro p hp
  obtain ⟨p1, p2, p3, p4⟩ := I.pid p (e3 p hp).1
  refine ⟨by rw [e1]; exact p1, ?_, by rw [e1]; exact p3, p4⟩
  cases hg : h'.tr.get p.2.1 with
  | none => rfl
  | some o =>
   exfalso
   rcases e2 _ o hg with r | ⟨p', hp', hd, he, _⟩
   ·rw [p2] at r; cases r
   ·exact hnd p hp p' hp' hd he
 ·intro p hp hL s hs
  obtain ⟨r1, r2, r3⟩ := I.pob p (e3 p hp).1 hL s hs
  refine ⟨r1, r2, ?_⟩
  intro j o hj he
  rcases e2 j o hj with r | ⟨p', hp', hd, rfl, rfl⟩
  ·exact r3 j o r he
  ·exact hnd p hp p' hp' hd (I.pinj p' hp' p (e3 p hp).1 (hdue p' hp' hd) hL s hs he).symm
 ·intro p hp p' hp' hL hL' s hs he
  exact I.pinj p (e3 p hp).1 p' (e3 p' hp').1 hL hL' s hs he
 ·intro p hp p' hp' he
  exact I.puni p (e3 p hp).1 p' (e3 p' hp').1 he
theorem Inv.write {P : Program} {call : Cl} (hcl : ClOk P call) {k : Nat} (I : Inv n ops pl F₀ h₀ w₀ (q + 1) q L a w st pd F) (hP : Zks ops pl k) {i : Nat} {o : Oper} (ho : ops[i]? = some o)
  (hr : ∀ e ∈ edges o, L e = true) (hw : pl[i]? = some (.w (q + 1))) {st' : St} (e : Zyv P call n ops o st = some st') (hgt : ∀ p ∈ pd, ∃ lo hi, pl[p.1]? = some (.p lo hi) ∧ q < hi)
  {K : Act → World → Prop} {Q : Exit → Act → World → Prop}
  (hK : ∀ a' w' F', Inv n ops pl F₀ h₀ w₀ (q + 1) (q + 1) (mark L i) a' w' st' pd F' → (∀ (i' l h : Nat), pl[i']? = some (.p l h) → q + 1 ≤ l → mark L i i' = false) → K a' w') : wpOp P ops Q i K a w := by
 obtain ⟨s₀, hs₀⟩ := I.ne
 obtain ⟨s₁, hs₁, _⟩ := I.free s₀ hs₀ (fun _ => (0, 0))
 have hO : ∀ s, F s → Opnd s st.T a o.op := fun s hs => Zso fun t ht u hu => I.tmp s hs t u hu (I.sees hP ho hr (Zj0 ht))
 have hW : ∀ {b}, Zqs ops st.T o = some b → Region.wanted o (yielded ops a.tmps) = b := fun hw =>
  Zqr hw (fun j b oj t v hg hj hd hv => I.tmp s₁ hs₁ t v hv (I.sees hP ho hr (Zhr hg hj hd)))
 have hdue := I.due hP ho hr hw
 have notI : ∀ (j l h : Nat), pl[j]? = some (.p l h) → j ≠ i := by intro j l h hj e; subst e; rw [hw] at hj; cases hj
 have mkp : ∀ p ∈ pd, mark L i p.1 = L p.1 := by
  intro p hp
  obtain ⟨lo, hi, h1, _⟩ := hgt p hp
  unfold mark
  rw [if_neg (notI p.1 lo hi h1)]
 have hun : ∀ (i' l h : Nat), pl[i']? = some (.p l h) → q + 1 ≤ l → mark L i i' = false := by
  intro i' l h hp hl
  unfold mark
  rw [if_neg (notI i' l h hp)]
  cases hx : L i' with
  | false => rfl
  | true => have := I.lo i' l h hp hx; omega
 have build : ∀ (F' : Fam) (w' : World) (h' : Hp) (V : Value) (v : AV) (T' : Tr AV), FExt F st.h w F' h' w' → (∀ s', F' s' → HRel s' h' w' ∧ conc s' v = V) → setT n h'.next st.T o.dst v = some T' →
   Inv n ops pl F₀ h₀ w₀ (q + 1) (q + 1) (mark L i) (a.put o.dst V) w' ⟨T', h'⟩ pd F' := by
  intro F' w' h' V v T' hE hF hT
  obtain ⟨s₂, hs₂, hE₂⟩ := hE.to s₁ hs₁
  have hnx : st.h.next ≤ h'.next := hE₂.next
  refine ⟨I.ne, ?_, ?_, ?_, ?_, ?_, Zvf hT hnx I.all, fun s hs => (hF s hs).1, Nat.le_trans I.low hnx, I.pge, ?_, ?_, ?_, I.puni, ?_, ?_, ?_, ?_⟩
  ·cases hd : o.dst <;> simp [Act.put, hd, I.size]
  ·cases hd : o.dst <;> simp [Act.put, hd, I.defers]
  ·intro s₀' hs₀' g
   obtain ⟨s, h1, h2, h3⟩ := I.free s₀' hs₀' g
   obtain ⟨s', h1', hx⟩ := hE.to s h1
   refine ⟨s', h1', h2.trans hx, ?_⟩
   intro p hp hm
   rw [mkp p hp] at hm
   rw [hx.sg _ (I.pid p hp).1]
   exact h3 p hp hm
  ·intro s' hs'
   obtain ⟨s, h1, hx⟩ := hE.from_ s' hs'
   obtain ⟨s₀', h2, h3⟩ := I.orig s h1
   exact ⟨s₀', h2, h3.trans hx⟩
  ·intro s' hs' t u hu hnp
   obtain ⟨s, h1, hx⟩ := hE.from_ s' hs'
   rw [Zk5 hT t] at hu
   by_cases hd : o.dst = some t
   ·rw [if_pos hd] at hu
    simp at hu; subst hu
    simp only [Act.put, hd, Array.getElem?_setIfInBounds, if_true]
    rw [if_pos (by rw [I.size]; exact (Za78 hT hd).1), (hF s' hs').2]
   ·rw [if_neg hd] at hu
    have hnp' : ¬ Pdg ops pl (q + 1) L t := by
     rintro ⟨x, ox, l', h'', p1, p2, p3, p4, p5⟩
     refine hnp ⟨x, ox, l', h'', p1, p2, p3, ?_, p5⟩
     unfold mark
     rw [if_neg (notI x l' h'' p2)]; exact p4
    have := I.tmp s h1 t u hu hnp'
    rw [Zlm hx.sg u (I.all t u hu).2]
    cases hd' : o.dst with
    | none => exact this
    | some d =>
     simp only [Act.put, Array.getElem?_setIfInBounds]
     rw [if_neg (fun e => hd (by rw [hd', e]))]
     exact this
  ·intro p hp
   obtain ⟨p1, p2, p3, lo, hi, p4, p5, p6⟩ := I.pid p hp
   obtain ⟨lo', hi', h1, h2⟩ := hgt p hp
   rw [p4] at h1; simp at h1
   refine ⟨Nat.lt_of_lt_of_le p1 hnx, ?_, Zm7 hnx p3, lo, hi, p4, by omega, by omega⟩
   cases hg : h'.tr.get p.2.1 with
   | none => rfl
   | some ob =>
    obtain ⟨o', ho'⟩ := hE₂.keep _ ob hg p1
    rw [p2] at ho'; cases ho'
  ·intro p hp hm s' hs'
   rw [mkp p hp] at hm
   obtain ⟨s, h1, hx⟩ := hE.from_ s' hs'
   obtain ⟨r1, r2, r3⟩ := I.pob p hp hm s h1
   obtain ⟨p1, p2, p3, _⟩ := I.pid p hp
   have hsid := hx.sg _ p1
   obtain ⟨y, hy⟩ := r1.there
   have hlt : (s p.2.1).1 < w.heap.size := by
    rcases Nat.lt_or_ge (s p.2.1).1 w.heap.size with r | r
    ·exact r
    ·rw [Array.getElem?_eq_none r] at hy; cases hy
   rw [hsid]
   refine ⟨?_, r2, ?_⟩
   ·rw [hx.frame _ hlt r3]
    exact r1.congr hx.sg p1 p3
   ·intro j ob hj he
    rcases hx.img j ob hj with ⟨j', o', hj', q'⟩ | q'
    ·exact r3 j' o' hj' (q'.trans he)
    ·omega
  ·intro p hp p' hp' hm hm' s' hs' he
   rw [mkp p hp] at hm
   rw [mkp p' hp'] at hm'
   obtain ⟨s, h1, hx⟩ := hE.from_ s' hs'
   rw [hx.sg _ (I.pid p hp).1, hx.sg _ (I.pid p' hp').1] at he
   exact I.pinj p hp p' hp' hm hm' s h1 he
  ·intro z oz hz hLz e' he'
   unfold mark at hLz
   split at hLz
   ·rename_i e1
    subst e1
    rw [ho] at hz; simp at hz; subst hz
    exact Zj6 (hr e' he')
   ·exact Zj6 (I.down z oz hz hLz e' he')
  ·intro x j hx
   unfold mark
   by_cases hxi : x = i
   ·subst hxi
    rw [hw] at hx; simp at hx; subst hx
    simp
   ·rw [if_neg hxi, I.wl x j hx]
    constructor
    ·intro r; omega
    ·intro r
     rcases Nat.lt_or_ge j (q + 1) with r' | r'
     ·omega
     ·have : j = q + 1 := by omega
      subst this
      exact absurd (hP.uniq x i _ hx hw) hxi
  ·intro x l h hx hLx
   unfold mark at hLx
   rw [if_neg (notI x l h hx)] at hLx
   have := I.lo x l h hx hLx; omega
  ·intro x l h hx hh
   exact Zj6 (hdue ops.size x l h (by omega) hx (by omega))
 unfold Zyv at e
 unfold wpOp
 rw [ho]
 simp only []
 split at e
 ·rename_i hwa
  rw [hW hwa]
  simp only [if_true]
  left
  split at e <;> try cases e
  rename_i v h' ha
  split at e <;> try cases e
  rename_i T' hT
  exact Za5k hcl ha ⟨s₁, hs₁⟩ hO (fun t v hv => (I.all t v hv).2) I.H fun F' w' V hE hF => hK _ w' F' (build F' w' h' V v T' hE hF hT) hun
 ·rename_i hwa
  rw [hW hwa]
  simp only [Bool.false_eq_true, if_false]
  split at e <;> try cases e
  rename_i T' hT
  exact hK _ w F (build F w st.h undef (.tup []) T' (FExt.refl _ _ _) (fun s hs => ⟨I.H s hs, rfl⟩) hT) hun
 ·cases e
end
theorem Zll {ops : Array Oper} {listed : Array Bool} {i : Nat} (h : i ∈ Region.ready .any ops listed) :
  listed.getD i true = false ∧ ∃ o, ops[i]? = some o ∧ ∀ e ∈ edges o, listed.getD e false = true := by
 obtain ⟨h1, o, ho, h2⟩ := mem_ready.1 h
 refine ⟨h1, o, ho, ?_⟩
 intro e he
 obtain ⟨x, hx, hb, rfl⟩ := Zvj.1 he
 grind
theorem Zqg {ops : Array Oper} {listed : Array Bool} {i : Nat} {o : Oper} (h1 : listed.getD i true = false) (ho : ops[i]? = some o) (h2 : ∀ e ∈ edges o, listed.getD e false = true) :
  i ∈ Region.ready .any ops listed :=
 mem_ready.2 ⟨h1, o, ho, fun e he hb => h2 e.on (Zvj.2 ⟨e, Array.mem_toList_iff.2 he, hb, rfl⟩)⟩
theorem Za0h {P : Program} {call : Cl} (hcl : ClOk P call) {n : Nat} {ops : Array Oper} {pl : List PE} {k : Nat} (hP : Zks ops pl k) {F₀ : Fam} {h₀ : Hp} {w₀ : World} {fin : St} {Q : Exit → Act → World → Prop}
  (hQ : ∀ F' a' w', RF F' n fin.T fin.h a' w' → FExt F₀ h₀ w₀ F' fin.h w' → Q .normal a' w') :
  ∀ (fuel : Nat) (r q : Nat) (listed : Array Bool) (st : St) (pd : Pend) (a : Act) (w : World) (F : Fam), q + r = k → tailF P call n ops pl r q st pd = some fin →
   Ztr P ops q st pd ops.toList pl 0 = true → listed.size = ops.size → left ops.size (fun j => listed.getD j false) ≤ fuel →
   Inv n ops pl F₀ h₀ w₀ (q + 1) q (fun j => listed.getD j false) a w st pd F → wpAny P .any ops Q fuel listed a w := by
 have getT : ∀ (listed : Array Bool), listed.size = ops.size → ∀ i, i < ops.size → listed.getD i true = listed.getD i false := by
  intro listed hs i hi
  simp [Array.getD_eq_getD_getElem?, show i < listed.size by omega]
 have fini : ∀ (r q : Nat) (listed : Array Bool) (st : St) (pd : Pend) (a : Act) (w : World) (F : Fam), q + r = k → tailF P call n ops pl r q st pd = some fin → listed.size = ops.size →
   Inv n ops pl F₀ h₀ w₀ (q + 1) q (fun j => listed.getD j false) a w st pd F → Region.ready .any ops listed = [] → Q .normal a w := by
  intro r q listed st pd a w F hqr ht hs I hrd
  have all : ∀ i, i < ops.size → listed.getD i false = true := by
   intro i
   induction i using Nat.strongRecOn with
   | _ i ih =>
    intro hi
    cases hx : listed.getD i false with
    | true => rfl
    | false =>
     have ho : ops[i]? = some ops[i] := by simp [hi]
     have : i ∈ Region.ready .any ops listed := Zqg (by rw [getT listed hs i hi]; exact hx) ho (fun e he => ih e (hP.below i _ ho e he) (Nat.lt_trans (hP.below i _ ho e he) hi))
     rw [hrd] at this; cases this
  cases r with
  | succ r =>
   simp only [tailF] at ht
   split at ht <;> try cases ht
   rename_i o hp hf
   obtain ⟨i, h1, h2⟩ := Zis hf
   have hi : i < ops.size := by
    rcases Nat.lt_or_ge i ops.size with r | r
    ·exact r
    ·rw [List.getElem?_eq_none (by simpa using r)] at h1; cases h1
   have := (I.wl i (q + 1) h2).1 (all i hi)
   omega
  | zero =>
   simp only [tailF] at ht
   split at ht <;> try cases ht
   rename_i h' hp
   have hthere : ∀ (i : Nat) (pe : PE), pl[i]? = some pe → i < ops.size := by
    intro i pe hi
    rcases Nat.lt_or_ge i pl.length with r | r
    ·rw [← hP.len]; exact r
    ·rw [List.getElem?_eq_none r] at hi; cases hi
   obtain ⟨J, _⟩ := I.lay (fun p _ hd => by obtain ⟨lo, hi, h1, _⟩ := hd; exact all p.1 (hthere p.1 _ h1)) hp
   have nop : ∀ t, ¬ Pdg ops pl (q + 1) (fun j => listed.getD j false) t := by
    rintro t ⟨x, o, l, h, p1, p2, p3, p4, p5⟩
    simp only [] at p4
    rw [all x (hthere x _ p2)] at p4; cases p4
   obtain ⟨s₀, hs₀⟩ := J.ne
   obtain ⟨s₁, hs₁, _⟩ := J.free s₀ hs₀ (fun _ => (0, 0))
   refine hQ F a w ⟨⟨s₁, hs₁⟩, ?_, J.H⟩ ⟨?_, J.orig⟩
   ·intro s hs
    exact ⟨J.size, J.defers, fun t v hv => J.tmp s hs t v hv (nop t), fun t v hv => (J.all t v hv).2⟩
   ·intro s₀' hs₀'
    obtain ⟨s, h1, h2, _⟩ := J.free s₀' hs₀' (fun _ => (0, 0))
    exact ⟨s, h1, h2⟩
 intro fuel
 induction fuel with
 | zero =>
  intro r q listed st pd a w F hqr ht hc hs hl I
  have hrd : Region.ready .any ops listed = [] := by
   cases hx : Region.ready .any ops listed with
   | nil => rfl
   | cons i l =>
    exfalso
    obtain ⟨h1, o, ho, _⟩ := Zll (i := i) (by rw [hx]; simp)
    have hi : i < ops.size := by
     rcases Nat.lt_or_ge i ops.size with r | r
     ·exact r
     ·rw [Array.getElem?_eq_none r] at ho; cases ho
    have h0 : left ops.size (fun j => listed.getD j false) = 0 := by omega
    have h3 := Zjq h0 i hi
    rw [getT listed hs i hi] at h1
    rw [h1] at h3; cases h3
  exact ⟨hrd, fini r q listed st pd a w F hqr ht hs I hrd⟩
 | succ fuel ih =>
  intro r q listed st pd a w F hqr ht hc hs hl I
  refine ⟨fun hrd => fini r q listed st pd a w F hqr ht hs I hrd, ?_⟩
  intro i hi
  obtain ⟨h1, o, ho, h2⟩ := Zll hi
  have hin : i < ops.size := by
   rcases Nat.lt_or_ge i ops.size with r | r
   ·exact r
   ·rw [Array.getElem?_eq_none r] at ho; cases ho
  rw [getT listed hs i hin] at h1
  have hL : (fun j => (listed.setIfInBounds i true).getD j false) = mark (fun j => listed.getD j false) i := by
   funext j
   unfold mark
   by_cases hj : j = i
   ·subst hj
    simp [Array.getD_eq_getD_getElem?, Array.getElem?_setIfInBounds, show j < listed.size by omega]
   ·rw [if_neg hj]
    exact getD_set_ne false (fun r => hj r.symm)
  have hsz : (listed.setIfInBounds i true).size = ops.size := by simp [hs]
  have hleft : left ops.size (fun j => (listed.setIfInBounds i true).getD j false) ≤ fuel := by
   rw [hL]
   have := Zlu (L := fun j => listed.getD j false) (i := i) h1 ops.size
   rw [if_pos hin] at this
   omega
  obtain ⟨pe, hpe⟩ : ∃ pe, pl[i]? = some pe := ⟨pl[i]'(by rw [hP.len]; exact hin), by simp [hP.len, hin]⟩
  cases pe with
  | p l h =>
   obtain ⟨hlq, hqh⟩ := I.stage hP ho h2 h1 hpe
   have hck := Zxb hc i o l h (by simpa using ho) hpe hlq hqh
   refine I.step hP ho h2 h1 hpe (by simpa using hck) ?_
   intro a' w' F' I'
   exact ih r q _ st pd a' w' F' hqr ht hc hsz hleft (by rw [hL]; exact I')
  | w j =>
   have hj : j = q + 1 := by
    obtain ⟨w1, w2, w3⟩ := hP.w i o j ho hpe
    have hn : ¬ j ≤ q := fun r => by have := (I.wl i j hpe).2 r; rw [h1] at this; cases this
    rcases w3 with r | ⟨e, pe, g1, g2, g3⟩
    ·omega
    ·have hLe := h2 e g1
     cases pe with
     | w j' => have := (I.wl e j' g2).1 hLe; simp only [PE.num] at g3; omega
     | p l' h' => have := I.lo e l' h' g2 hLe; simp only [PE.num] at g3; omega
   subst hj
   have hk := (hP.w i o (q + 1) ho hpe).2.1
   obtain ⟨r, rfl⟩ : ∃ r', r = r' + 1 := ⟨r - 1, by omega⟩
   simp only [tailF] at ht
   split at ht <;> try cases ht
   rename_i pd' h' o' hpm hf
   have hoo : o' = o := by
    obtain ⟨i', g1, g2⟩ := Zis hf
    have := hP.uniq i' i _ g2 hpe
    subst this
    have g1 : ops[i']? = some o' := by simpa using g1
    rw [ho] at g1; simpa using g1.symm
   subst hoo
   split at ht <;> try cases ht
   rename_i st₁ hst
   split at ht <;> try cases ht
   rename_i st₂ pd₂ hex
   split at ht <;> try cases ht
   rename_i hck
   have hthere : ∀ (i : Nat) (pe : PE), pl[i]? = some pe → i < ops.size := by
    intro i pe hi
    rcases Nat.lt_or_ge i pl.length with r | r
    ·rw [← hP.len]; exact r
    ·rw [List.getElem?_eq_none r] at hi; cases hi
   obtain ⟨J, hgt⟩ := I.lay (fun p _ hd => by
    obtain ⟨lo, hi, g1, g2⟩ := hd
    exact I.due hP ho h2 hpe ops.size p.1 lo hi (by omega) g1 g2) hpm
   refine J.write hcl hP ho h2 hpe hst hgt ?_
   intro a' w' F' I' hun
   have I'' := I'.enter hun hex
   exact ih r (q + 1) _ st₂ pd₂ a' w' _ (by omega) ht hck hsz hleft (by rw [hL]; exact I'')
theorem Za97 {P : Program} (hm : P.follows .mixedOrders = true) : DrOk P (Za98 P) := by
 intro call hcl n id ops st st' e F a w R Q hQ
 unfold Za98 at e
 split at e <;> try cases e
 rename_i k hk
 have hP := Zk9 hk
 split at e <;> try cases e
 rename_i st₁ pd₁ hex
 split at e <;> try cases e
 rename_i hck
 refine wp_region_any hm ?_
 obtain ⟨s₁, hs₁⟩ := R.ne
 have R₁ := R.T s₁ hs₁
 have hgetD : ∀ j, (Array.replicate ops.size false).getD j false = false := by
  intro j
  simp only [Array.getD_eq_getD_getElem?, Array.getElem?_replicate]
  split <;> rfl
 have I : Inv n ops (Zm4 ops.toList) F st.h w 0 0 (fun j => (Array.replicate ops.size false).getD j false) a { w with drawn := w.drawn + 1 } st [] F := by
  refine ⟨R.ne, R₁.size, R₁.defers, ?_, ?_, ?_, ?_, fun s hs => (R.H s hs).drew _, Nat.le_refl _, ?_, ?_, ?_, ?_, ?_, ?_, ?_, ?_, ?_⟩
  ·intro s₀ hs₀ g
   exact ⟨s₀, hs₀, Ext.drew _ _ _ _, fun p hp => by cases hp⟩
  ·intro s hs; exact ⟨s, hs, Ext.drew _ _ _ _⟩
  ·intro s hs t v hv _; exact (R.T s hs).get t v hv
  ·intro t v hv
   have := R₁.get t v hv
   refine ⟨?_, R₁.ws t v hv⟩
   rcases Nat.lt_or_ge t n with r | r
   ·exact r
   ·rw [Array.getElem?_eq_none (by rw [R₁.size]; exact r)] at this; cases this
  ·intro p hp; cases hp
  ·intro p hp; cases hp
  ·intro p hp; cases hp
  ·intro p hp; cases hp
  ·intro p hp; cases hp
  ·intro z o hz hL; rw [hgetD] at hL; cases hL
  ·intro i j hj
   simp only [hgetD]
   have hlt : i < ops.size := by
    rcases Nat.lt_or_ge i (Zm4 ops.toList).length with r | r
    ·rw [← hP.len]; exact r
    grind
   have := (hP.w i ops[i] j (by simp [hlt]) hj).1
   grind
  ·intro i l h _ hL; rw [hgetD] at hL; cases hL
  ·intro i l h _ hh; omega
 have I' := I.enter (fun i l h _ _ => hgetD i) hex
 refine Za0h hcl hP hQ ops.size k 0 _ st₁ pd₁ a _ _ (by omega) e hck (by simp) ?_ I'
 have : ∀ m (L : Nat → Bool), left m L ≤ m := by
  intro m L
  induction m with
  | zero => simp [left]
  | succ m ih => simp only [left]; split <;> omega
 exact this _ _
end Go.Proofs.YtghmfggmimoinaaGreat.Ev
