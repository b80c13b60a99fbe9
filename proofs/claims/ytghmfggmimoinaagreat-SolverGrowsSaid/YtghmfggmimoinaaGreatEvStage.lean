/- The small machine: stages of a region that draws. -/
import Derived.Test.YtghmfggmimoinaaGreatEvPlan
namespace Go.Proofs.YtghmfggmimoinaaGreat.Ev
open Go Go.RowKit
theorem Zk5 {n nx : Nat} {T T' : Tr AV} {d : Option Tmp} {v : AV} (h : setT n nx T d v = some T') : ∀ t, T'.get t = if d = some t then some v else T.get t := by
 intro t
 unfold setT at h
 split at h
 ·simp at h; subst h; simp
 ·rename_i x
  split at h <;> try cases h
  have := Tr.Zao _ _ _ _ _ h t
  grind
theorem Za78 {n nx : Nat} {T T' : Tr AV} {d : Option Tmp} {v : AV} (h : setT n nx T d v = some T') {t : Tmp} (hd : d = some t) : t < n ∧ ws nx v = true := by
 subst hd
 simp only [setT] at h
 split at h <;> try cases h
 simp_all
theorem Zvf {n nx nx' : Nat} {T T' : Tr AV} {d : Option Tmp} {v : AV} (h : setT n nx' T d v = some T') (hn : nx ≤ nx') (hT : ∀ t v, T.get t = some v → t < n ∧ ws nx v = true) :
  ∀ t u, T'.get t = some u → t < n ∧ ws nx' u = true := by
 intro t u hu
 rw [Zk5 h t] at hu
 by_cases q : d = some t
 ·rw [if_pos q] at hu; simp at hu; subst hu; exact Za78 h q
 ·rw [if_neg q] at hu; exact ⟨(hT t u hu).1, Zq3 hn u (hT t u hu).2⟩
structure Staged (n q : Nat) (os : List Oper) (ps : List PE) (i : Nat) (st st' : St) (new : Pend) : Prop where
 tr : st'.h.tr = st.h.tr
 next : st.h.next ≤ st'.h.next
 all : ∀ t v, st'.T.get t = some v → t < n ∧ ws st'.h.next v = true
 same : ∀ t, (∀ (x : Nat) (o : Oper) (h : Nat), os[x]? = some o → ps[x]? = some (.p q h) → o.dst ≠ some t) → st'.T.get t = st.T.get t
 ids : ∀ p ∈ new, st.h.next ≤ p.2.1 ∧ p.2.1 < st'.h.next ∧ wsO st'.h.next p.2.2 = true ∧ ∃ (x h : Nat), p.1 = i + x ∧ ps[x]? = some (.p q h)
 uni : ∀ p ∈ new, ∀ p' ∈ new, p.1 = p'.1 ∨ p.2.1 = p'.2.1 → p = p'
theorem Za6g {P : Program} {n : Nat} {ops : Array Oper} {o : Oper} {i : Nat} {st st' : St} {pd pd' : Pend} (e : exOne P n ops o i st pd = some (st', pd')) (hT : ∀ t v, st.T.get t = some v → t < n ∧ ws st.h.next v = true) :
  st'.h.tr = st.h.tr ∧ st.h.next ≤ st'.h.next ∧ (∀ t v, st'.T.get t = some v → t < n ∧ ws st'.h.next v = true) ∧ (∀ t, o.dst ≠ some t → st'.T.get t = st.T.get t) ∧
  (pd' = pd ∨ ∃ ob, pd' = (i, st.h.next, ob) :: pd ∧ st.h.next < st'.h.next ∧ wsO st'.h.next ob = true) := by
 unfold exOne at e
 have same : ∀ {nx v T'}, setT n nx st.T o.dst v = some T' → ∀ t, o.dst ≠ some t → T'.get t = st.T.get t := by
  intro nx v T' h t ht
  rw [Zk5 h t, if_neg ht]
 split at e
 ·split at e <;> try cases e
  rename_i T' h
  exact ⟨rfl, Nat.le_refl _, Zvf h (Nat.le_refl _) hT, same h, .inl rfl⟩
 ·split at e
  ·rename_i ob v ha
   split at e <;> try cases e
   rename_i T' h
   refine ⟨rfl, by simp, Zvf h (by simp) hT, same h, .inr ⟨ob, rfl, by simp, ?_⟩⟩
   exact (evA_ws (m := st.h.next + 1) ha (by omega) (fun x hx u hu => Zq3 (by omega) _ (Zsd (fun t v ht => (hT t v ht).2) hu))).1
  ·split at e <;> try cases e
   split at e <;> try cases e
   rename_i T' h
   exact ⟨rfl, Nat.le_refl _, Zvf h (Nat.le_refl _) hT, same h, .inl rfl⟩
 ·cases e
theorem Za25 {P : Program} {n : Nat} {ops : Array Oper} {q : Nat} : ∀ {os : List Oper} {ps : List PE} {i : Nat} {st : St} {pd : Pend} {st' : St} {pd' : Pend}, Zmz P n ops q os ps i st pd = some (st', pd') →
  (∀ t v, st.T.get t = some v → t < n ∧ ws st.h.next v = true) → ∃ new, pd' = new ++ pd ∧ Staged n q os ps i st st' new := by
 intro os
 induction os with
 | nil =>
  intro ps i st pd st' pd' e hT
  simp [Zmz] at e
  obtain ⟨rfl, rfl⟩ := e
  exact ⟨[], rfl, rfl, Nat.le_refl _, hT, fun _ _ => rfl, (fun p hp => by cases hp), (fun p hp => by cases hp)⟩
 | cons o os ih =>
  intro ps i st pd st' pd' e hT
  cases ps with
  | nil =>
   simp [Zmz] at e
   obtain ⟨rfl, rfl⟩ := e
   exact ⟨[], rfl, rfl, Nat.le_refl _, hT, fun _ _ => rfl, (fun p hp => by cases hp), (fun p hp => by cases hp)⟩
  | cons pe ps =>
   simp only [Zmz] at e
   have skip : Zmz P n ops q os ps (i + 1) st pd = some (st', pd') → (∀ h, pe ≠ .p q h) → ∃ new, pd' = new ++ pd ∧ Staged n q (o :: os) (pe :: ps) i st st' new := by
    intro e hne
    obtain ⟨new, h1, h2⟩ := ih e hT
    refine ⟨new, h1, h2.tr, h2.next, h2.all, ?_, ?_, h2.uni⟩
    ·intro t ht
     exact h2.same t (fun x o' h ho hp => ht (x + 1) o' h (by simpa using ho) (by simpa using hp))
    ·intro p hp
     obtain ⟨a, b, c, x, h, hx, hpx⟩ := h2.ids p hp
     exact ⟨a, b, c, x + 1, h, by omega, by simpa using hpx⟩
   cases pe with
   | w j => exact skip e (fun h r => by cases r)
   | p lo hi =>
    simp only [] at e
    cases hb : Nat.beq lo q with
    | false =>
     simp only [hb] at e
     exact skip e (fun h r => by cases r; exact Nat.ne_of_beq_eq_false hb rfl)
    | true =>
     have hlq := Nat.eq_of_beq_eq_true hb
     subst hlq
     simp only [hb] at e
     split at e <;> try cases e
     rename_i st₁ pd₁ h₁
     obtain ⟨t1, t2, t3, t4, t5⟩ := Za6g h₁ hT
     obtain ⟨new, n1, n2⟩ := ih e t3
     have same : ∀ t, (∀ (x : Nat) (o' : Oper) (h : Nat), (o :: os)[x]? = some o' → (PE.p lo hi :: ps)[x]? = some (.p lo h) → o'.dst ≠ some t) → st'.T.get t = st.T.get t := by
      intro t ht
      rw [n2.same t (fun x o' h ho hp => ht (x + 1) o' h (by simpa using ho) (by simpa using hp))]
      exact t4 t (ht 0 o hi rfl rfl)
     rcases t5 with rfl | ⟨ob, rfl, u1, u2⟩
     ·refine ⟨new, n1, n2.tr.trans t1, Nat.le_trans t2 n2.next, n2.all, same, ?_, n2.uni⟩
      intro p hp
      obtain ⟨a, b, c, x, h, hx, hpx⟩ := n2.ids p hp
      exact ⟨by omega, b, c, x + 1, h, by omega, by simpa using hpx⟩
     ·refine ⟨new ++ [(i, st.h.next, ob)], by simp [n1], n2.tr.trans t1, Nat.le_trans t2 n2.next, n2.all, same, ?_, ?_⟩
      ·intro p hp
       rcases List.mem_append.1 hp with hp | hp
       ·obtain ⟨a, b, c, x, h, hx, hpx⟩ := n2.ids p hp
        exact ⟨by omega, b, c, x + 1, h, by omega, by simpa using hpx⟩
       ·simp at hp; subst hp
        exact ⟨Nat.le_refl _, Nat.lt_of_lt_of_le u1 n2.next, Zm7 n2.next u2, 0, hi, rfl, rfl⟩
      ·intro p hp p' hp' hpp
       rcases List.mem_append.1 hp with hp | hp <;> rcases List.mem_append.1 hp' with hp' | hp'
       ·exact n2.uni p hp p' hp' hpp
       ·simp at hp'; subst hp'
        obtain ⟨a, b, c, x, h, hx, hpx⟩ := n2.ids p hp
        rcases hpp with r | r <;> simp only [] at r <;> omega
       ·simp at hp; subst hp
        obtain ⟨a, b, c, x, h, hx, hpx⟩ := n2.ids p' hp'
        grind
       ·simp at hp hp'; subst hp; subst hp'; rfl
theorem Zus {pl : List PE} {q : Nat} : ∀ {pd : Pend} {h : Hp} {pd' : Pend} {h' : Hp}, Zsn pl q pd h = some (pd', h') →
  h'.next = h.next ∧ (∀ j o, h'.tr.get j = some o → h.tr.get j = some o ∨ ∃ p ∈ pd, (∃ lo hi, pl[p.1]? = some (.p lo hi) ∧ hi ≤ q) ∧ j = p.2.1 ∧ o = p.2.2) ∧
  (∀ p ∈ pd', p ∈ pd ∧ ∃ lo hi, pl[p.1]? = some (.p lo hi) ∧ q < hi)
 | [], h, pd', h', e => by
  simp [Zsn] at e
  obtain ⟨rfl, rfl⟩ := e
  exact ⟨rfl, fun j o hj => .inl hj, fun p hp => by cases hp⟩
 | (i, id, ob) :: l, h, pd', h', e => by
  simp only [Zsn] at e
  split at e <;> try cases e
  rename_i pd₁ h₁ he
  obtain ⟨a1, a2, a3⟩ := Zus he
  split at e <;> try cases e
  rename_i lo hi hp
  rw [Zcg] at hp
  split at e
  ·rename_i hq
   have hq := Nat.le_of_ble_eq_true hq
   split at e <;> try cases e
   rename_i tr ht
   have hg := Tr.Zao _ _ _ _ _ ht
   refine ⟨a1, ?_, fun p hp' => ⟨by simp [(a3 p hp').1], (a3 p hp').2⟩⟩
   intro j o hj
   rw [hg j] at hj
   by_cases r : j = id
   ·rw [if_pos r] at hj; simp at hj; subst hj
    exact .inr ⟨(i, id, ob), by simp, ⟨lo, hi, hp, hq⟩, r, rfl⟩
   ·rw [if_neg r] at hj
    rcases a2 j o hj with x | ⟨p, hp', x⟩
    ·exact .inl x
    ·exact .inr ⟨p, by simp [hp'], x⟩
  ·rename_i hq
   have hq : q < hi := by
    rcases Nat.lt_or_ge q hi with r | r
    ·exact r
    ·rw [Nat.ble_eq_true_of_le r] at hq; cases hq
   simp only [Option.some.injEq, Prod.mk.injEq] at e
   obtain ⟨rfl, rfl⟩ := e
   refine ⟨a1, ?_, ?_⟩
   ·intro j o hj
    rcases a2 j o hj with x | ⟨p, hp', x⟩
    ·exact .inl x
    ·exact .inr ⟨p, by simp [hp'], x⟩
   grind
theorem Za22 {i : Nat} : ∀ {pd : Pend} {r : Nat × AObj}, findP i pd = some r → (i, r.1, r.2) ∈ pd
 | [], r, h => by simp [findP] at h
 | (j, id, ob) :: l, r, h => by
  simp only [findP] at h
  split at h
  ·rename_i q
   simp_all
  ·exact List.mem_cons_of_mem _ (Za22 h)
theorem Zyt {i : Nat} : ∀ {pd : Pend}, findP i pd = none → ∀ p ∈ pd, p.1 ≠ i
 | [], _, p, hp => by cases hp
 | (j, id, ob) :: l, h, p, hp => by
  simp only [findP] at h
  split at h <;> try cases h
  rename_i q
  have q := Nat.ne_of_beq_eq_false q
  rcases List.mem_cons.1 hp with rfl | hp
  ·exact fun r => q r.symm
  ·exact Zyt h p hp
theorem HRel.congr {s s' : Sg} {h : Hp} {w : World} (H : HRel s h w) (hs : ∀ i, i < h.next → s' i = s i) : HRel s' h w where
 obj i o hi := by rw [hs i (H.lt i o hi)]; exact (H.obj i o hi).congr hs (H.lt i o hi) (H.wso i o hi)
 inj i j o o' hi hj e := by rw [hs i (H.lt i o hi), hs j (H.lt j o' hj)] at e; exact H.inj i j o o' hi hj e
 lt := H.lt
 wso := H.wso
theorem HRel.more {s : Sg} {tr : Tr AObj} {n n' : Nat} {w : World} (H : HRel s ⟨tr, n⟩ w) (hn : n ≤ n') : HRel s ⟨tr, n'⟩ w where
 obj := H.obj
 inj := H.inj
 lt i o hi := Nat.lt_of_lt_of_le (H.lt i o hi) hn
 wso i o hi := Zm7 hn (H.wso i o hi)
theorem HRel.push {s : Sg} {h : Hp} {w : World} (H : HRel s h w) (ob : Obj) : HRel s h { w with heap := w.heap.push ob } where
 obj i o hi := by
  have := H.bound hi
  show ORel s i o (w.heap.push ob)[(s i).1]?
  rw [Array.getElem?_push, if_neg (by omega)]; exact H.obj i o hi
 inj := H.inj
 lt := H.lt
 wso := H.wso
theorem Ext.congr {s₀ s s' : Sg} {h₀ h : Hp} {w₀ w : World} (E : Ext s₀ h₀ w₀ s h w) (hl : ∀ i o, h.tr.get i = some o → i < h.next) (hs : ∀ i, i < h.next → s' i = s i) : Ext s₀ h₀ w₀ s' h w where
 os := E.os
 tape := E.tape
 output := E.output
 size := E.size
 sg i hi := (hs i (Nat.lt_of_lt_of_le hi E.next)).trans (E.sg i hi)
 next := E.next
 frame := E.frame
 img j o hj := by rw [hs j (hl j o hj)]; exact E.img j o hj
 keep := E.keep
theorem Ext.relay {s₀ s : Sg} {h₀ h h' : Hp} {w₀ w : World} (E : Ext s₀ h₀ w₀ s h w) (hn : h.next ≤ h'.next) (hg : ∀ j o, h'.tr.get j = some o → (∃ o', h.tr.get j = some o') ∨ (w₀.heap.size ≤ (s j).1 ∧ h₀.next ≤ j)) : Ext s₀ h₀ w₀ s h' w where
 os := E.os
 tape := E.tape
 output := E.output
 size := E.size
 sg := E.sg
 next := Nat.le_trans E.next hn
 frame := E.frame
 img j o hj := by
  rcases hg j o hj with ⟨o', h'⟩ | q
  ·exact E.img j o' h'
  ·exact .inr q.1
 keep j o hj hlt := by
  rcases hg j o hj with ⟨o', h'⟩ | q
  ·exact E.keep j o' h' hlt
  ·omega
theorem Ext.push {s₀ s : Sg} {h₀ h : Hp} {w₀ w : World} (E : Ext s₀ h₀ w₀ s h w) (ob : Obj) : Ext s₀ h₀ w₀ s h { w with heap := w.heap.push ob } where
 os := E.os
 tape := E.tape
 output := E.output
 size := by simp; have := E.size; omega
 sg := E.sg
 next := E.next
 frame b hb hn := by
  have := E.size
  show (w.heap.push ob)[b]? = _
  rw [Array.getElem?_push, if_neg (by omega)]; exact E.frame b hb hn
 img := E.img
 keep := E.keep
def left : Nat → (Nat → Bool) → Nat
 | 0, _ => 0
 | m + 1, L => left m L + (match L m with | true => 0 | false => 1)
def mark (L : Nat → Bool) (i : Nat) : Nat → Bool := fun j => if j = i then true else L j
theorem Zlu {L : Nat → Bool} {i : Nat} (hi : L i = false) : ∀ m, left m (mark L i) + (if i < m then 1 else 0) = left m L
 | 0 => by simp [left]
 | m + 1 => by
  have ih := Zlu hi m
  simp only [left, mark]
  grind
theorem Zjq {L : Nat → Bool} : ∀ {m : Nat}, left m L = 0 → ∀ i, i < m → L i = true
 | 0, _, i, hi => by omega
 | m + 1, h, i, hi => by
  simp only [left] at h
  cases hm : L m with
  | false => rw [hm] at h; simp at h
  | true =>
   rw [hm] at h
   rcases Nat.lt_or_ge i m with q | q
   ·exact Zjq (by omega) i q
   grind
end Go.Proofs.YtghmfggmimoinaaGreat.Ev
