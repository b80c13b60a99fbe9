/- The small machine: what a plan that is right says. -/
import Derived.Test.YtghmfggmimoinaaGreatEvDraw
namespace Go.Proofs.YtghmfggmimoinaaGreat.Ev
open Go Go.RowKit
structure Zks (ops : Array Oper) (pl : List PE) (k : Nat) : Prop where
 len : pl.length = ops.size
 below : ∀ (i : Nat) (o : Oper), ops[i]? = some o → ∀ e ∈ edges o, e < i
 fresh : ∀ (i : Nat) (o : Oper), ops[i]? = some o → ∀ t, t ∈ looks ops.toList o → ∀ (y : Nat) (oy : Oper) (lo hi : Nat), ops[y]? = some oy → pl[y]? = some (.p lo hi) → oy.dst = some t → y ∈ edges o
 lo : ∀ (i : Nat) (o : Oper) (lo hi : Nat), ops[i]? = some o → pl[i]? = some (.p lo hi) → lo = 0 ∨ ∃ (e : Nat) (pe : PE), e ∈ edges o ∧ pl[e]? = some pe ∧ lo ≤ pe.num
 hi : ∀ (i lo hi : Nat), pl[i]? = some (.p lo hi) → k ≤ hi ∨ ∃ (z : Nat) (o : Oper) (pe : PE), ops[z]? = some o ∧ pl[z]? = some pe ∧ i ∈ edges o ∧ ((∃ j, pe = .w j ∧ j ≤ hi + 1) ∨ (∃ l h, pe = .p l h ∧ h ≤ hi))
 w : ∀ (i : Nat) (o : Oper) (j : Nat), ops[i]? = some o → pl[i]? = some (.w j) → 1 ≤ j ∧ j ≤ k ∧ (j = 1 ∨ ∃ (e : Nat) (pe : PE), e ∈ edges o ∧ pl[e]? = some pe ∧ j ≤ pe.num + 1)
 uniq : ∀ (i i' j : Nat), pl[i]? = some (.w j) → pl[i']? = some (.w j) → i = i'
theorem Zuv {i : Nat} : ∀ {l : List Nat}, Zwr i l = true → ∀ e ∈ l, e < i
 | [], _, e, he => by cases he
 | x :: l, h, e, he => by
  simp only [Zwr] at h
  split at h <;> try cases h
  rename_i q
  rw [Nat.blt_eq] at q
  rcases List.mem_cons.1 he with rfl | he
  ·exact q
  ·exact Zuv h e he
theorem Za18 {i hi : Nat} : ∀ {os : List Oper} {ps : List PE}, okHi i hi os ps = true → ∃ (z : Nat) (o : Oper) (pe : PE), os[z]? = some o ∧ ps[z]? = some pe ∧ i ∈ edges o ∧ ((∃ j, pe = .w j ∧ j ≤ hi + 1) ∨ (∃ l h, pe = .p l h ∧ h ≤ hi))
 | [], _, h => by simp [okHi] at h
 | _ :: _, [], h => by simp [okHi] at h
 | o :: os, pe :: ps, h => by
  simp only [okHi] at h
  split at h
  ·rename_i h1 h2
   refine ⟨0, o, pe, rfl, rfl, Zky.1 h1, ?_⟩
   cases pe with
   | w j => exact .inl ⟨j, rfl, Nat.le_of_ble_eq_true h2⟩
   | p l hh => exact .inr ⟨l, hh, rfl, Nat.le_of_ble_eq_true h2⟩
  ·obtain ⟨z, o', pe', h1, h2, h3⟩ := Za18 h
   exact ⟨z + 1, o', pe', by grind, by grind, h3⟩
theorem Zuu {ls es : List Nat} : ∀ {os : List Oper} {ps : List PE} {i : Nat}, Zqj ls es os ps i = true → ∀ (y : Nat) (oy : Oper) (lo hi : Nat) (t : Tmp), os[y]? = some oy → ps[y]? = some (.p lo hi) → oy.dst = some t → t ∈ ls → i + y ∈ es
 | [], _, _, _, y, oy, lo, hi, t, h1, _, _, _ => by simp at h1
 | _ :: _, [], _, _, y, oy, lo, hi, t, _, h2, _, _ => by simp at h2
 | o :: os, pe :: ps, i, h, y, oy, lo, hi, t, h1, h2, h3, h4 => by
  simp only [Zqj] at h
  have rec_ : Zqj ls es os ps (i + 1) = true → y ≠ 0 → i + y ∈ es := by
   intro hh hy
   obtain ⟨y', rfl⟩ : ∃ y', y = y' + 1 := ⟨y - 1, by omega⟩
   have := Zuu hh y' oy lo hi t (by simpa using h1) (by simpa using h2) h3 h4
   grind
  by_cases hy : y = 0
  ·subst hy
   simp at h1 h2
   subst h1; subst h2
   simp only [h3] at h
   rw [Zky.2 h4] at h
   simp only [] at h
   split at h <;> try cases h
   rename_i q
   simpa using Zky.1 q
  grind
theorem Zyh {ops : List Oper} {pl : List PE} {k : Nat} : ∀ {os : List Oper} {ps : List PE} {i : Nat}, okAll ops pl k os ps i = true → os.length = ps.length ∧ ∀ (j : Nat) (o : Oper) (pe : PE), os[j]? = some o → ps[j]? = some pe → okOne ops pl k (i + j) o pe = true
 | [], [], _, _ => ⟨rfl, fun j o pe h => by simp at h⟩
 | [], _ :: _, _, h => by simp [okAll] at h
 | _ :: _, [], _, h => by simp [okAll] at h
 | o :: os, pe :: ps, i, h => by
  simp only [okAll] at h
  split at h <;> try cases h
  rename_i q
  obtain ⟨h1, h2⟩ := Zyh h
  grind
theorem Zzp : ∀ {pl : List PE} {c k : Nat}, okW pl c = some k → (∀ (i j : Nat), pl[i]? = some (PE.w j) → c < j) ∧ (∀ (i i' j : Nat), pl[i]? = some (.w j) → pl[i']? = some (.w j) → i = i')
 | [], c, k, h => ⟨fun i j h => by simp at h, fun i i' j h => by simp at h⟩
 | pe :: l, c, k, h => by
  simp only [okW] at h
  cases pe with
  | p lo hi =>
   obtain ⟨h1, h2⟩ := Zzp h
   grind
  | w x =>
   simp only [] at h
   split at h <;> try cases h
   rename_i q
   have q := Nat.eq_of_beq_eq_true q
   subst q
   obtain ⟨h1, h2⟩ := Zzp h
   grind
theorem Zk9 {ops : Array Oper} {pl : List PE} {k : Nat} (h : Zte ops.toList pl = some k) : Zks ops pl k := by
 unfold Zte at h
 split at h <;> try cases h
 rename_i hW
 split at h <;> try cases h
 rename_i hA
 obtain ⟨hl, hone⟩ := Zyh hA
 have hone : ∀ (i : Nat) (o : Oper) (pe : PE), ops[i]? = some o → pl[i]? = some pe → okOne ops.toList pl k i o pe = true := by
  intro i o pe ho hp
  have := hone i o pe (by simpa using ho) hp
  simpa using this
 have hthere : ∀ (i : Nat) (o : Oper), ops[i]? = some o → ∃ pe, pl[i]? = some pe := by
  intro i o ho
  have : i < pl.length := by
   rw [← hl]
   rcases Nat.lt_or_ge i ops.size with q | q
   ·simpa using q
   ·rw [Array.getElem?_eq_none q] at ho; cases ho
  exact ⟨pl[i], by simp [this]⟩
 have hthere' : ∀ (i : Nat) (pe : PE), pl[i]? = some pe → ∃ o, ops[i]? = some o := by
  intro i pe hp
  have : i < ops.size := by grind
  exact ⟨ops[i], by simp [this]⟩
 have split1 : ∀ (i : Nat) (o : Oper) (pe : PE), ops[i]? = some o → pl[i]? = some pe → Zwr i (edges o) = true ∧ Zqj (looks ops.toList o) (edges o) ops.toList pl 0 = true ∧ (match pe with
  | .p lo hi => match (match lo with | 0 => true | lo + 1 => anyE pl (fun x => Nat.ble (lo + 1) x.num) (edges o)) with
   | true => match Nat.ble k hi with
    | true => true
    | false => okHi i hi ops.toList pl
   | false => false
  | .w j => match Nat.ble 1 j, Nat.ble j k, (match j with | 0 => false | 1 => true | j + 2 => anyE pl (fun x => Nat.ble (j + 1) x.num) (edges o)) with
   | true, true, true => true
   | _, _, _ => false) = true := by
  intro i o pe ho hp
  have := hone i o pe ho hp
  unfold okOne at this
  split at this
  ·rename_i h1 h2; exact ⟨h1, h2, this⟩
  ·cases this
 refine ⟨by simpa using hl.symm, ?_, ?_, ?_, ?_, ?_, (Zzp hW).2⟩
 ·intro i o ho
  obtain ⟨pe, hp⟩ := hthere i o ho
  exact Zuv (split1 i o pe ho hp).1
 ·intro i o ho t ht y oy lo hi hy hpy hd
  obtain ⟨pe, hp⟩ := hthere i o ho
  have := Zuu (split1 i o pe ho hp).2.1 y oy lo hi t (by simpa using hy) hpy hd ht
  simpa using this
 ·intro i o lo hi ho hp
  have := (split1 i o _ ho hp).2.2
  simp only [] at this
  split at this
  ·rename_i q
   cases lo with
   | zero => exact .inl rfl
   | succ lo =>
    simp only [] at q
    obtain ⟨e, pe, h1, h2, h3⟩ := Ztt q
    exact .inr ⟨e, pe, h1, h2, Nat.le_of_ble_eq_true h3⟩
  ·cases this
 ·intro i lo hi hp
  obtain ⟨o, ho⟩ := hthere' i _ hp
  have := (split1 i o _ ho hp).2.2
  simp only [] at this
  split at this
  ·split at this
   ·rename_i q; exact .inl (Nat.le_of_ble_eq_true q)
   ·obtain ⟨z, o', pe', h1, h2, h3⟩ := Za18 this
    exact .inr ⟨z, o', pe', by simpa using h1, h2, h3⟩
  ·cases this
 ·intro i o j ho hp
  have := (split1 i o _ ho hp).2.2
  simp only [] at this
  split at this
  ·rename_i q1 q2 q3
   refine ⟨Nat.le_of_ble_eq_true q1, Nat.le_of_ble_eq_true q2, ?_⟩
   cases j with
   | zero => cases q3
   | succ j =>
    cases j with
    | zero => exact .inl rfl
    | succ j =>
     simp only [] at q3
     obtain ⟨e, pe, h1, h2, h3⟩ := Ztt q3
     exact .inr ⟨e, pe, h1, h2, by have := Nat.le_of_ble_eq_true h3; omega⟩
  ·cases this
theorem Zis {j : Nat} : ∀ {os : List Oper} {ps : List PE} {o : Oper}, findW j os ps = some o → ∃ i : Nat, os[i]? = some o ∧ ps[i]? = some (.w j)
 | [], _, o, h => by simp [findW] at h
 | _ :: _, [], o, h => by simp [findW] at h
 | x :: os, pe :: ps, o, h => by
  simp only [findW] at h
  split at h
  ·split at h
   ·rename_i y q
    have q := Nat.eq_of_beq_eq_true q
    subst q
    simp at h; subst h
    exact ⟨0, rfl, rfl⟩
   ·obtain ⟨i, h1, h2⟩ := Zis h
    exact ⟨i + 1, by grind, by simpa using h2⟩
  ·obtain ⟨i, h1, h2⟩ := Zis h
   exact ⟨i + 1, by grind, by grind⟩
theorem Zxb {P : Program} {ops : Array Oper} {q : Nat} {st : St} {pd : Pend} : ∀ {os : List Oper} {ps : List PE} {i : Nat}, Ztr P ops q st pd os ps i = true →
  ∀ (x : Nat) (o : Oper) (lo hi : Nat), os[x]? = some o → ps[x]? = some (.p lo hi) → lo ≤ q → q ≤ hi → Za2k P ops st pd o (i + x) = true
 | [], _, _, _, x, o, lo, hi, h1, _, _, _ => by simp at h1
 | _ :: _, [], _, _, x, o, lo, hi, _, h2, _, _ => by simp at h2
 | y :: os, pe :: ps, i, h, x, o, lo, hi, h1, h2, h3, h4 => by
  simp only [Ztr] at h
  have rec_ : Ztr P ops q st pd os ps (i + 1) = true → x ≠ 0 → Za2k P ops st pd o (i + x) = true := by
   intro hh hx
   obtain ⟨x', rfl⟩ : ∃ x', x = x' + 1 := ⟨x - 1, by omega⟩
   have := Zxb hh x' o lo hi (by simpa using h1) (by grind) h3 h4
   grind
  by_cases hx : x = 0
  ·subst hx
   simp at h1 h2
   subst h1; subst h2
   simp only [Nat.ble_eq_true_of_le h3, Nat.ble_eq_true_of_le h4] at h
   grind
  grind
end Go.Proofs.YtghmfggmimoinaaGreat.Ev
