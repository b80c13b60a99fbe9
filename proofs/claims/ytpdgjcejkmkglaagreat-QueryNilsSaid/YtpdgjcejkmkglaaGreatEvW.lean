/- The small machine: append and copy. -/
import Derived.Test.YtpdgjcejkmkglaaGreatEvN
namespace Go.Proofs.YtpdgjcejkmkglaaGreat.Ev
open Go Go.RowKit
set_option linter.unusedVariables false
set_option linter.unusedSimpArgs false

/-- A block that goes on under another number. -/
theorem HRel.move {s : Sg} {h : Hp} {w : World} (H : HRel s h w) {b f g : Nat} {o o' : AObj} {ob : Obj} {tr₁ tr₂ : Tr AObj} (hb : h.tr.get b = some o)
    (ht₁ : Tr.set f h.tr b none = some tr₁) (ht₂ : Tr.set g tr₁ h.next (some o') = some tr₂) (ho : ORel (upd s h.next (s b)) h.next o' (some ob)) (hw : wsO h.next o' = true) :
    HRel (upd s h.next (s b)) ⟨tr₂, h.next + 1⟩ (setB w (s b).1 ob) ∧ Ext s h w (upd s h.next (s b)) ⟨tr₂, h.next + 1⟩ (setB w (s b).1 ob) := by
  have hg₁ := Tr.get_set f h.tr b none tr₁ ht₁
  have hg₂ := Tr.get_set g tr₁ h.next (some o') tr₂ ht₂
  have hin := H.bound hb
  have hbn := H.lt b o hb
  have old : ∀ j, j < h.next → upd s h.next (s b) j = s j := fun j hj => upd_lt s _ _ hj
  have alt : ∀ j o₁, tr₂.get j = some o₁ → (j = h.next ∧ o₁ = o') ∨ (h.tr.get j = some o₁ ∧ j ≠ b ∧ j < h.next) := by
    intro j o₁ hj
    rw [hg₂ j] at hj
    by_cases q : j = h.next
    · rw [if_pos q] at hj; exact .inl ⟨q, by simpa using hj.symm⟩
    · rw [if_neg q, hg₁ j] at hj
      by_cases r : j = b
      · rw [if_pos r] at hj; cases hj
      · rw [if_neg r] at hj; exact .inr ⟨hj, r, H.lt j o₁ hj⟩
  refine ⟨⟨?_, ?_, ?_, ?_⟩, ⟨rfl, rfl, rfl, by rw [setB_size]; exact Nat.le_refl _, old, by simp, ?_, ?_, fun j o₁ hj hlt => by
    rcases alt j o₁ hj with ⟨rfl, rfl⟩ | ⟨hj, _, _⟩
    · omega
    · exact ⟨o₁, hj⟩⟩⟩
  · intro j o₁ hj
    rcases alt j o₁ hj with ⟨rfl, rfl⟩ | ⟨hj, hne, hlt⟩
    · rw [upd_same, setB_get, if_pos ⟨rfl, hin⟩]; exact ho
    · rw [old j hlt, setB_get, if_neg (fun r => hne (H.inj j b o₁ o hj hb r.1))]
      exact (H.obj j o₁ hj).congr old hlt (H.wso j o₁ hj)
  · intro j k o₁ o₂ hj hk e
    rcases alt j o₁ hj with ⟨rfl, rfl⟩ | ⟨hj, hne, hlt⟩ <;> rcases alt k o₂ hk with ⟨rfl, rfl⟩ | ⟨hk, hne', hlt'⟩
    · rfl
    · rw [upd_same, old k hlt'] at e; exact absurd (H.inj k b o₂ o hk hb e.symm) hne'
    · rw [upd_same, old j hlt] at e; exact absurd (H.inj j b o₁ o hj hb e) hne
    · rw [old j hlt, old k hlt'] at e; exact H.inj j k o₁ o₂ hj hk e
  · intro j o₁ hj
    rcases alt j o₁ hj with ⟨rfl, rfl⟩ | ⟨hj, hne, hlt⟩
    · simp
    · simp only; omega
  · intro j o₁ hj
    rcases alt j o₁ hj with ⟨rfl, rfl⟩ | ⟨hj, hne, hlt⟩
    · exact wsO_mono (by simp) hw
    · exact wsO_mono (by simp) (H.wso j o₁ hj)
  · intro k hk hn
    rw [setB_get, if_neg (fun r => hn b o hb r.1.symm)]
  · intro j o₁ hj
    rcases alt j o₁ hj with ⟨rfl, rfl⟩ | ⟨hj, hne, hlt⟩
    · exact .inl ⟨b, o, hb, by rw [upd_same]⟩
    · exact .inl ⟨j, o₁, hj, by rw [old j hlt]⟩

def srcCells (h : Hp) (sz : Nat) : AV → Option (Nat × List AV)
  | .nils => some (0, [])
  | .slice b off n _ _ => match h.tr.get b with
    | some (.cells l _ _) => match Nat.ble (off + n * sz) l.length with
      | true => some (n, takeN (n * sz) (dropN off l))
      | false => none
    | _ => none
  | _ => none
theorem srcCells_run {P : Program} {h : Hp} {sz : Nat} {x : AV} {n : Nat} {l : List AV} (e : srcCells h sz x = some (n, l)) {s : Sg} {w : World} (H : HRel s h w) :
    (Builtin.lenOf (conc s x)).run P w = .ok n w ∧ (Builtin.firstCells sz n (conc s x)).run P w = .ok (concL s l).toArray w ∧ wsL h.next l = true ∧ l.length = n * sz := by
  unfold srcCells at e
  split at e
  · simp at e; obtain ⟨rfl, rfl⟩ := e; simp [conc, Builtin.lenOf, Builtin.firstCells, concL, wsL]
  · rename_i b off n' u c
    split at e <;> try cases e
    rename_i cs ty op hb
    split at e <;> try cases e
    rename_i hl
    have hl := Nat.le_of_ble_eq_true hl
    obtain ⟨tail, hw, _, _⟩ := H.cells hb
    have hL := concL_length s cs
    have hws := H.wso _ _ hb
    refine ⟨by simp [conc, Builtin.lenOf], ?_, wsL_takeN (wsL_dropN hws), by simp [takeN_eq, dropN_eq]; omega⟩
    simp only [conc, Builtin.firstCells, loadCells]
    rw [run_loadCells hw _ 0 #[] (by simp; omega)]
    congr 2
    simp only [Nat.add_zero, takeN_eq, dropN_eq, concL_take, concL_drop, List.toList_toArray, List.nil_append]
    rw [List.drop_append_of_le_length (by omega), List.take_append_of_le_length (by simp; omega)]
  · cases e

theorem growBy_le (m : Nat) : ∀ (r c : Nat), c ≤ 2 * m + 192 → Builtin.growBy m r c ≤ 2 * m + 192
  | 0, c, h => by simpa [Builtin.growBy] using h
  | r + 1, c, h => by
    simp only [Builtin.growBy]
    split
    · exact h
    · exact growBy_le m r _ (by omega)
theorem next_le {need old : Nat} (h : old < need) : Builtin.nextslicecap need old ≤ 2 * need + 192 := by
  unfold Builtin.nextslicecap
  split
  · omega
  · split
    · omega
    · exact growBy_le _ _ _ (by omega)

/-- An append that grows: what it makes. -/
theorem run_grow {P : Program} {t0 t1 ty : TypeId} {ts : Array TypeId} {elem : TypeId} {d1 : TypeDesc} {sz n : Nat} {z : AV} {s : Sg} {info : TypeInfo} {base : Option Addr} {sLen sCap : Nat} {X : Value} {old new : List AV} {w : World}
    (ht0 : ts[0]? = some t0) (ht1 : ts[1]? = some t1) (hu0 : P.underlying t0 = some (.slice elem)) (hu1 : P.underlying t1 = some d1) (hd : ∀ k, d1 ≠ .int k) (hs : sizeOf? P elem = some sz) (hz : zeroOf? P elem = some z)
    (hi : P.info? elem = some info) (hzl : (avCells z).length = sz) (hn : (Builtin.lenOf X).run P w = .ok n w) (hnot : sCap < sLen + n) (hb : (2 * (sLen + n) + 192) * info.bytes ≤ 281474976710656) (hne : sLen + n ≤ 1099511627776)
    (hold : ∀ d, (Builtin.firstCells sz sLen (.slice base sLen sCap)).run P { w with drawn := d } = .ok (concL s old).toArray { w with drawn := d })
    (hnew : ∀ d, (Builtin.firstCells sz n X).run P { w with drawn := d } = .ok (concL s new).toArray { w with drawn := d }) :
    ∃ c, sLen + n ≤ c ∧ ∃ d, ∃ rest : List Value, rest.length = (c - (sLen + n)) * sz ∧ (Builtin.append_ ts ty #[.slice base sLen sCap, X]).run P w =
      .ok (.slice (some ⟨w.heap.size, 0, none⟩) (sLen + n) c) { w with drawn := d, heap := w.heap.push (.cells (concL s old ++ concL s new ++ rest).toArray elem (0, 0)) } := by
  refine ⟨(Question.appendCap (sLen + n) sCap elem).cut (w.tape w.drawn (.appendCap (sLen + n) sCap elem)), by simp [Question.cut], w.drawn + 1, ?_⟩
  have hz0 := run_zeroValue hz s
  have hzs : (conc s z).cells.size = sz := by rw [← Array.length_toList, cells_conc, concL_length, hzl]
  generalize hc : (Question.appendCap (sLen + n) sCap elem).cut (w.tape w.drawn (.appendCap (sLen + n) sCap elem)) = c
  refine ⟨(Builtin.zeroCells (conc s z).cells (c - (sLen + n))).toList, by simp [Builtin.zeroCells, hzs], ?_⟩
  have hbig : ¬ (Builtin.nextslicecap (sLen + n) sCap * info.bytes > 2 ^ 48) := by
    have := Nat.mul_le_mul_right info.bytes (next_le hnot)
    show ¬ (281474976710656 < _)
    omega
  have hk : (match d1 with | .int _ => true | _ => false) = false := by cases d1 <;> first | rfl | exact absurd rfl (hd _)
  have hmax : ¬ (((sLen + n : Nat) : Int) > IntKind.i64.max ∧ (false = true ∨ info.bytes = 0)) := by
    intro q
    have h1 := q.1
    have : IntKind.i64.max = 9223372036854775807 := by decide
    rw [this] at h1
    omega
  unfold Builtin.append_
  simp only [ht0, ht1, List.getElem?_toArray, List.getElem?_cons_zero, List.getElem?_cons_succ, Sem.run_bind, run_underlying hu0, run_underlying hu1, Result.andThen_ok, run_sizeOf hs, Sem.run_pure, run_typeInfo hi]
  rw [if_neg Bool.false_ne_true]
  simp only [Sem.run_bind, hn, Result.andThen_ok]
  rw [if_neg (by omega : ¬ sLen + n ≤ sCap)]
  simp only [Sem.run_bind, run_typeInfo hi, Result.andThen_ok]
  rw [if_neg hmax]
  simp only [Sem.run_bind, run_typeInfo hi, Result.andThen_ok]
  rw [if_neg hbig]
  simp only [Sem.run_bind, run_choose, Question.forced, Bool.false_eq_true, if_false, Result.andThen_ok, run_typeInfo hi, run_askRoom, hold, hc, Bool.not_false, if_true, hnew, hz0, newRow, run_newObj, Sem.run_pure]
  congr 3
  apply congrArg (fun x => Obj.cells x elem (0, 0))
  apply Array.toList_inj.1
  simp

/-- An append that fits. -/
theorem run_fits {P : Program} {t0 t1 ty : TypeId} {ts : Array TypeId} {elem : TypeId} {d1 : TypeDesc} {sz n : Nat} {s : Sg} {b off : Nat} {sLen sCap : Nat} {X : Value} {new : List AV} {w w' : World}
    (ht0 : ts[0]? = some t0) (ht1 : ts[1]? = some t1) (hu0 : P.underlying t0 = some (.slice elem)) (hu1 : P.underlying t1 = some d1) (hd : ∀ k, d1 ≠ .int k) (hs : sizeOf? P elem = some sz)
    (hn : (Builtin.lenOf X).run P w = .ok n w) (hfit : sLen + n ≤ sCap) (hnew : (Builtin.firstCells sz n X).run P w = .ok (concL s new).toArray w)
    (hst : (storeCells ⟨b, off + sLen * sz, none⟩ (concL s new)).run P w = .ok () w') :
    (Builtin.append_ ts ty #[.slice (some ⟨b, off, none⟩) sLen sCap, X]).run P w = .ok (.slice (some ⟨b, off, none⟩) (sLen + n) sCap) w' := by
  have hk : (match d1 with | .int _ => true | _ => false) = false := by cases d1 <;> first | rfl | exact absurd rfl (hd _)
  unfold Builtin.append_
  simp only [ht0, ht1, List.getElem?_toArray, List.getElem?_cons_zero, List.getElem?_cons_succ, Sem.run_bind, run_underlying hu0, run_underlying hu1, Result.andThen_ok, run_sizeOf hs, Sem.run_pure]
  rw [if_neg Bool.false_ne_true]
  simp only [Sem.run_bind, hn, Result.andThen_ok]
  rw [if_pos hfit]
  simp only [Sem.run_bind, Bool.not_false, if_true, hnew, Result.andThen_ok, addr_add, hst, Sem.run_pure]
theorem run_fits_nil {P : Program} {t0 t1 ty : TypeId} {ts : Array TypeId} {elem : TypeId} {d1 : TypeDesc} {sz : Nat} {s : Sg} {X : Value} {w : World}
    (ht0 : ts[0]? = some t0) (ht1 : ts[1]? = some t1) (hu0 : P.underlying t0 = some (.slice elem)) (hu1 : P.underlying t1 = some d1) (hd : ∀ k, d1 ≠ .int k) (hs : sizeOf? P elem = some sz)
    (hn : (Builtin.lenOf X).run P w = .ok 0 w) {l : List AV} (hnew : (Builtin.firstCells sz 0 X).run P w = .ok (concL s l).toArray w) :
    (Builtin.append_ ts ty #[.slice none 0 0, X]).run P w = .ok (.slice none 0 0) w := by
  have hk : (match d1 with | .int _ => true | _ => false) = false := by cases d1 <;> first | rfl | exact absurd rfl (hd _)
  unfold Builtin.append_
  simp only [ht0, ht1, List.getElem?_toArray, List.getElem?_cons_zero, List.getElem?_cons_succ, Sem.run_bind, run_underlying hu0, run_underlying hu1, Result.andThen_ok, run_sizeOf hs, Sem.run_pure]
  rw [if_neg Bool.false_ne_true]
  simp only [Sem.run_bind, hn, Result.andThen_ok]
  rw [if_pos (by omega)]
  simp only [Sem.run_bind, Bool.not_false, if_true, hnew, Result.andThen_ok, Sem.run_pure]

/-- The same, of zeros: 'append(s, make([]T, n)...)'. -/
theorem zeroCells_rep {z : AV} {s : Sg} {sz n : Nat} (hzl : (avCells z).length = sz) : Builtin.zeroCells (conc s z).cells n = (concL s (rep n (avCells z))).toArray := by
  unfold Builtin.zeroCells
  refine rep_zeros s _ n _ _ (cells_conc s z) ?_
  rw [← Array.length_toList, cells_conc, concL_length]
theorem run_growZ {P : Program} {t0 t1 ty : TypeId} {ts : Array TypeId} {elem : TypeId} {ki kx : IntKind} {xi : Int} {sz n : Nat} {z : AV} {s : Sg} {info : TypeInfo} {base : Option Addr} {sLen sCap : Nat} {old : List AV} {w : World}
    (ht0 : ts[0]? = some t0) (ht1 : ts[1]? = some t1) (hu0 : P.underlying t0 = some (.slice elem)) (hu1 : P.underlying t1 = some (.int ki)) (hs : sizeOf? P elem = some sz) (hz : zeroOf? P elem = some z)
    (hi : P.info? elem = some info) (hzl : (avCells z).length = sz) (hpos : 0 < sz) (hn : IntKind.i64.wrap xi = (n : Int)) (hnb : n * info.bytes ≤ 281474976710656) (hnot : sCap < sLen + n) (hb : (2 * (sLen + n) + 192) * info.bytes ≤ 281474976710656) (hne : sLen + n ≤ 1099511627776)
    (hold : ∀ d, (Builtin.firstCells sz sLen (.slice base sLen sCap)).run P { w with drawn := d } = .ok (concL s old).toArray { w with drawn := d }) :
    ∃ c, sLen + n ≤ c ∧ ∃ d, ∃ rest : List Value, rest.length = (c - (sLen + n)) * sz ∧ (Builtin.append_ ts ty #[.slice base sLen sCap, .int kx xi]).run P w =
      .ok (.slice (some ⟨w.heap.size, 0, none⟩) (sLen + n) c) { w with drawn := d, heap := w.heap.push (.cells (concL s old ++ concL s (rep n (avCells z)) ++ rest).toArray elem (0, 0)) } := by
  refine ⟨(Question.appendCap (sLen + n) sCap elem).cut (w.tape w.drawn (.appendCap (sLen + n) sCap elem)), by simp [Question.cut], w.drawn + 1, ?_⟩
  have hz0 := run_zeroValue hz s
  have hzs : (conc s z).cells.size = sz := by rw [← Array.length_toList, cells_conc, concL_length, hzl]
  generalize hc : (Question.appendCap (sLen + n) sCap elem).cut (w.tape w.drawn (.appendCap (sLen + n) sCap elem)) = c
  refine ⟨(Builtin.zeroCells (conc s z).cells (c - (sLen + n))).toList, by simp [Builtin.zeroCells, hzs], ?_⟩
  have hbig : ¬ (Builtin.nextslicecap (sLen + n) sCap * info.bytes > 2 ^ 48) := by
    have := Nat.mul_le_mul_right info.bytes (next_le hnot)
    show ¬ (281474976710656 < _)
    omega
  have hmax : ¬ (((sLen + n : Nat) : Int) > IntKind.i64.max ∧ (True ∨ info.bytes = 0)) := by
    intro q
    have h1 := q.1
    have : IntKind.i64.max = 9223372036854775807 := by decide
    rw [this] at h1
    omega
  have hlow : ¬ ((n : Int) < 0) := by omega
  have hhigh : ¬ ((n : Int) * (info.bytes : Int) > 2 ^ 48) := by
    have hm : (n : Int) * (info.bytes : Int) = ((n * info.bytes : Nat) : Int) := (Int.natCast_mul _ _).symm
    rw [hm]
    show ¬ ((281474976710656 : Int) < _)
    omega
  have hsz : n ≠ 0 → ¬ (n * sz = 0) := fun h q => by rcases Nat.mul_eq_zero.1 q with r | r <;> omega
  unfold Builtin.append_
  simp only [ht0, ht1, List.getElem?_toArray, List.getElem?_cons_zero, List.getElem?_cons_succ, Sem.run_bind, run_underlying hu0, run_underlying hu1, Result.andThen_ok, run_sizeOf hs, Sem.run_pure, run_typeInfo hi]
  rw [if_pos trivial]
  simp only [asInt, asIntOf, Sem.run_bind, Sem.run_pure, Result.andThen_ok, hn]
  rw [if_neg hlow]
  simp only [Sem.run_bind, run_typeInfo hi, Result.andThen_ok]
  rw [if_neg hhigh]
  simp only [Sem.run_bind, Sem.run_pure, Result.andThen_ok, Int.toNat_natCast]
  rw [if_neg (by omega : ¬ sLen + n ≤ sCap)]
  simp only [Sem.run_bind, run_typeInfo hi, Result.andThen_ok]
  rw [if_neg hmax]
  simp only [Sem.run_bind, run_typeInfo hi, Result.andThen_ok]
  rw [if_neg hbig]
  simp only [Sem.run_bind, run_choose, Question.forced, Bool.false_eq_true, if_false, Result.andThen_ok, run_typeInfo hi, run_askRoom, hold, hc, Bool.not_true]
  by_cases hn0 : n * sz = 0
  · have hn1 : n = 0 := by rcases Nat.mul_eq_zero.1 hn0 with r | r <;> omega
    subst hn1
    rw [if_pos hn0]
    simp only [Sem.run_pure, Result.andThen_ok, hz0, Sem.run_bind, newRow, run_newObj]
    congr 3
    apply congrArg (fun x => Obj.cells x elem (0, 0))
    apply Array.toList_inj.1
    simp [rep, concL]
  · rw [if_neg hn0]
    simp only [Sem.run_bind, Sem.run_pure, Result.andThen_ok, hz0, newRow, run_newObj]
    congr 3
    apply congrArg (fun x => Obj.cells x elem (0, 0))
    apply Array.toList_inj.1
    rw [zeroCells_rep (n := n) hzl]
    simp
theorem run_fitsZ {P : Program} {t0 t1 ty : TypeId} {ts : Array TypeId} {elem : TypeId} {ki kx : IntKind} {xi : Int} {sz n : Nat} {z : AV} {s : Sg} {info : TypeInfo} {b off : Nat} {sLen sCap : Nat} {w w' : World}
    (ht0 : ts[0]? = some t0) (ht1 : ts[1]? = some t1) (hu0 : P.underlying t0 = some (.slice elem)) (hu1 : P.underlying t1 = some (.int ki)) (hs : sizeOf? P elem = some sz) (hz : zeroOf? P elem = some z)
    (hi : P.info? elem = some info) (hzl : (avCells z).length = sz) (hpos : 0 < sz) (hn : IntKind.i64.wrap xi = (n : Int)) (hnb : n * info.bytes ≤ 281474976710656) (hfit : sLen + n ≤ sCap)
    (hst : (storeCells ⟨b, off + sLen * sz, none⟩ (concL s (rep n (avCells z)))).run P w = .ok () w') :
    (Builtin.append_ ts ty #[.slice (some ⟨b, off, none⟩) sLen sCap, .int kx xi]).run P w = .ok (.slice (some ⟨b, off, none⟩) (sLen + n) sCap) w' := by
  have hz0 := run_zeroValue hz s
  have hlow : ¬ ((n : Int) < 0) := by omega
  have hhigh : ¬ ((n : Int) * (info.bytes : Int) > 2 ^ 48) := by
    have hm : (n : Int) * (info.bytes : Int) = ((n * info.bytes : Nat) : Int) := (Int.natCast_mul _ _).symm
    rw [hm]
    show ¬ ((281474976710656 : Int) < _)
    omega
  unfold Builtin.append_
  simp only [ht0, ht1, List.getElem?_toArray, List.getElem?_cons_zero, List.getElem?_cons_succ, Sem.run_bind, run_underlying hu0, run_underlying hu1, Result.andThen_ok, run_sizeOf hs, Sem.run_pure, run_typeInfo hi]
  rw [if_pos trivial]
  simp only [asInt, asIntOf, Sem.run_bind, Sem.run_pure, Result.andThen_ok, hn]
  rw [if_neg hlow]
  simp only [Sem.run_bind, run_typeInfo hi, Result.andThen_ok]
  rw [if_neg hhigh]
  simp only [Sem.run_bind, Sem.run_pure, Result.andThen_ok, Int.toNat_natCast]
  rw [if_pos hfit]
  simp only [Sem.run_bind, Bool.not_true, Bool.false_eq_true, if_false]
  by_cases hn0 : n * sz = 0
  · have hn1 : n = 0 := by rcases Nat.mul_eq_zero.1 hn0 with r | r <;> omega
    subst hn1
    rw [if_pos hn0]
    simp only [rep, concL] at hst
    simp only [Sem.run_pure, Result.andThen_ok, addr_add, Sem.run_bind, hst]
  · rw [if_neg hn0]
    simp only [Sem.run_bind, Sem.run_pure, Result.andThen_ok, hz0, zeroCells_rep (n := n) hzl, addr_add, hst]

/-- What is appended. -/
def appSrc (h : Hp) (d : TypeDesc) (sz by_ : Nat) (z x : AV) : Option (Nat × List AV) := match d with
  | .int _ => match x with
    | .int _ xi => match IntKind.i64.wrap xi with
      | .ofNat n => match Nat.ble (n * by_) 281474976710656 with
        | true => some (n, rep n (avCells z))
        | false => none
      | .negSucc _ => none
    | _ => none
  | _ => srcCells h sz x
def notInt : TypeDesc → Bool | .int _ => false | _ => true
def evGrow (h : Hp) (elem sz by_ need : Nat) (l : List AV) : Option (AV × Hp) := match Nat.ble ((2 * need + 192) * by_) 281474976710656, Nat.ble need 1099511627776 with
  | true, true => match Tr.set FT h.tr h.next (some (.cells l elem (some sz))) with
    | some tr => some (.slice h.next 0 need true 0, ⟨tr, h.next + 1⟩)
    | none => none
  | _, _ => none
def evAppend (P : Program) (h : Hp) (ts : Array TypeId) (su x : AV) : Option (AV × Hp) := match nth ts.toList 0, nth ts.toList 1 with
  | some t0, some t1 => match P.underlying t0, P.underlying t1 with
    | some (.slice elem), some d1 => match sizeOf? P elem, zeroOf? P elem, bytesOf? P elem with
      | some sz, some z, some by_ => match Nat.beq (avCells z).length sz, Nat.blt 0 sz, appSrc h d1 sz by_ z x with
        | true, true, some (n, new) => match su with
          | .nils => match n, notInt d1 with
            | 0, true => some (.nils, h)
            | 0, false => none
            | n + 1, _ => evGrow h elem sz by_ (n + 1) new
          | .slice b off len false c => match Nat.ble (len + n) c with
            | true => match evWrite h b (off + len * sz) new with
              | some h' => some (.slice b off (len + n) false c, h')
              | none => none
            | false => match srcCells h sz (.slice b off len false c) with
              | some (_, old) => evGrow h elem sz by_ (len + n) (old ++ new)
              | none => none
          | .slice b 0 len true 0 => match h.tr.get b with
            | some (.cells l ty (some z')) => match Nat.beq z' sz, Nat.beq ty elem, Nat.ble (len * sz) l.length, oneL new, Nat.ble ((2 * (len + n) + 192) * by_) 281474976710656, Nat.ble (len + n) 1099511627776 with
              | true, true, true, true, true, true => match Tr.set FT h.tr b none with
                | some tr => match Tr.set FT tr h.next (some (.cells (takeN (len * sz) l ++ new) elem (some sz))) with
                  | some tr => some (.slice h.next 0 (len + n) true 0, ⟨tr, h.next + 1⟩)
                  | none => none
                | none => none
              | _, _, _, _, _, _ => none
            | _ => none
          | _ => none
        | _, _, _ => none
      | _, _, _ => none
    | _, _ => none
  | _, _ => none
theorem HRel.drew {s : Sg} {h : Hp} {w : World} (H : HRel s h w) (d : Nat) : HRel s h { w with drawn := d } := ⟨H.obj, H.inj, H.lt, H.wso⟩
theorem evGrow_spec {h h' : Hp} {elem sz by_ need c d : Nat} {l : List AV} {v : AV} (e : evGrow h elem sz by_ need l = some (v, h')) {s : Sg} {w : World} (H : HRel s h w) {rest : List Value}
    (hl : l.length = need * sz) (hc : need ≤ c) (hr : rest.length = (c - need) * sz) (hw : wsL h.next l = true) :
    HRel (upd s h.next (w.heap.size, c)) h' { w with drawn := d, heap := w.heap.push (.cells (concL s l ++ rest).toArray elem (0, 0)) } ∧
    Ext s h w (upd s h.next (w.heap.size, c)) h' { w with drawn := d, heap := w.heap.push (.cells (concL s l ++ rest).toArray elem (0, 0)) } ∧
    conc (upd s h.next (w.heap.size, c)) v = .slice (some ⟨w.heap.size, 0, none⟩) need c ∧ ws h'.next v = true := by
  unfold evGrow at e
  split at e <;> try cases e
  split at e <;> try cases e
  rename_i tr ht
  have hn := (H.drew d).new (c := c) (o' := .cells l elem (some sz)) (ob := .cells (concL s l ++ rest).toArray elem (0, 0)) (tr' := tr) (f := FT) (by
    refine ⟨rest, ?_, ?_⟩
    · rw [concL_upd hw]
    · rw [upd_same, hl, hr, ← Nat.add_mul]; congr 1; omega) (wsO_mono (n := h.next) (by simp) hw) ht
  exact ⟨hn.1, (Ext.drew s h w d).trans hn.2, by simp [conc, upd_same], by simp [ws]⟩

theorem evAppend_run {P : Program} {h h' : Hp} {ts : Array TypeId} {ty : TypeId} {su x v : AV} (e : evAppend P h ts su x = some (v, h')) {s : Sg} {w : World} (H : HRel s h w) (hws : ws h.next su = true) :
    ∃ s' w', (Builtin.append_ ts ty #[conc s su, conc s x]).run P w = .ok (conc s' v) w' ∧ HRel s' h' w' ∧ Ext s h w s' h' w' ∧ ws h'.next v = true := by
  unfold evAppend at e
  split at e <;> try cases e
  rename_i t0 t1 ht0 ht1
  have ht0 : ts[0]? = some t0 := by rw [nth_eq] at ht0; simpa using ht0
  have ht1 : ts[1]? = some t1 := by rw [nth_eq] at ht1; simpa using ht1
  split at e <;> try cases e
  rename_i elem d1 hu0 hu1
  split at e <;> try cases e
  rename_i sz z by_ hs hz hb
  obtain ⟨info, hi, rfl⟩ : ∃ info, P.info? elem = some info ∧ info.bytes = by_ := by
    unfold bytesOf? at hb
    cases hi : P.info? elem <;> simp [hi] at hb
    exact ⟨_, rfl, hb⟩
  split at e <;> try cases e
  rename_i n new hzl hpos hsrc
  have hzl := Nat.eq_of_beq_eq_true hzl
  rw [Nat.blt_eq] at hpos
  have src : wsL h.next new = true ∧ new.length = n * sz ∧
      (∀ (base : Option Addr) (sLen sCap : Nat) (old : List AV), sCap < sLen + n → (2 * (sLen + n) + 192) * info.bytes ≤ 281474976710656 → sLen + n ≤ 1099511627776 →
        (∀ d, (Builtin.firstCells sz sLen (.slice base sLen sCap)).run P { w with drawn := d } = .ok (concL s old).toArray { w with drawn := d }) →
        ∃ c, sLen + n ≤ c ∧ ∃ d, ∃ rest : List Value, rest.length = (c - (sLen + n)) * sz ∧ (Builtin.append_ ts ty #[.slice base sLen sCap, conc s x]).run P w =
          .ok (.slice (some ⟨w.heap.size, 0, none⟩) (sLen + n) c) { w with drawn := d, heap := w.heap.push (.cells (concL s old ++ concL s new ++ rest).toArray elem (0, 0)) }) ∧
      (∀ (b off sLen sCap : Nat) (w' : World), sLen + n ≤ sCap → (storeCells ⟨b, off + sLen * sz, none⟩ (concL s new)).run P w = .ok () w' →
        (Builtin.append_ ts ty #[.slice (some ⟨b, off, none⟩) sLen sCap, conc s x]).run P w = .ok (.slice (some ⟨b, off, none⟩) (sLen + n) sCap) w') ∧
      (n = 0 → (∀ k, d1 ≠ .int k) → (Builtin.append_ ts ty #[.slice none 0 0, conc s x]).run P w = .ok (.slice none 0 0) w) := by
    unfold appSrc at hsrc
    split at hsrc
    · rename_i ki
      split at hsrc <;> try cases hsrc
      rename_i kx xi
      split at hsrc <;> try cases hsrc
      rename_i n' hwr
      split at hsrc <;> try cases hsrc
      rename_i hnb
      have hnb := Nat.le_of_ble_eq_true hnb
      refine ⟨wsL_rep (ws_cells (zeroOf?_ws hz _)) _, by rw [rep_length, hzl], ?_, ?_, ?_⟩
      · intro base sLen sCap old h1 h2 h3 h4
        exact run_growZ ht0 ht1 hu0 hu1 hs hz hi hzl hpos hwr hnb h1 h2 h3 h4
      · intro b off sLen sCap w' h1 h2
        exact run_fitsZ ht0 ht1 hu0 hu1 hs hz hi hzl hpos hwr hnb h1 h2
      · intro _ h; exact absurd rfl (h ki)
    · rename_i hni
      have hd : ∀ k, d1 ≠ .int k := fun k q => hni k q
      obtain ⟨hlen, hfirst, hneww, hnewl⟩ := srcCells_run (P := P) hsrc H
      have hfirstd : ∀ d, (Builtin.firstCells sz n (conc s x)).run P { w with drawn := d } = .ok (concL s new).toArray { w with drawn := d } := fun d => (srcCells_run (P := P) hsrc (H.drew d)).2.1
      refine ⟨hneww, hnewl, ?_, ?_, ?_⟩
      · intro base sLen sCap old h1 h2 h3 h4
        exact run_grow ht0 ht1 hu0 hu1 hd hs hz hi hzl hlen h1 h2 h3 h4 hfirstd
      · intro b off sLen sCap w' h1 h2
        exact run_fits ht0 ht1 hu0 hu1 hd hs hlen h1 hfirst h2
      · intro h0 _
        subst h0
        exact run_fits_nil ht0 ht1 hu0 hu1 hd hs hlen hfirst
  obtain ⟨hneww, hnewl, Grow, Fits, Nil⟩ := src
  split at e
  · split at e
    · rename_i hni
      simp only [Option.some.injEq, Prod.mk.injEq] at e
      obtain ⟨rfl, rfl⟩ := e
      exact ⟨s, w, Nil rfl (fun k q => by subst q; cases hni), H, Ext.refl _ _ _, rfl⟩
    · cases e
    · rename_i n _ _
      have hg := e
      unfold evGrow at hg
      split at hg <;> try cases hg
      rename_i q1 q2
      have q1 := Nat.le_of_ble_eq_true q1
      have q2 := Nat.le_of_ble_eq_true q2
      obtain ⟨c, hc, d, rest, hr, hrun⟩ := Grow none 0 0 [] (by omega) (by simpa using q1) (by omega) (fun d => by simp [Builtin.firstCells, concL])
      simp only [Nat.zero_add] at hc hr hrun
      obtain ⟨h1, h2, h3, h4⟩ := evGrow_spec (d := d) (rest := rest) e H hnewl hc hr hneww
      refine ⟨_, _, ?_, h1, h2, h4⟩
      rw [h3]
      simpa [conc, concL] using hrun
  · rename_i b off len c
    split at e
    · rename_i hf
      have hf := Nat.le_of_ble_eq_true hf
      split at e <;> try cases e
      rename_i hw
      obtain ⟨w', hr, hH, hE⟩ := evWrite_run (P := P) hw H hneww
      refine ⟨s, w', ?_, hH, hE, ws_mono hE.next _ (by simpa [ws] using hws)⟩
      exact Fits _ _ _ _ _ hf hr
    · rename_i hf
      have hf : ¬ len + n ≤ c := fun q => by rw [Nat.ble_eq_true_of_le q] at hf; cases hf
      split at e <;> try cases e
      rename_i k old hold
      obtain ⟨hl2, hf2, ho2, hol⟩ := srcCells_run (P := P) hold H
      have hk : k = len := by
        simp only [conc, Builtin.lenOf, Sem.run_pure, Result.ok.injEq, and_true] at hl2; exact hl2.symm
      subst hk
      have hg := e
      unfold evGrow at hg
      split at hg <;> try cases hg
      rename_i q1 q2
      have q1 := Nat.le_of_ble_eq_true q1
      have q2 := Nat.le_of_ble_eq_true q2
      obtain ⟨cc, hc, d, rest, hr, hrun⟩ := Grow (some ⟨(s b).1, off, none⟩) k c old (by omega) (by simpa using q1) (by omega) (fun d => (srcCells_run (P := P) hold (H.drew d)).2.1)
      obtain ⟨h1, h2, h3, h4⟩ := evGrow_spec (d := d) (rest := rest) e H (by rw [List.length_append, hol, hnewl, Nat.add_mul]) hc hr (wsL_append ho2 hneww)
      refine ⟨_, _, ?_, h1, h2, h4⟩
      rw [h3]
      simpa [conc, concL_append] using hrun
  · rename_i b len
    split at e <;> try cases e
    rename_i l ty' z' hgb
    split at e <;> try cases e
    rename_i q1 q2 q3 q4 q5 q6
    have q1 := Nat.eq_of_beq_eq_true q1
    have q2 := Nat.eq_of_beq_eq_true q2
    have q3 := Nat.le_of_ble_eq_true q3
    have q5 := Nat.le_of_ble_eq_true q5
    have q6 := Nat.le_of_ble_eq_true q6
    subst q1 q2
    split at e <;> try cases e
    rename_i tr₁ ht₁
    split at e <;> try cases e
    rename_i tr₂ ht₂
    obtain ⟨tail, hw, _, htl⟩ := H.cells hgb
    have htl := htl _ rfl
    have hL := concL_length s l
    have hN := concL_length s new
    have hlw : wsL h.next l = true := H.wso _ _ hgb
    have hall : wsL h.next (takeN (len * z') l ++ new) = true := wsL_append (wsL_takeN hlw) hneww
    by_cases hfit : len + n ≤ (s b).2
    · have hsz : (len + n) * z' ≤ (s b).2 * z' := Nat.mul_le_mul_right _ hfit
      rw [Nat.add_mul] at hsz
      obtain ⟨c', hc', hr⟩ := run_storeCells (P := P) (off := len * z') (concL s new) 0 w _ hw (by simp; omega) (by
        intro v hv
        rw [concL_map] at hv
        obtain ⟨y, hy, rfl⟩ := List.mem_map.1 hv
        exact one_conc ((oneL_iff new).1 q4 y hy))
      have hmv := H.move (ob := .cells c' ty' (0, 0)) (o' := .cells (takeN (len * z') l ++ new) ty' (some z')) hgb ht₁ ht₂ (by
        refine ⟨c'.toList.drop ((len + n) * z'), ?_, ?_⟩
        · rw [concL_upd hall]
          congr 2
          apply Array.toList_inj.1
          simp only [List.toList_toArray]
          rw [hc', concL_append, takeN_eq, concL_take]
          simp only [Nat.add_zero]
          rw [List.take_append_of_le_length (by omega), List.append_assoc]
          conv => rhs; rw [List.append_assoc]
          congr 2
          rw [Nat.add_mul, ← List.append_assoc]
          rw [show len * z' + n * z' = ((concL s l).take (len * z') ++ concL s new).length by simp; omega]
          rw [List.drop_left]
        · have h1 : c'.toList.length = (s b).2 * z' := by rw [hc']; simp; omega
          rw [upd_same, List.length_drop, h1, List.length_append, takeN_eq, List.length_take, hnewl, Nat.min_eq_left q3, Nat.add_mul]; omega) hall
      refine ⟨_, _, ?_, hmv.1, hmv.2, by simp [ws]⟩
      have := Fits (s b).1 0 len ((s b).2 - 0) (setB w (s b).1 (.cells c' ty' (0, 0))) (by omega) (by simpa using hr)
      simpa [conc, upd_same] using this
    · have hold : srcCells h z' (.slice b 0 len true 0) = some (len, takeN (len * z') l) := by
        simp only [srcCells, hgb]
        rw [show Nat.ble (0 + len * z') l.length = true from Nat.ble_eq_true_of_le (by omega)]
        simp [dropN]
      obtain ⟨hl2, hf2, ho2, hol⟩ := srcCells_run (P := P) hold H
      obtain ⟨cc, hc, d, rest, hr, hrun⟩ := Grow (some ⟨(s b).1, 0, none⟩) len ((s b).2 - 0) (takeN (len * z') l) (by omega) (by simpa using q5) (by omega) (fun d => (srcCells_run (P := P) hold (H.drew d)).2.1)
      have hk := H.kill ht₁
      have he : evGrow ⟨tr₁, h.next⟩ ty' z' info.bytes (len + n) (takeN (len * z') l ++ new) = some (.slice h.next 0 (len + n) true 0, ⟨tr₂, h.next + 1⟩) := by
        unfold evGrow
        rw [Nat.ble_eq_true_of_le q5, Nat.ble_eq_true_of_le q6]
        simp only [ht₂]
      obtain ⟨h1, h2, h3, h4⟩ := evGrow_spec (d := d) (rest := rest) he hk.1 (by rw [List.length_append, hol, hnewl, Nat.add_mul]) hc hr hall
      refine ⟨_, _, ?_, h1, hk.2.trans h2, h4⟩
      rw [h3]
      simpa [conc, concL_append] using hrun
  · cases e
end Go.Proofs.YtpdgjcejkmkglaaGreat.Ev
