/- The small machine: append and copy. -/
import Derived.Test.YtghmfggmimoinaaGreatEvN
namespace Go.Proofs.YtghmfggmimoinaaGreat.Ev
open Go Go.RowKit
theorem HRel.move {s : Sg} {h : Hp} {w : World} (H : HRel s h w) {b f g : Nat} {o o' : AObj} {ob : Obj} {tr₁ tr₂ : Tr AObj} (hb : h.tr.get b = some o)
  (ht₁ : Tr.set f h.tr b none = some tr₁) (ht₂ : Tr.set g tr₁ h.next (some o') = some tr₂) (ho : ORel (upd s h.next (s b)) h.next o' (some ob)) (hw : wsO h.next o' = true) :
  HRel (upd s h.next (s b)) ⟨tr₂, h.next + 1⟩ (setB w (s b).1 ob) ∧ Ext s h w (upd s h.next (s b)) ⟨tr₂, h.next + 1⟩ (setB w (s b).1 ob) := by
 have hg₁ := Tr.Zao f h.tr b none tr₁ ht₁
 have hg₂ := Tr.Zao g tr₁ h.next (some o') tr₂ ht₂
 have hin := H.bound hb
 have hbn := H.lt b o hb
 have old : ∀ j, j < h.next → upd s h.next (s b) j = s j := fun j hj => Zy3 s _ _ hj
 have alt : ∀ j o₁, tr₂.get j = some o₁ → (j = h.next ∧ o₁ = o') ∨ (h.tr.get j = some o₁ ∧ j ≠ b ∧ j < h.next) := by
  intro j o₁ hj
  rw [hg₂ j] at hj
  by_cases q : j = h.next
  ·rw [if_pos q] at hj; grind
  ·rw [if_neg q, hg₁ j] at hj
   by_cases r : j = b
   ·rw [if_pos r] at hj; cases hj
   ·rw [if_neg r] at hj; exact .inr ⟨hj, r, H.lt j o₁ hj⟩
 refine ⟨⟨?_, ?_, ?_, ?_⟩, ⟨rfl, rfl, rfl, by rw [Zfb]; exact Nat.le_refl _, old, by simp, ?_, ?_, fun j o₁ hj hlt => by grind⟩⟩
 ·intro j o₁ hj
  rcases alt j o₁ hj with ⟨rfl, rfl⟩ | ⟨hj, hne, hlt⟩
  ·rw [Zbb, Zdk, if_pos ⟨rfl, hin⟩]; exact ho
  ·rw [old j hlt, Zdk, if_neg (fun r => hne (H.inj j b o₁ o hj hb r.1))]
   exact (H.obj j o₁ hj).congr old hlt (H.wso j o₁ hj)
 ·intro j k o₁ o₂ hj hk e
  rcases alt j o₁ hj with ⟨rfl, rfl⟩ | ⟨hj, hne, hlt⟩ <;> rcases alt k o₂ hk with ⟨rfl, rfl⟩ | ⟨hk, hne', hlt'⟩
  ·rfl
  ·rw [Zbb, old k hlt'] at e; exact absurd (H.inj k b o₂ o hk hb e.symm) hne'
  ·rw [Zbb, old j hlt] at e; exact absurd (H.inj j b o₁ o hj hb e) hne
  ·rw [old j hlt, old k hlt'] at e; exact H.inj j k o₁ o₂ hj hk e
 ·intro j o₁ hj
  grind
 ·intro j o₁ hj
  rcases alt j o₁ hj with ⟨rfl, rfl⟩ | ⟨hj, hne, hlt⟩
  ·exact Zm7 (by simp) hw
  ·exact Zm7 (by simp) (H.wso j o₁ hj)
 ·intro k hk hn
  rw [Zdk, if_neg (fun r => hn b o hb r.1.symm)]
 ·intro j o₁ hj
  rcases alt j o₁ hj with ⟨rfl, rfl⟩ | ⟨hj, hne, hlt⟩
  ·exact .inl ⟨b, o, hb, by rw [Zbb]⟩
  grind
def Zmc (h : Hp) (sz : Nat) : AV → Option (Nat × List AV)
 | .nils => some (0, [])
 | .slice b off n _ _ => match h.tr.get b with
  | some (.cells l _ _) => match Nat.ble (off + n * sz) l.length with
   | true => some (n, takeN (n * sz) (dropN off l))
   | false => none
  | _ => none
 | _ => none
theorem Zi4 {P : Program} {h : Hp} {sz : Nat} {x : AV} {n : Nat} {l : List AV} (e : Zmc h sz x = some (n, l)) {s : Sg} {w : World} (H : HRel s h w) :
  (Builtin.lenOf (conc s x)).run P w = .ok n w ∧ (Builtin.firstCells sz n (conc s x)).run P w = .ok (concL s l).toArray w ∧ wsL h.next l = true ∧ l.length = n * sz := by
 unfold Zmc at e
 split at e
 ·obtain ⟨rfl, rfl⟩ := e; simp [conc, Builtin.lenOf, Builtin.firstCells, concL, wsL]
 ·rename_i b off n' u c
  split at e <;> try cases e
  rename_i cs ty op hb
  split at e <;> try cases e
  rename_i hl
  have hl := Nat.le_of_ble_eq_true hl
  obtain ⟨tail, hw, _, _⟩ := H.cells hb
  have hL := Zc3 s cs
  have hws := H.wso _ _ hb
  refine ⟨by simp [conc, Builtin.lenOf], ?_, Zt3 (Zvy hws), by simp [Zdt, Ze9]; omega⟩
  simp only [conc, Builtin.firstCells, loadCells]
  rw [run_loadCells hw _ 0 #[] (by simp; omega)]
  congr 2
  simp only [Nat.add_zero, Zdt, Ze9, Zln, Zmo, List.toList_toArray, List.nil_append]
  grind
 ·cases e
theorem Za1x (m : Nat) : ∀ (r c : Nat), c ≤ 2 * m + 192 → Builtin.growBy m r c ≤ 2 * m + 192
 | 0, c, h => by simpa [Builtin.growBy] using h
 | r + 1, c, h => by
  simp only [Builtin.growBy]
  split
  ·exact h
  ·exact Za1x m r _ (by omega)
theorem Zu4 {need old : Nat} (h : old < need) : Builtin.nextslicecap need old ≤ 2 * need + 192 := by
 unfold Builtin.nextslicecap
 split
 ·omega
 ·split
  ·omega
  ·exact Za1x _ _ _ (by omega)
theorem cut_le (need old : Nat) (el : TypeId) (t : Nat) (h : need ≤ 1099511627776) : (Question.appendCap need old el).cut t ≤ 9223372036854775807 := by
 have := Nat.mod_lt t (show 0 < 2 ^ 63 - need by omega)
 show need + t % (2 ^ 63 - need) ≤ _
 omega
theorem Ztc {P : Program} {t0 t1 ty : TypeId} {ts : Array TypeId} {elem : TypeId} {d1 : TypeDesc} {sz n : Nat} {z : AV} {s : Sg} {info : TypeInfo} {base : Option Addr} {sLen sCap : Nat} {X : Value} {old new : List AV} {w : World}
  (ht0 : ts[0]? = some t0) (ht1 : ts[1]? = some t1) (hu0 : P.underlying t0 = some (.slice elem)) (hu1 : P.underlying t1 = some d1) (hd : ∀ k, d1 ≠ .int k) (hs : Zbz P elem = some sz) (hz : Ze3 P elem = some z)
  (hi : P.info? elem = some info) (hzl : (Zb9 z).length = sz) (hn : (Builtin.lenOf X).run P w = .ok n w) (hnot : sCap < sLen + n) (hb : (2 * (sLen + n) + 192) * info.bytes ≤ 281474976710656) (hne : sLen + n ≤ 1099511627776)
  (hold : ∀ d, (Builtin.firstCells sz sLen (.slice base sLen sCap)).run P { w with drawn := d } = .ok (concL s old).toArray { w with drawn := d })
  (hnew : ∀ d, (Builtin.firstCells sz n X).run P { w with drawn := d } = .ok (concL s new).toArray { w with drawn := d }) :
  ∃ c, sLen + n ≤ c ∧ c ≤ 9223372036854775807 ∧ ∃ d, ∃ rest : List Value, rest.length = (c - (sLen + n)) * sz ∧ (Builtin.append_ ts ty #[.slice base sLen sCap, X]).run P w =
   .ok (.slice (some ⟨w.heap.size, 0, none⟩) (sLen + n) c) { w with drawn := d, heap := w.heap.push (.cells (concL s old ++ concL s new ++ rest).toArray elem (0, 0)) } := by
 refine ⟨(Question.appendCap (sLen + n) sCap elem).cut (w.tape w.drawn (.appendCap (sLen + n) sCap elem)), by simp [Question.cut], cut_le _ _ _ _ (by omega), w.drawn + 1, ?_⟩
 have hz0 := Zbe hz s
 have hzs : (conc s z).cells.size = sz := by rw [← Array.length_toList, Zg8, Zc3, hzl]
 generalize hc : (Question.appendCap (sLen + n) sCap elem).cut (w.tape w.drawn (.appendCap (sLen + n) sCap elem)) = c
 refine ⟨(Builtin.zeroCells (conc s z).cells (c - (sLen + n))).toList, by simp [Builtin.zeroCells, hzs], ?_⟩
 have hbig : ¬ (Builtin.nextslicecap (sLen + n) sCap * info.bytes > 2 ^ 48) := by
  have := Nat.mul_le_mul_right info.bytes (Zu4 hnot)
  show ¬ (281474976710656 < _)
  omega
 have hk : (match d1 with | .int _ => true | _ => false) = false := by simp
 have hmax : ¬ (((sLen + n : Nat) : Int) > IntKind.i64.max ∧ (false = true ∨ info.bytes = 0)) := by
  intro q
  have h1 := q.1
  have : IntKind.i64.max = 9223372036854775807 := by decide
  rw [this] at h1
  omega
 unfold Builtin.append_
 simp only [ht0, ht1, List.getElem?_toArray, List.getElem?_cons_zero, List.getElem?_cons_succ, Sem.run_bind, run_underlying hu0, run_underlying hu1, Result.andThen_ok, run_sizeOf hs, Sem.run_pure, run_typeInfo hi]
 rw [if_neg Bool.false_ne_true]
 simp only [Sem.run_bind, hn, Result.andThen_ok]
 rw [if_neg (by omega : ¬ sLen + n ≤ sCap)]
 simp only [Sem.run_bind, run_typeInfo hi, Result.andThen_ok]
 rw [if_neg hmax]
 simp only [Sem.run_bind, run_typeInfo hi, Result.andThen_ok]
 rw [if_neg hbig]
 simp only [Sem.run_bind, run_choose, Question.forced, Bool.false_eq_true, if_false, Result.andThen_ok, run_typeInfo hi, run_askRoom, hold, hc, Bool.not_false, if_true, hnew, hz0, newRow, run_newObj, Sem.run_pure]
 congr 3
 simp_all
theorem Zvh {P : Program} {t0 t1 ty : TypeId} {ts : Array TypeId} {elem : TypeId} {d1 : TypeDesc} {sz n : Nat} {s : Sg} {b off : Nat} {sLen sCap : Nat} {X : Value} {new : List AV} {w w' : World}
  (ht0 : ts[0]? = some t0) (ht1 : ts[1]? = some t1) (hu0 : P.underlying t0 = some (.slice elem)) (hu1 : P.underlying t1 = some d1) (hd : ∀ k, d1 ≠ .int k) (hs : Zbz P elem = some sz)
  (hn : (Builtin.lenOf X).run P w = .ok n w) (hfit : sLen + n ≤ sCap) (hnew : (Builtin.firstCells sz n X).run P w = .ok (concL s new).toArray w)
  (hst : (storeCells ⟨b, off + sLen * sz, none⟩ (concL s new)).run P w = .ok () w') :
  (Builtin.append_ ts ty #[.slice (some ⟨b, off, none⟩) sLen sCap, X]).run P w = .ok (.slice (some ⟨b, off, none⟩) (sLen + n) sCap) w' := by
 have hk : (match d1 with | .int _ => true | _ => false) = false := by simp
 unfold Builtin.append_
 simp only [ht0, ht1, List.getElem?_toArray, List.getElem?_cons_zero, List.getElem?_cons_succ, Sem.run_bind, run_underlying hu0, run_underlying hu1, Result.andThen_ok, run_sizeOf hs, Sem.run_pure]
 rw [if_neg Bool.false_ne_true]
 simp only [Sem.run_bind, hn, Result.andThen_ok]
 rw [if_pos hfit]
 simp only [Sem.run_bind, Bool.not_false, if_true, hnew, Result.andThen_ok, Zd7, hst, Sem.run_pure]
theorem Zrb {P : Program} {t0 t1 ty : TypeId} {ts : Array TypeId} {elem : TypeId} {d1 : TypeDesc} {sz : Nat} {s : Sg} {X : Value} {w : World}
  (ht0 : ts[0]? = some t0) (ht1 : ts[1]? = some t1) (hu0 : P.underlying t0 = some (.slice elem)) (hu1 : P.underlying t1 = some d1) (hd : ∀ k, d1 ≠ .int k) (hs : Zbz P elem = some sz)
  (hn : (Builtin.lenOf X).run P w = .ok 0 w) {l : List AV} (hnew : (Builtin.firstCells sz 0 X).run P w = .ok (concL s l).toArray w) :
  (Builtin.append_ ts ty #[.slice none 0 0, X]).run P w = .ok (.slice none 0 0) w := by
 have hk : (match d1 with | .int _ => true | _ => false) = false := by simp
 unfold Builtin.append_
 simp only [ht0, ht1, List.getElem?_toArray, List.getElem?_cons_zero, List.getElem?_cons_succ, Sem.run_bind, run_underlying hu0, run_underlying hu1, Result.andThen_ok, run_sizeOf hs, Sem.run_pure]
 simp_all
theorem Zt2 {z : AV} {s : Sg} {sz n : Nat} (hzl : (Zb9 z).length = sz) : Builtin.zeroCells (conc s z).cells n = (concL s (rep n (Zb9 z))).toArray := by
 refine Zwi s _ n _ _ (Zg8 s z) ?_
 rw [← Array.length_toList, Zg8, Zc3]
theorem Za7d {P : Program} {t0 t1 ty : TypeId} {ts : Array TypeId} {elem : TypeId} {ki kx : IntKind} {xi : Int} {sz n : Nat} {z : AV} {s : Sg} {info : TypeInfo} {base : Option Addr} {sLen sCap : Nat} {old : List AV} {w : World}
  (ht0 : ts[0]? = some t0) (ht1 : ts[1]? = some t1) (hu0 : P.underlying t0 = some (.slice elem)) (hu1 : P.underlying t1 = some (.int ki)) (hs : Zbz P elem = some sz) (hz : Ze3 P elem = some z)
  (hi : P.info? elem = some info) (hzl : (Zb9 z).length = sz) (hpos : 0 < sz) (hn : IntKind.i64.wrap xi = (n : Int)) (hnb : n * info.bytes ≤ 281474976710656) (hnot : sCap < sLen + n) (hb : (2 * (sLen + n) + 192) * info.bytes ≤ 281474976710656) (hne : sLen + n ≤ 1099511627776)
  (hold : ∀ d, (Builtin.firstCells sz sLen (.slice base sLen sCap)).run P { w with drawn := d } = .ok (concL s old).toArray { w with drawn := d }) :
  ∃ c, sLen + n ≤ c ∧ c ≤ 9223372036854775807 ∧ ∃ d, ∃ rest : List Value, rest.length = (c - (sLen + n)) * sz ∧ (Builtin.append_ ts ty #[.slice base sLen sCap, .int kx xi]).run P w =
   .ok (.slice (some ⟨w.heap.size, 0, none⟩) (sLen + n) c) { w with drawn := d, heap := w.heap.push (.cells (concL s old ++ concL s (rep n (Zb9 z)) ++ rest).toArray elem (0, 0)) } := by
 refine ⟨(Question.appendCap (sLen + n) sCap elem).cut (w.tape w.drawn (.appendCap (sLen + n) sCap elem)), by simp [Question.cut], cut_le _ _ _ _ (by omega), w.drawn + 1, ?_⟩
 have hz0 := Zbe hz s
 have hzs : (conc s z).cells.size = sz := by rw [← Array.length_toList, Zg8, Zc3, hzl]
 generalize hc : (Question.appendCap (sLen + n) sCap elem).cut (w.tape w.drawn (.appendCap (sLen + n) sCap elem)) = c
 refine ⟨(Builtin.zeroCells (conc s z).cells (c - (sLen + n))).toList, by simp [Builtin.zeroCells, hzs], ?_⟩
 have hbig : ¬ (Builtin.nextslicecap (sLen + n) sCap * info.bytes > 2 ^ 48) := by
  have := Nat.mul_le_mul_right info.bytes (Zu4 hnot)
  show ¬ (281474976710656 < _)
  omega
 have hmax : ¬ (((sLen + n : Nat) : Int) > IntKind.i64.max ∧ (True ∨ info.bytes = 0)) := by
  intro q
  have h1 := q.1
  have : IntKind.i64.max = 9223372036854775807 := by decide
  rw [this] at h1
  omega
 have hlow : ¬ ((n : Int) < 0) := by omega
 have hhigh : ¬ ((n : Int) * (info.bytes : Int) > 2 ^ 48) := by omega
 have hsz : n ≠ 0 → ¬ (n * sz = 0) := fun h q => by rcases Nat.mul_eq_zero.1 q with r | r <;> omega
 unfold Builtin.append_
 simp only [ht0, ht1, List.getElem?_toArray, List.getElem?_cons_zero, List.getElem?_cons_succ, Sem.run_bind, run_underlying hu0, run_underlying hu1, Result.andThen_ok, run_sizeOf hs, Sem.run_pure, run_typeInfo hi]
 rw [if_pos trivial]
 simp only [asInt, asIntOf, Sem.run_bind, Sem.run_pure, Result.andThen_ok, hn]
 rw [if_neg hlow]
 simp only [Sem.run_bind, run_typeInfo hi, Result.andThen_ok]
 rw [if_neg hhigh]
 simp only [Sem.run_bind, Sem.run_pure, Result.andThen_ok, Int.toNat_natCast]
 rw [if_neg (by omega : ¬ sLen + n ≤ sCap)]
 simp only [Sem.run_bind, run_typeInfo hi, Result.andThen_ok]
 rw [if_neg hmax]
 simp only [Sem.run_bind, run_typeInfo hi, Result.andThen_ok]
 rw [if_neg hbig]
 simp only [Sem.run_bind, run_choose, Question.forced, Bool.false_eq_true, if_false, Result.andThen_ok, run_typeInfo hi, run_askRoom, hold, hc, Bool.not_true]
 by_cases hn0 : n * sz = 0
 ·have hn1 : n = 0 := by rcases Nat.mul_eq_zero.1 hn0 with r | r <;> omega
  subst hn1
  rw [if_pos hn0]
  simp only [Sem.run_pure, Result.andThen_ok, hz0, Sem.run_bind, newRow, run_newObj]
  congr 3
  apply congrArg (fun x => Obj.cells x elem (0, 0))
  apply Array.toList_inj.1
  simp [rep, concL]
 ·rw [if_neg hn0]
  simp only [Sem.run_bind, Sem.run_pure, Result.andThen_ok, hz0, newRow, run_newObj]
  congr 3
  apply congrArg (fun x => Obj.cells x elem (0, 0))
  apply Array.toList_inj.1
  rw [Zt2 (n := n) hzl]
  simp
theorem Za7e {P : Program} {t0 t1 ty : TypeId} {ts : Array TypeId} {elem : TypeId} {ki kx : IntKind} {xi : Int} {sz n : Nat} {z : AV} {s : Sg} {info : TypeInfo} {b off : Nat} {sLen sCap : Nat} {w w' : World}
  (ht0 : ts[0]? = some t0) (ht1 : ts[1]? = some t1) (hu0 : P.underlying t0 = some (.slice elem)) (hu1 : P.underlying t1 = some (.int ki)) (hs : Zbz P elem = some sz) (hz : Ze3 P elem = some z)
  (hi : P.info? elem = some info) (hzl : (Zb9 z).length = sz) (hpos : 0 < sz) (hn : IntKind.i64.wrap xi = (n : Int)) (hnb : n * info.bytes ≤ 281474976710656) (hfit : sLen + n ≤ sCap)
  (hst : (storeCells ⟨b, off + sLen * sz, none⟩ (concL s (rep n (Zb9 z)))).run P w = .ok () w') :
  (Builtin.append_ ts ty #[.slice (some ⟨b, off, none⟩) sLen sCap, .int kx xi]).run P w = .ok (.slice (some ⟨b, off, none⟩) (sLen + n) sCap) w' := by
 have hz0 := Zbe hz s
 have hlow : ¬ ((n : Int) < 0) := by omega
 have hhigh : ¬ ((n : Int) * (info.bytes : Int) > 2 ^ 48) := by omega
 unfold Builtin.append_
 simp only [ht0, ht1, List.getElem?_toArray, List.getElem?_cons_zero, List.getElem?_cons_succ, Sem.run_bind, run_underlying hu0, run_underlying hu1, Result.andThen_ok, run_sizeOf hs, Sem.run_pure, run_typeInfo hi]
 rw [if_pos trivial]
 simp only [asInt, asIntOf, Sem.run_bind, Sem.run_pure, Result.andThen_ok, hn]
 rw [if_neg hlow]
 simp only [Sem.run_bind, run_typeInfo hi, Result.andThen_ok]
 rw [if_neg hhigh]
 simp only [Sem.run_bind, Sem.run_pure, Result.andThen_ok, Int.toNat_natCast]
 rw [if_pos hfit]
 simp only [Sem.run_bind, Bool.not_true, Bool.false_eq_true, if_false]
 by_cases hn0 : n * sz = 0
 ·have hn1 : n = 0 := by rcases Nat.mul_eq_zero.1 hn0 with r | r <;> omega
  subst hn1
  rw [if_pos hn0]
  simp only [rep, concL] at hst
  simp only [Sem.run_pure, Result.andThen_ok, Zd7, Sem.run_bind, hst]
 ·rw [if_neg hn0]
  simp only [Sem.run_bind, Sem.run_pure, Result.andThen_ok, hz0, Zt2 (n := n) hzl, Zd7, hst]
def appSrc (h : Hp) (d : TypeDesc) (sz by_ : Nat) (z x : AV) : Option (Nat × List AV) := match d with
 | .int _ => match x with
  | .int _ xi => match IntKind.i64.wrap xi with
   | .ofNat n => match Nat.ble (n * by_) 281474976710656 with
    | true => some (n, rep n (Zb9 z))
    | false => none
   | .negSucc _ => none
  | _ => none
 | _ => Zmc h sz x
def Za4x : TypeDesc → Bool | .int _ => false | _ => true
def Zv0 (h : Hp) (elem sz by_ need : Nat) (l : List AV) : Option (AV × Hp) := match Nat.ble ((2 * need + 192) * by_) 281474976710656, Nat.ble need 1099511627776 with
 | true, true => match Tr.set FT h.tr h.next (some (.cells l elem (some sz))) with
  | some tr => some (.slice h.next 0 need true 0, ⟨tr, h.next + 1⟩)
  | none => none
 | _, _ => none
def Zok (P : Program) (h : Hp) (ts : Array TypeId) (su x : AV) : Option (AV × Hp) := match nth ts.toList 0, nth ts.toList 1 with
 | some t0, some t1 => match P.underlying t0, P.underlying t1 with
  | some (.slice elem), some d1 => match Zbz P elem, Ze3 P elem, Zeb P elem with
   | some sz, some z, some by_ => match Nat.beq (Zb9 z).length sz, Nat.blt 0 sz, appSrc h d1 sz by_ z x with
    | true, true, some (n, new) => match su with
     | .nils => match n, Za4x d1 with
      | 0, true => some (.nils, h)
      | 0, false => none
      | n + 1, _ => Zv0 h elem sz by_ (n + 1) new
     | .slice b off len false c => match Nat.ble (len + n) c with
      | true => match Zqq h b (off + len * sz) new with
       | some h' => some (.slice b off (len + n) false c, h')
       | none => none
      | false => match Zmc h sz (.slice b off len false c) with
       | some (_, old) => Zv0 h elem sz by_ (len + n) (old ++ new)
       | none => none
     | .slice b 0 len true 0 => match h.tr.get b with
      | some (.cells l ty (some z')) => match Nat.beq z' sz, Nat.beq ty elem, Nat.ble (len * sz) l.length, oneL new, Nat.ble ((2 * (len + n) + 192) * by_) 281474976710656, Nat.ble (len + n) 1099511627776 with
       | true, true, true, true, true, true => match Tr.set FT h.tr b none with
        | some tr => match Tr.set FT tr h.next (some (.cells (takeN (len * sz) l ++ new) elem (some sz))) with
         | some tr => some (.slice h.next 0 (len + n) true 0, ⟨tr, h.next + 1⟩)
         | none => none
        | none => none
       | _, _, _, _, _, _ => none
      | _ => none
     | _ => none
    | _, _, _ => none
   | _, _, _ => none
  | _, _ => none
 | _, _ => none
theorem HRel.drew {s : Sg} {h : Hp} {w : World} (H : HRel s h w) (d : Nat) : HRel s h { w with drawn := d } := ⟨H.obj, H.inj, H.lt, H.wso⟩
theorem Zsw {h h' : Hp} {elem sz by_ need c d : Nat} {l : List AV} {v : AV} (e : Zv0 h elem sz by_ need l = some (v, h')) {s : Sg} {w : World} (H : HRel s h w) {rest : List Value}
  (hl : l.length = need * sz) (hc : need ≤ c) (hcm : c ≤ 9223372036854775807) (hr : rest.length = (c - need) * sz) (hw : wsL h.next l = true) :
  HRel (upd s h.next (w.heap.size, c)) h' { w with drawn := d, heap := w.heap.push (.cells (concL s l ++ rest).toArray elem (0, 0)) } ∧
  Ext s h w (upd s h.next (w.heap.size, c)) h' { w with drawn := d, heap := w.heap.push (.cells (concL s l ++ rest).toArray elem (0, 0)) } ∧
  conc (upd s h.next (w.heap.size, c)) v = .slice (some ⟨w.heap.size, 0, none⟩) need c ∧ ws h'.next v = true := by
 unfold Zv0 at e
 split at e <;> try cases e
 split at e <;> try cases e
 rename_i tr ht
 have hn := (H.drew d).new (c := c) (o' := .cells l elem (some sz)) (by
  refine ⟨rest, ?_, ?_, ?_⟩
  ·rw [Za2g hw]
  ·rw [Zbb, hl, hr, ← Nat.add_mul]; congr 1; omega
  ·rw [Zbb]; exact hcm) (Zm7 (by simp) hw) ht
 exact ⟨hn.1, (Ext.drew s h w d).trans hn.2, by simp [conc, Zbb], by simp [ws]⟩
theorem Zoj {P : Program} {h h' : Hp} {ts : Array TypeId} {ty : TypeId} {su x v : AV} (e : Zok P h ts su x = some (v, h')) {s : Sg} {w : World} (H : HRel s h w) (hws : ws h.next su = true) :
  ∃ s' w', (Builtin.append_ ts ty #[conc s su, conc s x]).run P w = .ok (conc s' v) w' ∧ HRel s' h' w' ∧ Ext s h w s' h' w' ∧ ws h'.next v = true := by
 unfold Zok at e
 split at e <;> try cases e
 rename_i t0 t1 ht0 ht1
 have ht0 : ts[0]? = some t0 := by rw [Zcg] at ht0; simpa using ht0
 have ht1 : ts[1]? = some t1 := by rw [Zcg] at ht1; simpa using ht1
 split at e <;> try cases e
 rename_i elem d1 hu0 hu1
 split at e <;> try cases e
 rename_i sz z by_ hs hz hb
 obtain ⟨info, hi, rfl⟩ : ∃ info, P.info? elem = some info ∧ info.bytes = by_ := by
  unfold Zeb at hb
  cases hi : P.info? elem <;> simp [hi] at hb
  exact ⟨_, rfl, hb⟩
 split at e <;> try cases e
 rename_i n new hzl hpos hsrc
 have hzl := Nat.eq_of_beq_eq_true hzl
 rw [Nat.blt_eq] at hpos
 have src : wsL h.next new = true ∧ new.length = n * sz ∧
   (∀ (base : Option Addr) (sLen sCap : Nat) (old : List AV), sCap < sLen + n → (2 * (sLen + n) + 192) * info.bytes ≤ 281474976710656 → sLen + n ≤ 1099511627776 →
    (∀ d, (Builtin.firstCells sz sLen (.slice base sLen sCap)).run P { w with drawn := d } = .ok (concL s old).toArray { w with drawn := d }) →
    ∃ c, sLen + n ≤ c ∧ c ≤ 9223372036854775807 ∧ ∃ d, ∃ rest : List Value, rest.length = (c - (sLen + n)) * sz ∧ (Builtin.append_ ts ty #[.slice base sLen sCap, conc s x]).run P w =
     .ok (.slice (some ⟨w.heap.size, 0, none⟩) (sLen + n) c) { w with drawn := d, heap := w.heap.push (.cells (concL s old ++ concL s new ++ rest).toArray elem (0, 0)) }) ∧
   (∀ (b off sLen sCap : Nat) (w' : World), sLen + n ≤ sCap → (storeCells ⟨b, off + sLen * sz, none⟩ (concL s new)).run P w = .ok () w' →
    (Builtin.append_ ts ty #[.slice (some ⟨b, off, none⟩) sLen sCap, conc s x]).run P w = .ok (.slice (some ⟨b, off, none⟩) (sLen + n) sCap) w') ∧
   (n = 0 → (∀ k, d1 ≠ .int k) → (Builtin.append_ ts ty #[.slice none 0 0, conc s x]).run P w = .ok (.slice none 0 0) w) := by
  unfold appSrc at hsrc
  split at hsrc
  ·rename_i ki
   split at hsrc <;> try cases hsrc
   rename_i kx xi
   split at hsrc <;> try cases hsrc
   rename_i n' hwr
   split at hsrc <;> try cases hsrc
   rename_i hnb
   have hnb := Nat.le_of_ble_eq_true hnb
   refine ⟨Za2v (Zm6 (Zmm hz _)) _, by rw [Zrs, hzl], ?_, ?_, ?_⟩
   ·intro base sLen sCap old h1 h2 h3 h4
    exact Za7d ht0 ht1 hu0 hu1 hs hz hi hzl hpos hwr hnb h1 h2 h3 h4
   ·intro b off sLen sCap w' h1 h2
    exact Za7e ht0 ht1 hu0 hu1 hs hz hi hzl hpos hwr hnb h1 h2
   ·intro _ h; exact absurd rfl (h ki)
  ·rename_i hni
   have hd : ∀ k, d1 ≠ .int k := fun k q => hni k q
   obtain ⟨hlen, hfirst, hneww, hnewl⟩ := Zi4 (P := P) hsrc H
   have hfirstd : ∀ d, (Builtin.firstCells sz n (conc s x)).run P { w with drawn := d } = .ok (concL s new).toArray { w with drawn := d } := fun d => (Zi4 (P := P) hsrc (H.drew d)).2.1
   refine ⟨hneww, hnewl, ?_, ?_, ?_⟩
   ·intro base sLen sCap old h1 h2 h3 h4
    exact Ztc ht0 ht1 hu0 hu1 hd hs hz hi hzl hlen h1 h2 h3 h4 hfirstd
   ·intro b off sLen sCap w' h1 h2
    exact Zvh ht0 ht1 hu0 hu1 hd hs hlen h1 hfirst h2
   ·intro h0 _
    subst h0
    exact Zrb ht0 ht1 hu0 hu1 hd hs hlen hfirst
 obtain ⟨hneww, hnewl, Grow, Fits, Nil⟩ := src
 split at e
 ·split at e
  ·rename_i hni
   simp only [Option.some.injEq, Prod.mk.injEq] at e
   obtain ⟨rfl, rfl⟩ := e
   exact ⟨s, w, Nil rfl (fun k q => by subst q; cases hni), H, Ext.refl _ _ _, rfl⟩
  ·cases e
  ·rename_i n _ _
   have hg := e
   unfold Zv0 at hg
   split at hg <;> try cases hg
   rename_i q1 q2
   have q1 := Nat.le_of_ble_eq_true q1
   have q2 := Nat.le_of_ble_eq_true q2
   obtain ⟨c, hc, hcm, d, rest, hr, hrun⟩ := Grow none 0 0 [] (by omega) (by simpa using q1) (by omega) (fun d => by simp [Builtin.firstCells, concL])
   simp only [Nat.zero_add] at hc hr hrun
   obtain ⟨h1, h2, h3, h4⟩ := Zsw (d := d) (rest := rest) e H hnewl hc hcm hr hneww
   refine ⟨_, _, ?_, h1, h2, h4⟩
   rw [h3]
   simpa [conc, concL] using hrun
 ·rename_i b off len c
  split at e
  ·rename_i hf
   have hf := Nat.le_of_ble_eq_true hf
   split at e <;> try cases e
   rename_i hw
   obtain ⟨w', hr, hH, hE⟩ := Zn0 (P := P) hw H hneww
   refine ⟨s, w', ?_, hH, hE, Zq3 hE.next _ (by simpa [ws] using hws)⟩
   exact Fits _ _ _ _ _ hf hr
  ·rename_i hf
   have hf : ¬ len + n ≤ c := fun q => by rw [Nat.ble_eq_true_of_le q] at hf; cases hf
   split at e <;> try cases e
   rename_i k old hold
   obtain ⟨hl2, hf2, ho2, hol⟩ := Zi4 (P := P) hold H
   have hk : k = len := by
    simp only [conc, Builtin.lenOf, Sem.run_pure, Result.ok.injEq, and_true] at hl2; exact hl2.symm
   subst hk
   have hg := e
   unfold Zv0 at hg
   split at hg <;> try cases hg
   rename_i q1 q2
   have q1 := Nat.le_of_ble_eq_true q1
   have q2 := Nat.le_of_ble_eq_true q2
   obtain ⟨cc, hc, hcm, d, rest, hr, hrun⟩ := Grow (some ⟨(s b).1, off, none⟩) k c old (by omega) (by simpa using q1) (by omega) (fun d => (Zi4 (P := P) hold (H.drew d)).2.1)
   obtain ⟨h1, h2, h3, h4⟩ := Zsw (d := d) (rest := rest) e H (by rw [List.length_append, hol, hnewl, Nat.add_mul]) hc hcm hr (Zje ho2 hneww)
   refine ⟨_, _, ?_, h1, h2, h4⟩
   rw [h3]
   simpa [conc, Zj7] using hrun
 ·rename_i b len
  split at e <;> try cases e
  rename_i l ty' z' hgb
  split at e <;> try cases e
  rename_i q1 q2 q3 q4 q5 q6
  have q1 := Nat.eq_of_beq_eq_true q1
  have q2 := Nat.eq_of_beq_eq_true q2
  have q3 := Nat.le_of_ble_eq_true q3
  have q5 := Nat.le_of_ble_eq_true q5
  have q6 := Nat.le_of_ble_eq_true q6
  subst q1 q2
  split at e <;> try cases e
  rename_i tr₁ ht₁
  split at e <;> try cases e
  rename_i tr₂ ht₂
  obtain ⟨tail, hw, _, htl⟩ := H.cells hgb
  obtain ⟨htl, hcs⟩ := htl _ rfl
  have hL := Zc3 s l
  have hN := Zc3 s new
  have hlw : wsL h.next l = true := H.wso _ _ hgb
  have hall : wsL h.next (takeN (len * z') l ++ new) = true := Zje (Zt3 hlw) hneww
  by_cases hfit : len + n ≤ (s b).2
  ·have hsz : (len + n) * z' ≤ (s b).2 * z' := Nat.mul_le_mul_right _ hfit
   rw [Nat.add_mul] at hsz
   obtain ⟨c', hc', hr⟩ := Zdn (P := P) (off := len * z') (concL s new) 0 w _ hw (by simp; omega) (by
    intro v hv
    rw [Zn2] at hv
    obtain ⟨y, hy, rfl⟩ := List.mem_map.1 hv
    exact Za4r ((Za4s new).1 q4 y hy))
   have hmv := H.move (ob := .cells c' ty' (0, 0)) (o' := .cells (takeN (len * z') l ++ new) ty' (some z')) hgb ht₁ ht₂ (by
    refine ⟨c'.toList.drop ((len + n) * z'), ?_, ?_, by rw [Zbb]; exact hcs⟩
    ·rw [Za2g hall]
     congr 2
     apply Array.toList_inj.1
     simp only [List.toList_toArray]
     rw [hc', Zj7, Zdt, Zln]
     simp only [Nat.add_zero]
     rw [List.take_append_of_le_length (by omega), List.append_assoc]
     conv => rhs; rw [List.append_assoc]
     congr 2
     rw [Nat.add_mul, ← List.append_assoc]
     rw [show len * z' + n * z' = ((concL s l).take (len * z') ++ concL s new).length by simp; omega]
     rw [List.drop_left]
    ·have h1 : c'.toList.length = (s b).2 * z' := by rw [hc']; simp; omega
     rw [Zbb, List.length_drop, h1, List.length_append, Zdt, List.length_take, hnewl, Nat.min_eq_left q3, Nat.add_mul]; omega) hall
   refine ⟨_, _, ?_, hmv.1, hmv.2, by simp [ws]⟩
   have := Fits (s b).1 0 len ((s b).2 - 0) (setB w (s b).1 (.cells c' ty' (0, 0))) (by omega) (by simpa using hr)
   simpa [conc, Zbb] using this
  ·have hold : Zmc h z' (.slice b 0 len true 0) = some (len, takeN (len * z') l) := by
    simp only [Zmc, hgb]
    rw [show Nat.ble (0 + len * z') l.length = true from Nat.ble_eq_true_of_le (by omega)]
    simp [dropN]
   obtain ⟨hl2, hf2, ho2, hol⟩ := Zi4 (P := P) hold H
   obtain ⟨cc, hc, hcm, d, rest, hr, hrun⟩ := Grow (some ⟨(s b).1, 0, none⟩) len ((s b).2 - 0) (takeN (len * z') l) (by omega) (by simpa using q5) (by omega) (fun d => (Zi4 (P := P) hold (H.drew d)).2.1)
   have hk := H.kill ht₁
   have he : Zv0 ⟨tr₁, h.next⟩ ty' z' info.bytes (len + n) (takeN (len * z') l ++ new) = some (.slice h.next 0 (len + n) true 0, ⟨tr₂, h.next + 1⟩) := by
    unfold Zv0
    rw [Nat.ble_eq_true_of_le q5, Nat.ble_eq_true_of_le q6]
    simp only [ht₂]
   obtain ⟨h1, h2, h3, h4⟩ := Zsw (d := d) (rest := rest) he hk.1 (by rw [List.length_append, hol, hnewl, Nat.add_mul]) hc hcm hr hall
   refine ⟨_, _, ?_, h1, hk.2.trans h2, h4⟩
   rw [h3]
   simpa [conc, Zj7] using hrun
 ·cases e
end Go.Proofs.YtghmfggmimoinaaGreat.Ev
