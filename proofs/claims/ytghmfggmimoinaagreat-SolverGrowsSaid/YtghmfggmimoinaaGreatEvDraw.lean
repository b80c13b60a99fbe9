/- The small machine: regions that draw: the plan, and the run by stages. -/
import Derived.Test.YtghmfggmimoinaaGreatEvCode
namespace Go.Proofs.YtghmfggmimoinaaGreat.Ev
open Go Go.RowKit
inductive PE where
 | w (j : Nat)
 | p (lo hi : Nat)
def PE.num : PE → Nat
 | .w j => j
 | .p lo _ => lo
def PE.top : PE → Nat
 | .w j => j - 1
 | .p _ hi => hi
def isW (o : Oper) : Bool := match o.op with
 | .assign _ | .store _ _ _ | .mapUpdate _ _ _ _ | .insert _ _ _ _ => true
 | .call c => match c.callee with
  | .builtin .len | .builtin .max | .builtin .min => false
  | _ => true
 | _ => false
def filt : List Edge → List Nat
 | [] => []
 | e :: l => match Region.binds .any e with
  | true => e.on :: filt l
  | false => filt l
def edges (o : Oper) : List Nat := filt o.after.toList
theorem Zvj : ∀ {l : List Edge} {x : Nat}, x ∈ filt l ↔ ∃ e ∈ l, Region.binds .any e = true ∧ e.on = x
 | [], x => by simp [filt]
 | e :: l, x => by
  simp only [filt]
  cases h : Region.binds .any e
  ·simp only []
   rw [Zvj]
   grind
  ·simp only [List.mem_cons]
   rw [Zvj]
   grind
def Za7x (nums : List Nat) : List Nat → Nat → Nat
 | [], m => m
 | e :: l, m => match nth nums e with
  | some x => Za7x nums l (match Nat.ble m x with | true => x | false => m)
  | none => Za7x nums l m
def lows : List Oper → Nat → List Nat → List (Bool × Nat) → List (Bool × Nat)
 | [], _, _, acc => acc
 | o :: l, c, nums, acc => match isW o with
  | true => lows l (c + 1) (nums ++ [c + 1]) ((true, c + 1) :: acc)
  | false => let m := Za7x nums (edges o) 0; lows l c (nums ++ [m]) ((false, m) :: acc)
def memN : Nat → List Nat → Bool
 | _, [] => false
 | x, y :: l => match Nat.beq x y with
  | true => true
  | false => memN x l
theorem Zky : ∀ {x : Nat} {l : List Nat}, memN x l = true ↔ x ∈ l
 | x, [] => by simp [memN]
 | x, y :: l => by
  simp only [memN]
  cases h : Nat.beq x y
  ·have := Nat.ne_of_beq_eq_false h
   simp [this, Zky]
  simp_all
def topOf (i : Nat) : List (List Nat × PE) → Nat → Nat
 | [], m => m
 | (es, pe) :: l, m => match memN i es with
  | true => topOf i l (match Nat.ble m pe.top with | true => m | false => pe.top)
  | false => topOf i l m
def highs (k : Nat) : List (Oper × Bool × Nat) → Nat → List (List Nat × PE) → List (List Nat × PE)
 | [], _, acc => acc
 | (o, b, x) :: l, i, acc => let es := edges o; highs k l (i - 1) ((es, match b with | true => PE.w x | false => PE.p x (topOf i acc k)) :: acc)
def Za9l : List Oper → Nat
 | [] => 0
 | o :: l => match isW o with
  | true => Za9l l + 1
  | false => Za9l l
def Zm4 (ops : List Oper) : List PE := (highs (Za9l ops) (ops.reverse.zip (lows ops 0 [] [])) (ops.length - 1) []).map (·.2)
def anyE (pl : List PE) (p : PE → Bool) : List Nat → Bool
 | [] => false
 | e :: l => match nth pl e with
  | some pe => match p pe with
   | true => true
   | false => anyE pl p l
  | none => anyE pl p l
theorem Ztt {pl : List PE} {p : PE → Bool} : ∀ {l : List Nat}, anyE pl p l = true → ∃ e pe, e ∈ l ∧ pl[e]? = some pe ∧ p pe = true
 | [], h => by simp [anyE] at h
 | e :: l, h => by
  simp only [anyE] at h
  split at h
  ·rename_i pe he
   rw [Zcg] at he
   split at h
   ·rename_i q; grind
   ·obtain ⟨e', pe', h1, h2⟩ := Ztt h; grind
  ·obtain ⟨e', pe', h1, h2⟩ := Ztt h; grind
def Zwr (i : Nat) : List Nat → Bool
 | [] => true
 | e :: l => match Nat.blt e i with
  | true => Zwr i l
  | false => false
def okHi (i hi : Nat) : List Oper → List PE → Bool
 | o :: l, pe :: ps => match memN i (edges o), (match pe with | .w j => Nat.ble j (hi + 1) | .p _ h => Nat.ble h hi) with
  | true, true => true
  | _, _ => okHi i hi l ps
 | _, _ => false
def tmpsOf : List Operand → List Nat
 | [] => []
 | x :: l => match x with
  | .tmp t => t :: tmpsOf l
  | _ => tmpsOf l
def looks (ops : List Oper) (o : Oper) : List Nat := match o.guard with
 | none => tmpsOf o.op.operands.toList
 | some (j, _) => match nth ops j with
  | some oj => match oj.dst with
   | some t => t :: tmpsOf o.op.operands.toList
   | none => tmpsOf o.op.operands.toList
  | none => tmpsOf o.op.operands.toList
def Zqj (ls es : List Nat) : List Oper → List PE → Nat → Bool
 | y :: l, pe :: ps, i => match pe with
  | .w _ => Zqj ls es l ps (i + 1)
  | .p _ _ => match y.dst with
   | none => Zqj ls es l ps (i + 1)
   | some t => match memN t ls with
    | false => Zqj ls es l ps (i + 1)
    | true => match memN i es with
     | true => Zqj ls es l ps (i + 1)
     | false => false
 | _, _, _ => true
def okOne (ops : List Oper) (pl : List PE) (k i : Nat) (o : Oper) (pe : PE) : Bool :=
 match Zwr i (edges o), Zqj (looks ops o) (edges o) ops pl 0 with
 | true, true => match pe with
  | .p lo hi => match (match lo with | 0 => true | lo + 1 => anyE pl (fun x => Nat.ble (lo + 1) x.num) (edges o)) with
   | true => match Nat.ble k hi with
    | true => true
    | false => okHi i hi ops pl
   | false => false
  | .w j => match Nat.ble 1 j, Nat.ble j k, (match j with | 0 => false | 1 => true | j + 2 => anyE pl (fun x => Nat.ble (j + 1) x.num) (edges o)) with
   | true, true, true => true
   | _, _, _ => false
 | _, _ => false
def okAll (ops : List Oper) (pl : List PE) (k : Nat) : List Oper → List PE → Nat → Bool
 | [], [], _ => true
 | o :: l, pe :: ps, i => match okOne ops pl k i o pe with
  | true => okAll ops pl k l ps (i + 1)
  | false => false
 | _, _, _ => false
def okW : List PE → Nat → Option Nat
 | [], c => some c
 | pe :: l, c => match pe with
  | .p _ _ => okW l c
  | .w j => match Nat.beq j (c + 1) with
   | true => okW l (c + 1)
   | false => none
def Zte (ops : List Oper) (pl : List PE) : Option Nat := match okW pl 0 with
 | some k => match okAll ops pl k ops pl 0 with
  | true => some k
  | false => none
 | none => none
abbrev Pend := List (Nat × Nat × AObj)
def exOne (P : Program) (n : Nat) (ops : Array Oper) (o : Oper) (i : Nat) (st : St) (pd : Pend) : Option (St × Pend) := match Zqs ops st.T o with
 | some false => match setT n st.h.next st.T o.dst (.tup []) with
  | some T => some (⟨T, st.h⟩, pd)
  | none => none
 | some true => match evA P st.T st.h.next o.op with
  | some (ob, v) => match setT n (st.h.next + 1) st.T o.dst v with
   | some T => some (⟨T, ⟨st.h.tr, st.h.next + 1⟩⟩, (i, st.h.next, ob) :: pd)
   | none => none
  | none => match Zl4 P st.T st.h o with
   | some v => match setT n st.h.next st.T o.dst v with
    | some T => some (⟨T, st.h⟩, pd)
    | none => none
   | none => none
 | none => none
def Zmz (P : Program) (n : Nat) (ops : Array Oper) (q : Nat) : List Oper → List PE → Nat → St → Pend → Option (St × Pend)
 | o :: l, pe :: ps, i, st, pd => match pe with
  | .w _ => Zmz P n ops q l ps (i + 1) st pd
  | .p lo _ => match Nat.beq lo q with
   | false => Zmz P n ops q l ps (i + 1) st pd
   | true => match exOne P n ops o i st pd with
    | some (st, pd) => Zmz P n ops q l ps (i + 1) st pd
    | none => none
 | _, _, _, st, pd => some (st, pd)
def findP (i : Nat) : Pend → Option (Nat × AObj)
 | [] => none
 | (j, id, ob) :: l => match Nat.beq i j with
  | true => some (id, ob)
  | false => findP i l
def objEq : AObj → AObj → Bool
 | .cells l ty op, .cells l' ty' op' => match AV.eqvL l l', Nat.beq ty ty', op, op' with
  | true, true, none, none => true
  | _, _, _, _ => false
 | .map [] c, .map [] c' => Nat.beq c c'
 | _, _ => false
theorem objEq_eq {a b : AObj} (h : objEq a b = true) : a = b := by
 unfold objEq at h
 split at h
 ·split at h <;> try cases h
  rename_i h1 h2
  rw [AV.Zqy h1, Nat.eq_of_beq_eq_true h2]
 ·rw [Nat.eq_of_beq_eq_true h]
 ·cases h
def dstIs (T : Tr AV) (d : Option Tmp) (v : AV) : Bool := match d with
 | none => true
 | some t => match T.get t with
  | some u => AV.eqv u v
  | none => false
def Za2k (P : Program) (ops : Array Oper) (st : St) (pd : Pend) (o : Oper) (i : Nat) : Bool := match Zqs ops st.T o with
 | some false => match findP i pd with
  | none => dstIs st.T o.dst (.tup [])
  | some _ => false
 | some true => match findP i pd with
  | some (id, ob) => match evA P st.T id o.op with
   | some (ob', v) => match objEq ob ob' with
    | true => dstIs st.T o.dst v
    | false => false
   | none => false
  | none => match Zl4 P st.T st.h o with
   | some v => dstIs st.T o.dst v
   | none => false
 | none => false
def Ztr (P : Program) (ops : Array Oper) (q : Nat) (st : St) (pd : Pend) : List Oper → List PE → Nat → Bool
 | o :: l, pe :: ps, i => match pe with
  | .w _ => Ztr P ops q st pd l ps (i + 1)
  | .p lo hi => match Nat.ble lo q, Nat.ble q hi with
   | true, true => match Za2k P ops st pd o i with
    | true => Ztr P ops q st pd l ps (i + 1)
    | false => false
   | _, _ => Ztr P ops q st pd l ps (i + 1)
 | _, _, _ => true
def Zsn (pl : List PE) (q : Nat) : Pend → Hp → Option (Pend × Hp)
 | [], h => some ([], h)
 | (i, id, ob) :: l, h => match Zsn pl q l h with
  | some (pd, h) => match nth pl i with
   | some (.p _ hi) => match Nat.ble hi q with
    | true => match Tr.set FT h.tr id (some ob) with
     | some tr => some (pd, ⟨tr, h.next⟩)
     | none => none
    | false => some ((i, id, ob) :: pd, h)
   | _ => none
  | none => none
def findW (j : Nat) : List Oper → List PE → Option Oper
 | o :: l, pe :: ps => match pe with
  | .w x => match Nat.beq x j with
   | true => some o
   | false => findW j l ps
  | .p _ _ => findW j l ps
 | _, _ => none
def tailF (P : Program) (call : Cl) (n : Nat) (ops : Array Oper) (pl : List PE) : Nat → Nat → St → Pend → Option St
 | 0, q, st, pd => match Zsn pl q pd st.h with
  | some ([], h) => some ⟨st.T, h⟩
  | _ => none
 | r + 1, q, st, pd => match Zsn pl q pd st.h, findW (q + 1) ops.toList pl with
  | some (pd, h), some o => match Zyv P call n ops o ⟨st.T, h⟩ with
   | some st => match Zmz P n ops (q + 1) ops.toList pl 0 st pd with
    | some (st, pd) => match Ztr P ops (q + 1) st pd ops.toList pl 0 with
     | true => tailF P call n ops pl r (q + 1) st pd
     | false => none
    | none => none
   | none => none
  | _, _ => none
def Za98 (P : Program) : Dr := fun call n ops st => match Zte ops.toList (Zm4 ops.toList) with
 | some k => match Zmz P n ops 0 ops.toList (Zm4 ops.toList) 0 st [] with
  | some (st, pd) => match Ztr P ops 0 st pd ops.toList (Zm4 ops.toList) 0 with
   | true => tailF P call n ops (Zm4 ops.toList) k 0 st pd
   | false => none
  | none => none
 | none => none
end Go.Proofs.YtghmfggmimoinaaGreat.Ev
