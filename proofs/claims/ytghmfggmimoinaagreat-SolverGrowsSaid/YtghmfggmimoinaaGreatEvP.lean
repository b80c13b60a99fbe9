/- The small machine: operations that look at no memory. -/
import Derived.Test.YtghmfggmimoinaaGreatEvBase
import Derived.Laws.Sem
namespace Go.Proofs.YtghmfggmimoinaaGreat.Ev
open Go Go.RowKit
def still {α : Type} (P : Program) : Nat → Sem α → Option α
 | 0, _ => none
 | n + 1, s => match s with
  | .pure a => some a
  | .program k => still P n (k P)
  | _ => none
theorem Ze1 {α : Type} {P : Program} : ∀ {n : Nat} {s : Sem α} {a : α}, still P n s = some a → ∀ w, s.run P w = .ok a w
 | 0, _, _, h, _ => by simp [still] at h
 | n + 1, .pure a, _, h, w => by simp [still] at h; subst h; rfl
 | n + 1, .program k, a, h, w => by simp only [still] at h; exact Ze1 h w
 | n + 1, .load .., _, h, _ | n + 1, .store .., _, h, _ | n + 1, .new .., _, h, _ | n + 1, .shape .., _, h, _ | n + 1, .freeze .., _, h, _ | n + 1, .frozen .., _, h, _
 | n + 1, .getObj .., _, h, _ | n + 1, .setObj .., _, h, _ | n + 1, .choose .., _, h, _ | n + 1, .sys .., _, h, _ | n + 1, .mark .., _, h, _ | n + 1, .halt .., _, h, _ => by simp [still] at h
def scal1 : AV → Option Value
 | .bool b => some (.bool b)
 | .int k n => some (.int k n)
 | .str s => some (.string s)
 | .nilp => some (.pointer none)
 | .nils => some (.slice none 0 0)
 | .nilm => some (.map none)
 | .nilf => some .nilFunc
 | .nili => some .nilIface
 | _ => none
def scalL : List AV → Option (List Value)
 | [] => some []
 | x :: l => match scal1 x with
  | some v => match scalL l with
   | some vs => some (v :: vs)
   | none => none
  | none => none
def scal : AV → Option Value
 | .agg l => match scalL l with
  | some vs => some (.agg vs.toArray)
  | none => none
 | v => scal1 v
theorem Zy7 {v : AV} {x : Value} (h : scal1 v = some x) (s : Sg) : conc s v = x := by
 cases v <;> simp [scal1] at h <;> subst h <;> rfl
theorem Zrq : ∀ {l : List AV} {x : List Value}, scalL l = some x → ∀ s : Sg, concL s l = x
 | [], x, h, s => by simp [scalL] at h; subst h; rfl
 | v :: l, x, h, s => by
  simp only [scalL] at h
  cases hv : scal1 v <;> simp only [hv] at h
  ·cases h
  cases hl : scalL l <;> simp only [hl] at h
  ·cases h
  simp at h; subst h
  simp [concL, Zy7 hv, Zrq hl]
theorem Zet {v : AV} {x : Value} (h : scal v = some x) (s : Sg) : conc s v = x := by
 cases v with
 | agg l =>
  simp only [scal] at h
  cases hl : scalL l <;> simp only [hl] at h
  ·cases h
  simp at h; subst h
  simp [conc, Zrq hl]
 | _ => simp only [scal] at h; exact Zy7 h s
def back1 : Value → Option AV
 | .bool b => some (.bool b)
 | .int k n => some (.int k n)
 | .string s => some (.str s)
 | .pointer a => match a with | none => some .nilp | some _ => none
 | .slice a len cap => match a, len, cap with | none, 0, 0 => some .nils | _, _, _ => none
 | .map a => match a with | none => some .nilm | some _ => none
 | .nilFunc => some .nilf
 | .nilIface => some .nili
 | _ => none
def backL : List Value → Option (List AV)
 | [] => some []
 | x :: l => match back1 x with
  | some v => match backL l with
   | some vs => some (v :: vs)
   | none => none
  | none => none
def back : Value → Option AV
 | .agg l => match backL l.toList with
  | some vs => some (.agg vs)
  | none => none
 | .tuple l => match backL l.toList with
  | some vs => some (.tup vs)
  | none => none
 | v => back1 v
theorem Zz5 {x : Value} {v : AV} (h : back1 x = some v) (s : Sg) : conc s v = x := by
 cases x with
 | pointer a => cases a <;> simp [back1] at h; subst h; rfl
 | map a => cases a <;> simp [back1] at h; subst h; rfl
 | slice a l c =>
  simp only [back1] at h
  split at h
  ·simp at h; subst h; rfl
  ·cases h
 | _ => simp [back1] at h <;> subst h <;> rfl
theorem Zui : ∀ {x : List Value} {l : List AV}, backL x = some l → ∀ s : Sg, concL s l = x
 | [], l, h, s => by simp [backL] at h; subst h; rfl
 | x :: xs, l, h, s => by
  simp only [backL] at h
  cases hv : back1 x <;> simp only [hv] at h
  ·cases h
  cases hl : backL xs <;> simp only [hl] at h
  ·cases h
  simp at h; subst h
  simp [concL, Zz5 hv, Zui hl]
theorem Zj8 {x : Value} {v : AV} (h : back x = some v) (s : Sg) : conc s v = x := by
 cases x with
 | agg l =>
  simp only [back] at h
  cases hl : backL l.toList <;> simp only [hl] at h
  ·cases h
  simp at h; subst h
  simp [conc, Zui hl]
 | tuple l =>
  simp only [back] at h
  cases hl : backL l.toList <;> simp only [hl] at h
  ·cases h
  simp at h; subst h
  simp [conc, Zui hl]
 | _ => simp only [back] at h; exact Zz5 h s
def evO (T : Tr AV) : Operand → Option AV
 | .tmp t => T.get t
 | .const v => back v
 | .func f => some (.func f [] [])
 | .global _ => none
def Opnd (s : Sg) (T : Tr AV) (a : Act) (o : Op) : Prop := ∀ x ∈ o.operands, ∀ u, evO T x = some u → a.eval x = conc s u
theorem Zso {s : Sg} {T : Tr AV} {a : Act} {o : Op} (h : ∀ t, .tmp t ∈ o.operands → ∀ u, T.get t = some u → a.tmps[t]? = some (conc s u)) : Opnd s T a o := by
 intro x hx u hu
 cases x with
 | tmp t =>
  have := h t hx u hu
  simp [Act.eval, Array.getD_eq_getD_getElem?, this]
 | const v => simp only [evO] at hu; exact (Zj8 hu s).symm
 | func f => simp [evO] at hu; subst hu; rfl
 | global g => simp [evO] at hu
def evOL (T : Tr AV) : List Operand → Option (List AV)
 | [] => some []
 | x :: l => match evO T x with
  | some v => match evOL T l with
   | some vs => some (v :: vs)
   | none => none
  | none => none
theorem Za29 {s : Sg} {T : Tr AV} {a : Act} : ∀ {l : List Operand} {vs : List AV}, evOL T l = some vs → (∀ x ∈ l, ∀ u, evO T x = some u → a.eval x = conc s u) →
  l.map a.eval = concL s vs
 | [], vs, h, _ => by simp [evOL] at h; subst h; rfl
 | x :: l, vs, h, hr => by
  simp only [evOL] at h
  cases hv : evO T x <;> simp only [hv] at h
  ·cases h
  cases hl : evOL T l <;> simp only [hl] at h
  ·cases h
  simp at h; subst h
  simp [concL, hr x (by simp) _ hv, Za29 hl (fun y hy => hr y (by simp [hy]))]
def kindOf (P : Program) (t : TypeId) : Option TypeDesc := P.underlying t
def Zbz (P : Program) (t : TypeId) : Option Nat := match P.info? t with | some i => some i.size | none => none
def Ze3 (P : Program) (t : TypeId) : Option AV := match P.info? t with
 | some i => match i.zero with
  | some v => back v
  | none => none
 | none => none
theorem run_underlying {P : Program} {t : TypeId} {d : TypeDesc} (h : P.underlying t = some d) (w : World) : (underlying t).run P w = .ok d w := by
 simp [underlying, h]
theorem run_typeInfo {P : Program} {t : TypeId} {d : TypeInfo} (h : P.info? t = some d) (w : World) : (typeInfo t).run P w = .ok d w := by
 simp [typeInfo, h]
theorem run_sizeOf {P : Program} {t : TypeId} {n : Nat} (h : Zbz P t = some n) (w : World) : (Go.sizeOf t).run P w = .ok n w := by
 unfold Zbz at h
 cases hi : P.info? t <;> simp [hi] at h
 subst h
 simp [Go.sizeOf, run_typeInfo hi]
theorem Zbe {P : Program} {t : TypeId} {v : AV} (h : Ze3 P t = some v) (s : Sg) (w : World) : (zeroValue t).run P w = .ok (conc s v) w := by
 unfold Ze3 at h
 cases hi : P.info? t <;> simp only [hi] at h
 ·cases h
 rename_i i
 cases hz : i.zero <;> simp only [hz] at h
 ·cases h
 simp [zeroValue, run_typeInfo hi, hz, Zj8 h]
end Go.Proofs.YtghmfggmimoinaaGreat.Ev
