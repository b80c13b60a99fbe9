/- A small machine over abstract memory: its data. Values name blocks by numbers of their own; a map tells which block of the world each is. -/
import Derived.Orders
import Derived.Below
import Derived.Scope
import Derived.KernelRfl
namespace Go.Proofs.YtghmfggmimoinaaGreat.Ev
open Go Go.RowKit
inductive Tr (α : Type) where
 | nil
 | node (v : Option α) (l r : Tr α)
def Tr.get {α : Type} : Tr α → Nat → Option α
 | .nil, _ => none
 | .node v l r, n => match n with
  | 0 => v
  | m + 1 => match Nat.beq (m % 2) 0 with
   | true => l.get (m / 2)
   | false => r.get (m / 2)
def Tr.val {α : Type} : Tr α → Option α | .nil => none | .node v _ _ => v
def Tr.left {α : Type} : Tr α → Tr α | .nil => .nil | .node _ l _ => l
def Tr.right {α : Type} : Tr α → Tr α | .nil => .nil | .node _ _ r => r
def Tr.set {α : Type} : Nat → Tr α → Nat → Option α → Option (Tr α)
 | 0, _, _, _ => none
 | f + 1, t, n, a => match n with
  | 0 => some (.node a t.left t.right)
  | m + 1 => match Nat.beq (m % 2) 0 with
   | true => match Tr.set f t.left (m / 2) a with
    | some x => some (.node t.val x t.right)
    | none => none
   | false => match Tr.set f t.right (m / 2) a with
    | some x => some (.node t.val t.left x)
    | none => none
theorem Tr.Ztk {α : Type} (v : Option α) (l r : Tr α) (m : Nat) : (Tr.node v l r).get (m + 1) = if m % 2 = 0 then l.get (m / 2) else r.get (m / 2) := by
 simp only [Tr.get]
 cases hm : Nat.beq (m % 2) 0
 ·rw [if_neg (Nat.ne_of_beq_eq_false hm)]
 simp_all
theorem Tr.Zao {α : Type} : ∀ (f : Nat) (t : Tr α) (n : Nat) (a : Option α) (t' : Tr α), Tr.set f t n a = some t' →
  ∀ m, t'.get m = if m = n then a else t.get m := by
 intro f
 induction f with
 | zero => intro t n a t' h; simp [Tr.set] at h
 | succ f ih =>
  intro t n a t' h m
  have hn : ∀ m, t.get m = (Tr.node t.val t.left t.right).get m := by
   intro m
   cases t with
   | nil =>
    cases m with
    | zero => rfl
    | succ m => simp only [Tr.Ztk, Tr.left, Tr.right]; simp [Tr.get]
   | node v l r => rfl
  rw [hn]
  cases n with
  | zero =>
   simp only [Tr.set, Option.some.injEq] at h; subst h
   cases m with
   | zero => simp [Tr.get]
   | succ m => simp only [Tr.Ztk]; rw [if_neg (by omega : ¬ m + 1 = 0)]
  | succ n =>
   simp only [Tr.set] at h
   cases hb : Nat.beq (n % 2) 0 <;> simp only [hb] at h
   ·have hb' := Nat.ne_of_beq_eq_false hb
    cases hs : Tr.set f t.right (n / 2) a <;> simp only [hs] at h
    ·cases h
    simp only [Option.some.injEq] at h; subst h
    cases m with
    | zero => simp [Tr.get]
    | succ m =>
     have e := ih _ _ _ _ hs (m / 2)
     simp only [Tr.Ztk]
     by_cases hm : m % 2 = 0
     ·rw [if_pos hm, if_pos hm, if_neg (by omega)]
     ·rw [if_neg hm, if_neg hm, e]
      by_cases q : m / 2 = n / 2
      ·rw [if_pos q, if_pos (by omega)]
      ·rw [if_neg q, if_neg (by omega)]
   ·have hb' := Nat.eq_of_beq_eq_true hb
    cases hs : Tr.set f t.left (n / 2) a <;> simp only [hs] at h
    ·cases h
    simp only [Option.some.injEq] at h; subst h
    cases m with
    | zero => simp [Tr.get]
    | succ m =>
     have e := ih _ _ _ _ hs (m / 2)
     simp only [Tr.Ztk]
     by_cases hm : m % 2 = 0
     ·rw [if_pos hm, if_pos hm, e]
      by_cases q : m / 2 = n / 2
      ·rw [if_pos q, if_pos (by omega)]
      ·rw [if_neg q, if_neg (by omega)]
     ·rw [if_neg hm, if_neg hm, if_neg (by omega)]
inductive AV where
 | bool (b : Bool)
 | int (k : IntKind) (n : Int)
 | str (s : ByteArray)
 | nilp
 | ptr (b off : Nat)
 | nils
 | slice (b off len : Nat) (u : Bool) (c : Nat)
 | rawS (a : Option Addr) (len cap : Nat)
 | tailS (b off off' c : Nat)
 | nilm
 | map (b : Nat)
 | func (f : FuncId) (first cap : List AV)
 | nilf
 | nili
 | agg (l : List AV)
 | tup (l : List AV)
abbrev Sg := Nat → Nat × Nat
mutual
def conc (s : Sg) : AV → Value
 | .bool b => .bool b
 | .int k n => .int k n
 | .str x => .string x
 | .nilp => .pointer none
 | .ptr b off => .pointer (some ⟨(s b).1, off, none⟩)
 | .nils => .slice none 0 0
 | .slice b off len u c => .slice (some ⟨(s b).1, off, none⟩) len (match u with | true => (s b).2 - c | false => c)
 | .rawS a len cap => .slice a len cap
 | .tailS b off off' c => .slice (some ⟨(s b).1, (match Nat.beq (s b).2 c with | true => off | false => off'), none⟩) 0 ((s b).2 - c)
 | .nilm => .map none
 | .map b => .map (some (s b).1)
 | .func f x c => .func (.func f) (concL s x).toArray (concL s c).toArray
 | .nilf => .nilFunc
 | .nili => .nilIface
 | .agg l => .agg (concL s l).toArray
 | .tup l => .tuple (concL s l).toArray
termination_by structural x => x
def concL (s : Sg) : List AV → List Value
 | [] => []
 | x :: l => conc s x :: concL s l
termination_by structural x => x
end
mutual
def ws (n : Nat) : AV → Bool
 | .bool _ | .int _ _ | .str _ | .nilp | .nils | .rawS _ _ _ | .nilm | .nilf | .nili => true
 | .ptr b _ => Nat.blt b n
 | .slice b _ _ _ _ => Nat.blt b n
 | .tailS b _ _ _ => Nat.blt b n
 | .map b => Nat.blt b n
 | .func _ x c => match wsL n x with
  | true => wsL n c
  | false => false
 | .agg l => wsL n l
 | .tup l => wsL n l
termination_by structural x => x
def wsL (n : Nat) : List AV → Bool
 | [] => true
 | x :: l => match ws n x with
  | true => wsL n l
  | false => false
termination_by structural x => x
end
theorem Zn2 (s : Sg) (l : List AV) : concL s l = l.map (conc s) := by
 induction l with
 | nil => rfl
 | cons x l ih => simp [concL, ih]
theorem Zvx (n : Nat) (l : List AV) : wsL n l = true ↔ ∀ x ∈ l, ws n x = true := by
 induction l with
 | nil => simp [wsL]
 | cons x l ih =>
  simp only [wsL]
  grind
mutual
theorem Zlm {s s' : Sg} {n : Nat} (hs : ∀ i, i < n → s i = s' i) : ∀ v : AV, ws n v = true → conc s v = conc s' v
 | .bool _, _ | .int _ _, _ | .str _, _ | .nilp, _ | .nils, _ | .rawS _ _ _, _ | .nilm, _ | .nilf, _ | .nili, _ => rfl
 | .ptr b off, h => by simp only [ws, Nat.blt_eq] at h; simp only [conc, hs b h]
 | .slice b _ _ _ _, h => by simp only [ws, Nat.blt_eq] at h; simp only [conc, hs b h]
 | .tailS b _ _ _, h => by simp only [ws, Nat.blt_eq] at h; simp only [conc, hs b h]
 | .map b, h => by simp only [ws, Nat.blt_eq] at h; simp only [conc, hs b h]
 | .func f x c, h => by
  simp only [ws] at h
  cases hx : wsL n x <;> simp only [hx] at h
  ·cases h
  simp only [conc, Zkd hs x hx, Zkd hs c h]
 | .agg l, h => by simp only [ws] at h; simp only [conc, Zkd hs l h]
 | .tup l, h => by simp only [ws] at h; simp only [conc, Zkd hs l h]
theorem Zkd {s s' : Sg} {n : Nat} (hs : ∀ i, i < n → s i = s' i) : ∀ l : List AV, wsL n l = true → concL s l = concL s' l
 | [], _ => rfl
 | x :: l, h => by
  simp only [wsL] at h
  cases hx : ws n x <;> simp only [hx] at h
  ·cases h
  simp only [concL, Zlm hs x hx, Zkd hs l h]
end
mutual
theorem Zq3 {n m : Nat} (hs : n ≤ m) : ∀ v : AV, ws n v = true → ws m v = true
 | .bool _, _ | .int _ _, _ | .str _, _ | .nilp, _ | .nils, _ | .rawS _ _ _, _ | .nilm, _ | .nilf, _ | .nili, _ => rfl
 | .ptr b off, h => by simp only [ws, Nat.blt_eq] at h ⊢; omega
 | .slice b _ _ _ _, h => by simp only [ws, Nat.blt_eq] at h ⊢; omega
 | .tailS b _ _ _, h => by simp only [ws, Nat.blt_eq] at h ⊢; omega
 | .map b, h => by simp only [ws, Nat.blt_eq] at h ⊢; omega
 | .func f x c, h => by
  simp only [ws] at h
  cases hx : wsL n x <;> simp only [hx] at h
  ·cases h
  simp only [ws, Zro hs x hx, Zro hs c h]
 | .agg l, h => by simp only [ws] at h; simp only [ws, Zro hs l h]
 | .tup l, h => by simp only [ws] at h; simp only [ws, Zro hs l h]
theorem Zro {n m : Nat} (hs : n ≤ m) : ∀ l : List AV, wsL n l = true → wsL m l = true
 | [], _ => rfl
 | x :: l, h => by
  simp only [wsL] at h
  cases hx : ws n x <;> simp only [hx] at h
  ·cases h
  simp only [wsL, Zq3 hs x hx, Zro hs l h]
end
def IntKind.num : IntKind → Nat
 | .i8 => 0 | .i16 => 1 | .i32 => 2 | .i64 => 3 | .u8 => 4 | .u16 => 5 | .u32 => 6 | .u64 => 7
theorem IntKind.Zu3 {a b : IntKind} (h : IntKind.num a = IntKind.num b) : a = b := by
 cases a <;> cases b <;> first | rfl | (exact absurd h (by decide))
def Int.eqv : Int → Int → Bool
 | .ofNat a, .ofNat b => Nat.beq a b
 | .negSucc a, .negSucc b => Nat.beq a b
 | _, _ => false
theorem Int.Zhz {a b : Int} (h : Int.eqv a b = true) : a = b := by
 cases a <;> cases b <;> simp [Int.eqv, Nat.beq_eq] at h <;> subst h <;> rfl
def Zuf (a b : List UInt8) : Bool := match a, b with
 | [], [] => true
 | x :: a, y :: b => match Nat.beq x.toNat y.toNat with
  | true => Zuf a b
  | false => false
 | _, _ => false
theorem Zz2 : ∀ {a b : List UInt8}, Zuf a b = true → a = b
 | [], [], _ => rfl
 | x :: a, y :: b, h => by
  simp only [Zuf] at h
  cases hx : Nat.beq x.toNat y.toNat <;> simp only [hx] at h
  ·cases h
  rw [Zz2 h, UInt8.toNat_inj.1 (Nat.eq_of_beq_eq_true hx)]
 | [], _ :: _, h => by simp [Zuf] at h
 | _ :: _, [], h => by simp [Zuf] at h
def strEq (a b : ByteArray) : Bool := Zuf a.data.toList b.data.toList
theorem Zz8 {a b : ByteArray} (h : strEq a b = true) : a = b := by
 have := Zz2 h
 cases a; simp_all
mutual
def AV.eqv : AV → AV → Bool
 | .bool a, b => match b with | .bool b => (match a, b with | true, true => true | false, false => true | _, _ => false) | _ => false
 | .int k n, b => match b with | .int k' n' => (match Nat.beq (IntKind.num k) (IntKind.num k') with | true => Int.eqv n n' | false => false) | _ => false
 | .str a, b => match b with | .str b => strEq a b | _ => false
 | .nilp, b => match b with | .nilp => true | _ => false
 | .ptr x y, b => match b with | .ptr x' y' => (match Nat.beq x x' with | true => Nat.beq y y' | false => false) | _ => false
 | .nils, b => match b with | .nils => true | _ => false
 | .slice x y l u c, b => match b with
  | .slice x' y' l' u' c' => (match Nat.beq x x', Nat.beq y y', Nat.beq l l', u, u' with
   | true, true, true, true, true => Nat.beq c c'
   | true, true, true, false, false => Nat.beq c c'
   | _, _, _, _, _ => false)
  | _ => false
 | .rawS _ _ _, _ => false
 | .tailS _ _ _ _, _ => false
 | .nilm, b => match b with | .nilm => true | _ => false
 | .map x, b => match b with | .map y => Nat.beq x y | _ => false
 | .func f x c, b => match b with
  | .func f' x' c' => (match Nat.beq f f', AV.eqvL x x' with | true, true => AV.eqvL c c' | _, _ => false)
  | _ => false
 | .nilf, b => match b with | .nilf => true | _ => false
 | .nili, b => match b with | .nili => true | _ => false
 | .agg l, b => match b with | .agg l' => AV.eqvL l l' | _ => false
 | .tup l, b => match b with | .tup l' => AV.eqvL l l' | _ => false
termination_by structural x => x
def AV.eqvL : List AV → List AV → Bool
 | [], m => match m with | [] => true | _ => false
 | x :: l, m => match m with
  | y :: m => (match AV.eqv x y with | true => AV.eqvL l m | false => false)
  | [] => false
termination_by structural x => x
end
mutual
theorem AV.Zhz : ∀ {a b : AV}, AV.eqv a b = true → a = b
 | .bool a, b, h => by cases b <;> simp only [AV.eqv] at h <;> first | cases h | (rename_i b; cases a <;> cases b <;> first | rfl | cases h)
 | .int k n, b, h => by
  cases b <;> simp only [AV.eqv] at h <;> first | cases h | skip
  rename_i k' n'
  cases hk : Nat.beq (IntKind.num k) (IntKind.num k') <;> simp only [hk] at h
  ·cases h
  rw [IntKind.Zu3 (Nat.eq_of_beq_eq_true hk), Int.Zhz h]
 | .str a, b, h => by cases b <;> simp only [AV.eqv] at h <;> first | cases h | (rw [Zz8 h])
 | .nilp, b, h => by cases b <;> simp only [AV.eqv] at h <;> first | rfl | cases h
 | .ptr x y, b, h => by
  cases b <;> simp only [AV.eqv] at h <;> first | cases h | skip
  rename_i x' y'
  cases hk : Nat.beq x x' <;> simp only [hk] at h
  ·cases h
  rw [Nat.eq_of_beq_eq_true hk, Nat.eq_of_beq_eq_true h]
 | .nils, b, h => by cases b <;> simp only [AV.eqv] at h <;> first | rfl | cases h
 | .slice x y l u c, b, h => by
  cases b <;> simp only [AV.eqv] at h <;> first | cases h | skip
  rename_i x' y' l' u' c'
  cases h1 : Nat.beq x x' <;> cases h2 : Nat.beq y y' <;> cases h3 : Nat.beq l l' <;> cases u <;> cases u' <;> simp only [h1, h2, h3] at h <;>
   first | cases h | (rw [Nat.eq_of_beq_eq_true h1, Nat.eq_of_beq_eq_true h2, Nat.eq_of_beq_eq_true h3, Nat.eq_of_beq_eq_true h])
 | .rawS _ _ _, b, h => by simp only [AV.eqv] at h; cases h
 | .tailS _ _ _ _, b, h => by simp only [AV.eqv] at h; cases h
 | .nilm, b, h => by cases b <;> simp only [AV.eqv] at h <;> first | rfl | cases h
 | .map x, b, h => by cases b <;> simp only [AV.eqv] at h <;> first | cases h | (rw [Nat.eq_of_beq_eq_true h])
 | .func f x c, b, h => by
  cases b <;> simp only [AV.eqv] at h <;> first | cases h | skip
  rename_i f' x' c'
  cases h1 : Nat.beq f f' <;> cases h2 : AV.eqvL x x' <;> simp only [h1, h2] at h <;> first | cases h | skip
  rw [Nat.eq_of_beq_eq_true h1, AV.Zqy h2, AV.Zqy h]
 | .nilf, b, h => by cases b <;> simp only [AV.eqv] at h <;> first | rfl | cases h
 | .nili, b, h => by cases b <;> simp only [AV.eqv] at h <;> first | rfl | cases h
 | .agg l, b, h => by cases b <;> simp only [AV.eqv] at h <;> first | cases h | (rw [AV.Zqy h])
 | .tup l, b, h => by cases b <;> simp only [AV.eqv] at h <;> first | cases h | (rw [AV.Zqy h])
theorem AV.Zqy : ∀ {a b : List AV}, AV.eqvL a b = true → a = b
 | [], b, h => by cases b <;> simp only [AV.eqvL] at h <;> first | rfl | cases h
 | x :: l, b, h => by
  cases b <;> simp only [AV.eqvL] at h <;> first | cases h | skip
  rename_i y m
  cases hx : AV.eqv x y <;> simp only [hx] at h
  ·cases h
  rw [AV.Zhz hx, AV.Zqy h]
end
end Go.Proofs.YtghmfggmimoinaaGreat.Ev
