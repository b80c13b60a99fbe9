import Derived.Orders
import Derived.Below
import Derived.Scope
import Derived.KernelRfl
import Derived.Laws.Sem
set_option linter.unusedVariables false
set_option linter.unusedSimpArgs false
set_option linter.unnecessarySimpa false
section
namespace Go.Proofs.YtijabkidejolbaaGreat.Ev
open Go Go.RowKit
inductive Tr (α:Type) where
 | nil
 | node (v:Option α) (l r:Tr α)
def Tr.get {α:Type}:Tr α→Nat→Option α
 | .nil,_=>none
 | .node v l r,n=>match n with
  | 0=>v
  | m+1=>match Nat.beq (m % 2) 0 with
   | true=>l.get (m / 2)
   | false=>r.get (m / 2)
def Tr.val {α:Type}:Tr α→Option α | .nil=>none | .node v _ _=>v
def Tr.left {α:Type}:Tr α→Tr α | .nil=>.nil | .node _ l _=>l
def Tr.right {α:Type}:Tr α→Tr α | .nil=>.nil | .node _ _ r=>r
def Tr.set {α:Type}:Nat→Tr α→Nat→Option α→Option (Tr α)
 | 0,_,_,_=>none
 | f+1,t,n,a=>match n with
  | 0=>some (.node a t.left t.right)
  | m+1=>match Nat.beq (m % 2) 0 with
   | true=>match Tr.set f t.left (m / 2) a with
    | some x=>some (.node t.val x t.right)
    | none=>none
   | false=>match Tr.set f t.right (m / 2) a with
    | some x=>some (.node t.val t.left x)
    | none=>none
theorem Tr.Ztk {α:Type} (v:Option α) (l r:Tr α) (m:Nat):(Tr.node v l r).get (m+1)=if m % 2=0 then l.get (m / 2) else r.get (m / 2):=by
 simp only [Tr.get]
 cases hm:Nat.beq (m % 2) 0
 ·rw [if_neg (Nat.ne_of_beq_eq_false hm)]
 ·rw [if_pos (Nat.eq_of_beq_eq_true hm)]
theorem Tr.Zao {α:Type}:∀(f:Nat) (t:Tr α) (n:Nat) (a:Option α) (t':Tr α),Tr.set f t n a=some t' →
  ∀m,t'.get m=if m=n then a else t.get m:=by
 intro f
 induction f with
 | zero=>intro t n a t' h;simp [Tr.set] at h
 | succ f ih=>
  intro t n a t' h m
  have hn:∀m,t.get m=(Tr.node t.val t.left t.right).get m:=by
   intro m
   cases t with
   | nil=>
    cases m with
    | zero=>rfl
    | succ m=>simp only [Tr.Ztk,Tr.left,Tr.right];simp [Tr.get]
   | node v l r=>rfl
  rw [hn]
  cases n with
  | zero=>
   simp only [Tr.set,Option.some.injEq] at h;subst h
   cases m with
   | zero=>simp [Tr.get]
   | succ m=>simp only [Tr.Ztk];rw [if_neg (by omega:¬m+1=0)]
  | succ n=>
   simp only [Tr.set] at h
   cases hb:Nat.beq (n % 2) 0<;>simp only [hb] at h
   ·have hb':=Nat.ne_of_beq_eq_false hb
    cases hs:Tr.set f t.right (n / 2) a<;>simp only [hs] at h
    ·cases h
    simp only [Option.some.injEq] at h;subst h
    cases m with
    | zero=>simp [Tr.get]
    | succ m=>
     have e:=ih _ _ _ _ hs (m / 2)
     simp only [Tr.Ztk]
     by_cases hm:m % 2=0
     ·rw [if_pos hm,if_pos hm,if_neg (by omega)]
     ·rw [if_neg hm,if_neg hm,e]
      by_cases q:m / 2=n / 2
      ·rw [if_pos q,if_pos (by omega)]
      ·rw [if_neg q,if_neg (by omega)]
   ·have hb':=Nat.eq_of_beq_eq_true hb
    cases hs:Tr.set f t.left (n / 2) a<;>simp only [hs] at h
    ·cases h
    simp only [Option.some.injEq] at h;subst h
    cases m with
    | zero=>simp [Tr.get]
    | succ m=>
     have e:=ih _ _ _ _ hs (m / 2)
     simp only [Tr.Ztk]
     by_cases hm:m % 2=0
     ·rw [if_pos hm,if_pos hm,e]
      by_cases q:m / 2=n / 2
      ·rw [if_pos q,if_pos (by omega)]
      ·rw [if_neg q,if_neg (by omega)]
     ·rw [if_neg hm,if_neg hm,if_neg (by omega)]
inductive AV where
 | bool (b:Bool)
 | int (k:IntKind) (n:Int)
 | str (s:ByteArray)
 | nilp
 | ptr (b off:Nat)
 | nils
 | slice (b off len:Nat) (u:Bool) (c:Nat)
 | rawS (a:Option Addr) (len cap:Nat)
 | tailS (b off off' c:Nat)
 | nilm
 | map (b:Nat)
 | func (f:FuncId) (first cap:List AV)
 | nilf
 | nili
 | agg (l:List AV)
 | tup (l:List AV)
abbrev Sg:=Nat→Nat×Nat
mutual
def conc (s:Sg):AV→Value
 | .bool b=>.bool b
 | .int k n=>.int k n
 | .str x=>.string x
 | .nilp=>.pointer none
 | .ptr b off=>.pointer (some ⟨(s b).1,off,none⟩)
 | .nils=>.slice none 0 0
 | .slice b off len u c=>.slice (some ⟨(s b).1,off,none⟩) len (match u with | true=>(s b).2 - c | false=>c)
 | .rawS a len cap=>.slice a len cap
 | .tailS b off off' c=>.slice (some ⟨(s b).1,(match Nat.beq (s b).2 c with | true=>off | false=>off'),none⟩) 0 ((s b).2 - c)
 | .nilm=>.map none
 | .map b=>.map (some (s b).1)
 | .func f x c=>.func (.func f) (concL s x).toArray (concL s c).toArray
 | .nilf=>.nilFunc
 | .nili=>.nilIface
 | .agg l=>.agg (concL s l).toArray
 | .tup l=>.tuple (concL s l).toArray
termination_by structural x=>x
def concL (s:Sg):List AV→List Value
 | []=>[]
 | x :: l=>conc s x :: concL s l
termination_by structural x=>x
end
mutual
def ws (n:Nat):AV→Bool
 | .bool _ | .int _ _ | .str _ | .nilp | .nils | .rawS _ _ _ | .nilm | .nilf | .nili=>true
 | .ptr b _=>Nat.blt b n
 | .slice b _ _ _ _=>Nat.blt b n
 | .tailS b _ _ _=>Nat.blt b n
 | .map b=>Nat.blt b n
 | .func _ x c=>match wsL n x with
  | true=>wsL n c
  | false=>false
 | .agg l=>wsL n l
 | .tup l=>wsL n l
termination_by structural x=>x
def wsL (n:Nat):List AV→Bool
 | []=>true
 | x :: l=>match ws n x with
  | true=>wsL n l
  | false=>false
termination_by structural x=>x
end
theorem Zn2 (s:Sg) (l:List AV):concL s l=l.map (conc s):=by
 induction l with
 | nil=>rfl
 | cons x l ih=>simp [concL,ih]
theorem Zvx (n:Nat) (l:List AV):wsL n l=true↔∀x∈l,ws n x=true:=by
 induction l with
 | nil=>simp [wsL]
 | cons x l ih=>
  simp only [wsL]
  cases h:ws n x<;>simp [h,ih]
mutual
theorem Zlm {s s':Sg} {n:Nat} (hs:∀i,i<n→s i=s' i):∀v:AV,ws n v=true→conc s v=conc s' v
 | .bool _,_ | .int _ _,_ | .str _,_ | .nilp,_ | .nils,_ | .rawS _ _ _,_ | .nilm,_ | .nilf,_ | .nili,_=>rfl
 | .ptr b off,h=>by simp only [ws,Nat.blt_eq] at h;simp only [conc,hs b h]
 | .slice b _ _ _ _,h=>by simp only [ws,Nat.blt_eq] at h;simp only [conc,hs b h]
 | .tailS b _ _ _,h=>by simp only [ws,Nat.blt_eq] at h;simp only [conc,hs b h]
 | .map b,h=>by simp only [ws,Nat.blt_eq] at h;simp only [conc,hs b h]
 | .func f x c,h=>by
  simp only [ws] at h
  cases hx:wsL n x<;>simp only [hx] at h
  ·cases h
  simp only [conc,Zkd hs x hx,Zkd hs c h]
 | .agg l,h=>by simp only [ws] at h;simp only [conc,Zkd hs l h]
 | .tup l,h=>by simp only [ws] at h;simp only [conc,Zkd hs l h]
theorem Zkd {s s':Sg} {n:Nat} (hs:∀i,i<n→s i=s' i):∀l:List AV,wsL n l=true→concL s l=concL s' l
 | [],_=>rfl
 | x :: l,h=>by
  simp only [wsL] at h
  cases hx:ws n x<;>simp only [hx] at h
  ·cases h
  simp only [concL,Zlm hs x hx,Zkd hs l h]
end
mutual
theorem Zq3 {n m:Nat} (hs:n≤m):∀v:AV,ws n v=true→ws m v=true
 | .bool _,_ | .int _ _,_ | .str _,_ | .nilp,_ | .nils,_ | .rawS _ _ _,_ | .nilm,_ | .nilf,_ | .nili,_=>rfl
 | .ptr b off,h=>by simp only [ws,Nat.blt_eq] at h ⊢;omega
 | .slice b _ _ _ _,h=>by simp only [ws,Nat.blt_eq] at h ⊢;omega
 | .tailS b _ _ _,h=>by simp only [ws,Nat.blt_eq] at h ⊢;omega
 | .map b,h=>by simp only [ws,Nat.blt_eq] at h ⊢;omega
 | .func f x c,h=>by
  simp only [ws] at h
  cases hx:wsL n x<;>simp only [hx] at h
  ·cases h
  simp only [ws,Zro hs x hx,Zro hs c h]
 | .agg l,h=>by simp only [ws] at h;simp only [ws,Zro hs l h]
 | .tup l,h=>by simp only [ws] at h;simp only [ws,Zro hs l h]
theorem Zro {n m:Nat} (hs:n≤m):∀l:List AV,wsL n l=true→wsL m l=true
 | [],_=>rfl
 | x :: l,h=>by
  simp only [wsL] at h
  cases hx:ws n x<;>simp only [hx] at h
  ·cases h
  simp only [wsL,Zq3 hs x hx,Zro hs l h]
end
def IntKind.num:IntKind→Nat
 | .i8=>0 | .i16=>1 | .i32=>2 | .i64=>3 | .u8=>4 | .u16=>5 | .u32=>6 | .u64=>7
theorem IntKind.Zu3 {a b:IntKind} (h:IntKind.num a=IntKind.num b):a=b:=by
 cases a<;>cases b<;>first | rfl | (exact absurd h (by decide))
def Int.eqv:Int→Int→Bool
 | .ofNat a,.ofNat b=>Nat.beq a b
 | .negSucc a,.negSucc b=>Nat.beq a b
 | _,_=>false
theorem Int.Zhz {a b:Int} (h:Int.eqv a b=true):a=b:=by
 cases a<;>cases b<;>simp [Int.eqv,Nat.beq_eq] at h<;>subst h<;>rfl
def Zuf (a b:List UInt8):Bool:=match a,b with
 | [],[]=>true
 | x :: a,y :: b=>match Nat.beq x.toNat y.toNat with
  | true=>Zuf a b
  | false=>false
 | _,_=>false
theorem Zz2:∀{a b:List UInt8},Zuf a b=true→a=b
 | [],[],_=>rfl
 | x :: a,y :: b,h=>by
  simp only [Zuf] at h
  cases hx:Nat.beq x.toNat y.toNat<;>simp only [hx] at h
  ·cases h
  rw [Zz2 h,UInt8.toNat_inj.1 (Nat.eq_of_beq_eq_true hx)]
 | [],_ :: _,h=>by simp [Zuf] at h
 | _ :: _,[],h=>by simp [Zuf] at h
def strEq (a b:ByteArray):Bool:=Zuf a.data.toList b.data.toList
theorem Zz8 {a b:ByteArray} (h:strEq a b=true):a=b:=by
 have:=Zz2 h
 cases a;cases b;simp at this;subst this;rfl
mutual
def AV.eqv:AV→AV→Bool
 | .bool a,b=>match b with | .bool b=>(match a,b with | true,true=>true | false,false=>true | _,_=>false) | _=>false
 | .int k n,b=>match b with | .int k' n'=>(match Nat.beq (IntKind.num k) (IntKind.num k') with | true=>Int.eqv n n' | false=>false) | _=>false
 | .str a,b=>match b with | .str b=>strEq a b | _=>false
 | .nilp,b=>match b with | .nilp=>true | _=>false
 | .ptr x y,b=>match b with | .ptr x' y'=>(match Nat.beq x x' with | true=>Nat.beq y y' | false=>false) | _=>false
 | .nils,b=>match b with | .nils=>true | _=>false
 | .slice x y l u c,b=>match b with
  | .slice x' y' l' u' c'=>(match Nat.beq x x',Nat.beq y y',Nat.beq l l',u,u' with
   | true,true,true,true,true=>Nat.beq c c'
   | true,true,true,false,false=>Nat.beq c c'
   | _,_,_,_,_=>false)
  | _=>false
 | .rawS _ _ _,_=>false
 | .tailS _ _ _ _,_=>false
 | .nilm,b=>match b with | .nilm=>true | _=>false
 | .map x,b=>match b with | .map y=>Nat.beq x y | _=>false
 | .func f x c,b=>match b with
  | .func f' x' c'=>(match Nat.beq f f',AV.eqvL x x' with | true,true=>AV.eqvL c c' | _,_=>false)
  | _=>false
 | .nilf,b=>match b with | .nilf=>true | _=>false
 | .nili,b=>match b with | .nili=>true | _=>false
 | .agg l,b=>match b with | .agg l'=>AV.eqvL l l' | _=>false
 | .tup l,b=>match b with | .tup l'=>AV.eqvL l l' | _=>false
termination_by structural x=>x
def AV.eqvL:List AV→List AV→Bool
 | [],m=>match m with | []=>true | _=>false
 | x :: l,m=>match m with
  | y :: m=>(match AV.eqv x y with | true=>AV.eqvL l m | false=>false)
  | []=>false
termination_by structural x=>x
end
mutual
theorem AV.Zhz:∀{a b:AV},AV.eqv a b=true→a=b
 | .bool a,b,h=>by cases b<;>simp only [AV.eqv] at h<;>first | cases h | (rename_i b;cases a<;>cases b<;>first | rfl | cases h)
 | .int k n,b,h=>by
  cases b<;>simp only [AV.eqv] at h<;>first | cases h | skip
  rename_i k' n'
  cases hk:Nat.beq (IntKind.num k) (IntKind.num k')<;>simp only [hk] at h
  ·cases h
  rw [IntKind.Zu3 (Nat.eq_of_beq_eq_true hk),Int.Zhz h]
 | .str a,b,h=>by cases b<;>simp only [AV.eqv] at h<;>first | cases h | (rw [Zz8 h])
 | .nilp,b,h=>by cases b<;>simp only [AV.eqv] at h<;>first | rfl | cases h
 | .ptr x y,b,h=>by
  cases b<;>simp only [AV.eqv] at h<;>first | cases h | skip
  rename_i x' y'
  cases hk:Nat.beq x x'<;>simp only [hk] at h
  ·cases h
  rw [Nat.eq_of_beq_eq_true hk,Nat.eq_of_beq_eq_true h]
 | .nils,b,h=>by cases b<;>simp only [AV.eqv] at h<;>first | rfl | cases h
 | .slice x y l u c,b,h=>by
  cases b<;>simp only [AV.eqv] at h<;>first | cases h | skip
  rename_i x' y' l' u' c'
  cases h1:Nat.beq x x'<;>cases h2:Nat.beq y y'<;>cases h3:Nat.beq l l'<;>cases u<;>cases u'<;>simp only [h1,h2,h3] at h <;>
   first | cases h | (rw [Nat.eq_of_beq_eq_true h1,Nat.eq_of_beq_eq_true h2,Nat.eq_of_beq_eq_true h3,Nat.eq_of_beq_eq_true h])
 | .rawS _ _ _,b,h=>by simp only [AV.eqv] at h;cases h
 | .tailS _ _ _ _,b,h=>by simp only [AV.eqv] at h;cases h
 | .nilm,b,h=>by cases b<;>simp only [AV.eqv] at h<;>first | rfl | cases h
 | .map x,b,h=>by cases b<;>simp only [AV.eqv] at h<;>first | cases h | (rw [Nat.eq_of_beq_eq_true h])
 | .func f x c,b,h=>by
  cases b<;>simp only [AV.eqv] at h<;>first | cases h | skip
  rename_i f' x' c'
  cases h1:Nat.beq f f'<;>cases h2:AV.eqvL x x'<;>simp only [h1,h2] at h<;>first | cases h | skip
  rw [Nat.eq_of_beq_eq_true h1,AV.Zqy h2,AV.Zqy h]
 | .nilf,b,h=>by cases b<;>simp only [AV.eqv] at h<;>first | rfl | cases h
 | .nili,b,h=>by cases b<;>simp only [AV.eqv] at h<;>first | rfl | cases h
 | .agg l,b,h=>by cases b<;>simp only [AV.eqv] at h<;>first | cases h | (rw [AV.Zqy h])
 | .tup l,b,h=>by cases b<;>simp only [AV.eqv] at h<;>first | cases h | (rw [AV.Zqy h])
theorem AV.Zqy:∀{a b:List AV},AV.eqvL a b=true→a=b
 | [],b,h=>by cases b<;>simp only [AV.eqvL] at h<;>first | rfl | cases h
 | x :: l,b,h=>by
  cases b<;>simp only [AV.eqvL] at h<;>first | cases h | skip
  rename_i y m
  cases hx:AV.eqv x y<;>simp only [hx] at h
  ·cases h
  rw [AV.Zhz hx,AV.Zqy h]
end
def still {α:Type} (P:Program):Nat→Sem α→Option α
 | 0,_=>none
 | n+1,s=>match s with
  | .pure a=>some a
  | .program k=>still P n (k P)
  | _=>none
theorem Ze1 {α:Type} {P:Program}:∀{n:Nat} {s:Sem α} {a:α},still P n s=some a→∀w,s.run P w=.ok a w
 | 0,_,_,h,_=>by simp [still] at h
 | n+1,.pure a,_,h,w=>by simp [still] at h;subst h;rfl
 | n+1,.program k,a,h,w=>by simp only [still] at h;exact Ze1 h w
 | n+1,.load ..,_,h,_ | n+1,.store ..,_,h,_ | n+1,.new ..,_,h,_ | n+1,.shape ..,_,h,_ | n+1,.freeze ..,_,h,_ | n+1,.frozen ..,_,h,_
 | n+1,.getObj ..,_,h,_ | n+1,.setObj ..,_,h,_ | n+1,.choose ..,_,h,_ | n+1,.sys ..,_,h,_ | n+1,.mark ..,_,h,_ | n+1,.halt ..,_,h,_=>by simp [still] at h
def scal1:AV→Option Value
 | .bool b=>some (.bool b)
 | .int k n=>some (.int k n)
 | .str s=>some (.string s)
 | .nilp=>some (.pointer none)
 | .nils=>some (.slice none 0 0)
 | .nilm=>some (.map none)
 | .nilf=>some .nilFunc
 | .nili=>some .nilIface
 | _=>none
def scalL:List AV→Option (List Value)
 | []=>some []
 | x :: l=>match scal1 x with
  | some v=>match scalL l with
   | some vs=>some (v :: vs)
   | none=>none
  | none=>none
def scal:AV→Option Value
 | .agg l=>match scalL l with
  | some vs=>some (.agg vs.toArray)
  | none=>none
 | v=>scal1 v
theorem Zy7 {v:AV} {x:Value} (h:scal1 v=some x) (s:Sg):conc s v=x:=by
 cases v<;>simp [scal1] at h<;>subst h<;>rfl
theorem Zrq:∀{l:List AV} {x:List Value},scalL l=some x→∀s:Sg,concL s l=x
 | [],x,h,s=>by simp [scalL] at h;subst h;rfl
 | v :: l,x,h,s=>by
  simp only [scalL] at h
  cases hv:scal1 v<;>simp only [hv] at h
  ·cases h
  cases hl:scalL l<;>simp only [hl] at h
  ·cases h
  simp at h;subst h
  simp [concL,Zy7 hv,Zrq hl]
theorem Zet {v:AV} {x:Value} (h:scal v=some x) (s:Sg):conc s v=x:=by
 cases v with
 | agg l=>
  simp only [scal] at h
  cases hl:scalL l<;>simp only [hl] at h
  ·cases h
  simp at h;subst h
  simp [conc,Zrq hl]
 | _=>simp only [scal] at h;exact Zy7 h s
def back1:Value→Option AV
 | .bool b=>some (.bool b)
 | .int k n=>some (.int k n)
 | .string s=>some (.str s)
 | .pointer a=>match a with | none=>some .nilp | some _=>none
 | .slice a len cap=>match a,len,cap with | none,0,0=>some .nils | _,_,_=>none
 | .map a=>match a with | none=>some .nilm | some _=>none
 | .nilFunc=>some .nilf
 | .nilIface=>some .nili
 | _=>none
def backL:List Value→Option (List AV)
 | []=>some []
 | x :: l=>match back1 x with
  | some v=>match backL l with
   | some vs=>some (v :: vs)
   | none=>none
  | none=>none
def back:Value→Option AV
 | .agg l=>match backL l.toList with
  | some vs=>some (.agg vs)
  | none=>none
 | .tuple l=>match backL l.toList with
  | some vs=>some (.tup vs)
  | none=>none
 | v=>back1 v
theorem Zz5 {x:Value} {v:AV} (h:back1 x=some v) (s:Sg):conc s v=x:=by
 cases x with
 | pointer a=>cases a<;>simp [back1] at h;subst h;rfl
 | map a=>cases a<;>simp [back1] at h;subst h;rfl
 | slice a l c=>
  simp only [back1] at h
  split at h
  ·simp at h;subst h;rfl
  ·cases h
 | _=>simp [back1] at h<;>subst h<;>rfl
theorem Zui:∀{x:List Value} {l:List AV},backL x=some l→∀s:Sg,concL s l=x
 | [],l,h,s=>by simp [backL] at h;subst h;rfl
 | x :: xs,l,h,s=>by
  simp only [backL] at h
  cases hv:back1 x<;>simp only [hv] at h
  ·cases h
  cases hl:backL xs<;>simp only [hl] at h
  ·cases h
  simp at h;subst h
  simp [concL,Zz5 hv,Zui hl]
theorem Zj8 {x:Value} {v:AV} (h:back x=some v) (s:Sg):conc s v=x:=by
 cases x with
 | agg l=>
  simp only [back] at h
  cases hl:backL l.toList<;>simp only [hl] at h
  ·cases h
  simp at h;subst h
  simp [conc,Zui hl]
 | tuple l=>
  simp only [back] at h
  cases hl:backL l.toList<;>simp only [hl] at h
  ·cases h
  simp at h;subst h
  simp [conc,Zui hl]
 | _=>simp only [back] at h;exact Zz5 h s
def evO (T:Tr AV):Operand→Option AV
 | .tmp t=>T.get t
 | .const v=>back v
 | .func f=>some (.func f [] [])
 | .global _=>none
def Opnd (s:Sg) (T:Tr AV) (a:Act) (o:Op):Prop:=∀x∈o.operands,∀u,evO T x=some u→a.eval x=conc s u
theorem Zso {s:Sg} {T:Tr AV} {a:Act} {o:Op} (h:∀t,.tmp t∈o.operands→∀u,T.get t=some u→a.tmps[t]?=some (conc s u)):Opnd s T a o:=by
 intro x hx u hu
 cases x with
 | tmp t=>
  have:=h t hx u hu
  simp [Act.eval,Array.getD_eq_getD_getElem?,this]
 | const v=>simp only [evO] at hu;exact (Zj8 hu s).symm
 | func f=>simp [evO] at hu;subst hu;rfl
 | global g=>simp [evO] at hu
def evOL (T:Tr AV):List Operand→Option (List AV)
 | []=>some []
 | x :: l=>match evO T x with
  | some v=>match evOL T l with
   | some vs=>some (v :: vs)
   | none=>none
  | none=>none
theorem Za29 {s:Sg} {T:Tr AV} {a:Act}:∀{l:List Operand} {vs:List AV},evOL T l=some vs→(∀x∈l,∀u,evO T x=some u→a.eval x=conc s u) →
  l.map a.eval=concL s vs
 | [],vs,h,_=>by simp [evOL] at h;subst h;rfl
 | x :: l,vs,h,hr=>by
  simp only [evOL] at h
  cases hv:evO T x<;>simp only [hv] at h
  ·cases h
  cases hl:evOL T l<;>simp only [hl] at h
  ·cases h
  simp at h;subst h
  simp [concL,hr x (by simp) _ hv,Za29 hl (fun y hy=>hr y (by simp [hy]))]
def Zbz (P:Program) (t:TypeId):Option Nat:=match P.info? t with | some i=>some i.size | none=>none
def Ze3 (P:Program) (t:TypeId):Option AV:=match P.info? t with
 | some i=>match i.zero with
  | some v=>back v
  | none=>none
 | none=>none
theorem run_underlying {P:Program} {t:TypeId} {d:TypeDesc} (h:P.underlying t=some d) (w:World):(underlying t).run P w=.ok d w:=by
 simp [underlying,h]
theorem run_typeInfo {P:Program} {t:TypeId} {d:TypeInfo} (h:P.info? t=some d) (w:World):(typeInfo t).run P w=.ok d w:=by
 simp [typeInfo,h]
theorem run_sizeOf {P:Program} {t:TypeId} {n:Nat} (h:Zbz P t=some n) (w:World):(Go.sizeOf t).run P w=.ok n w:=by
 unfold Zbz at h
 cases hi:P.info? t<;>simp [hi] at h
 subst h
 simp [Go.sizeOf,run_typeInfo hi]
theorem Zbe {P:Program} {t:TypeId} {v:AV} (h:Ze3 P t=some v) (s:Sg) (w:World):(zeroValue t).run P w=.ok (conc s v) w:=by
 unfold Ze3 at h
 cases hi:P.info? t<;>simp only [hi] at h
 ·cases h
 rename_i i
 cases hz:i.zero<;>simp only [hz] at h
 ·cases h
 simp [zeroValue,run_typeInfo hi,hz,Zj8 h]
def Zb9:AV→List AV
 | .agg l=>l
 | v=>[v]
theorem Zg8 (s:Sg) (v:AV):(conc s v).cells.toList=concL s (Zb9 v):=by
 cases v<;>simp [conc,Value.cells,Zb9,concL]
theorem Zc3 (s:Sg) (l:List AV):(concL s l).length=l.length:=by simp [Zn2]
theorem Ztq (s:Sg) (l:List AV) (i:Nat):(concL s l)[i]?=(l[i]?).map (conc s):=by simp [Zn2]
theorem Zj7 (s:Sg) (l m:List AV):concL s (l++m)=concL s l++concL s m:=by simp [Zn2]
theorem Zln (s:Sg) (l:List AV) (n:Nat):concL s (l.take n)=(concL s l).take n:=by simp [Zn2,List.map_take]
theorem Zmo (s:Sg) (l:List AV) (n:Nat):concL s (l.drop n)=(concL s l).drop n:=by simp [Zn2,List.map_drop]
def nth {α:Type}:List α→Nat→Option α
 | [],_=>none
 | x :: l,n=>match n with
  | 0=>some x
  | n+1=>nth l n
theorem Zcg {α:Type}:∀(l:List α) (n:Nat),nth l n=l[n]?
 | [],_=>by simp [nth]
 | x :: l,0=>by simp [nth]
 | x :: l,n+1=>by simp [nth,Zcg l n]
def takeN {α:Type}:Nat→List α→List α
 | 0,_=>[]
 | n+1,l=>match l with
  | []=>[]
  | x :: l=>x :: takeN n l
def dropN {α:Type}:Nat→List α→List α
 | 0,l=>l
 | n+1,l=>match l with
  | []=>[]
  | _ :: l=>dropN n l
theorem Zdt {α:Type}:∀(n:Nat) (l:List α),takeN n l=l.take n
 | 0,_=>by simp [takeN]
 | n+1,[]=>by simp [takeN]
 | n+1,x :: l=>by simp [takeN,Zdt n l]
theorem Ze9 {α:Type}:∀(n:Nat) (l:List α),dropN n l=l.drop n
 | 0,_=>by simp [dropN]
 | n+1,[]=>by simp [dropN]
 | n+1,x :: l=>by simp [dropN,Ze9 n l]
theorem Zry (off:Nat):∀(vs:List Value) (k:Nat) (cells:Array Value),off+k+vs.length≤cells.size →
  ((vs.zipIdx k).foldl (fun cs (x:Value×Nat)=>cs.setIfInBounds (off+x.2) x.1) cells).toList=cells.toList.take (off+k)++vs++cells.toList.drop (off+k+vs.length)
 | [],k,cells,_=>by simp
 | v :: vs,k,cells,h=>by
  simp only [List.length_cons] at h
  rw [List.zipIdx_cons,List.foldl_cons,Zry off vs (k+1) _ (by simp;omega)]
  simp only [List.length_cons]
  have hs:cells.toList.length=cells.size:=Array.length_toList
  have e:cells.toList.set (off+k) v=(cells.toList.take (off+k)++[v])++cells.toList.drop (off+k+1):=by
   rw [List.set_eq_take_append_cons_drop,if_pos (by omega)];simp
  have hA:(cells.toList.take (off+k)++[v]).length=off+(k+1):=by simp [hs];omega
  rw [Array.toList_setIfInBounds,e,List.take_left' hA]
  rw [show off+(k+1)+vs.length=(cells.toList.take (off+k)++[v]).length+vs.length by omega,List.drop_length_add_append,List.drop_drop]
  simp [Nat.add_assoc,Nat.add_comm,Nat.add_left_comm]
def fillA (place:Nat→Option (Nat×Nat)):List AV→List (Nat×AV)→Option (List AV)
 | cells,[]=>some cells
 | cells,(i,v) :: rest=>match place i with
  | none=>none
  | some (off,size)=>match Nat.beq (Zb9 v).length size,Nat.ble (off+size) cells.length with
   | true,true=>fillA place (takeN off cells++(Zb9 v++dropN (off+size) cells)) rest
   | _,_=>none
theorem Zs0 (s:Sg) (place:Nat→Option (Nat×Nat)):∀(parts:List (Nat×AV)) (cells r:List AV),fillA place cells parts=some r →
  Instr.fill place (concL s cells).toArray (parts.map fun x=>(x.1,conc s x.2))=some (concL s r).toArray
 | [],cells,r,h=>by simp [fillA] at h;subst h;rfl
 | (i,v) :: rest,cells,r,h=>by
  simp only [fillA] at h
  cases hp:place i<;>simp only [hp] at h
  ·cases h
  rename_i q
  obtain ⟨off,size⟩:=q
  simp only [] at h
  cases h1:Nat.beq (Zb9 v).length size<;>cases h2:Nat.ble (off+size) cells.length<;>simp only [h1,h2] at h<;>first | cases h | skip
  have h1:=Nat.eq_of_beq_eq_true h1
  have h2:=Nat.le_of_ble_eq_true h2
  have hl:(conc s v).cells.size=size:=by rw [←Array.length_toList,Zg8,Zc3,h1]
  simp only [List.map_cons,Instr.fill,hp]
  rw [if_neg (by simp [hl,Zc3];omega)]
  have ih:=Zs0 s place rest _ r h
  rw [←ih]
  congr 1
  apply Array.toList_inj.1
  have hz:(conc s v).cells.zipIdx.foldl (fun cs (x:Value×Nat)=>cs.setIfInBounds (off+x.2) x.1) (concL s cells).toArray
    = ((conc s v).cells.toList.zipIdx 0).foldl (fun cs (x:Value×Nat)=>cs.setIfInBounds (off+x.2) x.1) (concL s cells).toArray:=by
   rw [←Array.foldl_toList];simp
  have:=Zry off (conc s v).cells.toList 0 (concL s cells).toArray (by simp [hl,Zc3];omega)
  rw [hz,this]
  simp only [Zdt,Ze9,Zj7,Zln,Zmo,Zg8,List.append_assoc,Nat.add_zero,Zc3,h1]
def Zrk (P:Program) (t:TypeId) (l:List AV) (off:Nat):Option AV:=match P.underlying t with
 | some (.struct _)=>match Zbz P t with
  | some n=>some (.agg (takeN n (dropN off l)))
  | none=>none
 | some (.array _ _)=>match Zbz P t with
  | some n=>some (.agg (takeN n (dropN off l)))
  | none=>none
 | some _=>nth l off
 | none=>none
theorem Zpm {P:Program} {t:TypeId} {l:List AV} {off:Nat} {v:AV} (h:Zrk P t l off=some v) (s:Sg) (w:World) :
  (part t (concL s l).toArray off).run P w=.ok (conc s v) w:=by
 unfold Zrk at h
 cases hu:P.underlying t with
 | none=>simp [hu] at h
 | some d=>
  have hr:=run_underlying hu w
  cases d<;>simp only [hu] at h
  case struct | array=>
   cases hs:Zbz P t<;>simp [hs] at h
   subst h
   simp [part,isAgg,hr,run_sizeOf hs,conc,Zdt,Ze9,Zln,Zmo,List.extract_eq_take_drop]
  all_goals
   rw [Zcg] at h
   simp [part,isAgg,hr,Ztq,h]
def Zsy (P:Program) (t:TypeId) (u:AV) (f:Nat):Option AV:=match P.underlying t with
 | some (.struct fields)=>match nth fields.toList f with
  | some fd=>match u with
   | .agg l=>Zrk P fd.type l fd.offset
   | _=>none
  | none=>none
 | _=>none
theorem Zsx {P:Program} {t:TypeId} {u v:AV} {f:Nat} (h:Zsy P t u f=some v) (s:Sg) (w:World) :
  (Instr.field t (conc s u) f).run P w=.ok (conc s v) w:=by
 unfold Zsy at h
 cases hu:P.underlying t with
 | none=>simp [hu] at h
 | some d=>
  have hr:=run_underlying hu w
  cases d<;>simp only [hu] at h<;>try cases h
  rename_i fields
  cases hf:nth fields.toList f<;>simp only [hf] at h
  ·cases h
  rename_i fd
  rw [Zcg] at hf
  cases u<;>simp only [] at h<;>try cases h
  have hf':fields[f]?=some fd:=by simpa using hf
  simp [Instr.field,hr,hf',asAgg,conc,Zpm h]
def Zn1 (P:Program) (t:TypeId) (u:AV) (f:Nat):Option AV:=match P.underlying t with
 | some (.struct fields)=>match nth fields.toList f with
  | some fd=>match u,Zbz P fd.type with
   | .ptr b off,some (n+1)=>some (.ptr b (off+fd.offset))
   | _,_=>none
  | none=>none
 | _=>none
theorem Zd7 (b off n:Nat):(Addr.mk b off none).add n=⟨b,off+n,none⟩:=by
 unfold Addr.add;split
 ·subst_vars;rfl
 ·rfl
theorem Zqv {P:Program} {t:TypeId} {u v:AV} {f:Nat} (h:Zn1 P t u f=some v) (s:Sg) (w:World) :
  (Instr.fieldAt t (conc s u) f).run P w=.ok (conc s v) w:=by
 unfold Zn1 at h
 cases hu:P.underlying t with
 | none=>simp [hu] at h
 | some d=>
  have hr:=run_underlying hu w
  cases d<;>simp only [hu] at h<;>try cases h
  rename_i fields
  cases hf:nth fields.toList f<;>simp only [hf] at h
  ·cases h
  rename_i fd
  rw [Zcg] at hf
  have hf':fields[f]?=some fd:=by simpa using hf
  split at h<;>try cases h
  rename_i b off n hs
  simp [Instr.fieldAt,hr,hf',Instr.sureAddr,conc,fieldPlace,run_sizeOf hs,Zd7]
def Zjr (P:Program) (t:TypeId) (u i:AV):Option AV:=match i with
 | .int k n=>match n with
  | .ofNat n=>match P.underlying t with
   | some (.slice elem)=>match u,Zbz P elem with
    | .slice b off len _ _,some sz=>match Nat.blt n len with
     | true=>some (.ptr b (off+n*sz))
     | false=>none
    | _,_=>none
   | some (.array len elem)=>match u,Zbz P elem with
    | .ptr b off,some sz=>match Nat.blt n len with
     | true=>some (.ptr b (off+n*sz))
     | false=>none
    | _,_=>none
   | _=>none
  | .negSucc _=>none
 | _=>none
theorem Zqu {P:Program} {t:TypeId} {u i v:AV} (h:Zjr P t u i=some v) (s:Sg) (w:World) :
  (Instr.indexAt t (conc s u) (conc s i)).run P w=.ok (conc s v) w:=by
 unfold Zjr at h
 cases i<;>simp only [] at h<;>try cases h
 rename_i k n
 cases n<;>simp only [] at h<;>try cases h
 rename_i n
 cases hu:P.underlying t with
 | none=>simp [hu] at h
 | some d=>
  have hr:=run_underlying hu w
  cases d<;>simp only [hu] at h<;>try cases h
  ·split at h<;>try cases h
   rename_i b off len _ _ sz hs
   split at h<;>try cases h
   rename_i hb
   rw [Nat.blt_eq] at hb
   simp [Instr.indexAt,asIntOf,conc,hr,run_sizeOf hs,Zd7,hb]
  ·split at h<;>try cases h
   rename_i b off sz hs
   split at h<;>try cases h
   rename_i hb
   rw [Nat.blt_eq] at hb
   simp [Instr.indexAt,asIntOf,conc,hr,run_sizeOf hs,Zd7,hb,Instr.sureAddr]
def sameKind:TypeDesc→AV→AV→Bool
 | .pointer _,.nilp,.ptr _ _ | .pointer _,.ptr _ _,.nilp=>true
 | .slice _,.nils,.slice _ _ _ _ _ | .slice _,.slice _ _ _ _ _,.nils=>true
 | .map _ _,.nilm,.map _ | .map _ _,.map _,.nilm=>true
 | .func _ _ _,.nilf,.func _ _ _ | .func _ _ _,.func _ _ _,.nilf=>true
 | _,_,_=>false
theorem eql_run {P:Program} {t:TypeId} {x y:Operand} {X Y:Value} {r:Bool} {w:World} (hg:eqGuard .eql t x y X Y=pure ())
  (hb:binOp .eql t X Y=(do pure (.bool (← Op.equal t X Y)))) (he:(Op.equal t X Y).run P w=.ok r w) :
  (do eqGuard .eql t x y X Y;binOp .eql t X Y).run P w=.ok (.bool r) w:=by simp [hg,hb,he]
theorem neq_run {P:Program} {t:TypeId} {x y:Operand} {X Y:Value} {r:Bool} {w:World} (hg:eqGuard .neq t x y X Y=pure ())
  (hb:binOp .neq t X Y=(do pure (.bool (!(← Op.equal t X Y))))) (he:(Op.equal t X Y).run P w=.ok r w) :
  (do eqGuard .neq t x y X Y;binOp .neq t X Y).run P w=.ok (.bool (!r)) w:=by simp [hg,hb,he]
theorem Za9e {P:Program} {t:TypeId} {d:TypeDesc} {u v:AV} (hu:P.underlying t=some d) (hk:sameKind d u v=true) (s:Sg) (w:World) :
  ∀n,(Op.equalIn (n+1) t (conc s u) (conc s v)).run P w=.ok false w:=by
 intro n
 have hr:=run_underlying hu w
 unfold sameKind at hk
 split at hk<;>first | contradiction | simp [Op.equalIn,conc,hr]
def evBin (P:Program) (op:BinOp) (t:TypeId) (x y:Operand) (u v:AV):Option AV:=match scal u,scal v with
 | some a,some b=>match still P 4000 (do eqGuard op t x y a b;binOp op t a b) with
  | some r=>back r
  | none=>none
 | _,_=>match P.underlying t with
  | some d=>match sameKind d u v with
   | true=>match op with
    | .eql=>some (.bool false)
    | .neq=>some (.bool true)
    | _=>none
   | false=>none
  | none=>none
theorem Zx5 {P:Program} {op:BinOp} {t:TypeId} {x y:Operand} {u v r:AV} (h:evBin P op t x y u v=some r) (s:Sg) (w:World) :
  (do eqGuard op t x y (conc s u) (conc s v);binOp op t (conc s u) (conc s v)).run P w=.ok (conc s r) w:=by
 unfold evBin at h
 split at h
 ·rename_i a b ha hb
  rw [Zet ha,Zet hb]
  split at h<;>try cases h
  rename_i q hq
  rw [Ze1 hq,Zj8 h]
 ·cases hu:P.underlying t with
  | none=>simp [hu] at h
  | some d=>
   simp only [hu] at h
   cases hk:sameKind d u v<;>simp only [hk] at h
   ·cases h
   have he:(Op.equal t (conc s u) (conc s v)).run P w=.ok false w:=Za9e hu hk s w 9999
   cases op<;>simp only [] at h<;>try cases h
   ·refine eql_run ?_ ?_ he<;>(unfold sameKind at hk;split at hk<;>first | contradiction | rfl)
   ·refine neq_run ?_ ?_ he<;>(unfold sameKind at hk;split at hk<;>first | contradiction | rfl)
inductive AObj where
 | cells (l:List AV) (ty:TypeId) (op:Option Nat)
 | map (es:List (AV×AV×Nat)) (clock:Nat)
structure Hp where
 tr:Tr AObj
 next:Nat
def wsE (n:Nat):List (AV×AV×Nat)→Bool
 | []=>true
 | e :: l=>match ws n e.1,ws n e.2.1 with
  | true,true=>wsE n l
  | _,_=>false
def wsO (n:Nat):AObj→Bool
 | .cells l _ _=>wsL n l
 | .map es _=>wsE n es
theorem Zr5 (n:Nat) (l:List (AV×AV×Nat)):wsE n l=true↔∀e∈l,ws n e.1=true∧ws n e.2.1=true:=by
 induction l with
 | nil=>simp [wsE]
 | cons e l ih=>
  simp only [wsE]
  cases h1:ws n e.1<;>cases h2:ws n e.2.1<;>simp [h1,h2,ih]
theorem Zm7 {n m:Nat} (h:n≤m) {o:AObj} (ho:wsO n o=true):wsO m o=true:=by
 cases o with
 | cells l ty op=>exact Zro h l ho
 | map es c=>
  simp only [wsO,Zr5] at ho ⊢
  exact fun e he=>⟨Zq3 h _ (ho e he).1,Zq3 h _ (ho e he).2⟩
def concE (s:Sg) (es:List (AV×AV×Nat)):List MapEntry:=es.map fun e=>⟨conc s e.1,conc s e.2.1,e.2.2⟩
def ORel (s:Sg) (i:Nat):AObj→Option Obj→Prop
 | .cells l ty none,ob=>ob=some (.cells (concL s l).toArray ty (0,0))
 | .cells l ty (some sz),ob=>∃tail:List Value,ob=some (.cells (concL s l++tail).toArray ty (0,0))∧l.length+tail.length=(s i).2*sz∧(s i).2≤9223372036854775807
 | .map es clock,ob=>ob=some (.map (concE s es).toArray clock)
theorem ORel.there {s:Sg} {i:Nat} {o:AObj} {ob:Option Obj} (h:ORel s i o ob):∃x,ob=some x:=by
 cases o with
 | cells l ty op=>cases op with
  | none=>exact ⟨_,h⟩
  | some sz=>obtain ⟨t,h,_⟩:=h;exact ⟨_,h⟩
 | map es c=>exact ⟨_,h⟩
theorem ORel.congr {s s':Sg} {n i:Nat} {o:AObj} {ob:Option Obj} (h:ORel s i o ob) (hs:∀j,j<n→s' j=s j) (hi:i<n) (hw:wsO n o=true):ORel s' i o ob:=by
 cases o with
 | cells l ty op=>
  have e:concL s' l=concL s l:=Zkd hs l hw
  cases op with
  | none=>simp only [ORel] at h ⊢;rw [e];exact h
  | some sz=>simp only [ORel] at h ⊢;rw [e,hs i hi];exact h
 | map es c=>
  have e:concE s' es=concE s es:=by
   simp only [wsO,Zr5] at hw
   apply List.map_congr_left
   intro x hx
   rw [Zlm hs _ (hw x hx).1,Zlm hs _ (hw x hx).2]
  simp only [ORel] at h ⊢;rw [e];exact h
structure HRel (s:Sg) (h:Hp) (w:World):Prop where
 obj:∀i o,h.tr.get i=some o→ORel s i o w.heap[(s i).1]?
 inj:∀i j o o',h.tr.get i=some o→h.tr.get j=some o'→(s i).1=(s j).1→i=j
 lt:∀i o,h.tr.get i=some o→i<h.next
 wso:∀i o,h.tr.get i=some o→wsO h.next o=true
theorem HRel.bound {s:Sg} {h:Hp} {w:World} (H:HRel s h w) {i:Nat} {o:AObj} (hi:h.tr.get i=some o):(s i).1<w.heap.size:=by
 obtain ⟨x,hx⟩:=(H.obj i o hi).there
 rcases Nat.lt_or_ge (s i).1 w.heap.size with q | q
 ·exact q
 ·rw [Array.getElem?_eq_none q] at hx;cases hx
structure Ext (s:Sg) (h:Hp) (w:World) (s':Sg) (h':Hp) (w':World):Prop where
 os:w'.os=w.os
 tape:w'.tape=w.tape
 output:w'.output=w.output
 size:w.heap.size≤w'.heap.size
 sg:∀i,i<h.next→s' i=s i
 next:h.next≤h'.next
 frame:∀b,b<w.heap.size→(∀i o,h.tr.get i=some o→(s i).1≠b)→w'.heap[b]?=w.heap[b]?
 img:∀j o,h'.tr.get j=some o→(∃i o',h.tr.get i=some o'∧(s i).1=(s' j).1)∨w.heap.size≤(s' j).1
 keep:∀j o,h'.tr.get j=some o→j<h.next→∃o',h.tr.get j=some o'
theorem Ext.refl (s:Sg) (h:Hp) (w:World):Ext s h w s h w:=
 ⟨rfl,rfl,rfl,Nat.le_refl _,fun _ _=>rfl,Nat.le_refl _,fun _ _ _=>rfl,fun j o hj=>.inl ⟨j,o,hj,rfl⟩,fun j o hj _=>⟨o,hj⟩⟩
theorem Ext.drew (s:Sg) (h:Hp) (w:World) (d:Nat):Ext s h w s h { w with drawn:=d }:=
 ⟨rfl,rfl,rfl,Nat.le_refl _,fun _ _=>rfl,Nat.le_refl _,fun _ _ _=>rfl,fun j o hj=>.inl ⟨j,o,hj,rfl⟩,fun j o hj _=>⟨o,hj⟩⟩
theorem Ext.trans {s s' s'':Sg} {h h' h'':Hp} {w w' w'':World} (a:Ext s h w s' h' w') (b:Ext s' h' w' s'' h'' w''):Ext s h w s'' h'' w'' where
 os:=b.os.trans a.os
 tape:=b.tape.trans a.tape
 output:=b.output.trans a.output
 size:=Nat.le_trans a.size b.size
 sg i hi:=(b.sg i (Nat.lt_of_lt_of_le hi a.next)).trans (a.sg i hi)
 next:=Nat.le_trans a.next b.next
 frame k hk hn:=by
  refine (b.frame k (Nat.lt_of_lt_of_le hk a.size) ?_).trans (a.frame k hk hn)
  intro j o hj e
  rcases a.img j o hj with ⟨i,o',hi,q⟩ | q
  ·exact hn i o' hi (q.trans e)
  ·omega
 img j o hj:=by
  rcases b.img j o hj with ⟨i,o',hi,q⟩ | q
  ·rcases a.img i o' hi with ⟨k,o'',hk,r⟩ | r
   ·exact .inl ⟨k,o'',hk,r.trans q⟩
   ·exact .inr (by omega)
  ·exact .inr (Nat.le_trans a.size q)
 keep j o hj hlt:=by
  obtain ⟨o',ho'⟩:=b.keep j o hj (Nat.lt_of_lt_of_le hlt a.next)
  exact a.keep j o' ho' hlt
def setB (w:World) (b:Nat) (o:Obj):World:={ w with heap:=w.heap.setIfInBounds b o }
theorem Zdk (w:World) (b:Nat) (o:Obj) (k:Nat):(setB w b o).heap[k]?=if k=b∧b<w.heap.size then some o else w.heap[k]?:=by
 simp only [setB,Array.getElem?_setIfInBounds]
 by_cases h:b=k
 ·subst h
  by_cases hb:b<w.heap.size
  ·simp [hb]
  ·simp [hb]
 ·rw [if_neg h,if_neg (fun q=>h q.1.symm)]
theorem Zfb (w:World) (b:Nat) (o:Obj):(setB w b o).heap.size=w.heap.size:=by simp [setB]
theorem Za79 (w:World) (b:Nat) (o o':Obj):setB (setB w b o) b o'=setB w b o':=by
 simp only [setB]
 congr 1
 apply Array.ext_getElem?
 intro i
 simp only [Array.getElem?_setIfInBounds,Array.size_setIfInBounds]
 by_cases h:b=i
 ·simp [h]
 ·simp [h]
theorem setCell_eq {w:World} {b off:Nat} {c:Array Value} {ty:TypeId} {fr:Nat×Nat} (h:w.heap[b]?=some (.cells c ty fr)) (v:Value) :
  w.setCell ⟨b,off,none⟩ v=setB w b (.cells (c.setIfInBounds off v) ty fr):=by
 unfold World.setCell setB
 congr 1
 apply Array.ext_getElem?
 intro i
 rw [Array.getElem?_modify,Array.getElem?_setIfInBounds]
 by_cases q:b=i
 ·subst q
  have hb:b<w.heap.size:=by
   rcases Nat.lt_or_ge b w.heap.size with q | q
   ·exact q
   ·rw [Array.getElem?_eq_none q] at h;cases h
  have hx:w.heap[b]=.cells c ty fr:=by simpa [Array.getElem?_eq_getElem hb] using h
  simp [h,hb,hx]
 ·simp [q]
def Zlh:Value→Bool
 | .agg _ | .tuple _=>false
 | _=>true
def one:AV→Bool
 | .agg _ | .tup _=>false
 | _=>true
def oneL:List AV→Bool
 | []=>true
 | x :: l=>match one x with
  | true=>oneL l
  | false=>false
theorem Za4r {s:Sg} {v:AV} (h:one v=true):Zlh (conc s v)=true:=by cases v<;>simp [one] at h<;>rfl
theorem Za4s (l:List AV):oneL l=true↔∀x∈l,one x=true:=by
 induction l with
 | nil=>simp [oneL]
 | cons x l ih=>simp only [oneL];cases h:one x<;>simp [h,ih]
theorem Zzc {P:Program} {w:World} {b off:Nat} {c:Array Value} {ty:TypeId} {v:Value} (h:w.heap[b]?=some (.cells c ty (0,0))) (ho:off<c.size)
  (hv:Zlh v=true):(store ⟨b,off,none⟩ v).run P w=.ok () (setB w b (.cells (c.setIfInBounds off v) ty (0,0))):=by
 have hc:w.cell? ⟨b,off,none⟩=some c[off]:=by simp [World.cell?,h,ho]
 have hf:w.frozen? ⟨b,off,none⟩=false:=by simp [World.frozen?,h]
 rw [←setCell_eq h v]
 cases v<;>simp [Zlh] at hv<;>simp [store,Sem.run,hc,hf]
theorem Zdn {P:Program} {b off:Nat} {ty:TypeId}:∀(vs:List Value) (k:Nat) (w:World) (c:Array Value),w.heap[b]?=some (.cells c ty (0,0)) →
  off+k+vs.length≤c.size→(∀v∈vs,Zlh v=true) →
  ∃c',c'.toList=c.toList.take (off+k)++vs++c.toList.drop (off+k+vs.length) ∧
   (storeCells ⟨b,off,none⟩ vs k).run P w=.ok () (setB w b (.cells c' ty (0,0)))
 | [],k,w,c,h,hl,_=>by
  refine ⟨c,by simp,?_⟩
  simp only [storeCells,Sem.run_pure]
  congr 1
  unfold setB
  have:w.heap.setIfInBounds b (.cells c ty (0,0))=w.heap:=by
   apply Array.ext_getElem?
   intro i
   rw [Array.getElem?_setIfInBounds]
   by_cases q:b=i
   ·subst q
    have hb:b<w.heap.size:=by
     rcases Nat.lt_or_ge b w.heap.size with q | q
     ·exact q
     ·rw [Array.getElem?_eq_none q] at h;cases h
    simp only [if_true,hb];exact h.symm
   ·simp [q]
  rw [this]
 | v :: vs,k,w,c,h,hl,ho=>by
  simp only [List.length_cons] at hl
  have hb:b<w.heap.size:=by
   rcases Nat.lt_or_ge b w.heap.size with q | q
   ·exact q
   ·rw [Array.getElem?_eq_none q] at h;cases h
  have h1:=Zzc (P:=P) h (off:=off+k) (by omega) (ho v (by simp))
  obtain ⟨c',hc',hr⟩:=Zdn (P:=P) (off:=off) vs (k+1) (setB w b (.cells (c.setIfInBounds (off+k) v) ty (0,0))) (c.setIfInBounds (off+k) v)
   (by rw [Zdk,if_pos ⟨rfl,hb⟩]) (by simp;omega) (fun x hx=>ho x (by simp [hx]))
  rw [Za79] at hr
  refine ⟨c',?_,?_⟩
  ·rw [hc']
   simp only [List.length_cons]
   have hs:c.toList.length=c.size:=Array.length_toList
   have e:c.toList.set (off+k) v=(c.toList.take (off+k)++[v])++c.toList.drop (off+k+1):=by
    rw [List.set_eq_take_append_cons_drop,if_pos (by omega)];simp
   have hA:(c.toList.take (off+k)++[v]).length=off+(k+1):=by simp [hs];omega
   rw [Array.toList_setIfInBounds,e,List.take_left' hA]
   rw [show off+(k+1)+vs.length=(c.toList.take (off+k)++[v]).length+vs.length by omega,List.drop_length_add_append,List.drop_drop]
   simp [Nat.add_assoc,Nat.add_comm,Nat.add_left_comm]
  ·simp only [storeCells,Sem.run_bind,Zd7,h1,Result.andThen_ok,hr]
theorem run_loadCells {P:Program} {b off:Nat} {ty:TypeId} {w:World} {c:Array Value} {fr:Nat×Nat} (h:w.heap[b]?=some (.cells c ty fr)) :
  ∀(n i:Nat) (acc:Array Value),off+i+n≤c.size →
  (loadCellsFrom ⟨b,off,none⟩ i n acc).run P w=.ok (acc.toList++(c.toList.drop (off+i)).take n).toArray w
 | 0,i,acc,_=>by simp [loadCellsFrom]
 | n+1,i,acc,hl=>by
  have hc:w.cell? ⟨b,off+i,none⟩=some c[off+i]:=by simp [World.cell?,h,show off+i<c.size by omega]
  simp only [loadCellsFrom,Sem.run_bind,Zd7,run_load,hc,Result.andThen_ok]
  rw [run_loadCells h n (i+1) _ (by omega)]
  congr 2
  have hd:c.toList.drop (off+i)=c[off+i] :: c.toList.drop (off+(i+1)):=by
   rw [List.drop_eq_getElem_cons (by simp;omega)];simp [Nat.add_assoc]
  rw [hd];simp
theorem HRel.put {s:Sg} {h:Hp} {w:World} (H:HRel s h w) {i f:Nat} {o o':AObj} {ob:Obj} {tr':Tr AObj} (hi:h.tr.get i=some o) (hb:w.heap.size=w.heap.size)
  (ho:ORel s i o' (some ob)) (hw:wsO h.next o'=true) (ht:Tr.set f h.tr i (some o')=some tr') :
  HRel s ⟨tr',h.next⟩ (setB w (s i).1 ob)∧Ext s h w s ⟨tr',h.next⟩ (setB w (s i).1 ob):=by
 have hg:=Tr.Zao f h.tr i (some o') tr' ht
 have hin:=H.bound hi
 have alt:∀j o₁,tr'.get j=some o₁→∃o₂,h.tr.get j=some o₂:=by
  intro j o₁ hj
  rw [hg j] at hj
  by_cases q:j=i
  ·subst q;exact ⟨o,hi⟩
  ·rw [if_neg q] at hj;exact ⟨_,hj⟩
 refine ⟨⟨?_,?_,?_,?_⟩,⟨rfl,rfl,rfl,by rw [Zfb];exact Nat.le_refl _,fun _ _=>rfl,Nat.le_refl _,?_,?_,fun j o₁ hj _=>alt j o₁ hj⟩⟩
 ·intro j o₁ hj
  simp only [hg j] at hj
  by_cases q:j=i
  ·subst q
   simp only [if_true,Option.some.injEq] at hj;subst hj
   rw [Zdk,if_pos ⟨rfl,hin⟩];exact ho
  ·rw [if_neg q] at hj
   rw [Zdk,if_neg (fun r=>q (H.inj j i o₁ o hj hi r.1))]
   exact H.obj j o₁ hj
 ·intro j k o₁ o₂ hj hk e
  obtain ⟨p,hp⟩:=alt j o₁ hj
  obtain ⟨q,hq⟩:=alt k o₂ hk
  exact H.inj j k p q hp hq e
 ·intro j o₁ hj
  obtain ⟨p,hp⟩:=alt j o₁ hj
  exact H.lt j p hp
 ·intro j o₁ hj
  simp only [hg j] at hj
  by_cases q:j=i
  ·subst q
   simp only [if_true,Option.some.injEq] at hj;subst hj;exact hw
  ·rw [if_neg q] at hj;exact H.wso j o₁ hj
 ·intro k hk hn
  rw [Zdk,if_neg (fun r=>hn i o hi r.1.symm)]
 ·intro j o₁ hj
  obtain ⟨p,hp⟩:=alt j o₁ hj
  exact .inl ⟨j,p,hp,rfl⟩
def upd (s:Sg) (i:Nat) (x:Nat×Nat):Sg:=fun j=>if j=i then x else s j
theorem Zbb (s:Sg) (i:Nat) (x:Nat×Nat):upd s i x i=x:=by simp [upd]
theorem Zy3 (s:Sg) (i:Nat) (x:Nat×Nat) {j:Nat} (h:j<i):upd s i x j=s j:=by simp [upd];omega
theorem HRel.new {s:Sg} {h:Hp} {w:World} (H:HRel s h w) {f c:Nat} {o':AObj} {ob:Obj} {tr':Tr AObj}
  (ho:ORel (upd s h.next (w.heap.size,c)) h.next o' (some ob)) (hw:wsO (h.next+1) o'=true) (ht:Tr.set f h.tr h.next (some o')=some tr') :
  HRel (upd s h.next (w.heap.size,c)) ⟨tr',h.next+1⟩ { w with heap:=w.heap.push ob } ∧
  Ext s h w (upd s h.next (w.heap.size,c)) ⟨tr',h.next+1⟩ { w with heap:=w.heap.push ob }:=by
 have hg:=Tr.Zao f h.tr h.next (some o') tr' ht
 have old:∀j o₁,h.tr.get j=some o₁→upd s h.next (w.heap.size,c) j=s j:=fun j o₁ hj=>Zy3 s _ _ (H.lt j o₁ hj)
 refine ⟨⟨?_,?_,?_,?_⟩,⟨rfl,rfl,rfl,by simp,fun i hi=>Zy3 s _ _ hi,by simp,?_,?_,fun j o₁ hj hlt=>by
  simp only [hg j] at hj
  rw [if_neg (by omega)] at hj
  exact ⟨o₁,hj⟩⟩⟩
 ·intro j o₁ hj
  simp only [hg j] at hj
  by_cases q:j=h.next
  ·subst q
   simp only [if_true,Option.some.injEq] at hj;subst hj
   rw [Zbb];simpa using ho
  ·rw [if_neg q] at hj
   have hb:=H.bound hj
   rw [old j o₁ hj]
   show ORel _ _ _ ((w.heap.push ob)[(s j).1]?)
   rw [Array.getElem?_push,if_neg (by omega)]
   exact (H.obj j o₁ hj).congr (fun k hk=>Zy3 s _ _ hk) (H.lt j o₁ hj) (H.wso j o₁ hj)
 ·intro j k o₁ o₂ hj hk e
  simp only [hg j] at hj
  simp only [hg k] at hk
  by_cases q:j=h.next
  ·by_cases r:k=h.next
   ·rw [q,r]
   ·rw [if_neg r] at hk
    rw [q,Zbb,old k o₂ hk] at e
    have:=H.bound hk
    simp only [] at e;omega
  ·rw [if_neg q] at hj
   by_cases r:k=h.next
   ·rw [r,Zbb,old j o₁ hj] at e
    have:=H.bound hj
    simp only [] at e;omega
   ·rw [if_neg r] at hk
    rw [old j o₁ hj,old k o₂ hk] at e
    exact H.inj j k o₁ o₂ hj hk e
 ·intro j o₁ hj
  simp only [hg j] at hj
  by_cases q:j=h.next
  ·simp [q]
  ·rw [if_neg q] at hj;have:=H.lt j o₁ hj;simp only;omega
 ·intro j o₁ hj
  simp only [hg j] at hj
  by_cases q:j=h.next
  ·subst q
   simp only [if_true,Option.some.injEq] at hj;subst hj;exact hw
  ·rw [if_neg q] at hj;exact Zm7 (by simp) (H.wso j o₁ hj)
 ·intro k hk hn
  show (w.heap.push ob)[k]?=_
  rw [Array.getElem?_push,if_neg (by omega)]
 ·intro j o₁ hj
  simp only [hg j] at hj
  by_cases q:j=h.next
  ·subst q;right;rw [Zbb];exact Nat.le_refl _
  ·rw [if_neg q] at hj;exact .inl ⟨j,o₁,hj,by rw [old j o₁ hj]⟩
theorem HRel.kill {s:Sg} {h:Hp} {w:World} (H:HRel s h w) {i f:Nat} {tr':Tr AObj} (ht:Tr.set f h.tr i none=some tr'):HRel s ⟨tr',h.next⟩ w∧Ext s h w s ⟨tr',h.next⟩ w:=by
 have hg:=Tr.Zao f h.tr i none tr' ht
 have sub:∀j o,tr'.get j=some o→h.tr.get j=some o:=by
  intro j o hj
  rw [hg j] at hj
  by_cases q:j=i
  ·rw [if_pos q] at hj;cases hj
  ·rw [if_neg q] at hj;exact hj
 refine ⟨⟨fun j o hj=>H.obj j o (sub j o hj),fun j k o o' hj hk=>H.inj j k o o' (sub j o hj) (sub k o' hk),fun j o hj=>H.lt j o (sub j o hj),fun j o hj=>H.wso j o (sub j o hj)⟩,
  ⟨rfl,rfl,rfl,Nat.le_refl _,fun _ _=>rfl,Nat.le_refl _,fun _ _ _=>rfl,fun j o hj=>.inl ⟨j,o,sub j o hj,rfl⟩,fun j o hj _=>⟨o,sub j o hj⟩⟩⟩
def FT:Nat:=30
theorem HRel.cells {s:Sg} {h:Hp} {w:World} (H:HRel s h w) {b:Nat} {l:List AV} {ty:TypeId} {op:Option Nat} (hb:h.tr.get b=some (.cells l ty op)) :
  ∃tail:List Value,w.heap[(s b).1]?=some (.cells (concL s l++tail).toArray ty (0,0))∧(op=none→tail=[])∧(∀sz,op=some sz→(l.length+tail.length=(s b).2*sz∧(s b).2≤9223372036854775807)):=by
 have:=H.obj b _ hb
 cases op with
 | none=>exact ⟨[],by simpa [ORel] using this,fun _=>rfl,(fun _ h=>by cases h)⟩
 | some sz=>
  obtain ⟨tail,h1,h2⟩:=this
  exact ⟨tail,h1,(fun h=>by cases h),(fun z hz=>by cases hz;exact h2)⟩
theorem ORel.of_tail {s:Sg} {b:Nat} {l:List AV} {ty:TypeId} {op:Option Nat} {tail:List Value} (h1:op=none→tail=[]) (h2:∀sz,op=some sz→(l.length+tail.length=(s b).2*sz∧(s b).2≤9223372036854775807)) :
  ORel s b (.cells l ty op) (some (.cells (concL s l++tail).toArray ty (0,0))):=by
 cases op with
 | none=>simp [ORel,h1 rfl]
 | some sz=>exact ⟨tail,rfl,h2 sz rfl⟩
def aggr (P:Program) (t:TypeId):Option Bool:=match P.underlying t with
 | some (.struct _)=>some true
 | some (.array _ _)=>some true
 | some _=>some false
 | none=>none
theorem Zhy {P:Program} {t:TypeId} {b:Bool} (h:aggr P t=some b) (w:World):(isAgg t).run P w=.ok b w:=by
 unfold aggr at h
 cases hu:P.underlying t with
 | none=>simp [hu] at h
 | some d=>cases d<;>simp [hu] at h<;>subst h<;>simp [isAgg,run_underlying hu]
def Zoi (P:Program) (h:Hp) (t:TypeId) (u:AV):Option AV:=match u with
 | .ptr b off=>match h.tr.get b with
  | some (.cells l _ _)=>match aggr P t with
   | some true=>match Zbz P t with
    | some n=>match Nat.ble (off+n) l.length with
     | true=>some (.agg (takeN n (dropN off l)))
     | false=>none
    | none=>none
   | some false=>nth l off
   | none=>none
  | _=>none
 | _=>none
theorem Zpo {P:Program} {h:Hp} {t:TypeId} {u v:AV} (e:Zoi P h t u=some v) {s:Sg} {w:World} (H:HRel s h w) :
  (Instr.loadAt t (conc s u)).run P w=.ok (conc s v) w:=by
 unfold Zoi at e
 split at e<;>try cases e
 rename_i b off
 split at e<;>try cases e
 rename_i l ty op hb
 obtain ⟨tail,hw,_,_⟩:=H.cells hb
 split at e
 ·rename_i ha
  split at e<;>try cases e
  rename_i n hn
  split at e<;>try cases e
  rename_i hl
  have hl:=Nat.le_of_ble_eq_true hl
  have hL:=Zc3 s l
  simp only [Instr.loadAt,conc,Instr.sureAddr,Sem.run_bind,Sem.run_pure,Result.andThen_ok,loadVar,Zhy ha,if_true,run_sizeOf hn,loadCells]
  rw [run_loadCells hw n 0 #[] (by simp;omega)]
  simp only [Result.andThen_ok,Sem.run_pure]
  congr 3
  simp only [Nat.add_zero,Zdt,Ze9,Zln,Zmo]
  simp only [List.toList_toArray,List.nil_append]
  rw [List.drop_append_of_le_length (by omega),List.take_append_of_le_length (by simp;omega)]
 ·rename_i ha
  rw [Zcg] at e
  have hlt:off<l.length:=by
   rcases Nat.lt_or_ge off l.length with q | q
   ·exact q
   ·rw [List.getElem?_eq_none q] at e;cases e
  have hc:w.cell? ⟨(s b).1,off,none⟩=some (conc s v):=by
   have hL:=Zc3 s l
   simp only [World.cell?,hw,Option.isSome_none,Bool.false_eq_true,if_false]
   simp only [List.getElem?_toArray]
   rw [List.getElem?_append_left (by omega),Ztq,e];rfl
  simp [Instr.loadAt,conc,Instr.sureAddr,loadVar,Zhy ha,run_load,hc]
 ·cases e
theorem Zje {n:Nat} {a b:List AV} (ha:wsL n a=true) (hb:wsL n b=true):wsL n (a++b)=true:=by
 rw [Zvx] at *
 intro x hx
 rcases List.mem_append.1 hx with q | q
 ·exact ha x q
 ·exact hb x q
theorem Zt3 {n k:Nat} {a:List AV} (ha:wsL n a=true):wsL n (takeN k a)=true:=by
 rw [Zdt];rw [Zvx] at *;exact fun x hx=>ha x (List.mem_of_mem_take hx)
theorem Zvy {n k:Nat} {a:List AV} (ha:wsL n a=true):wsL n (dropN k a)=true:=by
 rw [Ze9];rw [Zvx] at *;exact fun x hx=>ha x (List.mem_of_mem_drop hx)
theorem Zm6 {n:Nat} {v:AV} (h:ws n v=true):wsL n (Zb9 v)=true:=by
 cases v<;>simp only [Zb9,wsL,h]<;>exact h
def Zqq (h:Hp) (b off:Nat) (vs:List AV):Option Hp:=match h.tr.get b with
 | some (.cells l ty op)=>match Nat.ble (off+vs.length) l.length,oneL vs with
  | true,true=>match Tr.set FT h.tr b (some (.cells (takeN off l++(vs++dropN (off+vs.length) l)) ty op)) with
   | some tr=>some ⟨tr,h.next⟩
   | none=>none
  | _,_=>none
 | _=>none
theorem Zn0 {P:Program} {h h':Hp} {b off:Nat} {vs:List AV} (e:Zqq h b off vs=some h') {s:Sg} {w:World} (H:HRel s h w) (hv:wsL h.next vs=true) :
  ∃w',(storeCells ⟨(s b).1,off,none⟩ (concL s vs)).run P w=.ok () w'∧HRel s h' w'∧Ext s h w s h' w':=by
 unfold Zqq at e
 split at e<;>try cases e
 rename_i l ty op hb
 split at e<;>try cases e
 rename_i hl ho
 split at e<;>try cases e
 rename_i tr ht
 have hl:=Nat.le_of_ble_eq_true hl
 obtain ⟨tail,hw,h1,h2⟩:=H.cells hb
 have hL:=Zc3 s l
 have hV:=Zc3 s vs
 obtain ⟨c',hc',hr⟩:=Zdn (P:=P) (off:=off) (concL s vs) 0 w _ hw (by simp;omega) (by
  intro v hv
  rw [Zn2] at hv
  obtain ⟨x,hx,rfl⟩:=List.mem_map.1 hv
  exact Za4r ((Za4s vs).1 ho x hx))
 have hc:c'=(concL s (takeN off l++(vs++dropN (off+vs.length) l))++tail).toArray:=by
  apply Array.toList_inj.1
  rw [hc']
  simp only [Nat.add_zero,Zdt,Ze9,Zj7,Zln,Zmo,hV]
  rw [List.take_append_of_le_length (by omega),List.drop_append_of_le_length (by omega)]
  simp
 subst hc
 have hlen:(takeN off l++(vs++dropN (off+vs.length) l)).length=l.length:=by simp [Zdt,Ze9];omega
 have:=H.put (ob:=.cells (concL s (takeN off l++(vs++dropN (off+vs.length) l))++tail).toArray ty (0,0)) hb rfl
  (ORel.of_tail (ty:=ty) (op:=op) h1 (by rw [hlen];exact h2))
  (by have:=H.wso _ _ hb;simp only [wsO] at this ⊢;exact Zje (Zt3 this) (Zje hv (Zvy this))) ht
 exact ⟨_,hr,this.1,this.2⟩
def Za3y (P:Program) (h:Hp) (t:TypeId) (u v:AV):Option Hp:=match u with
 | .ptr b off=>match Zbz P t with
  | some n=>match Nat.beq (Zb9 v).length n with
   | true=>Zqq h b off (Zb9 v)
   | false=>none
  | none=>none
 | _=>none
theorem Za3x {P:Program} {h h':Hp} {t:TypeId} {u v:AV} (e:Za3y P h t u v=some h') {s:Sg} {w:World} (H:HRel s h w) (hv:ws h.next v=true) :
  ∃w',(Instr.storeAt t (conc s u) (conc s v)).run P w=.ok () w'∧HRel s h' w'∧Ext s h w s h' w':=by
 unfold Za3y at e
 split at e<;>try cases e
 rename_i b off
 split at e<;>try cases e
 rename_i n hn
 split at e<;>try cases e
 rename_i hl
 have hl:=Nat.eq_of_beq_eq_true hl
 obtain ⟨w',hr,hH,hE⟩:=Zn0 (P:=P) e H (Zm6 hv)
 refine ⟨w',?_,hH,hE⟩
 have hsz:(conc s v).cells.size=n:=by rw [←Array.length_toList,Zg8,Zc3,hl]
 simp only [Instr.storeAt,conc,Instr.sureAddr,Sem.run_bind,Sem.run_pure,Result.andThen_ok,storeVar,run_sizeOf hn]
 rw [if_neg (by simp [hsz])]
 simp only [Sem.run_pure,Result.andThen_ok,Zg8]
 exact hr
def rep:Nat→List AV→List AV
 | 0,_=>[]
 | n+1,z=>z++rep n z
theorem Zrs (n:Nat) (z:List AV):(rep n z).length=n*z.length:=by
 induction n with
 | zero=>simp [rep]
 | succ n ih=>simp [rep,ih,Nat.add_mul,Nat.add_comm]
theorem Za7g (s:Sg) (z:List AV):∀(n i:Nat),i<n*z.length→(concL s (rep n z))[i]?=(concL s z)[i % z.length]?
 | 0,i,h=>by omega
 | n+1,i,h=>by
  have hz:=Zc3 s z
  simp only [rep,Zj7]
  rcases Nat.lt_or_ge i z.length with q | q
  ·rw [List.getElem?_append_left (by omega),Nat.mod_eq_of_lt q]
  ·rw [List.getElem?_append_right (by omega),hz,Za7g s z n (i - z.length) (by rw [Nat.add_mul] at h;omega)]
   congr 1
   rw [←Nat.mod_eq_sub_mod q]
theorem Zwi (s:Sg) (z:List AV) (n k:Nat) (zero:Array Value) (hz:zero.toList=concL s z) (hk:k=n*z.length) :
  ((Array.range k).map (zero[· % zero.size]!))=(concL s (rep n z)).toArray:=by
 have hs:zero.size=z.length:=by rw [←Array.length_toList,hz,Zc3]
 apply Array.toList_inj.1
 apply List.ext_getElem?
 intro i
 simp only [Array.toList_map,Array.toList_range,List.getElem?_map,List.toList_toArray]
 rcases Nat.lt_or_ge i k with q | q
 ·have hz0:0<z.length:=by
   rcases Nat.eq_zero_or_pos z.length with r | r
   ·rw [r] at hk;omega
   ·exact r
  rw [List.getElem?_range q,Option.map_some,Za7g s z n i (by omega),←hz,hs]
  have hm:=Nat.mod_lt i hz0
  simp [hs,hm]
 ·rw [List.getElem?_eq_none (by simpa using q),List.getElem?_eq_none (by rw [Zc3,Zrs];omega)];rfl
theorem Za2v {n:Nat} {z:List AV} (h:wsL n z=true) (k:Nat):wsL n (rep k z)=true:=by
 induction k with
 | zero=>simp [rep,wsL]
 | succ k ih=>exact Zje h ih
theorem Za5q {x:Value} {v:AV} (h:back1 x=some v) (n:Nat):ws n v=true:=by
 cases x with
 | pointer a=>cases a<;>simp [back1] at h;subst h;rfl
 | map a=>cases a<;>simp [back1] at h;subst h;rfl
 | slice a l c=>
  simp only [back1] at h
  split at h
  ·simp at h;subst h;rfl
  ·cases h
 | _=>simp [back1] at h<;>subst h<;>rfl
theorem Za0l:∀{x:List Value} {l:List AV},backL x=some l→∀n,wsL n l=true
 | [],l,h,n=>by simp [backL] at h;subst h;rfl
 | x :: xs,l,h,n=>by
  simp only [backL] at h
  cases hv:back1 x<;>simp only [hv] at h
  ·cases h
  cases hl:backL xs<;>simp only [hl] at h
  ·cases h
  simp at h;subst h
  simp [wsL,Za5q hv,Za0l hl]
theorem Za4a {x:Value} {v:AV} (h:back x=some v) (n:Nat):ws n v=true:=by
 cases x with
 | agg l=>
  simp only [back] at h
  cases hl:backL l.toList<;>simp only [hl] at h
  ·cases h
  simp at h;subst h
  simp [ws,Za0l hl]
 | tuple l=>
  simp only [back] at h
  cases hl:backL l.toList<;>simp only [hl] at h
  ·cases h
  simp at h;subst h
  simp [ws,Za0l hl]
 | _=>simp only [back] at h;exact Za5q h n
theorem Zmm {P:Program} {t:TypeId} {v:AV} (h:Ze3 P t=some v) (n:Nat):ws n v=true:=by
 unfold Ze3 at h
 split at h<;>try cases h
 split at h<;>try cases h
 exact Za4a h n
def natOf:AV→Option Nat
 | .int _ (.ofNat n)=>some n
 | _=>none
theorem Za68 {v:AV} {n:Nat} (h:natOf v=some n) (s:Sg):∃k,conc s v=.int k (n:Int):=by
 unfold natOf at h
 split at h<;>try cases h
 exact ⟨_,rfl⟩
theorem Zkw {P:Program} {k:IntKind} {n y:Nat} {code:BoundsCode} (h:n≤y) (w:World):(Instr.sliceBound (.int k (n:Int)) y code).run P w=.ok n w:=by
 simp [Instr.sliceBound,asIntOf,h]
def evB (T:Tr AV) (x:Option Operand) (d:Nat):Option Nat:=match x with
 | none=>some d
 | some x=>match evO T x with
  | some v=>natOf v
  | none=>none
theorem Zlf {P:Program} {T:Tr AV} {s:Sg} {a:Act} {lo hi mx:Option Operand} {len cap l h m:Nat} (hr:∀x,(lo=some x∨hi=some x∨mx=some x)→∀u,evO T x=some u→a.eval x=conc s u)
  (h1:evB T lo 0=some l) (h2:evB T hi len=some h) (h3:evB T mx cap=some m) (q1:l≤h) (q2:h≤m) (q3:m≤cap) (q4:hi=none→mx=none) (w:World) :
  (Instr.sliceBounds true len cap (lo.map a.eval) (hi.map a.eval) (mx.map a.eval)).run P w=.ok (l,h,m) w:=by
 have val:∀x d r,(lo=some x∨hi=some x∨mx=some x)→evB T (some x) d=some r→∃k,a.eval x=.int k (r:Int):=by
  intro x d r hx he
  unfold evB at he
  simp only [] at he
  split at he<;>try cases he
  rename_i v hv
  obtain ⟨k,hk⟩:=Za68 he s
  exact ⟨k,(hr x hx v hv).trans hk⟩
 have hm:mx=none→m=cap:=by intro q;subst q;simpa [evB] using h3.symm
 have hh:hi=none→h=len:=by intro q;subst q;simpa [evB] using h2.symm
 have hl:lo=none→l=0:=by intro q;subst q;simpa [evB] using h1.symm
 unfold Instr.sliceBounds
 cases mx with
 | none=>
  have hm:=hm rfl
  subst hm
  cases hi with
  | none=>
   have hh:=hh rfl;subst hh
   cases lo with
   | none=>have:=hl rfl;subst this;simp
   | some x=>
    obtain ⟨k,e⟩:=val x 0 l (.inl rfl) h1
    simp [e,Zkw q1]
  | some y=>
   obtain ⟨k',e'⟩:=val y len h (.inr (.inl rfl)) h2
   cases lo with
   | none=>have:=hl rfl;subst this;simp [e',Zkw q2]
   | some x=>
    obtain ⟨k,e⟩:=val x 0 l (.inl rfl) h1
    simp [e,e',Zkw q1,Zkw q2]
 | some z=>
  obtain ⟨k'',e''⟩:=val z cap m (.inr (.inr rfl)) h3
  cases hi with
  | none=>cases q4 rfl
  | some y=>
   obtain ⟨k',e'⟩:=val y len h (.inr (.inl rfl)) h2
   cases lo with
   | none=>have:=hl rfl;subst this;simp [e',e'',Zkw q2,Zkw q3]
   | some x=>
    obtain ⟨k,e⟩:=val x 0 l (.inl rfl) h1
    simp [e,e',e'',Zkw q1,Zkw q2,Zkw q3]
def isNone {α:Type}:Option α→Bool | none=>true | some _=>false
def Zor (P:Program) (h:Hp) (T:Tr AV) (t:TypeId) (u:AV) (lo hi mx:Option Operand):Option AV:=match P.underlying t with
 | some (.slice elem)=>match Zbz P elem,u with
  | some sz,.slice b off len false c=>match evB T lo 0,evB T hi len,evB T mx c with
   | some l,some r,some m=>match Nat.ble l r,Nat.ble r m,Nat.ble m c,(isNone mx||!isNone hi) with
    | true,true,true,true=>some (.slice b (match Nat.beq m l with | true=>off | false=>off+l*sz) (r - l) false (m - l))
    | _,_,_,_=>none
   | _,_,_=>none
  | some sz,.slice b off len true c=>match h.tr.get b with
   | some (.cells cs _ (some z))=>match Nat.beq z sz,sz with
    | true,sz+1=>match mx with
     | some x=>match evB T lo 0,evB T hi len,evB T (some x) 0 with
      | some l,some r,some m=>match Nat.ble l r,Nat.ble r m,Nat.ble ((c+m)*(sz+1)) cs.length,!isNone hi with
       | true,true,true,true=>some (.slice b (match Nat.beq m l with | true=>off | false=>off+l*(sz+1)) (r - l) false (m - l))
       | _,_,_,_=>none
      | _,_,_=>none
     | none=>match evB T lo 0,evB T hi len with
      | some l,some r=>match Nat.ble l r,Nat.ble ((c+r)*(sz+1)) cs.length,(Nat.beq l 0||Nat.blt ((c+l)*(sz+1)) cs.length) with
       | true,true,true=>some (.slice b (off+l*(sz+1)) (r - l) true (c+l))
       | true,true,false=>(match Nat.beq r l with | true=>some (.tailS b off (off+l*(sz+1)) (c+l)) | false=>none)
       | _,_,_=>none
      | _,_=>none
    | _,_=>none
   | _=>none
  | some sz,.nils=>match evB T lo 0,evB T hi 0,evB T mx 0 with
   | some 0,some 0,some 0=>match (isNone mx||!isNone hi) with
    | true=>some .nils
    | false=>none
   | _,_,_=>none
  | _,_=>none
 | some .string=>match u with
  | .str x=>match lo.elim (some none) (fun y=>(evO T y).bind fun v=>(scal v).map some),hi.elim (some none) (fun y=>(evO T y).bind fun v=>(scal v).map some),mx with
   | some l,some r,none=>match still P 4000 (Instr.sliceAt t (.string x) l r none) with
    | some q=>back q
    | none=>none
   | _,_,_=>none
  | _=>none
 | _=>none
theorem Za4q {T:Tr AV} {s:Sg} {a:Act} {x:Option Operand} {l:Option Value} (h:x.elim (some none) (fun y=>(evO T y).bind fun v=>(scal v).map some)=some l)
  (hr:∀y,x=some y→∀u,evO T y=some u→a.eval y=conc s u):x.map a.eval=l:=by
 cases x with
 | none=>simpa using h
 | some y=>
  simp only [Option.elim] at h
  cases hv:evO T y<;>simp [hv] at h
  rename_i v
  obtain ⟨q,hq,rfl⟩:=h
  simp [hr y rfl v hv,Zet hq]
theorem Zsu {P:Program} {h:Hp} {T:Tr AV} {t:TypeId} {u v:AV} {lo hi mx:Option Operand} (e:Zor P h T t u lo hi mx=some v) {s:Sg} {w:World} {a:Act} (H:HRel s h w)
  (hr:∀x,(lo=some x∨hi=some x∨mx=some x)→∀u,evO T x=some u→a.eval x=conc s u) :
  (Instr.sliceAt t (conc s u) (lo.map a.eval) (hi.map a.eval) (mx.map a.eval)).run P w=.ok (conc s v) w:=by
 unfold Zor at e
 split at e
 ·rename_i elem hu
  have hru:=run_underlying hu w
  split at e
  ·rename_i sz b off len c hs
   split at e<;>try cases e
   rename_i l r m h1 h2 h3
   split at e<;>try cases e
   rename_i q1 q2 q3 q4
   have q1:=Nat.le_of_ble_eq_true q1
   have q2:=Nat.le_of_ble_eq_true q2
   have q3:=Nat.le_of_ble_eq_true q3
   have q4:hi=none→mx=none:=by
    intro q;subst q;cases mx
    ·rfl
    ·simp [isNone] at q4
   have hb:=Zlf hr h1 h2 h3 q1 q2 q3 q4 w (P:=P)
   simp only [Instr.sliceAt,Instr.slice,conc,Sem.run_bind,hru,Result.andThen_ok,hb,run_sizeOf hs,Sem.run_pure]
   cases hml:Nat.beq m l
   ·have:=Nat.ne_of_beq_eq_false hml
    simp [this,Zd7]
   ·have:=Nat.eq_of_beq_eq_true hml
    simp [this]
  ·rename_i sz b off len c hs
   split at e<;>try cases e
   rename_i cs ty z hb
   split at e<;>try cases e
   rename_i sz' sz hz
   have hz:=Nat.eq_of_beq_eq_true hz
   subst hz
   obtain ⟨tail,hw,_,h2⟩:=H.cells hb
   have h2:cs.length+tail.length=(s b).2*(sz+1):=(h2 _ rfl).1
   split at e
   ·rename_i x
    split at e<;>try cases e
    rename_i l r m h1 h2' h3
    split at e<;>try cases e
    rename_i q1 q2 q3 q4
    have q1:=Nat.le_of_ble_eq_true q1
    have q2:=Nat.le_of_ble_eq_true q2
    have q3:=Nat.le_of_ble_eq_true q3
    have hcap:c+m≤(s b).2:=by
     rcases Nat.lt_or_ge (s b).2 (c+m) with q | q
     ·have:=Nat.mul_lt_mul_of_pos_right q (show 0<sz+1 by omega)
      omega
     ·exact q
    have hb':=Zlf (cap:=(s b).2 - c) (mx:=some x) hr h1 h2' (show evB T (some x) ((s b).2 - c)=some m from h3) q1 q2 (by omega) (by
     intro q;subst q;simp [isNone] at q4) w (P:=P)
    simp only [Instr.sliceAt,Instr.slice,conc,Sem.run_bind,hru,Result.andThen_ok,hb',run_sizeOf hs,Sem.run_pure]
    cases hml:Nat.beq m l
    ·have:=Nat.ne_of_beq_eq_false hml
     simp [this,Zd7]
    ·have:=Nat.eq_of_beq_eq_true hml
     simp [this]
   ·split at e<;>try cases e
    rename_i l r h1 h2'
    split at e<;>try cases e
    ·rename_i q1 q3 q4
     have q1:=Nat.le_of_ble_eq_true q1
     have q3:=Nat.le_of_ble_eq_true q3
     have hcap:c+r≤(s b).2:=by
      rcases Nat.lt_or_ge (s b).2 (c+r) with q | q
      ·have:=Nat.mul_lt_mul_of_pos_right q (show 0<sz+1 by omega)
       omega
      ·exact q
     have hb':=Zlf (cap:=(s b).2 - c) (mx:=none) hr h1 h2' (show evB T none ((s b).2 - c)=some ((s b).2 - c) from rfl) q1 (by omega) (Nat.le_refl _) (fun _=>rfl) w (P:=P)
     simp only [Instr.sliceAt,Instr.slice,conc,Sem.run_bind,hru,Result.andThen_ok,hb',run_sizeOf hs,Sem.run_pure]
     have hne:(s b).2 - c≠l∨l=0:=by
      rcases Nat.eq_zero_or_pos l with q | q
      ·exact .inr q
      ·left
       have hbl:Nat.beq l 0=false:=by cases hq:Nat.beq l 0 with | false=>rfl | true=>have:=Nat.eq_of_beq_eq_true hq;omega
       simp only [hbl,Bool.false_or,Nat.blt_eq] at q4
       have:c+l<(s b).2:=by
        rcases Nat.lt_or_ge (c+l) (s b).2 with q' | q'
        ·exact q'
        ·have:=Nat.mul_le_mul_right (sz+1) q'
         omega
       omega
     congr 2
     ·by_cases q:(s b).2 - c=l
      ·rcases hne with q' | q'
       ·exact absurd q q'
       ·subst q';simp [q]
      ·simp [q,Zd7]
     ·omega
    ·rename_i q1 q3 q4
     split at e<;>try cases e
     rename_i q5
     have q5:=Nat.eq_of_beq_eq_true q5
     subst q5
     have q1:=Nat.le_of_ble_eq_true q1
     have q3:=Nat.le_of_ble_eq_true q3
     have hcap:c+r≤(s b).2:=by
      rcases Nat.lt_or_ge (s b).2 (c+r) with q | q
      ·have:=Nat.mul_lt_mul_of_pos_right q (show 0<sz+1 by omega)
       omega
      ·exact q
     have hb':=Zlf (cap:=(s b).2 - c) (mx:=none) hr h1 h2' (show evB T none ((s b).2 - c)=some ((s b).2 - c) from rfl) q1 (by omega) (Nat.le_refl _) (fun _=>rfl) w (P:=P)
     simp only [Instr.sliceAt,Instr.slice,conc,Sem.run_bind,hru,Result.andThen_ok,hb',run_sizeOf hs,Sem.run_pure]
     congr 2
     ·by_cases q:(s b).2 - c=r
      ·have hq:Nat.beq (s b).2 (c+r)=true:=by rw [show (s b).2=c+r by omega];exact Nat.beq_refl _
       rw [hq]
       simp [q]
      ·have hq:Nat.beq (s b).2 (c+r)=false:=by
        cases h:Nat.beq (s b).2 (c+r) with
        | false=>rfl
        | true=>exact absurd (Nat.eq_of_beq_eq_true h) (by omega)
       rw [hq]
       simp [q,Zd7]
     ·omega
     ·omega
  ·rename_i sz hs
   split at e<;>try cases e
   rename_i h1 h2 h3
   split at e<;>try cases e
   rename_i q4
   have q4:hi=none→mx=none:=by
    intro q;subst q;cases mx
    ·rfl
    ·simp [isNone] at q4
   have hb:=Zlf hr h1 h2 h3 (Nat.le_refl 0) (Nat.le_refl 0) (Nat.le_refl 0) q4 w (P:=P)
   simp only [Instr.sliceAt,Instr.slice,conc,Sem.run_bind,hru,Result.andThen_ok,hb,run_sizeOf hs,Sem.run_pure]
   rfl
  ·cases e
 ·rename_i hu
  split at e<;>try cases e
  split at e<;>try cases e
  rename_i x l r h1 h2
  split at e<;>try cases e
  rename_i q hq
  rw [Za4q h1 (fun y hy=>hr y (.inl hy)),Za4q h2 (fun y hy=>hr y (.inr (.inl hy)))]
  simp only [conc,Option.map_none]
  rw [Ze1 hq,Zj8 e]
 ·cases e
def Zgx (T:Tr AV):List (Nat×Operand)→Option (List (Nat×AV))
 | []=>some []
 | (i,x) :: l=>match evO T x with
  | some v=>match Zgx T l with
   | some vs=>some ((i,v) :: vs)
   | none=>none
  | none=>none
theorem Zrj {s:Sg} {T:Tr AV} {a:Act}:∀{l:List (Nat×Operand)} {vs:List (Nat×AV)},Zgx T l=some vs →
  (∀x∈l.map (·.2),∀u,evO T x=some u→a.eval x=conc s u)→l.map (fun x=>(x.1,a.eval x.2))=vs.map fun x=>(x.1,conc s x.2)
 | [],vs,h,_=>by simp [Zgx] at h;subst h;rfl
 | (i,x) :: l,vs,h,hr=>by
  simp only [Zgx] at h
  cases hv:evO T x<;>simp only [hv] at h
  ·cases h
  cases hl:Zgx T l<;>simp only [hl] at h
  ·cases h
  simp at h;subst h
  simp only [List.map_cons]
  rw [hr x (by simp) _ hv,Zrj hl (fun y hy=>hr y (by simp only [List.map_cons];exact List.mem_cons_of_mem _ hy))]
theorem Zyw {T:Tr AV} {n:Nat}:∀{l:List (Nat×Operand)} {vs:List (Nat×AV)},Zgx T l=some vs →
  (∀x∈l.map (·.2),∀u,evO T x=some u→ws n u=true)→∀x∈vs,ws n x.2=true
 | [],vs,h,_=>by simp [Zgx] at h;subst h;simp
 | (i,x) :: l,vs,h,hr=>by
  simp only [Zgx] at h
  cases hv:evO T x<;>simp only [hv] at h
  ·cases h
  cases hl:Zgx T l<;>simp only [hl] at h
  ·cases h
  simp at h;subst h
  intro y hy
  rcases List.mem_cons.1 hy with rfl | hy
  ·exact hr x (by simp) _ hv
  ·exact Zyw hl (fun z hz=>hr z (by simp only [List.map_cons];exact List.mem_cons_of_mem _ hz)) y hy
theorem Zvn {n:Nat} (place:Nat→Option (Nat×Nat)):∀(parts:List (Nat×AV)) (cells r:List AV),fillA place cells parts=some r→wsL n cells=true →
  (∀x∈parts,ws n x.2=true)→wsL n r=true
 | [],cells,r,h,hc,_=>by simp [fillA] at h;subst h;exact hc
 | (i,v) :: rest,cells,r,h,hc,hp=>by
  simp only [fillA] at h
  split at h<;>try cases h
  split at h<;>try cases h
  exact Zvn place rest _ r h (Zje (Zt3 hc) (Zje (Zm6 (hp (i,v) (by simp))) (Zvy hc))) (fun x hx=>hp x (by simp [hx]))
def places (P:Program):List Field→Option (List (Nat×Nat))
 | []=>some []
 | f :: l=>match Zbz P f.type with
  | some n=>match places P l with
   | some r=>some ((f.offset,n) :: r)
   | none=>none
  | none=>none
theorem run_places {P:Program} {w:World}:∀{l:List Field} {r:List (Nat×Nat)},places P l=some r →
  (l.mapM (fun f=>do pure (f.offset,←Go.sizeOf f.type):Field→Sem (Nat×Nat))).run P w=.ok r w
 | [],r,h=>by simp [places] at h;subst h;simp
 | f :: l,r,h=>by
  simp only [places] at h
  split at h<;>try cases h
  rename_i n hn
  split at h<;>try cases h
  rename_i q hq
  rw [List.mapM_cons]
  simp only [Sem.run_bind,run_sizeOf hn,Result.andThen_ok,Sem.run_pure]
  rw [run_places hq];rfl
theorem Zib {P:Program} {w:World} {l:Array Field} {r:List (Nat×Nat)} (h:places P l.toList=some r) :
  (l.mapM (fun f=>do pure (f.offset,←Go.sizeOf f.type):Field→Sem (Nat×Nat))).run P w=.ok r.toArray w:=by
 have:=run_places (w:=w) h
 rw [Array.mapM_eq_mapM_toList,Sem.run_map,this];rfl
def Zqx (P:Program) (t:TypeId) (parts:List (Nat×AV)):Option AV:=match P.underlying t with
 | some (.struct fields)=>match Ze3 P t,places P fields.toList with
  | some z,some ps=>match fillA (fun i=>nth ps i) (Zb9 z) parts with
   | some r=>some (.agg r)
   | none=>none
  | _,_=>none
 | some (.array _ elem)=>match Ze3 P t,Zbz P elem with
  | some z,some sz=>match fillA (fun i=>some (i*sz,sz)) (Zb9 z) parts with
   | some r=>some (.agg r)
   | none=>none
  | _,_=>none
 | _=>none
theorem Zsz {P:Program} {t:TypeId} {parts:List (Nat×AV)} {v:AV} (e:Zqx P t parts=some v) (s:Sg) (w:World) (ps:Array (Nat×Value))
  (hp:ps.toList=parts.map fun x=>(x.1,conc s x.2)):(Instr.build t ps).run P w=.ok (conc s v) w:=by
 unfold Zqx at e
 split at e
 ·rename_i fields hu
  split at e<;>try cases e
  rename_i z q hz hq
  split at e<;>try cases e
  rename_i r hr
  have hf:=Zs0 s _ _ _ _ hr
  rw [←Zg8,Array.toArray_toList] at hf
  have hfun:(fun i=>(q.toArray:Array (Nat×Nat))[i]?)=fun i=>nth q i:=by funext i;rw [Zcg];simp
  simp only [Instr.build,Sem.run_bind,Zbe hz s,Result.andThen_ok,run_underlying hu,Zib hq,hp,Sem.run_pure]
  rw [hfun,hf]
  simp [conc]
 ·rename_i k elem hu
  split at e<;>try cases e
  rename_i z sz hz hs
  split at e<;>try cases e
  rename_i r hr
  have hf:=Zs0 s _ _ _ _ hr
  rw [←Zg8,Array.toArray_toList] at hf
  simp only [Instr.build,Sem.run_bind,Zbe hz s,Result.andThen_ok,run_underlying hu,run_sizeOf hs,hp,Sem.run_pure]
  rw [hf]
  simp [conc]
 ·cases e
def Zeb (P:Program) (t:TypeId):Option Nat:=match P.info? t with | some i=>some i.bytes | none=>none
def evA (P:Program) (T:Tr AV) (n:Nat):Op→Option (AObj×AV)
 | .alloc elem=>match Ze3 P elem with
  | some z=>some (.cells (Zb9 z) elem none,.ptr n 0)
  | none=>none
 | .box elem x=>match evO T x with
  | some u=>some (.cells (Zb9 u) elem none,.ptr n 0)
  | none=>none
 | .makeSlice t l c=>match P.underlying t,evO T l,evO T c with
  | some (.slice elem),some (.int _ li),some (.int _ ci)=>match IntKind.i64.wrap li,IntKind.i64.wrap ci,Zeb P elem,Zbz P elem,Ze3 P elem with
   | .ofNat l,.ofNat c,some by_,some sz,some z=>match Nat.ble l c,Nat.ble (by_*c) 281474976710656,Nat.beq (Zb9 z).length sz with
    | true,true,true=>some (.cells (rep c (Zb9 z)) elem none,.slice n 0 l false c)
    | _,_,_=>none
   | _,_,_,_,_=>none
  | _,_,_=>none
 | .buildSlice t len parts=>match P.underlying t,Zgx T parts.toList with
  | some (.slice elem),some ps=>match Zbz P elem,Ze3 P elem with
   | some sz,some z=>match Nat.ble (len*sz) 16777216,Nat.beq (Zb9 z).length sz with
    | true,true=>match fillA (fun i=>some (i*sz,sz)) (rep len (Zb9 z)) ps with
     | some r=>some (.cells r elem none,.slice n 0 len false len)
     | none=>none
    | _,_=>none
   | _,_=>none
  | _,_=>none
 | .makeMap t r=>match r with
  | none=>some (.map [] 0,.map n)
  | some x=>match P.underlying t,evO T x with
   | some (.map _ _),some (.int _ _)=>some (.map [] 0,.map n)
   | _,_=>none
 | _=>none
theorem conc_upd {s:Sg} {n:Nat} {x:Nat×Nat} {v:AV} (h:ws n v=true):conc (upd s n x) v=conc s v:=Zlm (fun i hi=>Zy3 s n x hi) v h
theorem Za2g {s:Sg} {n:Nat} {x:Nat×Nat} {v:List AV} (h:wsL n v=true):concL (upd s n x) v=concL s v:=Zkd (fun i hi=>Zy3 s n x hi) v h
theorem Zy1 {P:Program} {t:TypeId} {z:AV} {s:Sg} {k:Nat} {w:World} (hz:Ze3 P t=some z) :
  ∃zero:Array Value,((if k=0 then pure #[] else do pure (← zeroValue t).cells:Sem (Array Value)).run P w=.ok zero w)∧(k≠0→zero.toList=concL s (Zb9 z)):=by
 by_cases hk:k=0
 ·exact ⟨#[],by simp [hk],fun h=>absurd hk h⟩
 ·refine ⟨(conc s z).cells,?_,fun _=>Zg8 s z⟩
  rw [if_neg hk]
  simp [Zbe hz s]
theorem Za0g {P:Program} {T:Tr AV} {n:Nat} {o:Oper} {ob:AObj} {v:AV} (e:evA P T n o.op=some (ob,v)) {s:Sg} {a:Act} (hO:Opnd s T a o.op)
  (w:World) (hs':s n=(w.heap.size,0)) :
  ∃ob',(execOp a.eval o).run P w=.ok (.value (conc s v)) { w with heap:=w.heap.push ob' }∧ORel s n ob (some ob'):=by
 unfold evA at e
 unfold execOp
 split at e
 ·rename_i elem ho
  split at e<;>try cases e
  rename_i z hz
  refine ⟨.cells (concL s (Zb9 z)).toArray elem (0,0),?_,?_⟩
  ·rw [ho]
   simp only [Instr.alloc,Sem.run_bind,Zbe hz s,Result.andThen_ok,newVar,newRow,run_newObj,Sem.run_pure,conc,hs']
   rw [←Zg8,Array.toArray_toList]
  ·simp only [ORel]
 ·rename_i elem x ho
  split at e<;>try cases e
  rename_i u hu
  rw [ho] at hO
  have hx:=hO x (by simp [Op.operands]) u hu
  refine ⟨.cells (concL s (Zb9 u)).toArray elem (0,0),?_,?_⟩
  ·rw [ho]
   simp only [Instr.box,Sem.run_bind,hx,Result.andThen_ok,newVar,newRow,run_newObj,Sem.run_pure,conc,hs']
   rw [←Zg8,Array.toArray_toList]
  ·simp only [ORel]
 ·rename_i t l c ho
  rw [ho] at hO
  split at e<;>try cases e
  rename_i elem kl li kc ci hu hl hc
  have hl':=hO l (by simp [Op.operands]) _ hl
  have hc':=hO c (by simp [Op.operands]) _ hc
  split at e<;>try cases e
  rename_i l' c' by_ sz z hwl hwc hb hs hz
  split at e<;>try cases e
  rename_i q1 q2 q3
  have q1:=Nat.le_of_ble_eq_true q1
  have q2:=Nat.le_of_ble_eq_true q2
  have q3:=Nat.eq_of_beq_eq_true q3
  obtain ⟨info,hi,rfl⟩:∃info,P.info? elem=some info∧info.bytes=by_:=by
   unfold Zeb at hb
   cases hi:P.info? elem<;>simp [hi] at hb
   exact ⟨_,rfl,hb⟩
  obtain ⟨zero,hz1,hz2⟩:=Zy1 (k:=c'*sz) (s:=s) (w:=w) hz
  refine ⟨.cells (concL s (rep c' (Zb9 z))).toArray elem (0,0),?_,?_⟩
  ·rw [ho]
   simp only [hl',hc',conc]
   have hcell:(Array.range (c'*sz)).map (zero[· % zero.size]!)=(concL s (rep c' (Zb9 z))).toArray:=by
    by_cases hk:c'*sz=0
    ·have:rep c' (Zb9 z)=[]:=List.eq_nil_of_length_eq_zero (by rw [Zrs,q3];exact hk)
     rw [this,hk];simp [concL]
    ·exact Zwi s _ c' _ zero (hz2 hk) (by rw [q3])
   have hnot:¬(((decide ((Int.ofNat c')<0)||decide ((info.bytes:Int)*(Int.ofNat c') > 2^48))||decide ((Int.ofNat l')<0)||decide ((Int.ofNat l') > (Int.ofNat c')))=true):=by
    have hm:(info.bytes:Int)*(c':Int)=((info.bytes*c':Nat):Int):=(Int.natCast_mul _ _).symm
    have hq:(info.bytes:Int)*(c':Int)≤281474976710656:=by rw [hm];omega
    have h1:decide ((Int.ofNat c')<0)=false:=decide_eq_false (by show ¬((c':Int)<0);omega)
    have h2:decide ((info.bytes:Int)*(Int.ofNat c') > 2^48)=false:=decide_eq_false (by show ¬((281474976710656:Int)<(info.bytes:Int)*(c':Int));omega)
    have h3:decide ((Int.ofNat l')<0)=false:=decide_eq_false (by show ¬((l':Int)<0);omega)
    have h4:decide ((Int.ofNat l') > (Int.ofNat c'))=false:=decide_eq_false (by show ¬((c':Int)<(l':Int));omega)
    rw [h1,h2,h3,h4];decide
   simp only [Instr.makeSlice,asInt,asIntOf,Sem.run_bind,run_underlying hu,Result.andThen_ok,Sem.run_pure,run_typeInfo hi,hwl,hwc]
   rw [if_neg hnot]
   simp only [Int.ofNat_eq_natCast,Int.toNat_natCast,run_askRoom,Result.andThen_ok,run_sizeOf hs,Sem.run_bind,Sem.run_pure]
   by_cases hk:c'*sz=0
   ·rw [if_pos hk] at hz1 ⊢
    simp only [Sem.run_pure,Result.ok.injEq,and_true] at hz1
    subst hz1
    simp only [Sem.run_bind,Sem.run_pure,Result.andThen_ok,newRow,run_newObj,hcell,hs']
   ·rw [if_neg hk] at hz1 ⊢
    simp only [Sem.run_bind,Zbe hz s,Result.andThen_ok,Sem.run_pure,Result.ok.injEq,and_true] at hz1 ⊢
    subst hz1
    simp only [newRow,Sem.run_bind,run_newObj,Sem.run_pure,Result.andThen_ok,hcell,hs']
  ·simp only [ORel]
 ·rename_i t len parts ho
  rw [ho] at hO
  split at e<;>try cases e
  rename_i elem ps hu hps
  split at e<;>try cases e
  rename_i sz z hs hz
  split at e<;>try cases e
  rename_i q1 q2
  have q1:=Nat.le_of_ble_eq_true q1
  have q2:=Nat.eq_of_beq_eq_true q2
  split at e<;>try cases e
  rename_i r hr
  have hmem:∀x∈parts.toList.map (·.2),x∈(Op.buildSlice t len parts).operands:=by
   intro x hx;simp only [Op.operands,List.mem_toArray];exact hx
  have hconc:=Zrj hps (fun x hx=>hO x (hmem x hx))
  obtain ⟨zero,hz1,hz2⟩:=Zy1 (k:=len*sz) (s:=s) (w:=w) hz
  refine ⟨.cells (concL s r).toArray elem (0,0),?_,?_⟩
  ·rw [ho]
   have hcell:(Array.range (len*sz)).map (zero[· % zero.size]!)=(concL s (rep len (Zb9 z))).toArray:=by
    by_cases hk:len*sz=0
    ·have:rep len (Zb9 z)=[]:=List.eq_nil_of_length_eq_zero (by rw [Zrs,q2];exact hk)
     rw [this,hk];simp [concL]
    ·exact Zwi s _ len _ zero (hz2 hk) (by rw [q2])
   have hp:((parts.map fun x=>(x.1,a.eval x.2)).toList)=ps.map fun x=>(x.1,conc s x.2):=by simpa using hconc
   simp only [Instr.buildSlice,Sem.run_bind,run_underlying hu,Result.andThen_ok,run_sizeOf hs]
   rw [if_neg (by omega)]
   simp only [Sem.run_pure,Result.andThen_ok,Sem.run_bind]
   rw [hp]
   have hf:=Zs0 s _ _ _ _ hr
   by_cases hk:len*sz=0
   ·rw [if_pos hk] at hz1 ⊢
    simp only [Sem.run_pure,Result.ok.injEq,and_true] at hz1
    subst hz1
    simp only [Sem.run_bind,Sem.run_pure,Result.andThen_ok,hcell,hf,newRow,run_newObj,conc,hs']
   ·rw [if_neg hk] at hz1 ⊢
    simp only [Sem.run_bind,Zbe hz s,Result.andThen_ok,Sem.run_pure,Result.ok.injEq,and_true] at hz1 ⊢
    subst hz1
    simp only [hcell,hf,newRow,Sem.run_bind,run_newObj,Sem.run_pure,Result.andThen_ok,conc,hs']
  ·simp only [ORel]
 ·rename_i t r ho
  rw [ho] at hO
  split at e
  ·simp only [Option.some.injEq,Prod.mk.injEq] at e
   obtain ⟨rfl,rfl⟩:=e
   refine ⟨.map #[] 0,?_,by simp [ORel,concE]⟩
   rw [ho]
   simp [Instr.makeMap,conc,hs']
  ·rename_i x
   split at e<;>try cases e
   rename_i k1 k2 k3 k4 hu hx
   have hx':=hO x (by simp [Op.operands]) _ hx
   refine ⟨.map #[] 0,?_,by simp [ORel,concE]⟩
   rw [ho]
   simp [Instr.makeMap,conc,hs',hx',run_underlying hu,asInt,asIntOf]
 ·cases e
theorem evA_ws {P:Program} {T:Tr AV} {n:Nat} {o:Oper} {ob:AObj} {v:AV} (e:evA P T n o.op=some (ob,v)) {m:Nat} (hnm:n<m)
  (hW:∀x∈o.op.operands,∀u,evO T x=some u→ws m u=true):wsO m ob=true∧ws m v=true:=by
 unfold evA at e
 split at e
 ·rename_i elem ho
  split at e<;>try cases e
  rename_i z hz
  exact ⟨Zm6 (Zmm hz m),by simp [ws,hnm]⟩
 ·rename_i elem x ho
  split at e<;>try cases e
  rename_i u hu
  rw [ho] at hW
  exact ⟨Zm6 (hW x (by simp [Op.operands]) u hu),by simp [ws,hnm]⟩
 ·rename_i t l c ho
  split at e<;>try cases e
  split at e<;>try cases e
  rename_i l' c' by_ sz z hwl hwc hb hs hz
  split at e<;>try cases e
  exact ⟨Za2v (Zm6 (Zmm hz m)) c',by simp [ws,hnm]⟩
 ·rename_i t len parts ho
  rw [ho] at hW
  split at e<;>try cases e
  rename_i elem ps hu hps
  split at e<;>try cases e
  rename_i sz z hs hz
  split at e<;>try cases e
  split at e<;>try cases e
  rename_i r hr
  have hmem:∀x∈parts.toList.map (·.2),x∈(Op.buildSlice t len parts).operands:=by
   intro x hx;simp only [Op.operands,List.mem_toArray];exact hx
  exact ⟨Zvn _ _ _ _ hr (Za2v (Zm6 (Zmm hz m)) len) (Zyw hps (fun x hx=>hW x (hmem x hx))),by simp [ws,hnm]⟩
 ·split at e
  ·simp only [Option.some.injEq,Prod.mk.injEq] at e
   obtain ⟨rfl,rfl⟩:=e
   exact ⟨rfl,by simp [ws,hnm]⟩
  ·split at e<;>try cases e
   exact ⟨rfl,by simp [ws,hnm]⟩
 ·cases e
theorem opnd_upd {s:Sg} {T:Tr AV} {a:Act} {o:Op} {n:Nat} {x:Nat×Nat} (hO:Opnd s T a o) (hW:∀y∈o.operands,∀u,evO T y=some u→ws n u=true):Opnd (upd s n x) T a o:=by
 intro y hy u hu
 rw [hO y hy u hu,conc_upd (hW y hy u hu)]
theorem Zx7 {P:Program} {T:Tr AV} {n:Nat} {o:Oper} {ob:AObj} {v:AV} (e:evA P T n o.op=some (ob,v)) {s:Sg} {a:Act} (hO:Opnd s T a o.op)
  (hW:∀x∈o.op.operands,∀u,evO T x=some u→ws n u=true) (w:World) :
  ∃ob',(execOp a.eval o).run P w=.ok (.value (conc (upd s n (w.heap.size,0)) v)) { w with heap:=w.heap.push ob' } ∧
   ORel (upd s n (w.heap.size,0)) n ob (some ob')∧wsO (n+1) ob=true∧ws (n+1) v=true:=by
 obtain ⟨ob',h1,h2⟩:=Za0g e (opnd_upd hO hW) w (Zbb _ _ _)
 have:=evA_ws (m:=n+1) e (by omega) (fun x hx u hu=>Zq3 (by omega) _ (hW x hx u hu))
 exact ⟨ob',h1,h2,this.1,this.2⟩
end Go.Proofs.YtijabkidejolbaaGreat.Ev
end
