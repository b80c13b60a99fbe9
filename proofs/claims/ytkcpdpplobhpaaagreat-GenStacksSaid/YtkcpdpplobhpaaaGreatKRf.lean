import Derived.Test.YtkcpdpplobhpaaaGreatKRd
set_option linter.unusedVariables false
set_option linter.unusedSimpArgs false
set_option linter.unnecessarySimpa false
section
namespace Go.Proofs.YtkcpdpplobhpaaaGreat.V
open Go Go.RowKit
set_option maxRecDepth 1000000
abbrev lits_Xor_σs:List Sh:=[(.int .i64),.bool]
abbrev lits_Xor_τs:List Sh:=[(.int .i64)]
abbrev lits_Xor_T:=TL lits_Xor_σs→Option (TL lits_Xor_τs)
abbrev lits_Xor_D:=Kd 91 lits_Xor_σs lits_Xor_τs
def lits_Xor_F (a0:Int) (a1:Bool):Option (TL lits_Xor_τs):=
 br a1
 (
  some ((bxorI .i64 a0 (1:Int)),()))
 (
  some (a0,()))
def lits_Xor_G  :lits_Xor_D:=⟨u2 lits_Xor_F,pD Tryz.func91 9 k0 e0 1 (sS l0) fun d=>by kernel_rfl⟩
def lits_Xor_K:lits_Xor_D:=lits_Xor_G  
abbrev lits_Make_σs:List Sh:=[(.int .i64),.bool]
abbrev lits_Make_τs:List Sh:=[(.int .i64)]
abbrev lits_Make_T:=TL lits_Make_σs→Option (TL lits_Make_τs)
abbrev lits_Make_D:=Kd 173 lits_Make_σs lits_Make_τs
def lits_Make_F (F0:lits_Xor_T) (a0:Int) (a1:Bool):Option (TL lits_Make_τs):=
 bnd (F0 ((IntKind.wrap .i64 (@HMul.hMul (Int) (Int) (Int) _ a0 (HPow.hPow (2:Int) (Min.min (Int.toNat (1:Int)) 64)))),(a1,()))) fun x0=>
 some (x0.1,())
def lits_Make_G (c0:lits_Xor_D) :lits_Make_D:=⟨u2 (lits_Make_F c0.F),pD Tryz.func173 9 (kD c0 k0) e0 1 (sS l0) fun d=>by kernel_rfl⟩
def lits_Make_K:lits_Make_D:=lits_Make_G lits_Xor_K 
abbrev lits_Not_σs:List Sh:=[(.int .i64)]
abbrev lits_Not_τs:List Sh:=[(.int .i64)]
abbrev lits_Not_T:=TL lits_Not_σs→Option (TL lits_Not_τs)
abbrev lits_Not_D:=Kd 103 lits_Not_σs lits_Not_τs
def lits_Not_F (a0:Int):Option (TL lits_Not_τs):=
 some ((bxorI .i64 a0 (1:Int)),())
def lits_Not_G  :lits_Not_D:=⟨u1 lits_Not_F,pD Tryz.func103 5 k0 e0 1 (sS l0) fun d=>by kernel_rfl⟩
def lits_Not_K:lits_Not_D:=lits_Not_G  
end Go.Proofs.YtkcpdpplobhpaaaGreat.V
end
section
namespace Go.Proofs.YtkcpdpplobhpaaaGreat.V
open Go Go.RowKit
open Go.Proofs.YtkcpdpplobhpaaaGreat.Pl
structure Mk where
 v:Nat
 a:List AndD
def fr (lo hi:Nat):List Int:=(List.range (hi - lo)).map fun i:Nat=>((lo+1+i:Nat):Int)
section
variable (i:List Int) (l:List Za0.T) (o b c:List Int) (m:List Za1.T) {s:Mk}
end
section
variable (i:List Int) (l:List Za0.T) (o b c:List Int) (m:List Za1.T) {s:Mk}
end
end Go.Proofs.YtkcpdpplobhpaaaGreat.V
end
section
namespace Go.Proofs.YtkcpdpplobhpaaaGreat.V
open Go Go.RowKit
open Go.Proofs.YtkcpdpplobhpaaaGreat.Pl
theorem Zb9v (a:Int):intEq a a=true:=decide_eq_true rfl
theorem Zb8y (a:Bool):Zbb3 a a=true:=decide_eq_true rfl
theorem Zb5i:∀l:List UInt8,Ev.Zuf l l=true
 | []=>rfl
 | x :: l=>by simp [Ev.Zuf,Zb5i l]
theorem Zb9o (a:ByteArray):Ev.strEq a a=true:=Zb5i _
mutual
theorem Sh.Zb5s:∀{σ:Sh} (a:σ.T),σ.beq a a=true
 | .int _,a=>Zb9v a
 | .bool,a=>Zb8y a
 | .str,a=>Zb9o a
 | .agg l,a=>Zb8g (l:=l) a
 | .sl s,a=>Za1l (fun x=>Sh.Zb5s x) a
theorem Zb8g:∀{l:List Sh} (a:TL l),beqL l a a=true
 | [],a=>rfl
 | s :: l,a=>by
  have h1:=Sh.Zb5s (σ:=s) a.1
  have h2:=Zb8g (l:=l) a.2
  show (match s.beq a.1 a.1 with | true=>beqL l a.2 a.2 | false=>false)=true
  rw [h1];exact h2
end
section
variable (i:Nat) (t41 t42 b00:Int) (b01:List Int) (b02:List Za0.T) (b03 b04 b05:List Int) (b07:List Za0.T) (b1:List Za1.T) (m0 m1:Int) (m2:Bool) (rs:List Zb3.T) (ws:List Zb8.T) (z:Int)
end
end Go.Proofs.YtkcpdpplobhpaaaGreat.V
end
