import Derived.Test.YtkcpdpplobhpaaaGreatKRd
set_option linter.unusedVariables false
set_option linter.unusedSimpArgs false
set_option linter.unnecessarySimpa false
section
namespace Go.Proofs.YtkcpdpplobhpaaaGreat.V
open Go Go.RowKit
set_option maxRecDepth 1000000
abbrev lits_Xor_σs:List Sh:=[(.int .i64),.bool]
abbrev lits_Xor_τs:List Sh:=[(.int .i64)]
abbrev lits_Xor_T:=TL lits_Xor_σs→Option (TL lits_Xor_τs)
abbrev lits_Xor_D:=Kd 91 lits_Xor_σs lits_Xor_τs
def lits_Xor_F (a0:Int) (a1:Bool):Option (TL lits_Xor_τs):=
 br a1
 (
  some ((bxorI .i64 a0 (1:Int)),()))
 (
  some (a0,()))
def lits_Xor_G  :lits_Xor_D:=⟨u2 lits_Xor_F,pD Tryz.func91 9 k0 e0 1 (sS l0) fun d=>by kernel_rfl⟩
def lits_Xor_K:lits_Xor_D:=lits_Xor_G  
def lits_Xor_FF:lits_Xor_T:=lits_Xor_K.F
abbrev lits_Make_σs:List Sh:=[(.int .i64),.bool]
abbrev lits_Make_τs:List Sh:=[(.int .i64)]
abbrev lits_Make_T:=TL lits_Make_σs→Option (TL lits_Make_τs)
abbrev lits_Make_D:=Kd 173 lits_Make_σs lits_Make_τs
def lits_Make_F (F0:lits_Xor_T) (a0:Int) (a1:Bool):Option (TL lits_Make_τs):=
 bnd (F0 ((IntKind.wrap .i64 (@HMul.hMul (Int) (Int) (Int) _ a0 (HPow.hPow (2:Int) (Min.min (Int.toNat (1:Int)) 64)))),(a1,()))) fun x0=>
 some (x0.1,())
def lits_Make_G (c0:lits_Xor_D) :lits_Make_D:=⟨u2 (lits_Make_F c0.F),pD Tryz.func173 9 (kD c0 k0) e0 1 (sS l0) fun d=>by kernel_rfl⟩
def lits_Make_K:lits_Make_D:=lits_Make_G lits_Xor_K 
def lits_Make_FF:lits_Make_T:=lits_Make_K.F
abbrev lits_Not_σs:List Sh:=[(.int .i64)]
abbrev lits_Not_τs:List Sh:=[(.int .i64)]
abbrev lits_Not_T:=TL lits_Not_σs→Option (TL lits_Not_τs)
abbrev lits_Not_D:=Kd 103 lits_Not_σs lits_Not_τs
def lits_Not_F (a0:Int):Option (TL lits_Not_τs):=
 some ((bxorI .i64 a0 (1:Int)),())
def lits_Not_G  :lits_Not_D:=⟨u1 lits_Not_F,pD Tryz.func103 5 k0 e0 1 (sS l0) fun d=>by kernel_rfl⟩
def lits_Not_K:lits_Not_D:=lits_Not_G  
def lits_Not_FF:lits_Not_T:=lits_Not_K.F
end Go.Proofs.YtkcpdpplobhpaaaGreat.V
end
section
namespace Go.Proofs.YtkcpdpplobhpaaaGreat.V
open Go Go.RowKit
open Go.Proofs.YtkcpdpplobhpaaaGreat.Pl
def ntl (l:Int):Int:=if l % 2=0 then l+1 else l - 1
def LitOk (v:Nat) (l:Int):Prop:=0≤l∧l / 2≤(v:Int)
theorem ntl_rng {v:Nat} {l:Int} (h:LitOk v l):LitOk v (ntl l)∧ntl l / 2=l / 2:=by
 obtain ⟨h1,h2⟩:=h
 unfold ntl LitOk
 split<;>(refine ⟨⟨?_,?_⟩,?_⟩<;>omega)
theorem xor_one {l:Int} (h:0≤l) (h2:l<4611686018427387904):bxorI .i64 l 1=ntl l:=by
 obtain ⟨n,rfl⟩:∃n:Nat,l=(n:Int):=⟨l.toNat,by omega⟩
 have hn:n<4611686018427387904:=by omega
 unfold bxorI
 have e:(BitVec.ofInt (IntKind.bits .i64) (n:Int) ^^^ BitVec.ofInt (IntKind.bits .i64) (1:Int)).toNat=n ^^^ 1:=by
  have e1:(BitVec.ofInt 64 (n:Int)).toNat=n:=by rw [BitVec.toNat_ofInt];omega
  show (BitVec.ofInt 64 (n:Int) ^^^ BitVec.ofInt 64 (1:Int)).toNat=_
  rw [BitVec.toNat_xor,e1];rfl
 rw [e]
 have e2:n ^^^ 1=if n % 2=0 then n+1 else n - 1:=by
  by_cases q:n % 2=0
  ·rw [if_pos q]
   obtain ⟨k,rfl⟩:∃k,n=2*k:=⟨n / 2,by omega⟩
   apply Nat.eq_of_testBit_eq
   intro i
   rw [Nat.testBit_xor]
   cases i with
   | zero=>simp [Nat.testBit_zero]
   | succ i=>simp [Nat.testBit_succ];congr 1;omega
  ·rw [if_neg q]
   obtain ⟨k,rfl⟩:∃k,n=2*k+1:=⟨n / 2,by omega⟩
   apply Nat.eq_of_testBit_eq
   intro i
   rw [Nat.testBit_xor]
   cases i with
   | zero=>simp [Nat.testBit_zero]
   | succ i=>simp [Nat.testBit_succ];congr 1;omega
 rw [e2]
 unfold ntl
 by_cases q:n % 2=0
 ·rw [if_pos q,if_pos (by omega),i64w (by omega)];rfl
 ·rw [if_neg q,if_neg (by omega),i64w (by omega)];omega
theorem some_i {p q:Int} (h:p=q):(some (p,()):Option (TL [.int .i64]))=some (q,()):=by subst h;rfl
theorem lits_Not_is {v:Nat} {l:Int} (h:LitOk v l) (hv:v≤1000000):lits_Not_FF (l,())=some (ntl l,()):=by
 have:=xor_one h.1 (by have:=h.2;omega)
 exact some_i this
theorem lits_Xor_is {v:Nat} {l:Int} (h:LitOk v l) (hv:v≤1000000) (b:Bool):lits_Xor_FF (l,(b,()))=some (if b then ntl l else l,()):=by
 cases b
 ·rfl
 ·exact some_i (xor_one h.1 (by have:=h.2;omega))
theorem lits_Make_is {v:Int} (h:0≤v) (hv:v≤1000000):lits_Make_FF (v,(false,()))=some (2*v,()):=by
 have e:IntKind.wrap .i64 (v*(HPow.hPow (2:Int) (Min.min (Int.toNat (1:Int)) 64)))=2*v:=by
  have:(HPow.hPow (2:Int) (Min.min (Int.toNat (1:Int)) 64))=(2:Int):=rfl
  rw [this,i64w (by omega)];omega
 have e2:lits_Xor_FF (IntKind.wrap .i64 (v*(HPow.hPow (2:Int) (Min.min (Int.toNat (1:Int)) 64))),(false,()))=some (2*v,()):=by
  rw [e];rfl
 exact Zba e2 rfl
structure Mk where
 v:Nat
 a:List AndD
def fr (lo hi:Nat):List Int:=(List.range (hi - lo)).map fun i:Nat=>((lo+1+i:Nat):Int)
theorem fr_same (lo:Nat):fr lo lo=[]:=by unfold fr;rw [Nat.sub_self];rfl
theorem fr_one (lo:Nat):fr lo (lo+1)=[((lo+1:Nat):Int)]:=by unfold fr;rw [show lo+1 - lo=1 by omega];rfl
theorem fr_add {a b c:Nat} (h1:a≤b) (h2:b≤c):fr a b++fr b c=fr a c:=by
 unfold fr
 rw [show c - a=(b - a)+(c - b) by omega,List.range_add,List.map_append,List.map_map]
 congr 1
 apply List.map_congr_left
 intro i _
 simp only [Function.comp]
 omega
theorem LitOk.up {v w:Nat} {l:Int} (h:LitOk v l) (hw:v≤w):LitOk w l:=⟨h.1,by have:=h.2;omega⟩
theorem room24 {L:List Za0.T} {x:Za0.T} (h:L.length≤10000000):room 24 (List.length (L++(x :: [])))=true:=Zsm (by omega) (by omega)
section
variable (i:List Int) (l:List Za0.T) (o b c:List Int) (m:List Za1.T) {s:Mk}
end
theorem band_sh {w k:Nat} (hw:w<18446744073709551616) (hk:k≤64):bandI .u64 (Int.fdiv (w:Int) (HPow.hPow (2:Int) (Min.min (Int.toNat (k:Int)) 64))) (1:Int)=((w / 2^k % 2:Nat):Int):=by
 have hd:Int.fdiv (w:Int) (HPow.hPow (2:Int) (Min.min (Int.toNat (k:Int)) 64))=((w / 2^k:Nat):Int):=by
  rw [Int.toNat_natCast,Nat.min_eq_left hk,Int.fdiv_eq_ediv_of_nonneg _ (Int.pow_nonneg (by decide))]
  simp
 have hlt:w / 2^k≤w:=Nat.div_le_self _ _
 rw [hd]
 generalize w / 2^k=q at hlt
 rw [band_bit (by omega) (by omega)]
 omega
section
variable (i:List Int) (l:List Za0.T) (o b c:List Int) (m:List Za1.T) {s:Mk}
end
end Go.Proofs.YtkcpdpplobhpaaaGreat.V
end
section
namespace Go.Proofs.YtkcpdpplobhpaaaGreat.V
open Go Go.RowKit
open Go.Proofs.YtkcpdpplobhpaaaGreat.Pl
theorem Zb9v (a:Int):intEq a a=true:=decide_eq_true rfl
theorem Zb8y (a:Bool):Zbb3 a a=true:=decide_eq_true rfl
theorem Zb5i:∀l:List UInt8,Ev.Zuf l l=true
 | []=>rfl
 | x :: l=>by simp [Ev.Zuf,Zb5i l]
theorem Zb9o (a:ByteArray):Ev.strEq a a=true:=Zb5i _
mutual
theorem Sh.Zb5s:∀{σ:Sh} (a:σ.T),σ.beq a a=true
 | .int _,a=>Zb9v a
 | .bool,a=>Zb8y a
 | .str,a=>Zb9o a
 | .agg l,a=>Zb8g (l:=l) a
 | .sl s,a=>Za1l (fun x=>Sh.Zb5s x) a
theorem Zb8g:∀{l:List Sh} (a:TL l),beqL l a a=true
 | [],a=>rfl
 | s :: l,a=>by
  have h1:=Sh.Zb5s (σ:=s) a.1
  have h2:=Zb8g (l:=l) a.2
  show (match s.beq a.1 a.1 with | true=>beqL l a.2 a.2 | false=>false)=true
  rw [h1];exact h2
end
section
variable (i:Nat) (t41 t42 b00:Int) (b01:List Int) (b02:List Za0.T) (b03 b04 b05:List Int) (b07:List Za0.T) (b1:List Za1.T) (m0 m1:Int) (m2:Bool) (rs:List Zb3.T) (ws:List Zb8.T) (z:Int)
end
end Go.Proofs.YtkcpdpplobhpaaaGreat.V
end
