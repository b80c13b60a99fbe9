import Derived.Test.YtmkbdfidnfmgmaaGreatKTa
import Derived.Test.YtmkbdfidnfmgmaaGreatKSb
set_option linter.all false
section
namespace Go.Proofs.YtmkbdfidnfmgmaaGreat.V
open Go Go.RowKit
set_option maxRecDepth 1000000
abbrev afg:List Sh:=[.I]
abbrev Ra:List Sh:=[.bool]
abbrev Rp:=TL afg->Option (TL Ra)
abbrev G1:=Kd 86 afg Ra
def Rc(a0:Int):Option (TL Ra):=some ((iQ (Int.tmod a0 (2:Int)) (1:Int)),())
def art  :G1:=⟨u1 Rc,pD Tryz.func86 6 k0 e0 1 (sS l0) fun d=>aud⟩
def Rq:G1:=art
def Rj:Rp:=Rq.F
def JQ(l:Int)(v:kw):Bool:=if l<0 then false else(decide (l % 2=1)) != (decide (0<l / 2)&&(v.getD (l / 2).toNat false))
theorem aa2{l:Int}(h:0<=l):Rj (l,())=some (decide (l % 2=1),()):=by show Rc l=_;unfold Rc;rw[Int.tmod_eq_emod_of_nonneg h];rfl
theorem abj{l:Int}(h:0<=l)(h2:l<9223372036854775808):qj (l,())=some (l / 2,()):=by show yO l=_;unfold yO;rw[Int.tdiv_eq_ediv_of_nonneg h,auk];rfl
theorem ar6{v:kw}{i:Int}(h:0<=i):gt .bool v i=v.getD i.toNat false:=by unfold gt;rfl
def acf:kw->Nat
 |[]=>0|b::l=>(if b then 1 else 0)+2*acf l
def aqs(w n:Nat):kw:=(List.range n).map fun i=>decide (w / 2^i % 2=1)
abbrev sP:=Int×Int×Unit
def rd(M:List sP)(k:Int):Int:=match M with|[]=>0|p::M=>match decide (p.1=k)with|true=>p.2.1|false=>rd M k
