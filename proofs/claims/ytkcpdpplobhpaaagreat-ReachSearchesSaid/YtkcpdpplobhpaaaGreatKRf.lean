import Derived.Test.YtkcpdpplobhpaaaGreatKRd
set_option linter.unusedVariables false
set_option linter.unusedSimpArgs false
set_option linter.unnecessarySimpa false
section
namespace Go.Proofs.YtkcpdpplobhpaaaGreat.V
open Go Go.RowKit
set_option maxRecDepth 1000000
open Go.Proofs.YtkcpdpplobhpaaaGreat.Pl
def sc(val:Int->Bool)(l:Int):Bool:=decide (l % 2=1) != (decide (0<l / 2)&&val (l / 2))
def sO(v:Nat)(l:Int):Prop:=0<=l/\l / 2<=(v:Int)
def GL(G:Int->Prop)(l:Int):Prop:=l / 2=0\/G (l / 2)
def Sat(val:Int->Bool)(A:List fT):Prop:=∀x∈A,val x.var=(sc val x.a&&sc val x.b)
def Clo(G:Int->Prop)(A:List fT):Prop:=∀x∈A,GL G x.a->GL G x.b->G x.var
structure Mk where
 v:Nat
 a:List fT
def fr(lo hi:Nat):List Int:=(List.range (hi-lo)).map fun i:Nat=>((lo+1+i:Nat):Int)
theorem sO.up{v w:Nat}{l:Int}(h:sO v l)(hw:v<=w):sO w l:=⟨h.1,by have:=h.2;omega⟩
theorem apg(a:Int):Jb a a=true:=bg rfl
theorem ao6(a:Bool):OM a a=true:=bg rfl
theorem ab2:∀l:List UInt8,Ev.qt l l=true
 |[]=>rfl|x::l=>by simp[Ev.qt,ab2 l]
theorem apb(a:ByteArray):Ev.vE a a=true:=ab2 _
mutual
theorem Sh.DE:∀{σ:Sh}(a:σ.T),σ.beq a a=true
 |.int _,a=>apg a|.bool,a=>ao6 a|.str,a=>apb a|.agg l,a=>acx (l:=l) a|.sl s,a=>Ax (fun x=>Sh.DE x) a
theorem acx:∀{l:List Sh}(a:TL l),tH l a a=true
 |[],a=>rfl|s::l,a=>by have h1:=Sh.DE (σ:=s) a.1;have h2:=acx (l:=l) a.2;show(match s.beq a.1 a.1 with|true=>tH l a.2 a.2|false=>false)=true;rw[h1];exact h2
end
theorem qW{a L:Nat}(ha:a<=100)(h:L<=10000000):room a L=true:=ks (by have:(2*L+192)*a<=(2*10000000+192)*100:=Nat.mul_le_mul (by omega) ha;omega) (by omega)
theorem OH{σ:Sh}{L:List σ.T}{k:Nat}(h:k<L.length){x:σ.T}(hx:x=gt σ L (k:Int)){z:Int}(hz:z=(k:Int)):List.set L (Int.toNat z) x=L:=by subst hx;subst hz;have:=aZ (σ:=σ) (aT h);rw[this,Int.toNat_natCast];exact List.set_getElem_self h
