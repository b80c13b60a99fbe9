import Derived.Test.YtkcpdpplobhpaaaGreatJRd
set_option linter.unusedVariables false
set_option linter.unusedSimpArgs false
set_option linter.unnecessarySimpa false
section
namespace Go.Proofs.YtkcpdpplobhpaaaGreat.V
open Go Go.RowKit
set_option maxRecDepth 1000000
open Go.Proofs.YtkcpdpplobhpaaaGreat.Pl
def qV(val:Int->Bool)(l:Int):Bool:=decide (l % 2=1) != (decide (0<l / 2)&&val (l / 2))
def rH(v:Nat)(l:Int):Prop:=0<=l/\l / 2<=(v:Int)
def GL(G:Int->Prop)(l:Int):Prop:=l / 2=0\/G (l / 2)
def Sat(val:Int->Bool)(A:List eK):Prop:=∀x∈A,val x.var=(qV val x.a&&qV val x.b)
def Clo(G:Int->Prop)(A:List eK):Prop:=∀x∈A,GL G x.a->GL G x.b->G x.var
structure Mk where
 v:Nat
 a:List eK
def fr(lo hi:Nat):List Int:=(List.range (hi-lo)).map fun i:Nat=>((lo+1+i:Nat):Int)
theorem rH.up{v w:Nat}{l:Int}(h:rH v l)(hw:v<=w):rH w l:=⟨h.1,by have:=h.2;omega⟩
theorem FO:∀(l:List Bool) (i:Nat),i<l.length->l.getD i false=decide (cp l / 2^i % 2=1)
 |[],i,h=>by simp at h|b::l,i,h=>by
  cases i with
  |zero=>simp only[List.getD_cons_zero,cp,Nat.pow_zero,Nat.div_one];cases b<;>simp<;>omega
  |succ i=>
   have e:cp (b::l) / 2^(i+1) % 2=cp l / 2^i % 2:=by
    show((if b=true then 1 else 0)+2*cp l) / 2^(i+1) % 2=_;rw[Nat.pow_succ,Nat.mul_comm (2^i) 2,<-Nat.div_div_eq_div_mul];have:(((if b=true then 1 else 0)+2*cp l) / 2)=cp l:=by cases b<;>simp<;>omega
    rw[this]
   rw[List.getD_cons_succ];exact(FO l i (by simpa using h)).trans (congrArg (fun n:Nat=>decide (n=1)) e.symm)
theorem adB{l:List Bool}{w:Nat}(hw:w<2^l.length)(h:∀i,i<l.length->l.getD i false=decide (w / 2^i % 2=1)):cp l=w:=by
 apply Nat.eq_of_testBit_eq;intro i;rw[Nat.testBit_eq_decide_div_mod_eq,Nat.testBit_eq_decide_div_mod_eq];by_cases q:i<l.length
 .rw[<-FO l i q,h i q]
 .have h1:=lZ l;have h2:2^l.length<=2^i:=Nat.pow_le_pow_right (by omega) (by omega);rw[Nat.div_eq_of_lt (by omega),Nat.div_eq_of_lt (by omega)]
theorem alf(a:Int):Gl a a=true:=decide_eq_true rfl
theorem ak3(a:Bool):Lh a a=true:=decide_eq_true rfl
theorem Yc:∀l:List UInt8,Ev.py l l=true
 |[]=>rfl|x::l=>by simp[Ev.py,Yc l]
theorem ala(a:ByteArray):Ev.uC a a=true:=Yc _
mutual
theorem Sh.BM:∀{σ:Sh}(a:σ.T),σ.beq a a=true
 |.int _,a=>alf a|.bool,a=>ak3 a|.str,a=>ala a|.agg l,a=>YF (l:=l) a|.sl s,a=>zd (fun x=>Sh.BM x) a
theorem YF:∀{l:List Sh}(a:TL l),sD l a a=true
 |[],a=>rfl|s::l,a=>by have h1:=Sh.BM (σ:=s) a.1;have h2:=YF (l:=l) a.2;show(match s.beq a.1 a.1 with|true=>sD l a.2 a.2|false=>false)=true;rw[h1];exact h2
end
theorem p9{a L:Nat}(ha:a<=100)(h:L<=10000000):room a L=true:=kr (by have:(2*L+192)*a<=(2*10000000+192)*100:=Nat.mul_le_mul (by omega) ha;omega) (by omega)
theorem La{σ:Sh}{L:List σ.T}{k:Nat}(h:k<L.length){x:σ.T}(hx:x=gt σ L (k:Int)){z:Int}(hz:z=(k:Int)):List.set L (Int.toNat z) x=L:=by subst hx;subst hz;have:=bn (σ:=σ) (List.getElem?_eq_getElem h);rw[this,Int.toNat_natCast];exact List.set_getElem_self h
