import Derived.Test.YtkcpdpplobhpaaaGreatYRd
set_option linter.unusedVariables false
set_option linter.unusedSimpArgs false
set_option linter.unnecessarySimpa false
section
namespace Go.Proofs.YtkcpdpplobhpaaaGreat.V
open Go Go.RowKit
set_option maxRecDepth 1000000
open Go.Proofs.YtkcpdpplobhpaaaGreat.Pl
def qS(val:Int->Bool)(l:Int):Bool:=decide (l % 2=1) != (decide (0<l / 2)&&val (l / 2))
def rA(v:Nat)(l:Int):Prop:=0<=l/\l / 2<=(v:Int)
def GL(G:Int->Prop)(l:Int):Prop:=l / 2=0\/G (l / 2)
def Sat(val:Int->Bool)(A:List eH):Prop:=∀x∈A,val x.var=(qS val x.a&&qS val x.b)
def Clo(G:Int->Prop)(A:List eH):Prop:=∀x∈A,GL G x.a->GL G x.b->G x.var
structure Mk where
 v:Nat
 a:List eH
def fr(lo hi:Nat):List Int:=(List.range (hi-lo)).map fun i:Nat=>((lo+1+i:Nat):Int)
theorem rA.up{v w:Nat}{l:Int}(h:rA v l)(hw:v<=w):rA w l:=⟨h.1,by have:=h.2;omega⟩
theorem FC:∀(l:List Bool) (i:Nat),i<l.length->l.getD i false=decide (bG l / 2^i % 2=1)
 |[],i,h=>by simp at h|b::l,i,h=>by
  cases i with
  |zero=>simp only[List.getD_cons_zero,bG,Nat.pow_zero,Nat.div_one];cases b<;>simp<;>omega
  |succ i=>
   have e:bG (b::l) / 2^(i+1) % 2=bG l / 2^i % 2:=by
    show((if b=true then 1 else 0)+2*bG l) / 2^(i+1) % 2=_;rw[Nat.pow_succ,Nat.mul_comm (2^i) 2,<-Nat.div_div_eq_div_mul];have:(((if b=true then 1 else 0)+2*bG l) / 2)=bG l:=by cases b<;>simp<;>omega
    rw[this]
   rw[List.getD_cons_succ];exact(FC l i (by simpa using h)).trans (congrArg (fun n:Nat=>decide (n=1)) e.symm)
theorem adq{l:List Bool}{w:Nat}(hw:w<2^l.length)(h:∀i,i<l.length->l.getD i false=decide (w / 2^i % 2=1)):bG l=w:=by
 apply Nat.eq_of_testBit_eq;intro i;rw[Nat.testBit_eq_decide_div_mod_eq,Nat.testBit_eq_decide_div_mod_eq];by_cases q:i<l.length
 .rw[<-FC l i q,h i q]
 .have h1:=kZ l;have h2:2^l.length<=2^i:=Nat.pow_le_pow_right (by omega) (by omega);rw[Nat.div_eq_of_lt (by omega),Nat.div_eq_of_lt (by omega)]
theorem alc(a:Int):F8 a a=true:=decide_eq_true rfl
theorem ak0(a:Bool):K6 a a=true:=decide_eq_true rfl
theorem X6:∀l:List UInt8,Ev.po l l=true
 |[]=>rfl|x::l=>by simp[Ev.po,X6 l]
theorem ak7(a:ByteArray):Ev.ur a a=true:=X6 _
mutual
theorem Sh.Bw:∀{σ:Sh}(a:σ.T),σ.beq a a=true
 |.int _,a=>alc a|.bool,a=>ak0 a|.str,a=>ak7 a|.agg l,a=>Yz (l:=l) a|.sl s,a=>yY (fun x=>Sh.Bw x) a
theorem Yz:∀{l:List Sh}(a:TL l),sk l a a=true
 |[],a=>rfl|s::l,a=>by have h1:=Sh.Bw (σ:=s) a.1;have h2:=Yz (l:=l) a.2;show(match s.beq a.1 a.1 with|true=>sk l a.2 a.2|false=>false)=true;rw[h1];exact h2
end
theorem pV{a L:Nat}(ha:a<=100)(h:L<=10000000):room a L=true:=kh (by have:(2*L+192)*a<=(2*10000000+192)*100:=Nat.mul_le_mul (by omega) ha;omega) (by omega)
theorem KW{σ:Sh}{L:List σ.T}{k:Nat}(h:k<L.length){x:σ.T}(hx:x=gt σ L (k:Int)){z:Int}(hz:z=(k:Int)):List.set L (Int.toNat z) x=L:=by subst hx;subst hz;have:=bn (σ:=σ) (List.getElem?_eq_getElem h);rw[this,Int.toNat_natCast];exact List.set_getElem_self h
