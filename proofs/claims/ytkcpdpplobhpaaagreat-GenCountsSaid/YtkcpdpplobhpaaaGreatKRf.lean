import Derived.Test.YtkcpdpplobhpaaaGreatKRd
set_option linter.unusedVariables false
set_option linter.unusedSimpArgs false
set_option linter.unnecessarySimpa false
section
namespace Go.Proofs.YtkcpdpplobhpaaaGreat.V
open Go Go.RowKit
set_option maxRecDepth 1000000
abbrev O2:List Sh:=[(.int .i64),.bool]
abbrev Dx:List Sh:=[(.int .i64)]
abbrev vp:=TL O2->Option (TL Dx)
abbrev qH:=Kd 91 O2 Dx
def ach(a0:Int)(a1:Bool):Option (TL Dx):=
 br a1
 (
  some ((ov .i64 a0 (1:Int)),()))
 (
  some (a0,()))
def aci  :qH:=⟨u2 ach,pD Tryz.func91 9 k0 e0 1 (sS l0) fun d=>by kernel_rfl⟩
def vn:qH:=aci
def qE:vp:=vn.F
abbrev OY:List Sh:=[(.int .i64),.bool]
abbrev Dr:List Sh:=[(.int .i64)]
abbrev jY:=TL OY->Option (TL Dr)
abbrev jo:=Kd 173 OY Dr
def ab1(F0:vp)(a0:Int)(a1:Bool):Option (TL Dr):=
 ai (F0 ((IntKind.wrap .i64 (@HMul.hMul (Int) (Int) (Int) _ a0 (HPow.hPow (2:Int) (Min.min (Int.toNat (1:Int)) 64)))),(a1,()))) fun x0=>
 some (x0.1,())
def ab2(c0:qH) :jo:=⟨u2 (ab1 c0.F),pD Tryz.func173 9 (kD c0 k0) e0 1 (sS l0) fun d=>by kernel_rfl⟩
def jX:jo:=ab2 vn
def qC:jY:=jX.F
abbrev O1:List Sh:=[(.int .i64)]
abbrev Dw:List Sh:=[(.int .i64)]
abbrev qG:=TL O1->Option (TL Dw)
abbrev od:=Kd 103 O1 Dw
def acf(a0:Int):Option (TL Dw):=some ((ov .i64 a0 (1:Int)),())
def acg  :od:=⟨u1 acf,pD Tryz.func103 5 k0 e0 1 (sS l0) fun d=>by kernel_rfl⟩
def qF:od:=acg
def vl:qG:=qF.F
open Go.Proofs.YtkcpdpplobhpaaaGreat.Pl
def nV(val:Int->Bool)(l:Int):Bool:=decide (l % 2=1) != (decide (0<l / 2)&&val (l / 2))
def gl(l:Int):Int:=if l % 2=0 then l+1 else l-1
def bR(v:Nat)(l:Int):Prop:=0<=l/\l / 2<=(v:Int)
def GL(G:Int->Prop)(l:Int):Prop:=l / 2=0\/G (l / 2)
def Sat(val:Int->Bool)(A:List cM):Prop:=∀x∈A,val x.var=(nV val x.a&&nV val x.b)
def Clo(G:Int->Prop)(A:List cM):Prop:=∀x∈A,GL G x.a->GL G x.b->G x.var
theorem mU{v:Nat}{l:Int}(h:bR v l):bR v (gl l)/\gl l / 2=l / 2:=by obtain⟨h1,h2⟩:=h;unfold gl bR;split<;>(refine⟨⟨?_,?_⟩,?_⟩<;>omega)
theorem Qg{l:Int}(h:0<=l)(h2:l<4611686018427387904):ov .i64 l 1=gl l:=by
 obtain⟨n,rfl⟩:∃n:Nat,l=(n:Int):=⟨l.toNat,by omega⟩;have hn:n<4611686018427387904:=by omega
 unfold ov;have e:(BitVec.ofInt (IntKind.bits .i64) (n:Int) ^^^ BitVec.ofInt (IntKind.bits .i64) (1:Int)).toNat=n ^^^ 1:=by
  have e1:(BitVec.ofInt 64 (n:Int)).toNat=n:=by rw[BitVec.toNat_ofInt];omega
  show(BitVec.ofInt 64 (n:Int) ^^^ BitVec.ofInt 64 (1:Int)).toNat=_;rw[BitVec.toNat_xor,e1];rfl
 rw[e];have e2:n ^^^ 1=if n % 2=0 then n+1 else n-1:=by
  by_cases q:n % 2=0
  .rw[if_pos q];obtain⟨k,rfl⟩:∃k,n=2*k:=⟨n / 2,by omega⟩;apply Nat.eq_of_testBit_eq;intro i;rw[Nat.testBit_xor];cases i with|zero=>simp[Nat.testBit_zero]|succ i=>simp[Nat.testBit_succ];congr 1;omega
  .rw[if_neg q];obtain⟨k,rfl⟩:∃k,n=2*k+1:=⟨n / 2,by omega⟩;apply Nat.eq_of_testBit_eq;intro i;rw[Nat.testBit_xor];cases i with|zero=>simp[Nat.testBit_zero]|succ i=>simp[Nat.testBit_succ];congr 1;omega
 rw[e2];unfold gl;by_cases q:n % 2=0
 .rw[if_pos q,if_pos (by omega),bf (by omega)];rfl
 .rw[if_neg q,if_neg (by omega),bf (by omega)];omega
theorem QH{p q:Int}(h:p=q):(some (p,()):Option (TL [.int .i64]))=some (q,()):=by subst h;rfl
theorem qD{v:Nat}{l:Int}(h:bR v l)(hv:v<=1000000):vl (l,())=some (gl l,()):=by have:=Qg h.1 (by have:=h.2;omega);exact QH this
theorem ab3{v:Nat}{l:Int}(h:bR v l)(hv:v<=1000000)(b:Bool):qE (l,(b,()))=some (if b then gl l else l,()):=by
 cases b
 .rfl
 .exact QH (Qg h.1 (by have:=h.2;omega))
theorem OX{v:Int}(h:0<=v)(hv:v<=1000000):qC (v,(false,()))=some (2*v,()):=by
 have e:IntKind.wrap .i64 (v*(HPow.hPow (2:Int) (Min.min (Int.toNat (1:Int)) 64)))=2*v:=by have:(HPow.hPow (2:Int) (Min.min (Int.toNat (1:Int)) 64))=(2:Int):=rfl;rw[this,bf (by omega)];omega
 have e2:qE (IntKind.wrap .i64 (v*(HPow.hPow (2:Int) (Min.min (Int.toNat (1:Int)) 64))),(false,()))=some (2*v,()):=by rw[e];rfl
 exact af e2 rfl
structure Mk where
 v:Nat
 a:List cM
def fr(lo hi:Nat):List Int:=(List.range (hi-lo)).map fun i:Nat=>((lo+1+i:Nat):Int)
theorem afy(lo:Nat):fr lo (lo+1)=[((lo+1:Nat):Int)]:=by unfold fr;rw[show lo+1-lo=1 by omega];rfl
theorem afx{a b c:Nat}(h1:a<=b)(h2:b<=c):fr a b++fr b c=fr a c:=by unfold fr;rw[show c-a=(b-a)+(c-b) by omega,List.range_add,List.map_append,List.map_map];congr 1;apply List.map_congr_left;intro i _;simp only[Function.comp];omega
theorem bR.up{v w:Nat}{l:Int}(h:bR v l)(hw:v<=w):bR w l:=⟨h.1,by have:=h.2;omega⟩
theorem QG{L:List aa.T}{x:aa.T}(h:L.length<=10000000):room 24 (List.length (L++(x::[])))=true:=jj (by omega) (by omega)
theorem Q6{D O:Type}{B:D->Option (D⊕O)}(n:Nat)(I:Nat->D->Prop){Q:O->Prop}(hs:∀i d,i<n->I i d->∃d',B d=some (.inl d')/\I (i+1) d')(he:∀d,I n d->∃o,B d=some (.inr o)/\Q o)
  {d:D}(h0:I 0 d) {N:Nat}(hN:n<N):∃o,aE B N d=some o/\Q o:=by
 have main:∀k i d N,i+k=n->I i d->k<N->∃o,aE B N d=some o/\Q o:=by
  intro k
  induction k with
  |zero=>
   intro i d N e h hN;obtain rfl:i=n:=by omega
   obtain⟨o,h1,h2⟩:=he d h;cases N with|zero=>omega|succ N=>exact⟨o,by simp only[aE,h1],h2⟩
  |succ k ih=>intro i d N e h hN;obtain⟨d',h1,h2⟩:=hs i d (by omega) h;cases N with|zero=>omega|succ N=>obtain⟨o,h3,h4⟩:=ih (i+1) d' N (by omega) h2 (by omega);exact⟨o,by simp only[aE,h1];exact h3,h4⟩
 exact main n 0 d N (by omega) h0 hN
theorem aed{w k:Nat}(hw:w<18446744073709551616)(hk:k<=64):gH .u64 (Int.fdiv (w:Int) (HPow.hPow (2:Int) (Min.min (Int.toNat (k:Int)) 64))) (1:Int)=((w / 2^k % 2:Nat):Int):=by
 have hd:Int.fdiv (w:Int) (HPow.hPow (2:Int) (Min.min (Int.toNat (k:Int)) 64))=((w / 2^k:Nat):Int):=by rw[Int.toNat_natCast,Nat.min_eq_left hk,Int.fdiv_eq_ediv_of_nonneg _ (Int.pow_nonneg (by decide))];simp
 have hlt:w / 2^k<=w:=Nat.div_le_self _ _;rw[hd];generalize w / 2^k=q at hlt;rw[Py (by omega) (by omega)];omega
theorem alF(a:Int):Ek a a=true:=decide_eq_true rfl
theorem alu(a:Bool):Jr a a=true:=decide_eq_true rfl
theorem Wx:∀l:List UInt8,Ev.mJ l l=true
 |[]=>rfl|x::l=>by simp[Ev.mJ,Wx l]
theorem alA(a:ByteArray):Ev.q9 a a=true:=Wx _
mutual
theorem Sh.Zb5s:∀{σ:Sh}(a:σ.T),σ.beq a a=true
 |.int _,a=>alF a|.bool,a=>alu a|.str,a=>alA a|.agg l,a=>W6 (l:=l) a|.sl s,a=>wq (fun x=>Sh.Zb5s x) a
theorem W6:∀{l:List Sh}(a:TL l),o6 l a a=true
 |[],a=>rfl|s::l,a=>by have h1:=Sh.Zb5s (σ:=s) a.1;have h2:=W6 (l:=l) a.2;show(match s.beq a.1 a.1 with|true=>o6 l a.2 a.2|false=>false)=true;rw[h1];exact h2
end
theorem m9{a L:Nat}(ha:a<=100)(h:L<=10000000):room a L=true:=iX (by have:(2*L+192)*a<=(2*10000000+192)*100:=Nat.mul_le_mul (by omega) ha;omega) (by omega)
theorem Jm{σ:Sh}{L:List σ.T}{k:Nat}(h:k<L.length){x:σ.T}(hx:x=gt σ L (k:Int)){z:Int}(hz:z=(k:Int)):List.set L (Int.toNat z) x=L:=by subst hx;subst hz;have:=aS (σ:=σ) (List.getElem?_eq_getElem h);rw[this,Int.toNat_natCast];exact List.set_getElem_self h
end Go.Proofs.YtkcpdpplobhpaaaGreat.V
end
