import Derived.Test.YtmkbdfidnfmgmaaGreatKMf
import Derived.Test.YtmkbdfidnfmgmaaGreatKNa
set_option linter.all false
section
namespace Go.Proofs.YtmkbdfidnfmgmaaGreat.V
open Go Go.RowKit Go.Proofs.YtmkbdfidnfmgmaaGreat.Pl
def mV(x:ae.T):dI:=⟨x.1,x.2.1,x.2.2.1⟩
def oF(x:ae.T):dM:=⟨x.1,x.2.1,x.2.2.1⟩
def ta(x:bO.T):fh:=⟨x.1,x.2.1⟩
def tU(x:bu.T):n5:=⟨x.1,x.2.1,x.2.2.1⟩
def oI(x:ai.T):cC:=⟨x.1,x.2.1,x.2.2.1,x.2.2.2.1.map ta,x.2.2.2.2.1.map tU⟩
def eH(x:cJ.T):aB:=⟨x.1,x.2.1,x.2.2.1.map mV,x.2.2.2.1,x.2.2.2.2.1,x.2.2.2.2.2.1,x.2.2.2.2.2.2.1.map oI,x.2.2.2.2.2.2.2.1.map oF⟩
def aX(x:dI):ae.T:=(x.var,x.next,x.init,())
def aL(x:dM):ae.T:=(x.var,x.a,x.b,())
def bS(x:fh):bO.T:=(x.var,x.addr,())
def bX(x:n5):bu.T:=(x.on,x.addr,x.data,())
def aM(x:cC):ai.T:=(x.addr,x.word,x.any,x.reads.map bS,x.writes.map bX,())
def dn(x:aB):cJ.T:=(x.vars,x.ax,x.ah.map aX,x.bk,x.aU,x.constraints,x.af.map aM,x.ag.map aL,())
theorem map_id'{α β:Type}{f:α->β}{g:β->α}(h:∀x,g (f x)=x):∀L:List α,(L.map f).map g=L
 |[]=>rfl|x::L=>by simp only[UV,h,map_id' h L]
theorem amf(a b:Int)(c:Bool)(d:List bO.T)(e:List bu.T):((a,b,c,(d.map ta).map bS,(e.map tU).map bX,()):Int×Int×Bool×List bO.T×List bu.T×Unit)=(a,b,c,d,e,()):=by rw[map_id' (f:=ta) (g:=bS) (fun x=>rfl),map_id' (f:=tU) (g:=bX) (fun x=>rfl)]
theorem apR(x:ai.T):aM (oI x)=x:=amf x.1 x.2.1 x.2.2.1 x.2.2.2.1 x.2.2.2.2.1
theorem amk(a:Int)(b:jp)(c:List ae.T)(d e f:jp)(g:List ai.T)(h:List ae.T) :
  ((a,b,(c.map mV).map aX,d,e,f,(g.map oI).map aM,(h.map oF).map aL,()):Int×jp×List ae.T×jp×jp×jp×List ai.T×List ae.T×Unit)=(a,b,c,d,e,f,g,h,()):=by
 rw[map_id' (f:=mV) (g:=aX) (fun x=>rfl),map_id' (f:=oF) (g:=aL) (fun x=>rfl),map_id' (f:=oI) (g:=aM) apR]
theorem Zri(x:cJ.T):dn (eH x)=x:=amk x.1 x.2.1 x.2.2.1 x.2.2.2.1 x.2.2.2.2.1 x.2.2.2.2.2.1 x.2.2.2.2.2.2.1 x.2.2.2.2.2.2.2.1
theorem apS(x:cC):oI (aM x)=x:=by obtain⟨a,b,c,d,e⟩:=x;show(⟨a,b,c,(d.map bS).map ta,(e.map bX).map tU⟩:cC)=_;rw[map_id' (f:=bS) (g:=ta) (fun x=>rfl),map_id' (f:=bX) (g:=tU) (fun x=>rfl)]
theorem o6(x:aB):eH (dn x)=x:=by obtain⟨a,b,c,d,e,f,g,h⟩:=x;show(⟨a,b,(c.map aX).map mV,d,e,f,(g.map aM).map oI,(h.map aL).map oF⟩:aB)=_;rw[map_id' (f:=aX) (g:=mV) (fun x=>rfl),map_id' (f:=aL) (g:=oF) (fun x=>rfl),map_id' (f:=aM) (g:=oI) apS]
variable{s:Sh}{L:List s.T}{A:Nat->Prop}{w:World}{V:Value}
theorem xE(h:Cs w A (.sl s) L [V]) :
  ∃a cap X,V=.slice a L.length cap/\cF (Cs w A s) L X/\Sl w w.heap.size s.size a L.length cap X:=by
 obtain⟨a,len,cap,e1,rfl,e3,e4⟩:=h;simp only[atv,atF]at e1;subst e1;by_cases hL:L=[]
 .subst hL;exact⟨a,cap,[],rfl,rfl,⟨aue,fun h=>absurd h aue⟩,e3,Do _⟩
 .obtain⟨b,o,X,rfl,q2,q3,c,ty,fr,q4,q5⟩:=e4 hL;refine⟨_,cap,X,rfl,q3,⟨cF.length (fun x c=>Cs.length) q3,fun _=>⟨_,rfl,kr q4,fun j u hj=>?_⟩⟩,e3,Do _⟩;have:=q5 j u hj;rw[show(⟨b,o,none⟩:Addr).add j=⟨b,o+j,none⟩from by simp[Ev.iZ]];simp only[World.cell?,q4,Option.isSome_none,asL,aua];exact this
theorem Pe{α:Type}{R:α->mt->Prop}{g:α->mt}(h:∀x c,R x c->c=g x):∀{L:List α}{X:mt},cF R L X->X=L.flatMap g
 |[],X,q=>q|x::L,X,⟨c,r,e,q,t⟩=>by rw[e,h x c q,Pe h t];rfl
variable{cs:mt}
theorem zm{d:TL []}(h:iO w A [] d cs):cs=[]:=h
theorem jr{l:List Sh}{d:TL (s::l)}(h:iO w A (s::l) d cs):∃c r,cs=c++r/\Cs w A s d.1 c/\iO w A l d.2 r:=h
variable{c:mt}
theorem xw(h:Cs w A (.sl s) L c):∃V,c=[V]/\Cs w A (.sl s) L [V]:=by obtain⟨a,len,cap,e1,q⟩:=h;exact⟨_,e1,a,len,cap,rfl,q⟩
theorem Pv{α β γ:Type}{f:α->γ}{g:β->γ}{L:List α}{M:List β}(h:L.map f=M.map g):M.length=L.length:=by have:=OF List.length h;rw[aG,aG]at this;exact this.symm
theorem adP:∀L:jp,L.flatMap (fun n=>[Value.int .i64 n])=ints L
 |[]=>rfl|x::L=>by have:=adP L;unfold ints at this |-;rw[ww,this];rfl
theorem rX{L:jp}(h:Cs w A (.sl .I) L c):∃a cap,c=[.slice a L.length cap]/\Sl w w.heap.size 1 a L.length cap (ints L):=by
 obtain⟨V,rfl,h⟩:=xw h;obtain⟨a,cap,X,rfl,h1,h2⟩:=xE h;have:X=ints L:=by have:=Pe (g:=fun n=>[Value.int .i64 n]) (fun x c q=>q) h1;rw[this];exact adP L
 subst this;exact⟨a,cap,rfl,h2⟩
theorem ann{x:ae.T}(h:Cs w A ae x c):c=(mV x).cells:=by obtain⟨c1,r1,rfl,h1,q1⟩:=jr h;obtain⟨c2,r2,rfl,h2,q2⟩:=jr q1;obtain⟨c3,r3,rfl,h3,q3⟩:=jr q2;rw[zm q3,show c1=_ from h1,show c2=_ from h2,show c3=_ from h3];rfl
theorem adV{L:List ae.T}(h:Cs w A (.sl ae) L c):∃a cap,c=[.slice a (L.map mV).length cap]/\Sl w w.heap.size 3 a (L.map mV).length cap ((L.map mV).flatMap dI.cells):=by obtain⟨V,rfl,h⟩:=xw h;obtain⟨a,cap,X,rfl,h1,h2⟩:=xE h;have:=Pe (g:=fun x=>(mV x).cells) (fun x c q=>ann q) h1;refine⟨a,cap,aue,?_⟩;rw[aG,asK,<-this];exact h2
theorem alQ{L:List ae.T}(h:Cs w A (.sl ae) L c):∃a cap,c=[.slice a (L.map oF).length cap]/\Sl w w.heap.size 3 a (L.map oF).length cap ((L.map oF).flatMap dM.cells):=by obtain⟨a,cap,e,h⟩:=adV h;rw[aG]at e h |-;exact⟨a,cap,e,by rw[asK]at h |-;exact h⟩
theorem adg{w:World}{A:Nat->Prop}:∀{L:List bO.T}{X:mt},cF (Cs w A bO) L X->∃Rs:List bZ,Rs.map bZ.d=L.map ta/\X=Rs.flatMap bZ.cells/\∀r∈Rs,r.dk w w.heap.size
 |[],X,h=>⟨[],rfl,h,fun r hr=>by cases hr⟩
 |x::L,X,⟨c,r,e,q,t⟩=>by
  obtain⟨Rs,k1,k2,k3⟩:=adg t;obtain⟨c1,r1,rfl,h1,q1⟩:=jr q;obtain⟨c2,r2,rfl,h2,q2⟩:=jr q1;obtain⟨a,cap,rfl,hs⟩:=rX h2;refine⟨⟨x.1,a,cap,x.2.1⟩::Rs,by simp only[UV,k1];rfl,?_,?_⟩
  .rw[e,zm q2,show c1=_ from h1,k2];rfl
  .intro r hr;rcases Fn.1 hr with rfl|hr
   .exact hs
   .exact k3 r hr
theorem acE{w:World}{A:Nat->Prop}:∀{L:List bu.T}{X:mt},cF (Cs w A bu) L X->∃Rs:List cj,Rs.map cj.d=L.map tU/\X=Rs.flatMap cj.cells/\∀r∈Rs,r.dk w w.heap.size
 |[],X,h=>⟨[],rfl,h,fun r hr=>by cases hr⟩
 |x::L,X,⟨c,r,e,q,t⟩=>by
  obtain⟨Rs,k1,k2,k3⟩:=acE t;obtain⟨c1,r1,rfl,h1,q1⟩:=jr q;obtain⟨c2,r2,rfl,h2,q2⟩:=jr q1;obtain⟨c3,r3,rfl,h3,q3⟩:=jr q2;obtain⟨a,cap,rfl,hs⟩:=rX h2;obtain⟨a',cap',rfl,hs'⟩:=rX h3;refine⟨⟨x.1,a,cap,x.2.1,a',cap',x.2.2.1⟩::Rs,by simp only[UV,k1];rfl,?_,?_⟩
  .rw[e,zm q3,show c1=_ from h1,k2];rfl
  .intro r hr;rcases Fn.1 hr with rfl|hr
   .exact⟨hs,hs'⟩
   .exact k3 r hr
theorem adR{w:World}{A:Nat->Prop}:∀{L:List ai.T}{X:mt},cF (Cs w A ai) L X->∃Ms:List aQ,Ms.map aQ.d=L.map oI/\X=Ms.flatMap aQ.cells/\∀m∈Ms,m.dk w w.heap.size
 |[],X,h=>⟨[],rfl,h,fun r hr=>by cases hr⟩
 |x::L,X,⟨c,r,e,q,t⟩=>by
  obtain⟨Ms,k1,k2,k3⟩:=adR t;obtain⟨c1,r1,rfl,h1,q1⟩:=jr q;obtain⟨c2,r2,rfl,h2,q2⟩:=jr q1;obtain⟨c3,r3,rfl,h3,q3⟩:=jr q2;obtain⟨c4,r4,rfl,h4,q4⟩:=jr q3;obtain⟨c5,r5,rfl,h5,q5⟩:=jr q4;obtain⟨V4,rfl,h4⟩:=xw h4;obtain⟨V5,rfl,h5⟩:=xw h5;obtain⟨a,cap,X4,rfl,f4,s4⟩:=xE h4;obtain⟨a',cap',X5,rfl,f5,s5⟩:=xE h5;obtain⟨Rs,rk,rfl,rok⟩:=adg f4;obtain⟨Ws,wk,rfl,wok⟩:=acE f5;have l4:x.2.2.2.1.length=Rs.length:=Pv rk;have l5:x.2.2.2.2.1.length=Ws.length:=Pv wk;have l4':List.length x.2.2.2.1=Rs.length:=l4;refine⟨⟨x.1,x.2.1,x.2.2.1,a,cap,Rs,a',cap',Ws⟩::Ms,?_,?_,?_⟩
  .simp only[UV,k1,aQ.d,rk,wk];rfl
  .rw[e,zm q5,show c1=_ from h1,show c2=_ from h2,show c3=_ from h3,k2];show[_,_,_,Value.slice a (List.length x.2.2.2.1) cap,Value.slice a' (List.length x.2.2.2.2.1) cap']++_=_;rw[l4,l5];rfl
  .intro m hm;rcases Fn.1 hm with rfl|hm
   .exact⟨by rw[<-l4];exact s4,rok,by rw[<-l5];exact s5,wok⟩
   .exact k3 m hm
theorem Fi{d:cJ.T}(h:ic w A cJ d V):∃N:aY,N.v=V/\N.d=eH d/\N.dk w w.heap.size:=by
 obtain⟨h,hagg⟩:=h;obtain⟨c1,r1,e1,h1,q1⟩:=jr h;obtain⟨c2,r2,rfl,h2,q2⟩:=jr q1;obtain⟨c3,r3,rfl,h3,q3⟩:=jr q2;obtain⟨c4,r4,rfl,h4,q4⟩:=jr q3;obtain⟨c5,r5,rfl,h5,q5⟩:=jr q4;obtain⟨c6,r6,rfl,h6,q6⟩:=jr q5;obtain⟨c7,r7,rfl,h7,q7⟩:=jr q6;obtain⟨c8,r8,rfl,h8,q8⟩:=jr q7;obtain⟨a2,p2,rfl,s2⟩:=rX h2;obtain⟨a3,p3,rfl,s3⟩:=adV h3;obtain⟨a4,p4,rfl,s4⟩:=rX h4;obtain⟨a5,p5,rfl,s5⟩:=rX h5;obtain⟨a6,p6,rfl,s6⟩:=rX h6;obtain⟨V7,rfl,h7⟩:=xw h7;obtain⟨a7,p7,X7,rfl,f7,s7⟩:=xE h7;obtain⟨Ms,k1,rfl,k3⟩:=adR f7;obtain⟨a8,p8,rfl,s8⟩:=alQ h8;have l7:List.length d.2.2.2.2.2.2.1=Ms.length:=Pv k1;refine⟨⟨d.1,a2,p2,d.2.1,a3,p3,d.2.2.1.map mV,a4,p4,d.2.2.2.1,a5,p5,d.2.2.2.2.1,a6,p6,d.2.2.2.2.2.1,a7,p7,Ms,a8,p8,d.2.2.2.2.2.2.2.1.map oF⟩,?_,?_,?_⟩
 .cases V with|agg cs=>have e1':cs.toList=c1++_:=e1;rw[zm q8,show c1=_ from h1,l7]at e1';show Value.agg _=Value.agg cs;congr 1;apply ata.1;rw[e1'];rfl|_=>cases hagg
 .simp only[aY.d,k1];rfl
 .exact⟨s2,s3,s4,s5,s6,by rw[<-l7];exact s7,k3,s8⟩
instance i64Dec(x:Int):Decidable (dZ x):=inferInstanceAs (Decidable (_/\_))
instance memFitDec(m:cC):Decidable (rb m):=decidable_of_iff
 ((dZ m.word/\m.word<=4000)/\dZ m.addr/\m.reads.length<=100/\m.writes.length<=100/\(∀r∈m.reads,r.addr.length<=4000/\-1099511627776<=r.var/\r.var<=1099511627776/\∀x∈r.addr,dZ x) /\
  ∀r∈m.writes,r.addr.length<=4000/\r.data.length<=4000/\dZ r.on/\(∀x∈r.addr,dZ x)/\∀x∈r.data,dZ x)
 ⟨fun⟨a,b,c,d,e,f⟩=>⟨a,b,c,d,e,f⟩,fun⟨a,b,c,d,e,f⟩=>⟨a,b,c,d,e,f⟩⟩
instance fitDec(n:aB):Decidable (Fit n):=decidable_of_iff
 (dZ n.vars/\(n.ax.length<=4000/\∀x∈n.ax,dZ x)/\(n.ah.length<=4000/\∀l∈n.ah,dZ l.var/\dZ l.next/\dZ l.init)/\(n.bk.length<=4000/\∀x∈n.bk,dZ x) /\
  (n.aU.length<=4000/\∀x∈n.aU,dZ x)/\(n.constraints.length<=4000/\∀x∈n.constraints,dZ x)/\(n.af.length<=100/\∀m∈n.af,rb m)/\(n.ag.length<=4000/\∀a∈n.ag,dZ a.var/\dZ a.a/\dZ a.b))
 ⟨fun⟨a,b,c,d,e,f,g,h⟩=>⟨a,b,c,d,e,f,g,h⟩,fun⟨a,b,c,d,e,f,g,h⟩=>⟨a,b,c,d,e,f,g,h⟩⟩
def rG(n:aB):Bool:=decide (Fit n)
variable{n:aB}
theorem E7(h:rG n=true):Fit n:=asl h
theorem pV(h:Fit n):rG n=true:=fm h
def oQ:TL [cJ]->Option (TL [.I]):=fun d=>match rG (eH d.1)with|true=>some (da (eH d.1),())|false=>none
theorem Zwd{f:FuncId}{fn:Func}{c:Code}(h1:Tryz.prog.funcs[f]?=some fn)(h2:(fn.name == "runtime.NumGoroutine")=false)(h3:fn.body=some c)
  (h:∀(N:aY) (w:World),N.dk w w.heap.size->Fit N.d->Calls Tryz.prog f #[N.v] w fun e w'=>e=.returned (.int .i64 (da N.d))/\Below w.heap.size w w'):Comes Tryz.prog f [cJ] [.I] oQ:=by
 refine⟨⟨fn,c,h1,h2,h3⟩,?_⟩;intro d x hx w A args hA ha;unfold oQ at hx;split at hx<;>cases hx;rename_i hf;obtain⟨V,r,rfl,hd,hr⟩:=ha;have:r=[]:=hr;subst this;obtain⟨N,rfl,hN,hok⟩:=Fi hd;have hf:=E7 hf;rw[<-hN]at hf;refine(h N w hok hf).mono ?_;rintro e w' ⟨rfl,hb⟩;exact⟨[.int .i64 (da N.d)],rfl,hb,_,[],rfl,⟨by rw[hN];rfl,rfl⟩,rfl⟩
theorem Zwv:Comes Tryz.prog 135 [cJ] [.I] oQ:=Zwd (fn:=Tryz.f135) (c:=bt Tryz.f135) Tryz.func135 aud aud aoN
abbrev arP:=TL [cJ]->Option (TL [.I])
abbrev afE:=Kd 135 [cJ] [.I]
def arQ:afE:=⟨oQ,Zwv⟩
set_option maxRecDepth 1000000
abbrev Zsr:List Sh:=[.I]
abbrev TJ:List Sh:=[.I]
abbrev pX:=TL Zsr->Option (TL TJ)
abbrev oD:=Kd 79 Zsr TJ
def TP(a0:Int):Option (TL TJ):=some ((Int.fdiv a0 (HPow.hPow (2:Int) (Min.min (Int.toNat (1:Int)) 64))),())
def arW  :oD:=⟨u1 TP,pD Tryz.func79 5 k0 e0 1 (sS l0) fun d=>aud⟩
def pY:oD:=arW
def oT:pX:=pY.F
abbrev Tw:ak:=⟨[(1,.I),(2,.ptr 0 0),(4,.hd 1 .I),(16,.I),(17,.I)],[(0,.cells [.I,.I,.bool,.fz bO,.fz bu] 97),(1,.arr .I 3)],2⟩
abbrev Tu:List (Ev.Ex×ak):=[((.exit 0),⟨[(4,.hd 0 .I)],[(0,.arr .I 3)],1⟩)]
abbrev afF:=be Tw Tu
abbrev afG:=Ld 0 33 (bI [0] (bt Tryz.f108)) Tw Tu
def Js(t1 t16 t17 ay aC:Int)(av:Bool)(aD:ge)(aE:ii)(b1:jp):am Tw Tu:=
 br (iL t17 t16)
 (
  aj (an t1 aD.length)<|
  aj (room 8 (List.length (ap b1 ((pu (pm (gt bO aD t1).1 t17))::[]))))<|
  aul (t1,t16,(pu (t17+(1:Int))),ay,aC,av,aD,aE,(ap b1 ((pu (pm (gt bO aD t1).1 t17))::[])),()))
 (
  aum (b1,()))
def arR  :afG:=bJ (u9 Js) (pL k0 e0 1 l0 fun d=>aud)
def TA:afF:=bj (u9 Js) NN
abbrev Zsq:List Sh:=[ai,.I]
abbrev TI:List Sh:=[(.sl .I)]
abbrev G6:=TL Zsq->Option (TL TI)
abbrev yk:=Kd 108 Zsq TI
def TO(L4:afF)(a0:Sh.T ai)(a1:Int):Option (TL TI):=
 br (iL a1 (0:Int))
 (
  some ([],()))
 (
  br (bK false true (iE (Int.ofNat (List.length a0.2.2.2.1)) a1))
  (
   some ([],()))
  (
   aA (L4 (a1,a0.2.1,(0:Int),a0.1,a0.2.1,a0.2.2.1,a0.2.2.2.1,a0.2.2.2.2.1,[],())) fun x0=>
   some (x0.1,())))
def arV(M4:afG):yk:=⟨u2 (TO M4.L),pD Tryz.func108 33 k0 e0 1 (sS (sC M4 l0)) fun d=>aud⟩
def G7:yk:=arV  arR
def yU:G6:=G7.F
abbrev kK:List (Nat×LO):=[(0,.cells [.I,.fz .I,.fz ae,.fz .I,.fz .I,.fz .I,.fz ai,.fz ae,.hd 1 .I,.hd 2 aH,.hd 3 (.int .u8),.hd 4 .I] 160),(1,.arr .I 3),(2,.arr aH 146),(3,.arr (.int .u8) 5),(4,.arr .I 3)]
abbrev Ii:List (Nat×LO):=[(0,.cells dx 27),(1,.cells [.I,.fz .I,.fz ae,.fz .I,.fz .I,.fz .I,.fz ai,.fz ae,.hd 2 .I,.hd 3 aH,.hd 4 (.int .u8),.hd 5 .I] 160),(2,.arr .I 3),(3,.arr aH 146),(4,.arr (.int .u8) 5),(5,.arr .I 3)]
abbrev Ij:List (Nat×LO):=[(0,.cells [.fz .I] 22),(1,.cells [.ptr 2 0] 152),(2,.cells [.I,.fz .I,.fz ae,.fz .I,.fz .I,.fz .I,.fz ai,.fz ae,.hd 3 .I,.hd 4 aH,.hd 5 (.int .u8),.hd 6 .I] 160),(3,.arr .I 3),(4,.arr aH 146),(5,.arr (.int .u8) 5),(6,.arr .I 3)]
abbrev So:List (Nat×LO):=[(0,.cells [.I,.fz .I,.fz ae,.fz .I,.fz .I,.fz .I,.fz ai,.fz ae,.hd 1 .I,.hd 2 aH,.hd 3 (.int .u8),.hd 4 .I] 160),(1,.arr .I 3),(2,.arr aH 146),(3,.arr (.int .u8) 5),(4,.arr .I 3),(5,.cells [.ptr 0 0] 152),(6,.cells [.fz .I] 22)]
abbrev agx:ak:=⟨[(3,.ptr 0 0),(77,.hd 2 aH),(78,.I),(79,.I)],kK,5⟩
abbrev agy:ak:=⟨[(1,.ptr 0 0),(3,.ptr 1 0),(46,.I),(47,.I)],Ii,6⟩
abbrev agz:ak:=⟨[(0,.ptr 0 0),(1,.agg [.bool,.I,.I])],kK,5⟩
abbrev Zb1:ak:=agz
abbrev SA:List (Ev.Ex×ak):=[(.ret,⟨[(0,.fz .I)],kK,5⟩)]
abbrev Rk:=be Zb1 SA
abbrev GZ:=Kb 189 2 Zb1 1 SA
def To(tG:Bool)(lQ my ay:Int)(aC:jp)(av:bv)(aD aE aI:jp)(au:ce)(aw:bv)(b1:jp)(b2:eq)(b3 b4:jp):Option (Out SA):=
 br tG
 (
  aj (an lQ au.length)<|
  aj (an my (List.length (gt ai au lQ).2.2.2.1))<|
  some ((gt bO (gt ai au lQ).2.2.2.1 my).2.1,ay,aC,av,aD,aE,aI,au,aw,b1,b2,b3,b4,()))
 (
  aj (an my aw.length)<|
  some (((gt ae aw my).2.1::((gt ae aw my).2.2.1::[])),ay,aC,av,aD,aE,aI,au,aw,b1,b2,b3,b4,()))
def aro  :GZ:=⟨fW To,pB Tryz.func189 37 k0 e0 1 (sS l0) fun d=>aud⟩
def Rl:GZ:=aro
def SG:Rk:=Rl.F
abbrev Za9:ak:=agz
abbrev Sw:List (Ev.Ex×ak):=[(.ret,⟨[(0,.fz .I)],kK,5⟩)]
abbrev yf:=be Za9 Sw
abbrev uX:=Kb 92 2 Za9 1 Sw
def yP(F0:G6)(tG:Bool)(lQ my ay:Int)(aC:jp)(av:bv)(aD aE aI:jp)(au:ce)(aw:bv)(b1:jp)(b2:eq)(b3 b4:jp):Option (Out Sw):=
 br tG
 (
  aj (an lQ au.length)<|
  aA (F0 ((gt ai au lQ),my,())) fun x0=>
  some (x0.1,ay,aC,av,aD,aE,aI,au,aw,b1,b2,b3,b4,()))
 (
  aj (an my aw.length)<|
  some (((gt ae aw my).1::[]),ay,aC,av,aD,aE,aI,au,aw,b1,b2,b3,b4,()))
def arv(c0:yk) :uX:=⟨fW (yP c0.F),pB Tryz.func92 30 (kD c0 k0) e0 1 (sS l0) fun d=>aud⟩
def yg:uX:=arv G7
def yH:yf:=yg.F
abbrev Zaq:ak:=⟨[(0,.int .u8),(1,.ptr 0 0),(2,.ptr 1 0)],Ij,7⟩
abbrev Sx:List (Ev.Ex×ak):=[(.ret,⟨[],Ij,7⟩)]
abbrev ae2:=be Zaq Sx
abbrev QW:=Kb 207 3 Zaq 0 Sx
abbrev SF:ak:=⟨[(0,.int .u8),(2,.ptr 1 0),(6,.fz .I),(7,.I),(8,.I)],Ij,7⟩
abbrev SD:List (Ev.Ex×ak):=[((.exit 0),⟨[],Ij,7⟩)]
abbrev aeU:=be SF SD
abbrev aeV:=Ld 7 20 (bI [0] (bt Tryz.f207)) SF SD
def I4(t0:Int)(t6:jp)(t7 t8:Int)(ay:jp)(bE:Int)(cY:jp)(cZ:bv)(de ct cS:jp)(dq:ce)(dR:bv)(b3:jp)(b4:eq)(b5 b6:jp):am SF SD:=
 br (iL t8 t7)
 (
  aj (an t8 t6.length)<|
  aj (an (gt .I t6 t8) b5.length)<|
  aul (t0,t6,t7,(pu (t8+(1:Int))),ay,bE,cY,cZ,de,ct,cS,dq,dR,b3,b4,(List.set b5 (Int.toNat (gt .I t6 t8)) t0),b6,()))
 (
  aum (ay,bE,cY,cZ,de,ct,cS,dq,dR,b3,b4,b5,b6,()))
def aqW  :aeV:=bJ (gK I4) (pL k0 e0 1 l0 fun d=>aud)
def SV:aeU:=bj (gK I4) NN
def S8(L1:aeU)(t0:Int)(ay:jp)(bE:Int)(cY:jp)(cZ:bv)(de ct cS:jp)(dq:ce)(dR:bv)(b3:jp)(b4:eq)(b5 b6:jp):Option (Out Sx):=
 aA (L1 (t0,ay,(Int.ofNat ay.length),(0:Int),ay,bE,cY,cZ,de,ct,cS,dq,dR,b3,b4,b5,b6,())) fun x0=>
 some x0
def aq4(M1:aeV):QW:=⟨gA (S8 M1.L),pB Tryz.func207 20 k0 e0 1 (sS (sC M1 l0)) fun d=>aud⟩
def ae3:QW:=aq4  aqW
def Zbg:ae2:=ae3.F
abbrev Sv:ak:=⟨[(0,.ptr 0 0),(1,.I)],kK,5⟩
abbrev Iq:List (Ev.Ex×ak):=[(.ret,⟨[(0,.bool)],kK,5⟩)]
abbrev rf:=be Sv Iq
abbrev pW:=Kb 175 2 Sv 1 Iq
abbrev SI:ak:=⟨[(2,.ptr 5 0),(7,.func 207 [] [.ptr 6 0,.ptr 5 0]),(8,.I),(86,.fz .I),(87,.I),(88,.I)],So,7⟩
abbrev SE:List (Ev.Ex×ak):=[((.exit 3),⟨[(7,.func 207 [] [.ptr 5 0,.ptr 6 0])],[(0,.cells [.I,.fz .I,.fz ae,.fz .I,.fz .I,.fz .I,.fz ai,.fz ae,.hd 1 .I,.hd 2 aH,.hd 3 (.int .u8),.hd 4 .I] 160),(1,.arr .I 3),(2,.arr aH 146),(3,.arr (.int .u8) 5),(4,.arr .I 3),(5,.cells [.fz .I] 22),(6,.cells [.ptr 0 0] 152)],7⟩)]
abbrev ae0:=be SI SE
abbrev QU:=Ld 5 103 (bI [1] (bt Tryz.f175)) SI SE
abbrev IM:ak:=⟨[(2,.ptr 5 0),(6,.ptr 6 0),(7,.func 207 [] [.ptr 6 0,.ptr 5 0]),(8,.I),(64,.fz .I),(65,.I),(66,.I)],So,7⟩
abbrev IH:List (Ev.Ex×ak):=[(.ret,⟨[(4,.bool)],kK,5⟩),((.exit 1),⟨[(2,.ptr 5 0),(6,.ptr 6 0),(7,.func 207 [] [.ptr 6 0,.ptr 5 0]),(8,.I)],So,7⟩)]
abbrev ae1:=be IM IH
abbrev QV:=Ld 5 103 (bI [0] (bt Tryz.f175)) IM IH
def Tv(F0:pX)(F1:rf)(t8:Int)(t64:jp)(t65 t66 ay:Int)(aC:jp)(av:bv)(aD aE aI:jp)(au:ce)(aw:bv)(b1:jp)(b2:eq)(b3 b4 fK:jp):am IM IH:=
 br (iL t66 t65)
 (
  aj (an t66 t64.length)<|
  aA (F0 ((gt .I t64 t66),())) fun x0=>
  aA (F1 (x0.1,ay,aC,av,aD,aE,aI,au,aw,b1,b2,b3,b4,())) fun x1=>
  br (Bool.not x1.1)
  (
   aum (.inl (false,x1.2)))
  (
   aj (an x0.1 (List.length x1.2.2.2.2.2.2.2.2.2.2.2.2.1))<|
   aul ((fD (iL t8 (gt .I x1.2.2.2.2.2.2.2.2.2.2.2.2.1 x0.1)) (gt .I x1.2.2.2.2.2.2.2.2.2.2.2.2.1 x0.1) t8),t64,t65,(pu (t66+(1:Int))),x1.2.1,x1.2.2.1,x1.2.2.2.1,x1.2.2.2.2.1,x1.2.2.2.2.2.1,x1.2.2.2.2.2.2.1,x1.2.2.2.2.2.2.2.1,x1.2.2.2.2.2.2.2.2.1,x1.2.2.2.2.2.2.2.2.2.1,x1.2.2.2.2.2.2.2.2.2.2.1,x1.2.2.2.2.2.2.2.2.2.2.2.1,x1.2.2.2.2.2.2.2.2.2.2.2.2.1,fK,())))
 (
  aum (.inr (t8,ay,aC,av,aD,aE,aI,au,aw,b1,b2,b3,b4,fK,())))
def aq3(c0:oD)(c1:pW) :QV:=bJ (gK (Tv c0.F c1.F)) (pL (kD c0 (kB c1 k0)) e0 1 l0 fun d=>aud)
def aq1(s:pW):QV:=aq3 pY s
def SY(F:rf):ae1:=bj (fun d=>Tv oT F  d.1 d.2.1 d.2.2.1 d.2.2.2.1 d.2.2.2.2.1 d.2.2.2.2.2.1 d.2.2.2.2.2.2.1 d.2.2.2.2.2.2.2.1 d.2.2.2.2.2.2.2.2.1 d.2.2.2.2.2.2.2.2.2.1 d.2.2.2.2.2.2.2.2.2.2.1 d.2.2.2.2.2.2.2.2.2.2.2.1 d.2.2.2.2.2.2.2.2.2.2.2.2.1 d.2.2.2.2.2.2.2.2.2.2.2.2.2.1 d.2.2.2.2.2.2.2.2.2.2.2.2.2.2.1 d.2.2.2.2.2.2.2.2.2.2.2.2.2.2.2.1 d.2.2.2.2.2.2.2.2.2.2.2.2.2.2.2.2.1) NN
def I8(t8:Int)(t86:jp)(t87 t88 ay:Int)(aC:jp)(av:bv)(aD aE aI:jp)(au:ce)(aw:bv)(b1:jp)(b2:eq)(b3 b4 fK:jp):am SI SE:=
 br (iL t88 t87)
 (
  aj (an t88 t86.length)<|
  aj (an (gt .I t86 t88) b4.length)<|
  aul (t8,t86,t87,(pu (t88+(1:Int))),ay,aC,av,aD,aE,aI,au,aw,b1,b2,b3,(List.set b4 (Int.toNat (gt .I t86 t88)) (pu (t8+(1:Int)))),fK,()))
 (
  aum (ay,aC,av,aD,aE,aI,au,aw,b1,b2,b3,b4,fK,()))
def aq2  :QU:=bJ (gK I8) (pL k0 e0 1 l0 fun d=>aud)
def aq0(s:pW):QU:=aq2
def SX(F:rf):ae0:=bj (fun d=>I8   d.1 d.2.1 d.2.2.1 d.2.2.2.1 d.2.2.2.2.1 d.2.2.2.2.2.1 d.2.2.2.2.2.2.1 d.2.2.2.2.2.2.2.1 d.2.2.2.2.2.2.2.2.1 d.2.2.2.2.2.2.2.2.2.1 d.2.2.2.2.2.2.2.2.2.2.1 d.2.2.2.2.2.2.2.2.2.2.2.1 d.2.2.2.2.2.2.2.2.2.2.2.2.1 d.2.2.2.2.2.2.2.2.2.2.2.2.2.1 d.2.2.2.2.2.2.2.2.2.2.2.2.2.2.1 d.2.2.2.2.2.2.2.2.2.2.2.2.2.2.2.1 d.2.2.2.2.2.2.2.2.2.2.2.2.2.2.2.2.1) NN
def Tl(F0:pX)(F1:rf)(F2:Rk)(F3:ae2)(F4:yf)(L11:ae1)(L19:ae0)(t1 ay:Int)(aC:jp)(av:bv)(aD aE aI:jp)(au:ce)(aw:bv)(b1:jp)(b2:eq)(b3 b4:jp):Option (Out Iq):=
 aj (an t1 b1.length)<|
 br (iQ (gt .I b1 t1) (0:Int))
 (
  some (true,ay,aC,av,aD,aE,aI,au,aw,b1,b2,b3,b4,()))
 (
  aj (an t1 b3.length)<|
  br (bK false true (iQ (gt (.int .u8) b3 t1) (2:Int)))
  (
   some (true,ay,aC,av,aD,aE,aI,au,aw,b1,b2,b3,b4,()))
  (
   aj (an t1 b3.length)<|
   br (iQ (gt (.int .u8) b3 t1) (1:Int))
   (
    some (false,ay,aC,av,aD,aE,aI,au,aw,b1,b2,b3,b4,()))
   (
    aj (an t1 b1.length)<|
    aj (an (pu (@HSub.hSub (Int) (Int) (Int) _ (gt .I b1 t1) (1:Int))) b2.length)<|
    aA (F4 ((gt aH b2 (pu (@HSub.hSub (Int) (Int) (Int) _ (gt .I b1 t1) (1:Int)))).1,(gt aH b2 (pu (@HSub.hSub (Int) (Int) (Int) _ (gt .I b1 t1) (1:Int)))).2.1,(gt aH b2 (pu (@HSub.hSub (Int) (Int) (Int) _ (gt .I b1 t1) (1:Int)))).2.2.1,ay,aC,av,aD,aE,aI,au,aw,b1,b2,b3,b4,())) fun x0=>
    aA (F3 ((1:Int),x0)) fun x1=>
    aA (F2 ((gt aH b2 (pu (@HSub.hSub (Int) (Int) (Int) _ (gt .I b1 t1) (1:Int)))).1,(gt aH b2 (pu (@HSub.hSub (Int) (Int) (Int) _ (gt .I b1 t1) (1:Int)))).2.1,(gt aH b2 (pu (@HSub.hSub (Int) (Int) (Int) _ (gt .I b1 t1) (1:Int)))).2.2.1,x1.2)) fun x2=>
    aA (L11 ((0:Int),x2.1,(Int.ofNat (List.length x2.1)),(0:Int),x2.2.1,x2.2.2.1,x2.2.2.2.1,x2.2.2.2.2.1,x2.2.2.2.2.2.1,x2.2.2.2.2.2.2.1,x2.2.2.2.2.2.2.2.1,x2.2.2.2.2.2.2.2.2.1,x2.2.2.2.2.2.2.2.2.2.1,x2.2.2.2.2.2.2.2.2.2.2.1,x2.2.2.2.2.2.2.2.2.2.2.2.1,x2.2.2.2.2.2.2.2.2.2.2.2.2.1,x1.1,())) fun x3=>
    (match x3 with
    |.inl x4=>some x4|.inr x4=>
     aA (L19 (x4.1,x4.2.2.2.2.2.2.2.2.2.2.2.2.2.1,(Int.ofNat (List.length x4.2.2.2.2.2.2.2.2.2.2.2.2.2.1)),(0:Int),x4.2)) fun x5=>
     aA (F3 ((2:Int),x5.2.2.2.2.2.2.2.2.2.2.2.2.1,x5.1,x5.2.1,x5.2.2.1,x5.2.2.2.1,x5.2.2.2.2.1,x5.2.2.2.2.2.1,x5.2.2.2.2.2.2.1,x5.2.2.2.2.2.2.2.1,x5.2.2.2.2.2.2.2.2.1,x5.2.2.2.2.2.2.2.2.2.1,x5.2.2.2.2.2.2.2.2.2.2.1,x5.2.2.2.2.2.2.2.2.2.2.2.1,())) fun x6=>
     some (true,x6.2)
    ))))
def arl(c0:oD)(c1:pW)(c2:GZ)(c3:QW)(c4:uX)(M11:QV)(M19:QU):pW:=⟨iT (Tl c0.F c1.F c2.F c3.F c4.F M11.L M19.L),pB Tryz.func175 103 (kD c0 (kB c1 (kB c2 (kB c3 (kB c4 k0))))) e0 1 (sS (sC M11 (sC M19 l0))) fun d=>aud⟩
def ye:Nat->pW
 |0=>Uu Tryz.func175 aud aud|k+1=>arl pY (ye k) Rl ae3 yg (aq1 (ye k)) (aq0 (ye k))
def vt(k:Nat):rf:=(ye k).F
def Q8:pW:=ye NN
def SQ:rf:=Q8.F
abbrev Zdy:ak:=⟨[(0,.ptr 0 0)],kK,5⟩
abbrev SR:List (Ev.Ex×ak):=[(.ret,⟨[(0,.bool)],kK,5⟩)]
abbrev afi:=be Zdy SR
abbrev Rd:=Kb 137 1 Zdy 1 SR
abbrev SS:ak:=⟨[(3,.func 175 [.ptr 0 0] []),(11,.I),(12,.I)],kK,5⟩
abbrev IW:List (Ev.Ex×ak):=[(.ret,⟨[(2,.bool)],kK,5⟩),((.exit 0),⟨[],kK,5⟩)]
abbrev afh:=be SS IW
abbrev Rb:=Ld 5 20 (bI [0] (bt Tryz.f137)) SS IW
def Ty(F0:rf)(t11 t12 ay:Int)(aC:jp)(av:bv)(aD aE aI:jp)(au:ce)(aw:bv)(b1:jp)(b2:eq)(b3 b4:jp):am SS IW:=
 br (iL t12 t11)
 (
  aA (F0 (t12,ay,aC,av,aD,aE,aI,au,aw,b1,b2,b3,b4,())) fun x0=>
  br (Bool.not x0.1)
  (
   aum (.inl (false,x0.2)))
  (
   aul (t11,(pu (t12+(1:Int))),x0.2)))
 (
  aum (.inr (ay,aC,av,aD,aE,aI,au,aw,b1,b2,b3,b4,())))
def arq(c0:pW) :Rb:=bJ (gA (Ty c0.F)) (pL (kB c0 k0) e0 1 l0 fun d=>aud)
def arp:Rb:=arq Q8
def Zhi:afh:=bj (gA (Ty SQ)) NN
def Zm5(F0:rf)(L3:afh)(ay:Int)(aC:jp)(av:bv)(aD aE aI:jp)(au:ce)(aw:bv)(b1:jp)(b2:eq)(b3 b4:jp):Option (Out SR):=
 aA (L3 ((Int.ofNat b1.length),(0:Int),ay,aC,av,aD,aE,aI,au,aw,b1,b2,b3,b4,())) fun x0=>
 (match x0 with|.inl x1=>some x1|.inr x1=>some (true,x1)
 )
def aru(c0:pW)(M3:Rb):Rd:=⟨bV (Zm5 c0.F M3.L),pB Tryz.func137 20 (kB c0 k0) e0 1 (sS (sC M3 l0)) fun d=>aud⟩
def afj:Rd:=aru Q8 arp
def Zhj:afi:=afj.F
abbrev Zjf:ak:=⟨[(0,.agg dx)],[],0⟩
abbrev Tp:List (Ev.Ex×ak):=[(.ret,⟨[(0,.ptr 0 0)],kK,5⟩)]
abbrev afC:=be Zjf Tp
abbrev RB:=Kb 136 1 Zjf 1 Tp
abbrev Ti:ak:=agx
abbrev S9:List (Ev.Ex×ak):=[((.exit 6),⟨[(3,.ptr 0 0)],kK,5⟩)]
abbrev afs:=be Ti S9
abbrev Rw:=Ld 0 103 (bI [2] (bt Tryz.f136)) Ti S9
abbrev S4:ak:=⟨[(3,.ptr 0 0),(7,.I),(77,.hd 2 aH),(78,.I),(79,.I),(86,.fz .I),(87,.I),(88,.I)],kK,5⟩
abbrev SZ:List (Ev.Ex×ak):=[((.exit 8),agx)]
abbrev Rr:=be S4 SZ
abbrev Ru:=Ld 0 103 (bI [2,0] (bt Tryz.f136)) S4 SZ
abbrev Tq:ak:=agy
abbrev Tg:List (Ev.Ex×ak):=[((.exit 2),⟨[(3,.ptr 0 0)],kK,5⟩)]
abbrev afw:=be Tq Tg
abbrev Rz:=Ld 0 103 (bI [1] (bt Tryz.f136)) Tq Tg
abbrev S5:ak:=⟨[(1,.ptr 0 0),(3,.ptr 1 0),(5,.I),(46,.I),(47,.I),(56,.I),(57,.I)],Ii,6⟩
abbrev S0:List (Ev.Ex×ak):=[((.exit 4),agy)]
abbrev Rt:=be S5 S0
abbrev Rx:=Ld 0 103 (bI [1,0] (bt Tryz.f136)) S5 S0
abbrev Ts:ak:=⟨[(1,.ptr 0 0),(3,.ptr 1 0),(28,.I),(29,.I)],Ii,6⟩
abbrev Th:List (Ev.Ex×ak):=[((.exit 0),⟨[(1,.ptr 0 0),(3,.ptr 1 0)],Ii,6⟩)]
abbrev afx:=be Ts Th
abbrev afy:=Ld 0 103 (bI [0] (bt Tryz.f136)) Ts Th
def Jn(t28 t29 ay:Int)(aC:jp)(av:bv)(aD aE aI:jp)(au:ce)(aw:bv)(bc:Int)(cq:jp)(bN:bv)(bW bH dc:jp)(cx:ce)(cP:bv)(b2:jp)(b3:eq)(b4 b5:jp):am Ts Th:=
 br (iL t29 t28)
 (
  aj (room 24 (List.length (ap b3 ((false,(0:Int),t29,())::[]))))<|
  aul (t28,(pu (t29+(1:Int))),ay,aC,av,aD,aE,aI,au,aw,bc,cq,bN,bW,bH,dc,cx,cP,b2,(ap b3 ((false,(0:Int),t29,())::[])),b4,b5,()))
 (
  aum (ay,aC,av,aD,aE,aI,au,aw,bc,cq,bN,bW,bH,dc,cx,cP,b2,b3,b4,b5,()))
def arH  :afy:=bJ (lF Jn) (pL k0 e0 1 l0 fun d=>aud)
def Jh:afx:=bj (lF Jn) NN
def Jl(t5 t46 t47 t56 t57 ay:Int)(aC:jp)(av:bv)(aD aE aI:jp)(au:ce)(aw:bv)(bc:Int)(cq:jp)(bN:bv)(bW bH dc:jp)(cx:ce)(cP:bv)(b2:jp)(b3:eq)(b4 b5:jp):am S5 S0:=
 br (iL t57 t56)
 (
  aj (room 24 (List.length (ap b3 ((true,t5,t57,())::[]))))<|
  aul (t5,t46,t47,t56,(pu (t57+(1:Int))),ay,aC,av,aD,aE,aI,au,aw,bc,cq,bN,bW,bH,dc,cx,cP,b2,(ap b3 ((true,t5,t57,())::[])),b4,b5,()))
 (
  aum (t46,t47,ay,aC,av,aD,aE,aI,au,aw,bc,cq,bN,bW,bH,dc,cx,cP,b2,b3,b4,b5,()))
def afu  :Rx:=bJ (fun d=>iT (bV Jl d) (cy d)) (pL k0 e0 1 l0 fun d=>aud)
def Je:Rt:=bj (fun d=>iT (bV Jl d) (cy d)) NN
def Jm(L11:Rt)(t46 t47 ay:Int)(aC:jp)(av:bv)(aD aE aI:jp)(au:ce)(aw:bv)(bc:Int)(cq:jp)(bN:bv)(bW bH dc:jp)(cx:ce)(cP:bv)(b2:jp)(b3:eq)(b4 b5:jp):am Tq Tg:=
 br (iL t47 t46)
 (
  aj (an t47 au.length)<|
  aA (L11 (t47,t46,t47,(Int.ofNat (List.length (gt ai au t47).2.2.2.1)),(0:Int),ay,aC,av,aD,aE,aI,au,aw,bc,cq,bN,bW,bH,dc,cx,cP,b2,b3,b4,b5,())) fun x0=>
  aul (x0.1,(pu (pm x0.2.1 (1:Int))),x0.2.2))
 (
  aum (bc,cq,bN,bW,bH,dc,cx,cP,b2,b3,b4,b5,()))
def arI(M11:Rx):Rz:=bJ (lF (Jm M11.L)) (pL k0 e0 1 (sC M11 l0) fun d=>aud)
def arG:Rz:=arI  afu
def Jg:afw:=bj (lF (Jm Je)) NN
def Jj(t7 t78 t79:Int)(t86:jp)(t87 t88 ay:Int)(aC:jp)(av:bv)(aD aE aI:jp)(au:ce)(aw:bv)(b1:jp)(b2:eq)(b3 b4:jp):am S4 SZ:=
 br (iL t88 t87)
 (
  aj (an t88 t86.length)<|
  aj (an (gt .I t86 t88) b1.length)<|
  aul (t7,t78,t79,t86,t87,(pu (t88+(1:Int))),ay,aC,av,aD,aE,aI,au,aw,(List.set b1 (Int.toNat (gt .I t86 t88)) (pu (t7+(1:Int)))),b2,b3,b4,()))
 (
  aum (t78,t79,ay,aC,av,aD,aE,aI,au,aw,b1,b2,b3,b4,()))
def aft  :Ru:=bJ (mC Jj) (pL k0 e0 1 l0 fun d=>aud)
def Jd:Rr:=bj (mC Jj) NN
def Jk(F0:yf)(L20:Rr)(t78 t79 ay:Int)(aC:jp)(av:bv)(aD aE aI:jp)(au:ce)(aw:bv)(b1:jp)(b2:eq)(b3 b4:jp):am Ti S9:=
 br (iL t79 t78)
 (
  aj (an t79 b2.length)<|
  aA (F0 ((gt aH b2 t79).1,(gt aH b2 t79).2.1,(gt aH b2 t79).2.2.1,ay,aC,av,aD,aE,aI,au,aw,b1,b2,b3,b4,())) fun x0=>
  aA (L20 (t79,t78,t79,x0.1,(Int.ofNat (List.length x0.1)),(0:Int),x0.2)) fun x1=>
  aul (x1.1,(pu (pm x1.2.1 (1:Int))),x1.2.2))
 (
  aum (ay,aC,av,aD,aE,aI,au,aw,b1,b2,b3,b4,()))
def arD(c0:uX)(M20:Ru):Rw:=bJ (gA (Jk c0.F M20.L)) (pL (kB c0 k0) e0 1 (sC M20 l0) fun d=>aud)
def arC:Rw:=arD yg aft
def Jf:afs:=bj (gA (Jk yH Jd)) NN
def TG(F0:yf)(L3:afx)(L8:afw)(L11:Rt)(L17:afs)(L20:Rr)(eo:Int)(jK:jp)(jL:bv)(kV kj km:jp)(ko:ce)(mW:bv):Option (Out Tp):=
 aj (both (iE (0:Int) (pu (eo+(1:Int)))) (both (iE (pu (eo+(1:Int))) (pu (eo+(1:Int)))) (iE ((Int.ofNat 8)*(pu (eo+(1:Int)))) (281474976710656:Int))))<|
 aj (both (iE (0:Int) (pu (eo+(1:Int)))) (both (iE (pu (eo+(1:Int))) (pu (eo+(1:Int)))) (iE ((Int.ofNat 1)*(pu (eo+(1:Int)))) (281474976710656:Int))))<|
 aj (both (iE (0:Int) (pu (eo+(1:Int)))) (both (iE (pu (eo+(1:Int))) (pu (eo+(1:Int)))) (iE ((Int.ofNat 8)*(pu (eo+(1:Int)))) (281474976710656:Int))))<|
 aA (L3 ((Int.ofNat mW.length),(0:Int),eo,jK,jL,kV,kj,km,ko,mW,eo,jK,jL,kV,kj,km,ko,mW,(List.replicate (Int.toNat (pu (eo+(1:Int)))) (Sh.zero .I)),[],(List.replicate (Int.toNat (pu (eo+(1:Int)))) (Sh.zero (.int .u8))),(List.replicate (Int.toNat (pu (eo+(1:Int)))) (Sh.zero .I)),())) fun x0=>
 aA (L8 ((Int.ofNat (List.length x0.2.2.2.2.2.2.1)),(0:Int),x0)) fun x1=>
 aA (L17 ((Int.ofNat (List.length x1.2.2.2.2.2.2.2.2.2.1)),(0:Int),x1)) fun x2=>
 some x2
def arN(c0:uX)(M3:afy)(M8:Rz)(M11:Rx)(M17:Rw)(M20:Ru):RB:=⟨u8 (TG c0.F M3.L M8.L M11.L M17.L M20.L),pB Tryz.func136 103 (kB c0 k0) e0 1 (sS (sC M3 (sC M8 (sC M17 l0)))) fun d=>aud⟩
def afD:RB:=arN yg arH arG afu arC aft
def Zo9:afC:=afD.F
abbrev Zjg:ak:=⟨[(0,.agg dx)],[],0⟩
abbrev Tt:List (Ev.Ex×ak):=[(.ret,⟨[(0,.fi),(1,.I)],[],0⟩),(.ret,⟨[(0,.ptr 0 0),(1,.I)],kK,5⟩)]
abbrev G4:=be Zjg Tt
abbrev yj:=Kb 87 1 Zjg 2 Tt
def Zw8(F0:arP)(F1:afi)(F2:afC)(eo:Int)(jK:jp)(jL:bv)(kV kj km:jp)(ko:ce)(mW:bv):Option (Out Tt):=
 aA (F0 ((eo,jK,jL,kV,kj,km,ko,mW,()),())) fun x0=>
 br (Bool.not (iQ x0.1 (0:Int)))
 (
  aul (x0.1,()))
 (
  aA (F2 (eo,jK,jL,kV,kj,km,ko,mW,())) fun x1=>
  aA (F1 x1) fun x2=>
  br (Bool.not x2.1)
  (
   aul ((8:Int),()))
  (
   aum ((0:Int),x2.2)))
def arO(c0:afE)(c1:Rd)(c2:RB) :yj:=⟨u8 (Zw8 c0.F c1.F c2.F),pB Tryz.func87 17 (kD c0 (kB c1 (kB c2 k0))) e0 1 (sS l0) fun d=>aud⟩
def G5:yj:=arO arQ afj afD
def tK:G4:=G5.F
abbrev Zq5:List Sh:=[cJ]
abbrev TD:List Sh:=[.I]
abbrev Q9:=TL Zq5->Option (TL TD)
abbrev GS:=Kd 38 Zq5 TD
def Zul(F0:G4)(a0:Sh.T cJ):Option (TL TD):=
 aA (F0 a0) fun x0=>
 (match x0 with|.inl x1=>some (x1.1,())|.inr x1=>some (x1.1,())
 )
def arL(c0:yj) :GS:=⟨u1 (Zul c0.F),pD Tryz.func38 11 (kB c0 k0) e0 1 (sS l0) fun d=>aud⟩
def GY:GS:=arL G5
def I9:Q9:=GY.F
