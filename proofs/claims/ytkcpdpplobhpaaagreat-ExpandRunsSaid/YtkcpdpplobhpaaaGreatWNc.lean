import Derived.Test.YtkcpdpplobhpaaaGreatWMf
import Derived.Test.YtkcpdpplobhpaaaGreatWNb
set_option linter.unusedVariables false
set_option linter.unusedSimpArgs false
set_option linter.unnecessarySimpa false
section
namespace Go.Proofs.YtkcpdpplobhpaaaGreat.V
open Go Go.RowKit Go.Proofs.YtkcpdpplobhpaaaGreat.Pl
def mq(x:ae.T):cu:=⟨x.1,x.2.1,x.2.2.1⟩
def nR(x:ae.T):fw:=⟨x.1,x.2.1,x.2.2.1⟩
def qE(x:bg.T):jb:=⟨x.1,x.2.1⟩
def rI(x:aH.T):iw:=⟨x.1,x.2.1,x.2.2.1⟩
def nS(x:ab.T):aV:=⟨x.1,x.2.1,x.2.2.1,x.2.2.2.1.map qE,x.2.2.2.2.1.map rI⟩
def js(x:ca.T):aB:=⟨x.1,x.2.1,x.2.2.1.map mq,x.2.2.2.1,x.2.2.2.2.1,x.2.2.2.2.2.1,x.2.2.2.2.2.2.1.map nS,x.2.2.2.2.2.2.2.1.map nR⟩
def bf(x:cu):ae.T:=(x.var,(x.next,(x.init,())))
def cG(x:fw):ae.T:=(x.var,(x.a,(x.b,())))
def bW(x:jb):bg.T:=(x.var,(x.addr,()))
def bH(x:iw):aH.T:=(x.on,(x.addr,(x.data,())))
def af(x:aV):ab.T:=(x.addr,(x.word,(x.any,(x.reads.map bW,(x.writes.map bH,())))))
def cH(x:aB):ca.T:=(x.vars,(x.aL,(x.aj.map bf,(x.bz,(x.bc,(x.constraints,(x.aa.map af,(x.aC.map cG,()))))))))
theorem map_id'{α β:Type}{f:α->β}{g:β->α}(h:∀x,g (f x)=x):∀L:List α,(L.map f).map g=L
 |[]=>rfl|x::L=>by simp only[List.map_cons,h,map_id' h L]
theorem agN(a b:Int)(c:Bool)(d:List bg.T)(e:List aH.T):((a,(b,(c,((d.map qE).map bW,((e.map rI).map bH,()))))):Int×Int×Bool×List bg.T×List aH.T×Unit)=(a,(b,(c,(d,(e,()))))):=by rw[map_id' (f:=qE) (g:=bW) (fun x=>rfl),map_id' (f:=rI) (g:=bH) (fun x=>rfl)]
theorem ajY(x:ab.T):af (nS x)=x:=agN x.1 x.2.1 x.2.2.1 x.2.2.2.1 x.2.2.2.2.1
theorem agQ(a:Int)(b:List Int)(c:List ae.T)(d e f:List Int)(g:List ab.T)(h:List ae.T) :
  ((a,(b,((c.map mq).map bf,(d,(e,(f,((g.map nS).map af,((h.map nR).map cG,())))))))):Int×List Int×List ae.T×List Int×List Int×List Int×List ab.T×List ae.T×Unit)=(a,(b,(c,(d,(e,(f,(g,(h,())))))))):=by
 rw[map_id' (f:=mq) (g:=bf) (fun x=>rfl),map_id' (f:=nR) (g:=cG) (fun x=>rfl),map_id' (f:=nS) (g:=af) ajY]
theorem Qh(x:ca.T):cH (js x)=x:=agQ x.1 x.2.1 x.2.2.1 x.2.2.2.1 x.2.2.2.2.1 x.2.2.2.2.2.1 x.2.2.2.2.2.2.1 x.2.2.2.2.2.2.2.1
theorem ajZ(x:aV):nS (af x)=x:=by obtain⟨a,b,c,d,e⟩:=x;show(⟨a,b,c,(d.map bW).map qE,(e.map bH).map rI⟩:aV)=_;rw[map_id' (f:=bW) (g:=qE) (fun x=>rfl),map_id' (f:=bH) (g:=rI) (fun x=>rfl)]
theorem o9(x:aB):js (cH x)=x:=by obtain⟨a,b,c,d,e,f,g,h⟩:=x;show(⟨a,b,(c.map bf).map mq,d,e,f,(g.map af).map nS,(h.map cG).map nR⟩:aB)=_;rw[map_id' (f:=bf) (g:=mq) (fun x=>rfl),map_id' (f:=cG) (g:=nR) (fun x=>rfl),map_id' (f:=af) (g:=nS) ajZ]
theorem vC{w:World}{A:Nat->Prop}{s:Sh}{L:List s.T}{V:Value}(h:Cs w A (.sl s) L [V]) :
  ∃a cap X,V=.slice a L.length cap/\bw (Cs w A s) L X/\Sl w w.heap.size s.size a L.length cap X:=by
 obtain⟨a,len,cap,e1,rfl,e3,e4⟩:=h;simp only[List.cons.injEq,and_true]at e1;subst e1;by_cases hL:L=[]
 .subst hL;exact⟨a,cap,[],rfl,rfl,⟨by simp,fun h=>absurd h (by simp)⟩,e3,dq _⟩
 .obtain⟨b,o,X,rfl,q2,q3,c,ty,fr,q4,q5⟩:=e4 hL;refine⟨_,cap,X,rfl,q3,⟨bw.length (fun x c=>Cs.length) q3,fun _=>⟨_,rfl,fN q4,fun j u hj=>?_⟩⟩,e3,dq _⟩;have:=q5 j u hj;rw[show(⟨b,o,none⟩:Addr).add j=⟨b,o+j,none⟩from by simp[Ev.h9]];simp only[World.cell?,q4,Option.isSome_none,Bool.false_eq_true,if_false];exact this
theorem JP{α:Type}{R:α->List Value->Prop}{g:α->List Value}(h:∀x c,R x c->c=g x):∀{L:List α}{X:List Value},bw R L X->X=L.flatMap g
 |[],X,q=>q|x::L,X,⟨c,r,e,q,t⟩=>by rw[e,h x c q,JP h t];rfl
theorem yk{w:World}{A:Nat->Prop}{d:TL []}{cs:List Value}(h:gZ w A [] d cs):cs=[]:=h
theorem iZ{w:World}{A:Nat->Prop}{s:Sh}{l:List Sh}{d:TL (s::l)}{cs:List Value}(h:gZ w A (s::l) d cs):∃c r,cs=c++r/\Cs w A s d.1 c/\gZ w A l d.2 r:=h
theorem vt{w:World}{A:Nat->Prop}{s:Sh}{L:List s.T}{c:List Value}(h:Cs w A (.sl s) L c):∃V,c=[V]/\Cs w A (.sl s) L [V]:=by obtain⟨a,len,cap,e1,q⟩:=h;exact⟨_,e1,a,len,cap,rfl,q⟩
theorem J4{α β γ:Type}{f:α->γ}{g:β->γ}{L:List α}{M:List β}(h:L.map f=M.map g):M.length=L.length:=by have:=congrArg List.length h;rw[aI,aI]at this;exact this.symm
theorem Xv:∀L:List Int,L.flatMap (fun n=>[Value.int .i64 n])=ints L
 |[]=>rfl|x::L=>by have:=Xv L;unfold ints at this |-;rw[List.flatMap_cons,this];rfl
theorem rG{w:World}{A:Nat->Prop}{L:List Int}{c:List Value}(h:Cs w A (.sl (.int .i64)) L c):∃a cap,c=[.slice a L.length cap]/\Sl w w.heap.size 1 a L.length cap (ints L):=by
 obtain⟨V,rfl,h⟩:=vt h;obtain⟨a,cap,X,rfl,h1,h2⟩:=vC h;have:X=ints L:=by have:=JP (g:=fun n=>[Value.int .i64 n]) (fun x c q=>q) h1;rw[this];exact Xv L
 subst this;exact⟨a,cap,rfl,h2⟩
theorem ahy{w:World}{A:Nat->Prop}{x:ae.T}{c:List Value}(h:Cs w A ae x c):c=(mq x).cells:=by obtain⟨c1,r1,rfl,h1,q1⟩:=iZ h;obtain⟨c2,r2,rfl,h2,q2⟩:=iZ q1;obtain⟨c3,r3,rfl,h3,q3⟩:=iZ q2;rw[yk q3,show c1=_ from h1,show c2=_ from h2,show c3=_ from h3];rfl
theorem XC{w:World}{A:Nat->Prop}{L:List ae.T}{c:List Value}(h:Cs w A (.sl ae) L c):∃a cap,c=[.slice a (L.map mq).length cap]/\Sl w w.heap.size 3 a (L.map mq).length cap ((L.map mq).flatMap cu.cells):=by obtain⟨V,rfl,h⟩:=vt h;obtain⟨a,cap,X,rfl,h1,h2⟩:=vC h;have:=JP (g:=fun x=>(mq x).cells) (fun x c q=>ahy q) h1;refine⟨a,cap,by simp,?_⟩;rw[aI,List.flatMap_map,<-this];exact h2
theorem agd{w:World}{A:Nat->Prop}{L:List ae.T}{c:List Value}(h:Cs w A (.sl ae) L c):∃a cap,c=[.slice a (L.map nR).length cap]/\Sl w w.heap.size 3 a (L.map nR).length cap ((L.map nR).flatMap fw.cells):=by obtain⟨a,cap,e,h⟩:=XC h;rw[aI]at e h |-;exact⟨a,cap,e,by rw[List.flatMap_map]at h |-;exact h⟩
theorem WQ{w:World}{A:Nat->Prop}:∀{L:List bg.T}{X:List Value},bw (Cs w A bg) L X->∃Rs:List dJ,Rs.map dJ.d=L.map qE/\X=Rs.flatMap dJ.cells/\∀r∈Rs,r.cg w w.heap.size
 |[],X,h=>⟨[],rfl,h,fun r hr=>by cases hr⟩
 |x::L,X,⟨c,r,e,q,t⟩=>by
  obtain⟨Rs,k1,k2,k3⟩:=WQ t;obtain⟨c1,r1,rfl,h1,q1⟩:=iZ q;obtain⟨c2,r2,rfl,h2,q2⟩:=iZ q1;obtain⟨a,cap,rfl,hs⟩:=rG h2;refine⟨⟨x.1,a,cap,x.2.1⟩::Rs,by simp only[List.map_cons,k1];rfl,?_,?_⟩
  .rw[e,yk q2,show c1=_ from h1,k2];rfl
  .intro r hr;rcases List.mem_cons.1 hr with rfl|hr
   .exact hs
   .exact k3 r hr
theorem VX{w:World}{A:Nat->Prop}:∀{L:List aH.T}{X:List Value},bw (Cs w A aH) L X->∃Rs:List fh,Rs.map fh.d=L.map rI/\X=Rs.flatMap fh.cells/\∀r∈Rs,r.cg w w.heap.size
 |[],X,h=>⟨[],rfl,h,fun r hr=>by cases hr⟩
 |x::L,X,⟨c,r,e,q,t⟩=>by
  obtain⟨Rs,k1,k2,k3⟩:=VX t;obtain⟨c1,r1,rfl,h1,q1⟩:=iZ q;obtain⟨c2,r2,rfl,h2,q2⟩:=iZ q1;obtain⟨c3,r3,rfl,h3,q3⟩:=iZ q2;obtain⟨a,cap,rfl,hs⟩:=rG h2;obtain⟨a',cap',rfl,hs'⟩:=rG h3;refine⟨⟨x.1,a,cap,x.2.1,a',cap',x.2.2.1⟩::Rs,by simp only[List.map_cons,k1];rfl,?_,?_⟩
  .rw[e,yk q3,show c1=_ from h1,k2];rfl
  .intro r hr;rcases List.mem_cons.1 hr with rfl|hr
   .exact⟨hs,hs'⟩
   .exact k3 r hr
theorem Xy{w:World}{A:Nat->Prop}:∀{L:List ab.T}{X:List Value},bw (Cs w A ab) L X->∃Ms:List bA,Ms.map bA.d=L.map nS/\X=Ms.flatMap bA.cells/\∀m∈Ms,m.cg w w.heap.size
 |[],X,h=>⟨[],rfl,h,fun r hr=>by cases hr⟩
 |x::L,X,⟨c,r,e,q,t⟩=>by
  obtain⟨Ms,k1,k2,k3⟩:=Xy t;obtain⟨c1,r1,rfl,h1,q1⟩:=iZ q;obtain⟨c2,r2,rfl,h2,q2⟩:=iZ q1;obtain⟨c3,r3,rfl,h3,q3⟩:=iZ q2;obtain⟨c4,r4,rfl,h4,q4⟩:=iZ q3;obtain⟨c5,r5,rfl,h5,q5⟩:=iZ q4;obtain⟨V4,rfl,h4⟩:=vt h4;obtain⟨V5,rfl,h5⟩:=vt h5;obtain⟨a,cap,X4,rfl,f4,s4⟩:=vC h4;obtain⟨a',cap',X5,rfl,f5,s5⟩:=vC h5;obtain⟨Rs,rk,rfl,rok⟩:=WQ f4;obtain⟨Ws,wk,rfl,wok⟩:=VX f5;have l4:x.2.2.2.1.length=Rs.length:=J4 rk;have l5:x.2.2.2.2.1.length=Ws.length:=J4 wk;have l4':List.length x.2.2.2.1=Rs.length:=l4;refine⟨⟨x.1,x.2.1,x.2.2.1,a,cap,Rs,a',cap',Ws⟩::Ms,?_,?_,?_⟩
  .simp only[List.map_cons,k1,bA.d,rk,wk];rfl
  .rw[e,yk q5,show c1=_ from h1,show c2=_ from h2,show c3=_ from h3,k2];show[_,_,_,Value.slice a (List.length x.2.2.2.1) cap,Value.slice a' (List.length x.2.2.2.2.1) cap']++_=_;rw[l4,l5];rfl
  .intro m hm;rcases List.mem_cons.1 hm with rfl|hm
   .exact⟨by rw[<-l4];exact s4,rok,by rw[<-l5];exact s5,wok⟩
   .exact k3 m hm
theorem ahH{w:World}{A:Nat->Prop}{d:ca.T}{V:Value}(h:ju w A ca d V):∃N:bP,N.v=V/\N.d=js d/\N.cg w w.heap.size:=by
 obtain⟨h,hagg⟩:=h;obtain⟨c1,r1,e1,h1,q1⟩:=iZ h;obtain⟨c2,r2,rfl,h2,q2⟩:=iZ q1;obtain⟨c3,r3,rfl,h3,q3⟩:=iZ q2;obtain⟨c4,r4,rfl,h4,q4⟩:=iZ q3;obtain⟨c5,r5,rfl,h5,q5⟩:=iZ q4;obtain⟨c6,r6,rfl,h6,q6⟩:=iZ q5;obtain⟨c7,r7,rfl,h7,q7⟩:=iZ q6;obtain⟨c8,r8,rfl,h8,q8⟩:=iZ q7;obtain⟨a2,p2,rfl,s2⟩:=rG h2;obtain⟨a3,p3,rfl,s3⟩:=XC h3;obtain⟨a4,p4,rfl,s4⟩:=rG h4;obtain⟨a5,p5,rfl,s5⟩:=rG h5;obtain⟨a6,p6,rfl,s6⟩:=rG h6;obtain⟨V7,rfl,h7⟩:=vt h7;obtain⟨a7,p7,X7,rfl,f7,s7⟩:=vC h7;obtain⟨Ms,k1,rfl,k3⟩:=Xy f7;obtain⟨a8,p8,rfl,s8⟩:=agd h8;have l7:List.length d.2.2.2.2.2.2.1=Ms.length:=J4 k1;refine⟨⟨d.1,a2,p2,d.2.1,a3,p3,d.2.2.1.map mq,a4,p4,d.2.2.2.1,a5,p5,d.2.2.2.2.1,a6,p6,d.2.2.2.2.2.1,a7,p7,Ms,a8,p8,d.2.2.2.2.2.2.2.1.map nR⟩,?_,?_,?_⟩
 .cases V with|agg cs=>have e1':cs.toList=c1++_:=e1;rw[yk q8,show c1=_ from h1,l7]at e1';show Value.agg _=Value.agg cs;congr 1;apply Array.toList_inj.1;rw[e1'];rfl|_=>cases hagg
 .simp only[bP.d,k1];rfl
 .exact⟨s2,s3,s4,s5,s6,by rw[<-l7];exact s7,k3,s8⟩
instance i64Dec(x:Int):Decidable (cS x):=inferInstanceAs (Decidable (_/\_))
instance memFitDec(m:aV):Decidable (Bp m):=decidable_of_iff
 ((cS m.word/\m.word<=4000)/\cS m.addr/\m.reads.length<=100/\m.writes.length<=100/\(∀r∈m.reads,r.addr.length<=4000/\-1099511627776<=r.var/\r.var<=1099511627776/\∀x∈r.addr,cS x) /\
  ∀r∈m.writes,r.addr.length<=4000/\r.data.length<=4000/\cS r.on/\(∀x∈r.addr,cS x)/\∀x∈r.data,cS x)
 ⟨fun⟨a,b,c,d,e,f⟩=>⟨a,b,c,d,e,f⟩,fun⟨a,b,c,d,e,f⟩=>⟨a,b,c,d,e,f⟩⟩
instance fitDec(n:aB):Decidable (Fit n):=decidable_of_iff
 (cS n.vars/\(n.aL.length<=4000/\∀x∈n.aL,cS x)/\(n.aj.length<=4000/\∀l∈n.aj,cS l.var/\cS l.next/\cS l.init)/\(n.bz.length<=4000/\∀x∈n.bz,cS x) /\
  (n.bc.length<=4000/\∀x∈n.bc,cS x)/\(n.constraints.length<=4000/\∀x∈n.constraints,cS x)/\(n.aa.length<=100/\∀m∈n.aa,Bp m)/\(n.aC.length<=4000/\∀a∈n.aC,cS a.var/\cS a.a/\cS a.b))
 ⟨fun⟨a,b,c,d,e,f,g,h⟩=>⟨a,b,c,d,e,f,g,h⟩,fun⟨a,b,c,d,e,f,g,h⟩=>⟨a,b,c,d,e,f,g,h⟩⟩
def Of(n:aB):Bool:=decide (Fit n)
theorem agp{n:aB}(h:Of n=true):Fit n:=of_decide_eq_true h
theorem Bi{n:aB}(h:Fit n):Of n=true:=bG h
def mC:TL [ca]->Option (TL [.int .i64]):=fun d=>match Of (js d.1)with|true=>some (dv (js d.1),())|false=>none
theorem Zwd{f:FuncId}{fn:Func}{c:Code}(h1:Tryz.prog.funcs[f]?=some fn)(h2:(fn.name == "runtime.NumGoroutine")=false)(h3:fn.body=some c)
  (h:∀(N:bP) (w:World),N.cg w w.heap.size->Fit N.d->Calls Tryz.prog f #[N.v] w fun e w'=>e=.returned (.int .i64 (dv N.d))/\Below w.heap.size w w'):Comes Tryz.prog f [ca] [.int .i64] mC:=by
 refine⟨⟨fn,c,h1,h2,h3⟩,?_⟩;intro d x hx w A args hA ha;unfold mC at hx;split at hx<;>cases hx;rename_i hf;obtain⟨V,r,rfl,hd,hr⟩:=ha;have:r=[]:=hr;subst this;obtain⟨N,rfl,hN,hok⟩:=ahH hd;have hf:=agp hf;rw[<-hN]at hf;refine(h N w hok hf).mono ?_;rintro e w' ⟨rfl,hb⟩;exact⟨[.int .i64 (dv N.d)],rfl,hb,_,[],rfl,⟨by rw[hN];rfl,rfl⟩,rfl⟩
theorem Zwv:Comes Tryz.prog 193 [ca] [.int .i64] mC:=Zwd (fn:=Tryz.f193) (c:=bh Tryz.f193) Tryz.func193 (by kernel_rfl) (by kernel_rfl) aiT
theorem Zct:Comes Tryz.prog 85 [ca] [.int .i64] mC:=Zwd (fn:=Tryz.f85) (c:=bh Tryz.f85) Tryz.func85 (by kernel_rfl) (by kernel_rfl) aiU
def tM:=mC
abbrev ano:=TL [ca]->Option (TL [.int .i64])
abbrev aaV:=Kd 193 [ca] [.int .i64]
def anp:aaV:=⟨mC,Zwv⟩
abbrev Z4:=TL [ca]->Option (TL [.int .i64])
abbrev MB:=Kd 85 [ca] [.int .i64]
def Z5:MB:=⟨tM,Zct⟩
set_option maxRecDepth 1000000
abbrev Zsr:List Sh:=[(.int .i64)]
abbrev Qb:List Sh:=[(.int .i64)]
abbrev qT:=TL Zsr->Option (TL Qb)
abbrev pE:=Kd 101 Zsr Qb
def Ql(a0:Int):Option (TL Qb):=some ((Int.fdiv a0 (HPow.hPow (2:Int) (Min.min (Int.toNat (1:Int)) 64))),())
def anC  :pE:=⟨u1 Ql,pD Tryz.func101 5 k0 e0 1 (sS l0) fun d=>by kernel_rfl⟩
def qU:pE:=anC
def oW:qT:=qU.F
abbrev PM:Lay:={ T:=[(1,.int .i64),(2,.ptr 0 0),(4,.hd 1 (.int .i64)),(16,.int .i64),(17,.int .i64)],h:=[(0,.cells [.int .i64,.int .i64,.bool,.fz bg,.fz aH] 116),(1,.arr (.int .i64) 3)],nx:=2 }
abbrev PI:List (Ev.Ex×Lay):=[((.exit 0),{ T:=[(4,.hd 0 (.int .i64))],h:=[(0,.arr (.int .i64) 3)],nx:=1 })]
abbrev aaW:=TL PM.σs->Option (Out PI)
abbrev aaX:=Ld 0 33 (bI [0] (bh Tryz.f139)) PM PI
def FA(t1 t16 t17 aw aG:Int)(aT:Bool)(aP:List (Sh.T bg))(aW:List (Sh.T aH))(b1:List Int):Option (TL PM.σs⊕Out PI):=
 br (iL t17 t16)
 (
  ai (av t1 (List.length aP))<|
  ai (room 8 (List.length (ap b1 ((IntKind.wrap .i64 (@HAdd.hAdd (Int) (Int) (Int) _ (gt bg aP t1).1 t17))::[]))))<|
  some (.inl (t1,(t16,((IntKind.wrap .i64 (t17+(1:Int))),(aw,(aG,(aT,(aP,(aW,((ap b1 ((IntKind.wrap .i64 (@HAdd.hAdd (Int) (Int) (Int) _ (gt bg aP t1).1 t17))::[])),())))))))))))
 (
  some (.inr (b1,())))
def anq  :aaX:=bN (u9 FA) (pL k0 e0 1 l0 fun d=>by kernel_rfl)
def PU:aaW:=aX (u9 FA) NN
abbrev Zsq:List Sh:=[ab,(.int .i64)]
abbrev Qa:List Sh:=[(.sl (.int .i64))]
abbrev NT:=TL Zsq->Option (TL Qa)
abbrev Ds:=Kd 139 Zsq Qa
def Qk(L4:aaW)(a0:Sh.T ab)(a1:Int):Option (TL Qa):=
 br (iL a1 (0:Int))
 (
  some ([],()))
 (
  br (bn false true (iE (Int.ofNat (List.length a0.2.2.2.1)) a1))
  (
   some ([],()))
  (
   ao (L4 (a1,(a0.2.1,((0:Int),(a0.1,(a0.2.1,(a0.2.2.1,(a0.2.2.2.1,(a0.2.2.2.2.1,([],())))))))))) fun x0=>
   some (x0.1,())))
def anB(M4:aaX):Ds:=⟨u2 (Qk M4.L),pD Tryz.func139 33 k0 e0 1 (sS (sC M4 l0)) fun d=>by kernel_rfl⟩
def NU:Ds:=anB  anq
def xV:NT:=NU.F
abbrev j5:List (Nat×LO):=[(0,.cells [.int .i64,.fz (.int .i64),.fz ae,.fz (.int .i64),.fz (.int .i64),.fz (.int .i64),.fz ab,.fz ae,.hd 1 (.int .i64),.hd 2 aq,.hd 3 (.int .u8),.hd 4 (.int .i64)] 224),(1,.arr (.int .i64) 3),(2,.arr aq 148),(3,.arr (.int .u8) 5),(4,.arr (.int .i64) 3)]
abbrev DO:List (Nat×LO):=[(0,.cells jf 27),(1,.cells [.int .i64,.fz (.int .i64),.fz ae,.fz (.int .i64),.fz (.int .i64),.fz (.int .i64),.fz ab,.fz ae,.hd 2 (.int .i64),.hd 3 aq,.hd 4 (.int .u8),.hd 5 (.int .i64)] 224),(2,.arr (.int .i64) 3),(3,.arr aq 148),(4,.arr (.int .u8) 5),(5,.arr (.int .i64) 3)]
abbrev DP:List (Nat×LO):=[(0,.cells [.fz (.int .i64)] 22),(1,.cells [.ptr 2 0] 198),(2,.cells [.int .i64,.fz (.int .i64),.fz ae,.fz (.int .i64),.fz (.int .i64),.fz (.int .i64),.fz ab,.fz ae,.hd 3 (.int .i64),.hd 4 aq,.hd 5 (.int .u8),.hd 6 (.int .i64)] 224),(3,.arr (.int .i64) 3),(4,.arr aq 148),(5,.arr (.int .u8) 5),(6,.arr (.int .i64) 3)]
abbrev Ov:List (Nat×LO):=[(0,.cells [.int .i64,.fz (.int .i64),.fz ae,.fz (.int .i64),.fz (.int .i64),.fz (.int .i64),.fz ab,.fz ae,.hd 1 (.int .i64),.hd 2 aq,.hd 3 (.int .u8),.hd 4 (.int .i64)] 224),(1,.arr (.int .i64) 3),(2,.arr aq 148),(3,.arr (.int .u8) 5),(4,.arr (.int .i64) 3),(5,.cells [.ptr 0 0] 198),(6,.cells [.fz (.int .i64)] 22)]
abbrev abQ:Lay:={ T:=[(3,.ptr 0 0),(77,.hd 2 aq),(78,.int .i64),(79,.int .i64)],h:=j5,nx:=5 }
abbrev abR:Lay:={ T:=[(1,.ptr 0 0),(3,.ptr 1 0),(46,.int .i64),(47,.int .i64)],h:=DO,nx:=6 }
abbrev abS:Lay:={ T:=[(0,.ptr 0 0),(1,.agg [.bool,.int .i64,.int .i64])],h:=j5,nx:=5 }
abbrev Zb1:Lay:=abS
abbrev OE:List (Ev.Ex×Lay):=[(.ret,{ T:=[(0,.fz (.int .i64))],h:=j5,nx:=5 })]
abbrev aab:=TL Zb1.σs->Option (Out OE)
abbrev MK:=Kb 240 2 Zb1 1 OE
def PC(fW:Bool)(fT iX aw:Int)(aG:List Int)(aT:List (Sh.T ae))(aP aW ba:List Int)(aD:List (Sh.T ab))(aM:List (Sh.T ae))(b1:List Int)(b2:List (Sh.T aq))(b3 b4:List Int):Option (Out OE):=
 br fW
 (
  ai (av fT (List.length aD))<|
  ai (av iX (List.length (gt ab aD fT).2.2.2.1))<|
  some ((gt bg (gt ab aD fT).2.2.2.1 iX).2.1,(aw,(aG,(aT,(aP,(aW,(ba,(aD,(aM,(b1,(b2,(b3,(b4,()))))))))))))))
 (
  ai (av iX (List.length aM))<|
  some (((gt ae aM iX).2.1::((gt ae aM iX).2.2.1::[])),(aw,(aG,(aT,(aP,(aW,(ba,(aD,(aM,(b1,(b2,(b3,(b4,()))))))))))))))
def amx  :MK:=⟨fB PC,pB Tryz.func240 37 k0 e0 1 (sS l0) fun d=>by kernel_rfl⟩
def aac:MK:=amx
def Zck:aab:=aac.F
abbrev Za9:Lay:=abS
abbrev OB:List (Ev.Ex×Lay):=[(.ret,{ T:=[(0,.fz (.int .i64))],h:=j5,nx:=5 })]
abbrev wG:=TL Za9.σs->Option (Out OB)
abbrev sR:=Kb 148 2 Za9 1 OB
def xM(F0:NT)(fW:Bool)(fT iX aw:Int)(aG:List Int)(aT:List (Sh.T ae))(aP aW ba:List Int)(aD:List (Sh.T ab))(aM:List (Sh.T ae))(b1:List Int)(b2:List (Sh.T aq))(b3 b4:List Int):Option (Out OB):=
 br fW
 (
  ai (av fT (List.length aD))<|
  ao (F0 (((gt ab aD fT).1,((gt ab aD fT).2.1,((gt ab aD fT).2.2.1,((gt ab aD fT).2.2.2.1,((gt ab aD fT).2.2.2.2.1,()))))),(iX,()))) fun x0=>
  some (x0.1,(aw,(aG,(aT,(aP,(aW,(ba,(aD,(aM,(b1,(b2,(b3,(b4,()))))))))))))))
 (
  ai (av iX (List.length aM))<|
  some (((gt ae aM iX).1::[]),(aw,(aG,(aT,(aP,(aW,(ba,(aD,(aM,(b1,(b2,(b3,(b4,()))))))))))))))
def amJ(c0:Ds) :sR:=⟨fB (xM c0.F),pB Tryz.func148 30 (kD c0 k0) e0 1 (sS l0) fun d=>by kernel_rfl⟩
def wH:sR:=amJ NU
def xz:wG:=wH.F
abbrev Zaq:Lay:={ T:=[(0,.int .u8),(1,.ptr 0 0),(2,.ptr 1 0)],h:=DP,nx:=7 }
abbrev OC:List (Ev.Ex×Lay):=[(.ret,{ T:=[],h:=DP,nx:=7 })]
abbrev ZJ:=TL Zaq.σs->Option (Out OC)
abbrev Ml:=Kb 256 3 Zaq 0 OC
abbrev OL:Lay:={ T:=[(0,.int .u8),(2,.ptr 1 0),(6,.fz (.int .i64)),(7,.int .i64),(8,.int .i64)],h:=DP,nx:=7 }
abbrev OJ:List (Ev.Ex×Lay):=[((.exit 0),{ T:=[],h:=DP,nx:=7 })]
abbrev Zy:=TL OL.σs->Option (Out OJ)
abbrev Zz:=Ld 7 20 (bI [0] (bh Tryz.f256)) OL OJ
def EP(t0:Int)(t6:List Int)(t7 t8:Int)(aw:List Int)(cP:Int)(cU:List Int)(cV:List (Sh.T ae))(cW cX cY:List Int)(cZ:List (Sh.T ab))(db:List (Sh.T ae))(b3:List Int)(b4:List (Sh.T aq))(b5 b6:List Int):Option (TL OL.σs⊕Out OJ):=
 br (iL t8 t7)
 (
  ai (av t8 (List.length t6))<|
  ai (av (gt (.int .i64) t6 t8) (List.length b5))<|
  some (.inl (t0,(t6,(t7,((IntKind.wrap .i64 (t8+(1:Int))),(aw,(cP,(cU,(cV,(cW,(cX,(cY,(cZ,(db,(b3,(b4,((List.set b5 (Int.toNat (gt (.int .i64) t6 t8)) t0),(b6,())))))))))))))))))))
 (
  some (.inr (aw,(cP,(cU,(cV,(cW,(cX,(cY,(cZ,(db,(b3,(b4,(b5,(b6,())))))))))))))))
def alQ  :Zz:=bN (ka EP) (pL k0 e0 1 l0 fun d=>by kernel_rfl)
def O0:Zy:=aX (ka EP) NN
def Pe(L1:Zy)(t0:Int)(aw:List Int)(cP:Int)(cU:List Int)(cV:List (Sh.T ae))(cW cX cY:List Int)(cZ:List (Sh.T ab))(db:List (Sh.T ae))(b3:List Int)(b4:List (Sh.T aq))(b5 b6:List Int):Option (Out OC):=
 ao (L1 (t0,(aw,((Int.ofNat (List.length aw)),((0:Int),(aw,(cP,(cU,(cV,(cW,(cX,(cY,(cZ,(db,(b3,(b4,(b5,(b6,())))))))))))))))))) fun x0=>
 some x0
def al1(M1:Zz):Ml:=⟨i7 (Pe M1.L),pB Tryz.func256 20 k0 e0 1 (sS (sC M1 l0)) fun d=>by kernel_rfl⟩
def ZK:Ml:=al1  alQ
def Zbg:ZJ:=ZK.F
abbrev OA:Lay:={ T:=[(0,.ptr 0 0),(1,.int .i64)],h:=j5,nx:=5 }
abbrev DZ:List (Ev.Ex×Lay):=[(.ret,{ T:=[(0,.bool)],h:=j5,nx:=5 })]
abbrev pC:=TL OA.σs->Option (Out DZ)
abbrev oK:=Kb 226 2 OA 1 DZ
abbrev ON:Lay:={ T:=[(2,.ptr 5 0),(7,.func 256 [] [.ptr 6 0,.ptr 5 0]),(8,.int .i64),(86,.fz (.int .i64)),(87,.int .i64),(88,.int .i64)],h:=Ov,nx:=7 }
abbrev OK:List (Ev.Ex×Lay):=[((.exit 3),{ T:=[(7,.func 256 [] [.ptr 5 0,.ptr 6 0])],h:=[(0,.cells [.int .i64,.fz (.int .i64),.fz ae,.fz (.int .i64),.fz (.int .i64),.fz (.int .i64),.fz ab,.fz ae,.hd 1 (.int .i64),.hd 2 aq,.hd 3 (.int .u8),.hd 4 (.int .i64)] 224),(1,.arr (.int .i64) 3),(2,.arr aq 148),(3,.arr (.int .u8) 5),(4,.arr (.int .i64) 3),(5,.cells [.fz (.int .i64)] 22),(6,.cells [.ptr 0 0] 198)],nx:=7 })]
abbrev ZH:=TL ON.σs->Option (Out OK)
abbrev Mi:=Ld 5 103 (bI [1] (bh Tryz.f226)) ON OK
abbrev Er:Lay:={ T:=[(2,.ptr 5 0),(6,.ptr 6 0),(7,.func 256 [] [.ptr 6 0,.ptr 5 0]),(8,.int .i64),(64,.fz (.int .i64)),(65,.int .i64),(66,.int .i64)],h:=Ov,nx:=7 }
abbrev Ei:List (Ev.Ex×Lay):=[(.ret,{ T:=[(4,.bool)],h:=j5,nx:=5 }),((.exit 1),{ T:=[(2,.ptr 5 0),(6,.ptr 6 0),(7,.func 256 [] [.ptr 6 0,.ptr 5 0]),(8,.int .i64)],h:=Ov,nx:=7 })]
abbrev ZI:=TL Er.σs->Option (Out Ei)
abbrev Mj:=Ld 5 103 (bI [0] (bh Tryz.f226)) Er Ei
def PK(F0:qT)(F1:pC)(t8:Int)(t64:List Int)(t65 t66 aw:Int)(aG:List Int)(aT:List (Sh.T ae))(aP aW ba:List Int)(aD:List (Sh.T ab))(aM:List (Sh.T ae))(b1:List Int)(b2:List (Sh.T aq))(b3 b4 na:List Int):Option (TL Er.σs⊕Out Ei):=
 br (iL t66 t65)
 (
  ai (av t66 (List.length t64))<|
  ao (F0 ((gt (.int .i64) t64 t66),())) fun x0=>
  ao (F1 (x0.1,(aw,(aG,(aT,(aP,(aW,(ba,(aD,(aM,(b1,(b2,(b3,(b4,())))))))))))))) fun x1=>
  br (Bool.not x1.1)
  (
   some (.inr (.inl (false,x1.2))))
  (
   ai (av x0.1 (List.length x1.2.2.2.2.2.2.2.2.2.2.2.2.1))<|
   some (.inl ((du (iL t8 (gt (.int .i64) x1.2.2.2.2.2.2.2.2.2.2.2.2.1 x0.1)) (gt (.int .i64) x1.2.2.2.2.2.2.2.2.2.2.2.2.1 x0.1) t8),(t64,(t65,((IntKind.wrap .i64 (t66+(1:Int))),(x1.2.1,(x1.2.2.1,(x1.2.2.2.1,(x1.2.2.2.2.1,(x1.2.2.2.2.2.1,(x1.2.2.2.2.2.2.1,(x1.2.2.2.2.2.2.2.1,(x1.2.2.2.2.2.2.2.2.1,(x1.2.2.2.2.2.2.2.2.2.1,(x1.2.2.2.2.2.2.2.2.2.2.1,(x1.2.2.2.2.2.2.2.2.2.2.2.1,(x1.2.2.2.2.2.2.2.2.2.2.2.2.1,(na,()))))))))))))))))))))
 (
  some (.inr (.inr (t8,(aw,(aG,(aT,(aP,(aW,(ba,(aD,(aM,(b1,(b2,(b3,(b4,(na,())))))))))))))))))
def al0(c0:pE)(c1:oK) :Mj:=bN (ka (PK c0.F c1.F)) (pL (kD c0 (kB c1 k0)) e0 1 l0 fun d=>by kernel_rfl)
def alY(s:oK):Mj:=al0 qU s
def O3(F:pC):ZI:=aX (fun d=>PK oW F  d.1 d.2.1 d.2.2.1 d.2.2.2.1 d.2.2.2.2.1 d.2.2.2.2.2.1 d.2.2.2.2.2.2.1 d.2.2.2.2.2.2.2.1 d.2.2.2.2.2.2.2.2.1 d.2.2.2.2.2.2.2.2.2.1 d.2.2.2.2.2.2.2.2.2.2.1 d.2.2.2.2.2.2.2.2.2.2.2.1 d.2.2.2.2.2.2.2.2.2.2.2.2.1 d.2.2.2.2.2.2.2.2.2.2.2.2.2.1 d.2.2.2.2.2.2.2.2.2.2.2.2.2.2.1 d.2.2.2.2.2.2.2.2.2.2.2.2.2.2.2.1 d.2.2.2.2.2.2.2.2.2.2.2.2.2.2.2.2.1) NN
def EV(t8:Int)(t86:List Int)(t87 t88 aw:Int)(aG:List Int)(aT:List (Sh.T ae))(aP aW ba:List Int)(aD:List (Sh.T ab))(aM:List (Sh.T ae))(b1:List Int)(b2:List (Sh.T aq))(b3 b4 na:List Int):Option (TL ON.σs⊕Out OK):=
 br (iL t88 t87)
 (
  ai (av t88 (List.length t86))<|
  ai (av (gt (.int .i64) t86 t88) (List.length b4))<|
  some (.inl (t8,(t86,(t87,((IntKind.wrap .i64 (t88+(1:Int))),(aw,(aG,(aT,(aP,(aW,(ba,(aD,(aM,(b1,(b2,(b3,((List.set b4 (Int.toNat (gt (.int .i64) t86 t88)) (IntKind.wrap .i64 (t8+(1:Int)))),(na,())))))))))))))))))))
 (
  some (.inr (aw,(aG,(aT,(aP,(aW,(ba,(aD,(aM,(b1,(b2,(b3,(b4,(na,())))))))))))))))
def alZ  :Mi:=bN (ka EV) (pL k0 e0 1 l0 fun d=>by kernel_rfl)
def alX(s:oK):Mi:=alZ
def O2(F:pC):ZH:=aX (fun d=>EV   d.1 d.2.1 d.2.2.1 d.2.2.2.1 d.2.2.2.2.1 d.2.2.2.2.2.1 d.2.2.2.2.2.2.1 d.2.2.2.2.2.2.2.1 d.2.2.2.2.2.2.2.2.1 d.2.2.2.2.2.2.2.2.2.1 d.2.2.2.2.2.2.2.2.2.2.1 d.2.2.2.2.2.2.2.2.2.2.2.1 d.2.2.2.2.2.2.2.2.2.2.2.2.1 d.2.2.2.2.2.2.2.2.2.2.2.2.2.1 d.2.2.2.2.2.2.2.2.2.2.2.2.2.2.1 d.2.2.2.2.2.2.2.2.2.2.2.2.2.2.2.1 d.2.2.2.2.2.2.2.2.2.2.2.2.2.2.2.2.1) NN
def Pz(F0:qT)(F1:pC)(F2:aab)(F3:ZJ)(F4:wG)(L11:ZI)(L19:ZH)(t1 aw:Int)(aG:List Int)(aT:List (Sh.T ae))(aP aW ba:List Int)(aD:List (Sh.T ab))(aM:List (Sh.T ae))(b1:List Int)(b2:List (Sh.T aq))(b3 b4:List Int):Option (Out DZ):=
 ai (av t1 (List.length b1))<|
 br (iQ (gt (.int .i64) b1 t1) (0:Int))
 (
  some (true,(aw,(aG,(aT,(aP,(aW,(ba,(aD,(aM,(b1,(b2,(b3,(b4,()))))))))))))))
 (
  ai (av t1 (List.length b3))<|
  br (bn false true (iQ (gt (.int .u8) b3 t1) (2:Int)))
  (
   some (true,(aw,(aG,(aT,(aP,(aW,(ba,(aD,(aM,(b1,(b2,(b3,(b4,()))))))))))))))
  (
   ai (av t1 (List.length b3))<|
   br (iQ (gt (.int .u8) b3 t1) (1:Int))
   (
    some (false,(aw,(aG,(aT,(aP,(aW,(ba,(aD,(aM,(b1,(b2,(b3,(b4,()))))))))))))))
   (
    ai (av t1 (List.length b1))<|
    ai (av (IntKind.wrap .i64 (@HSub.hSub (Int) (Int) (Int) _ (gt (.int .i64) b1 t1) (1:Int))) (List.length b2))<|
    ao (F4 ((gt aq b2 (IntKind.wrap .i64 (@HSub.hSub (Int) (Int) (Int) _ (gt (.int .i64) b1 t1) (1:Int)))).1,((gt aq b2 (IntKind.wrap .i64 (@HSub.hSub (Int) (Int) (Int) _ (gt (.int .i64) b1 t1) (1:Int)))).2.1,((gt aq b2 (IntKind.wrap .i64 (@HSub.hSub (Int) (Int) (Int) _ (gt (.int .i64) b1 t1) (1:Int)))).2.2.1,(aw,(aG,(aT,(aP,(aW,(ba,(aD,(aM,(b1,(b2,(b3,(b4,())))))))))))))))) fun x0=>
    ao (F3 ((1:Int),x0)) fun x1=>
    ao (F2 ((gt aq b2 (IntKind.wrap .i64 (@HSub.hSub (Int) (Int) (Int) _ (gt (.int .i64) b1 t1) (1:Int)))).1,((gt aq b2 (IntKind.wrap .i64 (@HSub.hSub (Int) (Int) (Int) _ (gt (.int .i64) b1 t1) (1:Int)))).2.1,((gt aq b2 (IntKind.wrap .i64 (@HSub.hSub (Int) (Int) (Int) _ (gt (.int .i64) b1 t1) (1:Int)))).2.2.1,x1.2)))) fun x2=>
    ao (L11 ((0:Int),(x2.1,((Int.ofNat (List.length x2.1)),((0:Int),(x2.2.1,(x2.2.2.1,(x2.2.2.2.1,(x2.2.2.2.2.1,(x2.2.2.2.2.2.1,(x2.2.2.2.2.2.2.1,(x2.2.2.2.2.2.2.2.1,(x2.2.2.2.2.2.2.2.2.1,(x2.2.2.2.2.2.2.2.2.2.1,(x2.2.2.2.2.2.2.2.2.2.2.1,(x2.2.2.2.2.2.2.2.2.2.2.2.1,(x2.2.2.2.2.2.2.2.2.2.2.2.2.1,(x1.1,())))))))))))))))))) fun x3=>
    (match x3 with
    |.inl x4=>some x4|.inr x4=>
     ao (L19 (x4.1,(x4.2.2.2.2.2.2.2.2.2.2.2.2.2.1,((Int.ofNat (List.length x4.2.2.2.2.2.2.2.2.2.2.2.2.2.1)),((0:Int),x4.2))))) fun x5=>
     ao (F3 ((2:Int),(x5.2.2.2.2.2.2.2.2.2.2.2.2.1,(x5.1,(x5.2.1,(x5.2.2.1,(x5.2.2.2.1,(x5.2.2.2.2.1,(x5.2.2.2.2.2.1,(x5.2.2.2.2.2.2.1,(x5.2.2.2.2.2.2.2.1,(x5.2.2.2.2.2.2.2.2.1,(x5.2.2.2.2.2.2.2.2.2.1,(x5.2.2.2.2.2.2.2.2.2.2.1,(x5.2.2.2.2.2.2.2.2.2.2.2.1,()))))))))))))))) fun x6=>
     some (true,x6.2)
    ))))
def amo(c0:pE)(c1:oK)(c2:MK)(c3:Ml)(c4:sR)(M11:Mj)(M19:Mi):oK:=⟨ot (Pz c0.F c1.F c2.F c3.F c4.F M11.L M19.L),pB Tryz.func226 103 (kD c0 (kB c1 (kB c2 (kB c3 (kB c4 k0))))) e0 1 (sS (sC M11 (sC M19 l0))) fun d=>by kernel_rfl⟩
def wB:Nat->oK
 |0=>mk0 Tryz.func226 (by kernel_rfl) (by kernel_rfl)|k+1=>amo qU (wB k) aac ZK wH (alY (wB k)) (alX (wB k))
def tN(k:Nat):pC:=(wB k).F
def MC:oK:=wB NN
def OW:pC:=MC.F
abbrev Zdy:Lay:={ T:=[(0,.ptr 0 0)],h:=j5,nx:=5 }
abbrev OX:List (Ev.Ex×Lay):=[(.ret,{ T:=[(0,.bool)],h:=j5,nx:=5 })]
abbrev aae:=TL Zdy.σs->Option (Out OX)
abbrev MQ:=Kb 195 1 Zdy 1 OX
abbrev OY:Lay:={ T:=[(3,.func 226 [.ptr 0 0] []),(11,.int .i64),(12,.int .i64)],h:=j5,nx:=5 }
abbrev EJ:List (Ev.Ex×Lay):=[(.ret,{ T:=[(2,.bool)],h:=j5,nx:=5 }),((.exit 0),{ T:=[],h:=j5,nx:=5 })]
abbrev aad:=TL OY.σs->Option (Out EJ)
abbrev ML:=Ld 5 20 (bI [0] (bh Tryz.f195)) OY EJ
def PQ(F0:pC)(t11 t12 aw:Int)(aG:List Int)(aT:List (Sh.T ae))(aP aW ba:List Int)(aD:List (Sh.T ab))(aM:List (Sh.T ae))(b1:List Int)(b2:List (Sh.T aq))(b3 b4:List Int):Option (TL OY.σs⊕Out EJ):=
 br (iL t12 t11)
 (
  ao (F0 (t12,(aw,(aG,(aT,(aP,(aW,(ba,(aD,(aM,(b1,(b2,(b3,(b4,())))))))))))))) fun x0=>
  br (Bool.not x0.1)
  (
   some (.inr (.inl (false,x0.2))))
  (
   some (.inl (t11,((IntKind.wrap .i64 (t12+(1:Int))),x0.2)))))
 (
  some (.inr (.inr (aw,(aG,(aT,(aP,(aW,(ba,(aD,(aM,(b1,(b2,(b3,(b4,())))))))))))))))
def amz(c0:oK) :ML:=bN (i7 (PQ c0.F)) (pL (kB c0 k0) e0 1 l0 fun d=>by kernel_rfl)
def amy:ML:=amz MC
def Zhi:aad:=aX (i7 (PQ OW)) NN
def Zm5(F0:pC)(L3:aad)(aw:Int)(aG:List Int)(aT:List (Sh.T ae))(aP aW ba:List Int)(aD:List (Sh.T ab))(aM:List (Sh.T ae))(b1:List Int)(b2:List (Sh.T aq))(b3 b4:List Int):Option (Out OX):=
 ao (L3 ((Int.ofNat (List.length b1)),((0:Int),(aw,(aG,(aT,(aP,(aW,(ba,(aD,(aM,(b1,(b2,(b3,(b4,()))))))))))))))) fun x0=>
 (match x0 with|.inl x1=>some x1|.inr x1=>some (true,x1)
 )
def amD(c0:oK)(M3:ML):MQ:=⟨mO (Zm5 c0.F M3.L),pB Tryz.func195 20 (kB c0 k0) e0 1 (sS (sC M3 l0)) fun d=>by kernel_rfl⟩
def aaf:MQ:=amD MC amy
def Zhj:aae:=aaf.F
abbrev Zjf:Lay:={ T:=[(0,.agg jf)],h:=[],nx:=0 }
abbrev PD:List (Ev.Ex×Lay):=[(.ret,{ T:=[(0,.ptr 0 0)],h:=j5,nx:=5 })]
abbrev aaR:=TL Zjf.σs->Option (Out PD)
abbrev NF:=Kb 194 1 Zjf 1 PD
abbrev Ps:Lay:=abQ
abbrev Pf:List (Ev.Ex×Lay):=[((.exit 6),{ T:=[(3,.ptr 0 0)],h:=j5,nx:=5 })]
abbrev aay:=TL Ps.σs->Option (Out Pf)
abbrev Nn:=Ld 0 103 (bI [2] (bh Tryz.f194)) Ps Pf
abbrev O9:Lay:={ T:=[(3,.ptr 0 0),(7,.int .i64),(77,.hd 2 aq),(78,.int .i64),(79,.int .i64),(86,.fz (.int .i64)),(87,.int .i64),(88,.int .i64)],h:=j5,nx:=5 }
abbrev O4:List (Ev.Ex×Lay):=[((.exit 8),abQ)]
abbrev Nj:=TL O9.σs->Option (Out O4)
abbrev Nl:=Ld 0 103 (bI [2,0] (bh Tryz.f194)) O9 O4
abbrev PF:Lay:=abR
abbrev Pq:List (Ev.Ex×Lay):=[((.exit 2),{ T:=[(3,.ptr 0 0)],h:=j5,nx:=5 })]
abbrev aaH:=TL PF.σs->Option (Out Pq)
abbrev Nz:=Ld 0 103 (bI [1] (bh Tryz.f194)) PF Pq
abbrev Pa:Lay:={ T:=[(1,.ptr 0 0),(3,.ptr 1 0),(5,.int .i64),(46,.int .i64),(47,.int .i64),(56,.int .i64),(57,.int .i64)],h:=DO,nx:=6 }
abbrev O5:List (Ev.Ex×Lay):=[((.exit 4),abR)]
abbrev Nk:=TL Pa.σs->Option (Out O5)
abbrev Np:=Ld 0 103 (bI [1,0] (bh Tryz.f194)) Pa O5
abbrev PG:Lay:={ T:=[(1,.ptr 0 0),(3,.ptr 1 0),(28,.int .i64),(29,.int .i64)],h:=DO,nx:=6 }
abbrev Pr:List (Ev.Ex×Lay):=[((.exit 0),{ T:=[(1,.ptr 0 0),(3,.ptr 1 0)],h:=DO,nx:=6 })]
abbrev aaI:=TL PG.σs->Option (Out Pr)
abbrev aaJ:=Ld 0 103 (bI [0] (bh Tryz.f194)) PG Pr
def Fu(t28 t29 aw:Int)(aG:List Int)(aT:List (Sh.T ae))(aP aW ba:List Int)(aD:List (Sh.T ab))(aM:List (Sh.T ae))(ff:Int)(fx:List Int)(ik:List (Sh.T ae))(gU iB mi:List Int)(mj:List (Sh.T ab))(mn:List (Sh.T ae))(b2:List Int)(b3:List (Sh.T aq))(b4 b5:List Int):Option (TL PG.σs⊕Out Pr):=
 br (iL t29 t28)
 (
  ai (room 24 (List.length (ap b3 ((false,((0:Int),(t29,())))::[]))))<|
  some (.inl (t28,((IntKind.wrap .i64 (t29+(1:Int))),(aw,(aG,(aT,(aP,(aW,(ba,(aD,(aM,(ff,(fx,(ik,(gU,(iB,(mi,(mj,(mn,(b2,((ap b3 ((false,((0:Int),(t29,())))::[])),(b4,(b5,()))))))))))))))))))))))))
 (
  some (.inr (aw,(aG,(aT,(aP,(aW,(ba,(aD,(aM,(ff,(fx,(ik,(gU,(iB,(mi,(mj,(mn,(b2,(b3,(b4,(b5,()))))))))))))))))))))))
def am8  :aaJ:=bN (pf Fu) (pL k0 e0 1 l0 fun d=>by kernel_rfl)
def Fl:aaI:=aX (pf Fu) NN
def Fs(t5 t46 t47 t56 t57 aw:Int)(aG:List Int)(aT:List (Sh.T ae))(aP aW ba:List Int)(aD:List (Sh.T ab))(aM:List (Sh.T ae))(ff:Int)(fx:List Int)(ik:List (Sh.T ae))(gU iB mi:List Int)(mj:List (Sh.T ab))(mn:List (Sh.T ae))(b2:List Int)(b3:List (Sh.T aq))(b4 b5:List Int):Option (TL Pa.σs⊕Out O5):=
 br (iL t57 t56)
 (
  ai (room 24 (List.length (ap b3 ((true,(t5,(t57,())))::[]))))<|
  some (.inl (t5,(t46,(t47,(t56,((IntKind.wrap .i64 (t57+(1:Int))),(aw,(aG,(aT,(aP,(aW,(ba,(aD,(aM,(ff,(fx,(ik,(gU,(iB,(mi,(mj,(mn,(b2,((ap b3 ((true,(t5,(t57,())))::[])),(b4,(b5,())))))))))))))))))))))))))))
 (
  some (.inr (t46,(t47,(aw,(aG,(aT,(aP,(aW,(ba,(aD,(aM,(ff,(fx,(ik,(gU,(iB,(mi,(mj,(mn,(b2,(b3,(b4,(b5,()))))))))))))))))))))))))
def aaA  :Np:=bN (fun d=>Fs   d.1 d.2.1 d.2.2.1 d.2.2.2.1 d.2.2.2.2.1 d.2.2.2.2.2.1 d.2.2.2.2.2.2.1 d.2.2.2.2.2.2.2.1 d.2.2.2.2.2.2.2.2.1 d.2.2.2.2.2.2.2.2.2.1 d.2.2.2.2.2.2.2.2.2.2.1 d.2.2.2.2.2.2.2.2.2.2.2.1 d.2.2.2.2.2.2.2.2.2.2.2.2.1 d.2.2.2.2.2.2.2.2.2.2.2.2.2.1 d.2.2.2.2.2.2.2.2.2.2.2.2.2.2.1 d.2.2.2.2.2.2.2.2.2.2.2.2.2.2.2.1 d.2.2.2.2.2.2.2.2.2.2.2.2.2.2.2.2.1 d.2.2.2.2.2.2.2.2.2.2.2.2.2.2.2.2.2.1 d.2.2.2.2.2.2.2.2.2.2.2.2.2.2.2.2.2.2.1 d.2.2.2.2.2.2.2.2.2.2.2.2.2.2.2.2.2.2.2.1 d.2.2.2.2.2.2.2.2.2.2.2.2.2.2.2.2.2.2.2.2.1 d.2.2.2.2.2.2.2.2.2.2.2.2.2.2.2.2.2.2.2.2.2.1 d.2.2.2.2.2.2.2.2.2.2.2.2.2.2.2.2.2.2.2.2.2.2.1 d.2.2.2.2.2.2.2.2.2.2.2.2.2.2.2.2.2.2.2.2.2.2.2.1 d.2.2.2.2.2.2.2.2.2.2.2.2.2.2.2.2.2.2.2.2.2.2.2.2.1) (pL k0 e0 1 l0 fun d=>by kernel_rfl)
def Fe:Nk:=aX (fun d=>Fs   d.1 d.2.1 d.2.2.1 d.2.2.2.1 d.2.2.2.2.1 d.2.2.2.2.2.1 d.2.2.2.2.2.2.1 d.2.2.2.2.2.2.2.1 d.2.2.2.2.2.2.2.2.1 d.2.2.2.2.2.2.2.2.2.1 d.2.2.2.2.2.2.2.2.2.2.1 d.2.2.2.2.2.2.2.2.2.2.2.1 d.2.2.2.2.2.2.2.2.2.2.2.2.1 d.2.2.2.2.2.2.2.2.2.2.2.2.2.1 d.2.2.2.2.2.2.2.2.2.2.2.2.2.2.1 d.2.2.2.2.2.2.2.2.2.2.2.2.2.2.2.1 d.2.2.2.2.2.2.2.2.2.2.2.2.2.2.2.2.1 d.2.2.2.2.2.2.2.2.2.2.2.2.2.2.2.2.2.1 d.2.2.2.2.2.2.2.2.2.2.2.2.2.2.2.2.2.2.1 d.2.2.2.2.2.2.2.2.2.2.2.2.2.2.2.2.2.2.2.1 d.2.2.2.2.2.2.2.2.2.2.2.2.2.2.2.2.2.2.2.2.1 d.2.2.2.2.2.2.2.2.2.2.2.2.2.2.2.2.2.2.2.2.2.1 d.2.2.2.2.2.2.2.2.2.2.2.2.2.2.2.2.2.2.2.2.2.2.1 d.2.2.2.2.2.2.2.2.2.2.2.2.2.2.2.2.2.2.2.2.2.2.2.1 d.2.2.2.2.2.2.2.2.2.2.2.2.2.2.2.2.2.2.2.2.2.2.2.2.1) NN
def Ft(L11:Nk)(t46 t47 aw:Int)(aG:List Int)(aT:List (Sh.T ae))(aP aW ba:List Int)(aD:List (Sh.T ab))(aM:List (Sh.T ae))(ff:Int)(fx:List Int)(ik:List (Sh.T ae))(gU iB mi:List Int)(mj:List (Sh.T ab))(mn:List (Sh.T ae))(b2:List Int)(b3:List (Sh.T aq))(b4 b5:List Int):Option (TL PF.σs⊕Out Pq):=
 br (iL t47 t46)
 (
  ai (av t47 (List.length aD))<|
  ao (L11 (t47,(t46,(t47,((Int.ofNat (List.length (gt ab aD t47).2.2.2.1)),((0:Int),(aw,(aG,(aT,(aP,(aW,(ba,(aD,(aM,(ff,(fx,(ik,(gU,(iB,(mi,(mj,(mn,(b2,(b3,(b4,(b5,())))))))))))))))))))))))))) fun x0=>
  some (.inl (x0.1,((IntKind.wrap .i64 (@HAdd.hAdd (Int) (Int) (Int) _ x0.2.1 (1:Int))),x0.2.2))))
 (
  some (.inr (ff,(fx,(ik,(gU,(iB,(mi,(mj,(mn,(b2,(b3,(b4,(b5,()))))))))))))))
def am9(M11:Np):Nz:=bN (pf (Ft M11.L)) (pL k0 e0 1 (sC M11 l0) fun d=>by kernel_rfl)
def am7:Nz:=am9  aaA
def Fk:aaH:=aX (pf (Ft Fe)) NN
def Fp(t7 t78 t79:Int)(t86:List Int)(t87 t88 aw:Int)(aG:List Int)(aT:List (Sh.T ae))(aP aW ba:List Int)(aD:List (Sh.T ab))(aM:List (Sh.T ae))(b1:List Int)(b2:List (Sh.T aq))(b3 b4:List Int):Option (TL O9.σs⊕Out O4):=
 br (iL t88 t87)
 (
  ai (av t88 (List.length t86))<|
  ai (av (gt (.int .i64) t86 t88) (List.length b1))<|
  some (.inl (t7,(t78,(t79,(t86,(t87,((IntKind.wrap .i64 (t88+(1:Int))),(aw,(aG,(aT,(aP,(aW,(ba,(aD,(aM,((List.set b1 (Int.toNat (gt (.int .i64) t86 t88)) (IntKind.wrap .i64 (t7+(1:Int)))),(b2,(b3,(b4,()))))))))))))))))))))
 (
  some (.inr (t78,(t79,(aw,(aG,(aT,(aP,(aW,(ba,(aD,(aM,(b1,(b2,(b3,(b4,()))))))))))))))))
def aaz  :Nl:=bN (Gi Fp) (pL k0 e0 1 l0 fun d=>by kernel_rfl)
def Fc:Nj:=aX (Gi Fp) NN
def Fq(F0:wG)(L20:Nj)(t78 t79 aw:Int)(aG:List Int)(aT:List (Sh.T ae))(aP aW ba:List Int)(aD:List (Sh.T ab))(aM:List (Sh.T ae))(b1:List Int)(b2:List (Sh.T aq))(b3 b4:List Int):Option (TL Ps.σs⊕Out Pf):=
 br (iL t79 t78)
 (
  ai (av t79 (List.length b2))<|
  ao (F0 ((gt aq b2 t79).1,((gt aq b2 t79).2.1,((gt aq b2 t79).2.2.1,(aw,(aG,(aT,(aP,(aW,(ba,(aD,(aM,(b1,(b2,(b3,(b4,())))))))))))))))) fun x0=>
  ao (L20 (t79,(t78,(t79,(x0.1,((Int.ofNat (List.length x0.1)),((0:Int),x0.2))))))) fun x1=>
  some (.inl (x1.1,((IntKind.wrap .i64 (@HAdd.hAdd (Int) (Int) (Int) _ x1.2.1 (1:Int))),x1.2.2))))
 (
  some (.inr (aw,(aG,(aT,(aP,(aW,(ba,(aD,(aM,(b1,(b2,(b3,(b4,()))))))))))))))
def amY(c0:sR)(M20:Nl):Nn:=bN (i7 (Fq c0.F M20.L)) (pL (kB c0 k0) e0 1 (sC M20 l0) fun d=>by kernel_rfl)
def amX:Nn:=amY wH aaz
def Fj:aay:=aX (i7 (Fq xz Fc)) NN
def P6(F0:wG)(L3:aaI)(L8:aaH)(L11:Nk)(L17:aay)(L20:Nj)(eX:Int)(jh:List Int)(iV:List (Sh.T ae))(jL jM jN:List Int)(fA:List (Sh.T ab))(iW:List (Sh.T ae)):Option (Out PD):=
 ai (both (iE (0:Int) (IntKind.wrap .i64 (eX+(1:Int)))) (both (iE (IntKind.wrap .i64 (eX+(1:Int))) (IntKind.wrap .i64 (eX+(1:Int)))) (iE ((Int.ofNat 8)*(IntKind.wrap .i64 (eX+(1:Int)))) (281474976710656:Int))))<|
 ai (both (iE (0:Int) (IntKind.wrap .i64 (eX+(1:Int)))) (both (iE (IntKind.wrap .i64 (eX+(1:Int))) (IntKind.wrap .i64 (eX+(1:Int)))) (iE ((Int.ofNat 1)*(IntKind.wrap .i64 (eX+(1:Int)))) (281474976710656:Int))))<|
 ai (both (iE (0:Int) (IntKind.wrap .i64 (eX+(1:Int)))) (both (iE (IntKind.wrap .i64 (eX+(1:Int))) (IntKind.wrap .i64 (eX+(1:Int)))) (iE ((Int.ofNat 8)*(IntKind.wrap .i64 (eX+(1:Int)))) (281474976710656:Int))))<|
 ao (L3 ((Int.ofNat (List.length iW)),((0:Int),(eX,(jh,(iV,(jL,(jM,(jN,(fA,(iW,(eX,(jh,(iV,(jL,(jM,(jN,(fA,(iW,((List.replicate (Int.toNat (IntKind.wrap .i64 (eX+(1:Int)))) (Sh.zero (.int .i64))),([],((List.replicate (Int.toNat (IntKind.wrap .i64 (eX+(1:Int)))) (Sh.zero (.int .u8))),((List.replicate (Int.toNat (IntKind.wrap .i64 (eX+(1:Int)))) (Sh.zero (.int .i64))),()))))))))))))))))))))))) fun x0=>
 ao (L8 ((Int.ofNat (List.length x0.2.2.2.2.2.2.1)),((0:Int),x0))) fun x1=>
 ao (L17 ((Int.ofNat (List.length x1.2.2.2.2.2.2.2.2.2.1)),((0:Int),x1))) fun x2=>
 some x2
def anl(c0:sR)(M3:aaJ)(M8:Nz)(M11:Np)(M17:Nn)(M20:Nl):NF:=⟨u8 (P6 c0.F M3.L M8.L M11.L M17.L M20.L),pB Tryz.func194 103 (kB c0 k0) e0 1 (sS (sC M3 (sC M8 (sC M17 l0)))) fun d=>by kernel_rfl⟩
def aaS:NF:=anl wH am8 am7 aaA amX aaz
def Zo9:aaR:=aaS.F
abbrev Zjg:Lay:={ T:=[(0,.agg jf)],h:=[],nx:=0 }
abbrev PH:List (Ev.Ex×Lay):=[(.ret,{ T:=[(0,.ed),(1,.int .i64)],h:=[],nx:=0 }),(.ret,{ T:=[(0,.ptr 0 0),(1,.int .i64)],h:=j5,nx:=5 })]
abbrev NG:=TL Zjg.σs->Option (Out PH)
abbrev Dp:=Kb 128 1 Zjg 2 PH
def Zw8(F0:ano)(F1:aae)(F2:aaR)(eX:Int)(jh:List Int)(iV:List (Sh.T ae))(jL jM jN:List Int)(fA:List (Sh.T ab))(iW:List (Sh.T ae)):Option (Out PH):=
 ao (F0 ((eX,(jh,(iV,(jL,(jM,(jN,(fA,(iW,())))))))),())) fun x0=>
 br (Bool.not (iQ x0.1 (0:Int)))
 (
  some (.inl (x0.1,())))
 (
  ao (F2 (eX,(jh,(iV,(jL,(jM,(jN,(fA,(iW,()))))))))) fun x1=>
  ao (F1 x1) fun x2=>
  br (Bool.not x2.1)
  (
   some (.inl ((8:Int),())))
  (
   some (.inr ((0:Int),x2.2))))
def anm(c0:aaV)(c1:MQ)(c2:NF) :Dp:=⟨u8 (Zw8 c0.F c1.F c2.F),pB Tryz.func128 17 (kD c0 (kB c1 (kB c2 k0))) e0 1 (sS l0) fun d=>by kernel_rfl⟩
def NH:Dp:=anm anp aaf aaS
def xN:NG:=NH.F
abbrev Zq5:List Sh:=[ca]
abbrev PX:List Sh:=[(.int .i64)]
abbrev sT:=TL Zq5->Option (TL PX)
abbrev qN:=Kd 66 Zq5 PX
def Zul(F0:NG)(a0:Sh.T ca):Option (TL PX):=
 ao (F0 a0) fun x0=>
 (match x0 with|.inl x1=>some (x1.1,())|.inr x1=>some (x1.1,())
 )
def anc(c0:Dp) :qN:=⟨u1 (Zul c0.F),pD Tryz.func66 11 (kB c0 k0) e0 1 (sS l0) fun d=>by kernel_rfl⟩
def sU:qN:=anc NH
def Zfn:sT:=sU.F
