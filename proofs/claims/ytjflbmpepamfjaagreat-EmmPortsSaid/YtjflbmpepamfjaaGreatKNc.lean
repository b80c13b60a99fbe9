import Derived.Test.YtjflbmpepamfjaaGreatKMf
import Derived.Test.YtjflbmpepamfjaaGreatKNa
set_option linter.all false
section
namespace Go.Proofs.YtjflbmpepamfjaaGreat.V
open Go Go.RowKit Go.Proofs.YtjflbmpepamfjaaGreat.Pl
def mh(x:ag.T):fv:=⟨x.1,x.2.1,x.2.2.1⟩
def n9(x:ag.T):ga:=⟨x.1,x.2.1,x.2.2.1⟩
def rQ(x:bW.T):gr:=⟨x.1,x.2.1⟩
def s9(x:bA.T):pX:=⟨x.1,x.2.1,x.2.2.1⟩
def oi(x:aj.T):cS:=⟨x.1,x.2.1,x.2.2.1,x.2.2.2.1.map rQ,x.2.2.2.2.1.map s9⟩
def kI(x:bD.T):aZ:=⟨x.1,x.2.1,x.2.2.1.map mh,x.2.2.2.1,x.2.2.2.2.1,x.2.2.2.2.2.1,x.2.2.2.2.2.2.1.map oi,x.2.2.2.2.2.2.2.1.map n9⟩
def cY(x:fv):ag.T:=(x.var,x.next,x.init,())
def cW(x:ga):ag.T:=(x.var,x.a,x.b,())
def cI(x:gr):bW.T:=(x.var,x.addr,())
def dy(x:pX):bA.T:=(x.on,x.addr,x.data,())
def aF(x:cS):aj.T:=(x.addr,x.word,x.any,x.reads.map cI,x.writes.map dy,())
def bX(x:aZ):bD.T:=(x.vars,x.bz,x.aB.map cY,x.bN,x.bO,x.constraints,x.aa.map aF,x.al.map cW,())
theorem map_id'{α β:Type}{f:α->β}{g:β->α}(h:∀x,g (f x)=x):∀L:List α,(L.map f).map g=L
 |[]=>rfl|x::L=>by simp only[IS,h,map_id' h L]
theorem agt(a b:Int)(c:Bool)(d:List bW.T)(e:List bA.T):((a,b,c,(d.map rQ).map cI,(e.map s9).map dy,()):Int×Int×Bool×List bW.T×List bA.T×Unit)=(a,b,c,d,e,()):=by rw[map_id' (f:=rQ) (g:=cI) (fun x=>rfl),map_id' (f:=s9) (g:=dy) (fun x=>rfl)]
theorem asR(x:aj.T):aF (oi x)=x:=agt x.1 x.2.1 x.2.2.1 x.2.2.2.1 x.2.2.2.2.1
theorem agy(a:Int)(b:io)(c:List ag.T)(d e f:io)(g:List aj.T)(h:List ag.T) :
  ((a,b,(c.map mh).map cY,d,e,f,(g.map oi).map aF,(h.map n9).map cW,()):Int×io×List ag.T×io×io×io×List aj.T×List ag.T×Unit)=(a,b,c,d,e,f,g,h,()):=by
 rw[map_id' (f:=mh) (g:=cY) (fun x=>rfl),map_id' (f:=n9) (g:=cW) (fun x=>rfl),map_id' (f:=oi) (g:=aF) asR]
theorem DH(x:bD.T):bX (kI x)=x:=agy x.1 x.2.1 x.2.2.1 x.2.2.2.1 x.2.2.2.2.1 x.2.2.2.2.2.1 x.2.2.2.2.2.2.1 x.2.2.2.2.2.2.2.1
theorem Hx(x:cS):oi (aF x)=x:=by obtain⟨a,b,c,d,e⟩:=x;show(⟨a,b,c,(d.map cI).map rQ,(e.map dy).map s9⟩:cS)=_;rw[map_id' (f:=cI) (g:=rQ) (fun x=>rfl),map_id' (f:=dy) (g:=s9) (fun x=>rfl)]
theorem nD(x:aZ):kI (bX x)=x:=by obtain⟨a,b,c,d,e,f,g,h⟩:=x;show(⟨a,b,(c.map cY).map mh,d,e,f,(g.map aF).map oi,(h.map cW).map n9⟩:aZ)=_;rw[map_id' (f:=cY) (g:=mh) (fun x=>rfl),map_id' (f:=cW) (g:=n9) (fun x=>rfl),map_id' (f:=aF) (g:=oi) Hx]
variable{V:Value}{s:Sh}{w:World}{L:List s.T}{A:Nat->Prop}
theorem vM(h:Cs w A (.sl s) L [V]) :
  ∃a cap X,V=.slice a L.length cap/\aY (Cs w A s) L X/\Sl w w.heap.size s.size a L.length cap X:=by
 obtain⟨a,len,cap,e1,rfl,e3,e4⟩:=h;simp only[aFD,aFa]at e1;subst e1;by_cases hL:L=[]
 .subst hL;exact⟨a,cap,[],rfl,rfl,⟨aGn,fun h=>absurd h aGn⟩,e3,AI _⟩
 .obtain⟨b,o,X,rfl,q2,q3,c,ty,fr,q4,q5⟩:=e4 hL;refine⟨_,cap,X,rfl,q3,⟨aY.length (fun x c=>Cs.length) q3,fun _=>⟨_,rfl,iY q4,fun j u hj=>?_⟩⟩,e3,AI _⟩;have:=q5 j u hj;rw[show(⟨b,o,none⟩:Addr).add j=⟨b,o+j,none⟩from by simp[Ev.dR]];simp only[World.cell?,q4,aET,GE,aFk];exact this
theorem GJ{α:Type}{R:α->kw->Prop}{g:α->kw}(h:∀x c,R x c->c=g x):∀{L:List α}{X:kw},aY R L X->X=L.flatMap g
 |[],X,q=>q|x::L,X,⟨c,r,e,q,t⟩=>by rw[e,h x c q,GJ h t];rfl
variable{cs:kw}
theorem yk{d:TL []}(h:gj w A [] d cs):cs=[]:=h
theorem eZ{l:List Sh}{d:TL (s::l)}(h:gj w A (s::l) d cs):∃c r,cs=c++r/\Cs w A s d.1 c/\gj w A l d.2 r:=h
variable{c:kw}
theorem lP(h:Cs w A (.sl s) L c):∃V,c=[V]/\Cs w A (.sl s) L [V]:=by obtain⟨a,len,cap,e1,q⟩:=h;exact⟨_,e1,a,len,cap,rfl,q⟩
theorem Hc{α β γ:Type}{f:α->γ}{g:β->γ}{L:List α}{M:List β}(h:L.map f=M.map g):M.length=L.length:=by have:=IT List.length h;rw[aR,aR]at this;exact this.symm
theorem Wg:∀L:io,L.flatMap (fun n=>[Value.int .i64 n])=ints L
 |[]=>rfl|x::L=>by have:=Wg L;unfold ints at this |-;rw[Fn,this];rfl
theorem sW{L:io}(h:Cs w A (.sl .I) L c):∃a cap,c=[.slice a L.length cap]/\Sl w w.heap.size 1 a L.length cap (ints L):=by
 obtain⟨V,rfl,h⟩:=lP h;obtain⟨a,cap,X,rfl,h1,h2⟩:=vM h;have:X=ints L:=by have:=GJ (g:=fun n=>[Value.int .i64 n]) (fun x c q=>q) h1;rw[this];exact Wg L
 subst this;exact⟨a,cap,rfl,h2⟩
theorem ahA{x:ag.T}(h:Cs w A ag x c):c=(mh x).cells:=by obtain⟨c1,r1,rfl,h1,q1⟩:=eZ h;obtain⟨c2,r2,rfl,h2,q2⟩:=eZ q1;obtain⟨c3,r3,rfl,h3,q3⟩:=eZ q2;rw[yk q3,show c1=_ from h1,show c2=_ from h2,show c3=_ from h3];rfl
theorem Wn{L:List ag.T}(h:Cs w A (.sl ag) L c):∃a cap,c=[.slice a (L.map mh).length cap]/\Sl w w.heap.size 3 a (L.map mh).length cap ((L.map mh).flatMap fv.cells):=by obtain⟨V,rfl,h⟩:=lP h;obtain⟨a,cap,X,rfl,h1,h2⟩:=vM h;have:=GJ (g:=fun x=>(mh x).cells) (fun x c q=>ahA q) h1;refine⟨a,cap,aGn,?_⟩;rw[aR,aEX,<-this];exact h2
theorem afP{L:List ag.T}(h:Cs w A (.sl ag) L c):∃a cap,c=[.slice a (L.map n9).length cap]/\Sl w w.heap.size 3 a (L.map n9).length cap ((L.map n9).flatMap ga.cells):=by obtain⟨a,cap,e,h⟩:=Wn h;rw[aR]at e h |-;exact⟨a,cap,e,by rw[aEX]at h |-;exact h⟩
theorem Vv{w:World}{A:Nat->Prop}:∀{L:List bW.T}{X:kw},aY (Cs w A bW) L X->∃Rs:List cO,Rs.map cO.d=L.map rQ/\X=Rs.flatMap cO.cells/\∀r∈Rs,r.bU w w.heap.size
 |[],X,h=>⟨[],rfl,h,fun r hr=>by cases hr⟩
 |x::L,X,⟨c,r,e,q,t⟩=>by
  obtain⟨Rs,k1,k2,k3⟩:=Vv t;obtain⟨c1,r1,rfl,h1,q1⟩:=eZ q;obtain⟨c2,r2,rfl,h2,q2⟩:=eZ q1;obtain⟨a,cap,rfl,hs⟩:=sW h2;refine⟨⟨x.1,a,cap,x.2.1⟩::Rs,by simp only[IS,k1];rfl,?_,?_⟩
  .rw[e,yk q2,show c1=_ from h1,k2];rfl
  .intro r hr;rcases AT.1 hr with rfl|hr
   .exact hs
   .exact k3 r hr
theorem UE{w:World}{A:Nat->Prop}:∀{L:List bA.T}{X:kw},aY (Cs w A bA) L X->∃Rs:List dM,Rs.map dM.d=L.map s9/\X=Rs.flatMap dM.cells/\∀r∈Rs,r.bU w w.heap.size
 |[],X,h=>⟨[],rfl,h,fun r hr=>by cases hr⟩
 |x::L,X,⟨c,r,e,q,t⟩=>by
  obtain⟨Rs,k1,k2,k3⟩:=UE t;obtain⟨c1,r1,rfl,h1,q1⟩:=eZ q;obtain⟨c2,r2,rfl,h2,q2⟩:=eZ q1;obtain⟨c3,r3,rfl,h3,q3⟩:=eZ q2;obtain⟨a,cap,rfl,hs⟩:=sW h2;obtain⟨a',cap',rfl,hs'⟩:=sW h3;refine⟨⟨x.1,a,cap,x.2.1,a',cap',x.2.2.1⟩::Rs,by simp only[IS,k1];rfl,?_,?_⟩
  .rw[e,yk q3,show c1=_ from h1,k2];rfl
  .intro r hr;rcases AT.1 hr with rfl|hr
   .exact⟨hs,hs'⟩
   .exact k3 r hr
theorem AB{w:World}{A:Nat->Prop}:∀{L:List aj.T}{X:kw},aY (Cs w A aj) L X->∃Ms:List bk,Ms.map bk.d=L.map oi/\X=Ms.flatMap bk.cells/\∀m∈Ms,m.bU w w.heap.size
 |[],X,h=>⟨[],rfl,h,fun r hr=>by cases hr⟩
 |x::L,X,⟨c,r,e,q,t⟩=>by
  obtain⟨Ms,k1,k2,k3⟩:=AB t;obtain⟨c1,r1,rfl,h1,q1⟩:=eZ q;obtain⟨c2,r2,rfl,h2,q2⟩:=eZ q1;obtain⟨c3,r3,rfl,h3,q3⟩:=eZ q2;obtain⟨c4,r4,rfl,h4,q4⟩:=eZ q3;obtain⟨c5,r5,rfl,h5,q5⟩:=eZ q4;obtain⟨V4,rfl,h4⟩:=lP h4;obtain⟨V5,rfl,h5⟩:=lP h5;obtain⟨a,cap,X4,rfl,f4,s4⟩:=vM h4;obtain⟨a',cap',X5,rfl,f5,s5⟩:=vM h5;obtain⟨Rs,rk,rfl,rok⟩:=Vv f4;obtain⟨Ws,wk,rfl,wok⟩:=UE f5;have l4:x.2.2.2.1.length=Rs.length:=Hc rk;have l5:x.2.2.2.2.1.length=Ws.length:=Hc wk;have l4':List.length x.2.2.2.1=Rs.length:=l4;refine⟨⟨x.1,x.2.1,x.2.2.1,a,cap,Rs,a',cap',Ws⟩::Ms,?_,?_,?_⟩
  .simp only[IS,k1,bk.d,rk,wk];rfl
  .rw[e,yk q5,show c1=_ from h1,show c2=_ from h2,show c3=_ from h3,k2];show[_,_,_,Value.slice a (List.length x.2.2.2.1) cap,Value.slice a' (List.length x.2.2.2.2.1) cap']++_=_;rw[l4,l5];rfl
  .intro m hm;rcases AT.1 hm with rfl|hm
   .exact⟨by rw[<-l4];exact s4,rok,by rw[<-l5];exact s5,wok⟩
   .exact k3 m hm
theorem vt{d:bD.T}(h:bR w A bD d V):∃N:aV,N.v=V/\N.d=kI d/\N.bU w w.heap.size:=by
 obtain⟨h,hagg⟩:=h;obtain⟨c1,r1,e1,h1,q1⟩:=eZ h;obtain⟨c2,r2,rfl,h2,q2⟩:=eZ q1;obtain⟨c3,r3,rfl,h3,q3⟩:=eZ q2;obtain⟨c4,r4,rfl,h4,q4⟩:=eZ q3;obtain⟨c5,r5,rfl,h5,q5⟩:=eZ q4;obtain⟨c6,r6,rfl,h6,q6⟩:=eZ q5;obtain⟨c7,r7,rfl,h7,q7⟩:=eZ q6;obtain⟨c8,r8,rfl,h8,q8⟩:=eZ q7;obtain⟨a2,p2,rfl,s2⟩:=sW h2;obtain⟨a3,p3,rfl,s3⟩:=Wn h3;obtain⟨a4,p4,rfl,s4⟩:=sW h4;obtain⟨a5,p5,rfl,s5⟩:=sW h5;obtain⟨a6,p6,rfl,s6⟩:=sW h6;obtain⟨V7,rfl,h7⟩:=lP h7;obtain⟨a7,p7,X7,rfl,f7,s7⟩:=vM h7;obtain⟨Ms,k1,rfl,k3⟩:=AB f7;obtain⟨a8,p8,rfl,s8⟩:=afP h8;have l7:List.length d.2.2.2.2.2.2.1=Ms.length:=Hc k1;refine⟨⟨d.1,a2,p2,d.2.1,a3,p3,d.2.2.1.map mh,a4,p4,d.2.2.2.1,a5,p5,d.2.2.2.2.1,a6,p6,d.2.2.2.2.2.1,a7,p7,Ms,a8,p8,d.2.2.2.2.2.2.2.1.map n9⟩,?_,?_,?_⟩
 .cases V with|agg cs=>have e1':cs.toList=c1++_:=e1;rw[yk q8,show c1=_ from h1,l7]at e1';show Value.agg _=Value.agg cs;congr 1;apply Rd.1;rw[e1'];rfl|_=>cases hagg
 .simp only[aV.d,k1];rfl
 .exact⟨s2,s3,s4,s5,s6,by rw[<-l7];exact s7,k3,s8⟩
instance i64Dec(x:Int):Decidable (cE x):=inferInstanceAs (Decidable (_/\_))
instance memFitDec(m:cS):Decidable (qt m):=decidable_of_iff
 ((cE m.word/\m.word<=4000)/\cE m.addr/\m.reads.length<=100/\m.writes.length<=100/\(∀r∈m.reads,r.addr.length<=4000/\-1099511627776<=r.var/\r.var<=1099511627776/\∀x∈r.addr,cE x) /\
  ∀r∈m.writes,r.addr.length<=4000/\r.data.length<=4000/\cE r.on/\(∀x∈r.addr,cE x)/\∀x∈r.data,cE x)
 ⟨fun⟨a,b,c,d,e,f⟩=>⟨a,b,c,d,e,f⟩,fun⟨a,b,c,d,e,f⟩=>⟨a,b,c,d,e,f⟩⟩
instance fitDec(n:aZ):Decidable (Fit n):=decidable_of_iff
 (cE n.vars/\(n.bz.length<=4000/\∀x∈n.bz,cE x)/\(n.aB.length<=4000/\∀l∈n.aB,cE l.var/\cE l.next/\cE l.init)/\(n.bN.length<=4000/\∀x∈n.bN,cE x) /\
  (n.bO.length<=4000/\∀x∈n.bO,cE x)/\(n.constraints.length<=4000/\∀x∈n.constraints,cE x)/\(n.aa.length<=100/\∀m∈n.aa,qt m)/\(n.al.length<=4000/\∀a∈n.al,cE a.var/\cE a.a/\cE a.b))
 ⟨fun⟨a,b,c,d,e,f,g,h⟩=>⟨a,b,c,d,e,f,g,h⟩,fun⟨a,b,c,d,e,f,g,h⟩=>⟨a,b,c,d,e,f,g,h⟩⟩
def KT(n:aZ):Bool:=decide (Fit n)
variable{n:aZ}
theorem af6(h:KT n=true):Fit n:=Pi h
theorem Vo(h:Fit n):KT n=true:=iU h
def qJ:TL [bD]->Option (TL [.I]):=fun d=>match KT (kI d.1)with|true=>some (fx (kI d.1),())|false=>none
theorem Zwd{f:FuncId}{fn:Func}{c:Code}(h1:Tryz.prog.funcs[f]?=some fn)(h2:(fn.name == "runtime.NumGoroutine")=false)(h3:fn.body=some c)
  (h:∀(N:aV) (w:World),N.bU w w.heap.size->Fit N.d->Calls Tryz.prog f #[N.v] w fun e w'=>e=.returned (.int .i64 (fx N.d))/\Below w.heap.size w w'):Comes Tryz.prog f [bD] [.I] qJ:=by
 refine⟨⟨fn,c,h1,h2,h3⟩,?_⟩;intro d x hx w A args hA ha;unfold qJ at hx;split at hx<;>cases hx;rename_i hf;obtain⟨V,r,rfl,hd,hr⟩:=ha;have:r=[]:=hr;subst this;obtain⟨N,rfl,hN,bw⟩:=vt hd;have hf:=af6 hf;rw[<-hN]at hf;refine(h N w bw hf).mono ?_;rintro e w' ⟨rfl,hb⟩;exact⟨[.int .i64 (fx N.d)],rfl,hb,_,[],rfl,⟨by rw[hN];rfl,rfl⟩,rfl⟩
theorem Zwv:Comes Tryz.prog 100 [bD] [.I] qJ:=Zwd (fn:=Tryz.f100) (c:=bL Tryz.f100) Tryz.func100 aGm aGm UG
abbrev avk:=TL [bD]->Option (TL [.I])
abbrev YY:=Kd 100 [bD] [.I]
def avl:YY:=⟨qJ,Zwv⟩
set_option maxRecDepth 1000000
abbrev Zsr:List Sh:=[.I]
abbrev Nb:List Sh:=[.I]
abbrev Ke:=TL Zsr->Option (TL Nb)
abbrev BO:=Kd 74 Zsr Nb
def Nl(a0:Int):Option (TL Nb):=some ((Int.fdiv a0 (HPow.hPow (2:Int) (Min.min (Int.toNat (1:Int)) 64))),())
def avu  :BO:=⟨u1 Nl,pD Tryz.func74 5 k0 e0 1 (sS l0) fun d=>aGm⟩
def Kf:BO:=avu
def Dp:Ke:=Kf.F
abbrev MR:Lay:=⟨[(1,.I),(2,.ptr 0 0),(4,.hd 1 .I),(16,.I),(17,.I)],[(0,.cells [.I,.I,.bool,.fz bW,.fz bA] 54),(1,.arr .I 3)],2⟩
abbrev MO:List (Ev.Ex×Lay):=[((.exit 0),⟨[(4,.hd 0 .I)],[(0,.arr .I 3)],1⟩)]
abbrev YZ:=be MR MO
abbrev Y0:=Ld 0 33 (cw [0] (bL Tryz.f41)) MR MO
def DF(t1 t16 t17 aM aS:Int)(aI:Bool)(aN:eq)(aP:ge)(b1:io):am MR MO:=
 br (iL t17 t16)
 (
  aq (ar t1 aN.length)<|
  aq (room 8 (List.length (ap b1 ((ol (md (gt bW aN t1).1 t17))::[]))))<|
  aGt (t1,t16,(ol (t17+(1:Int))),aM,aS,aI,aN,aP,(ap b1 ((ol (md (gt bW aN t1).1 t17))::[])),()))
 (
  aGu (b1,()))
def avm  :Y0:=cH (u9 DF) (pL k0 e0 1 l0 fun d=>aGm)
def MU:YZ:=bu (u9 DF) NN
abbrev Zsq:List Sh:=[aj,.I]
abbrev Na:List Sh:=[(.sl .I)]
abbrev Y4:=TL Zsq->Option (TL Na)
abbrev Kk:=Kd 41 Zsq Na
def Nk(L4:YZ)(a0:Sh.T aj)(a1:Int):Option (TL Na):=
 br (iL a1 (0:Int))
 (
  some ([],()))
 (
  br (bH false true (iE (Int.ofNat (List.length a0.2.2.2.1)) a1))
  (
   some ([],()))
  (
   aL (L4 (a1,a0.2.1,(0:Int),a0.1,a0.2.1,a0.2.2.1,a0.2.2.2.1,a0.2.2.2.2.1,[],())) fun x0=>
   some (x0.1,())))
def avt(M4:Y0):Kk:=⟨u2 (Nk M4.L),pD Tryz.func41 33 k0 e0 1 (sS (sC M4 l0)) fun d=>aGm⟩
def Ko:Kk:=avt  avm
def MX:Y4:=Ko.F
abbrev jK:List (Nat×LO):=[(0,.cells [.I,.fz .I,.fz ag,.fz .I,.fz .I,.fz .I,.fz aj,.fz ag,.hd 1 .I,.hd 2 ae,.hd 3 (.int .u8),.hd 4 .I] 122),(1,.arr .I 3),(2,.arr ae 90),(3,.arr (.int .u8) 5),(4,.arr .I 3)]
abbrev Cv:List (Nat×LO):=[(0,.cells jI 27),(1,.cells [.I,.fz .I,.fz ag,.fz .I,.fz .I,.fz .I,.fz aj,.fz ag,.hd 2 .I,.hd 3 ae,.hd 4 (.int .u8),.hd 5 .I] 122),(2,.arr .I 3),(3,.arr ae 90),(4,.arr (.int .u8) 5),(5,.arr .I 3)]
abbrev Cw:List (Nat×LO):=[(0,.cells [.fz .I] 22),(1,.cells [.ptr 2 0] 116),(2,.cells [.I,.fz .I,.fz ag,.fz .I,.fz .I,.fz .I,.fz aj,.fz ag,.hd 3 .I,.hd 4 ae,.hd 5 (.int .u8),.hd 6 .I] 122),(3,.arr .I 3),(4,.arr ae 90),(5,.arr (.int .u8) 5),(6,.arr .I 3)]
abbrev Lw:List (Nat×LO):=[(0,.cells [.I,.fz .I,.fz ag,.fz .I,.fz .I,.fz .I,.fz aj,.fz ag,.hd 1 .I,.hd 2 ae,.hd 3 (.int .u8),.hd 4 .I] 122),(1,.arr .I 3),(2,.arr ae 90),(3,.arr (.int .u8) 5),(4,.arr .I 3),(5,.cells [.ptr 0 0] 116),(6,.cells [.fz .I] 22)]
abbrev ads:Lay:=⟨[(3,.ptr 0 0),(77,.hd 2 ae),(78,.I),(79,.I)],jK,5⟩
abbrev adt:Lay:=⟨[(1,.ptr 0 0),(3,.ptr 1 0),(46,.I),(47,.I)],Cv,6⟩
abbrev adu:Lay:=⟨[(0,.ptr 0 0),(1,.agg [.bool,.I,.I])],jK,5⟩
abbrev pv:Lay:=adu
abbrev LK:List (Ev.Ex×Lay):=[(.ret,⟨[(0,.fz .I)],jK,5⟩)]
abbrev Ys:=be pv LK
abbrev JO:=Kb 185 2 pv 1 LK
def MJ(sr:Bool)(kJ lu aM:Int)(aS:io)(aI:bi)(aN aP bf:io)(az:bv)(aJ:bi)(b1:io)(b2:ce)(b3 b4:io):Option (Out LK):=
 br sr
 (
  aq (ar kJ az.length)<|
  aq (ar lu (List.length (gt aj az kJ).2.2.2.1))<|
  some ((gt bW (gt aj az kJ).2.2.2.1 lu).2.1,aM,aS,aI,aN,aP,bf,az,aJ,b1,b2,b3,b4,()))
 (
  aq (ar lu aJ.length)<|
  some (((gt ag aJ lu).2.1::((gt ag aJ lu).2.2.1::[])),aM,aS,aI,aN,aP,bf,az,aJ,b1,b2,b3,b4,()))
def auP  :JO:=⟨iO MJ,pB Tryz.func185 37 k0 e0 1 (sS l0) fun d=>aGm⟩
def Yt:JO:=auP
def zR:Ys:=Yt.F
abbrev ay:Lay:=adu
abbrev LH:List (Ev.Ex×Lay):=[(.ret,⟨[(0,.fz .I)],jK,5⟩)]
abbrev wE:=be ay LH
abbrev uc:=Kb 63 2 ay 1 LH
def xJ(F0:Y4)(sr:Bool)(kJ lu aM:Int)(aS:io)(aI:bi)(aN aP bf:io)(az:bv)(aJ:bi)(b1:io)(b2:ce)(b3 b4:io):Option (Out LH):=
 br sr
 (
  aq (ar kJ az.length)<|
  aL (F0 ((gt aj az kJ),lu,())) fun x0=>
  some (x0.1,aM,aS,aI,aN,aP,bf,az,aJ,b1,b2,b3,b4,()))
 (
  aq (ar lu aJ.length)<|
  some (((gt ag aJ lu).1::[]),aM,aS,aI,aN,aP,bf,az,aJ,b1,b2,b3,b4,()))
def auU(c0:Kk) :uc:=⟨iO (xJ c0.F),pB Tryz.func63 30 (kD c0 k0) e0 1 (sS l0) fun d=>aGm⟩
def wF:uc:=auU Ko
def xB:wE:=wF.F
abbrev pk:Lay:=⟨[(0,.int .u8),(1,.ptr 0 0),(2,.ptr 1 0)],Cw,7⟩
abbrev LI:List (Ev.Ex×Lay):=[(.ret,⟨[],Cw,7⟩)]
abbrev Yk:=be pk LI
abbrev JI:=Kb 184 3 pk 0 LI
abbrev LV:Lay:=⟨[(0,.int .u8),(2,.ptr 1 0),(6,.fz .I),(7,.I),(8,.I)],Cw,7⟩
abbrev LS:List (Ev.Ex×Lay):=[((.exit 0),⟨[],Cw,7⟩)]
abbrev Yd:=be LV LS
abbrev Ye:=Ld 7 20 (cw [0] (bL Tryz.f184)) LV LS
def Dc(t0:Int)(t6:io)(t7 t8:Int)(aM:io)(bT:Int)(bZ:io)(cf:bi)(bS bJ cx:io)(cz:bv)(cA:bi)(b3:io)(b4:ce)(b5 b6:io):am LV LS:=
 br (iL t8 t7)
 (
  aq (ar t8 t6.length)<|
  aq (ar (gt .I t6 t8) b5.length)<|
  aGt (t0,t6,t7,(ol (t8+(1:Int))),aM,bT,bZ,cf,bS,bJ,cx,cz,cA,b3,b4,(List.set b5 (Int.toNat (gt .I t6 t8)) t0),b6,()))
 (
  aGu (aM,bT,bZ,cf,bS,bJ,cx,cz,cA,b3,b4,b5,b6,()))
def aut  :Ye:=cH (yC Dc) (pL k0 e0 1 l0 fun d=>aGm)
def Mi:Yd:=bu (yC Dc) NN
def Mu(L1:Yd)(t0:Int)(aM:io)(bT:Int)(bZ:io)(cf:bi)(bS bJ cx:io)(cz:bv)(cA:bi)(b3:io)(b4:ce)(b5 b6:io):Option (Out LI):=
 aL (L1 (t0,aM,(Int.ofNat aM.length),(0:Int),aM,bT,bZ,cf,bS,bJ,cx,cz,cA,b3,b4,b5,b6,())) fun x0=>
 some x0
def auC(M1:Ye):JI:=⟨mK (Mu M1.L),pB Tryz.func184 20 k0 e0 1 (sS (sC M1 l0)) fun d=>aGm⟩
def Yl:JI:=auC  aut
def tS:Yk:=Yl.F
abbrev LG:Lay:=⟨[(0,.ptr 0 0),(1,.I)],jK,5⟩
abbrev CD:List (Ev.Ex×Lay):=[(.ret,⟨[(0,.bool)],jK,5⟩)]
abbrev qv:=be LG CD
abbrev ph:=Kb 140 2 LG 1 CD
abbrev LY:Lay:=⟨[(2,.ptr 5 0),(7,.func 184 [] [.ptr 6 0,.ptr 5 0]),(8,.I),(86,.fz .I),(87,.I),(88,.I)],Lw,7⟩
abbrev LU:List (Ev.Ex×Lay):=[((.exit 3),⟨[(7,.func 184 [] [.ptr 5 0,.ptr 6 0])],[(0,.cells [.I,.fz .I,.fz ag,.fz .I,.fz .I,.fz .I,.fz aj,.fz ag,.hd 1 .I,.hd 2 ae,.hd 3 (.int .u8),.hd 4 .I] 122),(1,.arr .I 3),(2,.arr ae 90),(3,.arr (.int .u8) 5),(4,.arr .I 3),(5,.cells [.fz .I] 22),(6,.cells [.ptr 0 0] 116)],7⟩)]
abbrev Yi:=be LY LU
abbrev JG:=Ld 5 103 (cw [1] (bL Tryz.f140)) LY LU
abbrev CX:Lay:=⟨[(2,.ptr 5 0),(6,.ptr 6 0),(7,.func 184 [] [.ptr 6 0,.ptr 5 0]),(8,.I),(64,.fz .I),(65,.I),(66,.I)],Lw,7⟩
abbrev CT:List (Ev.Ex×Lay):=[(.ret,⟨[(4,.bool)],jK,5⟩),((.exit 1),⟨[(2,.ptr 5 0),(6,.ptr 6 0),(7,.func 184 [] [.ptr 6 0,.ptr 5 0]),(8,.I)],Lw,7⟩)]
abbrev Yj:=be CX CT
abbrev JH:=Ld 5 103 (cw [0] (bL Tryz.f140)) CX CT
def MQ(F0:Ke)(F1:qv)(t8:Int)(t64:io)(t65 t66 aM:Int)(aS:io)(aI:bi)(aN aP bf:io)(az:bv)(aJ:bi)(b1:io)(b2:ce)(b3 b4 wT:io):am CX CT:=
 br (iL t66 t65)
 (
  aq (ar t66 t64.length)<|
  aL (F0 ((gt .I t64 t66),())) fun x0=>
  aL (F1 (x0.1,aM,aS,aI,aN,aP,bf,az,aJ,b1,b2,b3,b4,())) fun x1=>
  br (Bool.not x1.1)
  (
   aGu (.inl (false,x1.2)))
  (
   aq (ar x0.1 (List.length x1.2.2.2.2.2.2.2.2.2.2.2.2.1))<|
   aGt ((mn (iL t8 (gt .I x1.2.2.2.2.2.2.2.2.2.2.2.2.1 x0.1)) (gt .I x1.2.2.2.2.2.2.2.2.2.2.2.2.1 x0.1) t8),t64,t65,(ol (t66+(1:Int))),x1.2.1,x1.2.2.1,x1.2.2.2.1,x1.2.2.2.2.1,x1.2.2.2.2.2.1,x1.2.2.2.2.2.2.1,x1.2.2.2.2.2.2.2.1,x1.2.2.2.2.2.2.2.2.1,x1.2.2.2.2.2.2.2.2.2.1,x1.2.2.2.2.2.2.2.2.2.2.1,x1.2.2.2.2.2.2.2.2.2.2.2.1,x1.2.2.2.2.2.2.2.2.2.2.2.2.1,wT,())))
 (
  aGu (.inr (t8,aM,aS,aI,aN,aP,bf,az,aJ,b1,b2,b3,b4,wT,())))
def auB(c0:BO)(c1:ph) :JH:=cH (yC (MQ c0.F c1.F)) (pL (kD c0 (kB c1 k0)) e0 1 l0 fun d=>aGm)
def auz(s:ph):JH:=auB Kf s
def Ml(F:qv):Yj:=bu (fun d=>MQ Dp F  d.1 d.2.1 d.2.2.1 d.2.2.2.1 d.2.2.2.2.1 d.2.2.2.2.2.1 d.2.2.2.2.2.2.1 d.2.2.2.2.2.2.2.1 d.2.2.2.2.2.2.2.2.1 d.2.2.2.2.2.2.2.2.2.1 d.2.2.2.2.2.2.2.2.2.2.1 d.2.2.2.2.2.2.2.2.2.2.2.1 d.2.2.2.2.2.2.2.2.2.2.2.2.1 d.2.2.2.2.2.2.2.2.2.2.2.2.2.1 d.2.2.2.2.2.2.2.2.2.2.2.2.2.2.1 d.2.2.2.2.2.2.2.2.2.2.2.2.2.2.2.1 d.2.2.2.2.2.2.2.2.2.2.2.2.2.2.2.2.1) NN
def Di(t8:Int)(t86:io)(t87 t88 aM:Int)(aS:io)(aI:bi)(aN aP bf:io)(az:bv)(aJ:bi)(b1:io)(b2:ce)(b3 b4 wT:io):am LY LU:=
 br (iL t88 t87)
 (
  aq (ar t88 t86.length)<|
  aq (ar (gt .I t86 t88) b4.length)<|
  aGt (t8,t86,t87,(ol (t88+(1:Int))),aM,aS,aI,aN,aP,bf,az,aJ,b1,b2,b3,(List.set b4 (Int.toNat (gt .I t86 t88)) (ol (t8+(1:Int)))),wT,()))
 (
  aGu (aM,aS,aI,aN,aP,bf,az,aJ,b1,b2,b3,b4,wT,()))
def auA  :JG:=cH (yC Di) (pL k0 e0 1 l0 fun d=>aGm)
def auy(s:ph):JG:=auA
def Mk(F:qv):Yi:=bu (fun d=>Di   d.1 d.2.1 d.2.2.1 d.2.2.2.1 d.2.2.2.2.1 d.2.2.2.2.2.1 d.2.2.2.2.2.2.1 d.2.2.2.2.2.2.2.1 d.2.2.2.2.2.2.2.2.1 d.2.2.2.2.2.2.2.2.2.1 d.2.2.2.2.2.2.2.2.2.2.1 d.2.2.2.2.2.2.2.2.2.2.2.1 d.2.2.2.2.2.2.2.2.2.2.2.2.1 d.2.2.2.2.2.2.2.2.2.2.2.2.2.1 d.2.2.2.2.2.2.2.2.2.2.2.2.2.2.1 d.2.2.2.2.2.2.2.2.2.2.2.2.2.2.2.1 d.2.2.2.2.2.2.2.2.2.2.2.2.2.2.2.2.1) NN
def MG(F0:Ke)(F1:qv)(F2:Ys)(F3:Yk)(F4:wE)(L11:Yj)(L19:Yi)(t1 aM:Int)(aS:io)(aI:bi)(aN aP bf:io)(az:bv)(aJ:bi)(b1:io)(b2:ce)(b3 b4:io):Option (Out CD):=
 aq (ar t1 b1.length)<|
 br (iQ (gt .I b1 t1) (0:Int))
 (
  some (true,aM,aS,aI,aN,aP,bf,az,aJ,b1,b2,b3,b4,()))
 (
  aq (ar t1 b3.length)<|
  br (bH false true (iQ (gt (.int .u8) b3 t1) (2:Int)))
  (
   some (true,aM,aS,aI,aN,aP,bf,az,aJ,b1,b2,b3,b4,()))
  (
   aq (ar t1 b3.length)<|
   br (iQ (gt (.int .u8) b3 t1) (1:Int))
   (
    some (false,aM,aS,aI,aN,aP,bf,az,aJ,b1,b2,b3,b4,()))
   (
    aq (ar t1 b1.length)<|
    aq (ar (ol (@HSub.hSub (Int) (Int) (Int) _ (gt .I b1 t1) (1:Int))) b2.length)<|
    aL (F4 ((gt ae b2 (ol (@HSub.hSub (Int) (Int) (Int) _ (gt .I b1 t1) (1:Int)))).1,(gt ae b2 (ol (@HSub.hSub (Int) (Int) (Int) _ (gt .I b1 t1) (1:Int)))).2.1,(gt ae b2 (ol (@HSub.hSub (Int) (Int) (Int) _ (gt .I b1 t1) (1:Int)))).2.2.1,aM,aS,aI,aN,aP,bf,az,aJ,b1,b2,b3,b4,())) fun x0=>
    aL (F3 ((1:Int),x0)) fun x1=>
    aL (F2 ((gt ae b2 (ol (@HSub.hSub (Int) (Int) (Int) _ (gt .I b1 t1) (1:Int)))).1,(gt ae b2 (ol (@HSub.hSub (Int) (Int) (Int) _ (gt .I b1 t1) (1:Int)))).2.1,(gt ae b2 (ol (@HSub.hSub (Int) (Int) (Int) _ (gt .I b1 t1) (1:Int)))).2.2.1,x1.2)) fun x2=>
    aL (L11 ((0:Int),x2.1,(Int.ofNat (List.length x2.1)),(0:Int),x2.2.1,x2.2.2.1,x2.2.2.2.1,x2.2.2.2.2.1,x2.2.2.2.2.2.1,x2.2.2.2.2.2.2.1,x2.2.2.2.2.2.2.2.1,x2.2.2.2.2.2.2.2.2.1,x2.2.2.2.2.2.2.2.2.2.1,x2.2.2.2.2.2.2.2.2.2.2.1,x2.2.2.2.2.2.2.2.2.2.2.2.1,x2.2.2.2.2.2.2.2.2.2.2.2.2.1,x1.1,())) fun x3=>
    (match x3 with
    |.inl x4=>some x4|.inr x4=>
     aL (L19 (x4.1,x4.2.2.2.2.2.2.2.2.2.2.2.2.2.1,(Int.ofNat (List.length x4.2.2.2.2.2.2.2.2.2.2.2.2.2.1)),(0:Int),x4.2)) fun x5=>
     aL (F3 ((2:Int),x5.2.2.2.2.2.2.2.2.2.2.2.2.1,x5.1,x5.2.1,x5.2.2.1,x5.2.2.2.1,x5.2.2.2.2.1,x5.2.2.2.2.2.1,x5.2.2.2.2.2.2.1,x5.2.2.2.2.2.2.2.1,x5.2.2.2.2.2.2.2.2.1,x5.2.2.2.2.2.2.2.2.2.1,x5.2.2.2.2.2.2.2.2.2.2.1,x5.2.2.2.2.2.2.2.2.2.2.2.1,())) fun x6=>
     some (true,x6.2)
    ))))
def auN(c0:BO)(c1:ph)(c2:JO)(c3:JI)(c4:uc)(M11:JH)(M19:JG):ph:=⟨yB (MG c0.F c1.F c2.F c3.F c4.F M11.L M19.L),pB Tryz.func140 103 (kD c0 (kB c1 (kB c2 (kB c3 (kB c4 k0))))) e0 1 (sS (sC M11 (sC M19 l0))) fun d=>aGm⟩
def wD:Nat->ph
 |0=>mk0 Tryz.func140 aGm aGm|k+1=>auN Kf (wD k) Yt Yl wF (auz (wD k)) (auy (wD k))
def uB(k:Nat):qv:=(wD k).F
def JN:ph:=wD NN
def Me:qv:=JN.F
abbrev DR:Lay:=⟨[(0,.ptr 0 0)],jK,5⟩
abbrev Mf:List (Ev.Ex×Lay):=[(.ret,⟨[(0,.bool)],jK,5⟩)]
abbrev Yv:=be DR Mf
abbrev JQ:=Kb 102 1 DR 1 Mf
abbrev Mg:Lay:=⟨[(3,.func 140 [.ptr 0 0] []),(11,.I),(12,.I)],jK,5⟩
abbrev C8:List (Ev.Ex×Lay):=[(.ret,⟨[(2,.bool)],jK,5⟩),((.exit 0),⟨[],jK,5⟩)]
abbrev Yu:=be Mg C8
abbrev JP:=Ld 5 20 (cw [0] (bL Tryz.f102)) Mg C8
def MT(F0:qv)(t11 t12 aM:Int)(aS:io)(aI:bi)(aN aP bf:io)(az:bv)(aJ:bi)(b1:io)(b2:ce)(b3 b4:io):am Mg C8:=
 br (iL t12 t11)
 (
  aL (F0 (t12,aM,aS,aI,aN,aP,bf,az,aJ,b1,b2,b3,b4,())) fun x0=>
  br (Bool.not x0.1)
  (
   aGu (.inl (false,x0.2)))
  (
   aGt (t11,(ol (t12+(1:Int))),x0.2)))
 (
  aGu (.inr (aM,aS,aI,aN,aP,bf,az,aJ,b1,b2,b3,b4,())))
def auR(c0:ph) :JP:=cH (mK (MT c0.F)) (pL (kB c0 k0) e0 1 l0 fun d=>aGm)
def auQ:JP:=auR JN
def Zhi:Yu:=bu (mK (MT Me)) NN
def Zm5(F0:qv)(L3:Yu)(aM:Int)(aS:io)(aI:bi)(aN aP bf:io)(az:bv)(aJ:bi)(b1:io)(b2:ce)(b3 b4:io):Option (Out Mf):=
 aL (L3 ((Int.ofNat b1.length),(0:Int),aM,aS,aI,aN,aP,bf,az,aJ,b1,b2,b3,b4,())) fun x0=>
 (match x0 with|.inl x1=>some x1|.inr x1=>some (true,x1)
 )
def auT(c0:ph)(M3:JP):JQ:=⟨eJ (Zm5 c0.F M3.L),pB Tryz.func102 20 (kB c0 k0) e0 1 (sS (sC M3 l0)) fun d=>aGm⟩
def Yw:JQ:=auT JN auQ
def Zhj:Yv:=Yw.F
abbrev Zjf:Lay:=⟨[(0,.agg jI)],[],0⟩
abbrev MK:List (Ev.Ex×Lay):=[(.ret,⟨[(0,.ptr 0 0)],jK,5⟩)]
abbrev YV:=be Zjf MK
abbrev Kg:=Kb 101 1 Zjf 1 MK
abbrev ME:Lay:=ads
abbrev Mv:List (Ev.Ex×Lay):=[((.exit 6),⟨[(3,.ptr 0 0)],jK,5⟩)]
abbrev YH:=be ME Mv
abbrev J1:=Ld 0 103 (cw [2] (bL Tryz.f101)) ME Mv
abbrev Mq:Lay:=⟨[(3,.ptr 0 0),(7,.I),(77,.hd 2 ae),(78,.I),(79,.I),(86,.fz .I),(87,.I),(88,.I)],jK,5⟩
abbrev Mm:List (Ev.Ex×Lay):=[((.exit 8),ads)]
abbrev JY:=be Mq Mm
abbrev J0:=Ld 0 103 (cw [2,0] (bL Tryz.f101)) Mq Mm
abbrev ML:Lay:=adt
abbrev MC:List (Ev.Ex×Lay):=[((.exit 2),⟨[(3,.ptr 0 0)],jK,5⟩)]
abbrev YN:=be ML MC
abbrev J9:=Ld 0 103 (cw [1] (bL Tryz.f101)) ML MC
abbrev Mr:Lay:=⟨[(1,.ptr 0 0),(3,.ptr 1 0),(5,.I),(46,.I),(47,.I),(56,.I),(57,.I)],Cv,6⟩
abbrev Mn:List (Ev.Ex×Lay):=[((.exit 4),adt)]
abbrev JZ:=be Mr Mn
abbrev J2:=Ld 0 103 (cw [1,0] (bL Tryz.f101)) Mr Mn
abbrev MM:Lay:=⟨[(1,.ptr 0 0),(3,.ptr 1 0),(28,.I),(29,.I)],Cv,6⟩
abbrev MD:List (Ev.Ex×Lay):=[((.exit 0),⟨[(1,.ptr 0 0),(3,.ptr 1 0)],Cv,6⟩)]
abbrev YO:=be MM MD
abbrev YP:=Ld 0 103 (cw [0] (bL Tryz.f101)) MM MD
def DA(t28 t29 aM:Int)(aS:io)(aI:bi)(aN aP bf:io)(az:bv)(aJ:bi)(ij:Int)(ik:io)(im:bi)(gO iI od:io)(oe:bv)(og:bi)(b2:io)(b3:ce)(b4 b5:io):am MM MD:=
 br (iL t29 t28)
 (
  aq (room 24 (List.length (ap b3 ((false,(0:Int),t29,())::[]))))<|
  aGt (t28,(ol (t29+(1:Int))),aM,aS,aI,aN,aP,bf,az,aJ,ij,ik,im,gO,iI,od,oe,og,b2,(ap b3 ((false,(0:Int),t29,())::[])),b4,b5,()))
 (
  aGu (aM,aS,aI,aN,aP,bf,az,aJ,ij,ik,im,gO,iI,od,oe,og,b2,b3,b4,b5,()))
def au9  :YP:=cH (vi DA) (pL k0 e0 1 l0 fun d=>aGm)
def Du:YO:=bu (vi DA) NN
def Dx(t5 t46 t47 t56 t57 aM:Int)(aS:io)(aI:bi)(aN aP bf:io)(az:bv)(aJ:bi)(ij:Int)(ik:io)(im:bi)(gO iI od:io)(oe:bv)(og:bi)(b2:io)(b3:ce)(b4 b5:io):am Mr Mn:=
 br (iL t57 t56)
 (
  aq (room 24 (List.length (ap b3 ((true,t5,t57,())::[]))))<|
  aGt (t5,t46,t47,t56,(ol (t57+(1:Int))),aM,aS,aI,aN,aP,bf,az,aJ,ij,ik,im,gO,iI,od,oe,og,b2,(ap b3 ((true,t5,t57,())::[])),b4,b5,()))
 (
  aGu (t46,t47,aM,aS,aI,aN,aP,bf,az,aJ,ij,ik,im,gO,iI,od,oe,og,b2,b3,b4,b5,()))
def YJ  :J2:=cH (fun d=>yB (eJ Dx d) (fe d)) (pL k0 e0 1 l0 fun d=>aGm)
def Dn:JZ:=bu (fun d=>yB (eJ Dx d) (fe d)) NN
def Dz(L11:JZ)(t46 t47 aM:Int)(aS:io)(aI:bi)(aN aP bf:io)(az:bv)(aJ:bi)(ij:Int)(ik:io)(im:bi)(gO iI od:io)(oe:bv)(og:bi)(b2:io)(b3:ce)(b4 b5:io):am ML MC:=
 br (iL t47 t46)
 (
  aq (ar t47 az.length)<|
  aL (L11 (t47,t46,t47,(Int.ofNat (List.length (gt aj az t47).2.2.2.1)),(0:Int),aM,aS,aI,aN,aP,bf,az,aJ,ij,ik,im,gO,iI,od,oe,og,b2,b3,b4,b5,())) fun x0=>
  aGt (x0.1,(ol (md x0.2.1 (1:Int))),x0.2.2))
 (
  aGu (ij,ik,im,gO,iI,od,oe,og,b2,b3,b4,b5,()))
def ava(M11:J2):J9:=cH (vi (Dz M11.L)) (pL k0 e0 1 (sC M11 l0) fun d=>aGm)
def au8:J9:=ava  YJ
def Ds:YN:=bu (vi (Dz Dn)) NN
def Dv(t7 t78 t79:Int)(t86:io)(t87 t88 aM:Int)(aS:io)(aI:bi)(aN aP bf:io)(az:bv)(aJ:bi)(b1:io)(b2:ce)(b3 b4:io):am Mq Mm:=
 br (iL t88 t87)
 (
  aq (ar t88 t86.length)<|
  aq (ar (gt .I t86 t88) b1.length)<|
  aGt (t7,t78,t79,t86,t87,(ol (t88+(1:Int))),aM,aS,aI,aN,aP,bf,az,aJ,(List.set b1 (Int.toNat (gt .I t86 t88)) (ol (t7+(1:Int)))),b2,b3,b4,()))
 (
  aGu (t78,t79,aM,aS,aI,aN,aP,bf,az,aJ,b1,b2,b3,b4,()))
def YI  :J0:=cH (EF Dv) (pL k0 e0 1 l0 fun d=>aGm)
def Dm:JY:=bu (EF Dv) NN
def Dw(F0:wE)(L20:JY)(t78 t79 aM:Int)(aS:io)(aI:bi)(aN aP bf:io)(az:bv)(aJ:bi)(b1:io)(b2:ce)(b3 b4:io):am ME Mv:=
 br (iL t79 t78)
 (
  aq (ar t79 b2.length)<|
  aL (F0 ((gt ae b2 t79).1,(gt ae b2 t79).2.1,(gt ae b2 t79).2.2.1,aM,aS,aI,aN,aP,bf,az,aJ,b1,b2,b3,b4,())) fun x0=>
  aL (L20 (t79,t78,t79,x0.1,(Int.ofNat (List.length x0.1)),(0:Int),x0.2)) fun x1=>
  aGt (x1.1,(ol (md x1.2.1 (1:Int))),x1.2.2))
 (
  aGu (aM,aS,aI,aN,aP,bf,az,aJ,b1,b2,b3,b4,()))
def au2(c0:uc)(M20:J0):J1:=cH (mK (Dw c0.F M20.L)) (pL (kB c0 k0) e0 1 (sC M20 l0) fun d=>aGm)
def au1:J1:=au2 wF YI
def Dq:YH:=bu (mK (Dw xB Dm)) NN
def MY(F0:wE)(L3:YO)(L8:YN)(L11:JZ)(L17:YH)(L20:JY)(gU:Int)(sj:io)(sk:bi)(xl xm xn:io)(xp:bv)(uv:bi):Option (Out MK):=
 aq (both (iE (0:Int) (ol (gU+(1:Int)))) (both (iE (ol (gU+(1:Int))) (ol (gU+(1:Int)))) (iE ((Int.ofNat 8)*(ol (gU+(1:Int)))) (281474976710656:Int))))<|
 aq (both (iE (0:Int) (ol (gU+(1:Int)))) (both (iE (ol (gU+(1:Int))) (ol (gU+(1:Int)))) (iE ((Int.ofNat 1)*(ol (gU+(1:Int)))) (281474976710656:Int))))<|
 aq (both (iE (0:Int) (ol (gU+(1:Int)))) (both (iE (ol (gU+(1:Int))) (ol (gU+(1:Int)))) (iE ((Int.ofNat 8)*(ol (gU+(1:Int)))) (281474976710656:Int))))<|
 aL (L3 ((Int.ofNat uv.length),(0:Int),gU,sj,sk,xl,xm,xn,xp,uv,gU,sj,sk,xl,xm,xn,xp,uv,(List.replicate (Int.toNat (ol (gU+(1:Int)))) (Sh.zero .I)),[],(List.replicate (Int.toNat (ol (gU+(1:Int)))) (Sh.zero (.int .u8))),(List.replicate (Int.toNat (ol (gU+(1:Int)))) (Sh.zero .I)),())) fun x0=>
 aL (L8 ((Int.ofNat (List.length x0.2.2.2.2.2.2.1)),(0:Int),x0)) fun x1=>
 aL (L17 ((Int.ofNat (List.length x1.2.2.2.2.2.2.2.2.2.1)),(0:Int),x1)) fun x2=>
 some x2
def avi(c0:uc)(M3:YP)(M8:J9)(M11:J2)(M17:J1)(M20:J0):Kg:=⟨u8 (MY c0.F M3.L M8.L M11.L M17.L M20.L),pB Tryz.func101 103 (kB c0 k0) e0 1 (sS (sC M3 (sC M8 (sC M17 l0)))) fun d=>aGm⟩
def YW:Kg:=avi wF au9 au8 YJ au1 YI
def Zo9:YV:=YW.F
abbrev Zjg:Lay:=⟨[(0,.agg jI)],[],0⟩
abbrev MN:List (Ev.Ex×Lay):=[(.ret,⟨[(0,.cX),(1,.I)],[],0⟩),(.ret,⟨[(0,.ptr 0 0),(1,.I)],jK,5⟩)]
abbrev Kh:=be Zjg MN
abbrev BP:=Kb 59 1 Zjg 2 MN
def Zw8(F0:avk)(F1:Yv)(F2:YV)(gU:Int)(sj:io)(sk:bi)(xl xm xn:io)(xp:bv)(uv:bi):Option (Out MN):=
 aL (F0 ((gU,sj,sk,xl,xm,xn,xp,uv,()),())) fun x0=>
 br (Bool.not (iQ x0.1 (0:Int)))
 (
  aGt (x0.1,()))
 (
  aL (F2 (gU,sj,sk,xl,xm,xn,xp,uv,())) fun x1=>
  aL (F1 x1) fun x2=>
  br (Bool.not x2.1)
  (
   aGt ((8:Int),()))
  (
   aGu ((0:Int),x2.2)))
def avj(c0:YY)(c1:JQ)(c2:Kg) :BP:=⟨u8 (Zw8 c0.F c1.F c2.F),pB Tryz.func59 17 (kD c0 (kB c1 (kB c2 k0))) e0 1 (sS l0) fun d=>aGm⟩
def Ki:BP:=avj avl Yw YW
def xL:Kh:=Ki.F
abbrev Zq5:List Sh:=[bD]
abbrev MW:List Sh:=[.I]
abbrev atL:=TL Zq5->Option (TL MW)
abbrev XY:=Kd 26 Zq5 MW
def Zul(F0:Kh)(a0:Sh.T bD):Option (TL MW):=
 aL (F0 a0) fun x0=>
 (match x0 with|.inl x1=>some (x1.1,())|.inr x1=>some (x1.1,())
 )
def avd(c0:BP) :XY:=⟨u1 (Zul c0.F),pD Tryz.func26 11 (kB c0 k0) e0 1 (sS l0) fun d=>aGm⟩
def X3:XY:=avd Ki
def Zfn:atL:=X3.F
