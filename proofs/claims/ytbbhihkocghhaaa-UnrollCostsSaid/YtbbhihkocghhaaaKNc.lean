import Derived.Test.YtbbhihkocghhaaaKMf
import Derived.Test.YtbbhihkocghhaaaKNa
set_option linter.all false
section
namespace Go.Proofs.Ytbbhihkocghhaaa.V
open Go Go.RowKit Go.Proofs.Ytbbhihkocghhaaa.Pl
def j7(x:ag.T):d9:=⟨x.1,x.2.1,x.2.2.1⟩
def lf(x:ag.T):fe:=⟨x.1,x.2.1,x.2.2.1⟩
def om(x:bK.T):fQ:=⟨x.1,x.2.1⟩
def ph(x:bj.T):qM:=⟨x.1,x.2.1,x.2.2.1⟩
def lx(x:aj.T):cP:=⟨x.1,x.2.1,x.2.2.1,x.2.2.2.1.map om,x.2.2.2.2.1.map ph⟩
def kC(x:bB.T):ba:=⟨x.1,x.2.1,x.2.2.1.map j7,x.2.2.2.1,x.2.2.2.2.1,x.2.2.2.2.2.1,x.2.2.2.2.2.2.1.map lx,x.2.2.2.2.2.2.2.1.map lf⟩
def cG(x:d9):ag.T:=(x.var,x.next,x.init,())
def cF(x:fe):ag.T:=(x.var,x.a,x.b,())
def cp(x:fQ):bK.T:=(x.var,x.addr,())
def cS(x:qM):bj.T:=(x.on,x.addr,x.data,())
def aM(x:cP):aj.T:=(x.addr,x.word,x.any,x.reads.map cp,x.writes.map cS,())
def cx(x:ba):bB.T:=(x.vars,x.bk,x.az.map cG,x.bL,x.bP,x.constraints,x.aa.map aM,x.ai.map cF,())
theorem map_id'{α β:Type}{f:α->β}{g:β->α}(h:∀x,g (f x)=x):∀L:List α,(L.map f).map g=L
 |[]=>rfl|x::L=>by simp only[Pi,h,map_id' h L]
theorem Uf(a b:Int)(c:Bool)(d:List bK.T)(e:List bj.T):((a,b,c,(d.map om).map cp,(e.map ph).map cS,()):Int×Int×Bool×List bK.T×List bj.T×Unit)=(a,b,c,d,e,()):=by rw[map_id' (f:=om) (g:=cp) (fun x=>rfl),map_id' (f:=ph) (g:=cS) (fun x=>rfl)]
theorem XQ(x:aj.T):aM (lx x)=x:=Uf x.1 x.2.1 x.2.2.1 x.2.2.2.1 x.2.2.2.2.1
theorem Uk(a:Int)(b:io)(c:List ag.T)(d e f:io)(g:List aj.T)(h:List ag.T) :
  ((a,b,(c.map j7).map cG,d,e,f,(g.map lx).map aM,(h.map lf).map cF,()):Int×io×List ag.T×io×io×io×List aj.T×List ag.T×Unit)=(a,b,c,d,e,f,g,h,()):=by
 rw[map_id' (f:=j7) (g:=cG) (fun x=>rfl),map_id' (f:=lf) (g:=cF) (fun x=>rfl),map_id' (f:=lx) (g:=aM) XQ]
theorem Qj(x:bB.T):cx (kC x)=x:=Uk x.1 x.2.1 x.2.2.1 x.2.2.2.1 x.2.2.2.2.1 x.2.2.2.2.2.1 x.2.2.2.2.2.2.1 x.2.2.2.2.2.2.2.1
theorem XR(x:cP):lx (aM x)=x:=by obtain⟨a,b,c,d,e⟩:=x;show(⟨a,b,c,(d.map cp).map om,(e.map cS).map ph⟩:cP)=_;rw[map_id' (f:=cp) (g:=om) (fun x=>rfl),map_id' (f:=cS) (g:=ph) (fun x=>rfl)]
theorem nX(x:ba):kC (cx x)=x:=by obtain⟨a,b,c,d,e,f,g,h⟩:=x;show(⟨a,b,(c.map cG).map j7,d,e,f,(g.map aM).map lx,(h.map cF).map lf⟩:ba)=_;rw[map_id' (f:=cG) (g:=j7) (fun x=>rfl),map_id' (f:=cF) (g:=lf) (fun x=>rfl),map_id' (f:=aM) (g:=lx) XR]
variable{A:Nat->Prop}{w:World}{s:Sh}{L:List s.T}{V:Value}
theorem ru(h:Cs w A (.sl s) L [V]) :
  ∃a cap X,V=.slice a L.length cap/\aV (Cs w A s) L X/\Sl w w.heap.size s.size a L.length cap X:=by
 obtain⟨a,len,cap,e1,rfl,e3,e4⟩:=h;simp only[abK,abj]at e1;subst e1;by_cases hL:L=[]
 .subst hL;exact⟨a,cap,[],rfl,rfl,⟨acv,fun h=>absurd h acv⟩,e3,Fn _⟩
 .obtain⟨b,o,X,rfl,q2,q3,c,ty,fr,q4,q5⟩:=e4 hL;refine⟨_,cap,X,rfl,q3,⟨aV.length (fun x c=>Cs.length) q3,fun _=>⟨_,rfl,gW q4,fun j u hj=>?_⟩⟩,e3,Fn _⟩;have:=q5 j u hj;rw[show(⟨b,o,none⟩:Addr).add j=⟨b,o+j,none⟩from by simp[Ev.dk]];simp only[World.cell?,q4,abh,GE,abu];exact this
theorem Bs{α:Type}{R:α->kw->Prop}{g:α->kw}(h:∀x c,R x c->c=g x):∀{L:List α}{X:kw},aV R L X->X=L.flatMap g
 |[],X,q=>q|x::L,X,⟨c,r,e,q,t⟩=>by rw[e,h x c q,Bs h t];rfl
variable{cs:kw}
theorem tS{d:TL []}(h:fg w A [] d cs):cs=[]:=h
theorem dR{l:List Sh}{d:TL (s::l)}(h:fg w A (s::l) d cs):∃c r,cs=c++r/\Cs w A s d.1 c/\fg w A l d.2 r:=h
variable{c:kw}
theorem jT(h:Cs w A (.sl s) L c):∃V,c=[V]/\Cs w A (.sl s) L [V]:=by obtain⟨a,len,cap,e1,q⟩:=h;exact⟨_,e1,a,len,cap,rfl,q⟩
theorem BP{α β γ:Type}{f:α->γ}{g:β->γ}{L:List α}{M:List β}(h:L.map f=M.map g):M.length=L.length:=by have:=abp List.length h;rw[aT,aT]at this;exact this.symm
theorem Mc:∀L:io,L.flatMap (fun n=>[Value.int .i64 n])=ints L
 |[]=>rfl|x::L=>by have:=Mc L;unfold ints at this |-;rw[GT,this];rfl
theorem pc{L:io}(h:Cs w A (.sl .I) L c):∃a cap,c=[.slice a L.length cap]/\Sl w w.heap.size 1 a L.length cap (ints L):=by
 obtain⟨V,rfl,h⟩:=jT h;obtain⟨a,cap,X,rfl,h1,h2⟩:=ru h;have:X=ints L:=by have:=Bs (g:=fun n=>[Value.int .i64 n]) (fun x c q=>q) h1;rw[this];exact Mc L
 subst this;exact⟨a,cap,rfl,h2⟩
theorem U9{x:ag.T}(h:Cs w A ag x c):c=(j7 x).cells:=by obtain⟨c1,r1,rfl,h1,q1⟩:=dR h;obtain⟨c2,r2,rfl,h2,q2⟩:=dR q1;obtain⟨c3,r3,rfl,h3,q3⟩:=dR q2;rw[tS q3,show c1=_ from h1,show c2=_ from h2,show c3=_ from h3];rfl
theorem Mk{L:List ag.T}(h:Cs w A (.sl ag) L c):∃a cap,c=[.slice a (L.map j7).length cap]/\Sl w w.heap.size 3 a (L.map j7).length cap ((L.map j7).flatMap d9.cells):=by obtain⟨V,rfl,h⟩:=jT h;obtain⟨a,cap,X,rfl,h1,h2⟩:=ru h;have:=Bs (g:=fun x=>(j7 x).cells) (fun x c q=>U9 q) h1;refine⟨a,cap,acv,?_⟩;rw[aT,abe,<-this];exact h2
theorem TK{L:List ag.T}(h:Cs w A (.sl ag) L c):∃a cap,c=[.slice a (L.map lf).length cap]/\Sl w w.heap.size 3 a (L.map lf).length cap ((L.map lf).flatMap fe.cells):=by obtain⟨a,cap,e,h⟩:=Mk h;rw[aT]at e h |-;exact⟨a,cap,e,by rw[abe]at h |-;exact h⟩
theorem Ll{w:World}{A:Nat->Prop}:∀{L:List bK.T}{X:kw},aV (Cs w A bK) L X->∃Rs:List de,Rs.map de.d=L.map om/\X=Rs.flatMap de.cells/\∀r∈Rs,r.bT w w.heap.size
 |[],X,h=>⟨[],rfl,h,fun r hr=>by cases hr⟩
 |x::L,X,⟨c,r,e,q,t⟩=>by
  obtain⟨Rs,k1,k2,k3⟩:=Ll t;obtain⟨c1,r1,rfl,h1,q1⟩:=dR q;obtain⟨c2,r2,rfl,h2,q2⟩:=dR q1;obtain⟨a,cap,rfl,hs⟩:=pc h2;refine⟨⟨x.1,a,cap,x.2.1⟩::Rs,by simp only[Pi,k1];rfl,?_,?_⟩
  .rw[e,tS q2,show c1=_ from h1,k2];rfl
  .intro r hr;rcases BY.1 hr with rfl|hr
   .exact hs
   .exact k3 r hr
theorem Ku{w:World}{A:Nat->Prop}:∀{L:List bj.T}{X:kw},aV (Cs w A bj) L X->∃Rs:List eI,Rs.map eI.d=L.map ph/\X=Rs.flatMap eI.cells/\∀r∈Rs,r.bT w w.heap.size
 |[],X,h=>⟨[],rfl,h,fun r hr=>by cases hr⟩
 |x::L,X,⟨c,r,e,q,t⟩=>by
  obtain⟨Rs,k1,k2,k3⟩:=Ku t;obtain⟨c1,r1,rfl,h1,q1⟩:=dR q;obtain⟨c2,r2,rfl,h2,q2⟩:=dR q1;obtain⟨c3,r3,rfl,h3,q3⟩:=dR q2;obtain⟨a,cap,rfl,hs⟩:=pc h2;obtain⟨a',cap',rfl,hs'⟩:=pc h3;refine⟨⟨x.1,a,cap,x.2.1,a',cap',x.2.2.1⟩::Rs,by simp only[Pi,k1];rfl,?_,?_⟩
  .rw[e,tS q3,show c1=_ from h1,k2];rfl
  .intro r hr;rcases BY.1 hr with rfl|hr
   .exact⟨hs,hs'⟩
   .exact k3 r hr
theorem Mg{w:World}{A:Nat->Prop}:∀{L:List aj.T}{X:kw},aV (Cs w A aj) L X->∃Ms:List bo,Ms.map bo.d=L.map lx/\X=Ms.flatMap bo.cells/\∀m∈Ms,m.bT w w.heap.size
 |[],X,h=>⟨[],rfl,h,fun r hr=>by cases hr⟩
 |x::L,X,⟨c,r,e,q,t⟩=>by
  obtain⟨Ms,k1,k2,k3⟩:=Mg t;obtain⟨c1,r1,rfl,h1,q1⟩:=dR q;obtain⟨c2,r2,rfl,h2,q2⟩:=dR q1;obtain⟨c3,r3,rfl,h3,q3⟩:=dR q2;obtain⟨c4,r4,rfl,h4,q4⟩:=dR q3;obtain⟨c5,r5,rfl,h5,q5⟩:=dR q4;obtain⟨V4,rfl,h4⟩:=jT h4;obtain⟨V5,rfl,h5⟩:=jT h5;obtain⟨a,cap,X4,rfl,f4,s4⟩:=ru h4;obtain⟨a',cap',X5,rfl,f5,s5⟩:=ru h5;obtain⟨Rs,rk,rfl,rok⟩:=Ll f4;obtain⟨Ws,wk,rfl,wok⟩:=Ku f5;have l4:x.2.2.2.1.length=Rs.length:=BP rk;have l5:x.2.2.2.2.1.length=Ws.length:=BP wk;have l4':List.length x.2.2.2.1=Rs.length:=l4;refine⟨⟨x.1,x.2.1,x.2.2.1,a,cap,Rs,a',cap',Ws⟩::Ms,?_,?_,?_⟩
  .simp only[Pi,k1,bo.d,rk,wk];rfl
  .rw[e,tS q5,show c1=_ from h1,show c2=_ from h2,show c3=_ from h3,k2];show[_,_,_,Value.slice a (List.length x.2.2.2.1) cap,Value.slice a' (List.length x.2.2.2.2.1) cap']++_=_;rw[l4,l5];rfl
  .intro m hm;rcases BY.1 hm with rfl|hm
   .exact⟨by rw[<-l4];exact s4,rok,by rw[<-l5];exact s5,wok⟩
   .exact k3 m hm
theorem qW{d:bB.T}(h:cH w A bB d V):∃N:aX,N.v=V/\N.d=kC d/\N.bT w w.heap.size:=by
 obtain⟨h,hagg⟩:=h;obtain⟨c1,r1,e1,h1,q1⟩:=dR h;obtain⟨c2,r2,rfl,h2,q2⟩:=dR q1;obtain⟨c3,r3,rfl,h3,q3⟩:=dR q2;obtain⟨c4,r4,rfl,h4,q4⟩:=dR q3;obtain⟨c5,r5,rfl,h5,q5⟩:=dR q4;obtain⟨c6,r6,rfl,h6,q6⟩:=dR q5;obtain⟨c7,r7,rfl,h7,q7⟩:=dR q6;obtain⟨c8,r8,rfl,h8,q8⟩:=dR q7;obtain⟨a2,p2,rfl,s2⟩:=pc h2;obtain⟨a3,p3,rfl,s3⟩:=Mk h3;obtain⟨a4,p4,rfl,s4⟩:=pc h4;obtain⟨a5,p5,rfl,s5⟩:=pc h5;obtain⟨a6,p6,rfl,s6⟩:=pc h6;obtain⟨V7,rfl,h7⟩:=jT h7;obtain⟨a7,p7,X7,rfl,f7,s7⟩:=ru h7;obtain⟨Ms,k1,rfl,k3⟩:=Mg f7;obtain⟨a8,p8,rfl,s8⟩:=TK h8;have l7:List.length d.2.2.2.2.2.2.1=Ms.length:=BP k1;refine⟨⟨d.1,a2,p2,d.2.1,a3,p3,d.2.2.1.map j7,a4,p4,d.2.2.2.1,a5,p5,d.2.2.2.2.1,a6,p6,d.2.2.2.2.2.1,a7,p7,Ms,a8,p8,d.2.2.2.2.2.2.2.1.map lf⟩,?_,?_,?_⟩
 .cases V with|agg cs=>have e1':cs.toList=c1++_:=e1;rw[tS q8,show c1=_ from h1,l7]at e1';show Value.agg _=Value.agg cs;congr 1;apply IS.1;rw[e1'];rfl|_=>cases hagg
 .simp only[aX.d,k1];rfl
 .exact⟨s2,s3,s4,s5,s6,by rw[<-l7];exact s7,k3,s8⟩
instance i64Dec(x:Int):Decidable (cB x):=inferInstanceAs (Decidable (_/\_))
instance memFitDec(m:cP):Decidable (oA m):=decidable_of_iff
 ((cB m.word/\m.word<=4000)/\cB m.addr/\m.reads.length<=100/\m.writes.length<=100/\(∀r∈m.reads,r.addr.length<=4000/\-1099511627776<=r.var/\r.var<=1099511627776/\∀x∈r.addr,cB x) /\
  ∀r∈m.writes,r.addr.length<=4000/\r.data.length<=4000/\cB r.on/\(∀x∈r.addr,cB x)/\∀x∈r.data,cB x)
 ⟨fun⟨a,b,c,d,e,f⟩=>⟨a,b,c,d,e,f⟩,fun⟨a,b,c,d,e,f⟩=>⟨a,b,c,d,e,f⟩⟩
instance fitDec(n:ba):Decidable (Fit n):=decidable_of_iff
 (cB n.vars/\(n.bk.length<=4000/\∀x∈n.bk,cB x)/\(n.az.length<=4000/\∀l∈n.az,cB l.var/\cB l.next/\cB l.init)/\(n.bL.length<=4000/\∀x∈n.bL,cB x) /\
  (n.bP.length<=4000/\∀x∈n.bP,cB x)/\(n.constraints.length<=4000/\∀x∈n.constraints,cB x)/\(n.aa.length<=100/\∀m∈n.aa,oA m)/\(n.ai.length<=4000/\∀a∈n.ai,cB a.var/\cB a.a/\cB a.b))
 ⟨fun⟨a,b,c,d,e,f,g,h⟩=>⟨a,b,c,d,e,f,g,h⟩,fun⟨a,b,c,d,e,f,g,h⟩=>⟨a,b,c,d,e,f,g,h⟩⟩
def EX(n:ba):Bool:=decide (Fit n)
variable{n:ba}
theorem TV(h:EX n=true):Fit n:=WF h
theorem Lf(h:Fit n):EX n=true:=gO h
def nF:TL [bB]->Option (TL [.I]):=fun d=>match EX (kC d.1)with|true=>some (eh (kC d.1),())|false=>none
theorem Zwd{f:FuncId}{fn:Func}{c:Code}(h1:Try.prog.funcs[f]?=some fn)(h2:(fn.name == "runtime.NumGoroutine")=false)(h3:fn.body=some c)
  (h:∀(N:aX) (w:World),N.bT w w.heap.size->Fit N.d->Calls Try.prog f #[N.v] w fun e w'=>e=.returned (.int .i64 (eh N.d))/\Below w.heap.size w w'):Comes Try.prog f [bB] [.I] nF:=by
 refine⟨⟨fn,c,h1,h2,h3⟩,?_⟩;intro d x hx w A args hA ha;unfold nF at hx;split at hx<;>cases hx;rename_i hf;obtain⟨V,r,rfl,hd,hr⟩:=ha;have:r=[]:=hr;subst this;obtain⟨N,rfl,hN,bM⟩:=qW hd;have hf:=TV hf;rw[<-hN]at hf;refine(h N w bM hf).mono ?_;rintro e w' ⟨rfl,hb⟩;exact⟨[.int .i64 (eh N.d)],rfl,hb,_,[],rfl,⟨by rw[hN];rfl,rfl⟩,rfl⟩
theorem Zwv:Comes Try.prog 64 [bB] [.I] nF:=Zwd (fn:=Try.f64) (c:=bC Try.f64) Try.func64 acu acu Kw
abbrev aam:=TL [bB]->Option (TL [.I])
abbrev OZ:=Kd 64 [bB] [.I]
def aan:OZ:=⟨nF,Zwv⟩
set_option maxRecDepth 1000000
abbrev Ql:List Sh:=[.I]
abbrev GA:List Sh:=[.I]
abbrev Ew:=TL Ql->Option (TL GA)
abbrev xu:=Kd 55 Ql GA
def GL(a0:Int):Option (TL GA):=some ((Int.fdiv a0 (HPow.hPow (2:Int) (Min.min (Int.toNat (1:Int)) 64))),())
def aaw  :xu:=⟨u1 GL,pD Try.func55 5 k0 e0 1 (sS l0) fun d=>acu⟩
def Ey:xu:=aaw
def yK:Ew:=Ey.F
abbrev Gp:ae:=⟨[(1,.I),(2,.ptr 0 0),(4,.hd 1 .I),(16,.I),(17,.I)],[(0,.cells [.I,.I,.bool,.fz bK,.fz bj] 73),(1,.arr .I 3)],2⟩
abbrev Gl:List (Ev.Ex×ae):=[((.exit 0),⟨[(4,.hd 0 .I)],[(0,.arr .I 3)],1⟩)]
abbrev O0:=be Gp Gl
abbrev O1:=Ld 0 33 (bZ [0] (bC Try.f34)) Gp Gl
def yZ(t1 t16 t17 aF aN:Int)(aC:Bool)(aG:eq)(aJ:ge)(b1:io):am Gp Gl:=
 br (iL t17 t16)
 (
  ak (al t1 aG.length)<|
  ak (room 8 (List.length (ap b1 ((mt (lw (gt bK aG t1).1 t17))::[]))))<|
  acB (t1,t16,(mt (t17+(1:Int))),aF,aN,aC,aG,aJ,(ap b1 ((mt (lw (gt bK aG t1).1 t17))::[])),()))
 (
  acC (b1,()))
def aao  :O1:=cj (u9 yZ) (pL k0 e0 1 l0 fun d=>acu)
def Gs:O0:=bh (u9 yZ) NN
abbrev Qk:List Sh:=[aj,.I]
abbrev Gz:List Sh:=[(.sl .I)]
abbrev O5:=TL Qk->Option (TL Gz)
abbrev ED:=Kd 34 Qk Gz
def GK(L4:O0)(a0:Sh.T aj)(a1:Int):Option (TL Gz):=
 br (iL a1 (0:Int))
 (
  some ([],()))
 (
  br (bw false true (iE (Int.ofNat (List.length a0.2.2.2.1)) a1))
  (
   some ([],()))
  (
   aE (L4 (a1,a0.2.1,(0:Int),a0.1,a0.2.1,a0.2.2.1,a0.2.2.2.1,a0.2.2.2.2.1,[],())) fun x0=>
   some (x0.1,())))
def aav(M4:O1):ED:=⟨u2 (GK M4.L),pD Try.func34 33 k0 e0 1 (sS (sC M4 l0)) fun d=>acu⟩
def EG:ED:=aav  aao
def Gv:O5:=EG.F
abbrev iP:List (Nat×LO):=[(0,.cells [.I,.fz .I,.fz ag,.fz .I,.fz .I,.fz .I,.fz aj,.fz ag,.hd 1 .I,.hd 2 af,.hd 3 (.int .u8),.hd 4 .I] 93),(1,.arr .I 3),(2,.arr af 68),(3,.arr (.int .u8) 5),(4,.arr .I 3)]
abbrev xP:List (Nat×LO):=[(0,.cells iN 27),(1,.cells [.I,.fz .I,.fz ag,.fz .I,.fz .I,.fz .I,.fz aj,.fz ag,.hd 2 .I,.hd 3 af,.hd 4 (.int .u8),.hd 5 .I] 93),(2,.arr .I 3),(3,.arr af 68),(4,.arr (.int .u8) 5),(5,.arr .I 3)]
abbrev xQ:List (Nat×LO):=[(0,.cells [.fz .I] 22),(1,.cells [.ptr 2 0] 87),(2,.cells [.I,.fz .I,.fz ag,.fz .I,.fz .I,.fz .I,.fz aj,.fz ag,.hd 3 .I,.hd 4 af,.hd 5 (.int .u8),.hd 6 .I] 93),(3,.arr .I 3),(4,.arr af 68),(5,.arr (.int .u8) 5),(6,.arr .I 3)]
abbrev Fa:List (Nat×LO):=[(0,.cells [.I,.fz .I,.fz ag,.fz .I,.fz .I,.fz .I,.fz aj,.fz ag,.hd 1 .I,.hd 2 af,.hd 3 (.int .u8),.hd 4 .I] 93),(1,.arr .I 3),(2,.arr af 68),(3,.arr (.int .u8) 5),(4,.arr .I 3),(5,.cells [.ptr 0 0] 87),(6,.cells [.fz .I] 22)]
abbrev PD:ae:=⟨[(3,.ptr 0 0),(77,.hd 2 af),(78,.I),(79,.I)],iP,5⟩
abbrev PF:ae:=⟨[(1,.ptr 0 0),(3,.ptr 1 0),(46,.I),(47,.I)],xP,6⟩
abbrev PG:ae:=⟨[(0,.ptr 0 0),(1,.agg [.bool,.I,.I])],iP,5⟩
abbrev PW:ae:=PG
abbrev Fl:List (Ev.Ex×ae):=[(.ret,⟨[(0,.fz .I)],iP,5⟩)]
abbrev On:=be PW Fl
abbrev DW:=Kb 96 2 PW 1 Fl
def Gg(oL:Bool)(jt jI aF:Int)(aN:io)(aC:bi)(aG aJ aY:io)(ar:bv)(aD:bi)(b1:io)(b2:ce)(b3 b4:io):Option (Out Fl):=
 br oL
 (
  ak (al jt ar.length)<|
  ak (al jI (List.length (gt aj ar jt).2.2.2.1))<|
  some ((gt bK (gt aj ar jt).2.2.2.1 jI).2.1,aF,aN,aC,aG,aJ,aY,ar,aD,b1,b2,b3,b4,()))
 (
  ak (al jI aD.length)<|
  some (((gt ag aD jI).2.1::((gt ag aD jI).2.2.1::[])),aF,aN,aC,aG,aJ,aY,ar,aD,b1,b2,b3,b4,()))
def ZR  :DW:=⟨gH Gg,pB Try.func96 37 k0 e0 1 (sS l0) fun d=>acu⟩
def Oo:DW:=ZR
def PY:On:=Oo.F
abbrev PS:ae:=PG
abbrev Fi:List (Ev.Ex×ae):=[(.ret,⟨[(0,.fz .I)],iP,5⟩)]
abbrev rX:=be PS Fi
abbrev pR:=Kb 47 2 PS 1 Fi
def tg(F0:O5)(oL:Bool)(jt jI aF:Int)(aN:io)(aC:bi)(aG aJ aY:io)(ar:bv)(aD:bi)(b1:io)(b2:ce)(b3 b4:io):Option (Out Fi):=
 br oL
 (
  ak (al jt ar.length)<|
  aE (F0 ((gt aj ar jt),jI,())) fun x0=>
  some (x0.1,aF,aN,aC,aG,aJ,aY,ar,aD,b1,b2,b3,b4,()))
 (
  ak (al jI aD.length)<|
  some (((gt ag aD jI).1::[]),aF,aN,aC,aG,aJ,aY,ar,aD,b1,b2,b3,b4,()))
def ZW(c0:ED) :pR:=⟨gH (tg c0.F),pB Try.func47 30 (kD c0 k0) e0 1 (sS l0) fun d=>acu⟩
def rY:pR:=ZW EG
def sW:rX:=rY.F
abbrev PV:ae:=⟨[(0,.int .u8),(1,.ptr 0 0),(2,.ptr 1 0)],xQ,7⟩
abbrev Fj:List (Ev.Ex×ae):=[(.ret,⟨[],xQ,7⟩)]
abbrev Of:=be PV Fj
abbrev DQ:=Kb 95 3 PV 0 Fj
abbrev Ft:ae:=⟨[(0,.int .u8),(2,.ptr 1 0),(6,.fz .I),(7,.I),(8,.I)],xQ,7⟩
abbrev Fq:List (Ev.Ex×ae):=[((.exit 0),⟨[],xQ,7⟩)]
abbrev N8:=be Ft Fq
abbrev N9:=Ld 7 20 (bZ [0] (bC Try.f95)) Ft Fq
def yA(t0:Int)(t6:io)(t7 t8:Int)(aF:io)(bI:Int)(bN:io)(bO:bi)(bH bA b9:io)(ca:bv)(cd:bi)(b3:io)(b4:ce)(b5 b6:io):am Ft Fq:=
 br (iL t8 t7)
 (
  ak (al t8 t6.length)<|
  ak (al (gt .I t6 t8) b5.length)<|
  acB (t0,t6,t7,(mt (t8+(1:Int))),aF,bI,bN,bO,bH,bA,b9,ca,cd,b3,b4,(List.set b5 (Int.toNat (gt .I t6 t8)) t0),b6,()))
 (
  acC (aF,bI,bN,bO,bH,bA,b9,ca,cd,b3,b4,b5,b6,()))
def Zw  :N9:=cj (uf yA) (pL k0 e0 1 l0 fun d=>acu)
def FI:N8:=bh (uf yA) NN
def FV(L1:N8)(t0:Int)(aF:io)(bI:Int)(bN:io)(bO:bi)(bH bA b9:io)(ca:bv)(cd:bi)(b3:io)(b4:ce)(b5 b6:io):Option (Out Fj):=
 aE (L1 (t0,aF,(Int.ofNat aF.length),(0:Int),aF,bI,bN,bO,bH,bA,b9,ca,cd,b3,b4,b5,b6,())) fun x0=>
 some x0
def ZE(M1:N9):DQ:=⟨kp (FV M1.L),pB Try.func95 20 k0 e0 1 (sS (sC M1 l0)) fun d=>acu⟩
def Og:DQ:=ZE  Zw
def PX:Of:=Og.F
abbrev Fh:ae:=⟨[(0,.ptr 0 0),(1,.I)],iP,5⟩
abbrev xW:List (Ev.Ex×ae):=[(.ret,⟨[(0,.bool)],iP,5⟩)]
abbrev nj:=be Fh xW
abbrev mh:=Kb 81 2 Fh 1 xW
abbrev Fv:ae:=⟨[(2,.ptr 5 0),(7,.func 95 [] [.ptr 6 0,.ptr 5 0]),(8,.I),(86,.fz .I),(87,.I),(88,.I)],Fa,7⟩
abbrev Fs:List (Ev.Ex×ae):=[((.exit 3),⟨[(7,.func 95 [] [.ptr 5 0,.ptr 6 0])],[(0,.cells [.I,.fz .I,.fz ag,.fz .I,.fz .I,.fz .I,.fz aj,.fz ag,.hd 1 .I,.hd 2 af,.hd 3 (.int .u8),.hd 4 .I] 93),(1,.arr .I 3),(2,.arr af 68),(3,.arr (.int .u8) 5),(4,.arr .I 3),(5,.cells [.fz .I] 22),(6,.cells [.ptr 0 0] 87)],7⟩)]
abbrev Od:=be Fv Fs
abbrev DO:=Ld 5 103 (bZ [1] (bC Try.f81)) Fv Fs
abbrev yp:ae:=⟨[(2,.ptr 5 0),(6,.ptr 6 0),(7,.func 95 [] [.ptr 6 0,.ptr 5 0]),(8,.I),(64,.fz .I),(65,.I),(66,.I)],Fa,7⟩
abbrev yl:List (Ev.Ex×ae):=[(.ret,⟨[(4,.bool)],iP,5⟩),((.exit 1),⟨[(2,.ptr 5 0),(6,.ptr 6 0),(7,.func 95 [] [.ptr 6 0,.ptr 5 0]),(8,.I)],Fa,7⟩)]
abbrev Oe:=be yp yl
abbrev DP:=Ld 5 103 (bZ [0] (bC Try.f81)) yp yl
def Gn(F0:Ew)(F1:nj)(t8:Int)(t64:io)(t65 t66 aF:Int)(aN:io)(aC:bi)(aG aJ aY:io)(ar:bv)(aD:bi)(b1:io)(b2:ce)(b3 b4 sr:io):am yp yl:=
 br (iL t66 t65)
 (
  ak (al t66 t64.length)<|
  aE (F0 ((gt .I t64 t66),())) fun x0=>
  aE (F1 (x0.1,aF,aN,aC,aG,aJ,aY,ar,aD,b1,b2,b3,b4,())) fun x1=>
  br (Bool.not x1.1)
  (
   acC (.inl (false,x1.2)))
  (
   ak (al x0.1 (List.length x1.2.2.2.2.2.2.2.2.2.2.2.2.1))<|
   acB ((j9 (iL t8 (gt .I x1.2.2.2.2.2.2.2.2.2.2.2.2.1 x0.1)) (gt .I x1.2.2.2.2.2.2.2.2.2.2.2.2.1 x0.1) t8),t64,t65,(mt (t66+(1:Int))),x1.2.1,x1.2.2.1,x1.2.2.2.1,x1.2.2.2.2.1,x1.2.2.2.2.2.1,x1.2.2.2.2.2.2.1,x1.2.2.2.2.2.2.2.1,x1.2.2.2.2.2.2.2.2.1,x1.2.2.2.2.2.2.2.2.2.1,x1.2.2.2.2.2.2.2.2.2.2.1,x1.2.2.2.2.2.2.2.2.2.2.2.1,x1.2.2.2.2.2.2.2.2.2.2.2.2.1,sr,())))
 (
  acC (.inr (t8,aF,aN,aC,aG,aJ,aY,ar,aD,b1,b2,b3,b4,sr,())))
def ZD(c0:xu)(c1:mh) :DP:=cj (uf (Gn c0.F c1.F)) (pL (kD c0 (kB c1 k0)) e0 1 l0 fun d=>acu)
def ZB(s:mh):DP:=ZD Ey s
def FL(F:nj):Oe:=bh (fun d=>Gn yK F  d.1 d.2.1 d.2.2.1 d.2.2.2.1 d.2.2.2.2.1 d.2.2.2.2.2.1 d.2.2.2.2.2.2.1 d.2.2.2.2.2.2.2.1 d.2.2.2.2.2.2.2.2.1 d.2.2.2.2.2.2.2.2.2.1 d.2.2.2.2.2.2.2.2.2.2.1 d.2.2.2.2.2.2.2.2.2.2.2.1 d.2.2.2.2.2.2.2.2.2.2.2.2.1 d.2.2.2.2.2.2.2.2.2.2.2.2.2.1 d.2.2.2.2.2.2.2.2.2.2.2.2.2.2.1 d.2.2.2.2.2.2.2.2.2.2.2.2.2.2.2.1 d.2.2.2.2.2.2.2.2.2.2.2.2.2.2.2.2.1) NN
def yE(t8:Int)(t86:io)(t87 t88 aF:Int)(aN:io)(aC:bi)(aG aJ aY:io)(ar:bv)(aD:bi)(b1:io)(b2:ce)(b3 b4 sr:io):am Fv Fs:=
 br (iL t88 t87)
 (
  ak (al t88 t86.length)<|
  ak (al (gt .I t86 t88) b4.length)<|
  acB (t8,t86,t87,(mt (t88+(1:Int))),aF,aN,aC,aG,aJ,aY,ar,aD,b1,b2,b3,(List.set b4 (Int.toNat (gt .I t86 t88)) (mt (t8+(1:Int)))),sr,()))
 (
  acC (aF,aN,aC,aG,aJ,aY,ar,aD,b1,b2,b3,b4,sr,()))
def ZC  :DO:=cj (uf yE) (pL k0 e0 1 l0 fun d=>acu)
def ZA(s:mh):DO:=ZC
def FK(F:nj):Od:=bh (fun d=>yE   d.1 d.2.1 d.2.2.1 d.2.2.2.1 d.2.2.2.2.1 d.2.2.2.2.2.1 d.2.2.2.2.2.2.1 d.2.2.2.2.2.2.2.1 d.2.2.2.2.2.2.2.2.1 d.2.2.2.2.2.2.2.2.2.1 d.2.2.2.2.2.2.2.2.2.2.1 d.2.2.2.2.2.2.2.2.2.2.2.1 d.2.2.2.2.2.2.2.2.2.2.2.2.1 d.2.2.2.2.2.2.2.2.2.2.2.2.2.1 d.2.2.2.2.2.2.2.2.2.2.2.2.2.2.1 d.2.2.2.2.2.2.2.2.2.2.2.2.2.2.2.1 d.2.2.2.2.2.2.2.2.2.2.2.2.2.2.2.2.1) NN
def Gd(F0:Ew)(F1:nj)(F2:On)(F3:Of)(F4:rX)(L11:Oe)(L19:Od)(t1 aF:Int)(aN:io)(aC:bi)(aG aJ aY:io)(ar:bv)(aD:bi)(b1:io)(b2:ce)(b3 b4:io):Option (Out xW):=
 ak (al t1 b1.length)<|
 br (iQ (gt .I b1 t1) (0:Int))
 (
  some (true,aF,aN,aC,aG,aJ,aY,ar,aD,b1,b2,b3,b4,()))
 (
  ak (al t1 b3.length)<|
  br (bw false true (iQ (gt (.int .u8) b3 t1) (2:Int)))
  (
   some (true,aF,aN,aC,aG,aJ,aY,ar,aD,b1,b2,b3,b4,()))
  (
   ak (al t1 b3.length)<|
   br (iQ (gt (.int .u8) b3 t1) (1:Int))
   (
    some (false,aF,aN,aC,aG,aJ,aY,ar,aD,b1,b2,b3,b4,()))
   (
    ak (al t1 b1.length)<|
    ak (al (mt (@HSub.hSub (Int) (Int) (Int) _ (gt .I b1 t1) (1:Int))) b2.length)<|
    aE (F4 ((gt af b2 (mt (@HSub.hSub (Int) (Int) (Int) _ (gt .I b1 t1) (1:Int)))).1,(gt af b2 (mt (@HSub.hSub (Int) (Int) (Int) _ (gt .I b1 t1) (1:Int)))).2.1,(gt af b2 (mt (@HSub.hSub (Int) (Int) (Int) _ (gt .I b1 t1) (1:Int)))).2.2.1,aF,aN,aC,aG,aJ,aY,ar,aD,b1,b2,b3,b4,())) fun x0=>
    aE (F3 ((1:Int),x0)) fun x1=>
    aE (F2 ((gt af b2 (mt (@HSub.hSub (Int) (Int) (Int) _ (gt .I b1 t1) (1:Int)))).1,(gt af b2 (mt (@HSub.hSub (Int) (Int) (Int) _ (gt .I b1 t1) (1:Int)))).2.1,(gt af b2 (mt (@HSub.hSub (Int) (Int) (Int) _ (gt .I b1 t1) (1:Int)))).2.2.1,x1.2)) fun x2=>
    aE (L11 ((0:Int),x2.1,(Int.ofNat (List.length x2.1)),(0:Int),x2.2.1,x2.2.2.1,x2.2.2.2.1,x2.2.2.2.2.1,x2.2.2.2.2.2.1,x2.2.2.2.2.2.2.1,x2.2.2.2.2.2.2.2.1,x2.2.2.2.2.2.2.2.2.1,x2.2.2.2.2.2.2.2.2.2.1,x2.2.2.2.2.2.2.2.2.2.2.1,x2.2.2.2.2.2.2.2.2.2.2.2.1,x2.2.2.2.2.2.2.2.2.2.2.2.2.1,x1.1,())) fun x3=>
    (match x3 with
    |.inl x4=>some x4|.inr x4=>
     aE (L19 (x4.1,x4.2.2.2.2.2.2.2.2.2.2.2.2.2.1,(Int.ofNat (List.length x4.2.2.2.2.2.2.2.2.2.2.2.2.2.1)),(0:Int),x4.2)) fun x5=>
     aE (F3 ((2:Int),x5.2.2.2.2.2.2.2.2.2.2.2.2.1,x5.1,x5.2.1,x5.2.2.1,x5.2.2.2.1,x5.2.2.2.2.1,x5.2.2.2.2.2.1,x5.2.2.2.2.2.2.1,x5.2.2.2.2.2.2.2.1,x5.2.2.2.2.2.2.2.2.1,x5.2.2.2.2.2.2.2.2.2.1,x5.2.2.2.2.2.2.2.2.2.2.1,x5.2.2.2.2.2.2.2.2.2.2.2.1,())) fun x6=>
     some (true,x6.2)
    ))))
def ZP(c0:xu)(c1:mh)(c2:DW)(c3:DQ)(c4:pR)(M11:DP)(M19:DO):mh:=⟨ue (Gd c0.F c1.F c2.F c3.F c4.F M11.L M19.L),pB Try.func81 103 (kD c0 (kB c1 (kB c2 (kB c3 (kB c4 k0))))) e0 1 (sS (sC M11 (sC M19 l0))) fun d=>acu⟩
def rW:Nat->mh
 |0=>Rl Try.func81 acu acu|k+1=>ZP Ey (rW k) Oo Og rY (ZB (rW k)) (ZA (rW k))
def qg(k:Nat):nj:=(rW k).F
def DV:mh:=rW NN
def FE:nj:=DV.F
abbrev PZ:ae:=⟨[(0,.ptr 0 0)],iP,5⟩
abbrev FF:List (Ev.Ex×ae):=[(.ret,⟨[(0,.bool)],iP,5⟩)]
abbrev Ot:=be PZ FF
abbrev DY:=Kb 66 1 PZ 1 FF
abbrev FG:ae:=⟨[(3,.func 81 [.ptr 0 0] []),(11,.I),(12,.I)],iP,5⟩
abbrev yw:List (Ev.Ex×ae):=[(.ret,⟨[(2,.bool)],iP,5⟩),((.exit 0),⟨[],iP,5⟩)]
abbrev Oq:=be FG yw
abbrev DX:=Ld 5 20 (bZ [0] (bC Try.f66)) FG yw
def Gr(F0:nj)(t11 t12 aF:Int)(aN:io)(aC:bi)(aG aJ aY:io)(ar:bv)(aD:bi)(b1:io)(b2:ce)(b3 b4:io):am FG yw:=
 br (iL t12 t11)
 (
  aE (F0 (t12,aF,aN,aC,aG,aJ,aY,ar,aD,b1,b2,b3,b4,())) fun x0=>
  br (Bool.not x0.1)
  (
   acC (.inl (false,x0.2)))
  (
   acB (t11,(mt (t12+(1:Int))),x0.2)))
 (
  acC (.inr (aF,aN,aC,aG,aJ,aY,ar,aD,b1,b2,b3,b4,())))
def ZT(c0:mh) :DX:=cj (kp (Gr c0.F)) (pL (kB c0 k0) e0 1 l0 fun d=>acu)
def ZS:DX:=ZT DV
def Zhi:Oq:=bh (kp (Gr FE)) NN
def Zm5(F0:nj)(L3:Oq)(aF:Int)(aN:io)(aC:bi)(aG aJ aY:io)(ar:bv)(aD:bi)(b1:io)(b2:ce)(b3 b4:io):Option (Out FF):=
 aE (L3 ((Int.ofNat b1.length),(0:Int),aF,aN,aC,aG,aJ,aY,ar,aD,b1,b2,b3,b4,())) fun x0=>
 (match x0 with|.inl x1=>some x1|.inr x1=>some (true,x1)
 )
def ZV(c0:mh)(M3:DX):DY:=⟨dI (Zm5 c0.F M3.L),pB Try.func66 20 (kB c0 k0) e0 1 (sS (sC M3 l0)) fun d=>acu⟩
def Ou:DY:=ZV DV ZS
def Zhj:Ot:=Ou.F
abbrev Qe:ae:=⟨[(0,.agg iN)],[],0⟩
abbrev Gh:List (Ev.Ex×ae):=[(.ret,⟨[(0,.ptr 0 0)],iP,5⟩)]
abbrev OW:=be Qe Gh
abbrev Ez:=Kb 65 1 Qe 1 Gh
abbrev Gb:ae:=PD
abbrev FW:List (Ev.Ex×ae):=[((.exit 6),⟨[(3,.ptr 0 0)],iP,5⟩)]
abbrev OH:=be Gb FW
abbrev Ei:=Ld 0 103 (bZ [2] (bC Try.f65)) Gb FW
abbrev FQ:ae:=⟨[(3,.ptr 0 0),(7,.I),(77,.hd 2 af),(78,.I),(79,.I),(86,.fz .I),(87,.I),(88,.I)],iP,5⟩
abbrev FM:List (Ev.Ex×ae):=[((.exit 8),PD)]
abbrev Ef:=be FQ FM
abbrev Eh:=Ld 0 103 (bZ [2,0] (bC Try.f65)) FQ FM
abbrev Gi:ae:=PF
abbrev F9:List (Ev.Ex×ae):=[((.exit 2),⟨[(3,.ptr 0 0)],iP,5⟩)]
abbrev OO:=be Gi F9
abbrev Es:=Ld 0 103 (bZ [1] (bC Try.f65)) Gi F9
abbrev FR:ae:=⟨[(1,.ptr 0 0),(3,.ptr 1 0),(5,.I),(46,.I),(47,.I),(56,.I),(57,.I)],xP,6⟩
abbrev FN:List (Ev.Ex×ae):=[((.exit 4),PF)]
abbrev Eg:=be FR FN
abbrev Ej:=Ld 0 103 (bZ [1,0] (bC Try.f65)) FR FN
abbrev Gj:ae:=⟨[(1,.ptr 0 0),(3,.ptr 1 0),(28,.I),(29,.I)],xP,6⟩
abbrev Ga:List (Ev.Ex×ae):=[((.exit 0),⟨[(1,.ptr 0 0),(3,.ptr 1 0)],xP,6⟩)]
abbrev OP:=be Gj Ga
abbrev OQ:=Ld 0 103 (bZ [0] (bC Try.f65)) Gj Ga
def yU(t28 t29 aF:Int)(aN:io)(aC:bi)(aG aJ aY:io)(ar:bv)(aD:bi)(fU:Int)(fV:io)(fW:bi)(fG gz lj:io)(ln:bv)(lr:bi)(b2:io)(b3:ce)(b4 b5:io):am Gj Ga:=
 br (iL t29 t28)
 (
  ak (room 24 (List.length (ap b3 ((false,(0:Int),t29,())::[]))))<|
  acB (t28,(mt (t29+(1:Int))),aF,aN,aC,aG,aJ,aY,ar,aD,fU,fV,fW,fG,gz,lj,ln,lr,b2,(ap b3 ((false,(0:Int),t29,())::[])),b4,b5,()))
 (
  acC (aF,aN,aC,aG,aJ,aY,ar,aD,fU,fV,fW,fG,gz,lj,ln,lr,b2,b3,b4,b5,()))
def aab  :OQ:=cj (qR yU) (pL k0 e0 1 l0 fun d=>acu)
def yN:OP:=bh (qR yU) NN
def yR(t5 t46 t47 t56 t57 aF:Int)(aN:io)(aC:bi)(aG aJ aY:io)(ar:bv)(aD:bi)(fU:Int)(fV:io)(fW:bi)(fG gz lj:io)(ln:bv)(lr:bi)(b2:io)(b3:ce)(b4 b5:io):am FR FN:=
 br (iL t57 t56)
 (
  ak (room 24 (List.length (ap b3 ((true,t5,t57,())::[]))))<|
  acB (t5,t46,t47,t56,(mt (t57+(1:Int))),aF,aN,aC,aG,aJ,aY,ar,aD,fU,fV,fW,fG,gz,lj,ln,lr,b2,(ap b3 ((true,t5,t57,())::[])),b4,b5,()))
 (
  acC (t46,t47,aF,aN,aC,aG,aJ,aY,ar,aD,fU,fV,fW,fG,gz,lj,ln,lr,b2,b3,b4,b5,()))
def OJ  :Ej:=cj (fun d=>ue (dI yR d) (dU d)) (pL k0 e0 1 l0 fun d=>acu)
def yJ:Eg:=bh (fun d=>ue (dI yR d) (dU d)) NN
def yT(L11:Eg)(t46 t47 aF:Int)(aN:io)(aC:bi)(aG aJ aY:io)(ar:bv)(aD:bi)(fU:Int)(fV:io)(fW:bi)(fG gz lj:io)(ln:bv)(lr:bi)(b2:io)(b3:ce)(b4 b5:io):am Gi F9:=
 br (iL t47 t46)
 (
  ak (al t47 ar.length)<|
  aE (L11 (t47,t46,t47,(Int.ofNat (List.length (gt aj ar t47).2.2.2.1)),(0:Int),aF,aN,aC,aG,aJ,aY,ar,aD,fU,fV,fW,fG,gz,lj,ln,lr,b2,b3,b4,b5,())) fun x0=>
  acB (x0.1,(mt (lw x0.2.1 (1:Int))),x0.2.2))
 (
  acC (fU,fV,fW,fG,gz,lj,ln,lr,b2,b3,b4,b5,()))
def aac(M11:Ej):Es:=cj (qR (yT M11.L)) (pL k0 e0 1 (sC M11 l0) fun d=>acu)
def aaa:Es:=aac  OJ
def yM:OO:=bh (qR (yT yJ)) NN
def yP(t7 t78 t79:Int)(t86:io)(t87 t88 aF:Int)(aN:io)(aC:bi)(aG aJ aY:io)(ar:bv)(aD:bi)(b1:io)(b2:ce)(b3 b4:io):am FQ FM:=
 br (iL t88 t87)
 (
  ak (al t88 t86.length)<|
  ak (al (gt .I t86 t88) b1.length)<|
  acB (t7,t78,t79,t86,t87,(mt (t88+(1:Int))),aF,aN,aC,aG,aJ,aY,ar,aD,(List.set b1 (Int.toNat (gt .I t86 t88)) (mt (t7+(1:Int)))),b2,b3,b4,()))
 (
  acC (t78,t79,aF,aN,aC,aG,aJ,aY,ar,aD,b1,b2,b3,b4,()))
def OI  :Eh:=cj (zL yP) (pL k0 e0 1 l0 fun d=>acu)
def yI:Ef:=bh (zL yP) NN
def yQ(F0:rX)(L20:Ef)(t78 t79 aF:Int)(aN:io)(aC:bi)(aG aJ aY:io)(ar:bv)(aD:bi)(b1:io)(b2:ce)(b3 b4:io):am Gb FW:=
 br (iL t79 t78)
 (
  ak (al t79 b2.length)<|
  aE (F0 ((gt af b2 t79).1,(gt af b2 t79).2.1,(gt af b2 t79).2.2.1,aF,aN,aC,aG,aJ,aY,ar,aD,b1,b2,b3,b4,())) fun x0=>
  aE (L20 (t79,t78,t79,x0.1,(Int.ofNat (List.length x0.1)),(0:Int),x0.2)) fun x1=>
  acB (x1.1,(mt (lw x1.2.1 (1:Int))),x1.2.2))
 (
  acC (aF,aN,aC,aG,aJ,aY,ar,aD,b1,b2,b3,b4,()))
def Z4(c0:pR)(M20:Eh):Ei:=cj (kp (yQ c0.F M20.L)) (pL (kB c0 k0) e0 1 (sC M20 l0) fun d=>acu)
def Z3:Ei:=Z4 rY OI
def yL:OH:=bh (kp (yQ sW yI)) NN
def Gw(F0:rX)(L3:OP)(L8:OO)(L11:Eg)(L17:OH)(L20:Ef)(fJ:Int)(oJ:io)(oK:bi)(sL sM sN:io)(sO:bv)(qd:bi):Option (Out Gh):=
 ak (both (iE (0:Int) (mt (fJ+(1:Int)))) (both (iE (mt (fJ+(1:Int))) (mt (fJ+(1:Int)))) (iE ((Int.ofNat 8)*(mt (fJ+(1:Int)))) (281474976710656:Int))))<|
 ak (both (iE (0:Int) (mt (fJ+(1:Int)))) (both (iE (mt (fJ+(1:Int))) (mt (fJ+(1:Int)))) (iE ((Int.ofNat 1)*(mt (fJ+(1:Int)))) (281474976710656:Int))))<|
 ak (both (iE (0:Int) (mt (fJ+(1:Int)))) (both (iE (mt (fJ+(1:Int))) (mt (fJ+(1:Int)))) (iE ((Int.ofNat 8)*(mt (fJ+(1:Int)))) (281474976710656:Int))))<|
 aE (L3 ((Int.ofNat qd.length),(0:Int),fJ,oJ,oK,sL,sM,sN,sO,qd,fJ,oJ,oK,sL,sM,sN,sO,qd,(List.replicate (Int.toNat (mt (fJ+(1:Int)))) (Sh.zero .I)),[],(List.replicate (Int.toNat (mt (fJ+(1:Int)))) (Sh.zero (.int .u8))),(List.replicate (Int.toNat (mt (fJ+(1:Int)))) (Sh.zero .I)),())) fun x0=>
 aE (L8 ((Int.ofNat (List.length x0.2.2.2.2.2.2.1)),(0:Int),x0)) fun x1=>
 aE (L17 ((Int.ofNat (List.length x1.2.2.2.2.2.2.2.2.2.1)),(0:Int),x1)) fun x2=>
 some x2
def aak(c0:pR)(M3:OQ)(M8:Es)(M11:Ej)(M17:Ei)(M20:Eh):Ez:=⟨u8 (Gw c0.F M3.L M8.L M11.L M17.L M20.L),pB Try.func65 103 (kB c0 k0) e0 1 (sS (sC M3 (sC M8 (sC M17 l0)))) fun d=>acu⟩
def OX:Ez:=aak rY aab aaa OJ Z3 OI
def Zo9:OW:=OX.F
abbrev Qf:ae:=⟨[(0,.agg iN)],[],0⟩
abbrev Gk:List (Ev.Ex×ae):=[(.ret,⟨[(0,.cK),(1,.I)],[],0⟩),(.ret,⟨[(0,.ptr 0 0),(1,.I)],iP,5⟩)]
abbrev EA:=be Qf Gk
abbrev xv:=Kb 43 1 Qf 2 Gk
def Zw8(F0:aam)(F1:Ot)(F2:OW)(fJ:Int)(oJ:io)(oK:bi)(sL sM sN:io)(sO:bv)(qd:bi):Option (Out Gk):=
 aE (F0 ((fJ,oJ,oK,sL,sM,sN,sO,qd,()),())) fun x0=>
 br (Bool.not (iQ x0.1 (0:Int)))
 (
  acB (x0.1,()))
 (
  aE (F2 (fJ,oJ,oK,sL,sM,sN,sO,qd,())) fun x1=>
  aE (F1 x1) fun x2=>
  br (Bool.not x2.1)
  (
   acB ((8:Int),()))
  (
   acC ((0:Int),x2.2)))
def aal(c0:OZ)(c1:DY)(c2:Ez) :xv:=⟨u8 (Zw8 c0.F c1.F c2.F),pB Try.func43 17 (kD c0 (kB c1 (kB c2 k0))) e0 1 (sS l0) fun d=>acu⟩
def EB:xv:=aal aan Ou OX
def ti:EA:=EB.F
abbrev Qh:List Sh:=[bB]
abbrev Gu:List Sh:=[.I]
abbrev YP:=TL Qh->Option (TL Gu)
abbrev NV:=Kd 19 Qh Gu
def Zul(F0:EA)(a0:Sh.T bB):Option (TL Gu):=
 aE (F0 a0) fun x0=>
 (match x0 with|.inl x1=>some (x1.1,())|.inr x1=>some (x1.1,())
 )
def aaf(c0:xv) :NV:=⟨u1 (Zul c0.F),pD Try.func19 11 (kB c0 k0) e0 1 (sS l0) fun d=>acu⟩
def N0:NV:=aaf EB
def Zfn:YP:=N0.F
