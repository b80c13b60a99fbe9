import Derived.Test.YtmkbdfidnfmgmaaGreatWMf
import Derived.Test.YtmkbdfidnfmgmaaGreatWNa
set_option linter.all false
section
namespace Go.Proofs.YtmkbdfidnfmgmaaGreat.V
open Go Go.RowKit Go.Proofs.YtmkbdfidnfmgmaaGreat.Pl
def oe(x:af.T):dJ:=⟨x.1,x.2.1,x.2.2.1⟩
def qa(x:af.T):dU:=⟨x.1,x.2.1,x.2.2.1⟩
def uz(x:cF.T):jz:=⟨x.1,x.2.1⟩
def vf(x:bD.T):l6:=⟨x.1,x.2.1,x.2.2.1⟩
def qe(x:ah.T):cf:=⟨x.1,x.2.1,x.2.2.1,x.2.2.2.1.map uz,x.2.2.2.2.1.map vf⟩
def d8(x:cA.T):ak:=⟨x.1,x.2.1,x.2.2.1.map oe,x.2.2.2.1,x.2.2.2.2.1,x.2.2.2.2.2.1,x.2.2.2.2.2.2.1.map qe,x.2.2.2.2.2.2.2.1.map qa⟩
def bq(x:dJ):af.T:=(x.var,x.next,x.init,())
def bc(x:dU):af.T:=(x.var,x.a,x.b,())
def fC(x:jz):cF.T:=(x.var,x.addr,())
def fy(x:l6):bD.T:=(x.on,x.addr,x.data,())
def aI(x:cf):ah.T:=(x.addr,x.word,x.any,x.reads.map fC,x.writes.map fy,())
def bW(x:ak):cA.T:=(x.vars,x.al,x.ag.map bq,x.aZ,x.aN,x.constraints,x.ae.map aI,x.aj.map bc,())
theorem map_id'{α β:Type}{f:α->β}{g:β->α}(h:∀x,g (f x)=x):∀L:List α,(L.map f).map g=L
 |[]=>rfl|x::L=>by simp only[arI,h,map_id' h L]
theorem akf(a b:Int)(c:Bool)(d:List cF.T)(e:List bD.T):((a,b,c,(d.map uz).map fC,(e.map vf).map fy,()):Int×Int×Bool×List cF.T×List bD.T×Unit)=(a,b,c,d,e,()):=by rw[map_id' (f:=uz) (g:=fC) (fun x=>rfl),map_id' (f:=vf) (g:=fy) (fun x=>rfl)]
theorem anI(x:ah.T):aI (qe x)=x:=akf x.1 x.2.1 x.2.2.1 x.2.2.2.1 x.2.2.2.2.1
theorem akk(a:Int)(b:jp)(c:List af.T)(d e f:jp)(g:List ah.T)(h:List af.T) :
  ((a,b,(c.map oe).map bq,d,e,f,(g.map qe).map aI,(h.map qa).map bc,()):Int×jp×List af.T×jp×jp×jp×List ah.T×List af.T×Unit)=(a,b,c,d,e,f,g,h,()):=by
 rw[map_id' (f:=oe) (g:=bq) (fun x=>rfl),map_id' (f:=qa) (g:=bc) (fun x=>rfl),map_id' (f:=qe) (g:=aI) anI]
theorem Jr(x:cA.T):bW (d8 x)=x:=akk x.1 x.2.1 x.2.2.1 x.2.2.2.1 x.2.2.2.2.1 x.2.2.2.2.2.1 x.2.2.2.2.2.2.1 x.2.2.2.2.2.2.2.1
theorem anJ(x:cf):qe (aI x)=x:=by obtain⟨a,b,c,d,e⟩:=x;show(⟨a,b,c,(d.map fC).map uz,(e.map fy).map vf⟩:cf)=_;rw[map_id' (f:=fC) (g:=uz) (fun x=>rfl),map_id' (f:=fy) (g:=vf) (fun x=>rfl)]
theorem lZ(x:ak):d8 (bW x)=x:=by obtain⟨a,b,c,d,e,f,g,h⟩:=x;show(⟨a,b,(c.map bq).map oe,d,e,f,(g.map aI).map qe,(h.map bc).map qa⟩:ak)=_;rw[map_id' (f:=bq) (g:=oe) (fun x=>rfl),map_id' (f:=bc) (g:=qa) (fun x=>rfl),map_id' (f:=aI) (g:=qe) anJ]
variable{V:Value}{w:World}{A:Nat->Prop}{s:Sh}{L:List s.T}
theorem yO(h:Cs w A (.sl s) L [V]) :
  ∃a cap X,V=.slice a L.length cap/\bK (Cs w A s) L X/\Sl w w.heap.size s.size a L.length cap X:=by
 obtain⟨a,len,cap,e1,rfl,e3,e4⟩:=h;simp only[asH,asY]at e1;subst e1;by_cases hL:L=[]
 .subst hL;exact⟨a,cap,[],rfl,rfl,⟨atQ,fun h=>absurd h atQ⟩,e3,GT _⟩
 .obtain⟨b,o,X,rfl,q2,q3,c,ty,fr,q4,q5⟩:=e4 hL;refine⟨_,cap,X,rfl,q3,⟨bK.length (fun x c=>Cs.length) q3,fun _=>⟨_,rfl,ka q4,fun j u hj=>?_⟩⟩,e3,GT _⟩;have:=q5 j u hj;rw[show(⟨b,o,none⟩:Addr).add j=⟨b,o+j,none⟩from by simp[Ev.ji]];simp only[World.cell?,q4,Option.isSome_none,asz,if_false];exact this
theorem NQ{α:Type}{R:α->pi->Prop}{g:α->pi}(h:∀x c,R x c->c=g x):∀{L:List α}{X:pi},bK R L X->X=L.flatMap g
 |[],X,q=>q|x::L,X,⟨c,r,e,q,t⟩=>by rw[e,h x c q,NQ h t];rfl
variable{cs:pi}
theorem AW{d:TL []}(h:jh w A [] d cs):cs=[]:=h
theorem jQ{l:List Sh}{d:TL (s::l)}(h:jh w A (s::l) d cs):∃c r,cs=c++r/\Cs w A s d.1 c/\jh w A l d.2 r:=h
variable{c:pi}
theorem yH(h:Cs w A (.sl s) L c):∃V,c=[V]/\Cs w A (.sl s) L [V]:=by obtain⟨a,len,cap,e1,q⟩:=h;exact⟨_,e1,a,len,cap,rfl,q⟩
theorem N7{α β γ:Type}{f:α->γ}{g:β->γ}{L:List α}{M:List β}(h:L.map f=M.map g):M.length=L.length:=by have:=PP List.length h;rw[aP,aP]at this;exact this.symm
theorem aa8:∀L:jp,L.flatMap (fun n=>[Value.int .i64 n])=ints L
 |[]=>rfl|x::L=>by have:=aa8 L;unfold ints at this |-;rw[AT,this];rfl
theorem tt{L:jp}(h:Cs w A (.sl .I) L c):∃a cap,c=[.slice a L.length cap]/\Sl w w.heap.size 1 a L.length cap (ints L):=by
 obtain⟨V,rfl,h⟩:=yH h;obtain⟨a,cap,X,rfl,h1,h2⟩:=yO h;have:X=ints L:=by have:=NQ (g:=fun n=>[Value.int .i64 n]) (fun x c q=>q) h1;rw[this];exact aa8 L
 subst this;exact⟨a,cap,rfl,h2⟩
theorem alf{x:af.T}(h:Cs w A af x c):c=(oe x).cells:=by obtain⟨c1,r1,rfl,h1,q1⟩:=jQ h;obtain⟨c2,r2,rfl,h2,q2⟩:=jQ q1;obtain⟨c3,r3,rfl,h3,q3⟩:=jQ q2;rw[AW q3,show c1=_ from h1,show c2=_ from h2,show c3=_ from h3];rfl
theorem abe{L:List af.T}(h:Cs w A (.sl af) L c):∃a cap,c=[.slice a (L.map oe).length cap]/\Sl w w.heap.size 3 a (L.map oe).length cap ((L.map oe).flatMap dJ.cells):=by obtain⟨V,rfl,h⟩:=yH h;obtain⟨a,cap,X,rfl,h1,h2⟩:=yO h;have:=NQ (g:=fun x=>(oe x).cells) (fun x c q=>alf q) h1;refine⟨a,cap,atQ,?_⟩;rw[aP,asn,<-this];exact h2
theorem ajN{L:List af.T}(h:Cs w A (.sl af) L c):∃a cap,c=[.slice a (L.map qa).length cap]/\Sl w w.heap.size 3 a (L.map qa).length cap ((L.map qa).flatMap dU.cells):=by obtain⟨a,cap,e,h⟩:=abe h;rw[aP]at e h |-;exact⟨a,cap,e,by rw[asn]at h |-;exact h⟩
theorem aaC{w:World}{A:Nat->Prop}:∀{L:List cF.T}{X:pi},bK (Cs w A cF) L X->∃Rs:List bF,Rs.map bF.d=L.map uz/\X=Rs.flatMap bF.cells/\∀r∈Rs,r.cY w w.heap.size
 |[],X,h=>⟨[],rfl,h,fun r hr=>by cases hr⟩
 |x::L,X,⟨c,r,e,q,t⟩=>by
  obtain⟨Rs,k1,k2,k3⟩:=aaC t;obtain⟨c1,r1,rfl,h1,q1⟩:=jQ q;obtain⟨c2,r2,rfl,h2,q2⟩:=jQ q1;obtain⟨a,cap,rfl,hs⟩:=tt h2;refine⟨⟨x.1,a,cap,x.2.1⟩::Rs,by simp only[arI,k1];rfl,?_,?_⟩
  .rw[e,AW q2,show c1=_ from h1,k2];rfl
  .intro r hr;rcases GE.1 hr with rfl|hr
   .exact hs
   .exact k3 r hr
theorem ZW{w:World}{A:Nat->Prop}:∀{L:List bD.T}{X:pi},bK (Cs w A bD) L X->∃Rs:List bL,Rs.map bL.d=L.map vf/\X=Rs.flatMap bL.cells/\∀r∈Rs,r.cY w w.heap.size
 |[],X,h=>⟨[],rfl,h,fun r hr=>by cases hr⟩
 |x::L,X,⟨c,r,e,q,t⟩=>by
  obtain⟨Rs,k1,k2,k3⟩:=ZW t;obtain⟨c1,r1,rfl,h1,q1⟩:=jQ q;obtain⟨c2,r2,rfl,h2,q2⟩:=jQ q1;obtain⟨c3,r3,rfl,h3,q3⟩:=jQ q2;obtain⟨a,cap,rfl,hs⟩:=tt h2;obtain⟨a',cap',rfl,hs'⟩:=tt h3;refine⟨⟨x.1,a,cap,x.2.1,a',cap',x.2.2.1⟩::Rs,by simp only[arI,k1];rfl,?_,?_⟩
  .rw[e,AW q3,show c1=_ from h1,k2];rfl
  .intro r hr;rcases GE.1 hr with rfl|hr
   .exact⟨hs,hs'⟩
   .exact k3 r hr
theorem aba{w:World}{A:Nat->Prop}:∀{L:List ah.T}{X:pi},bK (Cs w A ah) L X->∃Ms:List aL,Ms.map aL.d=L.map qe/\X=Ms.flatMap aL.cells/\∀m∈Ms,m.cY w w.heap.size
 |[],X,h=>⟨[],rfl,h,fun r hr=>by cases hr⟩
 |x::L,X,⟨c,r,e,q,t⟩=>by
  obtain⟨Ms,k1,k2,k3⟩:=aba t;obtain⟨c1,r1,rfl,h1,q1⟩:=jQ q;obtain⟨c2,r2,rfl,h2,q2⟩:=jQ q1;obtain⟨c3,r3,rfl,h3,q3⟩:=jQ q2;obtain⟨c4,r4,rfl,h4,q4⟩:=jQ q3;obtain⟨c5,r5,rfl,h5,q5⟩:=jQ q4;obtain⟨V4,rfl,h4⟩:=yH h4;obtain⟨V5,rfl,h5⟩:=yH h5;obtain⟨a,cap,X4,rfl,f4,s4⟩:=yO h4;obtain⟨a',cap',X5,rfl,f5,s5⟩:=yO h5;obtain⟨Rs,rk,rfl,rok⟩:=aaC f4;obtain⟨Ws,wk,rfl,wok⟩:=ZW f5;have l4:x.2.2.2.1.length=Rs.length:=N7 rk;have l5:x.2.2.2.2.1.length=Ws.length:=N7 wk;have l4':List.length x.2.2.2.1=Rs.length:=l4;refine⟨⟨x.1,x.2.1,x.2.2.1,a,cap,Rs,a',cap',Ws⟩::Ms,?_,?_,?_⟩
  .simp only[arI,k1,aL.d,rk,wk];rfl
  .rw[e,AW q5,show c1=_ from h1,show c2=_ from h2,show c3=_ from h3,k2];show[_,_,_,Value.slice a (List.length x.2.2.2.1) cap,Value.slice a' (List.length x.2.2.2.2.1) cap']++_=_;rw[l4,l5];rfl
  .intro m hm;rcases GE.1 hm with rfl|hm
   .exact⟨by rw[<-l4];exact s4,rok,by rw[<-l5];exact s5,wok⟩
   .exact k3 m hm
theorem Ej{d:cA.T}(h:iz w A cA d V):∃N:aT,N.v=V/\N.d=d8 d/\N.cY w w.heap.size:=by
 obtain⟨h,hagg⟩:=h;obtain⟨c1,r1,e1,h1,q1⟩:=jQ h;obtain⟨c2,r2,rfl,h2,q2⟩:=jQ q1;obtain⟨c3,r3,rfl,h3,q3⟩:=jQ q2;obtain⟨c4,r4,rfl,h4,q4⟩:=jQ q3;obtain⟨c5,r5,rfl,h5,q5⟩:=jQ q4;obtain⟨c6,r6,rfl,h6,q6⟩:=jQ q5;obtain⟨c7,r7,rfl,h7,q7⟩:=jQ q6;obtain⟨c8,r8,rfl,h8,q8⟩:=jQ q7;obtain⟨a2,p2,rfl,s2⟩:=tt h2;obtain⟨a3,p3,rfl,s3⟩:=abe h3;obtain⟨a4,p4,rfl,s4⟩:=tt h4;obtain⟨a5,p5,rfl,s5⟩:=tt h5;obtain⟨a6,p6,rfl,s6⟩:=tt h6;obtain⟨V7,rfl,h7⟩:=yH h7;obtain⟨a7,p7,X7,rfl,f7,s7⟩:=yO h7;obtain⟨Ms,k1,rfl,k3⟩:=aba f7;obtain⟨a8,p8,rfl,s8⟩:=ajN h8;have l7:List.length d.2.2.2.2.2.2.1=Ms.length:=N7 k1;refine⟨⟨d.1,a2,p2,d.2.1,a3,p3,d.2.2.1.map oe,a4,p4,d.2.2.2.1,a5,p5,d.2.2.2.2.1,a6,p6,d.2.2.2.2.2.1,a7,p7,Ms,a8,p8,d.2.2.2.2.2.2.2.1.map qa⟩,?_,?_,?_⟩
 .cases V with|agg cs=>have e1':cs.toList=c1++_:=e1;rw[AW q8,show c1=_ from h1,l7]at e1';show Value.agg _=Value.agg cs;congr 1;apply asm.1;rw[e1'];rfl|_=>cases hagg
 .simp only[aT.d,k1];rfl
 .exact⟨s2,s3,s4,s5,s6,by rw[<-l7];exact s7,k3,s8⟩
instance i64Dec(x:Int):Decidable (dD x):=inferInstanceAs (Decidable (_/\_))
instance memFitDec(m:cf):Decidable (zb m):=decidable_of_iff
 ((dD m.word/\m.word<=4000)/\dD m.addr/\m.reads.length<=100/\m.writes.length<=100/\(∀r∈m.reads,r.addr.length<=4000/\-1099511627776<=r.var/\r.var<=1099511627776/\∀x∈r.addr,dD x) /\
  ∀r∈m.writes,r.addr.length<=4000/\r.data.length<=4000/\dD r.on/\(∀x∈r.addr,dD x)/\∀x∈r.data,dD x)
 ⟨fun⟨a,b,c,d,e,f⟩=>⟨a,b,c,d,e,f⟩,fun⟨a,b,c,d,e,f⟩=>⟨a,b,c,d,e,f⟩⟩
instance fitDec(n:ak):Decidable (Fit n):=decidable_of_iff
 (dD n.vars/\(n.al.length<=4000/\∀x∈n.al,dD x)/\(n.ag.length<=4000/\∀l∈n.ag,dD l.var/\dD l.next/\dD l.init)/\(n.aZ.length<=4000/\∀x∈n.aZ,dD x) /\
  (n.aN.length<=4000/\∀x∈n.aN,dD x)/\(n.constraints.length<=4000/\∀x∈n.constraints,dD x)/\(n.ae.length<=100/\∀m∈n.ae,zb m)/\(n.aj.length<=4000/\∀a∈n.aj,dD a.var/\dD a.a/\dD a.b))
 ⟨fun⟨a,b,c,d,e,f,g,h⟩=>⟨a,b,c,d,e,f,g,h⟩,fun⟨a,b,c,d,e,f,g,h⟩=>⟨a,b,c,d,e,f,g,h⟩⟩
def sO(n:ak):Bool:=decide (Fit n)
variable{n:ak}
theorem D9(h:sO n=true):Fit n:=aig h
theorem qW(h:Fit n):sO n=true:=dt h
def ql:TL [cA]->Option (TL [.I]):=fun d=>match sO (d8 d.1)with|true=>some (cZ (d8 d.1),())|false=>none
theorem Zwd{f:FuncId}{fn:Func}{c:Code}(h1:Tryz.prog.funcs[f]?=some fn)(h2:(fn.name == "runtime.NumGoroutine")=false)(h3:fn.body=some c)
  (h:∀(N:aT) (w:World),N.cY w w.heap.size->Fit N.d->Calls Tryz.prog f #[N.v] w fun e w'=>e=.returned (.int .i64 (cZ N.d))/\Below w.heap.size w w'):Comes Tryz.prog f [cA] [.I] ql:=by
 refine⟨⟨fn,c,h1,h2,h3⟩,?_⟩;intro d x hx w A args hA ha;unfold ql at hx;split at hx<;>cases hx;rename_i hf;obtain⟨V,r,rfl,hd,hr⟩:=ha;have:r=[]:=hr;subst this;obtain⟨N,rfl,hN,hok⟩:=Ej hd;have hf:=D9 hf;rw[<-hN]at hf;refine(h N w hok hf).mono ?_;rintro e w' ⟨rfl,hb⟩;exact⟨[.int .i64 (cZ N.d)],rfl,hb,_,[],rfl,⟨by rw[hN];rfl,rfl⟩,rfl⟩
theorem Zwv:Comes Tryz.prog 135 [cA] [.I] ql:=Zwd (fn:=Tryz.f135) (c:=bu Tryz.f135) Tryz.func135 atP atP amz
abbrev aqV:=TL [cA]->Option (TL [.I])
abbrev aeo:=Kd 135 [cA] [.I]
def aqW:aeo:=⟨ql,Zwv⟩
set_option maxRecDepth 1000000
abbrev Zsr:List Sh:=[.I]
abbrev Tb:List Sh:=[.I]
abbrev pX:=TL Zsr->Option (TL Tb)
abbrev oX:=Kd 79 Zsr Tb
def Tj(a0:Int):Option (TL Tb):=some ((Int.fdiv a0 (HPow.hPow (2:Int) (Min.min (Int.toNat (1:Int)) 64))),())
def aq7  :oX:=⟨u1 Tj,pD Tryz.func79 5 k0 e0 1 (sS l0) fun d=>atP⟩
def pY:oX:=aq7
def ph:pX:=pY.F
abbrev SN:ai:=⟨[(1,.I),(2,.ptr 0 0),(4,.hd 1 .I),(16,.I),(17,.I)],[(0,.cells [.I,.I,.bool,.fz cF,.fz bD] 97),(1,.arr .I 3)],2⟩
abbrev SK:List (Ev.Ex×ai):=[((.exit 0),⟨[(4,.hd 0 .I)],[(0,.arr .I 3)],1⟩)]
abbrev aep:=be SN SK
abbrev aeq:=Ld 0 33 (cj [0] (bu Tryz.f108)) SN SK
def Jq(t1 t16 t17 aA aC:Int)(aK:Bool)(aM:ip)(aO:io)(b1:jp):am SN SK:=
 br (iL t17 t16)
 (
  au (aw t1 aM.length)<|
  au (room 8 (List.length (ap b1 ((qr (pp (gt cF aM t1).1 t17))::[]))))<|
  atY (t1,t16,(qr (t17+(1:Int))),aA,aC,aK,aM,aO,(ap b1 ((qr (pp (gt cF aM t1).1 t17))::[])),()))
 (
  atZ (b1,()))
def aqX  :aeq:=cu (u9 Jq) (pL k0 e0 1 l0 fun d=>atP)
def SU:aep:=bp (u9 Jq) NN
abbrev Zsq:List Sh:=[ah,.I]
abbrev Ta:List Sh:=[(.sl .I)]
abbrev G8:=TL Zsq->Option (TL Ta)
abbrev zy:=Kd 108 Zsq Ta
def Ti(L4:aep)(a0:Sh.T ah)(a1:Int):Option (TL Ta):=
 br (iL a1 (0:Int))
 (
  some ([],()))
 (
  br (bP false true (iE (Int.ofNat (List.length a0.2.2.2.1)) a1))
  (
   some ([],()))
  (
   az (L4 (a1,a0.2.1,(0:Int),a0.1,a0.2.1,a0.2.2.1,a0.2.2.2.1,a0.2.2.2.2.1,[],())) fun x0=>
   some (x0.1,())))
def aq6(M4:aeq):zy:=⟨u2 (Ti M4.L),pD Tryz.func108 33 k0 e0 1 (sS (sC M4 l0)) fun d=>atP⟩
def G9:zy:=aq6  aqX
def Az:G8:=G9.F
abbrev lF:List (Nat×LO):=[(0,.cells [.I,.fz .I,.fz af,.fz .I,.fz .I,.fz .I,.fz ah,.fz af,.hd 1 .I,.hd 2 an,.hd 3 (.int .u8),.hd 4 .I] 160),(1,.arr .I 3),(2,.arr an 146),(3,.arr (.int .u8) 5),(4,.arr .I 3)]
abbrev Ip:List (Nat×LO):=[(0,.cells fR 27),(1,.cells [.I,.fz .I,.fz af,.fz .I,.fz .I,.fz .I,.fz ah,.fz af,.hd 2 .I,.hd 3 an,.hd 4 (.int .u8),.hd 5 .I] 160),(2,.arr .I 3),(3,.arr an 146),(4,.arr (.int .u8) 5),(5,.arr .I 3)]
abbrev Iq:List (Nat×LO):=[(0,.cells [.fz .I] 22),(1,.cells [.ptr 2 0] 152),(2,.cells [.I,.fz .I,.fz af,.fz .I,.fz .I,.fz .I,.fz ah,.fz af,.hd 3 .I,.hd 4 an,.hd 5 (.int .u8),.hd 6 .I] 160),(3,.arr .I 3),(4,.arr an 146),(5,.arr (.int .u8) 5),(6,.arr .I 3)]
abbrev RQ:List (Nat×LO):=[(0,.cells [.I,.fz .I,.fz af,.fz .I,.fz .I,.fz .I,.fz ah,.fz af,.hd 1 .I,.hd 2 an,.hd 3 (.int .u8),.hd 4 .I] 160),(1,.arr .I 3),(2,.arr an 146),(3,.arr (.int .u8) 5),(4,.arr .I 3),(5,.cells [.ptr 0 0] 152),(6,.cells [.fz .I] 22)]
abbrev afp:ai:=⟨[(3,.ptr 0 0),(77,.hd 2 an),(78,.I),(79,.I)],lF,5⟩
abbrev afq:ai:=⟨[(1,.ptr 0 0),(3,.ptr 1 0),(46,.I),(47,.I)],Ip,6⟩
abbrev afr:ai:=⟨[(0,.ptr 0 0),(1,.agg [.bool,.I,.I])],lF,5⟩
abbrev Zb1:ai:=afr
abbrev R7:List (Ev.Ex×ai):=[(.ret,⟨[(0,.fz .I)],lF,5⟩)]
abbrev Qs:=be Zb1 R7
abbrev Gp:=Kb 189 2 Zb1 1 R7
def SF(mu:Bool)(jO lW aA:Int)(aC:jp)(aK:bv)(aM aO aQ:jp)(aE:ce)(aG:bv)(b1:jp)(b2:eq)(b3 b4:jp):Option (Out R7):=
 br mu
 (
  au (aw jO aE.length)<|
  au (aw lW (List.length (gt ah aE jO).2.2.2.1))<|
  some ((gt cF (gt ah aE jO).2.2.2.1 lW).2.1,aA,aC,aK,aM,aO,aQ,aE,aG,b1,b2,b3,b4,()))
 (
  au (aw lW aG.length)<|
  some (((gt af aG lW).2.1::((gt af aG lW).2.2.1::[])),aA,aC,aK,aM,aO,aQ,aE,aG,b1,b2,b3,b4,()))
def apU  :Gp:=⟨gm SF,pB Tryz.func189 37 k0 e0 1 (sS l0) fun d=>atP⟩
def Qt:Gp:=apU
def Sb:Qs:=Qt.F
abbrev Za9:ai:=afr
abbrev R5:List (Ev.Ex×ai):=[(.ret,⟨[(0,.fz .I)],lF,5⟩)]
abbrev zq:=be Za9 R5
abbrev wt:=Kb 92 2 Za9 1 R5
def Ah(F0:G8)(mu:Bool)(jO lW aA:Int)(aC:jp)(aK:bv)(aM aO aQ:jp)(aE:ce)(aG:bv)(b1:jp)(b2:eq)(b3 b4:jp):Option (Out R5):=
 br mu
 (
  au (aw jO aE.length)<|
  az (F0 ((gt ah aE jO),lW,())) fun x0=>
  some (x0.1,aA,aC,aK,aM,aO,aQ,aE,aG,b1,b2,b3,b4,()))
 (
  au (aw lW aG.length)<|
  some (((gt af aG lW).1::[]),aA,aC,aK,aM,aO,aQ,aE,aG,b1,b2,b3,b4,()))
def ap6(c0:zy) :wt:=⟨gm (Ah c0.F),pB Tryz.func92 30 (kD c0 k0) e0 1 (sS l0) fun d=>atP⟩
def zs:wt:=ap6 G9
def zZ:zq:=zs.F
abbrev Zaq:ai:=⟨[(0,.int .u8),(1,.ptr 0 0),(2,.ptr 1 0)],Iq,7⟩
abbrev R6:List (Ev.Ex×ai):=[(.ret,⟨[],Iq,7⟩)]
abbrev ac4:=be Zaq R6
abbrev PS:=Kb 207 3 Zaq 0 R6
abbrev Sa:ai:=⟨[(0,.int .u8),(2,.ptr 1 0),(6,.fz .I),(7,.I),(8,.I)],Iq,7⟩
abbrev R8:List (Ev.Ex×ai):=[((.exit 0),⟨[],Iq,7⟩)]
abbrev acW:=be Sa R8
abbrev acX:=Ld 7 20 (cj [0] (bu Tryz.f207)) Sa R8
def IJ(t0:Int)(t6:jp)(t7 t8:Int)(aA:jp)(cP:Int)(cX:jp)(c9:bv)(cO du dw:jp)(dx:ce)(dR:bv)(b3:jp)(b4:eq)(b5 b6:jp):am Sa R8:=
 br (iL t8 t7)
 (
  au (aw t8 t6.length)<|
  au (aw (gt .I t6 t8) b5.length)<|
  atY (t0,t6,t7,(qr (t8+(1:Int))),aA,cP,cX,c9,cO,du,dw,dx,dR,b3,b4,(List.set b5 (Int.toNat (gt .I t6 t8)) t0),b6,()))
 (
  atZ (aA,cP,cX,c9,cO,du,dw,dx,dR,b3,b4,b5,b6,()))
def apr  :acX:=cu (jv IJ) (pL k0 e0 1 l0 fun d=>atP)
def Sk:acW:=bp (jv IJ) NN
def Sw(L1:acW)(t0:Int)(aA:jp)(cP:Int)(cX:jp)(c9:bv)(cO du dw:jp)(dx:ce)(dR:bv)(b3:jp)(b4:eq)(b5 b6:jp):Option (Out R6):=
 az (L1 (t0,aA,(Int.ofNat aA.length),(0:Int),aA,cP,cX,c9,cO,du,dw,dx,dR,b3,b4,b5,b6,())) fun x0=>
 some x0
def apz(M1:acX):PS:=⟨iC (Sw M1.L),pB Tryz.func207 20 k0 e0 1 (sS (sC M1 l0)) fun d=>atP⟩
def ac5:PS:=apz  apr
def Zbg:ac4:=ac5.F
abbrev R4:ai:=⟨[(0,.ptr 0 0),(1,.I)],lF,5⟩
abbrev Iu:List (Ev.Ex×ai):=[(.ret,⟨[(0,.bool)],lF,5⟩)]
abbrev sv:=be R4 Iu
abbrev qX:=Kb 175 2 R4 1 Iu
abbrev Sc:ai:=⟨[(2,.ptr 5 0),(7,.func 207 [] [.ptr 6 0,.ptr 5 0]),(8,.I),(86,.fz .I),(87,.I),(88,.I)],RQ,7⟩
abbrev R9:List (Ev.Ex×ai):=[((.exit 3),⟨[(7,.func 207 [] [.ptr 5 0,.ptr 6 0])],[(0,.cells [.I,.fz .I,.fz af,.fz .I,.fz .I,.fz .I,.fz ah,.fz af,.hd 1 .I,.hd 2 an,.hd 3 (.int .u8),.hd 4 .I] 160),(1,.arr .I 3),(2,.arr an 146),(3,.arr (.int .u8) 5),(4,.arr .I 3),(5,.cells [.fz .I] 22),(6,.cells [.ptr 0 0] 152)],7⟩)]
abbrev ac2:=be Sc R9
abbrev PQ:=Ld 5 103 (cj [1] (bu Tryz.f175)) Sc R9
abbrev ID:ai:=⟨[(2,.ptr 5 0),(6,.ptr 6 0),(7,.func 207 [] [.ptr 6 0,.ptr 5 0]),(8,.I),(64,.fz .I),(65,.I),(66,.I)],RQ,7⟩
abbrev Iz:List (Ev.Ex×ai):=[(.ret,⟨[(4,.bool)],lF,5⟩),((.exit 1),⟨[(2,.ptr 5 0),(6,.ptr 6 0),(7,.func 207 [] [.ptr 6 0,.ptr 5 0]),(8,.I)],RQ,7⟩)]
abbrev ac3:=be ID Iz
abbrev PR:=Ld 5 103 (cj [0] (bu Tryz.f175)) ID Iz
def SL(F0:pX)(F1:sv)(t8:Int)(t64:jp)(t65 t66 aA:Int)(aC:jp)(aK:bv)(aM aO aQ:jp)(aE:ce)(aG:bv)(b1:jp)(b2:eq)(b3 b4 j2:jp):am ID Iz:=
 br (iL t66 t65)
 (
  au (aw t66 t64.length)<|
  az (F0 ((gt .I t64 t66),())) fun x0=>
  az (F1 (x0.1,aA,aC,aK,aM,aO,aQ,aE,aG,b1,b2,b3,b4,())) fun x1=>
  br (Bool.not x1.1)
  (
   atZ (.inl (false,x1.2)))
  (
   au (aw x0.1 (List.length x1.2.2.2.2.2.2.2.2.2.2.2.2.1))<|
   atY ((ed (iL t8 (gt .I x1.2.2.2.2.2.2.2.2.2.2.2.2.1 x0.1)) (gt .I x1.2.2.2.2.2.2.2.2.2.2.2.2.1 x0.1) t8),t64,t65,(qr (t66+(1:Int))),x1.2.1,x1.2.2.1,x1.2.2.2.1,x1.2.2.2.2.1,x1.2.2.2.2.2.1,x1.2.2.2.2.2.2.1,x1.2.2.2.2.2.2.2.1,x1.2.2.2.2.2.2.2.2.1,x1.2.2.2.2.2.2.2.2.2.1,x1.2.2.2.2.2.2.2.2.2.2.1,x1.2.2.2.2.2.2.2.2.2.2.2.1,x1.2.2.2.2.2.2.2.2.2.2.2.2.1,j2,())))
 (
  atZ (.inr (t8,aA,aC,aK,aM,aO,aQ,aE,aG,b1,b2,b3,b4,j2,())))
def apy(c0:oX)(c1:qX) :PR:=cu (jv (SL c0.F c1.F)) (pL (kD c0 (kB c1 k0)) e0 1 l0 fun d=>atP)
def apw(s:qX):PR:=apy pY s
def Sn(F:sv):ac3:=bp (fun d=>SL ph F  d.1 d.2.1 d.2.2.1 d.2.2.2.1 d.2.2.2.2.1 d.2.2.2.2.2.1 d.2.2.2.2.2.2.1 d.2.2.2.2.2.2.2.1 d.2.2.2.2.2.2.2.2.1 d.2.2.2.2.2.2.2.2.2.1 d.2.2.2.2.2.2.2.2.2.2.1 d.2.2.2.2.2.2.2.2.2.2.2.1 d.2.2.2.2.2.2.2.2.2.2.2.2.1 d.2.2.2.2.2.2.2.2.2.2.2.2.2.1 d.2.2.2.2.2.2.2.2.2.2.2.2.2.2.1 d.2.2.2.2.2.2.2.2.2.2.2.2.2.2.2.1 d.2.2.2.2.2.2.2.2.2.2.2.2.2.2.2.2.1) NN
def IP(t8:Int)(t86:jp)(t87 t88 aA:Int)(aC:jp)(aK:bv)(aM aO aQ:jp)(aE:ce)(aG:bv)(b1:jp)(b2:eq)(b3 b4 j2:jp):am Sc R9:=
 br (iL t88 t87)
 (
  au (aw t88 t86.length)<|
  au (aw (gt .I t86 t88) b4.length)<|
  atY (t8,t86,t87,(qr (t88+(1:Int))),aA,aC,aK,aM,aO,aQ,aE,aG,b1,b2,b3,(List.set b4 (Int.toNat (gt .I t86 t88)) (qr (t8+(1:Int)))),j2,()))
 (
  atZ (aA,aC,aK,aM,aO,aQ,aE,aG,b1,b2,b3,b4,j2,()))
def apx  :PQ:=cu (jv IP) (pL k0 e0 1 l0 fun d=>atP)
def apv(s:qX):PQ:=apx
def Sm(F:sv):ac2:=bp (fun d=>IP   d.1 d.2.1 d.2.2.1 d.2.2.2.1 d.2.2.2.2.1 d.2.2.2.2.2.1 d.2.2.2.2.2.2.1 d.2.2.2.2.2.2.2.1 d.2.2.2.2.2.2.2.2.1 d.2.2.2.2.2.2.2.2.2.1 d.2.2.2.2.2.2.2.2.2.2.1 d.2.2.2.2.2.2.2.2.2.2.2.1 d.2.2.2.2.2.2.2.2.2.2.2.2.1 d.2.2.2.2.2.2.2.2.2.2.2.2.2.1 d.2.2.2.2.2.2.2.2.2.2.2.2.2.2.1 d.2.2.2.2.2.2.2.2.2.2.2.2.2.2.2.1 d.2.2.2.2.2.2.2.2.2.2.2.2.2.2.2.2.1) NN
def SE(F0:pX)(F1:sv)(F2:Qs)(F3:ac4)(F4:zq)(L11:ac3)(L19:ac2)(t1 aA:Int)(aC:jp)(aK:bv)(aM aO aQ:jp)(aE:ce)(aG:bv)(b1:jp)(b2:eq)(b3 b4:jp):Option (Out Iu):=
 au (aw t1 b1.length)<|
 br (iQ (gt .I b1 t1) (0:Int))
 (
  some (true,aA,aC,aK,aM,aO,aQ,aE,aG,b1,b2,b3,b4,()))
 (
  au (aw t1 b3.length)<|
  br (bP false true (iQ (gt (.int .u8) b3 t1) (2:Int)))
  (
   some (true,aA,aC,aK,aM,aO,aQ,aE,aG,b1,b2,b3,b4,()))
  (
   au (aw t1 b3.length)<|
   br (iQ (gt (.int .u8) b3 t1) (1:Int))
   (
    some (false,aA,aC,aK,aM,aO,aQ,aE,aG,b1,b2,b3,b4,()))
   (
    au (aw t1 b1.length)<|
    au (aw (qr (@HSub.hSub (Int) (Int) (Int) _ (gt .I b1 t1) (1:Int))) b2.length)<|
    az (F4 ((gt an b2 (qr (@HSub.hSub (Int) (Int) (Int) _ (gt .I b1 t1) (1:Int)))).1,(gt an b2 (qr (@HSub.hSub (Int) (Int) (Int) _ (gt .I b1 t1) (1:Int)))).2.1,(gt an b2 (qr (@HSub.hSub (Int) (Int) (Int) _ (gt .I b1 t1) (1:Int)))).2.2.1,aA,aC,aK,aM,aO,aQ,aE,aG,b1,b2,b3,b4,())) fun x0=>
    az (F3 ((1:Int),x0)) fun x1=>
    az (F2 ((gt an b2 (qr (@HSub.hSub (Int) (Int) (Int) _ (gt .I b1 t1) (1:Int)))).1,(gt an b2 (qr (@HSub.hSub (Int) (Int) (Int) _ (gt .I b1 t1) (1:Int)))).2.1,(gt an b2 (qr (@HSub.hSub (Int) (Int) (Int) _ (gt .I b1 t1) (1:Int)))).2.2.1,x1.2)) fun x2=>
    az (L11 ((0:Int),x2.1,(Int.ofNat (List.length x2.1)),(0:Int),x2.2.1,x2.2.2.1,x2.2.2.2.1,x2.2.2.2.2.1,x2.2.2.2.2.2.1,x2.2.2.2.2.2.2.1,x2.2.2.2.2.2.2.2.1,x2.2.2.2.2.2.2.2.2.1,x2.2.2.2.2.2.2.2.2.2.1,x2.2.2.2.2.2.2.2.2.2.2.1,x2.2.2.2.2.2.2.2.2.2.2.2.1,x2.2.2.2.2.2.2.2.2.2.2.2.2.1,x1.1,())) fun x3=>
    (match x3 with
    |.inl x4=>some x4|.inr x4=>
     az (L19 (x4.1,x4.2.2.2.2.2.2.2.2.2.2.2.2.2.1,(Int.ofNat (List.length x4.2.2.2.2.2.2.2.2.2.2.2.2.2.1)),(0:Int),x4.2)) fun x5=>
     az (F3 ((2:Int),x5.2.2.2.2.2.2.2.2.2.2.2.2.1,x5.1,x5.2.1,x5.2.2.1,x5.2.2.2.1,x5.2.2.2.2.1,x5.2.2.2.2.2.1,x5.2.2.2.2.2.2.1,x5.2.2.2.2.2.2.2.1,x5.2.2.2.2.2.2.2.2.1,x5.2.2.2.2.2.2.2.2.2.1,x5.2.2.2.2.2.2.2.2.2.2.1,x5.2.2.2.2.2.2.2.2.2.2.2.1,())) fun x6=>
     some (true,x6.2)
    ))))
def apM(c0:oX)(c1:qX)(c2:Gp)(c3:PS)(c4:wt)(M11:PR)(M19:PQ):qX:=⟨kI (SE c0.F c1.F c2.F c3.F c4.F M11.L M19.L),pB Tryz.func175 103 (kD c0 (kB c1 (kB c2 (kB c3 (kB c4 k0))))) e0 1 (sS (sC M11 (sC M19 l0))) fun d=>atP⟩
def zo:Nat->qX
 |0=>T4 Tryz.func175 atP atP|k+1=>apM pY (zo k) Qt ac5 zs (apw (zo k)) (apv (zo k))
def w8(k:Nat):sv:=(zo k).F
def P5:qX:=zo NN
def Sf:sv:=P5.F
abbrev Zdy:ai:=⟨[(0,.ptr 0 0)],lF,5⟩
abbrev Si:List (Ev.Ex×ai):=[(.ret,⟨[(0,.bool)],lF,5⟩)]
abbrev adx:=be Zdy Si
abbrev Qf:=Kb 137 1 Zdy 1 Si
abbrev Sj:ai:=⟨[(3,.func 175 [.ptr 0 0] []),(11,.I),(12,.I)],lF,5⟩
abbrev IH:List (Ev.Ex×ai):=[(.ret,⟨[(2,.bool)],lF,5⟩),((.exit 0),⟨[],lF,5⟩)]
abbrev adu:=be Sj IH
abbrev Qa:=Ld 5 20 (cj [0] (bu Tryz.f137)) Sj IH
def SO(F0:sv)(t11 t12 aA:Int)(aC:jp)(aK:bv)(aM aO aQ:jp)(aE:ce)(aG:bv)(b1:jp)(b2:eq)(b3 b4:jp):am Sj IH:=
 br (iL t12 t11)
 (
  az (F0 (t12,aA,aC,aK,aM,aO,aQ,aE,aG,b1,b2,b3,b4,())) fun x0=>
  br (Bool.not x0.1)
  (
   atZ (.inl (false,x0.2)))
  (
   atY (t11,(qr (t12+(1:Int))),x0.2)))
 (
  atZ (.inr (aA,aC,aK,aM,aO,aQ,aE,aG,b1,b2,b3,b4,())))
def apW(c0:qX) :Qa:=cu (iC (SO c0.F)) (pL (kB c0 k0) e0 1 l0 fun d=>atP)
def apV:Qa:=apW P5
def Zhi:adu:=bp (iC (SO Sf)) NN
def Zm5(F0:sv)(L3:adu)(aA:Int)(aC:jp)(aK:bv)(aM aO aQ:jp)(aE:ce)(aG:bv)(b1:jp)(b2:eq)(b3 b4:jp):Option (Out Si):=
 az (L3 ((Int.ofNat b1.length),(0:Int),aA,aC,aK,aM,aO,aQ,aE,aG,b1,b2,b3,b4,())) fun x0=>
 (match x0 with|.inl x1=>some x1|.inr x1=>some (true,x1)
 )
def apZ(c0:qX)(M3:Qa):Qf:=⟨bM (Zm5 c0.F M3.L),pB Tryz.func137 20 (kB c0 k0) e0 1 (sS (sC M3 l0)) fun d=>atP⟩
def ady:Qf:=apZ P5 apV
def Zhj:adx:=ady.F
abbrev Zjf:ai:=⟨[(0,.agg fR)],[],0⟩
abbrev SG:List (Ev.Ex×ai):=[(.ret,⟨[(0,.ptr 0 0)],lF,5⟩)]
abbrev aek:=be Zjf SG
abbrev Q0:=Kb 136 1 Zjf 1 SG
abbrev SD:ai:=afp
abbrev Sx:List (Ev.Ex×ai):=[((.exit 6),⟨[(3,.ptr 0 0)],lF,5⟩)]
abbrev adY:=be SD Sx
abbrev QJ:=Ld 0 103 (cj [2] (bu Tryz.f136)) SD Sx
abbrev Sr:ai:=⟨[(3,.ptr 0 0),(7,.I),(77,.hd 2 an),(78,.I),(79,.I),(86,.fz .I),(87,.I),(88,.I)],lF,5⟩
abbrev So:List (Ev.Ex×ai):=[((.exit 8),afp)]
abbrev QG:=be Sr So
abbrev QI:=Ld 0 103 (cj [2,0] (bu Tryz.f136)) Sr So
abbrev SH:ai:=afq
abbrev SB:List (Ev.Ex×ai):=[((.exit 2),⟨[(3,.ptr 0 0)],lF,5⟩)]
abbrev aec:=be SH SB
abbrev QU:=Ld 0 103 (cj [1] (bu Tryz.f136)) SH SB
abbrev Ss:ai:=⟨[(1,.ptr 0 0),(3,.ptr 1 0),(5,.I),(46,.I),(47,.I),(56,.I),(57,.I)],Ip,6⟩
abbrev Sp:List (Ev.Ex×ai):=[((.exit 4),afq)]
abbrev QH:=be Ss Sp
abbrev QK:=Ld 0 103 (cj [1,0] (bu Tryz.f136)) Ss Sp
abbrev SI:ai:=⟨[(1,.ptr 0 0),(3,.ptr 1 0),(28,.I),(29,.I)],Ip,6⟩
abbrev SC:List (Ev.Ex×ai):=[((.exit 0),⟨[(1,.ptr 0 0),(3,.ptr 1 0)],Ip,6⟩)]
abbrev aed:=be SI SC
abbrev aee:=Ld 0 103 (cj [0] (bu Tryz.f136)) SI SC
def Jl(t28 t29 aA:Int)(aC:jp)(aK:bv)(aM aO aQ:jp)(aE:ce)(aG:bv)(bN:Int)(cW:jp)(dg:bv)(db dk dN:jp)(dO:ce)(dV:bv)(b2:jp)(b3:eq)(b4 b5:jp):am SI SC:=
 br (iL t29 t28)
 (
  au (room 24 (List.length (ap b3 ((false,(0:Int),t29,())::[]))))<|
  atY (t28,(qr (t29+(1:Int))),aA,aC,aK,aM,aO,aQ,aE,aG,bN,cW,dg,db,dk,dN,dO,dV,b2,(ap b3 ((false,(0:Int),t29,())::[])),b4,b5,()))
 (
  atZ (aA,aC,aK,aM,aO,aQ,aE,aG,bN,cW,dg,db,dk,dN,dO,dV,b2,b3,b4,b5,()))
def aqF  :aee:=cu (mw Jl) (pL k0 e0 1 l0 fun d=>atP)
def Jc:aed:=bp (mw Jl) NN
def Ji(t5 t46 t47 t56 t57 aA:Int)(aC:jp)(aK:bv)(aM aO aQ:jp)(aE:ce)(aG:bv)(bN:Int)(cW:jp)(dg:bv)(db dk dN:jp)(dO:ce)(dV:bv)(b2:jp)(b3:eq)(b4 b5:jp):am Ss Sp:=
 br (iL t57 t56)
 (
  au (room 24 (List.length (ap b3 ((true,t5,t57,())::[]))))<|
  atY (t5,t46,t47,t56,(qr (t57+(1:Int))),aA,aC,aK,aM,aO,aQ,aE,aG,bN,cW,dg,db,dk,dN,dO,dV,b2,(ap b3 ((true,t5,t57,())::[])),b4,b5,()))
 (
  atZ (t46,t47,aA,aC,aK,aM,aO,aQ,aE,aG,bN,cW,dg,db,dk,dN,dO,dV,b2,b3,b4,b5,()))
def ad0  :QK:=cu (fun d=>kI (bM Ji d) (bX d)) (pL k0 e0 1 l0 fun d=>atP)
def IZ:QH:=bp (fun d=>kI (bM Ji d) (bX d)) NN
def Jk(L11:QH)(t46 t47 aA:Int)(aC:jp)(aK:bv)(aM aO aQ:jp)(aE:ce)(aG:bv)(bN:Int)(cW:jp)(dg:bv)(db dk dN:jp)(dO:ce)(dV:bv)(b2:jp)(b3:eq)(b4 b5:jp):am SH SB:=
 br (iL t47 t46)
 (
  au (aw t47 aE.length)<|
  az (L11 (t47,t46,t47,(Int.ofNat (List.length (gt ah aE t47).2.2.2.1)),(0:Int),aA,aC,aK,aM,aO,aQ,aE,aG,bN,cW,dg,db,dk,dN,dO,dV,b2,b3,b4,b5,())) fun x0=>
  atY (x0.1,(qr (pp x0.2.1 (1:Int))),x0.2.2))
 (
  atZ (bN,cW,dg,db,dk,dN,dO,dV,b2,b3,b4,b5,()))
def aqG(M11:QK):QU:=cu (mw (Jk M11.L)) (pL k0 e0 1 (sC M11 l0) fun d=>atP)
def aqE:QU:=aqG  ad0
def Jb:aec:=bp (mw (Jk IZ)) NN
def Jg(t7 t78 t79:Int)(t86:jp)(t87 t88 aA:Int)(aC:jp)(aK:bv)(aM aO aQ:jp)(aE:ce)(aG:bv)(b1:jp)(b2:eq)(b3 b4:jp):am Sr So:=
 br (iL t88 t87)
 (
  au (aw t88 t86.length)<|
  au (aw (gt .I t86 t88) b1.length)<|
  atY (t7,t78,t79,t86,t87,(qr (t88+(1:Int))),aA,aC,aK,aM,aO,aQ,aE,aG,(List.set b1 (Int.toNat (gt .I t86 t88)) (qr (t7+(1:Int)))),b2,b3,b4,()))
 (
  atZ (t78,t79,aA,aC,aK,aM,aO,aQ,aE,aG,b1,b2,b3,b4,()))
def adZ  :QI:=cu (JT Jg) (pL k0 e0 1 l0 fun d=>atP)
def IY:QG:=bp (JT Jg) NN
def Jh(F0:zq)(L20:QG)(t78 t79 aA:Int)(aC:jp)(aK:bv)(aM aO aQ:jp)(aE:ce)(aG:bv)(b1:jp)(b2:eq)(b3 b4:jp):am SD Sx:=
 br (iL t79 t78)
 (
  au (aw t79 b2.length)<|
  az (F0 ((gt an b2 t79).1,(gt an b2 t79).2.1,(gt an b2 t79).2.2.1,aA,aC,aK,aM,aO,aQ,aE,aG,b1,b2,b3,b4,())) fun x0=>
  az (L20 (t79,t78,t79,x0.1,(Int.ofNat (List.length x0.1)),(0:Int),x0.2)) fun x1=>
  atY (x1.1,(qr (pp x1.2.1 (1:Int))),x1.2.2))
 (
  atZ (aA,aC,aK,aM,aO,aQ,aE,aG,b1,b2,b3,b4,()))
def aqw(c0:wt)(M20:QI):QJ:=cu (iC (Jh c0.F M20.L)) (pL (kB c0 k0) e0 1 (sC M20 l0) fun d=>atP)
def aqv:QJ:=aqw zs adZ
def I9:adY:=bp (iC (Jh zZ IY)) NN
def S7(F0:zq)(L3:aed)(L8:aec)(L11:QH)(L17:adY)(L20:QG)(fp:Int)(jN:jp)(iH:bv)(kr ku kA:jp)(iw:ce)(j8:bv):Option (Out SG):=
 au (both (iE (0:Int) (qr (fp+(1:Int)))) (both (iE (qr (fp+(1:Int))) (qr (fp+(1:Int)))) (iE ((Int.ofNat 8)*(qr (fp+(1:Int)))) (281474976710656:Int))))<|
 au (both (iE (0:Int) (qr (fp+(1:Int)))) (both (iE (qr (fp+(1:Int))) (qr (fp+(1:Int)))) (iE ((Int.ofNat 1)*(qr (fp+(1:Int)))) (281474976710656:Int))))<|
 au (both (iE (0:Int) (qr (fp+(1:Int)))) (both (iE (qr (fp+(1:Int))) (qr (fp+(1:Int)))) (iE ((Int.ofNat 8)*(qr (fp+(1:Int)))) (281474976710656:Int))))<|
 az (L3 ((Int.ofNat j8.length),(0:Int),fp,jN,iH,kr,ku,kA,iw,j8,fp,jN,iH,kr,ku,kA,iw,j8,(List.replicate (Int.toNat (qr (fp+(1:Int)))) (Sh.zero .I)),[],(List.replicate (Int.toNat (qr (fp+(1:Int)))) (Sh.zero (.int .u8))),(List.replicate (Int.toNat (qr (fp+(1:Int)))) (Sh.zero .I)),())) fun x0=>
 az (L8 ((Int.ofNat (List.length x0.2.2.2.2.2.2.1)),(0:Int),x0)) fun x1=>
 az (L17 ((Int.ofNat (List.length x1.2.2.2.2.2.2.2.2.2.1)),(0:Int),x1)) fun x2=>
 some x2
def aqS(c0:wt)(M3:aee)(M8:QU)(M11:QK)(M17:QJ)(M20:QI):Q0:=⟨u8 (S7 c0.F M3.L M8.L M11.L M17.L M20.L),pB Tryz.func136 103 (kB c0 k0) e0 1 (sS (sC M3 (sC M8 (sC M17 l0)))) fun d=>atP⟩
def ael:Q0:=aqS zs aqF aqE ad0 aqv adZ
def Zo9:aek:=ael.F
abbrev Zjg:ai:=⟨[(0,.agg fR)],[],0⟩
abbrev SJ:List (Ev.Ex×ai):=[(.ret,⟨[(0,.fw),(1,.I)],[],0⟩),(.ret,⟨[(0,.ptr 0 0),(1,.I)],lF,5⟩)]
abbrev G4:=be Zjg SJ
abbrev zx:=Kb 87 1 Zjg 2 SJ
def Zw8(F0:aqV)(F1:adx)(F2:aek)(fp:Int)(jN:jp)(iH:bv)(kr ku kA:jp)(iw:ce)(j8:bv):Option (Out SJ):=
 az (F0 ((fp,jN,iH,kr,ku,kA,iw,j8,()),())) fun x0=>
 br (Bool.not (iQ x0.1 (0:Int)))
 (
  atY (x0.1,()))
 (
  az (F2 (fp,jN,iH,kr,ku,kA,iw,j8,())) fun x1=>
  az (F1 x1) fun x2=>
  br (Bool.not x2.1)
  (
   atY ((8:Int),()))
  (
   atZ ((0:Int),x2.2)))
def aqT(c0:aeo)(c1:Qf)(c2:Q0) :zx:=⟨u8 (Zw8 c0.F c1.F c2.F),pB Tryz.func87 17 (kD c0 (kB c1 (kB c2 k0))) e0 1 (sS l0) fun d=>atP⟩
def G5:zx:=aqT aqW ady ael
def uV:G4:=G5.F
abbrev Zq5:List Sh:=[cA]
abbrev SX:List Sh:=[.I]
abbrev uG:=TL Zq5->Option (TL SX)
abbrev sx:=Kd 38 Zq5 SX
def Zul(F0:G4)(a0:Sh.T cA):Option (TL SX):=
 az (F0 a0) fun x0=>
 (match x0 with|.inl x1=>some (x1.1,())|.inr x1=>some (x1.1,())
 )
def aqJ(c0:zx) :sx:=⟨u1 (Zul c0.F),pD Tryz.func38 11 (kB c0 k0) e0 1 (sS l0) fun d=>atP⟩
def sy:sx:=aqJ G5
def IQ:uG:=sy.F
