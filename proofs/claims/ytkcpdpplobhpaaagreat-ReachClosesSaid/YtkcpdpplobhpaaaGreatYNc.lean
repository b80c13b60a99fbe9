import Derived.Test.YtkcpdpplobhpaaaGreatYMf
import Derived.Test.YtkcpdpplobhpaaaGreatYNb
set_option linter.unusedVariables false
set_option linter.unusedSimpArgs false
set_option linter.unnecessarySimpa false
section
namespace Go.Proofs.YtkcpdpplobhpaaaGreat.V
open Go Go.RowKit Go.Proofs.YtkcpdpplobhpaaaGreat.Pl
def j2(x:ae.T):dx:=⟨x.1,x.2.1,x.2.2.1⟩
def mQ(x:ae.T):eH:=⟨x.1,x.2.1,x.2.2.1⟩
def pU(x:bL.T):mH:=⟨x.1,x.2.1⟩
def qM(x:bD.T):mw:=⟨x.1,x.2.1,x.2.2.1⟩
def mU(x:ab.T):bB:=⟨x.1,x.2.1,x.2.2.1,x.2.2.2.1.map pU,x.2.2.2.2.1.map qM⟩
def dO(x:bf.T):av:=⟨x.1,x.2.1,x.2.2.1.map j2,x.2.2.2.1,x.2.2.2.2.1,x.2.2.2.2.2.1,x.2.2.2.2.2.2.1.map mU,x.2.2.2.2.2.2.2.1.map mQ⟩
def bK(x:dx):ae.T:=(x.var,(x.next,(x.init,())))
def dg(x:eH):ae.T:=(x.var,(x.a,(x.b,())))
def dv(x:mH):bL.T:=(x.var,(x.addr,()))
def dI(x:mw):bD.T:=(x.on,(x.addr,(x.data,())))
def aq(x:bB):ab.T:=(x.addr,(x.word,(x.any,(x.reads.map dv,(x.writes.map dI,())))))
def ba(x:av):bf.T:=(x.vars,(x.aM,(x.aw.map bK,(x.bI,(x.bh,(x.constraints,(x.aa.map aq,(x.aL.map dg,()))))))))
theorem map_id'{α β:Type}{f:α->β}{g:β->α}(h:∀x,g (f x)=x):∀L:List α,(L.map f).map g=L
 |[]=>rfl|x::L=>by simp only[List.map_cons,h,map_id' h L]
theorem ad4(a b:Int)(c:Bool)(d:List bL.T)(e:List bD.T):((a,(b,(c,((d.map pU).map dv,((e.map qM).map dI,()))))):Int×Int×Bool×List bL.T×List bD.T×Unit)=(a,(b,(c,(d,(e,()))))):=by rw[map_id' (f:=pU) (g:=dv) (fun x=>rfl),map_id' (f:=qM) (g:=dI) (fun x=>rfl)]
theorem ahm(x:ab.T):aq (mU x)=x:=ad4 x.1 x.2.1 x.2.2.1 x.2.2.2.1 x.2.2.2.2.1
theorem ad8(a:Int)(b:List Int)(c:List ae.T)(d e f:List Int)(g:List ab.T)(h:List ae.T) :
  ((a,(b,((c.map j2).map bK,(d,(e,(f,((g.map mU).map aq,((h.map mQ).map dg,())))))))):Int×List Int×List ae.T×List Int×List Int×List Int×List ab.T×List ae.T×Unit)=(a,(b,(c,(d,(e,(f,(g,(h,())))))))):=by
 rw[map_id' (f:=j2) (g:=bK) (fun x=>rfl),map_id' (f:=mQ) (g:=dg) (fun x=>rfl),map_id' (f:=mU) (g:=aq) ahm]
theorem Ds(x:bf.T):ba (dO x)=x:=ad8 x.1 x.2.1 x.2.2.1 x.2.2.2.1 x.2.2.2.2.1 x.2.2.2.2.2.1 x.2.2.2.2.2.2.1 x.2.2.2.2.2.2.2.1
theorem ahn(x:bB):mU (aq x)=x:=by obtain⟨a,b,c,d,e⟩:=x;show(⟨a,b,c,(d.map dv).map pU,(e.map dI).map qM⟩:bB)=_;rw[map_id' (f:=dv) (g:=pU) (fun x=>rfl),map_id' (f:=dI) (g:=qM) (fun x=>rfl)]
theorem lG(x:av):dO (ba x)=x:=by obtain⟨a,b,c,d,e,f,g,h⟩:=x;show(⟨a,b,(c.map bK).map j2,d,e,f,(g.map aq).map mU,(h.map dg).map mQ⟩:av)=_;rw[map_id' (f:=bK) (g:=j2) (fun x=>rfl),map_id' (f:=dg) (g:=mQ) (fun x=>rfl),map_id' (f:=aq) (g:=mU) ahn]
theorem uo{w:World}{A:Nat->Prop}{s:Sh}{L:List s.T}{V:Value}(h:Cs w A (.sl s) L [V]) :
  ∃a cap X,V=.slice a L.length cap/\bg (Cs w A s) L X/\Sl w w.heap.size s.size a L.length cap X:=by
 obtain⟨a,len,cap,e1,rfl,e3,e4⟩:=h;simp only[List.cons.injEq,and_true]at e1;subst e1;by_cases hL:L=[]
 .subst hL;exact⟨a,cap,[],rfl,rfl,⟨by simp,fun h=>absurd h (by simp)⟩,e3,Nat.zero_le _⟩
 .obtain⟨b,o,X,rfl,q2,q3,c,ty,fr,q4,q5⟩:=e4 hL;refine⟨_,cap,X,rfl,q3,⟨bg.length (fun x c=>Cs.length) q3,fun _=>⟨_,rfl,ej q4,fun j u hj=>?_⟩⟩,e3,Nat.zero_le _⟩;have:=q5 j u hj;rw[show(⟨b,o,none⟩:Addr).add j=⟨b,o+j,none⟩from by simp[Ev.fR]];simp only[World.cell?,q4,Option.isSome_none,Bool.false_eq_true,if_false];exact this
theorem Gp{α:Type}{R:α->List Value->Prop}{g:α->List Value}(h:∀x c,R x c->c=g x):∀{L:List α}{X:List Value},bg R L X->X=L.flatMap g
 |[],X,q=>q|x::L,X,⟨c,r,e,q,t⟩=>by rw[e,h x c q,Gp h t];rfl
theorem wS{w:World}{A:Nat->Prop}{d:TL []}{cs:List Value}(h:fQ w A [] d cs):cs=[]:=h
theorem gL{w:World}{A:Nat->Prop}{s:Sh}{l:List Sh}{d:TL (s::l)}{cs:List Value}(h:fQ w A (s::l) d cs):∃c r,cs=c++r/\Cs w A s d.1 c/\fQ w A l d.2 r:=h
theorem uh{w:World}{A:Nat->Prop}{s:Sh}{L:List s.T}{c:List Value}(h:Cs w A (.sl s) L c):∃V,c=[V]/\Cs w A (.sl s) L [V]:=by obtain⟨a,len,cap,e1,q⟩:=h;exact⟨_,e1,a,len,cap,rfl,q⟩
theorem GD{α β γ:Type}{f:α->γ}{g:β->γ}{L:List α}{M:List β}(h:L.map f=M.map g):M.length=L.length:=by have:=congrArg List.length h;rw[List.length_map,List.length_map]at this;exact this.symm
theorem T6:∀L:List Int,L.flatMap (fun n=>[Value.int .i64 n])=ints L
 |[]=>rfl|x::L=>by have:=T6 L;unfold ints at this |-;rw[List.flatMap_cons,this];rfl
theorem qK{w:World}{A:Nat->Prop}{L:List Int}{c:List Value}(h:Cs w A (.sl (.int .i64)) L c):∃a cap,c=[.slice a L.length cap]/\Sl w w.heap.size 1 a L.length cap (ints L):=by
 obtain⟨V,rfl,h⟩:=uh h;obtain⟨a,cap,X,rfl,h1,h2⟩:=uo h;have:X=ints L:=by have:=Gp (g:=fun n=>[Value.int .i64 n]) (fun x c q=>q) h1;rw[this];exact T6 L
 subst this;exact⟨a,cap,rfl,h2⟩
theorem aeS{w:World}{A:Nat->Prop}{x:ae.T}{c:List Value}(h:Cs w A ae x c):c=(j2 x).cells:=by obtain⟨c1,r1,rfl,h1,q1⟩:=gL h;obtain⟨c2,r2,rfl,h2,q2⟩:=gL q1;obtain⟨c3,r3,rfl,h3,q3⟩:=gL q2;rw[wS q3,show c1=_ from h1,show c2=_ from h2,show c3=_ from h3];rfl
theorem Ue{w:World}{A:Nat->Prop}{L:List ae.T}{c:List Value}(h:Cs w A (.sl ae) L c):∃a cap,c=[.slice a (L.map j2).length cap]/\Sl w w.heap.size 3 a (L.map j2).length cap ((L.map j2).flatMap dx.cells):=by obtain⟨V,rfl,h⟩:=uh h;obtain⟨a,cap,X,rfl,h1,h2⟩:=uo h;have:=Gp (g:=fun x=>(j2 x).cells) (fun x c q=>aeS q) h1;refine⟨a,cap,by simp,?_⟩;rw[List.length_map,List.flatMap_map,<-this];exact h2
theorem adw{w:World}{A:Nat->Prop}{L:List ae.T}{c:List Value}(h:Cs w A (.sl ae) L c):∃a cap,c=[.slice a (L.map mQ).length cap]/\Sl w w.heap.size 3 a (L.map mQ).length cap ((L.map mQ).flatMap eH.cells):=by obtain⟨a,cap,e,h⟩:=Ue h;rw[List.length_map]at e h |-;exact⟨a,cap,e,by rw[List.flatMap_map]at h |-;exact h⟩
theorem Tt{w:World}{A:Nat->Prop}:∀{L:List bL.T}{X:List Value},bg (Cs w A bL) L X->∃Rs:List dc,Rs.map dc.d=L.map pU/\X=Rs.flatMap dc.cells/\∀r∈Rs,r.bH w w.heap.size
 |[],X,h=>⟨[],rfl,h,fun r hr=>by cases hr⟩
 |x::L,X,⟨c,r,e,q,t⟩=>by
  obtain⟨Rs,k1,k2,k3⟩:=Tt t;obtain⟨c1,r1,rfl,h1,q1⟩:=gL q;obtain⟨c2,r2,rfl,h2,q2⟩:=gL q1;obtain⟨a,cap,rfl,hs⟩:=qK h2;refine⟨⟨x.1,a,cap,x.2.1⟩::Rs,by simp only[List.map_cons,k1];rfl,?_,?_⟩
  .rw[e,wS q2,show c1=_ from h1,k2];rfl
  .intro r hr;rcases List.mem_cons.1 hr with rfl|hr
   .exact hs
   .exact k3 r hr
theorem SD{w:World}{A:Nat->Prop}:∀{L:List bD.T}{X:List Value},bg (Cs w A bD) L X->∃Rs:List dH,Rs.map dH.d=L.map qM/\X=Rs.flatMap dH.cells/\∀r∈Rs,r.bH w w.heap.size
 |[],X,h=>⟨[],rfl,h,fun r hr=>by cases hr⟩
 |x::L,X,⟨c,r,e,q,t⟩=>by
  obtain⟨Rs,k1,k2,k3⟩:=SD t;obtain⟨c1,r1,rfl,h1,q1⟩:=gL q;obtain⟨c2,r2,rfl,h2,q2⟩:=gL q1;obtain⟨c3,r3,rfl,h3,q3⟩:=gL q2;obtain⟨a,cap,rfl,hs⟩:=qK h2;obtain⟨a',cap',rfl,hs'⟩:=qK h3;refine⟨⟨x.1,a,cap,x.2.1,a',cap',x.2.2.1⟩::Rs,by simp only[List.map_cons,k1];rfl,?_,?_⟩
  .rw[e,wS q3,show c1=_ from h1,k2];rfl
  .intro r hr;rcases List.mem_cons.1 hr with rfl|hr
   .exact⟨hs,hs'⟩
   .exact k3 r hr
theorem Ua{w:World}{A:Nat->Prop}:∀{L:List ab.T}{X:List Value},bg (Cs w A ab) L X->∃Ms:List bj,Ms.map bj.d=L.map mU/\X=Ms.flatMap bj.cells/\∀m∈Ms,m.bH w w.heap.size
 |[],X,h=>⟨[],rfl,h,fun r hr=>by cases hr⟩
 |x::L,X,⟨c,r,e,q,t⟩=>by
  obtain⟨Ms,k1,k2,k3⟩:=Ua t;obtain⟨c1,r1,rfl,h1,q1⟩:=gL q;obtain⟨c2,r2,rfl,h2,q2⟩:=gL q1;obtain⟨c3,r3,rfl,h3,q3⟩:=gL q2;obtain⟨c4,r4,rfl,h4,q4⟩:=gL q3;obtain⟨c5,r5,rfl,h5,q5⟩:=gL q4;obtain⟨V4,rfl,h4⟩:=uh h4;obtain⟨V5,rfl,h5⟩:=uh h5;obtain⟨a,cap,X4,rfl,f4,s4⟩:=uo h4;obtain⟨a',cap',X5,rfl,f5,s5⟩:=uo h5;obtain⟨Rs,rk,rfl,rok⟩:=Tt f4;obtain⟨Ws,wk,rfl,wok⟩:=SD f5;have l4:x.2.2.2.1.length=Rs.length:=GD rk;have l5:x.2.2.2.2.1.length=Ws.length:=GD wk;have l4':List.length x.2.2.2.1=Rs.length:=l4;refine⟨⟨x.1,x.2.1,x.2.2.1,a,cap,Rs,a',cap',Ws⟩::Ms,?_,?_,?_⟩
  .simp only[List.map_cons,k1,bj.d,rk,wk];rfl
  .rw[e,wS q5,show c1=_ from h1,show c2=_ from h2,show c3=_ from h3,k2];show[_,_,_,Value.slice a (List.length x.2.2.2.1) cap,Value.slice a' (List.length x.2.2.2.2.1) cap']++_=_;rw[l4,l5];rfl
  .intro m hm;rcases List.mem_cons.1 hm with rfl|hm
   .exact⟨by rw[<-l4];exact s4,rok,by rw[<-l5];exact s5,wok⟩
   .exact k3 m hm
theorem ae1{w:World}{A:Nat->Prop}{d:bf.T}{V:Value}(h:iH w A bf d V):∃N:bC,N.v=V/\N.d=dO d/\N.bH w w.heap.size:=by
 obtain⟨h,hagg⟩:=h;obtain⟨c1,r1,e1,h1,q1⟩:=gL h;obtain⟨c2,r2,rfl,h2,q2⟩:=gL q1;obtain⟨c3,r3,rfl,h3,q3⟩:=gL q2;obtain⟨c4,r4,rfl,h4,q4⟩:=gL q3;obtain⟨c5,r5,rfl,h5,q5⟩:=gL q4;obtain⟨c6,r6,rfl,h6,q6⟩:=gL q5;obtain⟨c7,r7,rfl,h7,q7⟩:=gL q6;obtain⟨c8,r8,rfl,h8,q8⟩:=gL q7;obtain⟨a2,p2,rfl,s2⟩:=qK h2;obtain⟨a3,p3,rfl,s3⟩:=Ue h3;obtain⟨a4,p4,rfl,s4⟩:=qK h4;obtain⟨a5,p5,rfl,s5⟩:=qK h5;obtain⟨a6,p6,rfl,s6⟩:=qK h6;obtain⟨V7,rfl,h7⟩:=uh h7;obtain⟨a7,p7,X7,rfl,f7,s7⟩:=uo h7;obtain⟨Ms,k1,rfl,k3⟩:=Ua f7;obtain⟨a8,p8,rfl,s8⟩:=adw h8;have l7:List.length d.2.2.2.2.2.2.1=Ms.length:=GD k1;refine⟨⟨d.1,a2,p2,d.2.1,a3,p3,d.2.2.1.map j2,a4,p4,d.2.2.2.1,a5,p5,d.2.2.2.2.1,a6,p6,d.2.2.2.2.2.1,a7,p7,Ms,a8,p8,d.2.2.2.2.2.2.2.1.map mQ⟩,?_,?_,?_⟩
 .cases V with|agg cs=>have e1':cs.toList=c1++_:=e1;rw[wS q8,show c1=_ from h1,l7]at e1';show Value.agg _=Value.agg cs;congr 1;apply Array.toList_inj.1;rw[e1'];rfl|_=>cases hagg
 .simp only[bC.d,k1];rfl
 .exact⟨s2,s3,s4,s5,s6,by rw[<-l7];exact s7,k3,s8⟩
instance i64Dec(x:Int):Decidable (cO x):=inferInstanceAs (Decidable (_/\_))
instance memFitDec(m:bB):Decidable (y8 m):=decidable_of_iff
 ((cO m.word/\m.word<=4000)/\cO m.addr/\m.reads.length<=100/\m.writes.length<=100/\(∀r∈m.reads,r.addr.length<=4000/\-1099511627776<=r.var/\r.var<=1099511627776/\∀x∈r.addr,cO x) /\
  ∀r∈m.writes,r.addr.length<=4000/\r.data.length<=4000/\cO r.on/\(∀x∈r.addr,cO x)/\∀x∈r.data,cO x)
 ⟨fun⟨a,b,c,d,e,f⟩=>⟨a,b,c,d,e,f⟩,fun⟨a,b,c,d,e,f⟩=>⟨a,b,c,d,e,f⟩⟩
instance fitDec(n:av):Decidable (Fit n):=decidable_of_iff
 (cO n.vars/\(n.aM.length<=4000/\∀x∈n.aM,cO x)/\(n.aw.length<=4000/\∀l∈n.aw,cO l.var/\cO l.next/\cO l.init)/\(n.bI.length<=4000/\∀x∈n.bI,cO x) /\
  (n.bh.length<=4000/\∀x∈n.bh,cO x)/\(n.constraints.length<=4000/\∀x∈n.constraints,cO x)/\(n.aa.length<=100/\∀m∈n.aa,y8 m)/\(n.aL.length<=4000/\∀a∈n.aL,cO a.var/\cO a.a/\cO a.b))
 ⟨fun⟨a,b,c,d,e,f,g,h⟩=>⟨a,b,c,d,e,f,g,h⟩,fun⟨a,b,c,d,e,f,g,h⟩=>⟨a,b,c,d,e,f,g,h⟩⟩
def Lg(n:av):Bool:=decide (Fit n)
theorem adE{n:av}(h:Lg n=true):Fit n:=of_decide_eq_true h
theorem y0{n:av}(h:Fit n):Lg n=true:=decide_eq_true h
def lr:TL [bf]->Option (TL [.int .i64]):=fun d=>match Lg (dO d.1)with|true=>some (dt (dO d.1),())|false=>none
theorem Zwd{f:FuncId}{fn:Func}{c:Code}(h1:Tryz.prog.funcs[f]?=some fn)(h2:(fn.name == "runtime.NumGoroutine")=false)(h3:fn.body=some c)
  (h:∀(N:bC) (w:World),N.bH w w.heap.size->Fit N.d->Calls Tryz.prog f #[N.v] w fun e w'=>e=.returned (.int .i64 (dt N.d))/\Below w.heap.size w w'):Comes Tryz.prog f [bf] [.int .i64] lr:=by
 refine⟨⟨fn,c,h1,h2,h3⟩,?_⟩;intro d x hx w A args hA ha;unfold lr at hx;split at hx<;>cases hx;rename_i hf;obtain⟨V,r,rfl,hd,hr⟩:=ha;have:r=[]:=hr;subst this;obtain⟨N,rfl,hN,hok⟩:=ae1 hd;have hf:=adE hf;rw[<-hN]at hf;refine(h N w hok hf).mono ?_;rintro e w' ⟨rfl,hb⟩;exact⟨[.int .i64 (dt N.d)],rfl,hb,_,[],rfl,⟨by rw[hN];rfl,rfl⟩,rfl⟩
theorem Zwv:Comes Tryz.prog 193 [bf] [.int .i64] lr:=Zwd (fn:=Tryz.f193) (c:=aW Tryz.f193) Tryz.func193 (by kernel_rfl) (by kernel_rfl) aga
theorem Zct:Comes Tryz.prog 85 [bf] [.int .i64] lr:=Zwd (fn:=Tryz.f85) (c:=aW Tryz.f85) Tryz.func85 (by kernel_rfl) (by kernel_rfl) agc
def sL:=lr
abbrev akU:=TL [bf]->Option (TL [.int .i64])
abbrev Yd:=Kd 193 [bf] [.int .i64]
def akV:Yd:=⟨lr,Zwv⟩
abbrev W9:=TL [bf]->Option (TL [.int .i64])
abbrev JC:=Kd 85 [bf] [.int .i64]
def Xa:JC:=⟨sL,Zct⟩
set_option maxRecDepth 1000000
abbrev Zsr:List Sh:=[(.int .i64)]
abbrev Nz:List Sh:=[(.int .i64)]
abbrev Bt:=TL Zsr->Option (TL Nz)
abbrev vl:=Kd 101 Zsr Nz
def NJ(a0:Int):Option (TL Nz):=some ((Int.fdiv a0 (HPow.hPow (2:Int) (Min.min (Int.toNat (1:Int)) 64))),())
def ala  :vl:=⟨u1 NJ,pD Tryz.func101 5 k0 e0 1 (sS l0) fun d=>by kernel_rfl⟩
def Bu:vl:=ala
def we:Bt:=Bu.F
abbrev MX:Lay:={ T:=[(1,.int .i64),(2,.ptr 0 0),(4,.hd 1 (.int .i64)),(16,.int .i64),(17,.int .i64)],h:=[(0,.cells [.int .i64,.int .i64,.bool,.fz bL,.fz bD] 116),(1,.arr (.int .i64) 3)],nx:=2 }
abbrev MT:List (Ev.Ex×Lay):=[((.exit 0),{ T:=[(4,.hd 0 (.int .i64))],h:=[(0,.arr (.int .i64) 3)],nx:=1 })]
abbrev Ye:=TL MX.σs->Option (Out MT)
abbrev Yf:=Ld 0 33 (bp [0] (aW Tryz.f139)) MX MT
def Dr(t1 t16 t17 aE aD:Int)(aF:Bool)(aH:List (Sh.T bL))(aJ:List (Sh.T bD))(b1:List Int):Option (TL MX.σs⊕Out MT):=
 br (iL t17 t16)
 (
  ai (aA t1 (List.length aH))<|
  ai (room 8 (List.length (ap b1 ((IntKind.wrap .i64 (@HAdd.hAdd (Int) (Int) (Int) _ (gt bL aH t1).1 t17))::[]))))<|
  some (.inl (t1,(t16,((IntKind.wrap .i64 (t17+(1:Int))),(aE,(aD,(aF,(aH,(aJ,((ap b1 ((IntKind.wrap .i64 (@HAdd.hAdd (Int) (Int) (Int) _ (gt bL aH t1).1 t17))::[])),())))))))))))
 (
  some (.inr (b1,())))
def akW  :Yf:=bw (u9 Dr) (pL k0 e0 1 l0 fun d=>by kernel_rfl)
def Nc:Ye:=aQ (u9 Dr) NN
abbrev Zsq:List Sh:=[ab,(.int .i64)]
abbrev Ny:List Sh:=[(.sl (.int .i64))]
abbrev Yo:=TL Zsq->Option (TL Ny)
abbrev KF:=Kd 139 Zsq Ny
def NI(L4:Ye)(a0:Sh.T ab)(a1:Int):Option (TL Ny):=
 br (iL a1 (0:Int))
 (
  some ([],()))
 (
  br (aR false true (iE (Int.ofNat (List.length a0.2.2.2.1)) a1))
  (
   some ([],()))
  (
   ar (L4 (a1,(a0.2.1,((0:Int),(a0.1,(a0.2.1,(a0.2.2.1,(a0.2.2.2.1,(a0.2.2.2.2.1,([],())))))))))) fun x0=>
   some (x0.1,())))
def ak9(M4:Yf):KF:=⟨u2 (NI M4.L),pD Tryz.func139 33 k0 e0 1 (sS (sC M4 l0)) fun d=>by kernel_rfl⟩
def Yp:KF:=ak9  akW
def Ni:Yo:=Yp.F
abbrev ji:List (Nat×LO):=[(0,.cells [.int .i64,.fz (.int .i64),.fz ae,.fz (.int .i64),.fz (.int .i64),.fz (.int .i64),.fz ab,.fz ae,.hd 1 (.int .i64),.hd 2 ah,.hd 3 (.int .u8),.hd 4 (.int .i64)] 224),(1,.arr (.int .i64) 3),(2,.arr ah 148),(3,.arr (.int .u8) 5),(4,.arr (.int .i64) 3)]
abbrev BW:List (Nat×LO):=[(0,.cells fL 27),(1,.cells [.int .i64,.fz (.int .i64),.fz ae,.fz (.int .i64),.fz (.int .i64),.fz (.int .i64),.fz ab,.fz ae,.hd 2 (.int .i64),.hd 3 ah,.hd 4 (.int .u8),.hd 5 (.int .i64)] 224),(2,.arr (.int .i64) 3),(3,.arr ah 148),(4,.arr (.int .u8) 5),(5,.arr (.int .i64) 3)]
abbrev BX:List (Nat×LO):=[(0,.cells [.fz (.int .i64)] 22),(1,.cells [.ptr 2 0] 198),(2,.cells [.int .i64,.fz (.int .i64),.fz ae,.fz (.int .i64),.fz (.int .i64),.fz (.int .i64),.fz ab,.fz ae,.hd 3 (.int .i64),.hd 4 ah,.hd 5 (.int .u8),.hd 6 (.int .i64)] 224),(3,.arr (.int .i64) 3),(4,.arr ah 148),(5,.arr (.int .u8) 5),(6,.arr (.int .i64) 3)]
abbrev Ls:List (Nat×LO):=[(0,.cells [.int .i64,.fz (.int .i64),.fz ae,.fz (.int .i64),.fz (.int .i64),.fz (.int .i64),.fz ab,.fz ae,.hd 1 (.int .i64),.hd 2 ah,.hd 3 (.int .u8),.hd 4 (.int .i64)] 224),(1,.arr (.int .i64) 3),(2,.arr ah 148),(3,.arr (.int .u8) 5),(4,.arr (.int .i64) 3),(5,.cells [.ptr 0 0] 198),(6,.cells [.fz (.int .i64)] 22)]
abbrev Y8:Lay:={ T:=[(3,.ptr 0 0),(77,.hd 2 ah),(78,.int .i64),(79,.int .i64)],h:=ji,nx:=5 }
abbrev Y9:Lay:={ T:=[(1,.ptr 0 0),(3,.ptr 1 0),(46,.int .i64),(47,.int .i64)],h:=BW,nx:=6 }
abbrev Za:Lay:={ T:=[(0,.ptr 0 0),(1,.agg [.bool,.int .i64,.int .i64])],h:=ji,nx:=5 }
abbrev Zu:Lay:=Za
abbrev LF:List (Ev.Ex×Lay):=[(.ret,{ T:=[(0,.fz (.int .i64))],h:=ji,nx:=5 })]
abbrev Xi:=TL Zu.σs->Option (Out LF)
abbrev JO:=Kb 240 2 Zu 1 LF
def MO(ig:Bool)(fP kr aE:Int)(aD:List Int)(aF:List (Sh.T ae))(aH aJ aK:List Int)(aC:List (Sh.T ab))(aG:List (Sh.T ae))(b1:List Int)(b2:List (Sh.T ah))(b3 b4:List Int):Option (Out LF):=
 br ig
 (
  ai (aA fP (List.length aC))<|
  ai (aA kr (List.length (gt ab aC fP).2.2.2.1))<|
  some ((gt bL (gt ab aC fP).2.2.2.1 kr).2.1,(aE,(aD,(aF,(aH,(aJ,(aK,(aC,(aG,(b1,(b2,(b3,(b4,()))))))))))))))
 (
  ai (aA kr (List.length aG))<|
  some (((gt ae aG kr).2.1::((gt ae aG kr).2.2.1::[])),(aE,(aD,(aF,(aH,(aJ,(aK,(aC,(aG,(b1,(b2,(b3,(b4,()))))))))))))))
def aj0  :JO:=⟨dT MO,pB Tryz.func240 37 k0 e0 1 (sS l0) fun d=>by kernel_rfl⟩
def Xj:JO:=aj0
def Zx:Xi:=Xj.F
abbrev Zr:Lay:=Za
abbrev Lz:List (Ev.Ex×Lay):=[(.ret,{ T:=[(0,.fz (.int .i64))],h:=ji,nx:=5 })]
abbrev uX:=TL Zr.σs->Option (Out Lz)
abbrev rT:=Kb 148 2 Zr 1 Lz
def wh(F0:Yo)(ig:Bool)(fP kr aE:Int)(aD:List Int)(aF:List (Sh.T ae))(aH aJ aK:List Int)(aC:List (Sh.T ab))(aG:List (Sh.T ae))(b1:List Int)(b2:List (Sh.T ah))(b3 b4:List Int):Option (Out Lz):=
 br ig
 (
  ai (aA fP (List.length aC))<|
  ar (F0 (((gt ab aC fP).1,((gt ab aC fP).2.1,((gt ab aC fP).2.2.1,((gt ab aC fP).2.2.2.1,((gt ab aC fP).2.2.2.2.1,()))))),(kr,()))) fun x0=>
  some (x0.1,(aE,(aD,(aF,(aH,(aJ,(aK,(aC,(aG,(b1,(b2,(b3,(b4,()))))))))))))))
 (
  ai (aA kr (List.length aG))<|
  some (((gt ae aG kr).1::[]),(aE,(aD,(aF,(aH,(aJ,(aK,(aC,(aG,(b1,(b2,(b3,(b4,()))))))))))))))
def akf(c0:KF) :rT:=⟨dT (wh c0.F),pB Tryz.func148 30 (kD c0 k0) e0 1 (sS l0) fun d=>by kernel_rfl⟩
def uY:rT:=akf Yp
def vR:uX:=uY.F
abbrev Zt:Lay:={ T:=[(0,.int .u8),(1,.ptr 0 0),(2,.ptr 1 0)],h:=BX,nx:=7 }
abbrev LC:List (Ev.Ex×Lay):=[(.ret,{ T:=[],h:=BX,nx:=7 })]
abbrev Wu:=TL Zt.σs->Option (Out LC)
abbrev Jf:=Kb 256 3 Zt 0 LC
abbrev LL:Lay:={ T:=[(0,.int .u8),(2,.ptr 1 0),(6,.fz (.int .i64)),(7,.int .i64),(8,.int .i64)],h:=BX,nx:=7 }
abbrev LJ:List (Ev.Ex×Lay):=[((.exit 0),{ T:=[],h:=BX,nx:=7 })]
abbrev Wi:=TL LL.σs->Option (Out LJ)
abbrev Wj:=Ld 7 20 (bp [0] (aW Tryz.f256)) LL LJ
def CN(t0:Int)(t6:List Int)(t7 t8:Int)(aE:List Int)(bN:Int)(bS:List Int)(bT:List (Sh.T ae))(bU bV bW:List Int)(bX:List (Sh.T ab))(bZ:List (Sh.T ae))(b3:List Int)(b4:List (Sh.T ah))(b5 b6:List Int):Option (TL LL.σs⊕Out LJ):=
 br (iL t8 t7)
 (
  ai (aA t8 (List.length t6))<|
  ai (aA (gt (.int .i64) t6 t8) (List.length b5))<|
  some (.inl (t0,(t6,(t7,((IntKind.wrap .i64 (t8+(1:Int))),(aE,(bN,(bS,(bT,(bU,(bV,(bW,(bX,(bZ,(b3,(b4,((List.set b5 (Int.toNat (gt (.int .i64) t6 t8)) t0),(b6,())))))))))))))))))))
 (
  some (.inr (aE,(bN,(bS,(bT,(bU,(bV,(bW,(bX,(bZ,(b3,(b4,(b5,(b6,())))))))))))))))
def ajd  :Wj:=bw (mF CN) (pL k0 e0 1 l0 fun d=>by kernel_rfl)
def Me:Wi:=aQ (mF CN) NN
def Mu(L1:Wi)(t0:Int)(aE:List Int)(bN:Int)(bS:List Int)(bT:List (Sh.T ae))(bU bV bW:List Int)(bX:List (Sh.T ab))(bZ:List (Sh.T ae))(b3:List Int)(b4:List (Sh.T ah))(b5 b6:List Int):Option (Out LC):=
 ar (L1 (t0,(aE,((Int.ofNat (List.length aE)),((0:Int),(aE,(bN,(bS,(bT,(bU,(bV,(bW,(bX,(bZ,(b3,(b4,(b5,(b6,())))))))))))))))))) fun x0=>
 some x0
def ajo(M1:Wj):Jf:=⟨gN (Mu M1.L),pB Tryz.func256 20 k0 e0 1 (sS (sC M1 l0)) fun d=>by kernel_rfl⟩
def Wv:Jf:=ajo  ajd
def Zv:Wu:=Wv.F
abbrev Ly:Lay:={ T:=[(0,.ptr 0 0),(1,.int .i64)],h:=ji,nx:=5 }
abbrev B6:List (Ev.Ex×Lay):=[(.ret,{ T:=[(0,.bool)],h:=ji,nx:=5 })]
abbrev oP:=TL Ly.σs->Option (Out B6)
abbrev nO:=Kb 226 2 Ly 1 B6
abbrev LP:Lay:={ T:=[(2,.ptr 5 0),(7,.func 256 [] [.ptr 6 0,.ptr 5 0]),(8,.int .i64),(86,.fz (.int .i64)),(87,.int .i64),(88,.int .i64)],h:=Ls,nx:=7 }
abbrev LK:List (Ev.Ex×Lay):=[((.exit 3),{ T:=[(7,.func 256 [] [.ptr 5 0,.ptr 6 0])],h:=[(0,.cells [.int .i64,.fz (.int .i64),.fz ae,.fz (.int .i64),.fz (.int .i64),.fz (.int .i64),.fz ab,.fz ae,.hd 1 (.int .i64),.hd 2 ah,.hd 3 (.int .u8),.hd 4 (.int .i64)] 224),(1,.arr (.int .i64) 3),(2,.arr ah 148),(3,.arr (.int .u8) 5),(4,.arr (.int .i64) 3),(5,.cells [.fz (.int .i64)] 22),(6,.cells [.ptr 0 0] 198)],nx:=7 })]
abbrev Wr:=TL LP.σs->Option (Out LK)
abbrev Jd:=Ld 5 103 (bp [1] (aW Tryz.f226)) LP LK
abbrev Cw:Lay:={ T:=[(2,.ptr 5 0),(6,.ptr 6 0),(7,.func 256 [] [.ptr 6 0,.ptr 5 0]),(8,.int .i64),(64,.fz (.int .i64)),(65,.int .i64),(66,.int .i64)],h:=Ls,nx:=7 }
abbrev Cm:List (Ev.Ex×Lay):=[(.ret,{ T:=[(4,.bool)],h:=ji,nx:=5 }),((.exit 1),{ T:=[(2,.ptr 5 0),(6,.ptr 6 0),(7,.func 256 [] [.ptr 6 0,.ptr 5 0]),(8,.int .i64)],h:=Ls,nx:=7 })]
abbrev Wt:=TL Cw.σs->Option (Out Cm)
abbrev Je:=Ld 5 103 (bp [0] (aW Tryz.f226)) Cw Cm
def MV(F0:Bt)(F1:oP)(t8:Int)(t64:List Int)(t65 t66 aE:Int)(aD:List Int)(aF:List (Sh.T ae))(aH aJ aK:List Int)(aC:List (Sh.T ab))(aG:List (Sh.T ae))(b1:List Int)(b2:List (Sh.T ah))(b3 b4 vt:List Int):Option (TL Cw.σs⊕Out Cm):=
 br (iL t66 t65)
 (
  ai (aA t66 (List.length t64))<|
  ar (F0 ((gt (.int .i64) t64 t66),())) fun x0=>
  ar (F1 (x0.1,(aE,(aD,(aF,(aH,(aJ,(aK,(aC,(aG,(b1,(b2,(b3,(b4,())))))))))))))) fun x1=>
  br (Bool.not x1.1)
  (
   some (.inr (.inl (false,x1.2))))
  (
   ai (aA x0.1 (List.length x1.2.2.2.2.2.2.2.2.2.2.2.2.1))<|
   some (.inl ((cN (iL t8 (gt (.int .i64) x1.2.2.2.2.2.2.2.2.2.2.2.2.1 x0.1)) (gt (.int .i64) x1.2.2.2.2.2.2.2.2.2.2.2.2.1 x0.1) t8),(t64,(t65,((IntKind.wrap .i64 (t66+(1:Int))),(x1.2.1,(x1.2.2.1,(x1.2.2.2.1,(x1.2.2.2.2.1,(x1.2.2.2.2.2.1,(x1.2.2.2.2.2.2.1,(x1.2.2.2.2.2.2.2.1,(x1.2.2.2.2.2.2.2.2.1,(x1.2.2.2.2.2.2.2.2.2.1,(x1.2.2.2.2.2.2.2.2.2.2.1,(x1.2.2.2.2.2.2.2.2.2.2.2.1,(x1.2.2.2.2.2.2.2.2.2.2.2.2.1,(vt,()))))))))))))))))))))
 (
  some (.inr (.inr (t8,(aE,(aD,(aF,(aH,(aJ,(aK,(aC,(aG,(b1,(b2,(b3,(b4,(vt,())))))))))))))))))
def ajn(c0:vl)(c1:nO) :Je:=bw (mF (MV c0.F c1.F)) (pL (kD c0 (kB c1 k0)) e0 1 l0 fun d=>by kernel_rfl)
def ajl(s:nO):Je:=ajn Bu s
def Mh(F:oP):Wt:=aQ (fun d=>MV we F  d.1 d.2.1 d.2.2.1 d.2.2.2.1 d.2.2.2.2.1 d.2.2.2.2.2.1 d.2.2.2.2.2.2.1 d.2.2.2.2.2.2.2.1 d.2.2.2.2.2.2.2.2.1 d.2.2.2.2.2.2.2.2.2.1 d.2.2.2.2.2.2.2.2.2.2.1 d.2.2.2.2.2.2.2.2.2.2.2.1 d.2.2.2.2.2.2.2.2.2.2.2.2.1 d.2.2.2.2.2.2.2.2.2.2.2.2.2.1 d.2.2.2.2.2.2.2.2.2.2.2.2.2.2.1 d.2.2.2.2.2.2.2.2.2.2.2.2.2.2.2.1 d.2.2.2.2.2.2.2.2.2.2.2.2.2.2.2.2.1) NN
def CU(t8:Int)(t86:List Int)(t87 t88 aE:Int)(aD:List Int)(aF:List (Sh.T ae))(aH aJ aK:List Int)(aC:List (Sh.T ab))(aG:List (Sh.T ae))(b1:List Int)(b2:List (Sh.T ah))(b3 b4 vt:List Int):Option (TL LP.σs⊕Out LK):=
 br (iL t88 t87)
 (
  ai (aA t88 (List.length t86))<|
  ai (aA (gt (.int .i64) t86 t88) (List.length b4))<|
  some (.inl (t8,(t86,(t87,((IntKind.wrap .i64 (t88+(1:Int))),(aE,(aD,(aF,(aH,(aJ,(aK,(aC,(aG,(b1,(b2,(b3,((List.set b4 (Int.toNat (gt (.int .i64) t86 t88)) (IntKind.wrap .i64 (t8+(1:Int)))),(vt,())))))))))))))))))))
 (
  some (.inr (aE,(aD,(aF,(aH,(aJ,(aK,(aC,(aG,(b1,(b2,(b3,(b4,(vt,())))))))))))))))
def ajm  :Jd:=bw (mF CU) (pL k0 e0 1 l0 fun d=>by kernel_rfl)
def ajk(s:nO):Jd:=ajm
def Mg(F:oP):Wr:=aQ (fun d=>CU   d.1 d.2.1 d.2.2.1 d.2.2.2.1 d.2.2.2.2.1 d.2.2.2.2.2.1 d.2.2.2.2.2.2.1 d.2.2.2.2.2.2.2.1 d.2.2.2.2.2.2.2.2.1 d.2.2.2.2.2.2.2.2.2.1 d.2.2.2.2.2.2.2.2.2.2.1 d.2.2.2.2.2.2.2.2.2.2.2.1 d.2.2.2.2.2.2.2.2.2.2.2.2.1 d.2.2.2.2.2.2.2.2.2.2.2.2.2.1 d.2.2.2.2.2.2.2.2.2.2.2.2.2.2.1 d.2.2.2.2.2.2.2.2.2.2.2.2.2.2.2.1 d.2.2.2.2.2.2.2.2.2.2.2.2.2.2.2.2.1) NN
def ML(F0:Bt)(F1:oP)(F2:Xi)(F3:Wu)(F4:uX)(L11:Wt)(L19:Wr)(t1 aE:Int)(aD:List Int)(aF:List (Sh.T ae))(aH aJ aK:List Int)(aC:List (Sh.T ab))(aG:List (Sh.T ae))(b1:List Int)(b2:List (Sh.T ah))(b3 b4:List Int):Option (Out B6):=
 ai (aA t1 (List.length b1))<|
 br (iQ (gt (.int .i64) b1 t1) (0:Int))
 (
  some (true,(aE,(aD,(aF,(aH,(aJ,(aK,(aC,(aG,(b1,(b2,(b3,(b4,()))))))))))))))
 (
  ai (aA t1 (List.length b3))<|
  br (aR false true (iQ (gt (.int .u8) b3 t1) (2:Int)))
  (
   some (true,(aE,(aD,(aF,(aH,(aJ,(aK,(aC,(aG,(b1,(b2,(b3,(b4,()))))))))))))))
  (
   ai (aA t1 (List.length b3))<|
   br (iQ (gt (.int .u8) b3 t1) (1:Int))
   (
    some (false,(aE,(aD,(aF,(aH,(aJ,(aK,(aC,(aG,(b1,(b2,(b3,(b4,()))))))))))))))
   (
    ai (aA t1 (List.length b1))<|
    ai (aA (IntKind.wrap .i64 (@HSub.hSub (Int) (Int) (Int) _ (gt (.int .i64) b1 t1) (1:Int))) (List.length b2))<|
    ar (F4 ((gt ah b2 (IntKind.wrap .i64 (@HSub.hSub (Int) (Int) (Int) _ (gt (.int .i64) b1 t1) (1:Int)))).1,((gt ah b2 (IntKind.wrap .i64 (@HSub.hSub (Int) (Int) (Int) _ (gt (.int .i64) b1 t1) (1:Int)))).2.1,((gt ah b2 (IntKind.wrap .i64 (@HSub.hSub (Int) (Int) (Int) _ (gt (.int .i64) b1 t1) (1:Int)))).2.2.1,(aE,(aD,(aF,(aH,(aJ,(aK,(aC,(aG,(b1,(b2,(b3,(b4,())))))))))))))))) fun x0=>
    ar (F3 ((1:Int),x0)) fun x1=>
    ar (F2 ((gt ah b2 (IntKind.wrap .i64 (@HSub.hSub (Int) (Int) (Int) _ (gt (.int .i64) b1 t1) (1:Int)))).1,((gt ah b2 (IntKind.wrap .i64 (@HSub.hSub (Int) (Int) (Int) _ (gt (.int .i64) b1 t1) (1:Int)))).2.1,((gt ah b2 (IntKind.wrap .i64 (@HSub.hSub (Int) (Int) (Int) _ (gt (.int .i64) b1 t1) (1:Int)))).2.2.1,x1.2)))) fun x2=>
    ar (L11 ((0:Int),(x2.1,((Int.ofNat (List.length x2.1)),((0:Int),(x2.2.1,(x2.2.2.1,(x2.2.2.2.1,(x2.2.2.2.2.1,(x2.2.2.2.2.2.1,(x2.2.2.2.2.2.2.1,(x2.2.2.2.2.2.2.2.1,(x2.2.2.2.2.2.2.2.2.1,(x2.2.2.2.2.2.2.2.2.2.1,(x2.2.2.2.2.2.2.2.2.2.2.1,(x2.2.2.2.2.2.2.2.2.2.2.2.1,(x2.2.2.2.2.2.2.2.2.2.2.2.2.1,(x1.1,())))))))))))))))))) fun x3=>
    (match x3 with
    |.inl x4=>some x4|.inr x4=>
     ar (L19 (x4.1,(x4.2.2.2.2.2.2.2.2.2.2.2.2.2.1,((Int.ofNat (List.length x4.2.2.2.2.2.2.2.2.2.2.2.2.2.1)),((0:Int),x4.2))))) fun x5=>
     ar (F3 ((2:Int),(x5.2.2.2.2.2.2.2.2.2.2.2.2.1,(x5.1,(x5.2.1,(x5.2.2.1,(x5.2.2.2.1,(x5.2.2.2.2.1,(x5.2.2.2.2.2.1,(x5.2.2.2.2.2.2.1,(x5.2.2.2.2.2.2.2.1,(x5.2.2.2.2.2.2.2.2.1,(x5.2.2.2.2.2.2.2.2.2.1,(x5.2.2.2.2.2.2.2.2.2.2.1,(x5.2.2.2.2.2.2.2.2.2.2.2.1,()))))))))))))))) fun x6=>
     some (true,x6.2)
    ))))
def ajP(c0:vl)(c1:nO)(c2:JO)(c3:Jf)(c4:rT)(M11:Je)(M19:Jd):nO:=⟨nC (ML c0.F c1.F c2.F c3.F c4.F M11.L M19.L),pB Tryz.func226 103 (kD c0 (kB c1 (kB c2 (kB c3 (kB c4 k0))))) e0 1 (sS (sC M11 (sC M19 l0))) fun d=>by kernel_rfl⟩
def uV:Nat->nO
 |0=>mk0 Tryz.func226 (by kernel_rfl) (by kernel_rfl)|k+1=>ajP Bu (uV k) Xj Wv uY (ajl (uV k)) (ajk (uV k))
def sM(k:Nat):oP:=(uV k).F
def JD:nO:=uV NN
def Ma:oP:=JD.F
abbrev ZA:Lay:={ T:=[(0,.ptr 0 0)],h:=ji,nx:=5 }
abbrev Mb:List (Ev.Ex×Lay):=[(.ret,{ T:=[(0,.bool)],h:=ji,nx:=5 })]
abbrev Xl:=TL ZA.σs->Option (Out Mb)
abbrev JS:=Kb 195 1 ZA 1 Mb
abbrev Mc:Lay:={ T:=[(3,.func 226 [.ptr 0 0] []),(11,.int .i64),(12,.int .i64)],h:=ji,nx:=5 }
abbrev CI:List (Ev.Ex×Lay):=[(.ret,{ T:=[(2,.bool)],h:=ji,nx:=5 }),((.exit 0),{ T:=[],h:=ji,nx:=5 })]
abbrev Xk:=TL Mc.σs->Option (Out CI)
abbrev JP:=Ld 5 20 (bp [0] (aW Tryz.f195)) Mc CI
def MZ(F0:oP)(t11 t12 aE:Int)(aD:List Int)(aF:List (Sh.T ae))(aH aJ aK:List Int)(aC:List (Sh.T ab))(aG:List (Sh.T ae))(b1:List Int)(b2:List (Sh.T ah))(b3 b4:List Int):Option (TL Mc.σs⊕Out CI):=
 br (iL t12 t11)
 (
  ar (F0 (t12,(aE,(aD,(aF,(aH,(aJ,(aK,(aC,(aG,(b1,(b2,(b3,(b4,())))))))))))))) fun x0=>
  br (Bool.not x0.1)
  (
   some (.inr (.inl (false,x0.2))))
  (
   some (.inl (t11,((IntKind.wrap .i64 (t12+(1:Int))),x0.2)))))
 (
  some (.inr (.inr (aE,(aD,(aF,(aH,(aJ,(aK,(aC,(aG,(b1,(b2,(b3,(b4,())))))))))))))))
def aj2(c0:nO) :JP:=bw (gN (MZ c0.F)) (pL (kB c0 k0) e0 1 l0 fun d=>by kernel_rfl)
def aj1:JP:=aj2 JD
def Zhi:Xk:=aQ (gN (MZ Ma)) NN
def Zm5(F0:oP)(L3:Xk)(aE:Int)(aD:List Int)(aF:List (Sh.T ae))(aH aJ aK:List Int)(aC:List (Sh.T ab))(aG:List (Sh.T ae))(b1:List Int)(b2:List (Sh.T ah))(b3 b4:List Int):Option (Out Mb):=
 ar (L3 ((Int.ofNat (List.length b1)),((0:Int),(aE,(aD,(aF,(aH,(aJ,(aK,(aC,(aG,(b1,(b2,(b3,(b4,()))))))))))))))) fun x0=>
 (match x0 with|.inl x1=>some x1|.inr x1=>some (true,x1)
 )
def aj6(c0:nO)(M3:JP):JS:=⟨jW (Zm5 c0.F M3.L),pB Tryz.func195 20 (kB c0 k0) e0 1 (sS (sC M3 l0)) fun d=>by kernel_rfl⟩
def Xm:JS:=aj6 JD aj1
def Zhj:Xl:=Xm.F
abbrev Z0:Lay:={ T:=[(0,.agg fL)],h:=[],nx:=0 }
abbrev MP:List (Ev.Ex×Lay):=[(.ret,{ T:=[(0,.ptr 0 0)],h:=ji,nx:=5 })]
abbrev X9:=TL Z0.σs->Option (Out MP)
abbrev Kx:=Kb 194 1 Z0 1 MP
abbrev MH:Lay:=Y8
abbrev Mv:List (Ev.Ex×Lay):=[((.exit 6),{ T:=[(3,.ptr 0 0)],h:=ji,nx:=5 })]
abbrev XI:=TL MH.σs->Option (Out Mv)
abbrev Ke:=Ld 0 103 (bp [2] (aW Tryz.f194)) MH Mv
abbrev Mo:Lay:={ T:=[(3,.ptr 0 0),(7,.int .i64),(77,.hd 2 ah),(78,.int .i64),(79,.int .i64),(86,.fz (.int .i64)),(87,.int .i64),(88,.int .i64)],h:=ji,nx:=5 }
abbrev Mi:List (Ev.Ex×Lay):=[((.exit 8),Y8)]
abbrev J9:=TL Mo.σs->Option (Out Mi)
abbrev Kc:=Ld 0 103 (bp [2,0] (aW Tryz.f194)) Mo Mi
abbrev MQ:Lay:=Y9
abbrev MF:List (Ev.Ex×Lay):=[((.exit 2),{ T:=[(3,.ptr 0 0)],h:=ji,nx:=5 })]
abbrev XT:=TL MQ.σs->Option (Out MF)
abbrev Ks:=Ld 0 103 (bp [1] (aW Tryz.f194)) MQ MF
abbrev Mp:Lay:={ T:=[(1,.ptr 0 0),(3,.ptr 1 0),(5,.int .i64),(46,.int .i64),(47,.int .i64),(56,.int .i64),(57,.int .i64)],h:=BW,nx:=6 }
abbrev Mj:List (Ev.Ex×Lay):=[((.exit 4),Y9)]
abbrev Ka:=TL Mp.σs->Option (Out Mj)
abbrev Kf:=Ld 0 103 (bp [1,0] (aW Tryz.f194)) Mp Mj
abbrev MR:Lay:={ T:=[(1,.ptr 0 0),(3,.ptr 1 0),(28,.int .i64),(29,.int .i64)],h:=BW,nx:=6 }
abbrev MG:List (Ev.Ex×Lay):=[((.exit 0),{ T:=[(1,.ptr 0 0),(3,.ptr 1 0)],h:=BW,nx:=6 })]
abbrev XU:=TL MR.σs->Option (Out MG)
abbrev XV:=Ld 0 103 (bp [0] (aW Tryz.f194)) MR MG
def Dk(t28 t29 aE:Int)(aD:List Int)(aF:List (Sh.T ae))(aH aJ aK:List Int)(aC:List (Sh.T ab))(aG:List (Sh.T ae))(cM:Int)(cR:List Int)(gH:List (Sh.T ae))(gl gZ mR:List Int)(mS:List (Sh.T ab))(mT:List (Sh.T ae))(b2:List Int)(b3:List (Sh.T ah))(b4 b5:List Int):Option (TL MR.σs⊕Out MG):=
 br (iL t29 t28)
 (
  ai (room 24 (List.length (ap b3 ((false,((0:Int),(t29,())))::[]))))<|
  some (.inl (t28,((IntKind.wrap .i64 (t29+(1:Int))),(aE,(aD,(aF,(aH,(aJ,(aK,(aC,(aG,(cM,(cR,(gH,(gl,(gZ,(mR,(mS,(mT,(b2,((ap b3 ((false,((0:Int),(t29,())))::[])),(b4,(b5,()))))))))))))))))))))))))
 (
  some (.inr (aE,(aD,(aF,(aH,(aJ,(aK,(aC,(aG,(cM,(cR,(gH,(gl,(gZ,(mR,(mS,(mT,(b2,(b3,(b4,(b5,()))))))))))))))))))))))
def akD  :XV:=bw (qU Dk) (pL k0 e0 1 l0 fun d=>by kernel_rfl)
def Dd:XU:=aQ (qU Dk) NN
def Di(t5 t46 t47 t56 t57 aE:Int)(aD:List Int)(aF:List (Sh.T ae))(aH aJ aK:List Int)(aC:List (Sh.T ab))(aG:List (Sh.T ae))(cM:Int)(cR:List Int)(gH:List (Sh.T ae))(gl gZ mR:List Int)(mS:List (Sh.T ab))(mT:List (Sh.T ae))(b2:List Int)(b3:List (Sh.T ah))(b4 b5:List Int):Option (TL Mp.σs⊕Out Mj):=
 br (iL t57 t56)
 (
  ai (room 24 (List.length (ap b3 ((true,(t5,(t57,())))::[]))))<|
  some (.inl (t5,(t46,(t47,(t56,((IntKind.wrap .i64 (t57+(1:Int))),(aE,(aD,(aF,(aH,(aJ,(aK,(aC,(aG,(cM,(cR,(gH,(gl,(gZ,(mR,(mS,(mT,(b2,((ap b3 ((true,(t5,(t57,())))::[])),(b4,(b5,())))))))))))))))))))))))))))
 (
  some (.inr (t46,(t47,(aE,(aD,(aF,(aH,(aJ,(aK,(aC,(aG,(cM,(cR,(gH,(gl,(gZ,(mR,(mS,(mT,(b2,(b3,(b4,(b5,()))))))))))))))))))))))))
def XK  :Kf:=bw (fun d=>Di   d.1 d.2.1 d.2.2.1 d.2.2.2.1 d.2.2.2.2.1 d.2.2.2.2.2.1 d.2.2.2.2.2.2.1 d.2.2.2.2.2.2.2.1 d.2.2.2.2.2.2.2.2.1 d.2.2.2.2.2.2.2.2.2.1 d.2.2.2.2.2.2.2.2.2.2.1 d.2.2.2.2.2.2.2.2.2.2.2.1 d.2.2.2.2.2.2.2.2.2.2.2.2.1 d.2.2.2.2.2.2.2.2.2.2.2.2.2.1 d.2.2.2.2.2.2.2.2.2.2.2.2.2.2.1 d.2.2.2.2.2.2.2.2.2.2.2.2.2.2.2.1 d.2.2.2.2.2.2.2.2.2.2.2.2.2.2.2.2.1 d.2.2.2.2.2.2.2.2.2.2.2.2.2.2.2.2.2.1 d.2.2.2.2.2.2.2.2.2.2.2.2.2.2.2.2.2.2.1 d.2.2.2.2.2.2.2.2.2.2.2.2.2.2.2.2.2.2.2.1 d.2.2.2.2.2.2.2.2.2.2.2.2.2.2.2.2.2.2.2.2.1 d.2.2.2.2.2.2.2.2.2.2.2.2.2.2.2.2.2.2.2.2.2.1 d.2.2.2.2.2.2.2.2.2.2.2.2.2.2.2.2.2.2.2.2.2.2.1 d.2.2.2.2.2.2.2.2.2.2.2.2.2.2.2.2.2.2.2.2.2.2.2.1 d.2.2.2.2.2.2.2.2.2.2.2.2.2.2.2.2.2.2.2.2.2.2.2.2.1) (pL k0 e0 1 l0 fun d=>by kernel_rfl)
def C5:Ka:=aQ (fun d=>Di   d.1 d.2.1 d.2.2.1 d.2.2.2.1 d.2.2.2.2.1 d.2.2.2.2.2.1 d.2.2.2.2.2.2.1 d.2.2.2.2.2.2.2.1 d.2.2.2.2.2.2.2.2.1 d.2.2.2.2.2.2.2.2.2.1 d.2.2.2.2.2.2.2.2.2.2.1 d.2.2.2.2.2.2.2.2.2.2.2.1 d.2.2.2.2.2.2.2.2.2.2.2.2.1 d.2.2.2.2.2.2.2.2.2.2.2.2.2.1 d.2.2.2.2.2.2.2.2.2.2.2.2.2.2.1 d.2.2.2.2.2.2.2.2.2.2.2.2.2.2.2.1 d.2.2.2.2.2.2.2.2.2.2.2.2.2.2.2.2.1 d.2.2.2.2.2.2.2.2.2.2.2.2.2.2.2.2.2.1 d.2.2.2.2.2.2.2.2.2.2.2.2.2.2.2.2.2.2.1 d.2.2.2.2.2.2.2.2.2.2.2.2.2.2.2.2.2.2.2.1 d.2.2.2.2.2.2.2.2.2.2.2.2.2.2.2.2.2.2.2.2.1 d.2.2.2.2.2.2.2.2.2.2.2.2.2.2.2.2.2.2.2.2.2.1 d.2.2.2.2.2.2.2.2.2.2.2.2.2.2.2.2.2.2.2.2.2.2.1 d.2.2.2.2.2.2.2.2.2.2.2.2.2.2.2.2.2.2.2.2.2.2.2.1 d.2.2.2.2.2.2.2.2.2.2.2.2.2.2.2.2.2.2.2.2.2.2.2.2.1) NN
def Dj(L11:Ka)(t46 t47 aE:Int)(aD:List Int)(aF:List (Sh.T ae))(aH aJ aK:List Int)(aC:List (Sh.T ab))(aG:List (Sh.T ae))(cM:Int)(cR:List Int)(gH:List (Sh.T ae))(gl gZ mR:List Int)(mS:List (Sh.T ab))(mT:List (Sh.T ae))(b2:List Int)(b3:List (Sh.T ah))(b4 b5:List Int):Option (TL MQ.σs⊕Out MF):=
 br (iL t47 t46)
 (
  ai (aA t47 (List.length aC))<|
  ar (L11 (t47,(t46,(t47,((Int.ofNat (List.length (gt ab aC t47).2.2.2.1)),((0:Int),(aE,(aD,(aF,(aH,(aJ,(aK,(aC,(aG,(cM,(cR,(gH,(gl,(gZ,(mR,(mS,(mT,(b2,(b3,(b4,(b5,())))))))))))))))))))))))))) fun x0=>
  some (.inl (x0.1,((IntKind.wrap .i64 (@HAdd.hAdd (Int) (Int) (Int) _ x0.2.1 (1:Int))),x0.2.2))))
 (
  some (.inr (cM,(cR,(gH,(gl,(gZ,(mR,(mS,(mT,(b2,(b3,(b4,(b5,()))))))))))))))
def akE(M11:Kf):Ks:=bw (qU (Dj M11.L)) (pL k0 e0 1 (sC M11 l0) fun d=>by kernel_rfl)
def akC:Ks:=akE  XK
def Dc:XT:=aQ (qU (Dj C5)) NN
def Dg(t7 t78 t79:Int)(t86:List Int)(t87 t88 aE:Int)(aD:List Int)(aF:List (Sh.T ae))(aH aJ aK:List Int)(aC:List (Sh.T ab))(aG:List (Sh.T ae))(b1:List Int)(b2:List (Sh.T ah))(b3 b4:List Int):Option (TL Mo.σs⊕Out Mi):=
 br (iL t88 t87)
 (
  ai (aA t88 (List.length t86))<|
  ai (aA (gt (.int .i64) t86 t88) (List.length b1))<|
  some (.inl (t7,(t78,(t79,(t86,(t87,((IntKind.wrap .i64 (t88+(1:Int))),(aE,(aD,(aF,(aH,(aJ,(aK,(aC,(aG,((List.set b1 (Int.toNat (gt (.int .i64) t86 t88)) (IntKind.wrap .i64 (t7+(1:Int)))),(b2,(b3,(b4,()))))))))))))))))))))
 (
  some (.inr (t78,(t79,(aE,(aD,(aF,(aH,(aJ,(aK,(aC,(aG,(b1,(b2,(b3,(b4,()))))))))))))))))
def XJ  :Kc:=bw (DY Dg) (pL k0 e0 1 l0 fun d=>by kernel_rfl)
def C4:J9:=aQ (DY Dg) NN
def Dh(F0:uX)(L20:J9)(t78 t79 aE:Int)(aD:List Int)(aF:List (Sh.T ae))(aH aJ aK:List Int)(aC:List (Sh.T ab))(aG:List (Sh.T ae))(b1:List Int)(b2:List (Sh.T ah))(b3 b4:List Int):Option (TL MH.σs⊕Out Mv):=
 br (iL t79 t78)
 (
  ai (aA t79 (List.length b2))<|
  ar (F0 ((gt ah b2 t79).1,((gt ah b2 t79).2.1,((gt ah b2 t79).2.2.1,(aE,(aD,(aF,(aH,(aJ,(aK,(aC,(aG,(b1,(b2,(b3,(b4,())))))))))))))))) fun x0=>
  ar (L20 (t79,(t78,(t79,(x0.1,((Int.ofNat (List.length x0.1)),((0:Int),x0.2))))))) fun x1=>
  some (.inl (x1.1,((IntKind.wrap .i64 (@HAdd.hAdd (Int) (Int) (Int) _ x1.2.1 (1:Int))),x1.2.2))))
 (
  some (.inr (aE,(aD,(aF,(aH,(aJ,(aK,(aC,(aG,(b1,(b2,(b3,(b4,()))))))))))))))
def akt(c0:rT)(M20:Kc):Ke:=bw (gN (Dh c0.F M20.L)) (pL (kB c0 k0) e0 1 (sC M20 l0) fun d=>by kernel_rfl)
def aks:Ke:=akt uY XJ
def Db:XI:=aQ (gN (Dh vR C4)) NN
def Nt(F0:uX)(L3:XU)(L8:XT)(L11:Ka)(L17:XI)(L20:J9)(dq:Int)(fO:List Int)(fm:List (Sh.T ae))(gn gp gr:List Int)(dS:List (Sh.T ab))(fZ:List (Sh.T ae)):Option (Out MP):=
 ai (both (iE (0:Int) (IntKind.wrap .i64 (dq+(1:Int)))) (both (iE (IntKind.wrap .i64 (dq+(1:Int))) (IntKind.wrap .i64 (dq+(1:Int)))) (iE ((Int.ofNat 8)*(IntKind.wrap .i64 (dq+(1:Int)))) (281474976710656:Int))))<|
 ai (both (iE (0:Int) (IntKind.wrap .i64 (dq+(1:Int)))) (both (iE (IntKind.wrap .i64 (dq+(1:Int))) (IntKind.wrap .i64 (dq+(1:Int)))) (iE ((Int.ofNat 1)*(IntKind.wrap .i64 (dq+(1:Int)))) (281474976710656:Int))))<|
 ai (both (iE (0:Int) (IntKind.wrap .i64 (dq+(1:Int)))) (both (iE (IntKind.wrap .i64 (dq+(1:Int))) (IntKind.wrap .i64 (dq+(1:Int)))) (iE ((Int.ofNat 8)*(IntKind.wrap .i64 (dq+(1:Int)))) (281474976710656:Int))))<|
 ar (L3 ((Int.ofNat (List.length fZ)),((0:Int),(dq,(fO,(fm,(gn,(gp,(gr,(dS,(fZ,(dq,(fO,(fm,(gn,(gp,(gr,(dS,(fZ,((List.replicate (Int.toNat (IntKind.wrap .i64 (dq+(1:Int)))) (Sh.zero (.int .i64))),([],((List.replicate (Int.toNat (IntKind.wrap .i64 (dq+(1:Int)))) (Sh.zero (.int .u8))),((List.replicate (Int.toNat (IntKind.wrap .i64 (dq+(1:Int)))) (Sh.zero (.int .i64))),()))))))))))))))))))))))) fun x0=>
 ar (L8 ((Int.ofNat (List.length x0.2.2.2.2.2.2.1)),((0:Int),x0))) fun x1=>
 ar (L17 ((Int.ofNat (List.length x1.2.2.2.2.2.2.2.2.2.1)),((0:Int),x1))) fun x2=>
 some x2
def akR(c0:rT)(M3:XV)(M8:Ks)(M11:Kf)(M17:Ke)(M20:Kc):Kx:=⟨u8 (Nt c0.F M3.L M8.L M11.L M17.L M20.L),pB Tryz.func194 103 (kB c0 k0) e0 1 (sS (sC M3 (sC M8 (sC M17 l0)))) fun d=>by kernel_rfl⟩
def Ya:Kx:=akR uY akD akC XK aks XJ
def Zo9:X9:=Ya.F
abbrev Z1:Lay:={ T:=[(0,.agg fL)],h:=[],nx:=0 }
abbrev MS:List (Ev.Ex×Lay):=[(.ret,{ T:=[(0,.di),(1,.int .i64)],h:=[],nx:=0 }),(.ret,{ T:=[(0,.ptr 0 0),(1,.int .i64)],h:=ji,nx:=5 })]
abbrev Ky:=TL Z1.σs->Option (Out MS)
abbrev Bs:=Kb 128 1 Z1 2 MS
def Zw8(F0:akU)(F1:Xl)(F2:X9)(dq:Int)(fO:List Int)(fm:List (Sh.T ae))(gn gp gr:List Int)(dS:List (Sh.T ab))(fZ:List (Sh.T ae)):Option (Out MS):=
 ar (F0 ((dq,(fO,(fm,(gn,(gp,(gr,(dS,(fZ,())))))))),())) fun x0=>
 br (Bool.not (iQ x0.1 (0:Int)))
 (
  some (.inl (x0.1,())))
 (
  ar (F2 (dq,(fO,(fm,(gn,(gp,(gr,(dS,(fZ,()))))))))) fun x1=>
  ar (F1 x1) fun x2=>
  br (Bool.not x2.1)
  (
   some (.inl ((8:Int),())))
  (
   some (.inr ((0:Int),x2.2))))
def akS(c0:Yd)(c1:JS)(c2:Kx) :Bs:=⟨u8 (Zw8 c0.F c1.F c2.F),pB Tryz.func128 17 (kD c0 (kB c1 (kB c2 k0))) e0 1 (sS l0) fun d=>by kernel_rfl⟩
def Kz:Bs:=akS akV Xm Ya
def wj:Ky:=Kz.F
abbrev Zq5:List Sh:=[bf]
abbrev Nh:List Sh:=[(.int .i64)]
abbrev qe:=TL Zq5->Option (TL Nh)
abbrev oQ:=Kd 66 Zq5 Nh
def Zul(F0:Ky)(a0:Sh.T bf):Option (TL Nh):=
 ar (F0 a0) fun x0=>
 (match x0 with|.inl x1=>some (x1.1,())|.inr x1=>some (x1.1,())
 )
def akH(c0:Bs) :oQ:=⟨u1 (Zul c0.F),pD Tryz.func66 11 (kB c0 k0) e0 1 (sS l0) fun d=>by kernel_rfl⟩
def qf:oQ:=akH Kz
def Zfn:qe:=qf.F
