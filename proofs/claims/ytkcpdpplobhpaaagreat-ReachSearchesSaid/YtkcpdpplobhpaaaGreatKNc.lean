import Derived.Test.YtkcpdpplobhpaaaGreatKMf
import Derived.Test.YtkcpdpplobhpaaaGreatKNb
set_option linter.unusedVariables false
set_option linter.unusedSimpArgs false
set_option linter.unnecessarySimpa false
section
namespace Go.Proofs.YtkcpdpplobhpaaaGreat.V
open Go Go.RowKit Go.Proofs.YtkcpdpplobhpaaaGreat.Pl
def kV(x:ae.T):dY:=⟨x.1,x.2.1,x.2.2.1⟩
def nV(x:ae.T):fT:=⟨x.1,x.2.1,x.2.2.1⟩
def qV(x:cj.T):nL:=⟨x.1,x.2.1⟩
def rX(x:bI.T):nA:=⟨x.1,x.2.1,x.2.2.1⟩
def nX(x:ab.T):bP:=⟨x.1,x.2.1,x.2.2.1,x.2.2.2.1.map qV,x.2.2.2.2.1.map rX⟩
def fx(x:ba.T):aD:=⟨x.1,x.2.1,x.2.2.1.map kV,x.2.2.2.1,x.2.2.2.2.1,x.2.2.2.2.2.1,x.2.2.2.2.2.2.1.map nX,x.2.2.2.2.2.2.2.1.map nV⟩
def bM(x:dY):ae.T:=(x.var,(x.next,(x.init,())))
def dW(x:fT):ae.T:=(x.var,(x.a,(x.b,())))
def dU(x:nL):cj.T:=(x.var,(x.addr,()))
def dZ(x:nA):bI.T:=(x.on,(x.addr,(x.data,())))
def av(x:bP):ab.T:=(x.addr,(x.word,(x.any,(x.reads.map dU,(x.writes.map dZ,())))))
def bz(x:aD):ba.T:=(x.vars,(x.aM,(x.ax.map bM,(x.cf,(x.bo,(x.constraints,(x.aa.map av,(x.aP.map dW,()))))))))
theorem map_id'{α β:Type}{f:α->β}{g:β->α}(h:∀x,g (f x)=x):∀L:List α,(L.map f).map g=L
 |[]=>rfl|x::L=>by simp only[List.map_cons,h,map_id' h L]
theorem ahD(a b:Int)(c:Bool)(d:List cj.T)(e:List bI.T):((a,(b,(c,((d.map qV).map dU,((e.map rX).map dZ,()))))):Int×Int×Bool×List cj.T×List bI.T×Unit)=(a,(b,(c,(d,(e,()))))):=by rw[map_id' (f:=qV) (g:=dU) (fun x=>rfl),map_id' (f:=rX) (g:=dZ) (fun x=>rfl)]
theorem akX(x:ab.T):av (nX x)=x:=ahD x.1 x.2.1 x.2.2.1 x.2.2.2.1 x.2.2.2.2.1
theorem ahI(a:Int)(b:List Int)(c:List ae.T)(d e f:List Int)(g:List ab.T)(h:List ae.T) :
  ((a,(b,((c.map kV).map bM,(d,(e,(f,((g.map nX).map av,((h.map nV).map dW,())))))))):Int×List Int×List ae.T×List Int×List Int×List Int×List ab.T×List ae.T×Unit)=(a,(b,(c,(d,(e,(f,(g,(h,())))))))):=by
 rw[map_id' (f:=kV) (g:=bM) (fun x=>rfl),map_id' (f:=nV) (g:=dW) (fun x=>rfl),map_id' (f:=nX) (g:=av) akX]
theorem FJ(x:ba.T):bz (fx x)=x:=ahI x.1 x.2.1 x.2.2.1 x.2.2.2.1 x.2.2.2.2.1 x.2.2.2.2.2.1 x.2.2.2.2.2.2.1 x.2.2.2.2.2.2.2.1
theorem akY(x:bP):nX (av x)=x:=by obtain⟨a,b,c,d,e⟩:=x;show(⟨a,b,c,(d.map dU).map qV,(e.map dZ).map rX⟩:bP)=_;rw[map_id' (f:=dU) (g:=qV) (fun x=>rfl),map_id' (f:=dZ) (g:=rX) (fun x=>rfl)]
theorem oq(x:aD):fx (bz x)=x:=by obtain⟨a,b,c,d,e,f,g,h⟩:=x;show(⟨a,b,(c.map bM).map kV,d,e,f,(g.map av).map nX,(h.map dW).map nV⟩:aD)=_;rw[map_id' (f:=bM) (g:=kV) (fun x=>rfl),map_id' (f:=dW) (g:=nV) (fun x=>rfl),map_id' (f:=av) (g:=nX) akY]
theorem vC{w:World}{A:Nat->Prop}{s:Sh}{L:List s.T}{V:Value}(h:Cs w A (.sl s) L [V]) :
  ∃a cap X,V=.slice a L.length cap/\bA (Cs w A s) L X/\Sl w w.heap.size s.size a L.length cap X:=by
 obtain⟨a,len,cap,e1,rfl,e3,e4⟩:=h;simp only[List.cons.injEq,and_true]at e1;subst e1;by_cases hL:L=[]
 .subst hL;exact⟨a,cap,[],rfl,rfl,⟨by simp,fun h=>absurd h (by simp)⟩,e3,Nat.zero_le _⟩
 .obtain⟨b,o,X,rfl,q2,q3,c,ty,fr,q4,q5⟩:=e4 hL;refine⟨_,cap,X,rfl,q3,⟨bA.length (fun x c=>Cs.length) q3,fun _=>⟨_,rfl,fG q4,fun j u hj=>?_⟩⟩,e3,Nat.zero_le _⟩;have:=q5 j u hj;rw[show(⟨b,o,none⟩:Addr).add j=⟨b,o+j,none⟩from by simp[Ev.ir]];simp only[World.cell?,q4,Option.isSome_none,Bool.false_eq_true,if_false];exact this
theorem Jn{α:Type}{R:α->List Value->Prop}{g:α->List Value}(h:∀x c,R x c->c=g x):∀{L:List α}{X:List Value},bA R L X->X=L.flatMap g
 |[],X,q=>q|x::L,X,⟨c,r,e,q,t⟩=>by rw[e,h x c q,Jn h t];rfl
theorem yj{w:World}{A:Nat->Prop}{d:TL []}{cs:List Value}(h:iq w A [] d cs):cs=[]:=h
theorem iU{w:World}{A:Nat->Prop}{s:Sh}{l:List Sh}{d:TL (s::l)}{cs:List Value}(h:iq w A (s::l) d cs):∃c r,cs=c++r/\Cs w A s d.1 c/\iq w A l d.2 r:=h
theorem vu{w:World}{A:Nat->Prop}{s:Sh}{L:List s.T}{c:List Value}(h:Cs w A (.sl s) L c):∃V,c=[V]/\Cs w A (.sl s) L [V]:=by obtain⟨a,len,cap,e1,q⟩:=h;exact⟨_,e1,a,len,cap,rfl,q⟩
theorem JC{α β γ:Type}{f:α->γ}{g:β->γ}{L:List α}{M:List β}(h:L.map f=M.map g):M.length=L.length:=by have:=congrArg List.length h;rw[aO,aO]at this;exact this.symm
theorem XS:∀L:List Int,L.flatMap (fun n=>[Value.int .i64 n])=ints L
 |[]=>rfl|x::L=>by have:=XS L;unfold ints at this |-;rw[List.flatMap_cons,this];rfl
theorem rW{w:World}{A:Nat->Prop}{L:List Int}{c:List Value}(h:Cs w A (.sl (.int .i64)) L c):∃a cap,c=[.slice a L.length cap]/\Sl w w.heap.size 1 a L.length cap (ints L):=by
 obtain⟨V,rfl,h⟩:=vu h;obtain⟨a,cap,X,rfl,h1,h2⟩:=vC h;have:X=ints L:=by have:=Jn (g:=fun n=>[Value.int .i64 n]) (fun x c q=>q) h1;rw[this];exact XS L
 subst this;exact⟨a,cap,rfl,h2⟩
theorem aiu{w:World}{A:Nat->Prop}{x:ae.T}{c:List Value}(h:Cs w A ae x c):c=(kV x).cells:=by obtain⟨c1,r1,rfl,h1,q1⟩:=iU h;obtain⟨c2,r2,rfl,h2,q2⟩:=iU q1;obtain⟨c3,r3,rfl,h3,q3⟩:=iU q2;rw[yj q3,show c1=_ from h1,show c2=_ from h2,show c3=_ from h3];rfl
theorem XZ{w:World}{A:Nat->Prop}{L:List ae.T}{c:List Value}(h:Cs w A (.sl ae) L c):∃a cap,c=[.slice a (L.map kV).length cap]/\Sl w w.heap.size 3 a (L.map kV).length cap ((L.map kV).flatMap dY.cells):=by obtain⟨V,rfl,h⟩:=vu h;obtain⟨a,cap,X,rfl,h1,h2⟩:=vC h;have:=Jn (g:=fun x=>(kV x).cells) (fun x c q=>aiu q) h1;refine⟨a,cap,by simp,?_⟩;rw[aO,List.flatMap_map,<-this];exact h2
theorem ag1{w:World}{A:Nat->Prop}{L:List ae.T}{c:List Value}(h:Cs w A (.sl ae) L c):∃a cap,c=[.slice a (L.map nV).length cap]/\Sl w w.heap.size 3 a (L.map nV).length cap ((L.map nV).flatMap fT.cells):=by obtain⟨a,cap,e,h⟩:=XZ h;rw[aO]at e h |-;exact⟨a,cap,e,by rw[List.flatMap_map]at h |-;exact h⟩
theorem Xj{w:World}{A:Nat->Prop}:∀{L:List cj.T}{X:List Value},bA (Cs w A cj) L X->∃Rs:List dA,Rs.map dA.d=L.map qV/\X=Rs.flatMap dA.cells/\∀r∈Rs,r.bV w w.heap.size
 |[],X,h=>⟨[],rfl,h,fun r hr=>by cases hr⟩
 |x::L,X,⟨c,r,e,q,t⟩=>by
  obtain⟨Rs,k1,k2,k3⟩:=Xj t;obtain⟨c1,r1,rfl,h1,q1⟩:=iU q;obtain⟨c2,r2,rfl,h2,q2⟩:=iU q1;obtain⟨a,cap,rfl,hs⟩:=rW h2;refine⟨⟨x.1,a,cap,x.2.1⟩::Rs,by simp only[List.map_cons,k1];rfl,?_,?_⟩
  .rw[e,yj q2,show c1=_ from h1,k2];rfl
  .intro r hr;rcases List.mem_cons.1 hr with rfl|hr
   .exact hs
   .exact k3 r hr
theorem Wq{w:World}{A:Nat->Prop}:∀{L:List bI.T}{X:List Value},bA (Cs w A bI) L X->∃Rs:List eW,Rs.map eW.d=L.map rX/\X=Rs.flatMap eW.cells/\∀r∈Rs,r.bV w w.heap.size
 |[],X,h=>⟨[],rfl,h,fun r hr=>by cases hr⟩
 |x::L,X,⟨c,r,e,q,t⟩=>by
  obtain⟨Rs,k1,k2,k3⟩:=Wq t;obtain⟨c1,r1,rfl,h1,q1⟩:=iU q;obtain⟨c2,r2,rfl,h2,q2⟩:=iU q1;obtain⟨c3,r3,rfl,h3,q3⟩:=iU q2;obtain⟨a,cap,rfl,hs⟩:=rW h2;obtain⟨a',cap',rfl,hs'⟩:=rW h3;refine⟨⟨x.1,a,cap,x.2.1,a',cap',x.2.2.1⟩::Rs,by simp only[List.map_cons,k1];rfl,?_,?_⟩
  .rw[e,yj q3,show c1=_ from h1,k2];rfl
  .intro r hr;rcases List.mem_cons.1 hr with rfl|hr
   .exact⟨hs,hs'⟩
   .exact k3 r hr
theorem XV{w:World}{A:Nat->Prop}:∀{L:List ab.T}{X:List Value},bA (Cs w A ab) L X->∃Ms:List bC,Ms.map bC.d=L.map nX/\X=Ms.flatMap bC.cells/\∀m∈Ms,m.bV w w.heap.size
 |[],X,h=>⟨[],rfl,h,fun r hr=>by cases hr⟩
 |x::L,X,⟨c,r,e,q,t⟩=>by
  obtain⟨Ms,k1,k2,k3⟩:=XV t;obtain⟨c1,r1,rfl,h1,q1⟩:=iU q;obtain⟨c2,r2,rfl,h2,q2⟩:=iU q1;obtain⟨c3,r3,rfl,h3,q3⟩:=iU q2;obtain⟨c4,r4,rfl,h4,q4⟩:=iU q3;obtain⟨c5,r5,rfl,h5,q5⟩:=iU q4;obtain⟨V4,rfl,h4⟩:=vu h4;obtain⟨V5,rfl,h5⟩:=vu h5;obtain⟨a,cap,X4,rfl,f4,s4⟩:=vC h4;obtain⟨a',cap',X5,rfl,f5,s5⟩:=vC h5;obtain⟨Rs,rk,rfl,rok⟩:=Xj f4;obtain⟨Ws,wk,rfl,wok⟩:=Wq f5;have l4:x.2.2.2.1.length=Rs.length:=JC rk;have l5:x.2.2.2.2.1.length=Ws.length:=JC wk;have l4':List.length x.2.2.2.1=Rs.length:=l4;refine⟨⟨x.1,x.2.1,x.2.2.1,a,cap,Rs,a',cap',Ws⟩::Ms,?_,?_,?_⟩
  .simp only[List.map_cons,k1,bC.d,rk,wk];rfl
  .rw[e,yj q5,show c1=_ from h1,show c2=_ from h2,show c3=_ from h3,k2];show[_,_,_,Value.slice a (List.length x.2.2.2.1) cap,Value.slice a' (List.length x.2.2.2.2.1) cap']++_=_;rw[l4,l5];rfl
  .intro m hm;rcases List.mem_cons.1 hm with rfl|hm
   .exact⟨by rw[<-l4];exact s4,rok,by rw[<-l5];exact s5,wok⟩
   .exact k3 m hm
theorem aiB{w:World}{A:Nat->Prop}{d:ba.T}{V:Value}(h:ju w A ba d V):∃N:bN,N.v=V/\N.d=fx d/\N.bV w w.heap.size:=by
 obtain⟨h,hagg⟩:=h;obtain⟨c1,r1,e1,h1,q1⟩:=iU h;obtain⟨c2,r2,rfl,h2,q2⟩:=iU q1;obtain⟨c3,r3,rfl,h3,q3⟩:=iU q2;obtain⟨c4,r4,rfl,h4,q4⟩:=iU q3;obtain⟨c5,r5,rfl,h5,q5⟩:=iU q4;obtain⟨c6,r6,rfl,h6,q6⟩:=iU q5;obtain⟨c7,r7,rfl,h7,q7⟩:=iU q6;obtain⟨c8,r8,rfl,h8,q8⟩:=iU q7;obtain⟨a2,p2,rfl,s2⟩:=rW h2;obtain⟨a3,p3,rfl,s3⟩:=XZ h3;obtain⟨a4,p4,rfl,s4⟩:=rW h4;obtain⟨a5,p5,rfl,s5⟩:=rW h5;obtain⟨a6,p6,rfl,s6⟩:=rW h6;obtain⟨V7,rfl,h7⟩:=vu h7;obtain⟨a7,p7,X7,rfl,f7,s7⟩:=vC h7;obtain⟨Ms,k1,rfl,k3⟩:=XV f7;obtain⟨a8,p8,rfl,s8⟩:=ag1 h8;have l7:List.length d.2.2.2.2.2.2.1=Ms.length:=JC k1;refine⟨⟨d.1,a2,p2,d.2.1,a3,p3,d.2.2.1.map kV,a4,p4,d.2.2.2.1,a5,p5,d.2.2.2.2.1,a6,p6,d.2.2.2.2.2.1,a7,p7,Ms,a8,p8,d.2.2.2.2.2.2.2.1.map nV⟩,?_,?_,?_⟩
 .cases V with|agg cs=>have e1':cs.toList=c1++_:=e1;rw[yj q8,show c1=_ from h1,l7]at e1';show Value.agg _=Value.agg cs;congr 1;apply Array.toList_inj.1;rw[e1'];rfl|_=>cases hagg
 .simp only[bN.d,k1];rfl
 .exact⟨s2,s3,s4,s5,s6,by rw[<-l7];exact s7,k3,s8⟩
instance i64Dec(x:Int):Decidable (dk x):=inferInstanceAs (Decidable (_/\_))
instance memFitDec(m:bP):Decidable (AH m):=decidable_of_iff
 ((dk m.word/\m.word<=4000)/\dk m.addr/\m.reads.length<=100/\m.writes.length<=100/\(∀r∈m.reads,r.addr.length<=4000/\-1099511627776<=r.var/\r.var<=1099511627776/\∀x∈r.addr,dk x) /\
  ∀r∈m.writes,r.addr.length<=4000/\r.data.length<=4000/\dk r.on/\(∀x∈r.addr,dk x)/\∀x∈r.data,dk x)
 ⟨fun⟨a,b,c,d,e,f⟩=>⟨a,b,c,d,e,f⟩,fun⟨a,b,c,d,e,f⟩=>⟨a,b,c,d,e,f⟩⟩
instance fitDec(n:aD):Decidable (Fit n):=decidable_of_iff
 (dk n.vars/\(n.aM.length<=4000/\∀x∈n.aM,dk x)/\(n.ax.length<=4000/\∀l∈n.ax,dk l.var/\dk l.next/\dk l.init)/\(n.cf.length<=4000/\∀x∈n.cf,dk x) /\
  (n.bo.length<=4000/\∀x∈n.bo,dk x)/\(n.constraints.length<=4000/\∀x∈n.constraints,dk x)/\(n.aa.length<=100/\∀m∈n.aa,AH m)/\(n.aP.length<=4000/\∀a∈n.aP,dk a.var/\dk a.a/\dk a.b))
 ⟨fun⟨a,b,c,d,e,f,g,h⟩=>⟨a,b,c,d,e,f,g,h⟩,fun⟨a,b,c,d,e,f,g,h⟩=>⟨a,b,c,d,e,f,g,h⟩⟩
def OW(n:aD):Bool:=decide (Fit n)
theorem ahe{n:aD}(h:OW n=true):Fit n:=of_decide_eq_true h
theorem Az{n:aD}(h:Fit n):OW n=true:=bg h
def mw:TL [ba]->Option (TL [.int .i64]):=fun d=>match OW (fx d.1)with|true=>some (dM (fx d.1),())|false=>none
theorem Zwd{f:FuncId}{fn:Func}{c:Code}(h1:Tryz.prog.funcs[f]?=some fn)(h2:(fn.name == "runtime.NumGoroutine")=false)(h3:fn.body=some c)
  (h:∀(N:bN) (w:World),N.bV w w.heap.size->Fit N.d->Calls Tryz.prog f #[N.v] w fun e w'=>e=.returned (.int .i64 (dM N.d))/\Below w.heap.size w w'):Comes Tryz.prog f [ba] [.int .i64] mw:=by
 refine⟨⟨fn,c,h1,h2,h3⟩,?_⟩;intro d x hx w A args hA ha;unfold mw at hx;split at hx<;>cases hx;rename_i hf;obtain⟨V,r,rfl,hd,hr⟩:=ha;have:r=[]:=hr;subst this;obtain⟨N,rfl,hN,hok⟩:=aiB hd;have hf:=ahe hf;rw[<-hN]at hf;refine(h N w hok hf).mono ?_;rintro e w' ⟨rfl,hb⟩;exact⟨[.int .i64 (dM N.d)],rfl,hb,_,[],rfl,⟨by rw[hN];rfl,rfl⟩,rfl⟩
theorem Zwv:Comes Tryz.prog 193 [ba] [.int .i64] mw:=Zwd (fn:=Tryz.f193) (c:=aU Tryz.f193) Tryz.func193 (by kernel_rfl) (by kernel_rfl) ajL
theorem Zct:Comes Tryz.prog 85 [ba] [.int .i64] mw:=Zwd (fn:=Tryz.f85) (c:=aU Tryz.f85) Tryz.func85 (by kernel_rfl) (by kernel_rfl) ajN
def uc:=mw
abbrev ao0:=TL [ba]->Option (TL [.int .i64])
abbrev ab8:=Kd 193 [ba] [.int .i64]
def ao1:ab8:=⟨mw,Zwv⟩
abbrev aa8:=TL [ba]->Option (TL [.int .i64])
abbrev MT:=Kd 85 [ba] [.int .i64]
def aa9:MT:=⟨uc,Zct⟩
set_option maxRecDepth 1000000
abbrev Zsr:List Sh:=[(.int .i64)]
abbrev QT:List Sh:=[(.int .i64)]
abbrev DB:=TL Zsr->Option (TL QT)
abbrev wM:=Kd 101 Zsr QT
def Q4(a0:Int):Option (TL QT):=some ((Int.fdiv a0 (HPow.hPow (2:Int) (Min.min (Int.toNat (1:Int)) 64))),())
def ape  :wM:=⟨u1 Q4,pD Tryz.func101 5 k0 e0 1 (sS l0) fun d=>by kernel_rfl⟩
def DC:wM:=ape
def xH:DB:=DC.F
abbrev Qu:Lay:={ T:=[(1,.int .i64),(2,.ptr 0 0),(4,.hd 1 (.int .i64)),(16,.int .i64),(17,.int .i64)],h:=[(0,.cells [.int .i64,.int .i64,.bool,.fz cj,.fz bI] 116),(1,.arr (.int .i64) 3)],nx:=2 }
abbrev Qq:List (Ev.Ex×Lay):=[((.exit 0),{ T:=[(4,.hd 0 (.int .i64))],h:=[(0,.arr (.int .i64) 3)],nx:=1 })]
abbrev ab9:=TL Qu.σs->Option (Out Qq)
abbrev aca:=Ld 0 33 (bp [0] (aU Tryz.f139)) Qu Qq
def FI(t1 t16 t17 aC aB:Int)(aG:Bool)(aH:List (Sh.T cj))(aI:List (Sh.T bI))(b1:List Int):Option (TL Qu.σs⊕Out Qq):=
 br (iL t17 t16)
 (
  ah (aq t1 (List.length aH))<|
  ah (room 8 (List.length (ap b1 ((IntKind.wrap .i64 (@HAdd.hAdd (Int) (Int) (Int) _ (gt cj aH t1).1 t17))::[]))))<|
  some (.inl (t1,(t16,((IntKind.wrap .i64 (t17+(1:Int))),(aC,(aB,(aG,(aH,(aI,((ap b1 ((IntKind.wrap .i64 (@HAdd.hAdd (Int) (Int) (Int) _ (gt cj aH t1).1 t17))::[])),())))))))))))
 (
  some (.inr (b1,())))
def ao2  :aca:=bu (u9 FI) (pL k0 e0 1 l0 fun d=>by kernel_rfl)
def QA:ab9:=aQ (u9 FI) NN
abbrev Zsq:List Sh:=[ab,(.int .i64)]
abbrev QS:List Sh:=[(.sl (.int .i64))]
abbrev acj:=TL Zsq->Option (TL QS)
abbrev Oh:=Kd 139 Zsq QS
def Q3(L4:ab9)(a0:Sh.T ab)(a1:Int):Option (TL QS):=
 br (iL a1 (0:Int))
 (
  some ([],()))
 (
  br (aV false true (iE (Int.ofNat (List.length a0.2.2.2.1)) a1))
  (
   some ([],()))
  (
   aj (L4 (a1,(a0.2.1,((0:Int),(a0.1,(a0.2.1,(a0.2.2.1,(a0.2.2.2.1,(a0.2.2.2.2.1,([],())))))))))) fun x0=>
   some (x0.1,())))
def apd(M4:aca):Oh:=⟨u2 (Q3 M4.L),pD Tryz.func139 33 k0 e0 1 (sS (sC M4 l0)) fun d=>by kernel_rfl⟩
def ack:Oh:=apd  ao2
def QE:acj:=ack.F
abbrev jV:List (Nat×LO):=[(0,.cells [.int .i64,.fz (.int .i64),.fz ae,.fz (.int .i64),.fz (.int .i64),.fz (.int .i64),.fz ab,.fz ae,.hd 1 (.int .i64),.hd 2 au,.hd 3 (.int .u8),.hd 4 (.int .i64)] 224),(1,.arr (.int .i64) 3),(2,.arr au 148),(3,.arr (.int .u8) 5),(4,.arr (.int .i64) 3)]
abbrev D6:List (Nat×LO):=[(0,.cells ej 27),(1,.cells [.int .i64,.fz (.int .i64),.fz ae,.fz (.int .i64),.fz (.int .i64),.fz (.int .i64),.fz ab,.fz ae,.hd 2 (.int .i64),.hd 3 au,.hd 4 (.int .u8),.hd 5 (.int .i64)] 224),(2,.arr (.int .i64) 3),(3,.arr au 148),(4,.arr (.int .u8) 5),(5,.arr (.int .i64) 3)]
abbrev D7:List (Nat×LO):=[(0,.cells [.fz (.int .i64)] 22),(1,.cells [.ptr 2 0] 198),(2,.cells [.int .i64,.fz (.int .i64),.fz ae,.fz (.int .i64),.fz (.int .i64),.fz (.int .i64),.fz ab,.fz ae,.hd 3 (.int .i64),.hd 4 au,.hd 5 (.int .u8),.hd 6 (.int .i64)] 224),(3,.arr (.int .i64) 3),(4,.arr au 148),(5,.arr (.int .u8) 5),(6,.arr (.int .i64) 3)]
abbrev O9:List (Nat×LO):=[(0,.cells [.int .i64,.fz (.int .i64),.fz ae,.fz (.int .i64),.fz (.int .i64),.fz (.int .i64),.fz ab,.fz ae,.hd 1 (.int .i64),.hd 2 au,.hd 3 (.int .u8),.hd 4 (.int .i64)] 224),(1,.arr (.int .i64) 3),(2,.arr au 148),(3,.arr (.int .u8) 5),(4,.arr (.int .i64) 3),(5,.cells [.ptr 0 0] 198),(6,.cells [.fz (.int .i64)] 22)]
abbrev ade:Lay:={ T:=[(3,.ptr 0 0),(77,.hd 2 au),(78,.int .i64),(79,.int .i64)],h:=jV,nx:=5 }
abbrev adf:Lay:={ T:=[(1,.ptr 0 0),(3,.ptr 1 0),(46,.int .i64),(47,.int .i64)],h:=D6,nx:=6 }
abbrev adg:Lay:={ T:=[(0,.ptr 0 0),(1,.agg [.bool,.int .i64,.int .i64])],h:=jV,nx:=5 }
abbrev Zb1:Lay:=adg
abbrev Po:List (Ev.Ex×Lay):=[(.ret,{ T:=[(0,.fz (.int .i64))],h:=jV,nx:=5 })]
abbrev abj:=TL Zb1.σs->Option (Out Po)
abbrev Nn:=Kb 240 2 Zb1 1 Po
def Ql(iM:Bool)(gD lH aC:Int)(aB:List Int)(aG:List (Sh.T ae))(aH aI aJ:List Int)(aw:List (Sh.T ab))(aE:List (Sh.T ae))(b1:List Int)(b2:List (Sh.T au))(b3 b4:List Int):Option (Out Po):=
 br iM
 (
  ah (aq gD (List.length aw))<|
  ah (aq lH (List.length (gt ab aw gD).2.2.2.1))<|
  some ((gt cj (gt ab aw gD).2.2.2.1 lH).2.1,(aC,(aB,(aG,(aH,(aI,(aJ,(aw,(aE,(b1,(b2,(b3,(b4,()))))))))))))))
 (
  ah (aq lH (List.length aE))<|
  some (((gt ae aE lH).2.1::((gt ae aE lH).2.2.1::[])),(aC,(aB,(aG,(aH,(aI,(aJ,(aw,(aE,(b1,(b2,(b3,(b4,()))))))))))))))
def an3  :Nn:=⟨fg Ql,pB Tryz.func240 37 k0 e0 1 (sS l0) fun d=>by kernel_rfl⟩
def abk:Nn:=an3
def Zck:abj:=abk.F
abbrev Za9:Lay:=adg
abbrev Pk:List (Ev.Ex×Lay):=[(.ret,{ T:=[(0,.fz (.int .i64))],h:=jV,nx:=5 })]
abbrev wu:=TL Za9.σs->Option (Out Pk)
abbrev tm:=Kb 148 2 Za9 1 Pk
def xK(F0:acj)(iM:Bool)(gD lH aC:Int)(aB:List Int)(aG:List (Sh.T ae))(aH aI aJ:List Int)(aw:List (Sh.T ab))(aE:List (Sh.T ae))(b1:List Int)(b2:List (Sh.T au))(b3 b4:List Int):Option (Out Pk):=
 br iM
 (
  ah (aq gD (List.length aw))<|
  aj (F0 (((gt ab aw gD).1,((gt ab aw gD).2.1,((gt ab aw gD).2.2.1,((gt ab aw gD).2.2.2.1,((gt ab aw gD).2.2.2.2.1,()))))),(lH,()))) fun x0=>
  some (x0.1,(aC,(aB,(aG,(aH,(aI,(aJ,(aw,(aE,(b1,(b2,(b3,(b4,()))))))))))))))
 (
  ah (aq lH (List.length aE))<|
  some (((gt ae aE lH).1::[]),(aC,(aB,(aG,(aH,(aI,(aJ,(aw,(aE,(b1,(b2,(b3,(b4,()))))))))))))))
def aoi(c0:Oh) :tm:=⟨fg (xK c0.F),pB Tryz.func148 30 (kD c0 k0) e0 1 (sS l0) fun d=>by kernel_rfl⟩
def wx:tm:=aoi ack
def xv:wu:=wx.F
abbrev Zaq:Lay:={ T:=[(0,.int .u8),(1,.ptr 0 0),(2,.ptr 1 0)],h:=D7,nx:=7 }
abbrev Pm:List (Ev.Ex×Lay):=[(.ret,{ T:=[],h:=D7,nx:=7 })]
abbrev aaf:=TL Zaq.σs->Option (Out Pm)
abbrev LY:=Kb 256 3 Zaq 0 Pm
abbrev Pt:Lay:={ T:=[(0,.int .u8),(2,.ptr 1 0),(6,.fz (.int .i64)),(7,.int .i64),(8,.int .i64)],h:=D7,nx:=7 }
abbrev Pr:List (Ev.Ex×Lay):=[((.exit 0),{ T:=[],h:=D7,nx:=7 })]
abbrev ZW:=TL Pt.σs->Option (Out Pr)
abbrev ZX:=Ld 7 20 (bp [0] (aU Tryz.f256)) Pt Pr
def EW(t0:Int)(t6:List Int)(t7 t8:Int)(aC:List Int)(cd:Int)(cp:List Int)(cH:List (Sh.T ae))(cI cJ cK:List Int)(cL:List (Sh.T ab))(cM:List (Sh.T ae))(b3:List Int)(b4:List (Sh.T au))(b5 b6:List Int):Option (TL Pt.σs⊕Out Pr):=
 br (iL t8 t7)
 (
  ah (aq t8 (List.length t6))<|
  ah (aq (gt (.int .i64) t6 t8) (List.length b5))<|
  some (.inl (t0,(t6,(t7,((IntKind.wrap .i64 (t8+(1:Int))),(aC,(cd,(cp,(cH,(cI,(cJ,(cK,(cL,(cM,(b3,(b4,((List.set b5 (Int.toNat (gt (.int .i64) t6 t8)) t0),(b6,())))))))))))))))))))
 (
  some (.inr (aC,(cd,(cp,(cH,(cI,(cJ,(cK,(cL,(cM,(b3,(b4,(b5,(b6,())))))))))))))))
def amM  :ZX:=bu (nH EW) (pL k0 e0 1 l0 fun d=>by kernel_rfl)
def PJ:ZW:=aQ (nH EW) NN
def PZ(L1:ZW)(t0:Int)(aC:List Int)(cd:Int)(cp:List Int)(cH:List (Sh.T ae))(cI cJ cK:List Int)(cL:List (Sh.T ab))(cM:List (Sh.T ae))(b3:List Int)(b4:List (Sh.T au))(b5 b6:List Int):Option (Out Pm):=
 aj (L1 (t0,(aC,((Int.ofNat (List.length aC)),((0:Int),(aC,(cd,(cp,(cH,(cI,(cJ,(cK,(cL,(cM,(b3,(b4,(b5,(b6,())))))))))))))))))) fun x0=>
 some x0
def am1(M1:ZX):LY:=⟨iu (PZ M1.L),pB Tryz.func256 20 k0 e0 1 (sS (sC M1 l0)) fun d=>by kernel_rfl⟩
def aag:LY:=am1  amM
def Zbg:aaf:=aag.F
abbrev Pj:Lay:={ T:=[(0,.ptr 0 0),(1,.int .i64)],h:=jV,nx:=5 }
abbrev Ef:List (Ev.Ex×Lay):=[(.ret,{ T:=[(0,.bool)],h:=jV,nx:=5 })]
abbrev pV:=TL Pj.σs->Option (Out Ef)
abbrev oN:=Kb 226 2 Pj 1 Ef
abbrev Pv:Lay:={ T:=[(2,.ptr 5 0),(7,.func 256 [] [.ptr 6 0,.ptr 5 0]),(8,.int .i64),(86,.fz (.int .i64)),(87,.int .i64),(88,.int .i64)],h:=O9,nx:=7 }
abbrev Ps:List (Ev.Ex×Lay):=[((.exit 3),{ T:=[(7,.func 256 [] [.ptr 5 0,.ptr 6 0])],h:=[(0,.cells [.int .i64,.fz (.int .i64),.fz ae,.fz (.int .i64),.fz (.int .i64),.fz (.int .i64),.fz ab,.fz ae,.hd 1 (.int .i64),.hd 2 au,.hd 3 (.int .u8),.hd 4 (.int .i64)] 224),(1,.arr (.int .i64) 3),(2,.arr au 148),(3,.arr (.int .u8) 5),(4,.arr (.int .i64) 3),(5,.cells [.fz (.int .i64)] 22),(6,.cells [.ptr 0 0] 198)],nx:=7 })]
abbrev aad:=TL Pv.σs->Option (Out Ps)
abbrev LV:=Ld 5 103 (bp [1] (aU Tryz.f226)) Pv Ps
abbrev EG:Lay:={ T:=[(2,.ptr 5 0),(6,.ptr 6 0),(7,.func 256 [] [.ptr 6 0,.ptr 5 0]),(8,.int .i64),(64,.fz (.int .i64)),(65,.int .i64),(66,.int .i64)],h:=O9,nx:=7 }
abbrev Ez:List (Ev.Ex×Lay):=[(.ret,{ T:=[(4,.bool)],h:=jV,nx:=5 }),((.exit 1),{ T:=[(2,.ptr 5 0),(6,.ptr 6 0),(7,.func 256 [] [.ptr 6 0,.ptr 5 0]),(8,.int .i64)],h:=O9,nx:=7 })]
abbrev aae:=TL EG.σs->Option (Out Ez)
abbrev LW:=Ld 5 103 (bp [0] (aU Tryz.f226)) EG Ez
def Qr(F0:DB)(F1:pV)(t8:Int)(t64:List Int)(t65 t66 aC:Int)(aB:List Int)(aG:List (Sh.T ae))(aH aI aJ:List Int)(aw:List (Sh.T ab))(aE:List (Sh.T ae))(b1:List Int)(b2:List (Sh.T au))(b3 b4 wX:List Int):Option (TL EG.σs⊕Out Ez):=
 br (iL t66 t65)
 (
  ah (aq t66 (List.length t64))<|
  aj (F0 ((gt (.int .i64) t64 t66),())) fun x0=>
  aj (F1 (x0.1,(aC,(aB,(aG,(aH,(aI,(aJ,(aw,(aE,(b1,(b2,(b3,(b4,())))))))))))))) fun x1=>
  br (Bool.not x1.1)
  (
   some (.inr (.inl (false,x1.2))))
  (
   ah (aq x0.1 (List.length x1.2.2.2.2.2.2.2.2.2.2.2.2.1))<|
   some (.inl ((dj (iL t8 (gt (.int .i64) x1.2.2.2.2.2.2.2.2.2.2.2.2.1 x0.1)) (gt (.int .i64) x1.2.2.2.2.2.2.2.2.2.2.2.2.1 x0.1) t8),(t64,(t65,((IntKind.wrap .i64 (t66+(1:Int))),(x1.2.1,(x1.2.2.1,(x1.2.2.2.1,(x1.2.2.2.2.1,(x1.2.2.2.2.2.1,(x1.2.2.2.2.2.2.1,(x1.2.2.2.2.2.2.2.1,(x1.2.2.2.2.2.2.2.2.1,(x1.2.2.2.2.2.2.2.2.2.1,(x1.2.2.2.2.2.2.2.2.2.2.1,(x1.2.2.2.2.2.2.2.2.2.2.2.1,(x1.2.2.2.2.2.2.2.2.2.2.2.2.1,(wX,()))))))))))))))))))))
 (
  some (.inr (.inr (t8,(aC,(aB,(aG,(aH,(aI,(aJ,(aw,(aE,(b1,(b2,(b3,(b4,(wX,())))))))))))))))))
def am0(c0:wM)(c1:oN) :LW:=bu (nH (Qr c0.F c1.F)) (pL (kD c0 (kB c1 k0)) e0 1 l0 fun d=>by kernel_rfl)
def amY(s:oN):LW:=am0 DC s
def PM(F:pV):aae:=aQ (fun d=>Qr xH F  d.1 d.2.1 d.2.2.1 d.2.2.2.1 d.2.2.2.2.1 d.2.2.2.2.2.1 d.2.2.2.2.2.2.1 d.2.2.2.2.2.2.2.1 d.2.2.2.2.2.2.2.2.1 d.2.2.2.2.2.2.2.2.2.1 d.2.2.2.2.2.2.2.2.2.2.1 d.2.2.2.2.2.2.2.2.2.2.2.1 d.2.2.2.2.2.2.2.2.2.2.2.2.1 d.2.2.2.2.2.2.2.2.2.2.2.2.2.1 d.2.2.2.2.2.2.2.2.2.2.2.2.2.2.1 d.2.2.2.2.2.2.2.2.2.2.2.2.2.2.2.1 d.2.2.2.2.2.2.2.2.2.2.2.2.2.2.2.2.1) NN
def E8(t8:Int)(t86:List Int)(t87 t88 aC:Int)(aB:List Int)(aG:List (Sh.T ae))(aH aI aJ:List Int)(aw:List (Sh.T ab))(aE:List (Sh.T ae))(b1:List Int)(b2:List (Sh.T au))(b3 b4 wX:List Int):Option (TL Pv.σs⊕Out Ps):=
 br (iL t88 t87)
 (
  ah (aq t88 (List.length t86))<|
  ah (aq (gt (.int .i64) t86 t88) (List.length b4))<|
  some (.inl (t8,(t86,(t87,((IntKind.wrap .i64 (t88+(1:Int))),(aC,(aB,(aG,(aH,(aI,(aJ,(aw,(aE,(b1,(b2,(b3,((List.set b4 (Int.toNat (gt (.int .i64) t86 t88)) (IntKind.wrap .i64 (t8+(1:Int)))),(wX,())))))))))))))))))))
 (
  some (.inr (aC,(aB,(aG,(aH,(aI,(aJ,(aw,(aE,(b1,(b2,(b3,(b4,(wX,())))))))))))))))
def amZ  :LV:=bu (nH E8) (pL k0 e0 1 l0 fun d=>by kernel_rfl)
def amX(s:oN):LV:=amZ
def PL(F:pV):aad:=aQ (fun d=>E8   d.1 d.2.1 d.2.2.1 d.2.2.2.1 d.2.2.2.2.1 d.2.2.2.2.2.1 d.2.2.2.2.2.2.1 d.2.2.2.2.2.2.2.1 d.2.2.2.2.2.2.2.2.1 d.2.2.2.2.2.2.2.2.2.1 d.2.2.2.2.2.2.2.2.2.2.1 d.2.2.2.2.2.2.2.2.2.2.2.1 d.2.2.2.2.2.2.2.2.2.2.2.2.1 d.2.2.2.2.2.2.2.2.2.2.2.2.2.1 d.2.2.2.2.2.2.2.2.2.2.2.2.2.2.1 d.2.2.2.2.2.2.2.2.2.2.2.2.2.2.2.1 d.2.2.2.2.2.2.2.2.2.2.2.2.2.2.2.2.1) NN
def Qi(F0:DB)(F1:pV)(F2:abj)(F3:aaf)(F4:wu)(L11:aae)(L19:aad)(t1 aC:Int)(aB:List Int)(aG:List (Sh.T ae))(aH aI aJ:List Int)(aw:List (Sh.T ab))(aE:List (Sh.T ae))(b1:List Int)(b2:List (Sh.T au))(b3 b4:List Int):Option (Out Ef):=
 ah (aq t1 (List.length b1))<|
 br (iQ (gt (.int .i64) b1 t1) (0:Int))
 (
  some (true,(aC,(aB,(aG,(aH,(aI,(aJ,(aw,(aE,(b1,(b2,(b3,(b4,()))))))))))))))
 (
  ah (aq t1 (List.length b3))<|
  br (aV false true (iQ (gt (.int .u8) b3 t1) (2:Int)))
  (
   some (true,(aC,(aB,(aG,(aH,(aI,(aJ,(aw,(aE,(b1,(b2,(b3,(b4,()))))))))))))))
  (
   ah (aq t1 (List.length b3))<|
   br (iQ (gt (.int .u8) b3 t1) (1:Int))
   (
    some (false,(aC,(aB,(aG,(aH,(aI,(aJ,(aw,(aE,(b1,(b2,(b3,(b4,()))))))))))))))
   (
    ah (aq t1 (List.length b1))<|
    ah (aq (IntKind.wrap .i64 (@HSub.hSub (Int) (Int) (Int) _ (gt (.int .i64) b1 t1) (1:Int))) (List.length b2))<|
    aj (F4 ((gt au b2 (IntKind.wrap .i64 (@HSub.hSub (Int) (Int) (Int) _ (gt (.int .i64) b1 t1) (1:Int)))).1,((gt au b2 (IntKind.wrap .i64 (@HSub.hSub (Int) (Int) (Int) _ (gt (.int .i64) b1 t1) (1:Int)))).2.1,((gt au b2 (IntKind.wrap .i64 (@HSub.hSub (Int) (Int) (Int) _ (gt (.int .i64) b1 t1) (1:Int)))).2.2.1,(aC,(aB,(aG,(aH,(aI,(aJ,(aw,(aE,(b1,(b2,(b3,(b4,())))))))))))))))) fun x0=>
    aj (F3 ((1:Int),x0)) fun x1=>
    aj (F2 ((gt au b2 (IntKind.wrap .i64 (@HSub.hSub (Int) (Int) (Int) _ (gt (.int .i64) b1 t1) (1:Int)))).1,((gt au b2 (IntKind.wrap .i64 (@HSub.hSub (Int) (Int) (Int) _ (gt (.int .i64) b1 t1) (1:Int)))).2.1,((gt au b2 (IntKind.wrap .i64 (@HSub.hSub (Int) (Int) (Int) _ (gt (.int .i64) b1 t1) (1:Int)))).2.2.1,x1.2)))) fun x2=>
    aj (L11 ((0:Int),(x2.1,((Int.ofNat (List.length x2.1)),((0:Int),(x2.2.1,(x2.2.2.1,(x2.2.2.2.1,(x2.2.2.2.2.1,(x2.2.2.2.2.2.1,(x2.2.2.2.2.2.2.1,(x2.2.2.2.2.2.2.2.1,(x2.2.2.2.2.2.2.2.2.1,(x2.2.2.2.2.2.2.2.2.2.1,(x2.2.2.2.2.2.2.2.2.2.2.1,(x2.2.2.2.2.2.2.2.2.2.2.2.1,(x2.2.2.2.2.2.2.2.2.2.2.2.2.1,(x1.1,())))))))))))))))))) fun x3=>
    (match x3 with
    |.inl x4=>some x4|.inr x4=>
     aj (L19 (x4.1,(x4.2.2.2.2.2.2.2.2.2.2.2.2.2.1,((Int.ofNat (List.length x4.2.2.2.2.2.2.2.2.2.2.2.2.2.1)),((0:Int),x4.2))))) fun x5=>
     aj (F3 ((2:Int),(x5.2.2.2.2.2.2.2.2.2.2.2.2.1,(x5.1,(x5.2.1,(x5.2.2.1,(x5.2.2.2.1,(x5.2.2.2.2.1,(x5.2.2.2.2.2.1,(x5.2.2.2.2.2.2.1,(x5.2.2.2.2.2.2.2.1,(x5.2.2.2.2.2.2.2.2.1,(x5.2.2.2.2.2.2.2.2.2.1,(x5.2.2.2.2.2.2.2.2.2.2.1,(x5.2.2.2.2.2.2.2.2.2.2.2.1,()))))))))))))))) fun x6=>
     some (true,x6.2)
    ))))
def anL(c0:wM)(c1:oN)(c2:Nn)(c3:LY)(c4:tm)(M11:LW)(M19:LV):oN:=⟨gZ (Qi c0.F c1.F c2.F c3.F c4.F M11.L M19.L),pB Tryz.func226 103 (kD c0 (kB c1 (kB c2 (kB c3 (kB c4 k0))))) e0 1 (sS (sC M11 (sC M19 l0))) fun d=>by kernel_rfl⟩
def wo:Nat->oN
 |0=>mk0 Tryz.func226 (by kernel_rfl) (by kernel_rfl)|k+1=>anL DC (wo k) abk aag wx (amY (wo k)) (amX (wo k))
def ud(k:Nat):pV:=(wo k).F
def MU:oN:=wo NN
def PF:pV:=MU.F
abbrev Zdy:Lay:={ T:=[(0,.ptr 0 0)],h:=jV,nx:=5 }
abbrev PG:List (Ev.Ex×Lay):=[(.ret,{ T:=[(0,.bool)],h:=jV,nx:=5 })]
abbrev abo:=TL Zdy.σs->Option (Out PG)
abbrev Nw:=Kb 195 1 Zdy 1 PG
abbrev PH:Lay:={ T:=[(3,.func 226 [.ptr 0 0] []),(11,.int .i64),(12,.int .i64)],h:=jV,nx:=5 }
abbrev ER:List (Ev.Ex×Lay):=[(.ret,{ T:=[(2,.bool)],h:=jV,nx:=5 }),((.exit 0),{ T:=[],h:=jV,nx:=5 })]
abbrev abl:=TL PH.σs->Option (Out ER)
abbrev Np:=Ld 5 20 (bp [0] (aU Tryz.f195)) PH ER
def Qw(F0:pV)(t11 t12 aC:Int)(aB:List Int)(aG:List (Sh.T ae))(aH aI aJ:List Int)(aw:List (Sh.T ab))(aE:List (Sh.T ae))(b1:List Int)(b2:List (Sh.T au))(b3 b4:List Int):Option (TL PH.σs⊕Out ER):=
 br (iL t12 t11)
 (
  aj (F0 (t12,(aC,(aB,(aG,(aH,(aI,(aJ,(aw,(aE,(b1,(b2,(b3,(b4,())))))))))))))) fun x0=>
  br (Bool.not x0.1)
  (
   some (.inr (.inl (false,x0.2))))
  (
   some (.inl (t11,((IntKind.wrap .i64 (t12+(1:Int))),x0.2)))))
 (
  some (.inr (.inr (aC,(aB,(aG,(aH,(aI,(aJ,(aw,(aE,(b1,(b2,(b3,(b4,())))))))))))))))
def an5(c0:oN) :Np:=bu (iu (Qw c0.F)) (pL (kB c0 k0) e0 1 l0 fun d=>by kernel_rfl)
def an4:Np:=an5 MU
def Zhi:abl:=aQ (iu (Qw PF)) NN
def Zm5(F0:pV)(L3:abl)(aC:Int)(aB:List Int)(aG:List (Sh.T ae))(aH aI aJ:List Int)(aw:List (Sh.T ab))(aE:List (Sh.T ae))(b1:List Int)(b2:List (Sh.T au))(b3 b4:List Int):Option (Out PG):=
 aj (L3 ((Int.ofNat (List.length b1)),((0:Int),(aC,(aB,(aG,(aH,(aI,(aJ,(aw,(aE,(b1,(b2,(b3,(b4,()))))))))))))))) fun x0=>
 (match x0 with|.inl x1=>some x1|.inr x1=>some (true,x1)
 )
def aoa(c0:oN)(M3:Np):Nw:=⟨iZ (Zm5 c0.F M3.L),pB Tryz.func195 20 (kB c0 k0) e0 1 (sS (sC M3 l0)) fun d=>by kernel_rfl⟩
def abp:Nw:=aoa MU an4
def Zhj:abo:=abp.F
abbrev Zjf:Lay:={ T:=[(0,.agg ej)],h:=[],nx:=0 }
abbrev Qm:List (Ev.Ex×Lay):=[(.ret,{ T:=[(0,.ptr 0 0)],h:=jV,nx:=5 })]
abbrev ab4:=TL Zjf.σs->Option (Out Qm)
abbrev N9:=Kb 194 1 Zjf 1 Qm
abbrev Qe:Lay:=ade
abbrev P0:List (Ev.Ex×Lay):=[((.exit 6),{ T:=[(3,.ptr 0 0)],h:=jV,nx:=5 })]
abbrev abJ:=TL Qe.σs->Option (Out P0)
abbrev NP:=Ld 0 103 (bp [2] (aU Tryz.f194)) Qe P0
abbrev PU:Lay:={ T:=[(3,.ptr 0 0),(7,.int .i64),(77,.hd 2 au),(78,.int .i64),(79,.int .i64),(86,.fz (.int .i64)),(87,.int .i64),(88,.int .i64)],h:=jV,nx:=5 }
abbrev PO:List (Ev.Ex×Lay):=[((.exit 8),ade)]
abbrev NL:=TL PU.σs->Option (Out PO)
abbrev NO:=Ld 0 103 (bp [2,0] (aU Tryz.f194)) PU PO
abbrev Qn:Lay:=adf
abbrev Qc:List (Ev.Ex×Lay):=[((.exit 2),{ T:=[(3,.ptr 0 0)],h:=jV,nx:=5 })]
abbrev abU:=TL Qn.σs->Option (Out Qc)
abbrev N3:=Ld 0 103 (bp [1] (aU Tryz.f194)) Qn Qc
abbrev PV:Lay:={ T:=[(1,.ptr 0 0),(3,.ptr 1 0),(5,.int .i64),(46,.int .i64),(47,.int .i64),(56,.int .i64),(57,.int .i64)],h:=D6,nx:=6 }
abbrev PQ:List (Ev.Ex×Lay):=[((.exit 4),adf)]
abbrev NM:=TL PV.σs->Option (Out PQ)
abbrev NQ:=Ld 0 103 (bp [1,0] (aU Tryz.f194)) PV PQ
abbrev Qo:Lay:={ T:=[(1,.ptr 0 0),(3,.ptr 1 0),(28,.int .i64),(29,.int .i64)],h:=D6,nx:=6 }
abbrev Qd:List (Ev.Ex×Lay):=[((.exit 0),{ T:=[(1,.ptr 0 0),(3,.ptr 1 0)],h:=D6,nx:=6 })]
abbrev abV:=TL Qo.σs->Option (Out Qd)
abbrev abW:=Ld 0 103 (bp [0] (aU Tryz.f194)) Qo Qd
def FC(t28 t29 aC:Int)(aB:List Int)(aG:List (Sh.T ae))(aH aI aJ:List Int)(aw:List (Sh.T ab))(aE:List (Sh.T ae))(bO:Int)(bL:List Int)(fj:List (Sh.T ae))(eY fw jb:List Int)(jc:List (Sh.T ab))(jd:List (Sh.T ae))(b2:List Int)(b3:List (Sh.T au))(b4 b5:List Int):Option (TL Qo.σs⊕Out Qd):=
 br (iL t29 t28)
 (
  ah (room 24 (List.length (ap b3 ((false,((0:Int),(t29,())))::[]))))<|
  some (.inl (t28,((IntKind.wrap .i64 (t29+(1:Int))),(aC,(aB,(aG,(aH,(aI,(aJ,(aw,(aE,(bO,(bL,(fj,(eY,(fw,(jb,(jc,(jd,(b2,((ap b3 ((false,((0:Int),(t29,())))::[])),(b4,(b5,()))))))))))))))))))))))))
 (
  some (.inr (aC,(aB,(aG,(aH,(aI,(aJ,(aw,(aE,(bO,(bL,(fj,(eY,(fw,(jb,(jc,(jd,(b2,(b3,(b4,(b5,()))))))))))))))))))))))
def aoK  :abW:=bu (se FC) (pL k0 e0 1 l0 fun d=>by kernel_rfl)
def Fu:abV:=aQ (se FC) NN
def FA(t5 t46 t47 t56 t57 aC:Int)(aB:List Int)(aG:List (Sh.T ae))(aH aI aJ:List Int)(aw:List (Sh.T ab))(aE:List (Sh.T ae))(bO:Int)(bL:List Int)(fj:List (Sh.T ae))(eY fw jb:List Int)(jc:List (Sh.T ab))(jd:List (Sh.T ae))(b2:List Int)(b3:List (Sh.T au))(b4 b5:List Int):Option (TL PV.σs⊕Out PQ):=
 br (iL t57 t56)
 (
  ah (room 24 (List.length (ap b3 ((true,(t5,(t57,())))::[]))))<|
  some (.inl (t5,(t46,(t47,(t56,((IntKind.wrap .i64 (t57+(1:Int))),(aC,(aB,(aG,(aH,(aI,(aJ,(aw,(aE,(bO,(bL,(fj,(eY,(fw,(jb,(jc,(jd,(b2,((ap b3 ((true,(t5,(t57,())))::[])),(b4,(b5,())))))))))))))))))))))))))))
 (
  some (.inr (t46,(t47,(aC,(aB,(aG,(aH,(aI,(aJ,(aw,(aE,(bO,(bL,(fj,(eY,(fw,(jb,(jc,(jd,(b2,(b3,(b4,(b5,()))))))))))))))))))))))))
def abL  :NQ:=bu (fun d=>FA   d.1 d.2.1 d.2.2.1 d.2.2.2.1 d.2.2.2.2.1 d.2.2.2.2.2.1 d.2.2.2.2.2.2.1 d.2.2.2.2.2.2.2.1 d.2.2.2.2.2.2.2.2.1 d.2.2.2.2.2.2.2.2.2.1 d.2.2.2.2.2.2.2.2.2.2.1 d.2.2.2.2.2.2.2.2.2.2.2.1 d.2.2.2.2.2.2.2.2.2.2.2.2.1 d.2.2.2.2.2.2.2.2.2.2.2.2.2.1 d.2.2.2.2.2.2.2.2.2.2.2.2.2.2.1 d.2.2.2.2.2.2.2.2.2.2.2.2.2.2.2.1 d.2.2.2.2.2.2.2.2.2.2.2.2.2.2.2.2.1 d.2.2.2.2.2.2.2.2.2.2.2.2.2.2.2.2.2.1 d.2.2.2.2.2.2.2.2.2.2.2.2.2.2.2.2.2.2.1 d.2.2.2.2.2.2.2.2.2.2.2.2.2.2.2.2.2.2.2.1 d.2.2.2.2.2.2.2.2.2.2.2.2.2.2.2.2.2.2.2.2.1 d.2.2.2.2.2.2.2.2.2.2.2.2.2.2.2.2.2.2.2.2.2.1 d.2.2.2.2.2.2.2.2.2.2.2.2.2.2.2.2.2.2.2.2.2.2.1 d.2.2.2.2.2.2.2.2.2.2.2.2.2.2.2.2.2.2.2.2.2.2.2.1 d.2.2.2.2.2.2.2.2.2.2.2.2.2.2.2.2.2.2.2.2.2.2.2.2.1) (pL k0 e0 1 l0 fun d=>by kernel_rfl)
def Fk:NM:=aQ (fun d=>FA   d.1 d.2.1 d.2.2.1 d.2.2.2.1 d.2.2.2.2.1 d.2.2.2.2.2.1 d.2.2.2.2.2.2.1 d.2.2.2.2.2.2.2.1 d.2.2.2.2.2.2.2.2.1 d.2.2.2.2.2.2.2.2.2.1 d.2.2.2.2.2.2.2.2.2.2.1 d.2.2.2.2.2.2.2.2.2.2.2.1 d.2.2.2.2.2.2.2.2.2.2.2.2.1 d.2.2.2.2.2.2.2.2.2.2.2.2.2.1 d.2.2.2.2.2.2.2.2.2.2.2.2.2.2.1 d.2.2.2.2.2.2.2.2.2.2.2.2.2.2.2.1 d.2.2.2.2.2.2.2.2.2.2.2.2.2.2.2.2.1 d.2.2.2.2.2.2.2.2.2.2.2.2.2.2.2.2.2.1 d.2.2.2.2.2.2.2.2.2.2.2.2.2.2.2.2.2.2.1 d.2.2.2.2.2.2.2.2.2.2.2.2.2.2.2.2.2.2.2.1 d.2.2.2.2.2.2.2.2.2.2.2.2.2.2.2.2.2.2.2.2.1 d.2.2.2.2.2.2.2.2.2.2.2.2.2.2.2.2.2.2.2.2.2.1 d.2.2.2.2.2.2.2.2.2.2.2.2.2.2.2.2.2.2.2.2.2.2.1 d.2.2.2.2.2.2.2.2.2.2.2.2.2.2.2.2.2.2.2.2.2.2.2.1 d.2.2.2.2.2.2.2.2.2.2.2.2.2.2.2.2.2.2.2.2.2.2.2.2.1) NN
def FB(L11:NM)(t46 t47 aC:Int)(aB:List Int)(aG:List (Sh.T ae))(aH aI aJ:List Int)(aw:List (Sh.T ab))(aE:List (Sh.T ae))(bO:Int)(bL:List Int)(fj:List (Sh.T ae))(eY fw jb:List Int)(jc:List (Sh.T ab))(jd:List (Sh.T ae))(b2:List Int)(b3:List (Sh.T au))(b4 b5:List Int):Option (TL Qn.σs⊕Out Qc):=
 br (iL t47 t46)
 (
  ah (aq t47 (List.length aw))<|
  aj (L11 (t47,(t46,(t47,((Int.ofNat (List.length (gt ab aw t47).2.2.2.1)),((0:Int),(aC,(aB,(aG,(aH,(aI,(aJ,(aw,(aE,(bO,(bL,(fj,(eY,(fw,(jb,(jc,(jd,(b2,(b3,(b4,(b5,())))))))))))))))))))))))))) fun x0=>
  some (.inl (x0.1,((IntKind.wrap .i64 (@HAdd.hAdd (Int) (Int) (Int) _ x0.2.1 (1:Int))),x0.2.2))))
 (
  some (.inr (bO,(bL,(fj,(eY,(fw,(jb,(jc,(jd,(b2,(b3,(b4,(b5,()))))))))))))))
def aoL(M11:NQ):N3:=bu (se (FB M11.L)) (pL k0 e0 1 (sC M11 l0) fun d=>by kernel_rfl)
def aoJ:N3:=aoL  abL
def Ft:abU:=aQ (se (FB Fk)) NN
def Fx(t7 t78 t79:Int)(t86:List Int)(t87 t88 aC:Int)(aB:List Int)(aG:List (Sh.T ae))(aH aI aJ:List Int)(aw:List (Sh.T ab))(aE:List (Sh.T ae))(b1:List Int)(b2:List (Sh.T au))(b3 b4:List Int):Option (TL PU.σs⊕Out PO):=
 br (iL t88 t87)
 (
  ah (aq t88 (List.length t86))<|
  ah (aq (gt (.int .i64) t86 t88) (List.length b1))<|
  some (.inl (t7,(t78,(t79,(t86,(t87,((IntKind.wrap .i64 (t88+(1:Int))),(aC,(aB,(aG,(aH,(aI,(aJ,(aw,(aE,((List.set b1 (Int.toNat (gt (.int .i64) t86 t88)) (IntKind.wrap .i64 (t7+(1:Int)))),(b2,(b3,(b4,()))))))))))))))))))))
 (
  some (.inr (t78,(t79,(aC,(aB,(aG,(aH,(aI,(aJ,(aw,(aE,(b1,(b2,(b3,(b4,()))))))))))))))))
def abK  :NO:=bu (Gr Fx) (pL k0 e0 1 l0 fun d=>by kernel_rfl)
def Fj:NL:=aQ (Gr Fx) NN
def Fy(F0:wu)(L20:NL)(t78 t79 aC:Int)(aB:List Int)(aG:List (Sh.T ae))(aH aI aJ:List Int)(aw:List (Sh.T ab))(aE:List (Sh.T ae))(b1:List Int)(b2:List (Sh.T au))(b3 b4:List Int):Option (TL Qe.σs⊕Out P0):=
 br (iL t79 t78)
 (
  ah (aq t79 (List.length b2))<|
  aj (F0 ((gt au b2 t79).1,((gt au b2 t79).2.1,((gt au b2 t79).2.2.1,(aC,(aB,(aG,(aH,(aI,(aJ,(aw,(aE,(b1,(b2,(b3,(b4,())))))))))))))))) fun x0=>
  aj (L20 (t79,(t78,(t79,(x0.1,((Int.ofNat (List.length x0.1)),((0:Int),x0.2))))))) fun x1=>
  some (.inl (x1.1,((IntKind.wrap .i64 (@HAdd.hAdd (Int) (Int) (Int) _ x1.2.1 (1:Int))),x1.2.2))))
 (
  some (.inr (aC,(aB,(aG,(aH,(aI,(aJ,(aw,(aE,(b1,(b2,(b3,(b4,()))))))))))))))
def aoz(c0:tm)(M20:NO):NP:=bu (iu (Fy c0.F M20.L)) (pL (kB c0 k0) e0 1 (sC M20 l0) fun d=>by kernel_rfl)
def aoy:NP:=aoz wx abK
def Fs:abJ:=aQ (iu (Fy xv Fj)) NN
def QN(F0:wu)(L3:abV)(L8:abU)(L11:NM)(L17:abJ)(L20:NL)(dK:Int)(gB:List Int)(fV:List (Sh.T ae))(ig ij ik:List Int)(eO:List (Sh.T ab))(gO:List (Sh.T ae)):Option (Out Qm):=
 ah (both (iE (0:Int) (IntKind.wrap .i64 (dK+(1:Int)))) (both (iE (IntKind.wrap .i64 (dK+(1:Int))) (IntKind.wrap .i64 (dK+(1:Int)))) (iE ((Int.ofNat 8)*(IntKind.wrap .i64 (dK+(1:Int)))) (281474976710656:Int))))<|
 ah (both (iE (0:Int) (IntKind.wrap .i64 (dK+(1:Int)))) (both (iE (IntKind.wrap .i64 (dK+(1:Int))) (IntKind.wrap .i64 (dK+(1:Int)))) (iE ((Int.ofNat 1)*(IntKind.wrap .i64 (dK+(1:Int)))) (281474976710656:Int))))<|
 ah (both (iE (0:Int) (IntKind.wrap .i64 (dK+(1:Int)))) (both (iE (IntKind.wrap .i64 (dK+(1:Int))) (IntKind.wrap .i64 (dK+(1:Int)))) (iE ((Int.ofNat 8)*(IntKind.wrap .i64 (dK+(1:Int)))) (281474976710656:Int))))<|
 aj (L3 ((Int.ofNat (List.length gO)),((0:Int),(dK,(gB,(fV,(ig,(ij,(ik,(eO,(gO,(dK,(gB,(fV,(ig,(ij,(ik,(eO,(gO,((List.replicate (Int.toNat (IntKind.wrap .i64 (dK+(1:Int)))) (Sh.zero (.int .i64))),([],((List.replicate (Int.toNat (IntKind.wrap .i64 (dK+(1:Int)))) (Sh.zero (.int .u8))),((List.replicate (Int.toNat (IntKind.wrap .i64 (dK+(1:Int)))) (Sh.zero (.int .i64))),()))))))))))))))))))))))) fun x0=>
 aj (L8 ((Int.ofNat (List.length x0.2.2.2.2.2.2.1)),((0:Int),x0))) fun x1=>
 aj (L17 ((Int.ofNat (List.length x1.2.2.2.2.2.2.2.2.2.1)),((0:Int),x1))) fun x2=>
 some x2
def aoX(c0:tm)(M3:abW)(M8:N3)(M11:NQ)(M17:NP)(M20:NO):N9:=⟨u8 (QN c0.F M3.L M8.L M11.L M17.L M20.L),pB Tryz.func194 103 (kB c0 k0) e0 1 (sS (sC M3 (sC M8 (sC M17 l0)))) fun d=>by kernel_rfl⟩
def ab5:N9:=aoX wx aoK aoJ abL aoy abK
def Zo9:ab4:=ab5.F
abbrev Zjg:Lay:={ T:=[(0,.agg ej)],h:=[],nx:=0 }
abbrev Qp:List (Ev.Ex×Lay):=[(.ret,{ T:=[(0,.dJ),(1,.int .i64)],h:=[],nx:=0 }),(.ret,{ T:=[(0,.ptr 0 0),(1,.int .i64)],h:=jV,nx:=5 })]
abbrev Oa:=TL Zjg.σs->Option (Out Qp)
abbrev DA:=Kb 128 1 Zjg 2 Qp
def Zw8(F0:ao0)(F1:abo)(F2:ab4)(dK:Int)(gB:List Int)(fV:List (Sh.T ae))(ig ij ik:List Int)(eO:List (Sh.T ab))(gO:List (Sh.T ae)):Option (Out Qp):=
 aj (F0 ((dK,(gB,(fV,(ig,(ij,(ik,(eO,(gO,())))))))),())) fun x0=>
 br (Bool.not (iQ x0.1 (0:Int)))
 (
  some (.inl (x0.1,())))
 (
  aj (F2 (dK,(gB,(fV,(ig,(ij,(ik,(eO,(gO,()))))))))) fun x1=>
  aj (F1 x1) fun x2=>
  br (Bool.not x2.1)
  (
   some (.inl ((8:Int),())))
  (
   some (.inr ((0:Int),x2.2))))
def aoY(c0:ab8)(c1:Nw)(c2:N9) :DA:=⟨u8 (Zw8 c0.F c1.F c2.F),pB Tryz.func128 17 (kD c0 (kB c1 (kB c2 k0))) e0 1 (sS l0) fun d=>by kernel_rfl⟩
def Ob:DA:=aoY ao1 abp ab5
def xM:Oa:=Ob.F
abbrev Zq5:List Sh:=[ba]
abbrev QD:List Sh:=[(.int .i64)]
abbrev rm:=TL Zq5->Option (TL QD)
abbrev pW:=Kd 66 Zq5 QD
def Zul(F0:Oa)(a0:Sh.T ba):Option (TL QD):=
 aj (F0 a0) fun x0=>
 (match x0 with|.inl x1=>some (x1.1,())|.inr x1=>some (x1.1,())
 )
def aoO(c0:DA) :pW:=⟨u1 (Zul c0.F),pD Tryz.func66 11 (kB c0 k0) e0 1 (sS l0) fun d=>by kernel_rfl⟩
def rn:pW:=aoO Ob
def Zfn:rm:=rn.F
