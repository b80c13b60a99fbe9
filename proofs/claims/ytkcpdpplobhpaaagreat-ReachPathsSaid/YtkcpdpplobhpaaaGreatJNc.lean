import Derived.Test.YtkcpdpplobhpaaaGreatJMf
import Derived.Test.YtkcpdpplobhpaaaGreatJNb
set_option linter.unusedVariables false
set_option linter.unusedSimpArgs false
set_option linter.unnecessarySimpa false
section
namespace Go.Proofs.YtkcpdpplobhpaaaGreat.V
open Go Go.RowKit Go.Proofs.YtkcpdpplobhpaaaGreat.Pl
def j8(x:ae.T):dx:=⟨x.1,x.2.1,x.2.2.1⟩
def mS(x:ae.T):eK:=⟨x.1,x.2.1,x.2.2.1⟩
def pY(x:bO.T):mJ:=⟨x.1,x.2.1⟩
def qQ(x:bE.T):mw:=⟨x.1,x.2.1,x.2.2.1⟩
def mW(x:ab.T):bC:=⟨x.1,x.2.1,x.2.2.1,x.2.2.2.1.map pY,x.2.2.2.2.1.map qQ⟩
def dS(x:bg.T):ax:=⟨x.1,x.2.1,x.2.2.1.map j8,x.2.2.2.1,x.2.2.2.2.1,x.2.2.2.2.2.1,x.2.2.2.2.2.2.1.map mW,x.2.2.2.2.2.2.2.1.map mS⟩
def bL(x:dx):ae.T:=(x.var,(x.next,(x.init,())))
def dj(x:eK):ae.T:=(x.var,(x.a,(x.b,())))
def dv(x:mJ):bO.T:=(x.var,(x.addr,()))
def dK(x:mw):bE.T:=(x.on,(x.addr,(x.data,())))
def aq(x:bC):ab.T:=(x.addr,(x.word,(x.any,(x.reads.map dv,(x.writes.map dK,())))))
def bc(x:ax):bg.T:=(x.vars,(x.aJ,(x.au.map bL,(x.bJ,(x.ba,(x.constraints,(x.aa.map aq,(x.aM.map dj,()))))))))
theorem map_id'{α β:Type}{f:α->β}{g:β->α}(h:∀x,g (f x)=x):∀L:List α,(L.map f).map g=L
 |[]=>rfl|x::L=>by simp only[List.map_cons,h,map_id' h L]
theorem aeg(a b:Int)(c:Bool)(d:List bO.T)(e:List bE.T):((a,(b,(c,((d.map pY).map dv,((e.map qQ).map dK,()))))):Int×Int×Bool×List bO.T×List bE.T×Unit)=(a,(b,(c,(d,(e,()))))):=by rw[map_id' (f:=pY) (g:=dv) (fun x=>rfl),map_id' (f:=qQ) (g:=dK) (fun x=>rfl)]
theorem ahv(x:ab.T):aq (mW x)=x:=aeg x.1 x.2.1 x.2.2.1 x.2.2.2.1 x.2.2.2.2.1
theorem aek(a:Int)(b:List Int)(c:List ae.T)(d e f:List Int)(g:List ab.T)(h:List ae.T) :
  ((a,(b,((c.map j8).map bL,(d,(e,(f,((g.map mW).map aq,((h.map mS).map dj,())))))))):Int×List Int×List ae.T×List Int×List Int×List Int×List ab.T×List ae.T×Unit)=(a,(b,(c,(d,(e,(f,(g,(h,())))))))):=by
 rw[map_id' (f:=j8) (g:=bL) (fun x=>rfl),map_id' (f:=mS) (g:=dj) (fun x=>rfl),map_id' (f:=mW) (g:=aq) ahv]
theorem DB(x:bg.T):bc (dS x)=x:=aek x.1 x.2.1 x.2.2.1 x.2.2.2.1 x.2.2.2.2.1 x.2.2.2.2.2.1 x.2.2.2.2.2.2.1 x.2.2.2.2.2.2.2.1
theorem ahw(x:bC):mW (aq x)=x:=by obtain⟨a,b,c,d,e⟩:=x;show(⟨a,b,c,(d.map dv).map pY,(e.map dK).map qQ⟩:bC)=_;rw[map_id' (f:=dv) (g:=pY) (fun x=>rfl),map_id' (f:=dK) (g:=qQ) (fun x=>rfl)]
theorem lE(x:ax):dS (bc x)=x:=by obtain⟨a,b,c,d,e,f,g,h⟩:=x;show(⟨a,b,(c.map bL).map j8,d,e,f,(g.map aq).map mW,(h.map dj).map mS⟩:ax)=_;rw[map_id' (f:=bL) (g:=j8) (fun x=>rfl),map_id' (f:=dj) (g:=mS) (fun x=>rfl),map_id' (f:=aq) (g:=mW) ahw]
theorem uA{w:World}{A:Nat->Prop}{s:Sh}{L:List s.T}{V:Value}(h:Cs w A (.sl s) L [V]) :
  ∃a cap X,V=.slice a L.length cap/\bh (Cs w A s) L X/\Sl w w.heap.size s.size a L.length cap X:=by
 obtain⟨a,len,cap,e1,rfl,e3,e4⟩:=h;simp only[List.cons.injEq,and_true]at e1;subst e1;by_cases hL:L=[]
 .subst hL;exact⟨a,cap,[],rfl,rfl,⟨by simp,fun h=>absurd h (by simp)⟩,e3,Nat.zero_le _⟩
 .obtain⟨b,o,X,rfl,q2,q3,c,ty,fr,q4,q5⟩:=e4 hL;refine⟨_,cap,X,rfl,q3,⟨bh.length (fun x c=>Cs.length) q3,fun _=>⟨_,rfl,eD q4,fun j u hj=>?_⟩⟩,e3,Nat.zero_le _⟩;have:=q5 j u hj;rw[show(⟨b,o,none⟩:Addr).add j=⟨b,o+j,none⟩from by simp[Ev.fU]];simp only[World.cell?,q4,Option.isSome_none,Bool.false_eq_true,if_false];exact this
theorem GC{α:Type}{R:α->List Value->Prop}{g:α->List Value}(h:∀x c,R x c->c=g x):∀{L:List α}{X:List Value},bh R L X->X=L.flatMap g
 |[],X,q=>q|x::L,X,⟨c,r,e,q,t⟩=>by rw[e,h x c q,GC h t];rfl
theorem w8{w:World}{A:Nat->Prop}{d:TL []}{cs:List Value}(h:fT w A [] d cs):cs=[]:=h
theorem gU{w:World}{A:Nat->Prop}{s:Sh}{l:List Sh}{d:TL (s::l)}{cs:List Value}(h:fT w A (s::l) d cs):∃c r,cs=c++r/\Cs w A s d.1 c/\fT w A l d.2 r:=h
theorem uv{w:World}{A:Nat->Prop}{s:Sh}{L:List s.T}{c:List Value}(h:Cs w A (.sl s) L c):∃V,c=[V]/\Cs w A (.sl s) L [V]:=by obtain⟨a,len,cap,e1,q⟩:=h;exact⟨_,e1,a,len,cap,rfl,q⟩
theorem GS{α β γ:Type}{f:α->γ}{g:β->γ}{L:List α}{M:List β}(h:L.map f=M.map g):M.length=L.length:=by have:=congrArg List.length h;rw[List.length_map,List.length_map]at this;exact this.symm
theorem Uh:∀L:List Int,L.flatMap (fun n=>[Value.int .i64 n])=ints L
 |[]=>rfl|x::L=>by have:=Uh L;unfold ints at this |-;rw[List.flatMap_cons,this];rfl
theorem qP{w:World}{A:Nat->Prop}{L:List Int}{c:List Value}(h:Cs w A (.sl (.int .i64)) L c):∃a cap,c=[.slice a L.length cap]/\Sl w w.heap.size 1 a L.length cap (ints L):=by
 obtain⟨V,rfl,h⟩:=uv h;obtain⟨a,cap,X,rfl,h1,h2⟩:=uA h;have:X=ints L:=by have:=GC (g:=fun n=>[Value.int .i64 n]) (fun x c q=>q) h1;rw[this];exact Uh L
 subst this;exact⟨a,cap,rfl,h2⟩
theorem ae3{w:World}{A:Nat->Prop}{x:ae.T}{c:List Value}(h:Cs w A ae x c):c=(j8 x).cells:=by obtain⟨c1,r1,rfl,h1,q1⟩:=gU h;obtain⟨c2,r2,rfl,h2,q2⟩:=gU q1;obtain⟨c3,r3,rfl,h3,q3⟩:=gU q2;rw[w8 q3,show c1=_ from h1,show c2=_ from h2,show c3=_ from h3];rfl
theorem Up{w:World}{A:Nat->Prop}{L:List ae.T}{c:List Value}(h:Cs w A (.sl ae) L c):∃a cap,c=[.slice a (L.map j8).length cap]/\Sl w w.heap.size 3 a (L.map j8).length cap ((L.map j8).flatMap dx.cells):=by obtain⟨V,rfl,h⟩:=uv h;obtain⟨a,cap,X,rfl,h1,h2⟩:=uA h;have:=GC (g:=fun x=>(j8 x).cells) (fun x c q=>ae3 q) h1;refine⟨a,cap,by simp,?_⟩;rw[List.length_map,List.flatMap_map,<-this];exact h2
theorem adH{w:World}{A:Nat->Prop}{L:List ae.T}{c:List Value}(h:Cs w A (.sl ae) L c):∃a cap,c=[.slice a (L.map mS).length cap]/\Sl w w.heap.size 3 a (L.map mS).length cap ((L.map mS).flatMap eK.cells):=by obtain⟨a,cap,e,h⟩:=Up h;rw[List.length_map]at e h |-;exact⟨a,cap,e,by rw[List.flatMap_map]at h |-;exact h⟩
theorem TF{w:World}{A:Nat->Prop}:∀{L:List bO.T}{X:List Value},bh (Cs w A bO) L X->∃Rs:List de,Rs.map de.d=L.map pY/\X=Rs.flatMap de.cells/\∀r∈Rs,r.bI w w.heap.size
 |[],X,h=>⟨[],rfl,h,fun r hr=>by cases hr⟩
 |x::L,X,⟨c,r,e,q,t⟩=>by
  obtain⟨Rs,k1,k2,k3⟩:=TF t;obtain⟨c1,r1,rfl,h1,q1⟩:=gU q;obtain⟨c2,r2,rfl,h2,q2⟩:=gU q1;obtain⟨a,cap,rfl,hs⟩:=qP h2;refine⟨⟨x.1,a,cap,x.2.1⟩::Rs,by simp only[List.map_cons,k1];rfl,?_,?_⟩
  .rw[e,w8 q2,show c1=_ from h1,k2];rfl
  .intro r hr;rcases List.mem_cons.1 hr with rfl|hr
   .exact hs
   .exact k3 r hr
theorem SO{w:World}{A:Nat->Prop}:∀{L:List bE.T}{X:List Value},bh (Cs w A bE) L X->∃Rs:List dJ,Rs.map dJ.d=L.map qQ/\X=Rs.flatMap dJ.cells/\∀r∈Rs,r.bI w w.heap.size
 |[],X,h=>⟨[],rfl,h,fun r hr=>by cases hr⟩
 |x::L,X,⟨c,r,e,q,t⟩=>by
  obtain⟨Rs,k1,k2,k3⟩:=SO t;obtain⟨c1,r1,rfl,h1,q1⟩:=gU q;obtain⟨c2,r2,rfl,h2,q2⟩:=gU q1;obtain⟨c3,r3,rfl,h3,q3⟩:=gU q2;obtain⟨a,cap,rfl,hs⟩:=qP h2;obtain⟨a',cap',rfl,hs'⟩:=qP h3;refine⟨⟨x.1,a,cap,x.2.1,a',cap',x.2.2.1⟩::Rs,by simp only[List.map_cons,k1];rfl,?_,?_⟩
  .rw[e,w8 q3,show c1=_ from h1,k2];rfl
  .intro r hr;rcases List.mem_cons.1 hr with rfl|hr
   .exact⟨hs,hs'⟩
   .exact k3 r hr
theorem Ul{w:World}{A:Nat->Prop}:∀{L:List ab.T}{X:List Value},bh (Cs w A ab) L X->∃Ms:List bj,Ms.map bj.d=L.map mW/\X=Ms.flatMap bj.cells/\∀m∈Ms,m.bI w w.heap.size
 |[],X,h=>⟨[],rfl,h,fun r hr=>by cases hr⟩
 |x::L,X,⟨c,r,e,q,t⟩=>by
  obtain⟨Ms,k1,k2,k3⟩:=Ul t;obtain⟨c1,r1,rfl,h1,q1⟩:=gU q;obtain⟨c2,r2,rfl,h2,q2⟩:=gU q1;obtain⟨c3,r3,rfl,h3,q3⟩:=gU q2;obtain⟨c4,r4,rfl,h4,q4⟩:=gU q3;obtain⟨c5,r5,rfl,h5,q5⟩:=gU q4;obtain⟨V4,rfl,h4⟩:=uv h4;obtain⟨V5,rfl,h5⟩:=uv h5;obtain⟨a,cap,X4,rfl,f4,s4⟩:=uA h4;obtain⟨a',cap',X5,rfl,f5,s5⟩:=uA h5;obtain⟨Rs,rk,rfl,rok⟩:=TF f4;obtain⟨Ws,wk,rfl,wok⟩:=SO f5;have l4:x.2.2.2.1.length=Rs.length:=GS rk;have l5:x.2.2.2.2.1.length=Ws.length:=GS wk;have l4':List.length x.2.2.2.1=Rs.length:=l4;refine⟨⟨x.1,x.2.1,x.2.2.1,a,cap,Rs,a',cap',Ws⟩::Ms,?_,?_,?_⟩
  .simp only[List.map_cons,k1,bj.d,rk,wk];rfl
  .rw[e,w8 q5,show c1=_ from h1,show c2=_ from h2,show c3=_ from h3,k2];show[_,_,_,Value.slice a (List.length x.2.2.2.1) cap,Value.slice a' (List.length x.2.2.2.2.1) cap']++_=_;rw[l4,l5];rfl
  .intro m hm;rcases List.mem_cons.1 hm with rfl|hm
   .exact⟨by rw[<-l4];exact s4,rok,by rw[<-l5];exact s5,wok⟩
   .exact k3 m hm
theorem afb{w:World}{A:Nat->Prop}{d:bg.T}{V:Value}(h:iJ w A bg d V):∃N:bD,N.v=V/\N.d=dS d/\N.bI w w.heap.size:=by
 obtain⟨h,hagg⟩:=h;obtain⟨c1,r1,e1,h1,q1⟩:=gU h;obtain⟨c2,r2,rfl,h2,q2⟩:=gU q1;obtain⟨c3,r3,rfl,h3,q3⟩:=gU q2;obtain⟨c4,r4,rfl,h4,q4⟩:=gU q3;obtain⟨c5,r5,rfl,h5,q5⟩:=gU q4;obtain⟨c6,r6,rfl,h6,q6⟩:=gU q5;obtain⟨c7,r7,rfl,h7,q7⟩:=gU q6;obtain⟨c8,r8,rfl,h8,q8⟩:=gU q7;obtain⟨a2,p2,rfl,s2⟩:=qP h2;obtain⟨a3,p3,rfl,s3⟩:=Up h3;obtain⟨a4,p4,rfl,s4⟩:=qP h4;obtain⟨a5,p5,rfl,s5⟩:=qP h5;obtain⟨a6,p6,rfl,s6⟩:=qP h6;obtain⟨V7,rfl,h7⟩:=uv h7;obtain⟨a7,p7,X7,rfl,f7,s7⟩:=uA h7;obtain⟨Ms,k1,rfl,k3⟩:=Ul f7;obtain⟨a8,p8,rfl,s8⟩:=adH h8;have l7:List.length d.2.2.2.2.2.2.1=Ms.length:=GS k1;refine⟨⟨d.1,a2,p2,d.2.1,a3,p3,d.2.2.1.map j8,a4,p4,d.2.2.2.1,a5,p5,d.2.2.2.2.1,a6,p6,d.2.2.2.2.2.1,a7,p7,Ms,a8,p8,d.2.2.2.2.2.2.2.1.map mS⟩,?_,?_,?_⟩
 .cases V with|agg cs=>have e1':cs.toList=c1++_:=e1;rw[w8 q8,show c1=_ from h1,l7]at e1';show Value.agg _=Value.agg cs;congr 1;apply Array.toList_inj.1;rw[e1'];rfl|_=>cases hagg
 .simp only[bD.d,k1];rfl
 .exact⟨s2,s3,s4,s5,s6,by rw[<-l7];exact s7,k3,s8⟩
instance i64Dec(x:Int):Decidable (cR x):=inferInstanceAs (Decidable (_/\_))
instance memFitDec(m:bC):Decidable (zm m):=decidable_of_iff
 ((cR m.word/\m.word<=4000)/\cR m.addr/\m.reads.length<=100/\m.writes.length<=100/\(∀r∈m.reads,r.addr.length<=4000/\-1099511627776<=r.var/\r.var<=1099511627776/\∀x∈r.addr,cR x) /\
  ∀r∈m.writes,r.addr.length<=4000/\r.data.length<=4000/\cR r.on/\(∀x∈r.addr,cR x)/\∀x∈r.data,cR x)
 ⟨fun⟨a,b,c,d,e,f⟩=>⟨a,b,c,d,e,f⟩,fun⟨a,b,c,d,e,f⟩=>⟨a,b,c,d,e,f⟩⟩
instance fitDec(n:ax):Decidable (Fit n):=decidable_of_iff
 (cR n.vars/\(n.aJ.length<=4000/\∀x∈n.aJ,cR x)/\(n.au.length<=4000/\∀l∈n.au,cR l.var/\cR l.next/\cR l.init)/\(n.bJ.length<=4000/\∀x∈n.bJ,cR x) /\
  (n.ba.length<=4000/\∀x∈n.ba,cR x)/\(n.constraints.length<=4000/\∀x∈n.constraints,cR x)/\(n.aa.length<=100/\∀m∈n.aa,zm m)/\(n.aM.length<=4000/\∀a∈n.aM,cR a.var/\cR a.a/\cR a.b))
 ⟨fun⟨a,b,c,d,e,f,g,h⟩=>⟨a,b,c,d,e,f,g,h⟩,fun⟨a,b,c,d,e,f,g,h⟩=>⟨a,b,c,d,e,f,g,h⟩⟩
def Lo(n:ax):Bool:=decide (Fit n)
theorem adR{n:ax}(h:Lo n=true):Fit n:=of_decide_eq_true h
theorem zf{n:ax}(h:Fit n):Lo n=true:=decide_eq_true h
def lj:TL [bg]->Option (TL [.int .i64]):=fun d=>match Lo (dS d.1)with|true=>some (dt (dS d.1),())|false=>none
theorem Zwd{f:FuncId}{fn:Func}{c:Code}(h1:Tryz.prog.funcs[f]?=some fn)(h2:(fn.name == "runtime.NumGoroutine")=false)(h3:fn.body=some c)
  (h:∀(N:bD) (w:World),N.bI w w.heap.size->Fit N.d->Calls Tryz.prog f #[N.v] w fun e w'=>e=.returned (.int .i64 (dt N.d))/\Below w.heap.size w w'):Comes Tryz.prog f [bg] [.int .i64] lj:=by
 refine⟨⟨fn,c,h1,h2,h3⟩,?_⟩;intro d x hx w A args hA ha;unfold lj at hx;split at hx<;>cases hx;rename_i hf;obtain⟨V,r,rfl,hd,hr⟩:=ha;have:r=[]:=hr;subst this;obtain⟨N,rfl,hN,hok⟩:=afb hd;have hf:=adR hf;rw[<-hN]at hf;refine(h N w hok hf).mono ?_;rintro e w' ⟨rfl,hb⟩;exact⟨[.int .i64 (dt N.d)],rfl,hb,_,[],rfl,⟨by rw[hN];rfl,rfl⟩,rfl⟩
theorem Zwv:Comes Tryz.prog 193 [bg] [.int .i64] lj:=Zwd (fn:=Tryz.f193) (c:=aW Tryz.f193) Tryz.func193 (by kernel_rfl) (by kernel_rfl) agl
theorem Zct:Comes Tryz.prog 85 [bg] [.int .i64] lj:=Zwd (fn:=Tryz.f85) (c:=aW Tryz.f85) Tryz.func85 (by kernel_rfl) (by kernel_rfl) agn
def sW:=lj
abbrev akX:=TL [bg]->Option (TL [.int .i64])
abbrev Yi:=Kd 193 [bg] [.int .i64]
def akY:Yi:=⟨lj,Zwv⟩
abbrev Xe:=TL [bg]->Option (TL [.int .i64])
abbrev JO:=Kd 85 [bg] [.int .i64]
def Xf:JO:=⟨sW,Zct⟩
set_option maxRecDepth 1000000
abbrev Zsr:List Sh:=[(.int .i64)]
abbrev NH:List Sh:=[(.int .i64)]
abbrev BJ:=TL Zsr->Option (TL NH)
abbrev vz:=Kd 101 Zsr NH
def NR(a0:Int):Option (TL NH):=some ((Int.fdiv a0 (HPow.hPow (2:Int) (Min.min (Int.toNat (1:Int)) 64))),())
def ald  :vz:=⟨u1 NR,pD Tryz.func101 5 k0 e0 1 (sS l0) fun d=>by kernel_rfl⟩
def BK:vz:=ald
def wt:BJ:=BK.F
abbrev Nf:Lay:={ T:=[(1,.int .i64),(2,.ptr 0 0),(4,.hd 1 (.int .i64)),(16,.int .i64),(17,.int .i64)],h:=[(0,.cells [.int .i64,.int .i64,.bool,.fz bO,.fz bE] 116),(1,.arr (.int .i64) 3)],nx:=2 }
abbrev M0:List (Ev.Ex×Lay):=[((.exit 0),{ T:=[(4,.hd 0 (.int .i64))],h:=[(0,.arr (.int .i64) 3)],nx:=1 })]
abbrev Yj:=TL Nf.σs->Option (Out M0)
abbrev Yk:=Ld 0 33 (bu [0] (aW Tryz.f139)) Nf M0
def DA(t1 t16 t17 aE aD:Int)(aG:Bool)(aH:List (Sh.T bO))(aI:List (Sh.T bE))(b1:List Int):Option (TL Nf.σs⊕Out M0):=
 br (iL t17 t16)
 (
  ai (aw t1 (List.length aH))<|
  ai (room 8 (List.length (ap b1 ((IntKind.wrap .i64 (@HAdd.hAdd (Int) (Int) (Int) _ (gt bO aH t1).1 t17))::[]))))<|
  some (.inl (t1,(t16,((IntKind.wrap .i64 (t17+(1:Int))),(aE,(aD,(aG,(aH,(aI,((ap b1 ((IntKind.wrap .i64 (@HAdd.hAdd (Int) (Int) (Int) _ (gt bO aH t1).1 t17))::[])),())))))))))))
 (
  some (.inr (b1,())))
def akZ  :Yk:=bB (u9 DA) (pL k0 e0 1 l0 fun d=>by kernel_rfl)
def Nl:Yj:=aR (u9 DA) NN
abbrev Zsq:List Sh:=[ab,(.int .i64)]
abbrev NG:List Sh:=[(.sl (.int .i64))]
abbrev Yt:=TL Zsq->Option (TL NG)
abbrev KS:=Kd 139 Zsq NG
def NQ(L4:Yj)(a0:Sh.T ab)(a1:Int):Option (TL NG):=
 br (iL a1 (0:Int))
 (
  some ([],()))
 (
  br (aQ false true (iE (Int.ofNat (List.length a0.2.2.2.1)) a1))
  (
   some ([],()))
  (
   ar (L4 (a1,(a0.2.1,((0:Int),(a0.1,(a0.2.1,(a0.2.2.1,(a0.2.2.2.1,(a0.2.2.2.2.1,([],())))))))))) fun x0=>
   some (x0.1,())))
def alc(M4:Yk):KS:=⟨u2 (NQ M4.L),pD Tryz.func139 33 k0 e0 1 (sS (sC M4 l0)) fun d=>by kernel_rfl⟩
def Yu:KS:=alc  akZ
def Nr:Yt:=Yu.F
abbrev jo:List (Nat×LO):=[(0,.cells [.int .i64,.fz (.int .i64),.fz ae,.fz (.int .i64),.fz (.int .i64),.fz (.int .i64),.fz ab,.fz ae,.hd 1 (.int .i64),.hd 2 ah,.hd 3 (.int .u8),.hd 4 (.int .i64)] 224),(1,.arr (.int .i64) 3),(2,.arr ah 148),(3,.arr (.int .u8) 5),(4,.arr (.int .i64) 3)]
abbrev Cc:List (Nat×LO):=[(0,.cells fq 27),(1,.cells [.int .i64,.fz (.int .i64),.fz ae,.fz (.int .i64),.fz (.int .i64),.fz (.int .i64),.fz ab,.fz ae,.hd 2 (.int .i64),.hd 3 ah,.hd 4 (.int .u8),.hd 5 (.int .i64)] 224),(2,.arr (.int .i64) 3),(3,.arr ah 148),(4,.arr (.int .u8) 5),(5,.arr (.int .i64) 3)]
abbrev Cd:List (Nat×LO):=[(0,.cells [.fz (.int .i64)] 22),(1,.cells [.ptr 2 0] 198),(2,.cells [.int .i64,.fz (.int .i64),.fz ae,.fz (.int .i64),.fz (.int .i64),.fz (.int .i64),.fz ab,.fz ae,.hd 3 (.int .i64),.hd 4 ah,.hd 5 (.int .u8),.hd 6 (.int .i64)] 224),(3,.arr (.int .i64) 3),(4,.arr ah 148),(5,.arr (.int .u8) 5),(6,.arr (.int .i64) 3)]
abbrev LC:List (Nat×LO):=[(0,.cells [.int .i64,.fz (.int .i64),.fz ae,.fz (.int .i64),.fz (.int .i64),.fz (.int .i64),.fz ab,.fz ae,.hd 1 (.int .i64),.hd 2 ah,.hd 3 (.int .u8),.hd 4 (.int .i64)] 224),(1,.arr (.int .i64) 3),(2,.arr ah 148),(3,.arr (.int .u8) 5),(4,.arr (.int .i64) 3),(5,.cells [.ptr 0 0] 198),(6,.cells [.fz (.int .i64)] 22)]
abbrev Zm:Lay:={ T:=[(3,.ptr 0 0),(77,.hd 2 ah),(78,.int .i64),(79,.int .i64)],h:=jo,nx:=5 }
abbrev Zn:Lay:={ T:=[(1,.ptr 0 0),(3,.ptr 1 0),(46,.int .i64),(47,.int .i64)],h:=Cc,nx:=6 }
abbrev Zo:Lay:={ T:=[(0,.ptr 0 0),(1,.agg [.bool,.int .i64,.int .i64])],h:=jo,nx:=5 }
abbrev ZI:Lay:=Zo
abbrev LQ:List (Ev.Ex×Lay):=[(.ret,{ T:=[(0,.fz (.int .i64))],h:=jo,nx:=5 })]
abbrev Xo:=TL ZI.σs->Option (Out LQ)
abbrev J0:=Kb 240 2 ZI 1 LQ
def MV(ic:Bool)(fS kG aE:Int)(aD:List Int)(aG:List (Sh.T ae))(aH aI aL:List Int)(aA:List (Sh.T ab))(aF:List (Sh.T ae))(b1:List Int)(b2:List (Sh.T ah))(b3 b4:List Int):Option (Out LQ):=
 br ic
 (
  ai (aw fS (List.length aA))<|
  ai (aw kG (List.length (gt ab aA fS).2.2.2.1))<|
  some ((gt bO (gt ab aA fS).2.2.2.1 kG).2.1,(aE,(aD,(aG,(aH,(aI,(aL,(aA,(aF,(b1,(b2,(b3,(b4,()))))))))))))))
 (
  ai (aw kG (List.length aF))<|
  some (((gt ae aF kG).2.1::((gt ae aF kG).2.2.1::[])),(aE,(aD,(aG,(aH,(aI,(aL,(aA,(aF,(b1,(b2,(b3,(b4,()))))))))))))))
def aj4  :J0:=⟨dV MV,pB Tryz.func240 37 k0 e0 1 (sS l0) fun d=>by kernel_rfl⟩
def Xp:J0:=aj4
def ZL:Xo:=Xp.F
abbrev ZF:Lay:=Zo
abbrev LL:List (Ev.Ex×Lay):=[(.ret,{ T:=[(0,.fz (.int .i64))],h:=jo,nx:=5 })]
abbrev vg:=TL ZF.σs->Option (Out LL)
abbrev sc:=Kb 148 2 ZF 1 LL
def wx(F0:Yt)(ic:Bool)(fS kG aE:Int)(aD:List Int)(aG:List (Sh.T ae))(aH aI aL:List Int)(aA:List (Sh.T ab))(aF:List (Sh.T ae))(b1:List Int)(b2:List (Sh.T ah))(b3 b4:List Int):Option (Out LL):=
 br ic
 (
  ai (aw fS (List.length aA))<|
  ar (F0 (((gt ab aA fS).1,((gt ab aA fS).2.1,((gt ab aA fS).2.2.1,((gt ab aA fS).2.2.2.1,((gt ab aA fS).2.2.2.2.1,()))))),(kG,()))) fun x0=>
  some (x0.1,(aE,(aD,(aG,(aH,(aI,(aL,(aA,(aF,(b1,(b2,(b3,(b4,()))))))))))))))
 (
  ai (aw kG (List.length aF))<|
  some (((gt ae aF kG).1::[]),(aE,(aD,(aG,(aH,(aI,(aL,(aA,(aF,(b1,(b2,(b3,(b4,()))))))))))))))
def akj(c0:KS) :sc:=⟨dV (wx c0.F),pB Tryz.func148 30 (kD c0 k0) e0 1 (sS l0) fun d=>by kernel_rfl⟩
def vh:sc:=akj Yu
def v7:vg:=vh.F
abbrev ZH:Lay:={ T:=[(0,.int .u8),(1,.ptr 0 0),(2,.ptr 1 0)],h:=Cd,nx:=7 }
abbrev LM:List (Ev.Ex×Lay):=[(.ret,{ T:=[],h:=Cd,nx:=7 })]
abbrev Wz:=TL ZH.σs->Option (Out LM)
abbrev Jr:=Kb 256 3 ZH 0 LM
abbrev LW:Lay:={ T:=[(0,.int .u8),(2,.ptr 1 0),(6,.fz (.int .i64)),(7,.int .i64),(8,.int .i64)],h:=Cd,nx:=7 }
abbrev LU:List (Ev.Ex×Lay):=[((.exit 0),{ T:=[],h:=Cd,nx:=7 })]
abbrev Wn:=TL LW.σs->Option (Out LU)
abbrev Wo:=Ld 7 20 (bu [0] (aW Tryz.f256)) LW LU
def CW(t0:Int)(t6:List Int)(t7 t8:Int)(aE:List Int)(bR:Int)(bU:List Int)(bV:List (Sh.T ae))(bW bX bZ:List Int)(ca:List (Sh.T ab))(cd:List (Sh.T ae))(b3:List Int)(b4:List (Sh.T ah))(b5 b6:List Int):Option (TL LW.σs⊕Out LU):=
 br (iL t8 t7)
 (
  ai (aw t8 (List.length t6))<|
  ai (aw (gt (.int .i64) t6 t8) (List.length b5))<|
  some (.inl (t0,(t6,(t7,((IntKind.wrap .i64 (t8+(1:Int))),(aE,(bR,(bU,(bV,(bW,(bX,(bZ,(ca,(cd,(b3,(b4,((List.set b5 (Int.toNat (gt (.int .i64) t6 t8)) t0),(b6,())))))))))))))))))))
 (
  some (.inr (aE,(bR,(bU,(bV,(bW,(bX,(bZ,(ca,(cd,(b3,(b4,(b5,(b6,())))))))))))))))
def ajh  :Wo:=bB (mH CW) (pL k0 e0 1 l0 fun d=>by kernel_rfl)
def Mn:Wn:=aR (mH CW) NN
def MC(L1:Wn)(t0:Int)(aE:List Int)(bR:Int)(bU:List Int)(bV:List (Sh.T ae))(bW bX bZ:List Int)(ca:List (Sh.T ab))(cd:List (Sh.T ae))(b3:List Int)(b4:List (Sh.T ah))(b5 b6:List Int):Option (Out LM):=
 ar (L1 (t0,(aE,((Int.ofNat (List.length aE)),((0:Int),(aE,(bR,(bU,(bV,(bW,(bX,(bZ,(ca,(cd,(b3,(b4,(b5,(b6,())))))))))))))))))) fun x0=>
 some x0
def ajs(M1:Wo):Jr:=⟨fX (MC M1.L),pB Tryz.func256 20 k0 e0 1 (sS (sC M1 l0)) fun d=>by kernel_rfl⟩
def WA:Jr:=ajs  ajh
def ZJ:Wz:=WA.F
abbrev LK:Lay:={ T:=[(0,.ptr 0 0),(1,.int .i64)],h:=jo,nx:=5 }
abbrev Cj:List (Ev.Ex×Lay):=[(.ret,{ T:=[(0,.bool)],h:=jo,nx:=5 })]
abbrev oS:=TL LK.σs->Option (Out Cj)
abbrev nT:=Kb 226 2 LK 1 Cj
abbrev L0:Lay:={ T:=[(2,.ptr 5 0),(7,.func 256 [] [.ptr 6 0,.ptr 5 0]),(8,.int .i64),(86,.fz (.int .i64)),(87,.int .i64),(88,.int .i64)],h:=LC,nx:=7 }
abbrev LV:List (Ev.Ex×Lay):=[((.exit 3),{ T:=[(7,.func 256 [] [.ptr 5 0,.ptr 6 0])],h:=[(0,.cells [.int .i64,.fz (.int .i64),.fz ae,.fz (.int .i64),.fz (.int .i64),.fz (.int .i64),.fz ab,.fz ae,.hd 1 (.int .i64),.hd 2 ah,.hd 3 (.int .u8),.hd 4 (.int .i64)] 224),(1,.arr (.int .i64) 3),(2,.arr ah 148),(3,.arr (.int .u8) 5),(4,.arr (.int .i64) 3),(5,.cells [.fz (.int .i64)] 22),(6,.cells [.ptr 0 0] 198)],nx:=7 })]
abbrev Wx:=TL L0.σs->Option (Out LV)
abbrev Jp:=Ld 5 103 (bu [1] (aW Tryz.f226)) L0 LV
abbrev CI:Lay:={ T:=[(2,.ptr 5 0),(6,.ptr 6 0),(7,.func 256 [] [.ptr 6 0,.ptr 5 0]),(8,.int .i64),(64,.fz (.int .i64)),(65,.int .i64),(66,.int .i64)],h:=LC,nx:=7 }
abbrev CB:List (Ev.Ex×Lay):=[(.ret,{ T:=[(4,.bool)],h:=jo,nx:=5 }),((.exit 1),{ T:=[(2,.ptr 5 0),(6,.ptr 6 0),(7,.func 256 [] [.ptr 6 0,.ptr 5 0]),(8,.int .i64)],h:=LC,nx:=7 })]
abbrev Wy:=TL CI.σs->Option (Out CB)
abbrev Jq:=Ld 5 103 (bu [0] (aW Tryz.f226)) CI CB
def Nb(F0:BJ)(F1:oS)(t8:Int)(t64:List Int)(t65 t66 aE:Int)(aD:List Int)(aG:List (Sh.T ae))(aH aI aL:List Int)(aA:List (Sh.T ab))(aF:List (Sh.T ae))(b1:List Int)(b2:List (Sh.T ah))(b3 b4 oW:List Int):Option (TL CI.σs⊕Out CB):=
 br (iL t66 t65)
 (
  ai (aw t66 (List.length t64))<|
  ar (F0 ((gt (.int .i64) t64 t66),())) fun x0=>
  ar (F1 (x0.1,(aE,(aD,(aG,(aH,(aI,(aL,(aA,(aF,(b1,(b2,(b3,(b4,())))))))))))))) fun x1=>
  br (Bool.not x1.1)
  (
   some (.inr (.inl (false,x1.2))))
  (
   ai (aw x0.1 (List.length x1.2.2.2.2.2.2.2.2.2.2.2.2.1))<|
   some (.inl ((cQ (iL t8 (gt (.int .i64) x1.2.2.2.2.2.2.2.2.2.2.2.2.1 x0.1)) (gt (.int .i64) x1.2.2.2.2.2.2.2.2.2.2.2.2.1 x0.1) t8),(t64,(t65,((IntKind.wrap .i64 (t66+(1:Int))),(x1.2.1,(x1.2.2.1,(x1.2.2.2.1,(x1.2.2.2.2.1,(x1.2.2.2.2.2.1,(x1.2.2.2.2.2.2.1,(x1.2.2.2.2.2.2.2.1,(x1.2.2.2.2.2.2.2.2.1,(x1.2.2.2.2.2.2.2.2.2.1,(x1.2.2.2.2.2.2.2.2.2.2.1,(x1.2.2.2.2.2.2.2.2.2.2.2.1,(x1.2.2.2.2.2.2.2.2.2.2.2.2.1,(oW,()))))))))))))))))))))
 (
  some (.inr (.inr (t8,(aE,(aD,(aG,(aH,(aI,(aL,(aA,(aF,(b1,(b2,(b3,(b4,(oW,())))))))))))))))))
def ajr(c0:vz)(c1:nT) :Jq:=bB (mH (Nb c0.F c1.F)) (pL (kD c0 (kB c1 k0)) e0 1 l0 fun d=>by kernel_rfl)
def ajp(s:nT):Jq:=ajr BK s
def Mq(F:oS):Wy:=aR (fun d=>Nb wt F  d.1 d.2.1 d.2.2.1 d.2.2.2.1 d.2.2.2.2.1 d.2.2.2.2.2.1 d.2.2.2.2.2.2.1 d.2.2.2.2.2.2.2.1 d.2.2.2.2.2.2.2.2.1 d.2.2.2.2.2.2.2.2.2.1 d.2.2.2.2.2.2.2.2.2.2.1 d.2.2.2.2.2.2.2.2.2.2.2.1 d.2.2.2.2.2.2.2.2.2.2.2.2.1 d.2.2.2.2.2.2.2.2.2.2.2.2.2.1 d.2.2.2.2.2.2.2.2.2.2.2.2.2.2.1 d.2.2.2.2.2.2.2.2.2.2.2.2.2.2.2.1 d.2.2.2.2.2.2.2.2.2.2.2.2.2.2.2.2.1) NN
def C3(t8:Int)(t86:List Int)(t87 t88 aE:Int)(aD:List Int)(aG:List (Sh.T ae))(aH aI aL:List Int)(aA:List (Sh.T ab))(aF:List (Sh.T ae))(b1:List Int)(b2:List (Sh.T ah))(b3 b4 oW:List Int):Option (TL L0.σs⊕Out LV):=
 br (iL t88 t87)
 (
  ai (aw t88 (List.length t86))<|
  ai (aw (gt (.int .i64) t86 t88) (List.length b4))<|
  some (.inl (t8,(t86,(t87,((IntKind.wrap .i64 (t88+(1:Int))),(aE,(aD,(aG,(aH,(aI,(aL,(aA,(aF,(b1,(b2,(b3,((List.set b4 (Int.toNat (gt (.int .i64) t86 t88)) (IntKind.wrap .i64 (t8+(1:Int)))),(oW,())))))))))))))))))))
 (
  some (.inr (aE,(aD,(aG,(aH,(aI,(aL,(aA,(aF,(b1,(b2,(b3,(b4,(oW,())))))))))))))))
def ajq  :Jp:=bB (mH C3) (pL k0 e0 1 l0 fun d=>by kernel_rfl)
def ajo(s:nT):Jp:=ajq
def Mp(F:oS):Wx:=aR (fun d=>C3   d.1 d.2.1 d.2.2.1 d.2.2.2.1 d.2.2.2.2.1 d.2.2.2.2.2.1 d.2.2.2.2.2.2.1 d.2.2.2.2.2.2.2.1 d.2.2.2.2.2.2.2.2.1 d.2.2.2.2.2.2.2.2.2.1 d.2.2.2.2.2.2.2.2.2.2.1 d.2.2.2.2.2.2.2.2.2.2.2.1 d.2.2.2.2.2.2.2.2.2.2.2.2.1 d.2.2.2.2.2.2.2.2.2.2.2.2.2.1 d.2.2.2.2.2.2.2.2.2.2.2.2.2.2.1 d.2.2.2.2.2.2.2.2.2.2.2.2.2.2.2.1 d.2.2.2.2.2.2.2.2.2.2.2.2.2.2.2.2.1) NN
def MS(F0:BJ)(F1:oS)(F2:Xo)(F3:Wz)(F4:vg)(L11:Wy)(L19:Wx)(t1 aE:Int)(aD:List Int)(aG:List (Sh.T ae))(aH aI aL:List Int)(aA:List (Sh.T ab))(aF:List (Sh.T ae))(b1:List Int)(b2:List (Sh.T ah))(b3 b4:List Int):Option (Out Cj):=
 ai (aw t1 (List.length b1))<|
 br (iQ (gt (.int .i64) b1 t1) (0:Int))
 (
  some (true,(aE,(aD,(aG,(aH,(aI,(aL,(aA,(aF,(b1,(b2,(b3,(b4,()))))))))))))))
 (
  ai (aw t1 (List.length b3))<|
  br (aQ false true (iQ (gt (.int .u8) b3 t1) (2:Int)))
  (
   some (true,(aE,(aD,(aG,(aH,(aI,(aL,(aA,(aF,(b1,(b2,(b3,(b4,()))))))))))))))
  (
   ai (aw t1 (List.length b3))<|
   br (iQ (gt (.int .u8) b3 t1) (1:Int))
   (
    some (false,(aE,(aD,(aG,(aH,(aI,(aL,(aA,(aF,(b1,(b2,(b3,(b4,()))))))))))))))
   (
    ai (aw t1 (List.length b1))<|
    ai (aw (IntKind.wrap .i64 (@HSub.hSub (Int) (Int) (Int) _ (gt (.int .i64) b1 t1) (1:Int))) (List.length b2))<|
    ar (F4 ((gt ah b2 (IntKind.wrap .i64 (@HSub.hSub (Int) (Int) (Int) _ (gt (.int .i64) b1 t1) (1:Int)))).1,((gt ah b2 (IntKind.wrap .i64 (@HSub.hSub (Int) (Int) (Int) _ (gt (.int .i64) b1 t1) (1:Int)))).2.1,((gt ah b2 (IntKind.wrap .i64 (@HSub.hSub (Int) (Int) (Int) _ (gt (.int .i64) b1 t1) (1:Int)))).2.2.1,(aE,(aD,(aG,(aH,(aI,(aL,(aA,(aF,(b1,(b2,(b3,(b4,())))))))))))))))) fun x0=>
    ar (F3 ((1:Int),x0)) fun x1=>
    ar (F2 ((gt ah b2 (IntKind.wrap .i64 (@HSub.hSub (Int) (Int) (Int) _ (gt (.int .i64) b1 t1) (1:Int)))).1,((gt ah b2 (IntKind.wrap .i64 (@HSub.hSub (Int) (Int) (Int) _ (gt (.int .i64) b1 t1) (1:Int)))).2.1,((gt ah b2 (IntKind.wrap .i64 (@HSub.hSub (Int) (Int) (Int) _ (gt (.int .i64) b1 t1) (1:Int)))).2.2.1,x1.2)))) fun x2=>
    ar (L11 ((0:Int),(x2.1,((Int.ofNat (List.length x2.1)),((0:Int),(x2.2.1,(x2.2.2.1,(x2.2.2.2.1,(x2.2.2.2.2.1,(x2.2.2.2.2.2.1,(x2.2.2.2.2.2.2.1,(x2.2.2.2.2.2.2.2.1,(x2.2.2.2.2.2.2.2.2.1,(x2.2.2.2.2.2.2.2.2.2.1,(x2.2.2.2.2.2.2.2.2.2.2.1,(x2.2.2.2.2.2.2.2.2.2.2.2.1,(x2.2.2.2.2.2.2.2.2.2.2.2.2.1,(x1.1,())))))))))))))))))) fun x3=>
    (match x3 with
    |.inl x4=>some x4|.inr x4=>
     ar (L19 (x4.1,(x4.2.2.2.2.2.2.2.2.2.2.2.2.2.1,((Int.ofNat (List.length x4.2.2.2.2.2.2.2.2.2.2.2.2.2.1)),((0:Int),x4.2))))) fun x5=>
     ar (F3 ((2:Int),(x5.2.2.2.2.2.2.2.2.2.2.2.2.1,(x5.1,(x5.2.1,(x5.2.2.1,(x5.2.2.2.1,(x5.2.2.2.2.1,(x5.2.2.2.2.2.1,(x5.2.2.2.2.2.2.1,(x5.2.2.2.2.2.2.2.1,(x5.2.2.2.2.2.2.2.2.1,(x5.2.2.2.2.2.2.2.2.2.1,(x5.2.2.2.2.2.2.2.2.2.2.1,(x5.2.2.2.2.2.2.2.2.2.2.2.1,()))))))))))))))) fun x6=>
     some (true,x6.2)
    ))))
def ajT(c0:vz)(c1:nT)(c2:J0)(c3:Jr)(c4:sc)(M11:Jq)(M19:Jp):nT:=⟨nF (MS c0.F c1.F c2.F c3.F c4.F M11.L M19.L),pB Tryz.func226 103 (kD c0 (kB c1 (kB c2 (kB c3 (kB c4 k0))))) e0 1 (sS (sC M11 (sC M19 l0))) fun d=>by kernel_rfl⟩
def ve:Nat->nT
 |0=>mk0 Tryz.func226 (by kernel_rfl) (by kernel_rfl)|k+1=>ajT BK (ve k) Xp WA vh (ajp (ve k)) (ajo (ve k))
def sX(k:Nat):oS:=(ve k).F
def JP:nT:=ve NN
def Mi:oS:=JP.F
abbrev ZO:Lay:={ T:=[(0,.ptr 0 0)],h:=jo,nx:=5 }
abbrev Mj:List (Ev.Ex×Lay):=[(.ret,{ T:=[(0,.bool)],h:=jo,nx:=5 })]
abbrev Xr:=TL ZO.σs->Option (Out Mj)
abbrev J4:=Kb 195 1 ZO 1 Mj
abbrev Ml:Lay:={ T:=[(3,.func 226 [.ptr 0 0] []),(11,.int .i64),(12,.int .i64)],h:=jo,nx:=5 }
abbrev CR:List (Ev.Ex×Lay):=[(.ret,{ T:=[(2,.bool)],h:=jo,nx:=5 }),((.exit 0),{ T:=[],h:=jo,nx:=5 })]
abbrev Xq:=TL Ml.σs->Option (Out CR)
abbrev J1:=Ld 5 20 (bu [0] (aW Tryz.f195)) Ml CR
def Nh(F0:oS)(t11 t12 aE:Int)(aD:List Int)(aG:List (Sh.T ae))(aH aI aL:List Int)(aA:List (Sh.T ab))(aF:List (Sh.T ae))(b1:List Int)(b2:List (Sh.T ah))(b3 b4:List Int):Option (TL Ml.σs⊕Out CR):=
 br (iL t12 t11)
 (
  ar (F0 (t12,(aE,(aD,(aG,(aH,(aI,(aL,(aA,(aF,(b1,(b2,(b3,(b4,())))))))))))))) fun x0=>
  br (Bool.not x0.1)
  (
   some (.inr (.inl (false,x0.2))))
  (
   some (.inl (t11,((IntKind.wrap .i64 (t12+(1:Int))),x0.2)))))
 (
  some (.inr (.inr (aE,(aD,(aG,(aH,(aI,(aL,(aA,(aF,(b1,(b2,(b3,(b4,())))))))))))))))
def aj6(c0:nT) :J1:=bB (fX (Nh c0.F)) (pL (kB c0 k0) e0 1 l0 fun d=>by kernel_rfl)
def aj5:J1:=aj6 JP
def Zhi:Xq:=aR (fX (Nh Mi)) NN
def Zm5(F0:oS)(L3:Xq)(aE:Int)(aD:List Int)(aG:List (Sh.T ae))(aH aI aL:List Int)(aA:List (Sh.T ab))(aF:List (Sh.T ae))(b1:List Int)(b2:List (Sh.T ah))(b3 b4:List Int):Option (Out Mj):=
 ar (L3 ((Int.ofNat (List.length b1)),((0:Int),(aE,(aD,(aG,(aH,(aI,(aL,(aA,(aF,(b1,(b2,(b3,(b4,()))))))))))))))) fun x0=>
 (match x0 with|.inl x1=>some x1|.inr x1=>some (true,x1)
 )
def aka(c0:nT)(M3:J1):J4:=⟨jY (Zm5 c0.F M3.L),pB Tryz.func195 20 (kB c0 k0) e0 1 (sS (sC M3 l0)) fun d=>by kernel_rfl⟩
def Xs:J4:=aka JP aj5
def Zhj:Xr:=Xs.F
abbrev Zjf:Lay:={ T:=[(0,.agg fq)],h:=[],nx:=0 }
abbrev MW:List (Ev.Ex×Lay):=[(.ret,{ T:=[(0,.ptr 0 0)],h:=jo,nx:=5 })]
abbrev Ye:=TL Zjf.σs->Option (Out MW)
abbrev KJ:=Kb 194 1 Zjf 1 MW
abbrev MO:Lay:=Zm
abbrev MD:List (Ev.Ex×Lay):=[((.exit 6),{ T:=[(3,.ptr 0 0)],h:=jo,nx:=5 })]
abbrev XN:=TL MO.σs->Option (Out MD)
abbrev Kr:=Ld 0 103 (bu [2] (aW Tryz.f194)) MO MD
abbrev Mx:Lay:={ T:=[(3,.ptr 0 0),(7,.int .i64),(77,.hd 2 ah),(78,.int .i64),(79,.int .i64),(86,.fz (.int .i64)),(87,.int .i64),(88,.int .i64)],h:=jo,nx:=5 }
abbrev Mr:List (Ev.Ex×Lay):=[((.exit 8),Zm)]
abbrev Ko:=TL Mx.σs->Option (Out Mr)
abbrev Kq:=Ld 0 103 (bu [2,0] (aW Tryz.f194)) Mx Mr
abbrev MX:Lay:=Zn
abbrev MM:List (Ev.Ex×Lay):=[((.exit 2),{ T:=[(3,.ptr 0 0)],h:=jo,nx:=5 })]
abbrev XY:=TL MX.σs->Option (Out MM)
abbrev KE:=Ld 0 103 (bu [1] (aW Tryz.f194)) MX MM
abbrev My:Lay:={ T:=[(1,.ptr 0 0),(3,.ptr 1 0),(5,.int .i64),(46,.int .i64),(47,.int .i64),(56,.int .i64),(57,.int .i64)],h:=Cc,nx:=6 }
abbrev Mt:List (Ev.Ex×Lay):=[((.exit 4),Zn)]
abbrev Kp:=TL My.σs->Option (Out Mt)
abbrev Ks:=Ld 0 103 (bu [1,0] (aW Tryz.f194)) My Mt
abbrev MY:Lay:={ T:=[(1,.ptr 0 0),(3,.ptr 1 0),(28,.int .i64),(29,.int .i64)],h:=Cc,nx:=6 }
abbrev MN:List (Ev.Ex×Lay):=[((.exit 0),{ T:=[(1,.ptr 0 0),(3,.ptr 1 0)],h:=Cc,nx:=6 })]
abbrev XZ:=TL MY.σs->Option (Out MN)
abbrev X0:=Ld 0 103 (bu [0] (aW Tryz.f194)) MY MN
def Du(t28 t29 aE:Int)(aD:List Int)(aG:List (Sh.T ae))(aH aI aL:List Int)(aA:List (Sh.T ab))(aF:List (Sh.T ae))(cG:Int)(cN:List Int)(fO:List (Sh.T ae))(eW ia mT:List Int)(mU:List (Sh.T ab))(mV:List (Sh.T ae))(b2:List Int)(b3:List (Sh.T ah))(b4 b5:List Int):Option (TL MY.σs⊕Out MN):=
 br (iL t29 t28)
 (
  ai (room 24 (List.length (ap b3 ((false,((0:Int),(t29,())))::[]))))<|
  some (.inl (t28,((IntKind.wrap .i64 (t29+(1:Int))),(aE,(aD,(aG,(aH,(aI,(aL,(aA,(aF,(cG,(cN,(fO,(eW,(ia,(mT,(mU,(mV,(b2,((ap b3 ((false,((0:Int),(t29,())))::[])),(b4,(b5,()))))))))))))))))))))))))
 (
  some (.inr (aE,(aD,(aG,(aH,(aI,(aL,(aA,(aF,(cG,(cN,(fO,(eW,(ia,(mT,(mU,(mV,(b2,(b3,(b4,(b5,()))))))))))))))))))))))
def akH  :X0:=bB (qW Du) (pL k0 e0 1 l0 fun d=>by kernel_rfl)
def Dm:XZ:=aR (qW Du) NN
def Ds(t5 t46 t47 t56 t57 aE:Int)(aD:List Int)(aG:List (Sh.T ae))(aH aI aL:List Int)(aA:List (Sh.T ab))(aF:List (Sh.T ae))(cG:Int)(cN:List Int)(fO:List (Sh.T ae))(eW ia mT:List Int)(mU:List (Sh.T ab))(mV:List (Sh.T ae))(b2:List Int)(b3:List (Sh.T ah))(b4 b5:List Int):Option (TL My.σs⊕Out Mt):=
 br (iL t57 t56)
 (
  ai (room 24 (List.length (ap b3 ((true,(t5,(t57,())))::[]))))<|
  some (.inl (t5,(t46,(t47,(t56,((IntKind.wrap .i64 (t57+(1:Int))),(aE,(aD,(aG,(aH,(aI,(aL,(aA,(aF,(cG,(cN,(fO,(eW,(ia,(mT,(mU,(mV,(b2,((ap b3 ((true,(t5,(t57,())))::[])),(b4,(b5,())))))))))))))))))))))))))))
 (
  some (.inr (t46,(t47,(aE,(aD,(aG,(aH,(aI,(aL,(aA,(aF,(cG,(cN,(fO,(eW,(ia,(mT,(mU,(mV,(b2,(b3,(b4,(b5,()))))))))))))))))))))))))
def XP  :Ks:=bB (fun d=>Ds   d.1 d.2.1 d.2.2.1 d.2.2.2.1 d.2.2.2.2.1 d.2.2.2.2.2.1 d.2.2.2.2.2.2.1 d.2.2.2.2.2.2.2.1 d.2.2.2.2.2.2.2.2.1 d.2.2.2.2.2.2.2.2.2.1 d.2.2.2.2.2.2.2.2.2.2.1 d.2.2.2.2.2.2.2.2.2.2.2.1 d.2.2.2.2.2.2.2.2.2.2.2.2.1 d.2.2.2.2.2.2.2.2.2.2.2.2.2.1 d.2.2.2.2.2.2.2.2.2.2.2.2.2.2.1 d.2.2.2.2.2.2.2.2.2.2.2.2.2.2.2.1 d.2.2.2.2.2.2.2.2.2.2.2.2.2.2.2.2.1 d.2.2.2.2.2.2.2.2.2.2.2.2.2.2.2.2.2.1 d.2.2.2.2.2.2.2.2.2.2.2.2.2.2.2.2.2.2.1 d.2.2.2.2.2.2.2.2.2.2.2.2.2.2.2.2.2.2.2.1 d.2.2.2.2.2.2.2.2.2.2.2.2.2.2.2.2.2.2.2.2.1 d.2.2.2.2.2.2.2.2.2.2.2.2.2.2.2.2.2.2.2.2.2.1 d.2.2.2.2.2.2.2.2.2.2.2.2.2.2.2.2.2.2.2.2.2.2.1 d.2.2.2.2.2.2.2.2.2.2.2.2.2.2.2.2.2.2.2.2.2.2.2.1 d.2.2.2.2.2.2.2.2.2.2.2.2.2.2.2.2.2.2.2.2.2.2.2.2.1) (pL k0 e0 1 l0 fun d=>by kernel_rfl)
def De:Kp:=aR (fun d=>Ds   d.1 d.2.1 d.2.2.1 d.2.2.2.1 d.2.2.2.2.1 d.2.2.2.2.2.1 d.2.2.2.2.2.2.1 d.2.2.2.2.2.2.2.1 d.2.2.2.2.2.2.2.2.1 d.2.2.2.2.2.2.2.2.2.1 d.2.2.2.2.2.2.2.2.2.2.1 d.2.2.2.2.2.2.2.2.2.2.2.1 d.2.2.2.2.2.2.2.2.2.2.2.2.1 d.2.2.2.2.2.2.2.2.2.2.2.2.2.1 d.2.2.2.2.2.2.2.2.2.2.2.2.2.2.1 d.2.2.2.2.2.2.2.2.2.2.2.2.2.2.2.1 d.2.2.2.2.2.2.2.2.2.2.2.2.2.2.2.2.1 d.2.2.2.2.2.2.2.2.2.2.2.2.2.2.2.2.2.1 d.2.2.2.2.2.2.2.2.2.2.2.2.2.2.2.2.2.2.1 d.2.2.2.2.2.2.2.2.2.2.2.2.2.2.2.2.2.2.2.1 d.2.2.2.2.2.2.2.2.2.2.2.2.2.2.2.2.2.2.2.2.1 d.2.2.2.2.2.2.2.2.2.2.2.2.2.2.2.2.2.2.2.2.2.1 d.2.2.2.2.2.2.2.2.2.2.2.2.2.2.2.2.2.2.2.2.2.2.1 d.2.2.2.2.2.2.2.2.2.2.2.2.2.2.2.2.2.2.2.2.2.2.2.1 d.2.2.2.2.2.2.2.2.2.2.2.2.2.2.2.2.2.2.2.2.2.2.2.2.1) NN
def Dt(L11:Kp)(t46 t47 aE:Int)(aD:List Int)(aG:List (Sh.T ae))(aH aI aL:List Int)(aA:List (Sh.T ab))(aF:List (Sh.T ae))(cG:Int)(cN:List Int)(fO:List (Sh.T ae))(eW ia mT:List Int)(mU:List (Sh.T ab))(mV:List (Sh.T ae))(b2:List Int)(b3:List (Sh.T ah))(b4 b5:List Int):Option (TL MX.σs⊕Out MM):=
 br (iL t47 t46)
 (
  ai (aw t47 (List.length aA))<|
  ar (L11 (t47,(t46,(t47,((Int.ofNat (List.length (gt ab aA t47).2.2.2.1)),((0:Int),(aE,(aD,(aG,(aH,(aI,(aL,(aA,(aF,(cG,(cN,(fO,(eW,(ia,(mT,(mU,(mV,(b2,(b3,(b4,(b5,())))))))))))))))))))))))))) fun x0=>
  some (.inl (x0.1,((IntKind.wrap .i64 (@HAdd.hAdd (Int) (Int) (Int) _ x0.2.1 (1:Int))),x0.2.2))))
 (
  some (.inr (cG,(cN,(fO,(eW,(ia,(mT,(mU,(mV,(b2,(b3,(b4,(b5,()))))))))))))))
def akI(M11:Ks):KE:=bB (qW (Dt M11.L)) (pL k0 e0 1 (sC M11 l0) fun d=>by kernel_rfl)
def akG:KE:=akI  XP
def Dl:XY:=aR (qW (Dt De)) NN
def Dq(t7 t78 t79:Int)(t86:List Int)(t87 t88 aE:Int)(aD:List Int)(aG:List (Sh.T ae))(aH aI aL:List Int)(aA:List (Sh.T ab))(aF:List (Sh.T ae))(b1:List Int)(b2:List (Sh.T ah))(b3 b4:List Int):Option (TL Mx.σs⊕Out Mr):=
 br (iL t88 t87)
 (
  ai (aw t88 (List.length t86))<|
  ai (aw (gt (.int .i64) t86 t88) (List.length b1))<|
  some (.inl (t7,(t78,(t79,(t86,(t87,((IntKind.wrap .i64 (t88+(1:Int))),(aE,(aD,(aG,(aH,(aI,(aL,(aA,(aF,((List.set b1 (Int.toNat (gt (.int .i64) t86 t88)) (IntKind.wrap .i64 (t7+(1:Int)))),(b2,(b3,(b4,()))))))))))))))))))))
 (
  some (.inr (t78,(t79,(aE,(aD,(aG,(aH,(aI,(aL,(aA,(aF,(b1,(b2,(b3,(b4,()))))))))))))))))
def XO  :Kq:=bB (D9 Dq) (pL k0 e0 1 l0 fun d=>by kernel_rfl)
def Dd:Ko:=aR (D9 Dq) NN
def Dr(F0:vg)(L20:Ko)(t78 t79 aE:Int)(aD:List Int)(aG:List (Sh.T ae))(aH aI aL:List Int)(aA:List (Sh.T ab))(aF:List (Sh.T ae))(b1:List Int)(b2:List (Sh.T ah))(b3 b4:List Int):Option (TL MO.σs⊕Out MD):=
 br (iL t79 t78)
 (
  ai (aw t79 (List.length b2))<|
  ar (F0 ((gt ah b2 t79).1,((gt ah b2 t79).2.1,((gt ah b2 t79).2.2.1,(aE,(aD,(aG,(aH,(aI,(aL,(aA,(aF,(b1,(b2,(b3,(b4,())))))))))))))))) fun x0=>
  ar (L20 (t79,(t78,(t79,(x0.1,((Int.ofNat (List.length x0.1)),((0:Int),x0.2))))))) fun x1=>
  some (.inl (x1.1,((IntKind.wrap .i64 (@HAdd.hAdd (Int) (Int) (Int) _ x1.2.1 (1:Int))),x1.2.2))))
 (
  some (.inr (aE,(aD,(aG,(aH,(aI,(aL,(aA,(aF,(b1,(b2,(b3,(b4,()))))))))))))))
def akx(c0:sc)(M20:Kq):Kr:=bB (fX (Dr c0.F M20.L)) (pL (kB c0 k0) e0 1 (sC M20 l0) fun d=>by kernel_rfl)
def akw:Kr:=akx vh XO
def Dk:XN:=aR (fX (Dr v7 Dd)) NN
def NA(F0:vg)(L3:XZ)(L8:XY)(L11:Kp)(L17:XN)(L20:Ko)(dr:Int)(fR:List Int)(fx:List (Sh.T ae))(gC gD gF:List Int)(dU:List (Sh.T ab))(gm:List (Sh.T ae)):Option (Out MW):=
 ai (both (iE (0:Int) (IntKind.wrap .i64 (dr+(1:Int)))) (both (iE (IntKind.wrap .i64 (dr+(1:Int))) (IntKind.wrap .i64 (dr+(1:Int)))) (iE ((Int.ofNat 8)*(IntKind.wrap .i64 (dr+(1:Int)))) (281474976710656:Int))))<|
 ai (both (iE (0:Int) (IntKind.wrap .i64 (dr+(1:Int)))) (both (iE (IntKind.wrap .i64 (dr+(1:Int))) (IntKind.wrap .i64 (dr+(1:Int)))) (iE ((Int.ofNat 1)*(IntKind.wrap .i64 (dr+(1:Int)))) (281474976710656:Int))))<|
 ai (both (iE (0:Int) (IntKind.wrap .i64 (dr+(1:Int)))) (both (iE (IntKind.wrap .i64 (dr+(1:Int))) (IntKind.wrap .i64 (dr+(1:Int)))) (iE ((Int.ofNat 8)*(IntKind.wrap .i64 (dr+(1:Int)))) (281474976710656:Int))))<|
 ar (L3 ((Int.ofNat (List.length gm)),((0:Int),(dr,(fR,(fx,(gC,(gD,(gF,(dU,(gm,(dr,(fR,(fx,(gC,(gD,(gF,(dU,(gm,((List.replicate (Int.toNat (IntKind.wrap .i64 (dr+(1:Int)))) (Sh.zero (.int .i64))),([],((List.replicate (Int.toNat (IntKind.wrap .i64 (dr+(1:Int)))) (Sh.zero (.int .u8))),((List.replicate (Int.toNat (IntKind.wrap .i64 (dr+(1:Int)))) (Sh.zero (.int .i64))),()))))))))))))))))))))))) fun x0=>
 ar (L8 ((Int.ofNat (List.length x0.2.2.2.2.2.2.1)),((0:Int),x0))) fun x1=>
 ar (L17 ((Int.ofNat (List.length x1.2.2.2.2.2.2.2.2.2.1)),((0:Int),x1))) fun x2=>
 some x2
def akU(c0:sc)(M3:X0)(M8:KE)(M11:Ks)(M17:Kr)(M20:Kq):KJ:=⟨u8 (NA c0.F M3.L M8.L M11.L M17.L M20.L),pB Tryz.func194 103 (kB c0 k0) e0 1 (sS (sC M3 (sC M8 (sC M17 l0)))) fun d=>by kernel_rfl⟩
def Yf:KJ:=akU vh akH akG XP akw XO
def Zo9:Ye:=Yf.F
abbrev Zjg:Lay:={ T:=[(0,.agg fq)],h:=[],nx:=0 }
abbrev MZ:List (Ev.Ex×Lay):=[(.ret,{ T:=[(0,.dk),(1,.int .i64)],h:=[],nx:=0 }),(.ret,{ T:=[(0,.ptr 0 0),(1,.int .i64)],h:=jo,nx:=5 })]
abbrev KK:=TL Zjg.σs->Option (Out MZ)
abbrev BI:=Kb 128 1 Zjg 2 MZ
def Zw8(F0:akX)(F1:Xr)(F2:Ye)(dr:Int)(fR:List Int)(fx:List (Sh.T ae))(gC gD gF:List Int)(dU:List (Sh.T ab))(gm:List (Sh.T ae)):Option (Out MZ):=
 ar (F0 ((dr,(fR,(fx,(gC,(gD,(gF,(dU,(gm,())))))))),())) fun x0=>
 br (Bool.not (iQ x0.1 (0:Int)))
 (
  some (.inl (x0.1,())))
 (
  ar (F2 (dr,(fR,(fx,(gC,(gD,(gF,(dU,(gm,()))))))))) fun x1=>
  ar (F1 x1) fun x2=>
  br (Bool.not x2.1)
  (
   some (.inl ((8:Int),())))
  (
   some (.inr ((0:Int),x2.2))))
def akV(c0:Yi)(c1:J4)(c2:KJ) :BI:=⟨u8 (Zw8 c0.F c1.F c2.F),pB Tryz.func128 17 (kD c0 (kB c1 (kB c2 k0))) e0 1 (sS l0) fun d=>by kernel_rfl⟩
def KL:BI:=akV akY Xs Yf
def wz:KK:=KL.F
abbrev Zq5:List Sh:=[bg]
abbrev Nq:List Sh:=[(.int .i64)]
abbrev qi:=TL Zq5->Option (TL Nq)
abbrev oT:=Kd 66 Zq5 Nq
def Zul(F0:KK)(a0:Sh.T bg):Option (TL Nq):=
 ar (F0 a0) fun x0=>
 (match x0 with|.inl x1=>some (x1.1,())|.inr x1=>some (x1.1,())
 )
def akL(c0:BI) :oT:=⟨u1 (Zul c0.F),pD Tryz.func66 11 (kB c0 k0) e0 1 (sS l0) fun d=>by kernel_rfl⟩
def qj:oT:=akL KL
def Zfn:qi:=qj.F
