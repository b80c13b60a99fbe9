import Derived.Test.YtdcnjfbffckblaaGreatKMf
import Derived.Test.YtdcnjfbffckblaaGreatKNb
set_option linter.unusedVariables false
set_option linter.unusedSimpArgs false
set_option linter.unnecessarySimpa false
section
namespace Go.Proofs.YtdcnjfbffckblaaGreat.V
open Go Go.RowKit Go.Proofs.YtdcnjfbffckblaaGreat.Pl
def iW(x:al.T):dI:=⟨x.1,x.2.1,x.2.2.1⟩
def jW(x:al.T):ey:=⟨x.1,x.2.1,x.2.2.1⟩
def mS(x:cV.T):iu:=⟨x.1,x.2.1⟩
def og(x:bU.T):il:=⟨x.1,x.2.1,x.2.2.1⟩
def jX(x:an.T):cr:=⟨x.1,x.2.1,x.2.2.1,x.2.2.2.1.map mS,x.2.2.2.2.1.map og⟩
def ie(x:bE.T):aG:=⟨x.1,x.2.1,x.2.2.1.map iW,x.2.2.2.1,x.2.2.2.2.1,x.2.2.2.2.2.1,x.2.2.2.2.2.2.1.map jX,x.2.2.2.2.2.2.2.1.map jW⟩
def bP(x:dI):al.T:=(x.var,(x.next,(x.init,())))
def eQ(x:ey):al.T:=(x.var,(x.a,(x.b,())))
def er(x:iu):cV.T:=(x.var,(x.addr,()))
def cQ(x:il):bU.T:=(x.on,(x.addr,(x.data,())))
def bh(x:cr):an.T:=(x.addr,(x.word,(x.any,(x.reads.map er,(x.writes.map cQ,())))))
def cP(x:aG):bE.T:=(x.vars,(x.aU,(x.af.map bP,(x.bB,(x.bC,(x.constraints,(x.aa.map bh,(x.aw.map eQ,()))))))))
theorem map_id'{α β:Type}{f:α->β}{g:β->α}(h:∀x,g (f x)=x):∀L:List α,(L.map f).map g=L
 |[]=>rfl|x::L=>by simp only[List.map_cons,h,map_id' h L]
theorem T3(a b:Int)(c:Bool)(d:List cV.T)(e:List bU.T):((a,(b,(c,((d.map mS).map er,((e.map og).map cQ,()))))):Int×Int×Bool×List cV.T×List bU.T×Unit)=(a,(b,(c,(d,(e,()))))):=by rw[map_id' (f:=mS) (g:=er) (fun x=>rfl),map_id' (f:=og) (g:=cQ) (fun x=>rfl)]
theorem Xo(x:an.T):bh (jX x)=x:=T3 x.1 x.2.1 x.2.2.1 x.2.2.2.1 x.2.2.2.2.1
theorem T8(a:Int)(b:List Int)(c:List al.T)(d e f:List Int)(g:List an.T)(h:List al.T) :
  ((a,(b,((c.map iW).map bP,(d,(e,(f,((g.map jX).map bh,((h.map jW).map eQ,())))))))):Int×List Int×List al.T×List Int×List Int×List Int×List an.T×List al.T×Unit)=(a,(b,(c,(d,(e,(f,(g,(h,())))))))):=by
 rw[map_id' (f:=iW) (g:=bP) (fun x=>rfl),map_id' (f:=jW) (g:=eQ) (fun x=>rfl),map_id' (f:=jX) (g:=bh) Xo]
theorem Gd(x:bE.T):cP (ie x)=x:=T8 x.1 x.2.1 x.2.2.1 x.2.2.2.1 x.2.2.2.2.1 x.2.2.2.2.2.1 x.2.2.2.2.2.2.1 x.2.2.2.2.2.2.2.1
theorem Xp(x:cr):jX (bh x)=x:=by obtain⟨a,b,c,d,e⟩:=x;show(⟨a,b,c,(d.map er).map mS,(e.map cQ).map og⟩:cr)=_;rw[map_id' (f:=er) (g:=mS) (fun x=>rfl),map_id' (f:=cQ) (g:=og) (fun x=>rfl)]
theorem oi(x:aG):ie (cP x)=x:=by obtain⟨a,b,c,d,e,f,g,h⟩:=x;show(⟨a,b,(c.map bP).map iW,d,e,f,(g.map bh).map jX,(h.map eQ).map jW⟩:aG)=_;rw[map_id' (f:=bP) (g:=iW) (fun x=>rfl),map_id' (f:=eQ) (g:=jW) (fun x=>rfl),map_id' (f:=bh) (g:=jX) Xp]
theorem qF{w:World}{A:Nat->Prop}{s:Sh}{L:List s.T}{V:Value}(h:Cs w A (.sl s) L [V]) :
  ∃a cap X,V=.slice a L.length cap/\bc (Cs w A s) L X/\Sl w w.heap.size s.size a L.length cap X:=by
 obtain⟨a,len,cap,e1,rfl,e3,e4⟩:=h;simp only[List.cons.injEq,and_true]at e1;subst e1;by_cases hL:L=[]
 .subst hL;exact⟨a,cap,[],rfl,rfl,⟨by simp,fun h=>absurd h (by simp)⟩,e3,Nat.zero_le _⟩
 .obtain⟨b,o,X,rfl,q2,q3,c,ty,fr,q4,q5⟩:=e4 hL;refine⟨_,cap,X,rfl,q3,⟨bc.length (fun x c=>Cs.length) q3,fun _=>⟨_,rfl,fi q4,fun j u hj=>?_⟩⟩,e3,Nat.zero_le _⟩;have:=q5 j u hj;rw[show(⟨b,o,none⟩:Addr).add j=⟨b,o+j,none⟩from by simp[Ev.cX]];simp only[World.cell?,q4,Option.isSome_none,Bool.false_eq_true,if_false];exact this
theorem Ay{α:Type}{R:α->List Value->Prop}{g:α->List Value}(h:∀x c,R x c->c=g x):∀{L:List α}{X:List Value},bc R L X->X=L.flatMap g
 |[],X,q=>q|x::L,X,⟨c,r,e,q,t⟩=>by rw[e,h x c q,Ay h t];rfl
theorem s9{w:World}{A:Nat->Prop}{d:TL []}{cs:List Value}(h:eD w A [] d cs):cs=[]:=h
theorem fg{w:World}{A:Nat->Prop}{s:Sh}{l:List Sh}{d:TL (s::l)}{cs:List Value}(h:eD w A (s::l) d cs):∃c r,cs=c++r/\Cs w A s d.1 c/\eD w A l d.2 r:=h
theorem qt{w:World}{A:Nat->Prop}{s:Sh}{L:List s.T}{c:List Value}(h:Cs w A (.sl s) L c):∃V,c=[V]/\Cs w A (.sl s) L [V]:=by obtain⟨a,len,cap,e1,q⟩:=h;exact⟨_,e1,a,len,cap,rfl,q⟩
theorem AX{α β γ:Type}{f:α->γ}{g:β->γ}{L:List α}{M:List β}(h:L.map f=M.map g):M.length=L.length:=by have:=congrArg List.length h;rw[aK,aK]at this;exact this.symm
theorem Lq:∀L:List Int,L.flatMap (fun n=>[Value.int .i64 n])=ints L
 |[]=>rfl|x::L=>by have:=Lq L;unfold ints at this |-;rw[List.flatMap_cons,this];rfl
theorem oc{w:World}{A:Nat->Prop}{L:List Int}{c:List Value}(h:Cs w A (.sl (.int .i64)) L c):∃a cap,c=[.slice a L.length cap]/\Sl w w.heap.size 1 a L.length cap (ints L):=by
 obtain⟨V,rfl,h⟩:=qt h;obtain⟨a,cap,X,rfl,h1,h2⟩:=qF h;have:X=ints L:=by have:=Ay (g:=fun n=>[Value.int .i64 n]) (fun x c q=>q) h1;rw[this];exact Lq L
 subst this;exact⟨a,cap,rfl,h2⟩
theorem UD{w:World}{A:Nat->Prop}{x:al.T}{c:List Value}(h:Cs w A al x c):c=(iW x).cells:=by obtain⟨c1,r1,rfl,h1,q1⟩:=fg h;obtain⟨c2,r2,rfl,h2,q2⟩:=fg q1;obtain⟨c3,r3,rfl,h3,q3⟩:=fg q2;rw[s9 q3,show c1=_ from h1,show c2=_ from h2,show c3=_ from h3];rfl
theorem Ly{w:World}{A:Nat->Prop}{L:List al.T}{c:List Value}(h:Cs w A (.sl al) L c):∃a cap,c=[.slice a (L.map iW).length cap]/\Sl w w.heap.size 3 a (L.map iW).length cap ((L.map iW).flatMap dI.cells):=by obtain⟨V,rfl,h⟩:=qt h;obtain⟨a,cap,X,rfl,h1,h2⟩:=qF h;have:=Ay (g:=fun x=>(iW x).cells) (fun x c q=>UD q) h1;refine⟨a,cap,by simp,?_⟩;rw[aK,List.flatMap_map,<-this];exact h2
theorem TD{w:World}{A:Nat->Prop}{L:List al.T}{c:List Value}(h:Cs w A (.sl al) L c):∃a cap,c=[.slice a (L.map jW).length cap]/\Sl w w.heap.size 3 a (L.map jW).length cap ((L.map jW).flatMap ey.cells):=by obtain⟨a,cap,e,h⟩:=Ly h;rw[aK]at e h |-;exact⟨a,cap,e,by rw[List.flatMap_map]at h |-;exact h⟩
theorem KA{w:World}{A:Nat->Prop}:∀{L:List cV.T}{X:List Value},bc (Cs w A cV) L X->∃Rs:List bS,Rs.map bS.d=L.map mS/\X=Rs.flatMap bS.cells/\∀r∈Rs,r.bp w w.heap.size
 |[],X,h=>⟨[],rfl,h,fun r hr=>by cases hr⟩
 |x::L,X,⟨c,r,e,q,t⟩=>by
  obtain⟨Rs,k1,k2,k3⟩:=KA t;obtain⟨c1,r1,rfl,h1,q1⟩:=fg q;obtain⟨c2,r2,rfl,h2,q2⟩:=fg q1;obtain⟨a,cap,rfl,hs⟩:=oc h2;refine⟨⟨x.1,a,cap,x.2.1⟩::Rs,by simp only[List.map_cons,k1];rfl,?_,?_⟩
  .rw[e,s9 q2,show c1=_ from h1,k2];rfl
  .intro r hr;rcases List.mem_cons.1 hr with rfl|hr
   .exact hs
   .exact k3 r hr
theorem JI{w:World}{A:Nat->Prop}:∀{L:List bU.T}{X:List Value},bc (Cs w A bU) L X->∃Rs:List cF,Rs.map cF.d=L.map og/\X=Rs.flatMap cF.cells/\∀r∈Rs,r.bp w w.heap.size
 |[],X,h=>⟨[],rfl,h,fun r hr=>by cases hr⟩
 |x::L,X,⟨c,r,e,q,t⟩=>by
  obtain⟨Rs,k1,k2,k3⟩:=JI t;obtain⟨c1,r1,rfl,h1,q1⟩:=fg q;obtain⟨c2,r2,rfl,h2,q2⟩:=fg q1;obtain⟨c3,r3,rfl,h3,q3⟩:=fg q2;obtain⟨a,cap,rfl,hs⟩:=oc h2;obtain⟨a',cap',rfl,hs'⟩:=oc h3;refine⟨⟨x.1,a,cap,x.2.1,a',cap',x.2.2.1⟩::Rs,by simp only[List.map_cons,k1];rfl,?_,?_⟩
  .rw[e,s9 q3,show c1=_ from h1,k2];rfl
  .intro r hr;rcases List.mem_cons.1 hr with rfl|hr
   .exact⟨hs,hs'⟩
   .exact k3 r hr
theorem Lu{w:World}{A:Nat->Prop}:∀{L:List an.T}{X:List Value},bc (Cs w A an) L X->∃Ms:List aW,Ms.map aW.d=L.map jX/\X=Ms.flatMap aW.cells/\∀m∈Ms,m.bp w w.heap.size
 |[],X,h=>⟨[],rfl,h,fun r hr=>by cases hr⟩
 |x::L,X,⟨c,r,e,q,t⟩=>by
  obtain⟨Ms,k1,k2,k3⟩:=Lu t;obtain⟨c1,r1,rfl,h1,q1⟩:=fg q;obtain⟨c2,r2,rfl,h2,q2⟩:=fg q1;obtain⟨c3,r3,rfl,h3,q3⟩:=fg q2;obtain⟨c4,r4,rfl,h4,q4⟩:=fg q3;obtain⟨c5,r5,rfl,h5,q5⟩:=fg q4;obtain⟨V4,rfl,h4⟩:=qt h4;obtain⟨V5,rfl,h5⟩:=qt h5;obtain⟨a,cap,X4,rfl,f4,s4⟩:=qF h4;obtain⟨a',cap',X5,rfl,f5,s5⟩:=qF h5;obtain⟨Rs,rk,rfl,rok⟩:=KA f4;obtain⟨Ws,wk,rfl,wok⟩:=JI f5;have l4:x.2.2.2.1.length=Rs.length:=AX rk;have l5:x.2.2.2.2.1.length=Ws.length:=AX wk;have l4':List.length x.2.2.2.1=Rs.length:=l4;refine⟨⟨x.1,x.2.1,x.2.2.1,a,cap,Rs,a',cap',Ws⟩::Ms,?_,?_,?_⟩
  .simp only[List.map_cons,k1,aW.d,rk,wk];rfl
  .rw[e,s9 q5,show c1=_ from h1,show c2=_ from h2,show c3=_ from h3,k2];show[_,_,_,Value.slice a (List.length x.2.2.2.1) cap,Value.slice a' (List.length x.2.2.2.2.1) cap']++_=_;rw[l4,l5];rfl
  .intro m hm;rcases List.mem_cons.1 hm with rfl|hm
   .exact⟨by rw[<-l4];exact s4,rok,by rw[<-l5];exact s5,wok⟩
   .exact k3 m hm
theorem UR{w:World}{A:Nat->Prop}{d:bE.T}{V:Value}(h:fG w A bE d V):∃N:bf,N.v=V/\N.d=ie d/\N.bp w w.heap.size:=by
 obtain⟨h,hagg⟩:=h;obtain⟨c1,r1,e1,h1,q1⟩:=fg h;obtain⟨c2,r2,rfl,h2,q2⟩:=fg q1;obtain⟨c3,r3,rfl,h3,q3⟩:=fg q2;obtain⟨c4,r4,rfl,h4,q4⟩:=fg q3;obtain⟨c5,r5,rfl,h5,q5⟩:=fg q4;obtain⟨c6,r6,rfl,h6,q6⟩:=fg q5;obtain⟨c7,r7,rfl,h7,q7⟩:=fg q6;obtain⟨c8,r8,rfl,h8,q8⟩:=fg q7;obtain⟨a2,p2,rfl,s2⟩:=oc h2;obtain⟨a3,p3,rfl,s3⟩:=Ly h3;obtain⟨a4,p4,rfl,s4⟩:=oc h4;obtain⟨a5,p5,rfl,s5⟩:=oc h5;obtain⟨a6,p6,rfl,s6⟩:=oc h6;obtain⟨V7,rfl,h7⟩:=qt h7;obtain⟨a7,p7,X7,rfl,f7,s7⟩:=qF h7;obtain⟨Ms,k1,rfl,k3⟩:=Lu f7;obtain⟨a8,p8,rfl,s8⟩:=TD h8;have l7:List.length d.2.2.2.2.2.2.1=Ms.length:=AX k1;refine⟨⟨d.1,a2,p2,d.2.1,a3,p3,d.2.2.1.map iW,a4,p4,d.2.2.2.1,a5,p5,d.2.2.2.2.1,a6,p6,d.2.2.2.2.2.1,a7,p7,Ms,a8,p8,d.2.2.2.2.2.2.2.1.map jW⟩,?_,?_,?_⟩
 .cases V with|agg cs=>have e1':cs.toList=c1++_:=e1;rw[s9 q8,show c1=_ from h1,l7]at e1';show Value.agg _=Value.agg cs;congr 1;apply Array.toList_inj.1;rw[e1'];rfl|_=>cases hagg
 .simp only[bf.d,k1];rfl
 .exact⟨s2,s3,s4,s5,s6,by rw[<-l7];exact s7,k3,s8⟩
instance i64Dec(x:Int):Decidable (bH x):=inferInstanceAs (Decidable (_/\_))
instance memFitDec(m:cr):Decidable (q9 m):=decidable_of_iff
 ((bH m.word/\m.word<=4000)/\bH m.addr/\m.reads.length<=100/\m.writes.length<=100/\(∀r∈m.reads,r.addr.length<=4000/\-1099511627776<=r.var/\r.var<=1099511627776/\∀x∈r.addr,bH x) /\
  ∀r∈m.writes,r.addr.length<=4000/\r.data.length<=4000/\bH r.on/\(∀x∈r.addr,bH x)/\∀x∈r.data,bH x)
 ⟨fun⟨a,b,c,d,e,f⟩=>⟨a,b,c,d,e,f⟩,fun⟨a,b,c,d,e,f⟩=>⟨a,b,c,d,e,f⟩⟩
instance fitDec(n:aG):Decidable (Fit n):=decidable_of_iff
 (bH n.vars/\(n.aU.length<=4000/\∀x∈n.aU,bH x)/\(n.af.length<=4000/\∀l∈n.af,bH l.var/\bH l.next/\bH l.init)/\(n.bB.length<=4000/\∀x∈n.bB,bH x) /\
  (n.bC.length<=4000/\∀x∈n.bC,bH x)/\(n.constraints.length<=4000/\∀x∈n.constraints,bH x)/\(n.aa.length<=100/\∀m∈n.aa,q9 m)/\(n.aw.length<=4000/\∀a∈n.aw,bH a.var/\bH a.a/\bH a.b))
 ⟨fun⟨a,b,c,d,e,f,g,h⟩=>⟨a,b,c,d,e,f,g,h⟩,fun⟨a,b,c,d,e,f,g,h⟩=>⟨a,b,c,d,e,f,g,h⟩⟩
def Ea(n:aG):Bool:=decide (Fit n)
theorem TN{n:aG}(h:Ea n=true):Fit n:=of_decide_eq_true h
theorem A0{n:aG}(h:Fit n):Ea n=true:=bF h
def j5:TL [bE]->Option (TL [.int .i64]):=fun d=>match Ea (ie d.1)with|true=>some (ed (ie d.1),())|false=>none
theorem QO{f:FuncId}{fn:Func}{c:Code}(h1:Tryz.prog.funcs[f]?=some fn)(h2:(fn.name == "runtime.NumGoroutine")=false)(h3:fn.body=some c)
  (h:∀(N:bf) (w:World),N.bp w w.heap.size->Fit N.d->Calls Tryz.prog f #[N.v] w fun e w'=>e=.returned (.int .i64 (ed N.d))/\Below w.heap.size w w'):Comes Tryz.prog f [bE] [.int .i64] j5:=by
 refine⟨⟨fn,c,h1,h2,h3⟩,?_⟩;intro d x hx w A args hA ha;unfold j5 at hx;split at hx<;>cases hx;rename_i hf;obtain⟨V,r,rfl,hd,hr⟩:=ha;have:r=[]:=hr;subst this;obtain⟨N,rfl,hN,hok⟩:=UR hd;have hf:=TN hf;rw[<-hN]at hf;refine(h N w hok hf).mono ?_;rintro e w' ⟨rfl,hb⟩;exact⟨[.int .i64 (ed N.d)],rfl,hb,_,[],rfl,⟨by rw[hN];rfl,rfl⟩,rfl⟩
theorem Zwv:Comes Tryz.prog 209 [bE] [.int .i64] j5:=QO (fn:=Tryz.f209) (c:=bw Tryz.f209) Tryz.func209 (by kernel_rfl) (by kernel_rfl) JK
theorem Zct:Comes Tryz.prog 81 [bE] [.int .i64] j5:=QO (fn:=Tryz.f81) (c:=bw Tryz.f81) Tryz.func81 (by kernel_rfl) (by kernel_rfl) VV
def o9:=j5
abbrev Zu:=TL [bE]->Option (TL [.int .i64])
abbrev Oq:=Kd 209 [bE] [.int .i64]
def Zv:Oq:=⟨j5,Zwv⟩
abbrev NQ:=TL [bE]->Option (TL [.int .i64])
abbrev Dc:=Kd 81 [bE] [.int .i64]
def NR:Dc:=⟨o9,Zct⟩
set_option maxRecDepth 1000000
abbrev Qt:List Sh:=[(.int .i64)]
abbrev FY:List Sh:=[(.int .i64)]
abbrev we:=TL Qt->Option (TL FY)
abbrev rz:=Kd 101 Qt FY
def Gg(a0:Int):Option (TL FY):=some ((Int.fdiv a0 (HPow.hPow (2:Int) (Min.min (Int.toNat (1:Int)) 64))),())
def ZE  :rz:=⟨u1 Gg,pD Tryz.func101 5 k0 e0 1 (sS l0) fun d=>by kernel_rfl⟩
def wg:rz:=ZE
def sv:we:=wg.F
abbrev FL:Lay:={ T:=[(1,.int .i64),(2,.ptr 0 0),(4,.hd 1 (.int .i64)),(16,.int .i64),(17,.int .i64)],h:=[(0,.cells [.int .i64,.int .i64,.bool,.fz cV,.fz bU] 87),(1,.arr (.int .i64) 3)],nx:=2 }
abbrev FJ:List (Ev.Ex×Lay):=[((.exit 0),{ T:=[(4,.hd 0 (.int .i64))],h:=[(0,.arr (.int .i64) 3)],nx:=1 })]
abbrev Ot:=TL FL.σs->Option (Out FJ)
abbrev Ou:=Ld 0 33 (bL [0] (bw Tryz.f146)) FL FJ
def yj(t1 t16 t17 aB aI:Int)(aJ:Bool)(aL:List (Sh.T cV))(aR:List (Sh.T bU))(b1:List Int):Option (TL FL.σs⊕Out FJ):=
 br (iL t17 t16)
 (
  ak (ah t1 (List.length aL))<|
  ak (room 8 (List.length (ap b1 ((IntKind.wrap .i64 (@HAdd.hAdd (Int) (Int) (Int) _ (gt cV aL t1).1 t17))::[]))))<|
  some (.inl (t1,(t16,((IntKind.wrap .i64 (t17+(1:Int))),(aB,(aI,(aJ,(aL,(aR,((ap b1 ((IntKind.wrap .i64 (@HAdd.hAdd (Int) (Int) (Int) _ (gt cV aL t1).1 t17))::[])),())))))))))))
 (
  some (.inr (b1,())))
def Zw  :Ou:=bO (u9 yj) (pL k0 e0 1 l0 fun d=>by kernel_rfl)
def FQ:Ot:=bj (u9 yj) NN
abbrev Qs:List Sh:=[an,(.int .i64)]
abbrev FX:List Sh:=[(.sl (.int .i64))]
abbrev OB:=TL Qs->Option (TL FX)
abbrev DM:=Kd 146 Qs FX
def Gf(L4:Ot)(a0:Sh.T an)(a1:Int):Option (TL FX):=
 br (iL a1 (0:Int))
 (
  some ([],()))
 (
  br (bD false true (iE (Int.ofNat (List.length a0.2.2.2.1)) a1))
  (
   some ([],()))
  (
   az (L4 (a1,(a0.2.1,((0:Int),(a0.1,(a0.2.1,(a0.2.2.1,(a0.2.2.2.1,(a0.2.2.2.2.1,([],())))))))))) fun x0=>
   some (x0.1,())))
def ZD(M4:Ou):DM:=⟨u2 (Gf M4.L),pD Tryz.func146 33 k0 e0 1 (sS (sC M4 l0)) fun d=>by kernel_rfl⟩
def OC:DM:=ZD  Zw
def Qp:OB:=OC.F
abbrev gi:List (Nat×LO):=[(0,.cells [.int .i64,.fz (.int .i64),.fz al,.fz (.int .i64),.fz (.int .i64),.fz (.int .i64),.fz an,.fz al,.hd 1 (.int .i64),.hd 2 cM,.hd 3 (.int .u8),.hd 4 (.int .i64)] 217),(1,.arr (.int .i64) 3),(2,.arr cM 172),(3,.arr (.int .u8) 5),(4,.arr (.int .i64) 3)]
abbrev wO:List (Nat×LO):=[(0,.cells gR 27),(1,.cells [.int .i64,.fz (.int .i64),.fz al,.fz (.int .i64),.fz (.int .i64),.fz (.int .i64),.fz an,.fz al,.hd 2 (.int .i64),.hd 3 cM,.hd 4 (.int .u8),.hd 5 (.int .i64)] 217),(2,.arr (.int .i64) 3),(3,.arr cM 172),(4,.arr (.int .u8) 5),(5,.arr (.int .i64) 3)]
abbrev wP:List (Nat×LO):=[(0,.cells [.fz (.int .i64)] 22),(1,.cells [.ptr 2 0] 208),(2,.cells [.int .i64,.fz (.int .i64),.fz al,.fz (.int .i64),.fz (.int .i64),.fz (.int .i64),.fz an,.fz al,.hd 3 (.int .i64),.hd 4 cM,.hd 5 (.int .u8),.hd 6 (.int .i64)] 217),(3,.arr (.int .i64) 3),(4,.arr cM 172),(5,.arr (.int .u8) 5),(6,.arr (.int .i64) 3)]
abbrev Es:List (Nat×LO):=[(0,.cells [.int .i64,.fz (.int .i64),.fz al,.fz (.int .i64),.fz (.int .i64),.fz (.int .i64),.fz an,.fz al,.hd 1 (.int .i64),.hd 2 cM,.hd 3 (.int .u8),.hd 4 (.int .i64)] 217),(1,.arr (.int .i64) 3),(2,.arr cM 172),(3,.arr (.int .u8) 5),(4,.arr (.int .i64) 3),(5,.cells [.ptr 0 0] 208),(6,.cells [.fz (.int .i64)] 22)]
abbrev Pz:Lay:={ T:=[(3,.ptr 0 0),(77,.hd 2 cM),(78,.int .i64),(79,.int .i64)],h:=gi,nx:=5 }
abbrev PA:Lay:={ T:=[(1,.ptr 0 0),(3,.ptr 1 0),(46,.int .i64),(47,.int .i64)],h:=wO,nx:=6 }
abbrev PB:Lay:={ T:=[(0,.ptr 0 0),(1,.agg [.bool,.int .i64,.int .i64])],h:=gi,nx:=5 }
abbrev PM:Lay:=PB
abbrev EC:List (Ev.Ex×Lay):=[(.ret,{ T:=[(0,.fz (.int .i64))],h:=gi,nx:=5 })]
abbrev NY:=TL PM.σs->Option (Out EC)
abbrev Dq:=Kb 288 2 PM 1 EC
def FE(El:Bool)(j3 k8 aB:Int)(aI:List Int)(aJ:List (Sh.T al))(aL aR aZ:List Int)(aq:List (Sh.T an))(aO:List (Sh.T al))(b1:List Int)(b2:List (Sh.T cM))(b3 b4:List Int):Option (Out EC):=
 br El
 (
  ak (ah j3 (List.length aq))<|
  ak (ah k8 (List.length (gt an aq j3).2.2.2.1))<|
  some ((gt cV (gt an aq j3).2.2.2.1 k8).2.1,(aB,(aI,(aJ,(aL,(aR,(aZ,(aq,(aO,(b1,(b2,(b3,(b4,()))))))))))))))
 (
  ak (ah k8 (List.length aO))<|
  some (((gt al aO k8).2.1::((gt al aO k8).2.2.1::[])),(aB,(aI,(aJ,(aL,(aR,(aZ,(aq,(aO,(b1,(b2,(b3,(b4,()))))))))))))))
def Y3  :Dq:=⟨mH FE,pB Tryz.func288 37 k0 e0 1 (sS l0) fun d=>by kernel_rfl⟩
def NZ:Dq:=Y3
def PS:NY:=NZ.F
abbrev PJ:Lay:=PB
abbrev Ey:List (Ev.Ex×Lay):=[(.ret,{ T:=[(0,.fz (.int .i64))],h:=gi,nx:=5 })]
abbrev vI:=TL PJ.σs->Option (Out Ey)
abbrev rm:=Kb 136 2 PJ 1 Ey
def FN(F0:OB)(El:Bool)(j3 k8 aB:Int)(aI:List Int)(aJ:List (Sh.T al))(aL aR aZ:List Int)(aq:List (Sh.T an))(aO:List (Sh.T al))(b1:List Int)(b2:List (Sh.T cM))(b3 b4:List Int):Option (Out Ey):=
 br El
 (
  ak (ah j3 (List.length aq))<|
  az (F0 (((gt an aq j3).1,((gt an aq j3).2.1,((gt an aq j3).2.2.1,((gt an aq j3).2.2.2.1,((gt an aq j3).2.2.2.2.1,()))))),(k8,()))) fun x0=>
  some (x0.1,(aB,(aI,(aJ,(aL,(aR,(aZ,(aq,(aO,(b1,(b2,(b3,(b4,()))))))))))))))
 (
  ak (ah k8 (List.length aO))<|
  some (((gt al aO k8).1::[]),(aB,(aI,(aJ,(aL,(aR,(aZ,(aq,(aO,(b1,(b2,(b3,(b4,()))))))))))))))
def Za(c0:DM) :rm:=⟨mH (FN c0.F),pB Tryz.func136 30 (kD c0 k0) e0 1 (sS l0) fun d=>by kernel_rfl⟩
def vJ:rm:=Za OC
def wT:vI:=vJ.F
abbrev PL:Lay:={ T:=[(0,.int .u8),(1,.ptr 0 0),(2,.ptr 1 0)],h:=wP,nx:=7 }
abbrev EA:List (Ev.Ex×Lay):=[(.ret,{ T:=[],h:=wP,nx:=7 })]
abbrev Nc:=TL PL.σs->Option (Out EA)
abbrev CD:=Kb 340 3 PL 0 EA
abbrev EH:Lay:={ T:=[(0,.int .u8),(2,.ptr 1 0),(6,.fz (.int .i64)),(7,.int .i64),(8,.int .i64)],h:=wP,nx:=7 }
abbrev EF:List (Ev.Ex×Lay):=[((.exit 0),{ T:=[],h:=wP,nx:=7 })]
abbrev MO:=TL EH.σs->Option (Out EF)
abbrev MP:=Ld 7 20 (bL [0] (bw Tryz.f340)) EH EF
def xL(t0:Int)(t6:List Int)(t7 t8:Int)(aB:List Int)(wo:Int)(wq:List Int)(wt:List (Sh.T al))(wu wx wy:List Int)(wz:List (Sh.T an))(wA:List (Sh.T al))(b3:List Int)(b4:List (Sh.T cM))(b5 b6:List Int):Option (TL EH.σs⊕Out EF):=
 br (iL t8 t7)
 (
  ak (ah t8 (List.length t6))<|
  ak (ah (gt (.int .i64) t6 t8) (List.length b5))<|
  some (.inl (t0,(t6,(t7,((IntKind.wrap .i64 (t8+(1:Int))),(aB,(wo,(wq,(wt,(wu,(wx,(wy,(wz,(wA,(b3,(b4,((List.set b5 (Int.toNat (gt (.int .i64) t6 t8)) t0),(b6,())))))))))))))))))))
 (
  some (.inr (aB,(wo,(wq,(wt,(wu,(wx,(wy,(wz,(wA,(b3,(b4,(b5,(b6,())))))))))))))))
def Yi  :MP:=bO (tk xL) (pL k0 e0 1 l0 fun d=>by kernel_rfl)
def EY:MO:=bj (tk xL) NN
def Fc(L1:MO)(t0:Int)(aB:List Int)(wo:Int)(wq:List Int)(wt:List (Sh.T al))(wu wx wy:List Int)(wz:List (Sh.T an))(wA:List (Sh.T al))(b3:List Int)(b4:List (Sh.T cM))(b5 b6:List Int):Option (Out EA):=
 az (L1 (t0,(aB,((Int.ofNat (List.length aB)),((0:Int),(aB,(wo,(wq,(wt,(wu,(wx,(wy,(wz,(wA,(b3,(b4,(b5,(b6,())))))))))))))))))) fun x0=>
 some x0
def Yu(M1:MP):CD:=⟨ji (Fc M1.L),pB Tryz.func340 20 k0 e0 1 (sS (sC M1 l0)) fun d=>by kernel_rfl⟩
def Nf:CD:=Yu  Yi
def PO:Nc:=Nf.F
abbrev Ew:Lay:={ T:=[(0,.ptr 0 0),(1,.int .i64)],h:=gi,nx:=5 }
abbrev wS:List (Ev.Ex×Lay):=[(.ret,{ T:=[(0,.bool)],h:=gi,nx:=5 })]
abbrev lQ:=TL Ew.σs->Option (Out wS)
abbrev kO:=Kb 274 2 Ew 1 wS
abbrev EJ:Lay:={ T:=[(2,.ptr 5 0),(7,.func 340 [] [.ptr 6 0,.ptr 5 0]),(8,.int .i64),(86,.fz (.int .i64)),(87,.int .i64),(88,.int .i64)],h:=Es,nx:=7 }
abbrev EG:List (Ev.Ex×Lay):=[((.exit 3),{ T:=[(7,.func 340 [] [.ptr 5 0,.ptr 6 0])],h:=[(0,.cells [.int .i64,.fz (.int .i64),.fz al,.fz (.int .i64),.fz (.int .i64),.fz (.int .i64),.fz an,.fz al,.hd 1 (.int .i64),.hd 2 cM,.hd 3 (.int .u8),.hd 4 (.int .i64)] 217),(1,.arr (.int .i64) 3),(2,.arr cM 172),(3,.arr (.int .u8) 5),(4,.arr (.int .i64) 3),(5,.cells [.fz (.int .i64)] 22),(6,.cells [.ptr 0 0] 208)],nx:=7 })]
abbrev Na:=TL EJ.σs->Option (Out EG)
abbrev CB:=Ld 5 103 (bL [1] (bw Tryz.f274)) EJ EG
abbrev xp:Lay:={ T:=[(2,.ptr 5 0),(6,.ptr 6 0),(7,.func 340 [] [.ptr 6 0,.ptr 5 0]),(8,.int .i64),(64,.fz (.int .i64)),(65,.int .i64),(66,.int .i64)],h:=Es,nx:=7 }
abbrev xh:List (Ev.Ex×Lay):=[(.ret,{ T:=[(4,.bool)],h:=gi,nx:=5 }),((.exit 1),{ T:=[(2,.ptr 5 0),(6,.ptr 6 0),(7,.func 340 [] [.ptr 6 0,.ptr 5 0]),(8,.int .i64)],h:=Es,nx:=7 })]
abbrev Nb:=TL xp.σs->Option (Out xh)
abbrev CC:=Ld 5 103 (bL [0] (bw Tryz.f274)) xp xh
def FK(F0:we)(F1:lQ)(t8:Int)(t64:List Int)(t65 t66 aB:Int)(aI:List Int)(aJ:List (Sh.T al))(aL aR aZ:List Int)(aq:List (Sh.T an))(aO:List (Sh.T al))(b1:List Int)(b2:List (Sh.T cM))(b3 b4 rD:List Int):Option (TL xp.σs⊕Out xh):=
 br (iL t66 t65)
 (
  ak (ah t66 (List.length t64))<|
  az (F0 ((gt (.int .i64) t64 t66),())) fun x0=>
  az (F1 (x0.1,(aB,(aI,(aJ,(aL,(aR,(aZ,(aq,(aO,(b1,(b2,(b3,(b4,())))))))))))))) fun x1=>
  br (Bool.not x1.1)
  (
   some (.inr (.inl (false,x1.2))))
  (
   ak (ah x0.1 (List.length x1.2.2.2.2.2.2.2.2.2.2.2.2.1))<|
   some (.inl ((fV (iL t8 (gt (.int .i64) x1.2.2.2.2.2.2.2.2.2.2.2.2.1 x0.1)) (gt (.int .i64) x1.2.2.2.2.2.2.2.2.2.2.2.2.1 x0.1) t8),(t64,(t65,((IntKind.wrap .i64 (t66+(1:Int))),(x1.2.1,(x1.2.2.1,(x1.2.2.2.1,(x1.2.2.2.2.1,(x1.2.2.2.2.2.1,(x1.2.2.2.2.2.2.1,(x1.2.2.2.2.2.2.2.1,(x1.2.2.2.2.2.2.2.2.1,(x1.2.2.2.2.2.2.2.2.2.1,(x1.2.2.2.2.2.2.2.2.2.2.1,(x1.2.2.2.2.2.2.2.2.2.2.2.1,(x1.2.2.2.2.2.2.2.2.2.2.2.2.1,(rD,()))))))))))))))))))))
 (
  some (.inr (.inr (t8,(aB,(aI,(aJ,(aL,(aR,(aZ,(aq,(aO,(b1,(b2,(b3,(b4,(rD,())))))))))))))))))
def Yt(c0:rz)(c1:kO) :CC:=bO (tk (FK c0.F c1.F)) (pL (kD c0 (kB c1 k0)) e0 1 l0 fun d=>by kernel_rfl)
def Yr(s:kO):CC:=Yt wg s
def E3(F:lQ):Nb:=bj (fun d=>FK sv F  d.1 d.2.1 d.2.2.1 d.2.2.2.1 d.2.2.2.2.1 d.2.2.2.2.2.1 d.2.2.2.2.2.2.1 d.2.2.2.2.2.2.2.1 d.2.2.2.2.2.2.2.2.1 d.2.2.2.2.2.2.2.2.2.1 d.2.2.2.2.2.2.2.2.2.2.1 d.2.2.2.2.2.2.2.2.2.2.2.1 d.2.2.2.2.2.2.2.2.2.2.2.2.1 d.2.2.2.2.2.2.2.2.2.2.2.2.2.1 d.2.2.2.2.2.2.2.2.2.2.2.2.2.2.1 d.2.2.2.2.2.2.2.2.2.2.2.2.2.2.2.1 d.2.2.2.2.2.2.2.2.2.2.2.2.2.2.2.2.1) NN
def xP(t8:Int)(t86:List Int)(t87 t88 aB:Int)(aI:List Int)(aJ:List (Sh.T al))(aL aR aZ:List Int)(aq:List (Sh.T an))(aO:List (Sh.T al))(b1:List Int)(b2:List (Sh.T cM))(b3 b4 rD:List Int):Option (TL EJ.σs⊕Out EG):=
 br (iL t88 t87)
 (
  ak (ah t88 (List.length t86))<|
  ak (ah (gt (.int .i64) t86 t88) (List.length b4))<|
  some (.inl (t8,(t86,(t87,((IntKind.wrap .i64 (t88+(1:Int))),(aB,(aI,(aJ,(aL,(aR,(aZ,(aq,(aO,(b1,(b2,(b3,((List.set b4 (Int.toNat (gt (.int .i64) t86 t88)) (IntKind.wrap .i64 (t8+(1:Int)))),(rD,())))))))))))))))))))
 (
  some (.inr (aB,(aI,(aJ,(aL,(aR,(aZ,(aq,(aO,(b1,(b2,(b3,(b4,(rD,())))))))))))))))
def Ys  :CB:=bO (tk xP) (pL k0 e0 1 l0 fun d=>by kernel_rfl)
def Yq(s:kO):CB:=Ys
def E2(F:lQ):Na:=bj (fun d=>xP   d.1 d.2.1 d.2.2.1 d.2.2.2.1 d.2.2.2.2.1 d.2.2.2.2.2.1 d.2.2.2.2.2.2.1 d.2.2.2.2.2.2.2.1 d.2.2.2.2.2.2.2.2.1 d.2.2.2.2.2.2.2.2.2.1 d.2.2.2.2.2.2.2.2.2.2.1 d.2.2.2.2.2.2.2.2.2.2.2.1 d.2.2.2.2.2.2.2.2.2.2.2.2.1 d.2.2.2.2.2.2.2.2.2.2.2.2.2.1 d.2.2.2.2.2.2.2.2.2.2.2.2.2.2.1 d.2.2.2.2.2.2.2.2.2.2.2.2.2.2.2.1 d.2.2.2.2.2.2.2.2.2.2.2.2.2.2.2.2.1) NN
def FB(F0:we)(F1:lQ)(F2:NY)(F3:Nc)(F4:vI)(L11:Nb)(L19:Na)(t1 aB:Int)(aI:List Int)(aJ:List (Sh.T al))(aL aR aZ:List Int)(aq:List (Sh.T an))(aO:List (Sh.T al))(b1:List Int)(b2:List (Sh.T cM))(b3 b4:List Int):Option (Out wS):=
 ak (ah t1 (List.length b1))<|
 br (iQ (gt (.int .i64) b1 t1) (0:Int))
 (
  some (true,(aB,(aI,(aJ,(aL,(aR,(aZ,(aq,(aO,(b1,(b2,(b3,(b4,()))))))))))))))
 (
  ak (ah t1 (List.length b3))<|
  br (bD false true (iQ (gt (.int .u8) b3 t1) (2:Int)))
  (
   some (true,(aB,(aI,(aJ,(aL,(aR,(aZ,(aq,(aO,(b1,(b2,(b3,(b4,()))))))))))))))
  (
   ak (ah t1 (List.length b3))<|
   br (iQ (gt (.int .u8) b3 t1) (1:Int))
   (
    some (false,(aB,(aI,(aJ,(aL,(aR,(aZ,(aq,(aO,(b1,(b2,(b3,(b4,()))))))))))))))
   (
    ak (ah t1 (List.length b1))<|
    ak (ah (IntKind.wrap .i64 (@HSub.hSub (Int) (Int) (Int) _ (gt (.int .i64) b1 t1) (1:Int))) (List.length b2))<|
    az (F4 ((gt cM b2 (IntKind.wrap .i64 (@HSub.hSub (Int) (Int) (Int) _ (gt (.int .i64) b1 t1) (1:Int)))).1,((gt cM b2 (IntKind.wrap .i64 (@HSub.hSub (Int) (Int) (Int) _ (gt (.int .i64) b1 t1) (1:Int)))).2.1,((gt cM b2 (IntKind.wrap .i64 (@HSub.hSub (Int) (Int) (Int) _ (gt (.int .i64) b1 t1) (1:Int)))).2.2.1,(aB,(aI,(aJ,(aL,(aR,(aZ,(aq,(aO,(b1,(b2,(b3,(b4,())))))))))))))))) fun x0=>
    az (F3 ((1:Int),x0)) fun x1=>
    az (F2 ((gt cM b2 (IntKind.wrap .i64 (@HSub.hSub (Int) (Int) (Int) _ (gt (.int .i64) b1 t1) (1:Int)))).1,((gt cM b2 (IntKind.wrap .i64 (@HSub.hSub (Int) (Int) (Int) _ (gt (.int .i64) b1 t1) (1:Int)))).2.1,((gt cM b2 (IntKind.wrap .i64 (@HSub.hSub (Int) (Int) (Int) _ (gt (.int .i64) b1 t1) (1:Int)))).2.2.1,x1.2)))) fun x2=>
    az (L11 ((0:Int),(x2.1,((Int.ofNat (List.length x2.1)),((0:Int),(x2.2.1,(x2.2.2.1,(x2.2.2.2.1,(x2.2.2.2.2.1,(x2.2.2.2.2.2.1,(x2.2.2.2.2.2.2.1,(x2.2.2.2.2.2.2.2.1,(x2.2.2.2.2.2.2.2.2.1,(x2.2.2.2.2.2.2.2.2.2.1,(x2.2.2.2.2.2.2.2.2.2.2.1,(x2.2.2.2.2.2.2.2.2.2.2.2.1,(x2.2.2.2.2.2.2.2.2.2.2.2.2.1,(x1.1,())))))))))))))))))) fun x3=>
    (match x3 with
    |.inl x4=>some x4|.inr x4=>
     az (L19 (x4.1,(x4.2.2.2.2.2.2.2.2.2.2.2.2.2.1,((Int.ofNat (List.length x4.2.2.2.2.2.2.2.2.2.2.2.2.2.1)),((0:Int),x4.2))))) fun x5=>
     az (F3 ((2:Int),(x5.2.2.2.2.2.2.2.2.2.2.2.2.1,(x5.1,(x5.2.1,(x5.2.2.1,(x5.2.2.2.1,(x5.2.2.2.2.1,(x5.2.2.2.2.2.1,(x5.2.2.2.2.2.2.1,(x5.2.2.2.2.2.2.2.1,(x5.2.2.2.2.2.2.2.2.1,(x5.2.2.2.2.2.2.2.2.2.1,(x5.2.2.2.2.2.2.2.2.2.2.1,(x5.2.2.2.2.2.2.2.2.2.2.2.1,()))))))))))))))) fun x6=>
     some (true,x6.2)
    ))))
def YW(c0:rz)(c1:kO)(c2:Dq)(c3:CD)(c4:rm)(M11:CC)(M19:CB):kO:=⟨iR (FB c0.F c1.F c2.F c3.F c4.F M11.L M19.L),pB Tryz.func274 103 (kD c0 (kB c1 (kB c2 (kB c3 (kB c4 k0))))) e0 1 (sS (sC M11 (sC M19 l0))) fun d=>by kernel_rfl⟩
def rl:Nat->kO
 |0=>mk0 Tryz.func274 (by kernel_rfl) (by kernel_rfl)|k+1=>YW wg (rl k) NZ Nf vJ (Yr (rl k)) (Yq (rl k))
def pa(k:Nat):lQ:=(rl k).F
def Dd:kO:=rl NN
def EU:lQ:=Dd.F
abbrev PV:Lay:={ T:=[(0,.ptr 0 0)],h:=gi,nx:=5 }
abbrev EV:List (Ev.Ex×Lay):=[(.ret,{ T:=[(0,.bool)],h:=gi,nx:=5 })]
abbrev N3:=TL PV.σs->Option (Out EV)
abbrev Dv:=Kb 211 1 PV 1 EV
abbrev EW:Lay:={ T:=[(3,.func 274 [.ptr 0 0] []),(11,.int .i64),(12,.int .i64)],h:=gi,nx:=5 }
abbrev xH:List (Ev.Ex×Lay):=[(.ret,{ T:=[(2,.bool)],h:=gi,nx:=5 }),((.exit 0),{ T:=[],h:=gi,nx:=5 })]
abbrev N0:=TL EW.σs->Option (Out xH)
abbrev Ds:=Ld 5 20 (bL [0] (bw Tryz.f211)) EW xH
def FO(F0:lQ)(t11 t12 aB:Int)(aI:List Int)(aJ:List (Sh.T al))(aL aR aZ:List Int)(aq:List (Sh.T an))(aO:List (Sh.T al))(b1:List Int)(b2:List (Sh.T cM))(b3 b4:List Int):Option (TL EW.σs⊕Out xH):=
 br (iL t12 t11)
 (
  az (F0 (t12,(aB,(aI,(aJ,(aL,(aR,(aZ,(aq,(aO,(b1,(b2,(b3,(b4,())))))))))))))) fun x0=>
  br (Bool.not x0.1)
  (
   some (.inr (.inl (false,x0.2))))
  (
   some (.inl (t11,((IntKind.wrap .i64 (t12+(1:Int))),x0.2)))))
 (
  some (.inr (.inr (aB,(aI,(aJ,(aL,(aR,(aZ,(aq,(aO,(b1,(b2,(b3,(b4,())))))))))))))))
def Y5(c0:kO) :Ds:=bO (ji (FO c0.F)) (pL (kB c0 k0) e0 1 l0 fun d=>by kernel_rfl)
def Y4:Ds:=Y5 Dd
def Zhi:N0:=bj (ji (FO EU)) NN
def Zm5(F0:lQ)(L3:N0)(aB:Int)(aI:List Int)(aJ:List (Sh.T al))(aL aR aZ:List Int)(aq:List (Sh.T an))(aO:List (Sh.T al))(b1:List Int)(b2:List (Sh.T cM))(b3 b4:List Int):Option (Out EV):=
 az (L3 ((Int.ofNat (List.length b1)),((0:Int),(aB,(aI,(aJ,(aL,(aR,(aZ,(aq,(aO,(b1,(b2,(b3,(b4,()))))))))))))))) fun x0=>
 (match x0 with|.inl x1=>some x1|.inr x1=>some (true,x1)
 )
def Y8(c0:kO)(M3:Ds):Dv:=⟨kr (Zm5 c0.F M3.L),pB Tryz.func211 20 (kB c0 k0) e0 1 (sS (sC M3 l0)) fun d=>by kernel_rfl⟩
def N4:Dv:=Y8 Dd Y4
def Zhj:N3:=N4.F
abbrev Qn:Lay:={ T:=[(0,.agg gR)],h:=[],nx:=0 }
abbrev FF:List (Ev.Ex×Lay):=[(.ret,{ T:=[(0,.ptr 0 0)],h:=gi,nx:=5 })]
abbrev Om:=TL Qn.σs->Option (Out FF)
abbrev DI:=Kb 210 1 Qn 1 FF
abbrev Fq:Lay:=Pz
abbrev Fe:List (Ev.Ex×Lay):=[((.exit 6),{ T:=[(3,.ptr 0 0)],h:=gi,nx:=5 })]
abbrev Oc:=TL Fq.σs->Option (Out Fe)
abbrev DD:=Ld 0 103 (bL [2] (bw Tryz.f210)) Fq Fe
abbrev E9:Lay:={ T:=[(3,.ptr 0 0),(7,.int .i64),(77,.hd 2 cM),(78,.int .i64),(79,.int .i64),(86,.fz (.int .i64)),(87,.int .i64),(88,.int .i64)],h:=gi,nx:=5 }
abbrev E4:List (Ev.Ex×Lay):=[((.exit 8),Pz)]
abbrev DA:=TL E9.σs->Option (Out E4)
abbrev DC:=Ld 0 103 (bL [2,0] (bw Tryz.f210)) E9 E4
abbrev FG:Lay:=PA
abbrev Fo:List (Ev.Ex×Lay):=[((.exit 2),{ T:=[(3,.ptr 0 0)],h:=gi,nx:=5 })]
abbrev Of:=TL FG.σs->Option (Out Fo)
abbrev DH:=Ld 0 103 (bL [1] (bw Tryz.f210)) FG Fo
abbrev Fa:Lay:={ T:=[(1,.ptr 0 0),(3,.ptr 1 0),(5,.int .i64),(46,.int .i64),(47,.int .i64),(56,.int .i64),(57,.int .i64)],h:=wO,nx:=6 }
abbrev E5:List (Ev.Ex×Lay):=[((.exit 4),PA)]
abbrev DB:=TL Fa.σs->Option (Out E5)
abbrev DE:=Ld 0 103 (bL [1,0] (bw Tryz.f210)) Fa E5
abbrev FH:Lay:={ T:=[(1,.ptr 0 0),(3,.ptr 1 0),(28,.int .i64),(29,.int .i64)],h:=wO,nx:=6 }
abbrev Fp:List (Ev.Ex×Lay):=[((.exit 0),{ T:=[(1,.ptr 0 0),(3,.ptr 1 0)],h:=wO,nx:=6 })]
abbrev Og:=TL FH.σs->Option (Out Fp)
abbrev Oh:=Ld 0 103 (bL [0] (bw Tryz.f210)) FH Fp
def yf(t28 t29 aB:Int)(aI:List Int)(aJ:List (Sh.T al))(aL aR aZ:List Int)(aq:List (Sh.T an))(aO:List (Sh.T al))(cz:Int)(ca:List Int)(iC:List (Sh.T al))(fl fT lR:List Int)(lT:List (Sh.T an))(lU:List (Sh.T al))(b2:List Int)(b3:List (Sh.T cM))(b4 b5:List Int):Option (TL FH.σs⊕Out Fp):=
 br (iL t29 t28)
 (
  ak (room 24 (List.length (ap b3 ((false,((0:Int),(t29,())))::[]))))<|
  some (.inl (t28,((IntKind.wrap .i64 (t29+(1:Int))),(aB,(aI,(aJ,(aL,(aR,(aZ,(aq,(aO,(cz,(ca,(iC,(fl,(fT,(lR,(lT,(lU,(b2,((ap b3 ((false,((0:Int),(t29,())))::[])),(b4,(b5,()))))))))))))))))))))))))
 (
  some (.inr (aB,(aI,(aJ,(aL,(aR,(aZ,(aq,(aO,(cz,(ca,(iC,(fl,(fT,(lR,(lT,(lU,(b2,(b3,(b4,(b5,()))))))))))))))))))))))
def Zm  :Oh:=bO (pX yf) (pL k0 e0 1 l0 fun d=>by kernel_rfl)
def x9:Og:=bj (pX yf) NN
def yc(t5 t46 t47 t56 t57 aB:Int)(aI:List Int)(aJ:List (Sh.T al))(aL aR aZ:List Int)(aq:List (Sh.T an))(aO:List (Sh.T al))(cz:Int)(ca:List Int)(iC:List (Sh.T al))(fl fT lR:List Int)(lT:List (Sh.T an))(lU:List (Sh.T al))(b2:List Int)(b3:List (Sh.T cM))(b4 b5:List Int):Option (TL Fa.σs⊕Out E5):=
 br (iL t57 t56)
 (
  ak (room 24 (List.length (ap b3 ((true,(t5,(t57,())))::[]))))<|
  some (.inl (t5,(t46,(t47,(t56,((IntKind.wrap .i64 (t57+(1:Int))),(aB,(aI,(aJ,(aL,(aR,(aZ,(aq,(aO,(cz,(ca,(iC,(fl,(fT,(lR,(lT,(lU,(b2,((ap b3 ((true,(t5,(t57,())))::[])),(b4,(b5,())))))))))))))))))))))))))))
 (
  some (.inr (t46,(t47,(aB,(aI,(aJ,(aL,(aR,(aZ,(aq,(aO,(cz,(ca,(iC,(fl,(fT,(lR,(lT,(lU,(b2,(b3,(b4,(b5,()))))))))))))))))))))))))
def Oe  :DE:=bO (fun d=>yc   d.1 d.2.1 d.2.2.1 d.2.2.2.1 d.2.2.2.2.1 d.2.2.2.2.2.1 d.2.2.2.2.2.2.1 d.2.2.2.2.2.2.2.1 d.2.2.2.2.2.2.2.2.1 d.2.2.2.2.2.2.2.2.2.1 d.2.2.2.2.2.2.2.2.2.2.1 d.2.2.2.2.2.2.2.2.2.2.2.1 d.2.2.2.2.2.2.2.2.2.2.2.2.1 d.2.2.2.2.2.2.2.2.2.2.2.2.2.1 d.2.2.2.2.2.2.2.2.2.2.2.2.2.2.1 d.2.2.2.2.2.2.2.2.2.2.2.2.2.2.2.1 d.2.2.2.2.2.2.2.2.2.2.2.2.2.2.2.2.1 d.2.2.2.2.2.2.2.2.2.2.2.2.2.2.2.2.2.1 d.2.2.2.2.2.2.2.2.2.2.2.2.2.2.2.2.2.2.1 d.2.2.2.2.2.2.2.2.2.2.2.2.2.2.2.2.2.2.2.1 d.2.2.2.2.2.2.2.2.2.2.2.2.2.2.2.2.2.2.2.2.1 d.2.2.2.2.2.2.2.2.2.2.2.2.2.2.2.2.2.2.2.2.2.1 d.2.2.2.2.2.2.2.2.2.2.2.2.2.2.2.2.2.2.2.2.2.2.1 d.2.2.2.2.2.2.2.2.2.2.2.2.2.2.2.2.2.2.2.2.2.2.2.1 d.2.2.2.2.2.2.2.2.2.2.2.2.2.2.2.2.2.2.2.2.2.2.2.2.1) (pL k0 e0 1 l0 fun d=>by kernel_rfl)
def xY:DB:=bj (fun d=>yc   d.1 d.2.1 d.2.2.1 d.2.2.2.1 d.2.2.2.2.1 d.2.2.2.2.2.1 d.2.2.2.2.2.2.1 d.2.2.2.2.2.2.2.1 d.2.2.2.2.2.2.2.2.1 d.2.2.2.2.2.2.2.2.2.1 d.2.2.2.2.2.2.2.2.2.2.1 d.2.2.2.2.2.2.2.2.2.2.2.1 d.2.2.2.2.2.2.2.2.2.2.2.2.1 d.2.2.2.2.2.2.2.2.2.2.2.2.2.1 d.2.2.2.2.2.2.2.2.2.2.2.2.2.2.1 d.2.2.2.2.2.2.2.2.2.2.2.2.2.2.2.1 d.2.2.2.2.2.2.2.2.2.2.2.2.2.2.2.2.1 d.2.2.2.2.2.2.2.2.2.2.2.2.2.2.2.2.2.1 d.2.2.2.2.2.2.2.2.2.2.2.2.2.2.2.2.2.2.1 d.2.2.2.2.2.2.2.2.2.2.2.2.2.2.2.2.2.2.2.1 d.2.2.2.2.2.2.2.2.2.2.2.2.2.2.2.2.2.2.2.2.1 d.2.2.2.2.2.2.2.2.2.2.2.2.2.2.2.2.2.2.2.2.2.1 d.2.2.2.2.2.2.2.2.2.2.2.2.2.2.2.2.2.2.2.2.2.2.1 d.2.2.2.2.2.2.2.2.2.2.2.2.2.2.2.2.2.2.2.2.2.2.2.1 d.2.2.2.2.2.2.2.2.2.2.2.2.2.2.2.2.2.2.2.2.2.2.2.2.1) NN
def ye(L11:DB)(t46 t47 aB:Int)(aI:List Int)(aJ:List (Sh.T al))(aL aR aZ:List Int)(aq:List (Sh.T an))(aO:List (Sh.T al))(cz:Int)(ca:List Int)(iC:List (Sh.T al))(fl fT lR:List Int)(lT:List (Sh.T an))(lU:List (Sh.T al))(b2:List Int)(b3:List (Sh.T cM))(b4 b5:List Int):Option (TL FG.σs⊕Out Fo):=
 br (iL t47 t46)
 (
  ak (ah t47 (List.length aq))<|
  az (L11 (t47,(t46,(t47,((Int.ofNat (List.length (gt an aq t47).2.2.2.1)),((0:Int),(aB,(aI,(aJ,(aL,(aR,(aZ,(aq,(aO,(cz,(ca,(iC,(fl,(fT,(lR,(lT,(lU,(b2,(b3,(b4,(b5,())))))))))))))))))))))))))) fun x0=>
  some (.inl (x0.1,((IntKind.wrap .i64 (@HAdd.hAdd (Int) (Int) (Int) _ x0.2.1 (1:Int))),x0.2.2))))
 (
  some (.inr (cz,(ca,(iC,(fl,(fT,(lR,(lT,(lU,(b2,(b3,(b4,(b5,()))))))))))))))
def Zn(M11:DE):DH:=bO (pX (ye M11.L)) (pL k0 e0 1 (sC M11 l0) fun d=>by kernel_rfl)
def Zl:DH:=Zn  Oe
def x8:Of:=bj (pX (ye xY)) NN
def ya(t7 t78 t79:Int)(t86:List Int)(t87 t88 aB:Int)(aI:List Int)(aJ:List (Sh.T al))(aL aR aZ:List Int)(aq:List (Sh.T an))(aO:List (Sh.T al))(b1:List Int)(b2:List (Sh.T cM))(b3 b4:List Int):Option (TL E9.σs⊕Out E4):=
 br (iL t88 t87)
 (
  ak (ah t88 (List.length t86))<|
  ak (ah (gt (.int .i64) t86 t88) (List.length b1))<|
  some (.inl (t7,(t78,(t79,(t86,(t87,((IntKind.wrap .i64 (t88+(1:Int))),(aB,(aI,(aJ,(aL,(aR,(aZ,(aq,(aO,((List.set b1 (Int.toNat (gt (.int .i64) t86 t88)) (IntKind.wrap .i64 (t7+(1:Int)))),(b2,(b3,(b4,()))))))))))))))))))))
 (
  some (.inr (t78,(t79,(aB,(aI,(aJ,(aL,(aR,(aZ,(aq,(aO,(b1,(b2,(b3,(b4,()))))))))))))))))
def Od  :DC:=bO (Ht ya) (pL k0 e0 1 l0 fun d=>by kernel_rfl)
def xX:DA:=bj (Ht ya) NN
def yb(F0:vI)(L20:DA)(t78 t79 aB:Int)(aI:List Int)(aJ:List (Sh.T al))(aL aR aZ:List Int)(aq:List (Sh.T an))(aO:List (Sh.T al))(b1:List Int)(b2:List (Sh.T cM))(b3 b4:List Int):Option (TL Fq.σs⊕Out Fe):=
 br (iL t79 t78)
 (
  ak (ah t79 (List.length b2))<|
  az (F0 ((gt cM b2 t79).1,((gt cM b2 t79).2.1,((gt cM b2 t79).2.2.1,(aB,(aI,(aJ,(aL,(aR,(aZ,(aq,(aO,(b1,(b2,(b3,(b4,())))))))))))))))) fun x0=>
  az (L20 (t79,(t78,(t79,(x0.1,((Int.ofNat (List.length x0.1)),((0:Int),x0.2))))))) fun x1=>
  some (.inl (x1.1,((IntKind.wrap .i64 (@HAdd.hAdd (Int) (Int) (Int) _ x1.2.1 (1:Int))),x1.2.2))))
 (
  some (.inr (aB,(aI,(aJ,(aL,(aR,(aZ,(aq,(aO,(b1,(b2,(b3,(b4,()))))))))))))))
def Zh(c0:rm)(M20:DC):DD:=bO (ji (yb c0.F M20.L)) (pL (kB c0 k0) e0 1 (sC M20 l0) fun d=>by kernel_rfl)
def Zg:DD:=Zh vJ Od
def xZ:Oc:=bj (ji (yb wT xX)) NN
def FU(F0:vI)(L3:Og)(L8:Of)(L11:DB)(L17:Oc)(L20:DA)(fp:Int)(rQ:List Int)(rR:List (Sh.T al))(rS rT rU:List Int)(rV:List (Sh.T an))(o6:List (Sh.T al)):Option (Out FF):=
 ak (both (iE (0:Int) (IntKind.wrap .i64 (fp+(1:Int)))) (both (iE (IntKind.wrap .i64 (fp+(1:Int))) (IntKind.wrap .i64 (fp+(1:Int)))) (iE ((Int.ofNat 8)*(IntKind.wrap .i64 (fp+(1:Int)))) (281474976710656:Int))))<|
 ak (both (iE (0:Int) (IntKind.wrap .i64 (fp+(1:Int)))) (both (iE (IntKind.wrap .i64 (fp+(1:Int))) (IntKind.wrap .i64 (fp+(1:Int)))) (iE ((Int.ofNat 1)*(IntKind.wrap .i64 (fp+(1:Int)))) (281474976710656:Int))))<|
 ak (both (iE (0:Int) (IntKind.wrap .i64 (fp+(1:Int)))) (both (iE (IntKind.wrap .i64 (fp+(1:Int))) (IntKind.wrap .i64 (fp+(1:Int)))) (iE ((Int.ofNat 8)*(IntKind.wrap .i64 (fp+(1:Int)))) (281474976710656:Int))))<|
 az (L3 ((Int.ofNat (List.length o6)),((0:Int),(fp,(rQ,(rR,(rS,(rT,(rU,(rV,(o6,(fp,(rQ,(rR,(rS,(rT,(rU,(rV,(o6,((List.replicate (Int.toNat (IntKind.wrap .i64 (fp+(1:Int)))) (Sh.zero (.int .i64))),([],((List.replicate (Int.toNat (IntKind.wrap .i64 (fp+(1:Int)))) (Sh.zero (.int .u8))),((List.replicate (Int.toNat (IntKind.wrap .i64 (fp+(1:Int)))) (Sh.zero (.int .i64))),()))))))))))))))))))))))) fun x0=>
 az (L8 ((Int.ofNat (List.length x0.2.2.2.2.2.2.1)),((0:Int),x0))) fun x1=>
 az (L17 ((Int.ofNat (List.length x1.2.2.2.2.2.2.2.2.2.1)),((0:Int),x1))) fun x2=>
 some x2
def Zs(c0:rm)(M3:Oh)(M8:DH)(M11:DE)(M17:DD)(M20:DC):DI:=⟨u8 (FU c0.F M3.L M8.L M11.L M17.L M20.L),pB Tryz.func210 103 (kB c0 k0) e0 1 (sS (sC M3 (sC M8 (sC M17 l0)))) fun d=>by kernel_rfl⟩
def On:DI:=Zs vJ Zm Zl Oe Zg Od
def Zo9:Om:=On.F
abbrev Qo:Lay:={ T:=[(0,.agg gR)],h:=[],nx:=0 }
abbrev FI:List (Ev.Ex×Lay):=[(.ret,{ T:=[(0,.cg),(1,.int .i64)],h:=[],nx:=0 }),(.ret,{ T:=[(0,.ptr 0 0),(1,.int .i64)],h:=gi,nx:=5 })]
abbrev N9:=TL Qo.σs->Option (Out FI)
abbrev DF:=Kb 130 1 Qo 2 FI
def Zw8(F0:Zu)(F1:N3)(F2:Om)(fp:Int)(rQ:List Int)(rR:List (Sh.T al))(rS rT rU:List Int)(rV:List (Sh.T an))(o6:List (Sh.T al)):Option (Out FI):=
 az (F0 ((fp,(rQ,(rR,(rS,(rT,(rU,(rV,(o6,())))))))),())) fun x0=>
 br (Bool.not (iQ x0.1 (0:Int)))
 (
  some (.inl (x0.1,())))
 (
  az (F2 (fp,(rQ,(rR,(rS,(rT,(rU,(rV,(o6,()))))))))) fun x1=>
  az (F1 x1) fun x2=>
  br (Bool.not x2.1)
  (
   some (.inl ((8:Int),())))
  (
   some (.inr ((0:Int),x2.2))))
def Zt(c0:Oq)(c1:Dv)(c2:DI) :DF:=⟨u8 (Zw8 c0.F c1.F c2.F),pB Tryz.func130 17 (kD c0 (kB c1 (kB c2 k0))) e0 1 (sS l0) fun d=>by kernel_rfl⟩
def Oa:DF:=Zt Zv N4 On
def FP:N9:=Oa.F
abbrev Qq:List Sh:=[bE]
abbrev FR:List Sh:=[(.int .i64)]
abbrev MG:=TL Qq->Option (TL FR)
abbrev CE:=Kd 58 Qq FR
def Zul(F0:N9)(a0:Sh.T bE):Option (TL FR):=
 az (F0 a0) fun x0=>
 (match x0 with|.inl x1=>some (x1.1,())|.inr x1=>some (x1.1,())
 )
def Zo(c0:DF) :CE:=⟨u1 (Zul c0.F),pD Tryz.func58 11 (kB c0 k0) e0 1 (sS l0) fun d=>by kernel_rfl⟩
def MH:CE:=Zo Oa
def Zfn:MG:=MH.F
