import Derived.Test.YtkcpdpplobhpaaaGreatKMf
import Derived.Test.YtkcpdpplobhpaaaGreatKNb
set_option linter.unusedVariables false
set_option linter.unusedSimpArgs false
set_option linter.unnecessarySimpa false
section
namespace Go.Proofs.YtkcpdpplobhpaaaGreat.V
open Go Go.RowKit Go.Proofs.YtkcpdpplobhpaaaGreat.Pl
def iI(x:aa.T):bA:=⟨x.1,x.2.1,x.2.2.1⟩
def kY(x:aa.T):cM:=⟨x.1,x.2.1,x.2.2.1⟩
def oE(x:bJ.T):j3:=⟨x.1,x.2.1⟩
def p9(x:bj.T):jR:=⟨x.1,x.2.1,x.2.2.1⟩
def mo(x:ab.T):aX:=⟨x.1,x.2.1,x.2.2.1,x.2.2.2.1.map oE,x.2.2.2.2.1.map p9⟩
def df(x:ba.T):au:=⟨x.1,x.2.1,x.2.2.1.map iI,x.2.2.2.1,x.2.2.2.2.1,x.2.2.2.2.2.1,x.2.2.2.2.2.2.1.map mo,x.2.2.2.2.2.2.2.1.map kY⟩
def aB(x:bA):aa.T:=(x.var,(x.next,(x.init,())))
def aY(x:cM):aa.T:=(x.var,(x.a,(x.b,())))
def cq(x:j3):bJ.T:=(x.var,(x.addr,()))
def cK(x:jR):bj.T:=(x.on,(x.addr,(x.data,())))
def ak(x:aX):ab.T:=(x.addr,(x.word,(x.any,(x.reads.map cq,(x.writes.map cK,())))))
def aQ(x:au):ba.T:=(x.vars,(x.inputs,(x.latches.map aB,(x.outputs,(x.bads,(x.constraints,(x.mems.map ak,(x.ands.map aY,()))))))))
theorem map_id'{α β:Type}{f:α->β}{g:β->α}(h:∀x,g (f x)=x):∀L:List α,(L.map f).map g=L
 |[]=>rfl|x::L=>by simp only[List.map_cons,h,map_id' h L]
theorem aeN(a b:Int)(c:Bool)(d:List bJ.T)(e:List bj.T):((a,(b,(c,((d.map oE).map cq,((e.map p9).map cK,()))))):Int×Int×Bool×List bJ.T×List bj.T×Unit)=(a,(b,(c,(d,(e,()))))):=by rw[map_id' (f:=oE) (g:=cq) (fun x=>rfl),map_id' (f:=p9) (g:=cK) (fun x=>rfl)]
theorem ahV(x:ab.T):ak (mo x)=x:=aeN x.1 x.2.1 x.2.2.1 x.2.2.2.1 x.2.2.2.2.1
theorem aeR(a:Int)(b:List Int)(c:List aa.T)(d e f:List Int)(g:List ab.T)(h:List aa.T) :
  ((a,(b,((c.map iI).map aB,(d,(e,(f,((g.map mo).map ak,((h.map kY).map aY,())))))))):Int×List Int×List aa.T×List Int×List Int×List Int×List ab.T×List aa.T×Unit)=(a,(b,(c,(d,(e,(f,(g,(h,())))))))):=by
 rw[map_id' (f:=iI) (g:=aB) (fun x=>rfl),map_id' (f:=kY) (g:=aY) (fun x=>rfl),map_id' (f:=mo) (g:=ak) ahV]
theorem Ly(x:ba.T):aQ (df x)=x:=aeR x.1 x.2.1 x.2.2.1 x.2.2.2.1 x.2.2.2.2.1 x.2.2.2.2.2.1 x.2.2.2.2.2.2.1 x.2.2.2.2.2.2.2.1
theorem ahW(x:aX):mo (ak x)=x:=by obtain⟨a,b,c,d,e⟩:=x;show(⟨a,b,c,(d.map cq).map oE,(e.map cK).map p9⟩:aX)=_;rw[map_id' (f:=cq) (g:=oE) (fun x=>rfl),map_id' (f:=cK) (g:=p9) (fun x=>rfl)]
theorem jP(x:au):df (aQ x)=x:=by obtain⟨a,b,c,d,e,f,g,h⟩:=x;show(⟨a,b,(c.map aB).map iI,d,e,f,(g.map ak).map mo,(h.map aY).map kY⟩:au)=_;rw[map_id' (f:=aB) (g:=iI) (fun x=>rfl),map_id' (f:=aY) (g:=kY) (fun x=>rfl),map_id' (f:=ak) (g:=mo) ahW]
theorem qY{w:World}{A:Nat->Prop}{s:Sh}{L:List s.T}{V:Value}(h:Cs w A (.sl s) L [V]) :
  ∃a cap X,V=.slice a L.length cap/\aL (Cs w A s) L X/\Sl w w.heap.size s.size a L.length cap X:=by
 obtain⟨a,len,cap,e1,rfl,e3,e4⟩:=h;simp only[List.cons.injEq,and_true]at e1;subst e1;by_cases hL:L=[]
 .subst hL;exact⟨a,cap,[],rfl,rfl,⟨by simp,fun h=>absurd h (by simp)⟩,e3,Nat.zero_le _⟩
 .obtain⟨b,o,X,rfl,q2,q3,c,ty,fr,q4,q5⟩:=e4 hL;refine⟨_,cap,X,rfl,q3,⟨aL.length (fun x c=>Cs.length) q3,fun _=>⟨_,rfl,cY q4,fun j u hj=>?_⟩⟩,e3,Nat.zero_le _⟩;have:=q5 j u hj;rw[show(⟨b,o,none⟩:Addr).add j=⟨b,o+j,none⟩from by simp[Ev.dL]];simp only[World.cell?,q4,Option.isSome_none,Bool.false_eq_true,if_false];exact this
theorem EC{α:Type}{R:α->List Value->Prop}{g:α->List Value}(h:∀x c,R x c->c=g x):∀{L:List α}{X:List Value},aL R L X->X=L.flatMap g
 |[],X,q=>q|x::L,X,⟨c,r,e,q,t⟩=>by rw[e,h x c q,EC h t];rfl
theorem tO{w:World}{A:Nat->Prop}{d:TL []}{cs:List Value}(h:dK w A [] d cs):cs=[]:=h
theorem eD{w:World}{A:Nat->Prop}{s:Sh}{l:List Sh}{d:TL (s::l)}{cs:List Value}(h:dK w A (s::l) d cs):∃c r,cs=c++r/\Cs w A s d.1 c/\dK w A l d.2 r:=h
theorem qT{w:World}{A:Nat->Prop}{s:Sh}{L:List s.T}{c:List Value}(h:Cs w A (.sl s) L c):∃V,c=[V]/\Cs w A (.sl s) L [V]:=by obtain⟨a,len,cap,e1,q⟩:=h;exact⟨_,e1,a,len,cap,rfl,q⟩
theorem ET{α β γ:Type}{f:α->γ}{g:β->γ}{L:List α}{M:List β}(h:L.map f=M.map g):M.length=L.length:=by have:=congrArg List.length h;rw[List.length_map,List.length_map]at this;exact this.symm
theorem SV:∀L:List Int,L.flatMap (fun n=>[Value.int .i64 n])=ints L
 |[]=>rfl|x::L=>by have:=SV L;unfold ints at this |-;rw[List.flatMap_cons,this];rfl
theorem nS{w:World}{A:Nat->Prop}{L:List Int}{c:List Value}(h:Cs w A (.sl (.int .i64)) L c):∃a cap,c=[.slice a L.length cap]/\Sl w w.heap.size 1 a L.length cap (ints L):=by
 obtain⟨V,rfl,h⟩:=qT h;obtain⟨a,cap,X,rfl,h1,h2⟩:=qY h;have:X=ints L:=by have:=EC (g:=fun n=>[Value.int .i64 n]) (fun x c q=>q) h1;rw[this];exact SV L
 subst this;exact⟨a,cap,rfl,h2⟩
theorem afC{w:World}{A:Nat->Prop}{x:aa.T}{c:List Value}(h:Cs w A aa x c):c=(iI x).cells:=by obtain⟨c1,r1,rfl,h1,q1⟩:=eD h;obtain⟨c2,r2,rfl,h2,q2⟩:=eD q1;obtain⟨c3,r3,rfl,h3,q3⟩:=eD q2;rw[tO q3,show c1=_ from h1,show c2=_ from h2,show c3=_ from h3];rfl
theorem SZ{w:World}{A:Nat->Prop}{L:List aa.T}{c:List Value}(h:Cs w A (.sl aa) L c):∃a cap,c=[.slice a (L.map iI).length cap]/\Sl w w.heap.size 3 a (L.map iI).length cap ((L.map iI).flatMap bA.cells):=by obtain⟨V,rfl,h⟩:=qT h;obtain⟨a,cap,X,rfl,h1,h2⟩:=qY h;have:=EC (g:=fun x=>(iI x).cells) (fun x c q=>afC q) h1;refine⟨a,cap,by simp,?_⟩;rw[List.length_map,List.flatMap_map,<-this];exact h2
theorem aeb{w:World}{A:Nat->Prop}{L:List aa.T}{c:List Value}(h:Cs w A (.sl aa) L c):∃a cap,c=[.slice a (L.map kY).length cap]/\Sl w w.heap.size 3 a (L.map kY).length cap ((L.map kY).flatMap cM.cells):=by obtain⟨a,cap,e,h⟩:=SZ h;rw[List.length_map]at e h |-;exact⟨a,cap,e,by rw[List.flatMap_map]at h |-;exact h⟩
theorem Sk{w:World}{A:Nat->Prop}:∀{L:List bJ.T}{X:List Value},aL (Cs w A bJ) L X->∃Rs:List bX,Rs.map bX.d=L.map oE/\X=Rs.flatMap bX.cells/\∀r∈Rs,r.okIn w w.heap.size
 |[],X,h=>⟨[],rfl,h,fun r hr=>by cases hr⟩
 |x::L,X,⟨c,r,e,q,t⟩=>by
  obtain⟨Rs,k1,k2,k3⟩:=Sk t;obtain⟨c1,r1,rfl,h1,q1⟩:=eD q;obtain⟨c2,r2,rfl,h2,q2⟩:=eD q1;obtain⟨a,cap,rfl,hs⟩:=nS h2;refine⟨⟨x.1,a,cap,x.2.1⟩::Rs,by simp only[List.map_cons,k1];rfl,?_,?_⟩
  .rw[e,tO q2,show c1=_ from h1,k2];rfl
  .intro r hr;rcases List.mem_cons.1 hr with rfl|hr
   .exact hs
   .exact k3 r hr
theorem Ri{w:World}{A:Nat->Prop}:∀{L:List bj.T}{X:List Value},aL (Cs w A bj) L X->∃Rs:List cJ,Rs.map cJ.d=L.map p9/\X=Rs.flatMap cJ.cells/\∀r∈Rs,r.okIn w w.heap.size
 |[],X,h=>⟨[],rfl,h,fun r hr=>by cases hr⟩
 |x::L,X,⟨c,r,e,q,t⟩=>by
  obtain⟨Rs,k1,k2,k3⟩:=Ri t;obtain⟨c1,r1,rfl,h1,q1⟩:=eD q;obtain⟨c2,r2,rfl,h2,q2⟩:=eD q1;obtain⟨c3,r3,rfl,h3,q3⟩:=eD q2;obtain⟨a,cap,rfl,hs⟩:=nS h2;obtain⟨a',cap',rfl,hs'⟩:=nS h3;refine⟨⟨x.1,a,cap,x.2.1,a',cap',x.2.2.1⟩::Rs,by simp only[List.map_cons,k1];rfl,?_,?_⟩
  .rw[e,tO q3,show c1=_ from h1,k2];rfl
  .intro r hr;rcases List.mem_cons.1 hr with rfl|hr
   .exact⟨hs,hs'⟩
   .exact k3 r hr
theorem SX{w:World}{A:Nat->Prop}:∀{L:List ab.T}{X:List Value},aL (Cs w A ab) L X->∃Ms:List aN,Ms.map aN.d=L.map mo/\X=Ms.flatMap aN.cells/\∀m∈Ms,m.okIn w w.heap.size
 |[],X,h=>⟨[],rfl,h,fun r hr=>by cases hr⟩
 |x::L,X,⟨c,r,e,q,t⟩=>by
  obtain⟨Ms,k1,k2,k3⟩:=SX t;obtain⟨c1,r1,rfl,h1,q1⟩:=eD q;obtain⟨c2,r2,rfl,h2,q2⟩:=eD q1;obtain⟨c3,r3,rfl,h3,q3⟩:=eD q2;obtain⟨c4,r4,rfl,h4,q4⟩:=eD q3;obtain⟨c5,r5,rfl,h5,q5⟩:=eD q4;obtain⟨V4,rfl,h4⟩:=qT h4;obtain⟨V5,rfl,h5⟩:=qT h5;obtain⟨a,cap,X4,rfl,f4,s4⟩:=qY h4;obtain⟨a',cap',X5,rfl,f5,s5⟩:=qY h5;obtain⟨Rs,rk,rfl,rok⟩:=Sk f4;obtain⟨Ws,wk,rfl,wok⟩:=Ri f5;have l4:x.2.2.2.1.length=Rs.length:=ET rk;have l5:x.2.2.2.2.1.length=Ws.length:=ET wk;have l4':List.length x.2.2.2.1=Rs.length:=l4;refine⟨⟨x.1,x.2.1,x.2.2.1,a,cap,Rs,a',cap',Ws⟩::Ms,?_,?_,?_⟩
  .simp only[List.map_cons,k1,aN.d,rk,wk];rfl
  .rw[e,tO q5,show c1=_ from h1,show c2=_ from h2,show c3=_ from h3,k2];show[_,_,_,Value.slice a (List.length x.2.2.2.1) cap,Value.slice a' (List.length x.2.2.2.2.1) cap']++_=_;rw[l4,l5];rfl
  .intro m hm;rcases List.mem_cons.1 hm with rfl|hm
   .exact⟨by rw[<-l4];exact s4,rok,by rw[<-l5];exact s5,wok⟩
   .exact k3 m hm
theorem afI{w:World}{A:Nat->Prop}{d:ba.T}{V:Value}(h:fx w A ba d V):∃N:aV,N.v=V/\N.d=df d/\N.okIn w w.heap.size:=by
 obtain⟨h,hagg⟩:=h;obtain⟨c1,r1,e1,h1,q1⟩:=eD h;obtain⟨c2,r2,rfl,h2,q2⟩:=eD q1;obtain⟨c3,r3,rfl,h3,q3⟩:=eD q2;obtain⟨c4,r4,rfl,h4,q4⟩:=eD q3;obtain⟨c5,r5,rfl,h5,q5⟩:=eD q4;obtain⟨c6,r6,rfl,h6,q6⟩:=eD q5;obtain⟨c7,r7,rfl,h7,q7⟩:=eD q6;obtain⟨c8,r8,rfl,h8,q8⟩:=eD q7;obtain⟨a2,p2,rfl,s2⟩:=nS h2;obtain⟨a3,p3,rfl,s3⟩:=SZ h3;obtain⟨a4,p4,rfl,s4⟩:=nS h4;obtain⟨a5,p5,rfl,s5⟩:=nS h5;obtain⟨a6,p6,rfl,s6⟩:=nS h6;obtain⟨V7,rfl,h7⟩:=qT h7;obtain⟨a7,p7,X7,rfl,f7,s7⟩:=qY h7;obtain⟨Ms,k1,rfl,k3⟩:=SX f7;obtain⟨a8,p8,rfl,s8⟩:=aeb h8;have l7:List.length d.2.2.2.2.2.2.1=Ms.length:=ET k1;refine⟨⟨d.1,a2,p2,d.2.1,a3,p3,d.2.2.1.map iI,a4,p4,d.2.2.2.1,a5,p5,d.2.2.2.2.1,a6,p6,d.2.2.2.2.2.1,a7,p7,Ms,a8,p8,d.2.2.2.2.2.2.2.1.map kY⟩,?_,?_,?_⟩
 .cases V with|agg cs=>have e1':cs.toList=c1++_:=e1;rw[tO q8,show c1=_ from h1,l7]at e1';show Value.agg _=Value.agg cs;congr 1;apply Array.toList_inj.1;rw[e1'];rfl|_=>cases hagg
 .simp only[aV.d,k1];rfl
 .exact⟨s2,s3,s4,s5,s6,by rw[<-l7];exact s7,k3,s8⟩
instance i64Dec(x:Int):Decidable (bI x):=inferInstanceAs (Decidable (_/\_))
instance memFitDec(m:aX):Decidable (E7 m):=decidable_of_iff
 ((bI m.word/\m.word<=4000)/\bI m.addr/\m.reads.length<=100/\m.writes.length<=100/\(∀r∈m.reads,r.addr.length<=4000/\-1099511627776<=r.var/\r.var<=1099511627776/\∀x∈r.addr,bI x) /\
  ∀r∈m.writes,r.addr.length<=4000/\r.data.length<=4000/\bI r.on/\(∀x∈r.addr,bI x)/\∀x∈r.data,bI x)
 ⟨fun⟨a,b,c,d,e,f⟩=>⟨a,b,c,d,e,f⟩,fun⟨a,b,c,d,e,f⟩=>⟨a,b,c,d,e,f⟩⟩
instance fitDec(n:au):Decidable (Fit n):=decidable_of_iff
 (bI n.vars/\(n.inputs.length<=4000/\∀x∈n.inputs,bI x)/\(n.latches.length<=4000/\∀l∈n.latches,bI l.var/\bI l.next/\bI l.init)/\(n.outputs.length<=4000/\∀x∈n.outputs,bI x) /\
  (n.bads.length<=4000/\∀x∈n.bads,bI x)/\(n.constraints.length<=4000/\∀x∈n.constraints,bI x)/\(n.mems.length<=100/\∀m∈n.mems,E7 m)/\(n.ands.length<=4000/\∀a∈n.ands,bI a.var/\bI a.a/\bI a.b))
 ⟨fun⟨a,b,c,d,e,f,g,h⟩=>⟨a,b,c,d,e,f,g,h⟩,fun⟨a,b,c,d,e,f,g,h⟩=>⟨a,b,c,d,e,f,g,h⟩⟩
def Jz(n:au):Bool:=decide (Fit n)
theorem aeo{n:au}(h:Jz n=true):Fit n:=of_decide_eq_true h
theorem wu{n:au}(h:Fit n):Jz n=true:=decide_eq_true h
def jc:TL [ba]->Option (TL [.int .i64]):=fun d=>match Jz (df d.1)with|true=>some (ca (df d.1),())|false=>none
theorem Zf{f:FuncId}{fn:Func}{c:Code}(h1:Tryz.prog.funcs[f]?=some fn)(h2:(fn.name == "runtime.NumGoroutine")=false)(h3:fn.body=some c)
  (h:∀(N:aV) (w:World),N.okIn w w.heap.size->Fit N.d->Calls Tryz.prog f #[N.v] w fun e w'=>e=.returned (.int .i64 (ca N.d))/\Below w.heap.size w w'):Comes Tryz.prog f [ba] [.int .i64] jc:=by
 refine⟨⟨fn,c,h1,h2,h3⟩,?_⟩;intro d x hx w A args hA ha;unfold jc at hx;split at hx<;>cases hx;rename_i hf;obtain⟨V,r,rfl,hd,hr⟩:=ha;have:r=[]:=hr;subst this;obtain⟨N,rfl,hN,hok⟩:=afI hd;have hf:=aeo hf;rw[<-hN]at hf;refine(h N w hok hf).mono ?_;rintro e w' ⟨rfl,hb⟩;exact⟨[.int .i64 (ca N.d)],rfl,hb,_,[],rfl,⟨by rw[hN];rfl,rfl⟩,rfl⟩
theorem Zwv:Comes Tryz.prog 193 [ba] [.int .i64] jc:=Zf (fn:=Tryz.f193) (c:=aG Tryz.f193) Tryz.func193 (by kernel_rfl) (by kernel_rfl) agK
theorem Zct:Comes Tryz.prog 85 [ba] [.int .i64] jc:=Zf (fn:=Tryz.f85) (c:=aG Tryz.f85) Tryz.func85 (by kernel_rfl) (by kernel_rfl) agM
def pw:=jc
abbrev aln:=TL [ba]->Option (TL [.int .i64])
abbrev WD:=Kd 193 [ba] [.int .i64]
def alo:WD:=⟨jc,Zwv⟩
abbrev Vy:=TL [ba]->Option (TL [.int .i64])
abbrev HK:=Kd 85 [ba] [.int .i64]
def Vz:HK:=⟨pw,Zct⟩
set_option maxRecDepth 1000000
abbrev YV:List Sh:=[(.int .i64)]
abbrev Ls:List Sh:=[(.int .i64)]
abbrev yX:=TL YV->Option (TL Ls)
abbrev sc:=Kd 101 YV Ls
def LF(a0:Int):Option (TL Ls):=some ((Int.fdiv a0 (HPow.hPow (2:Int) (Min.min (Int.toNat (1:Int)) 64))),())
def alD  :sc:=⟨u1 LF,pD Tryz.func101 5 k0 e0 1 (sS l0) fun d=>by kernel_rfl⟩
def yY:sc:=alD
def te:yX:=yY.F
abbrev KZ:ae:={ T:=[(1,.int .i64),(2,.ptr 0 0),(4,.hd 1 (.int .i64)),(16,.int .i64),(17,.int .i64)],h:=[(0,.cells [.int .i64,.int .i64,.bool,.fz bJ,.fz bj] 116),(1,.arr (.int .i64) 3)],nx:=2 }
abbrev KV:List (Ev.Ex×ae):=[((.exit 0),{ T:=[(4,.hd 0 (.int .i64))],h:=[(0,.arr (.int .i64) 3)],nx:=1 })]
abbrev WE:=TL KZ.σs->Option (Out KV)
abbrev WG:=Ld 0 33 (aT [0] (aG Tryz.f139)) KZ KV
def A5(t1 t16 t17 b0_0 b0_1:Int)(b0_2:Bool)(b0_3:List (Sh.T bJ))(b0_4:List (Sh.T bj))(b1:List Int):Option (TL KZ.σs⊕Out KV):=
 br (iL t17 t16)
 (
  ah (ar t1 (List.length b0_3))<|
  ah (room 8 (List.length (ap b1 ((IntKind.wrap .i64 (@HAdd.hAdd (Int) (Int) (Int) _ (gt bJ b0_3 t1).1 t17))::[]))))<|
  some (.inl (t1,(t16,((IntKind.wrap .i64 (t17+(1:Int))),(b0_0,(b0_1,(b0_2,(b0_3,(b0_4,((ap b1 ((IntKind.wrap .i64 (@HAdd.hAdd (Int) (Int) (Int) _ (gt bJ b0_3 t1).1 t17))::[])),())))))))))))
 (
  some (.inr (b1,())))
def alp  :WG:=aU (u9 A5) (pL k0 e0 1 l0 fun d=>by kernel_rfl)
def K8:WE:=aE (u9 A5) NN
abbrev YU:List Sh:=[ab,(.int .i64)]
abbrev Lr:List Sh:=[(.sl (.int .i64))]
abbrev WN:=TL YU->Option (TL Lr)
abbrev I8:=Kd 139 YU Lr
def LD(L4:WE)(a0:Sh.T ab)(a1:Int):Option (TL Lr):=
 br (iL a1 (0:Int))
 (
  some ([],()))
 (
  br (aR false true (iE (Int.ofNat (List.length a0.2.2.2.1)) a1))
  (
   some ([],()))
  (
   ai (L4 (a1,(a0.2.1,((0:Int),(a0.1,(a0.2.1,(a0.2.2.1,(a0.2.2.2.1,(a0.2.2.2.2.1,([],())))))))))) fun x0=>
   some (x0.1,())))
def alC(M4:WG):I8:=⟨u2 (LD M4.L),pD Tryz.func139 33 k0 e0 1 (sS (sC M4 l0)) fun d=>by kernel_rfl⟩
def WO:I8:=alC  alp
def Lc:WN:=WO.F
abbrev f9:List (Nat×LO):=[(0,.cells [.int .i64,.fz (.int .i64),.fz aa,.fz (.int .i64),.fz (.int .i64),.fz (.int .i64),.fz ab,.fz aa,.hd 1 (.int .i64),.hd 2 ag,.hd 3 (.int .u8),.hd 4 (.int .i64)] 224),(1,.arr (.int .i64) 3),(2,.arr ag 148),(3,.arr (.int .u8) 5),(4,.arr (.int .i64) 3)]
abbrev zp:List (Nat×LO):=[(0,.cells ep 27),(1,.cells [.int .i64,.fz (.int .i64),.fz aa,.fz (.int .i64),.fz (.int .i64),.fz (.int .i64),.fz ab,.fz aa,.hd 2 (.int .i64),.hd 3 ag,.hd 4 (.int .u8),.hd 5 (.int .i64)] 224),(2,.arr (.int .i64) 3),(3,.arr ag 148),(4,.arr (.int .u8) 5),(5,.arr (.int .i64) 3)]
abbrev zq:List (Nat×LO):=[(0,.cells [.fz (.int .i64)] 22),(1,.cells [.ptr 2 0] 198),(2,.cells [.int .i64,.fz (.int .i64),.fz aa,.fz (.int .i64),.fz (.int .i64),.fz (.int .i64),.fz ab,.fz aa,.hd 3 (.int .i64),.hd 4 ag,.hd 5 (.int .u8),.hd 6 (.int .i64)] 224),(3,.arr (.int .i64) 3),(4,.arr ag 148),(5,.arr (.int .u8) 5),(6,.arr (.int .i64) 3)]
abbrev JJ:List (Nat×LO):=[(0,.cells [.int .i64,.fz (.int .i64),.fz aa,.fz (.int .i64),.fz (.int .i64),.fz (.int .i64),.fz ab,.fz aa,.hd 1 (.int .i64),.hd 2 ag,.hd 3 (.int .u8),.hd 4 (.int .i64)] 224),(1,.arr (.int .i64) 3),(2,.arr ag 148),(3,.arr (.int .u8) 5),(4,.arr (.int .i64) 3),(5,.cells [.ptr 0 0] 198),(6,.cells [.fz (.int .i64)] 22)]
abbrev XE:ae:={ T:=[(3,.ptr 0 0),(77,.hd 2 ag),(78,.int .i64),(79,.int .i64)],h:=f9,nx:=5 }
abbrev XF:ae:={ T:=[(1,.ptr 0 0),(3,.ptr 1 0),(46,.int .i64),(47,.int .i64)],h:=zp,nx:=6 }
abbrev XG:ae:={ T:=[(0,.ptr 0 0),(1,.agg [.bool,.int .i64,.int .i64])],h:=f9,nx:=5 }
abbrev X6:ae:=XG
abbrev J0:List (Ev.Ex×ae):=[(.ret,{ T:=[(0,.fz (.int .i64))],h:=f9,nx:=5 })]
abbrev VH:=TL X6.σs->Option (Out J0)
abbrev Ia:=Kb 240 2 X6 1 J0
def KQ(t1_0:Bool)(t1_1 t1_2 b0_0:Int)(b0_1:List Int)(b0_2:List (Sh.T aa))(b0_3 b0_4 b0_5:List Int)(b0_6:List (Sh.T ab))(b0_7:List (Sh.T aa))(b1:List Int)(b2:List (Sh.T ag))(b3 b4:List Int):Option (Out J0):=
 br t1_0
 (
  ah (ar t1_1 (List.length b0_6))<|
  ah (ar t1_2 (List.length (gt ab b0_6 t1_1).2.2.2.1))<|
  some ((gt bJ (gt ab b0_6 t1_1).2.2.2.1 t1_2).2.1,(b0_0,(b0_1,(b0_2,(b0_3,(b0_4,(b0_5,(b0_6,(b0_7,(b1,(b2,(b3,(b4,()))))))))))))))
 (
  ah (ar t1_2 (List.length b0_7))<|
  some (((gt aa b0_7 t1_2).2.1::((gt aa b0_7 t1_2).2.2.1::[])),(b0_0,(b0_1,(b0_2,(b0_3,(b0_4,(b0_5,(b0_6,(b0_7,(b1,(b2,(b3,(b4,()))))))))))))))
def akt  :Ia:=⟨dW KQ,pB Tryz.func240 37 k0 e0 1 (sS l0) fun d=>by kernel_rfl⟩
def VJ:Ia:=akt
def Ya:VH:=VJ.F
abbrev XY:ae:=XG
abbrev JX:List (Ev.Ex×ae):=[(.ret,{ T:=[(0,.fz (.int .i64))],h:=f9,nx:=5 })]
abbrev rP:=TL XY.σs->Option (Out JX)
abbrev oR:=Kb 148 2 XY 1 JX
def tg(F0:WN)(t1_0:Bool)(t1_1 t1_2 b0_0:Int)(b0_1:List Int)(b0_2:List (Sh.T aa))(b0_3 b0_4 b0_5:List Int)(b0_6:List (Sh.T ab))(b0_7:List (Sh.T aa))(b1:List Int)(b2:List (Sh.T ag))(b3 b4:List Int):Option (Out JX):=
 br t1_0
 (
  ah (ar t1_1 (List.length b0_6))<|
  ai (F0 (((gt ab b0_6 t1_1).1,((gt ab b0_6 t1_1).2.1,((gt ab b0_6 t1_1).2.2.1,((gt ab b0_6 t1_1).2.2.2.1,((gt ab b0_6 t1_1).2.2.2.2.1,()))))),(t1_2,()))) fun x0=>
  some (x0.1,(b0_0,(b0_1,(b0_2,(b0_3,(b0_4,(b0_5,(b0_6,(b0_7,(b1,(b2,(b3,(b4,()))))))))))))))
 (
  ah (ar t1_2 (List.length b0_7))<|
  some (((gt aa b0_7 t1_2).1::[]),(b0_0,(b0_1,(b0_2,(b0_3,(b0_4,(b0_5,(b0_6,(b0_7,(b1,(b2,(b3,(b4,()))))))))))))))
def akH(c0:I8) :oR:=⟨dW (tg c0.F),pB Tryz.func148 30 (kD c0 k0) e0 1 (sS l0) fun d=>by kernel_rfl⟩
def rQ:oR:=akH WO
def sU:rP:=rQ.F
abbrev X0:ae:={ T:=[(0,.int .u8),(1,.ptr 0 0),(2,.ptr 1 0)],h:=zq,nx:=7 }
abbrev JY:List (Ev.Ex×ae):=[(.ret,{ T:=[],h:=zq,nx:=7 })]
abbrev U1:=TL X0.σs->Option (Out JY)
abbrev He:=Kb 256 3 X0 0 JY
abbrev J5:ae:={ T:=[(0,.int .u8),(2,.ptr 1 0),(6,.fz (.int .i64)),(7,.int .i64),(8,.int .i64)],h:=zq,nx:=7 }
abbrev J3:List (Ev.Ex×ae):=[((.exit 0),{ T:=[],h:=zq,nx:=7 })]
abbrev UP:=TL J5.σs->Option (Out J3)
abbrev UQ:=Ld 7 20 (aT [0] (aG Tryz.f256)) J5 J3
def Ae(t0:Int)(t6:List Int)(t7 t8:Int)(b0_0:List Int)(b2_0:Int)(b2_1:List Int)(b2_2:List (Sh.T aa))(b2_3 b2_4 b2_5:List Int)(b2_6:List (Sh.T ab))(b2_7:List (Sh.T aa))(b3:List Int)(b4:List (Sh.T ag))(b5 b6:List Int):Option (TL J5.σs⊕Out J3):=
 br (iL t8 t7)
 (
  ah (ar t8 (List.length t6))<|
  ah (ar (gt (.int .i64) t6 t8) (List.length b5))<|
  some (.inl (t0,(t6,(t7,((IntKind.wrap .i64 (t8+(1:Int))),(b0_0,(b2_0,(b2_1,(b2_2,(b2_3,(b2_4,(b2_5,(b2_6,(b2_7,(b3,(b4,((List.set b5 (Int.toNat (gt (.int .i64) t6 t8)) t0),(b6,())))))))))))))))))))
 (
  some (.inr (b0_0,(b2_0,(b2_1,(b2_2,(b2_3,(b2_4,(b2_5,(b2_6,(b2_7,(b3,(b4,(b5,(b6,())))))))))))))))
def ajG  :UQ:=aU (jW Ae) (pL k0 e0 1 l0 fun d=>by kernel_rfl)
def Kk:UP:=aE (jW Ae) NN
def Ky(L1:UP)(t0:Int)(b0_0:List Int)(b2_0:Int)(b2_1:List Int)(b2_2:List (Sh.T aa))(b2_3 b2_4 b2_5:List Int)(b2_6:List (Sh.T ab))(b2_7:List (Sh.T aa))(b3:List Int)(b4:List (Sh.T ag))(b5 b6:List Int):Option (Out JY):=
 ai (L1 (t0,(b0_0,((Int.ofNat (List.length b0_0)),((0:Int),(b0_0,(b2_0,(b2_1,(b2_2,(b2_3,(b2_4,(b2_5,(b2_6,(b2_7,(b3,(b4,(b5,(b6,())))))))))))))))))) fun x0=>
 some x0
def ajR(M1:UQ):He:=⟨eJ (Ky M1.L),pB Tryz.func256 20 k0 e0 1 (sS (sC M1 l0)) fun d=>by kernel_rfl⟩
def U2:He:=ajR  ajG
def X8:U1:=U2.F
abbrev JW:ae:={ T:=[(0,.ptr 0 0),(1,.int .i64)],h:=f9,nx:=5 }
abbrev zz:List (Ev.Ex×ae):=[(.ret,{ T:=[(0,.bool)],h:=f9,nx:=5 })]
abbrev l9:=TL JW.σs->Option (Out zz)
abbrev kS:=Kb 226 2 JW 1 zz
abbrev J7:ae:={ T:=[(2,.ptr 5 0),(7,.func 256 [] [.ptr 6 0,.ptr 5 0]),(8,.int .i64),(86,.fz (.int .i64)),(87,.int .i64),(88,.int .i64)],h:=JJ,nx:=7 }
abbrev J4:List (Ev.Ex×ae):=[((.exit 3),{ T:=[(7,.func 256 [] [.ptr 5 0,.ptr 6 0])],h:=[(0,.cells [.int .i64,.fz (.int .i64),.fz aa,.fz (.int .i64),.fz (.int .i64),.fz (.int .i64),.fz ab,.fz aa,.hd 1 (.int .i64),.hd 2 ag,.hd 3 (.int .u8),.hd 4 (.int .i64)] 224),(1,.arr (.int .i64) 3),(2,.arr ag 148),(3,.arr (.int .u8) 5),(4,.arr (.int .i64) 3),(5,.cells [.fz (.int .i64)] 22),(6,.cells [.ptr 0 0] 198)],nx:=7 })]
abbrev UZ:=TL J7.σs->Option (Out J4)
abbrev Hb:=Ld 5 103 (aT [1] (aG Tryz.f226)) J7 J4
abbrev zS:ae:={ T:=[(2,.ptr 5 0),(6,.ptr 6 0),(7,.func 256 [] [.ptr 6 0,.ptr 5 0]),(8,.int .i64),(64,.fz (.int .i64)),(65,.int .i64),(66,.int .i64)],h:=JJ,nx:=7 }
abbrev zL:List (Ev.Ex×ae):=[(.ret,{ T:=[(4,.bool)],h:=f9,nx:=5 }),((.exit 1),{ T:=[(2,.ptr 5 0),(6,.ptr 6 0),(7,.func 256 [] [.ptr 6 0,.ptr 5 0]),(8,.int .i64)],h:=JJ,nx:=7 })]
abbrev U0:=TL zS.σs->Option (Out zL)
abbrev Hc:=Ld 5 103 (aT [0] (aG Tryz.f226)) zS zL
def KX(F0:yX)(F1:l9)(t8:Int)(t64:List Int)(t65 t66 b0_0:Int)(b0_1:List Int)(b0_2:List (Sh.T aa))(b0_3 b0_4 b0_5:List Int)(b0_6:List (Sh.T ab))(b0_7:List (Sh.T aa))(b1:List Int)(b2:List (Sh.T ag))(b3 b4 b6_0:List Int):Option (TL zS.σs⊕Out zL):=
 br (iL t66 t65)
 (
  ah (ar t66 (List.length t64))<|
  ai (F0 ((gt (.int .i64) t64 t66),())) fun x0=>
  ai (F1 (x0.1,(b0_0,(b0_1,(b0_2,(b0_3,(b0_4,(b0_5,(b0_6,(b0_7,(b1,(b2,(b3,(b4,())))))))))))))) fun x1=>
  br (Bool.not x1.1)
  (
   some (.inr (.inl (false,x1.2))))
  (
   ah (ar x0.1 (List.length x1.2.2.2.2.2.2.2.2.2.2.2.2.1))<|
   some (.inl ((bO (iL t8 (gt (.int .i64) x1.2.2.2.2.2.2.2.2.2.2.2.2.1 x0.1)) (gt (.int .i64) x1.2.2.2.2.2.2.2.2.2.2.2.2.1 x0.1) t8),(t64,(t65,((IntKind.wrap .i64 (t66+(1:Int))),(x1.2.1,(x1.2.2.1,(x1.2.2.2.1,(x1.2.2.2.2.1,(x1.2.2.2.2.2.1,(x1.2.2.2.2.2.2.1,(x1.2.2.2.2.2.2.2.1,(x1.2.2.2.2.2.2.2.2.1,(x1.2.2.2.2.2.2.2.2.2.1,(x1.2.2.2.2.2.2.2.2.2.2.1,(x1.2.2.2.2.2.2.2.2.2.2.2.1,(x1.2.2.2.2.2.2.2.2.2.2.2.2.1,(b6_0,()))))))))))))))))))))
 (
  some (.inr (.inr (t8,(b0_0,(b0_1,(b0_2,(b0_3,(b0_4,(b0_5,(b0_6,(b0_7,(b1,(b2,(b3,(b4,(b6_0,())))))))))))))))))
def ajQ(c0:sc)(c1:kS) :Hc:=aU (jW (KX c0.F c1.F)) (pL (kD c0 (kB c1 k0)) e0 1 l0 fun d=>by kernel_rfl)
def ajO(s:kS):Hc:=ajQ yY s
def Ko(F:l9):U0:=aE (fun d=>KX te F  d.1 d.2.1 d.2.2.1 d.2.2.2.1 d.2.2.2.2.1 d.2.2.2.2.2.1 d.2.2.2.2.2.2.1 d.2.2.2.2.2.2.2.1 d.2.2.2.2.2.2.2.2.1 d.2.2.2.2.2.2.2.2.2.1 d.2.2.2.2.2.2.2.2.2.2.1 d.2.2.2.2.2.2.2.2.2.2.2.1 d.2.2.2.2.2.2.2.2.2.2.2.2.1 d.2.2.2.2.2.2.2.2.2.2.2.2.2.1 d.2.2.2.2.2.2.2.2.2.2.2.2.2.2.1 d.2.2.2.2.2.2.2.2.2.2.2.2.2.2.2.1 d.2.2.2.2.2.2.2.2.2.2.2.2.2.2.2.2.1) NN
def Aq(t8:Int)(t86:List Int)(t87 t88 b0_0:Int)(b0_1:List Int)(b0_2:List (Sh.T aa))(b0_3 b0_4 b0_5:List Int)(b0_6:List (Sh.T ab))(b0_7:List (Sh.T aa))(b1:List Int)(b2:List (Sh.T ag))(b3 b4 b6_0:List Int):Option (TL J7.σs⊕Out J4):=
 br (iL t88 t87)
 (
  ah (ar t88 (List.length t86))<|
  ah (ar (gt (.int .i64) t86 t88) (List.length b4))<|
  some (.inl (t8,(t86,(t87,((IntKind.wrap .i64 (t88+(1:Int))),(b0_0,(b0_1,(b0_2,(b0_3,(b0_4,(b0_5,(b0_6,(b0_7,(b1,(b2,(b3,((List.set b4 (Int.toNat (gt (.int .i64) t86 t88)) (IntKind.wrap .i64 (t8+(1:Int)))),(b6_0,())))))))))))))))))))
 (
  some (.inr (b0_0,(b0_1,(b0_2,(b0_3,(b0_4,(b0_5,(b0_6,(b0_7,(b1,(b2,(b3,(b4,(b6_0,())))))))))))))))
def ajP  :Hb:=aU (jW Aq) (pL k0 e0 1 l0 fun d=>by kernel_rfl)
def ajN(s:kS):Hb:=ajP
def Km(F:l9):UZ:=aE (fun d=>Aq   d.1 d.2.1 d.2.2.1 d.2.2.2.1 d.2.2.2.2.1 d.2.2.2.2.2.1 d.2.2.2.2.2.2.1 d.2.2.2.2.2.2.2.1 d.2.2.2.2.2.2.2.2.1 d.2.2.2.2.2.2.2.2.2.1 d.2.2.2.2.2.2.2.2.2.2.1 d.2.2.2.2.2.2.2.2.2.2.2.1 d.2.2.2.2.2.2.2.2.2.2.2.2.1 d.2.2.2.2.2.2.2.2.2.2.2.2.2.1 d.2.2.2.2.2.2.2.2.2.2.2.2.2.2.1 d.2.2.2.2.2.2.2.2.2.2.2.2.2.2.2.1 d.2.2.2.2.2.2.2.2.2.2.2.2.2.2.2.2.1) NN
def KM(F0:yX)(F1:l9)(F2:VH)(F3:U1)(F4:rP)(L11:U0)(L19:UZ)(t1 b0_0:Int)(b0_1:List Int)(b0_2:List (Sh.T aa))(b0_3 b0_4 b0_5:List Int)(b0_6:List (Sh.T ab))(b0_7:List (Sh.T aa))(b1:List Int)(b2:List (Sh.T ag))(b3 b4:List Int):Option (Out zz):=
 ah (ar t1 (List.length b1))<|
 br (iQ (gt (.int .i64) b1 t1) (0:Int))
 (
  some (true,(b0_0,(b0_1,(b0_2,(b0_3,(b0_4,(b0_5,(b0_6,(b0_7,(b1,(b2,(b3,(b4,()))))))))))))))
 (
  ah (ar t1 (List.length b3))<|
  br (aR false true (iQ (gt (.int .u8) b3 t1) (2:Int)))
  (
   some (true,(b0_0,(b0_1,(b0_2,(b0_3,(b0_4,(b0_5,(b0_6,(b0_7,(b1,(b2,(b3,(b4,()))))))))))))))
  (
   ah (ar t1 (List.length b3))<|
   br (iQ (gt (.int .u8) b3 t1) (1:Int))
   (
    some (false,(b0_0,(b0_1,(b0_2,(b0_3,(b0_4,(b0_5,(b0_6,(b0_7,(b1,(b2,(b3,(b4,()))))))))))))))
   (
    ah (ar t1 (List.length b1))<|
    ah (ar (IntKind.wrap .i64 (@HSub.hSub (Int) (Int) (Int) _ (gt (.int .i64) b1 t1) (1:Int))) (List.length b2))<|
    ai (F4 ((gt ag b2 (IntKind.wrap .i64 (@HSub.hSub (Int) (Int) (Int) _ (gt (.int .i64) b1 t1) (1:Int)))).1,((gt ag b2 (IntKind.wrap .i64 (@HSub.hSub (Int) (Int) (Int) _ (gt (.int .i64) b1 t1) (1:Int)))).2.1,((gt ag b2 (IntKind.wrap .i64 (@HSub.hSub (Int) (Int) (Int) _ (gt (.int .i64) b1 t1) (1:Int)))).2.2.1,(b0_0,(b0_1,(b0_2,(b0_3,(b0_4,(b0_5,(b0_6,(b0_7,(b1,(b2,(b3,(b4,())))))))))))))))) fun x0=>
    ai (F3 ((1:Int),x0)) fun x1=>
    ai (F2 ((gt ag b2 (IntKind.wrap .i64 (@HSub.hSub (Int) (Int) (Int) _ (gt (.int .i64) b1 t1) (1:Int)))).1,((gt ag b2 (IntKind.wrap .i64 (@HSub.hSub (Int) (Int) (Int) _ (gt (.int .i64) b1 t1) (1:Int)))).2.1,((gt ag b2 (IntKind.wrap .i64 (@HSub.hSub (Int) (Int) (Int) _ (gt (.int .i64) b1 t1) (1:Int)))).2.2.1,x1.2)))) fun x2=>
    ai (L11 ((0:Int),(x2.1,((Int.ofNat (List.length x2.1)),((0:Int),(x2.2.1,(x2.2.2.1,(x2.2.2.2.1,(x2.2.2.2.2.1,(x2.2.2.2.2.2.1,(x2.2.2.2.2.2.2.1,(x2.2.2.2.2.2.2.2.1,(x2.2.2.2.2.2.2.2.2.1,(x2.2.2.2.2.2.2.2.2.2.1,(x2.2.2.2.2.2.2.2.2.2.2.1,(x2.2.2.2.2.2.2.2.2.2.2.2.1,(x2.2.2.2.2.2.2.2.2.2.2.2.2.1,(x1.1,())))))))))))))))))) fun x3=>
    (match x3 with
    |.inl x4=>some x4|.inr x4=>
     ai (L19 (x4.1,(x4.2.2.2.2.2.2.2.2.2.2.2.2.2.1,((Int.ofNat (List.length x4.2.2.2.2.2.2.2.2.2.2.2.2.2.1)),((0:Int),x4.2))))) fun x5=>
     ai (F3 ((2:Int),(x5.2.2.2.2.2.2.2.2.2.2.2.2.1,(x5.1,(x5.2.1,(x5.2.2.1,(x5.2.2.2.1,(x5.2.2.2.2.1,(x5.2.2.2.2.2.1,(x5.2.2.2.2.2.2.1,(x5.2.2.2.2.2.2.2.1,(x5.2.2.2.2.2.2.2.2.1,(x5.2.2.2.2.2.2.2.2.2.1,(x5.2.2.2.2.2.2.2.2.2.2.1,(x5.2.2.2.2.2.2.2.2.2.2.2.1,()))))))))))))))) fun x6=>
     some (true,x6.2)
    ))))
def aki(c0:sc)(c1:kS)(c2:Ia)(c3:He)(c4:oR)(M11:Hc)(M19:Hb):kS:=⟨fC (KM c0.F c1.F c2.F c3.F c4.F M11.L M19.L),pB Tryz.func226 103 (kD c0 (kB c1 (kB c2 (kB c3 (kB c4 k0))))) e0 1 (sS (sC M11 (sC M19 l0))) fun d=>by kernel_rfl⟩
def rN:Nat->kS
 |0=>ZP Tryz.func226 (by kernel_rfl) (by kernel_rfl)|k+1=>aki yY (rN k) VJ U2 rQ (ajO (rN k)) (ajN (rN k))
def px(k:Nat):l9:=(rN k).F
def HQ:kS:=rN NN
def Kg:l9:=HQ.F
abbrev Yd:ae:={ T:=[(0,.ptr 0 0)],h:=f9,nx:=5 }
abbrev Kh:List (Ev.Ex×ae):=[(.ret,{ T:=[(0,.bool)],h:=f9,nx:=5 })]
abbrev VL:=TL Yd.σs->Option (Out Kh)
abbrev Ii:=Kb 195 1 Yd 1 Kh
abbrev Ki:ae:={ T:=[(3,.func 226 [.ptr 0 0] []),(11,.int .i64),(12,.int .i64)],h:=f9,nx:=5 }
abbrev z6:List (Ev.Ex×ae):=[(.ret,{ T:=[(2,.bool)],h:=f9,nx:=5 }),((.exit 0),{ T:=[],h:=f9,nx:=5 })]
abbrev VK:=TL Ki.σs->Option (Out z6)
abbrev Ib:=Ld 5 20 (aT [0] (aG Tryz.f195)) Ki z6
def K4(F0:l9)(t11 t12 b0_0:Int)(b0_1:List Int)(b0_2:List (Sh.T aa))(b0_3 b0_4 b0_5:List Int)(b0_6:List (Sh.T ab))(b0_7:List (Sh.T aa))(b1:List Int)(b2:List (Sh.T ag))(b3 b4:List Int):Option (TL Ki.σs⊕Out z6):=
 br (iL t12 t11)
 (
  ai (F0 (t12,(b0_0,(b0_1,(b0_2,(b0_3,(b0_4,(b0_5,(b0_6,(b0_7,(b1,(b2,(b3,(b4,())))))))))))))) fun x0=>
  br (Bool.not x0.1)
  (
   some (.inr (.inl (false,x0.2))))
  (
   some (.inl (t11,((IntKind.wrap .i64 (t12+(1:Int))),x0.2)))))
 (
  some (.inr (.inr (b0_0,(b0_1,(b0_2,(b0_3,(b0_4,(b0_5,(b0_6,(b0_7,(b1,(b2,(b3,(b4,())))))))))))))))
def akv(c0:kS) :Ib:=aU (eJ (K4 c0.F)) (pL (kB c0 k0) e0 1 l0 fun d=>by kernel_rfl)
def aku:Ib:=akv HQ
def Zhi:VK:=aE (eJ (K4 Kg)) NN
def Zm5(F0:l9)(L3:VK)(b0_0:Int)(b0_1:List Int)(b0_2:List (Sh.T aa))(b0_3 b0_4 b0_5:List Int)(b0_6:List (Sh.T ab))(b0_7:List (Sh.T aa))(b1:List Int)(b2:List (Sh.T ag))(b3 b4:List Int):Option (Out Kh):=
 ai (L3 ((Int.ofNat (List.length b1)),((0:Int),(b0_0,(b0_1,(b0_2,(b0_3,(b0_4,(b0_5,(b0_6,(b0_7,(b1,(b2,(b3,(b4,()))))))))))))))) fun x0=>
 (match x0 with|.inl x1=>some x1|.inr x1=>some (true,x1)
 )
def akz(c0:kS)(M3:Ib):Ii:=⟨eI (Zm5 c0.F M3.L),pB Tryz.func195 20 (kB c0 k0) e0 1 (sS (sC M3 l0)) fun d=>by kernel_rfl⟩
def VM:Ii:=akz HQ aku
def Zhj:VL:=VM.F
abbrev Yx:ae:={ T:=[(0,.agg ep)],h:=[],nx:=0 }
abbrev KR:List (Ev.Ex×ae):=[(.ret,{ T:=[(0,.ptr 0 0)],h:=f9,nx:=5 })]
abbrev Wz:=TL Yx.σs->Option (Out KR)
abbrev I1:=Kb 194 1 Yx 1 KR
abbrev KI:ae:=XE
abbrev Kz:List (Ev.Ex×ae):=[((.exit 6),{ T:=[(3,.ptr 0 0)],h:=f9,nx:=5 })]
abbrev Wd:=TL KI.σs->Option (Out Kz)
abbrev IE:=Ld 0 103 (aT [2] (aG Tryz.f194)) KI Kz
abbrev Kt:ae:={ T:=[(3,.ptr 0 0),(7,.int .i64),(77,.hd 2 ag),(78,.int .i64),(79,.int .i64),(86,.fz (.int .i64)),(87,.int .i64),(88,.int .i64)],h:=f9,nx:=5 }
abbrev Kp:List (Ev.Ex×ae):=[((.exit 8),XE)]
abbrev IB:=TL Kt.σs->Option (Out Kp)
abbrev ID:=Ld 0 103 (aT [2,0] (aG Tryz.f194)) Kt Kp
abbrev KS:ae:=XF
abbrev KG:List (Ev.Ex×ae):=[((.exit 2),{ T:=[(3,.ptr 0 0)],h:=f9,nx:=5 })]
abbrev Wo:=TL KS.σs->Option (Out KG)
abbrev IW:=Ld 0 103 (aT [1] (aG Tryz.f194)) KS KG
abbrev Ku:ae:={ T:=[(1,.ptr 0 0),(3,.ptr 1 0),(5,.int .i64),(46,.int .i64),(47,.int .i64),(56,.int .i64),(57,.int .i64)],h:=zp,nx:=6 }
abbrev Kq:List (Ev.Ex×ae):=[((.exit 4),XF)]
abbrev IC:=TL Ku.σs->Option (Out Kq)
abbrev IF:=Ld 0 103 (aT [1,0] (aG Tryz.f194)) Ku Kq
abbrev KT:ae:={ T:=[(1,.ptr 0 0),(3,.ptr 1 0),(28,.int .i64),(29,.int .i64)],h:=zp,nx:=6 }
abbrev KH:List (Ev.Ex×ae):=[((.exit 0),{ T:=[(1,.ptr 0 0),(3,.ptr 1 0)],h:=zp,nx:=6 })]
abbrev Wp:=TL KT.σs->Option (Out KH)
abbrev Wq:=Ld 0 103 (aT [0] (aG Tryz.f194)) KT KH
def AW(t28 t29 b0_0:Int)(b0_1:List Int)(b0_2:List (Sh.T aa))(b0_3 b0_4 b0_5:List Int)(b0_6:List (Sh.T ab))(b0_7:List (Sh.T aa))(b1_0:Int)(b1_1:List Int)(b1_2:List (Sh.T aa))(b1_3 b1_4 b1_5:List Int)(b1_6:List (Sh.T ab))(b1_7:List (Sh.T aa))(b2:List Int)(b3:List (Sh.T ag))(b4 b5:List Int):Option (TL KT.σs⊕Out KH):=
 br (iL t29 t28)
 (
  ah (room 24 (List.length (ap b3 ((false,((0:Int),(t29,())))::[]))))<|
  some (.inl (t28,((IntKind.wrap .i64 (t29+(1:Int))),(b0_0,(b0_1,(b0_2,(b0_3,(b0_4,(b0_5,(b0_6,(b0_7,(b1_0,(b1_1,(b1_2,(b1_3,(b1_4,(b1_5,(b1_6,(b1_7,(b2,((ap b3 ((false,((0:Int),(t29,())))::[])),(b4,(b5,()))))))))))))))))))))))))
 (
  some (.inr (b0_0,(b0_1,(b0_2,(b0_3,(b0_4,(b0_5,(b0_6,(b0_7,(b1_0,(b1_1,(b1_2,(b1_3,(b1_4,(b1_5,(b1_6,(b1_7,(b2,(b3,(b4,(b5,()))))))))))))))))))))))
def ak7  :Wq:=aU (nX AW) (pL k0 e0 1 l0 fun d=>by kernel_rfl)
def AN:Wp:=aE (nX AW) NN
def AS(t5 t46 t47 t56 t57 b0_0:Int)(b0_1:List Int)(b0_2:List (Sh.T aa))(b0_3 b0_4 b0_5:List Int)(b0_6:List (Sh.T ab))(b0_7:List (Sh.T aa))(b1_0:Int)(b1_1:List Int)(b1_2:List (Sh.T aa))(b1_3 b1_4 b1_5:List Int)(b1_6:List (Sh.T ab))(b1_7:List (Sh.T aa))(b2:List Int)(b3:List (Sh.T ag))(b4 b5:List Int):Option (TL Ku.σs⊕Out Kq):=
 br (iL t57 t56)
 (
  ah (room 24 (List.length (ap b3 ((true,(t5,(t57,())))::[]))))<|
  some (.inl (t5,(t46,(t47,(t56,((IntKind.wrap .i64 (t57+(1:Int))),(b0_0,(b0_1,(b0_2,(b0_3,(b0_4,(b0_5,(b0_6,(b0_7,(b1_0,(b1_1,(b1_2,(b1_3,(b1_4,(b1_5,(b1_6,(b1_7,(b2,((ap b3 ((true,(t5,(t57,())))::[])),(b4,(b5,())))))))))))))))))))))))))))
 (
  some (.inr (t46,(t47,(b0_0,(b0_1,(b0_2,(b0_3,(b0_4,(b0_5,(b0_6,(b0_7,(b1_0,(b1_1,(b1_2,(b1_3,(b1_4,(b1_5,(b1_6,(b1_7,(b2,(b3,(b4,(b5,()))))))))))))))))))))))))
def Wf  :IF:=aU (fun d=>AS   d.1 d.2.1 d.2.2.1 d.2.2.2.1 d.2.2.2.2.1 d.2.2.2.2.2.1 d.2.2.2.2.2.2.1 d.2.2.2.2.2.2.2.1 d.2.2.2.2.2.2.2.2.1 d.2.2.2.2.2.2.2.2.2.1 d.2.2.2.2.2.2.2.2.2.2.1 d.2.2.2.2.2.2.2.2.2.2.2.1 d.2.2.2.2.2.2.2.2.2.2.2.2.1 d.2.2.2.2.2.2.2.2.2.2.2.2.2.1 d.2.2.2.2.2.2.2.2.2.2.2.2.2.2.1 d.2.2.2.2.2.2.2.2.2.2.2.2.2.2.2.1 d.2.2.2.2.2.2.2.2.2.2.2.2.2.2.2.2.1 d.2.2.2.2.2.2.2.2.2.2.2.2.2.2.2.2.2.1 d.2.2.2.2.2.2.2.2.2.2.2.2.2.2.2.2.2.2.1 d.2.2.2.2.2.2.2.2.2.2.2.2.2.2.2.2.2.2.2.1 d.2.2.2.2.2.2.2.2.2.2.2.2.2.2.2.2.2.2.2.2.1 d.2.2.2.2.2.2.2.2.2.2.2.2.2.2.2.2.2.2.2.2.2.1 d.2.2.2.2.2.2.2.2.2.2.2.2.2.2.2.2.2.2.2.2.2.2.1 d.2.2.2.2.2.2.2.2.2.2.2.2.2.2.2.2.2.2.2.2.2.2.2.1 d.2.2.2.2.2.2.2.2.2.2.2.2.2.2.2.2.2.2.2.2.2.2.2.2.1) (pL k0 e0 1 l0 fun d=>by kernel_rfl)
def AE:IC:=aE (fun d=>AS   d.1 d.2.1 d.2.2.1 d.2.2.2.1 d.2.2.2.2.1 d.2.2.2.2.2.1 d.2.2.2.2.2.2.1 d.2.2.2.2.2.2.2.1 d.2.2.2.2.2.2.2.2.1 d.2.2.2.2.2.2.2.2.2.1 d.2.2.2.2.2.2.2.2.2.2.1 d.2.2.2.2.2.2.2.2.2.2.2.1 d.2.2.2.2.2.2.2.2.2.2.2.2.1 d.2.2.2.2.2.2.2.2.2.2.2.2.2.1 d.2.2.2.2.2.2.2.2.2.2.2.2.2.2.1 d.2.2.2.2.2.2.2.2.2.2.2.2.2.2.2.1 d.2.2.2.2.2.2.2.2.2.2.2.2.2.2.2.2.1 d.2.2.2.2.2.2.2.2.2.2.2.2.2.2.2.2.2.1 d.2.2.2.2.2.2.2.2.2.2.2.2.2.2.2.2.2.2.1 d.2.2.2.2.2.2.2.2.2.2.2.2.2.2.2.2.2.2.2.1 d.2.2.2.2.2.2.2.2.2.2.2.2.2.2.2.2.2.2.2.2.1 d.2.2.2.2.2.2.2.2.2.2.2.2.2.2.2.2.2.2.2.2.2.1 d.2.2.2.2.2.2.2.2.2.2.2.2.2.2.2.2.2.2.2.2.2.2.1 d.2.2.2.2.2.2.2.2.2.2.2.2.2.2.2.2.2.2.2.2.2.2.2.1 d.2.2.2.2.2.2.2.2.2.2.2.2.2.2.2.2.2.2.2.2.2.2.2.2.1) NN
def AU(L11:IC)(t46 t47 b0_0:Int)(b0_1:List Int)(b0_2:List (Sh.T aa))(b0_3 b0_4 b0_5:List Int)(b0_6:List (Sh.T ab))(b0_7:List (Sh.T aa))(b1_0:Int)(b1_1:List Int)(b1_2:List (Sh.T aa))(b1_3 b1_4 b1_5:List Int)(b1_6:List (Sh.T ab))(b1_7:List (Sh.T aa))(b2:List Int)(b3:List (Sh.T ag))(b4 b5:List Int):Option (TL KS.σs⊕Out KG):=
 br (iL t47 t46)
 (
  ah (ar t47 (List.length b0_6))<|
  ai (L11 (t47,(t46,(t47,((Int.ofNat (List.length (gt ab b0_6 t47).2.2.2.1)),((0:Int),(b0_0,(b0_1,(b0_2,(b0_3,(b0_4,(b0_5,(b0_6,(b0_7,(b1_0,(b1_1,(b1_2,(b1_3,(b1_4,(b1_5,(b1_6,(b1_7,(b2,(b3,(b4,(b5,())))))))))))))))))))))))))) fun x0=>
  some (.inl (x0.1,((IntKind.wrap .i64 (@HAdd.hAdd (Int) (Int) (Int) _ x0.2.1 (1:Int))),x0.2.2))))
 (
  some (.inr (b1_0,(b1_1,(b1_2,(b1_3,(b1_4,(b1_5,(b1_6,(b1_7,(b2,(b3,(b4,(b5,()))))))))))))))
def ak8(M11:IF):IW:=aU (nX (AU M11.L)) (pL k0 e0 1 (sC M11 l0) fun d=>by kernel_rfl)
def ak6:IW:=ak8  Wf
def AM:Wo:=aE (nX (AU AE)) NN
def AQ(t7 t78 t79:Int)(t86:List Int)(t87 t88 b0_0:Int)(b0_1:List Int)(b0_2:List (Sh.T aa))(b0_3 b0_4 b0_5:List Int)(b0_6:List (Sh.T ab))(b0_7:List (Sh.T aa))(b1:List Int)(b2:List (Sh.T ag))(b3 b4:List Int):Option (TL Kt.σs⊕Out Kp):=
 br (iL t88 t87)
 (
  ah (ar t88 (List.length t86))<|
  ah (ar (gt (.int .i64) t86 t88) (List.length b1))<|
  some (.inl (t7,(t78,(t79,(t86,(t87,((IntKind.wrap .i64 (t88+(1:Int))),(b0_0,(b0_1,(b0_2,(b0_3,(b0_4,(b0_5,(b0_6,(b0_7,((List.set b1 (Int.toNat (gt (.int .i64) t86 t88)) (IntKind.wrap .i64 (t7+(1:Int)))),(b2,(b3,(b4,()))))))))))))))))))))
 (
  some (.inr (t78,(t79,(b0_0,(b0_1,(b0_2,(b0_3,(b0_4,(b0_5,(b0_6,(b0_7,(b1,(b2,(b3,(b4,()))))))))))))))))
def We  :ID:=aU (BE AQ) (pL k0 e0 1 l0 fun d=>by kernel_rfl)
def AD:IB:=aE (BE AQ) NN
def AR(F0:rP)(L20:IB)(t78 t79 b0_0:Int)(b0_1:List Int)(b0_2:List (Sh.T aa))(b0_3 b0_4 b0_5:List Int)(b0_6:List (Sh.T ab))(b0_7:List (Sh.T aa))(b1:List Int)(b2:List (Sh.T ag))(b3 b4:List Int):Option (TL KI.σs⊕Out Kz):=
 br (iL t79 t78)
 (
  ah (ar t79 (List.length b2))<|
  ai (F0 ((gt ag b2 t79).1,((gt ag b2 t79).2.1,((gt ag b2 t79).2.2.1,(b0_0,(b0_1,(b0_2,(b0_3,(b0_4,(b0_5,(b0_6,(b0_7,(b1,(b2,(b3,(b4,())))))))))))))))) fun x0=>
  ai (L20 (t79,(t78,(t79,(x0.1,((Int.ofNat (List.length x0.1)),((0:Int),x0.2))))))) fun x1=>
  some (.inl (x1.1,((IntKind.wrap .i64 (@HAdd.hAdd (Int) (Int) (Int) _ x1.2.1 (1:Int))),x1.2.2))))
 (
  some (.inr (b0_0,(b0_1,(b0_2,(b0_3,(b0_4,(b0_5,(b0_6,(b0_7,(b1,(b2,(b3,(b4,()))))))))))))))
def akX(c0:oR)(M20:ID):IE:=aU (eJ (AR c0.F M20.L)) (pL (kB c0 k0) e0 1 (sC M20 l0) fun d=>by kernel_rfl)
def akW:IE:=akX rQ We
def AL:Wd:=aE (eJ (AR sU AD)) NN
def Lm(F0:rP)(L3:Wp)(L8:Wo)(L11:IC)(L17:Wd)(L20:IB)(t0_0:Int)(t0_1:List Int)(t0_2:List (Sh.T aa))(t0_3 t0_4 t0_5:List Int)(t0_6:List (Sh.T ab))(t0_7:List (Sh.T aa)):Option (Out KR):=
 ah (both (iE (0:Int) (IntKind.wrap .i64 (t0_0+(1:Int)))) (both (iE (IntKind.wrap .i64 (t0_0+(1:Int))) (IntKind.wrap .i64 (t0_0+(1:Int)))) (iE ((Int.ofNat 8)*(IntKind.wrap .i64 (t0_0+(1:Int)))) (281474976710656:Int))))<|
 ah (both (iE (0:Int) (IntKind.wrap .i64 (t0_0+(1:Int)))) (both (iE (IntKind.wrap .i64 (t0_0+(1:Int))) (IntKind.wrap .i64 (t0_0+(1:Int)))) (iE ((Int.ofNat 1)*(IntKind.wrap .i64 (t0_0+(1:Int)))) (281474976710656:Int))))<|
 ah (both (iE (0:Int) (IntKind.wrap .i64 (t0_0+(1:Int)))) (both (iE (IntKind.wrap .i64 (t0_0+(1:Int))) (IntKind.wrap .i64 (t0_0+(1:Int)))) (iE ((Int.ofNat 8)*(IntKind.wrap .i64 (t0_0+(1:Int)))) (281474976710656:Int))))<|
 ai (L3 ((Int.ofNat (List.length t0_7)),((0:Int),(t0_0,(t0_1,(t0_2,(t0_3,(t0_4,(t0_5,(t0_6,(t0_7,(t0_0,(t0_1,(t0_2,(t0_3,(t0_4,(t0_5,(t0_6,(t0_7,((List.replicate (Int.toNat (IntKind.wrap .i64 (t0_0+(1:Int)))) (Sh.zero (.int .i64))),([],((List.replicate (Int.toNat (IntKind.wrap .i64 (t0_0+(1:Int)))) (Sh.zero (.int .u8))),((List.replicate (Int.toNat (IntKind.wrap .i64 (t0_0+(1:Int)))) (Sh.zero (.int .i64))),()))))))))))))))))))))))) fun x0=>
 ai (L8 ((Int.ofNat (List.length x0.2.2.2.2.2.2.1)),((0:Int),x0))) fun x1=>
 ai (L17 ((Int.ofNat (List.length x1.2.2.2.2.2.2.2.2.2.1)),((0:Int),x1))) fun x2=>
 some x2
def alj(c0:oR)(M3:Wq)(M8:IW)(M11:IF)(M17:IE)(M20:ID):I1:=⟨u8 (Lm c0.F M3.L M8.L M11.L M17.L M20.L),pB Tryz.func194 103 (kB c0 k0) e0 1 (sS (sC M3 (sC M8 (sC M17 l0)))) fun d=>by kernel_rfl⟩
def WA:I1:=alj rQ ak7 ak6 Wf akW We
def Zo9:Wz:=WA.F
abbrev Yy:ae:={ T:=[(0,.agg ep)],h:=[],nx:=0 }
abbrev KU:List (Ev.Ex×ae):=[(.ret,{ T:=[(0,.nilp),(1,.int .i64)],h:=[],nx:=0 }),(.ret,{ T:=[(0,.ptr 0 0),(1,.int .i64)],h:=f9,nx:=5 })]
abbrev I2:=TL Yy.σs->Option (Out KU)
abbrev yW:=Kb 128 1 Yy 2 KU
def Zw8(F0:aln)(F1:VL)(F2:Wz)(t0_0:Int)(t0_1:List Int)(t0_2:List (Sh.T aa))(t0_3 t0_4 t0_5:List Int)(t0_6:List (Sh.T ab))(t0_7:List (Sh.T aa)):Option (Out KU):=
 ai (F0 ((t0_0,(t0_1,(t0_2,(t0_3,(t0_4,(t0_5,(t0_6,(t0_7,())))))))),())) fun x0=>
 br (Bool.not (iQ x0.1 (0:Int)))
 (
  some (.inl (x0.1,())))
 (
  ai (F2 (t0_0,(t0_1,(t0_2,(t0_3,(t0_4,(t0_5,(t0_6,(t0_7,()))))))))) fun x1=>
  ai (F1 x1) fun x2=>
  br (Bool.not x2.1)
  (
   some (.inl ((8:Int),())))
  (
   some (.inr ((0:Int),x2.2))))
def alk(c0:WD)(c1:Ii)(c2:I1) :yW:=⟨u8 (Zw8 c0.F c1.F c2.F),pB Tryz.func128 17 (kD c0 (kB c1 (kB c2 k0))) e0 1 (sS l0) fun d=>by kernel_rfl⟩
def I3:yW:=alk alo VM WA
def tj:I2:=I3.F
abbrev YL:List Sh:=[ba]
abbrev Lb:List Sh:=[(.int .i64)]
abbrev nq:=TL YL->Option (TL Lb)
abbrev ma:=Kd 66 YL Lb
def Zul(F0:I2)(a0:Sh.T ba):Option (TL Lb):=
 ai (F0 a0) fun x0=>
 (match x0 with|.inl x1=>some (x1.1,())|.inr x1=>some (x1.1,())
 )
def alb(c0:yW) :ma:=⟨u1 (Zul c0.F),pD Tryz.func66 11 (kB c0 k0) e0 1 (sS l0) fun d=>by kernel_rfl⟩
def ns:ma:=alb I3
def Zfn:nq:=ns.F
end Go.Proofs.YtkcpdpplobhpaaaGreat.V
end
