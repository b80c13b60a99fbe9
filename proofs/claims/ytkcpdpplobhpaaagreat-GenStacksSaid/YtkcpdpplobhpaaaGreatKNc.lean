import Derived.Test.YtkcpdpplobhpaaaGreatKMf
import Derived.Test.YtkcpdpplobhpaaaGreatKNa
import Derived.Test.YtkcpdpplobhpaaaGreatKNb
set_option linter.unusedVariables false
set_option linter.unusedSimpArgs false
set_option linter.unnecessarySimpa false
section
namespace Go.Proofs.YtkcpdpplobhpaaaGreat.V
open Go Go.RowKit
open Go.Proofs.YtkcpdpplobhpaaaGreat.Pl
def latD (x:Za0.T):Zgv:=⟨x.1,x.2.1,x.2.2.1⟩
def andD (x:Za0.T):AndD:=⟨x.1,x.2.1,x.2.2.1⟩
def readD (x:Zb3.T):ReadD:=⟨x.1,x.2.1⟩
def Zvz (x:Zb8.T):Zz7:=⟨x.1,x.2.1,x.2.2.1⟩
def memD (x:Za1.T):MemD:=⟨x.1,x.2.1,x.2.2.1,x.2.2.2.1.map readD,x.2.2.2.2.1.map Zvz⟩
def netD (x:Za5.T):NetD:=⟨x.1,x.2.1,x.2.2.1.map latD,x.2.2.2.1,x.2.2.2.2.1,x.2.2.2.2.2.1,x.2.2.2.2.2.2.1.map memD,x.2.2.2.2.2.2.2.1.map andD⟩
theorem sl_of {w:World} {A:Nat→Prop} {s:Sh} {L:List s.T} {V:Value} (h:Cs w A (.sl s) L [V]) :
  ∃a cap X,V=.slice a L.length cap∧FlatL (Cs w A s) L X∧Sl w w.heap.size s.size a L.length cap X:=by
 obtain ⟨a,len,cap,e1,rfl,e3,e4⟩:=h
 simp only [List.cons.injEq,and_true] at e1
 subst e1
 by_cases hL:L=[]
 ·subst hL
  exact ⟨a,cap,[],rfl,rfl,⟨by simp,fun h=>absurd h (by simp)⟩,e3,Nat.zero_le _⟩
 ·obtain ⟨b,o,X,rfl,q2,q3,c,ty,fr,q4,q5⟩:=e4 hL
  refine ⟨_,cap,X,rfl,q3,⟨FlatL.length (fun x c=>Cs.length) q3,fun _=>⟨_,rfl,Zi9 q4,fun j u hj=>?_⟩⟩,e3,Nat.zero_le _⟩
  have:=q5 j u hj
  rw [show (⟨b,o,none⟩:Addr).add j=⟨b,o+j,none⟩ from by simp [Ev.Zd7]]
  simp only [World.cell?,q4,Option.isSome_none,Bool.false_eq_true,if_false]
  exact this
theorem Za04 {α:Type} {R:α→List Value→Prop} {g:α→List Value} (h:∀x c,R x c→c=g x):∀{L:List α} {X:List Value},FlatL R L X→X=L.flatMap g
 | [],X,q=>q
 | x :: L,X,⟨c,r,e,q,t⟩=>by rw [e,h x c q,Za04 h t];rfl
theorem Zxa {w:World} {A:Nat→Prop} {d:TL []} {cs:List Value} (h:CsL w A [] d cs):cs=[]:=h
theorem Zf2 {w:World} {A:Nat→Prop} {s:Sh} {l:List Sh} {d:TL (s :: l)} {cs:List Value} (h:CsL w A (s :: l) d cs):∃c r,cs=c++r∧Cs w A s d.1 c∧CsL w A l d.2 r:=h
theorem cs_sl {w:World} {A:Nat→Prop} {s:Sh} {L:List s.T} {c:List Value} (h:Cs w A (.sl s) L c):∃V,c=[V]∧Cs w A (.sl s) L [V]:=by
 obtain ⟨a,len,cap,e1,q⟩:=h
 exact ⟨_,e1,a,len,cap,rfl,q⟩
theorem Za3k {α β γ:Type} {f:α→γ} {g:β→γ} {L:List α} {M:List β} (h:L.map f=M.map g):M.length=L.length:=by
 have:=congrArg List.length h
 rw [List.length_map,List.length_map] at this;exact this.symm
theorem Za7n:∀L:List Int,L.flatMap (fun n=>[Value.int .i64 n])=ints L
 | []=>rfl
 | x :: L=>by
  have:=Za7n L
  unfold ints at this ⊢
  rw [List.flatMap_cons,this];rfl
theorem Zss {w:World} {A:Nat→Prop} {L:List Int} {c:List Value} (h:Cs w A (.sl (.int .i64)) L c):∃a cap,c=[.slice a L.length cap]∧Sl w w.heap.size 1 a L.length cap (ints L):=by
 obtain ⟨V,rfl,h⟩:=cs_sl h
 obtain ⟨a,cap,X,rfl,h1,h2⟩:=sl_of h
 have:X=ints L:=by
  have:=Za04 (g:=fun n=>[Value.int .i64 n]) (fun x c q=>q) h1
  rw [this]
  exact Za7n L
 subst this
 exact ⟨a,cap,rfl,h2⟩
theorem lat_of {w:World} {A:Nat→Prop} {x:Za0.T} {c:List Value} (h:Cs w A Za0 x c):c=(latD x).cells:=by
 obtain ⟨c1,r1,rfl,h1,q1⟩:=Zf2 h
 obtain ⟨c2,r2,rfl,h2,q2⟩:=Zf2 q1
 obtain ⟨c3,r3,rfl,h3,q3⟩:=Zf2 q2
 rw [Zxa q3,show c1=_ from h1,show c2=_ from h2,show c3=_ from h3]
 rfl
theorem Za87 {w:World} {A:Nat→Prop} {L:List Za0.T} {c:List Value} (h:Cs w A (.sl Za0) L c):∃a cap,c=[.slice a (L.map latD).length cap]∧Sl w w.heap.size 3 a (L.map latD).length cap ((L.map latD).flatMap Zgv.cells):=by
 obtain ⟨V,rfl,h⟩:=cs_sl h
 obtain ⟨a,cap,X,rfl,h1,h2⟩:=sl_of h
 have:=Za04 (g:=fun x=>(latD x).cells) (fun x c q=>lat_of q) h1
 refine ⟨a,cap,by simp,?_⟩
 rw [List.length_map,List.flatMap_map,←this]
 exact h2
theorem ands_of {w:World} {A:Nat→Prop} {L:List Za0.T} {c:List Value} (h:Cs w A (.sl Za0) L c):∃a cap,c=[.slice a (L.map andD).length cap]∧Sl w w.heap.size 3 a (L.map andD).length cap ((L.map andD).flatMap AndD.cells):=by
 obtain ⟨a,cap,e,h⟩:=Za87 h
 rw [List.length_map] at e h ⊢
 exact ⟨a,cap,e,by rw [List.flatMap_map] at h ⊢;exact h⟩
theorem Za4m {w:World} {A:Nat→Prop}:∀{L:List Zb3.T} {X:List Value},FlatL (Cs w A Zb3) L X→∃Rs:List ReadH,Rs.map ReadH.d=L.map readD∧X=Rs.flatMap ReadH.cells∧∀r∈Rs,r.okIn w w.heap.size
 | [],X,h=>⟨[],rfl,h,fun r hr=>by cases hr⟩
 | x :: L,X,⟨c,r,e,q,t⟩=>by
  obtain ⟨Rs,k1,k2,k3⟩:=Za4m t
  obtain ⟨c1,r1,rfl,h1,q1⟩:=Zf2 q
  obtain ⟨c2,r2,rfl,h2,q2⟩:=Zf2 q1
  obtain ⟨a,cap,rfl,hs⟩:=Zss h2
  refine ⟨⟨x.1,a,cap,x.2.1⟩ :: Rs,by simp only [List.map_cons,k1];rfl,?_,?_⟩
  ·rw [e,Zxa q2,show c1=_ from h1,k2];rfl
  ·intro r hr
   rcases List.mem_cons.1 hr with rfl | hr
   ·exact hs
   ·exact k3 r hr
theorem Za0o {w:World} {A:Nat→Prop}:∀{L:List Zb8.T} {X:List Value},FlatL (Cs w A Zb8) L X→∃Rs:List Zfm,Rs.map Zfm.d=L.map Zvz∧X=Rs.flatMap Zfm.cells∧∀r∈Rs,r.okIn w w.heap.size
 | [],X,h=>⟨[],rfl,h,fun r hr=>by cases hr⟩
 | x :: L,X,⟨c,r,e,q,t⟩=>by
  obtain ⟨Rs,k1,k2,k3⟩:=Za0o t
  obtain ⟨c1,r1,rfl,h1,q1⟩:=Zf2 q
  obtain ⟨c2,r2,rfl,h2,q2⟩:=Zf2 q1
  obtain ⟨c3,r3,rfl,h3,q3⟩:=Zf2 q2
  obtain ⟨a,cap,rfl,hs⟩:=Zss h2
  obtain ⟨a',cap',rfl,hs'⟩:=Zss h3
  refine ⟨⟨x.1,a,cap,x.2.1,a',cap',x.2.2.1⟩ :: Rs,by simp only [List.map_cons,k1];rfl,?_,?_⟩
  ·rw [e,Zxa q3,show c1=_ from h1,k2];rfl
  ·intro r hr
   rcases List.mem_cons.1 hr with rfl | hr
   ·exact ⟨hs,hs'⟩
   ·exact k3 r hr
theorem Za7t {w:World} {A:Nat→Prop}:∀{L:List Za1.T} {X:List Value},FlatL (Cs w A Za1) L X→∃Ms:List MemH,Ms.map MemH.d=L.map memD∧X=Ms.flatMap MemH.cells∧∀m∈Ms,m.okIn w w.heap.size
 | [],X,h=>⟨[],rfl,h,fun r hr=>by cases hr⟩
 | x :: L,X,⟨c,r,e,q,t⟩=>by
  obtain ⟨Ms,k1,k2,k3⟩:=Za7t t
  obtain ⟨c1,r1,rfl,h1,q1⟩:=Zf2 q
  obtain ⟨c2,r2,rfl,h2,q2⟩:=Zf2 q1
  obtain ⟨c3,r3,rfl,h3,q3⟩:=Zf2 q2
  obtain ⟨c4,r4,rfl,h4,q4⟩:=Zf2 q3
  obtain ⟨c5,r5,rfl,h5,q5⟩:=Zf2 q4
  obtain ⟨V4,rfl,h4⟩:=cs_sl h4
  obtain ⟨V5,rfl,h5⟩:=cs_sl h5
  obtain ⟨a,cap,X4,rfl,f4,s4⟩:=sl_of h4
  obtain ⟨a',cap',X5,rfl,f5,s5⟩:=sl_of h5
  obtain ⟨Rs,rk,rfl,rok⟩:=Za4m f4
  obtain ⟨Ws,wk,rfl,wok⟩:=Za0o f5
  have l4:x.2.2.2.1.length=Rs.length:=Za3k rk
  have l5:x.2.2.2.2.1.length=Ws.length:=Za3k wk
  have l4':List.length x.2.2.2.1=Rs.length:=l4
  refine ⟨⟨x.1,x.2.1,x.2.2.1,a,cap,Rs,a',cap',Ws⟩ :: Ms,?_,?_,?_⟩
  ·simp only [List.map_cons,k1,MemH.d,rk,wk];rfl
  ·rw [e,Zxa q5,show c1=_ from h1,show c2=_ from h2,show c3=_ from h3,k2]
   show [_,_,_,Value.slice a (List.length x.2.2.2.1) cap,Value.slice a' (List.length x.2.2.2.2.1) cap']++_=_
   rw [l4,l5];rfl
  ·intro m hm
   rcases List.mem_cons.1 hm with rfl | hm
   ·exact ⟨by rw [←l4];exact s4,rok,by rw [←l5];exact s5,wok⟩
   ·exact k3 m hm
theorem net_of {w:World} {A:Nat→Prop} {d:Za5.T} {V:Value} (h:Dat w A Za5 d V):∃N:NetH,N.v=V∧N.d=netD d∧N.okIn w w.heap.size:=by
 obtain ⟨h,hagg⟩:=h
 obtain ⟨c1,r1,e1,h1,q1⟩:=Zf2 h
 obtain ⟨c2,r2,rfl,h2,q2⟩:=Zf2 q1
 obtain ⟨c3,r3,rfl,h3,q3⟩:=Zf2 q2
 obtain ⟨c4,r4,rfl,h4,q4⟩:=Zf2 q3
 obtain ⟨c5,r5,rfl,h5,q5⟩:=Zf2 q4
 obtain ⟨c6,r6,rfl,h6,q6⟩:=Zf2 q5
 obtain ⟨c7,r7,rfl,h7,q7⟩:=Zf2 q6
 obtain ⟨c8,r8,rfl,h8,q8⟩:=Zf2 q7
 obtain ⟨a2,p2,rfl,s2⟩:=Zss h2
 obtain ⟨a3,p3,rfl,s3⟩:=Za87 h3
 obtain ⟨a4,p4,rfl,s4⟩:=Zss h4
 obtain ⟨a5,p5,rfl,s5⟩:=Zss h5
 obtain ⟨a6,p6,rfl,s6⟩:=Zss h6
 obtain ⟨V7,rfl,h7⟩:=cs_sl h7
 obtain ⟨a7,p7,X7,rfl,f7,s7⟩:=sl_of h7
 obtain ⟨Ms,k1,rfl,k3⟩:=Za7t f7
 obtain ⟨a8,p8,rfl,s8⟩:=ands_of h8
 have l7:List.length d.2.2.2.2.2.2.1=Ms.length:=Za3k k1
 refine ⟨⟨d.1,a2,p2,d.2.1,a3,p3,d.2.2.1.map latD,a4,p4,d.2.2.2.1,a5,p5,d.2.2.2.2.1,a6,p6,d.2.2.2.2.2.1,a7,p7,Ms,a8,p8,d.2.2.2.2.2.2.2.1.map andD⟩,?_,?_,?_⟩
 ·cases V with
  | agg cs=>
   have e1':cs.toList=c1++_:=e1
   rw [Zxa q8,show c1=_ from h1,l7] at e1'
   show Value.agg _=Value.agg cs
   congr 1
   apply Array.toList_inj.1
   rw [e1']
   rfl
  | _=>cases hagg
 ·simp only [NetH.d,k1];rfl
 ·exact ⟨s2,s3,s4,s5,s6,by rw [←l7];exact s7,k3,s8⟩
instance i64Dec (x:Int):Decidable (I64 x):=inferInstanceAs (Decidable (_∧_))
instance memFitDec (m:MemD):Decidable (Za5v m):=decidable_of_iff
 ((I64 m.word∧m.word≤4000)∧I64 m.addr∧m.reads.length≤100∧m.writes.length≤100∧(∀r∈m.reads,r.addr.length≤4000∧-1099511627776≤r.var∧r.var≤1099511627776∧∀x∈r.addr,I64 x) ∧
  ∀r∈m.writes,r.addr.length≤4000∧r.data.length≤4000∧I64 r.on∧(∀x∈r.addr,I64 x)∧∀x∈r.data,I64 x)
 ⟨fun ⟨a,b,c,d,e,f⟩=>⟨a,b,c,d,e,f⟩,fun ⟨a,b,c,d,e,f⟩=>⟨a,b,c,d,e,f⟩⟩
instance fitDec (n:NetD):Decidable (Fit n):=decidable_of_iff
 (I64 n.vars∧(n.inputs.length≤4000∧∀x∈n.inputs,I64 x)∧(n.latches.length≤4000∧∀l∈n.latches,I64 l.var∧I64 l.next∧I64 l.init)∧(n.outputs.length≤4000∧∀x∈n.outputs,I64 x) ∧
  (n.bads.length≤4000∧∀x∈n.bads,I64 x)∧(n.constraints.length≤4000∧∀x∈n.constraints,I64 x)∧(n.mems.length≤100∧∀m∈n.mems,Za5v m)∧(n.ands.length≤4000∧∀a∈n.ands,I64 a.var∧I64 a.a∧I64 a.b))
 ⟨fun ⟨a,b,c,d,e,f,g,h⟩=>⟨a,b,c,d,e,f,g,h⟩,fun ⟨a,b,c,d,e,f,g,h⟩=>⟨a,b,c,d,e,f,g,h⟩⟩
def fitB (n:NetD):Bool:=decide (Fit n)
theorem fitB_eq {n:NetD} (h:fitB n=true):Fit n:=of_decide_eq_true h
def Zfd:TL [Za5]→Option (TL [.int .i64]):=fun d=>match fitB (netD d.1) with
 | true=>some (Zj3 (netD d.1),())
 | false=>none
theorem Zwd {f:FuncId} {fn:Func} {c:Code} (h1:Tryz.prog.funcs[f]?=some fn) (h2:(fn.name == "runtime.NumGoroutine")=false) (h3:fn.body=some c)
  (h:∀(N:NetH) (w:World),N.okIn w w.heap.size→Fit N.d→Calls Tryz.prog f #[N.v] w fun e w'=>e=.returned (.int .i64 (Zj3 N.d))∧Below w.heap.size w w'):Comes Tryz.prog f [Za5] [.int .i64] Zfd:=by
 refine ⟨⟨fn,c,h1,h2,h3⟩,?_⟩
 intro d x hx w A args hA ha
 unfold Zfd at hx
 split at hx<;>cases hx
 rename_i hf
 obtain ⟨V,r,rfl,hd,hr⟩:=ha
 have:r=[]:=hr
 subst this
 obtain ⟨N,rfl,hN,hok⟩:=net_of hd
 have hf:=fitB_eq hf
 rw [←hN] at hf
 refine (h N w hok hf).mono ?_
 rintro e w' ⟨rfl,hb⟩
 exact ⟨[.int .i64 (Zj3 N.d)],rfl,hb,_,[],rfl,⟨by rw [hN];rfl,rfl⟩,rfl⟩
theorem Zwv:Comes Tryz.prog 193 [Za5] [.int .i64] Zfd:=
 Zwd (fn:=Tryz.f193) (c:=Zaa Tryz.f193) Tryz.func193 (by kernel_rfl) (by kernel_rfl) Za0r
theorem Zct:Comes Tryz.prog 85 [Za5] [.int .i64] Zfd:=
 Zwd (fn:=Tryz.f85) (c:=Zaa Tryz.f85) Tryz.func85 (by kernel_rfl) (by kernel_rfl) Za10
def Zad:=Zfd
abbrev Zb8p:=TL [Za5]→Option (TL [.int .i64])
abbrev Zb66:=Kd 193 [Za5] [.int .i64]
def Zb8q:Zb66:=⟨Zfd,Zwv⟩
abbrev Zaw1:=TL [Za5]→Option (TL [.int .i64])
abbrev Zapi:=Kd 85 [Za5] [.int .i64]
def Zaw2:Zapi:=⟨Zad,Zct⟩
end Go.Proofs.YtkcpdpplobhpaaaGreat.V
end
section
namespace Go.Proofs.YtkcpdpplobhpaaaGreat.V
open Go Go.RowKit
set_option maxRecDepth 1000000
abbrev Zsr:List Sh:=[(.int .i64)]
abbrev Zqn:List Sh:=[(.int .i64)]
abbrev Zb3g:=TL Zsr→Option (TL Zqn)
abbrev Zazd:=Kd 101 Zsr Zqn
def Zrx (a0:Int):Option (TL Zqn):=
 some ((Int.fdiv a0 (HPow.hPow (2:Int) (Min.min (Int.toNat (1:Int)) 64))),())
def Zb9s  :Zazd:=⟨u1 Zrx,pD Tryz.func101 5 k0 e0 1 (sS l0) fun d=>by kernel_rfl⟩
def Zb3h:Zazd:=Zb9s  
abbrev Zie:Lay:={ T:=[(1,.int .i64),(2,.ptr 0 0),(4,.hd 1 (.int .i64)),(16,.int .i64),(17,.int .i64)],h:=[(0,.cells [.int .i64,.int .i64,.bool,.fz Zb3,.fz Zb8] 116),(1,.arr (.int .i64) 3)],nx:=2 }
abbrev Zhq:List (Ev.Ex×Lay):=[((.exit 0),{ T:=[(4,.hd 0 (.int .i64))],h:=[(0,.arr (.int .i64) 3)],nx:=1 })]
abbrev Zb67:=TL Zie.σs→Option (Out Zhq)
abbrev Zb68:=Ld 0 33 (Zb5 [0] (Zaa Tryz.f139)) Zie Zhq
def Zql (t1 t16 t17 b0_0 b0_1:Int) (b0_2:Bool) (b0_3:List (Sh.T Zb3)) (b0_4:List (Sh.T Zb8)) (b1:List Int):Option (TL Zie.σs⊕Out Zhq):=
 br (iL t17 t16)
 (
  chk (inb t1 (List.length b0_3))<|
  chk (room 8 (List.length (ap b1 ((IntKind.wrap .i64 (@HAdd.hAdd (Int) (Int) (Int) _ (gt Zb3 b0_3 t1).1 t17)) :: []))))<|
  some (.inl (t1,(t16,((IntKind.wrap .i64 (t17+(1:Int))),(b0_0,(b0_1,(b0_2,(b0_3,(b0_4,((ap b1 ((IntKind.wrap .i64 (@HAdd.hAdd (Int) (Int) (Int) _ (gt Zb3 b0_3 t1).1 t17)) :: [])),())))))))))))
 (
  some (.inr (b1,())))
def Zb8r  :Zb68:=mkL (u9 Zql) (pL k0 e0 1 l0 fun d=>by kernel_rfl)
abbrev Zsq:List Sh:=[Za1,(.int .i64)]
abbrev Zqk:List Sh:=[(.sl (.int .i64))]
abbrev Zb6y:=TL Zsq→Option (TL Zqk)
abbrev Zb53:=Kd 139 Zsq Zqk
def Zrw (L4:Zb67) (a0:Sh.T Za1) (a1:Int):Option (TL Zqk):=
 br (iL a1 (0:Int))
 (
  some ([],()))
 (
  br (selB false true (iE (Int.ofNat (List.length a0.2.2.2.1)) a1))
  (
   some ([],()))
  (
   bnd (L4 (a1,(a0.2.1,((0:Int),(a0.1,(a0.2.1,(a0.2.2.1,(a0.2.2.2.1,(a0.2.2.2.2.1,([],())))))))))) fun x0=>
   some (x0.1,())))
def Zb9r (M4:Zb68):Zb53:=⟨u2 (Zrw M4.L),pD Tryz.func139 33 k0 e0 1 (sS (sC M4 l0)) fun d=>by kernel_rfl⟩
def Zb6z:Zb53:=Zb9r  Zb8r
abbrev yNc0:List (Nat×LO):=[(0,.cells [.int .i64,.fz (.int .i64),.fz Za0,.fz (.int .i64),.fz (.int .i64),.fz (.int .i64),.fz Za1,.fz Za0,.hd 1 (.int .i64),.hd 2 Za4,.hd 3 (.int .u8),.hd 4 (.int .i64)] 224),(1,.arr (.int .i64) 3),(2,.arr Za4 148),(3,.arr (.int .u8) 5),(4,.arr (.int .i64) 3)]
abbrev yNc1:List (Nat×LO):=[(0,.cells lNet 27),(1,.cells [.int .i64,.fz (.int .i64),.fz Za0,.fz (.int .i64),.fz (.int .i64),.fz (.int .i64),.fz Za1,.fz Za0,.hd 2 (.int .i64),.hd 3 Za4,.hd 4 (.int .u8),.hd 5 (.int .i64)] 224),(2,.arr (.int .i64) 3),(3,.arr Za4 148),(4,.arr (.int .u8) 5),(5,.arr (.int .i64) 3)]
abbrev yNc2:List (Nat×LO):=[(0,.cells [.fz (.int .i64)] 22),(1,.cells [.ptr 2 0] 198),(2,.cells [.int .i64,.fz (.int .i64),.fz Za0,.fz (.int .i64),.fz (.int .i64),.fz (.int .i64),.fz Za1,.fz Za0,.hd 3 (.int .i64),.hd 4 Za4,.hd 5 (.int .u8),.hd 6 (.int .i64)] 224),(3,.arr (.int .i64) 3),(4,.arr Za4 148),(5,.arr (.int .u8) 5),(6,.arr (.int .i64) 3)]
abbrev yNc3:List (Nat×LO):=[(0,.cells [.int .i64,.fz (.int .i64),.fz Za0,.fz (.int .i64),.fz (.int .i64),.fz (.int .i64),.fz Za1,.fz Za0,.hd 1 (.int .i64),.hd 2 Za4,.hd 3 (.int .u8),.hd 4 (.int .i64)] 224),(1,.arr (.int .i64) 3),(2,.arr Za4 148),(3,.arr (.int .u8) 5),(4,.arr (.int .i64) 3),(5,.cells [.ptr 0 0] 198),(6,.cells [.fz (.int .i64)] 22)]
abbrev yNc4:Lay:={ T:=[(3,.ptr 0 0),(77,.hd 2 Za4),(78,.int .i64),(79,.int .i64)],h:=yNc0,nx:=5 }
abbrev yNc5:Lay:={ T:=[(1,.ptr 0 0),(3,.ptr 1 0),(46,.int .i64),(47,.int .i64)],h:=yNc1,nx:=6 }
abbrev yNc6:Lay:={ T:=[(0,.ptr 0 0),(1,.agg [.bool,.int .i64,.int .i64])],h:=yNc0,nx:=5 }
abbrev Zb1:Lay:=yNc6
abbrev Zas:List (Ev.Ex×Lay):=[(.ret,{ T:=[(0,.fz (.int .i64))],h:=yNc0,nx:=5 })]
abbrev Zawy:=TL Zb1.σs→Option (Out Zas)
abbrev Zaqz:=Kb 240 2 Zb1 1 Zas
def Zhh (t1_0:Bool) (t1_1 t1_2 b0_0:Int) (b0_1:List Int) (b0_2:List (Sh.T Za0)) (b0_3 b0_4 b0_5:List Int) (b0_6:List (Sh.T Za1)) (b0_7:List (Sh.T Za0)) (b1:List Int) (b2:List (Sh.T Za4)) (b3 b4:List Int):Option (Out Zas):=
 br t1_0
 (
  chk (inb t1_1 (List.length b0_6))<|
  chk (inb t1_2 (List.length (gt Za1 b0_6 t1_1).2.2.2.1))<|
  some ((gt Zb3 (gt Za1 b0_6 t1_1).2.2.2.1 t1_2).2.1,(b0_0,(b0_1,(b0_2,(b0_3,(b0_4,(b0_5,(b0_6,(b0_7,(b1,(b2,(b3,(b4,()))))))))))))))
 (
  chk (inb t1_2 (List.length b0_7))<|
  some (((gt Za0 b0_7 t1_2).2.1 :: ((gt Za0 b0_7 t1_2).2.2.1 :: [])),(b0_0,(b0_1,(b0_2,(b0_3,(b0_4,(b0_5,(b0_6,(b0_7,(b1,(b2,(b3,(b4,()))))))))))))))
def Zb39  :Zaqz:=⟨u15 Zhh,pB Tryz.func240 37 k0 e0 1 (sS l0) fun d=>by kernel_rfl⟩
def Zawz:Zaqz:=Zb39  
abbrev Za9:Lay:=yNc6
abbrev Za8:List (Ev.Ex×Lay):=[(.ret,{ T:=[(0,.fz (.int .i64))],h:=yNc0,nx:=5 })]
abbrev Zak5:=TL Za9.σs→Option (Out Za8)
abbrev Zagt:=Kb 148 2 Za9 1 Za8
def Zir (F0:Zb6y) (t1_0:Bool) (t1_1 t1_2 b0_0:Int) (b0_1:List Int) (b0_2:List (Sh.T Za0)) (b0_3 b0_4 b0_5:List Int) (b0_6:List (Sh.T Za1)) (b0_7:List (Sh.T Za0)) (b1:List Int) (b2:List (Sh.T Za4)) (b3 b4:List Int):Option (Out Za8):=
 br t1_0
 (
  chk (inb t1_1 (List.length b0_6))<|
  bnd (F0 (((gt Za1 b0_6 t1_1).1,((gt Za1 b0_6 t1_1).2.1,((gt Za1 b0_6 t1_1).2.2.1,((gt Za1 b0_6 t1_1).2.2.2.1,((gt Za1 b0_6 t1_1).2.2.2.2.1,()))))),(t1_2,()))) fun x0=>
  some (x0.1,(b0_0,(b0_1,(b0_2,(b0_3,(b0_4,(b0_5,(b0_6,(b0_7,(b1,(b2,(b3,(b4,()))))))))))))))
 (
  chk (inb t1_2 (List.length b0_7))<|
  some (((gt Za0 b0_7 t1_2).1 :: []),(b0_0,(b0_1,(b0_2,(b0_3,(b0_4,(b0_5,(b0_6,(b0_7,(b1,(b2,(b3,(b4,()))))))))))))))
def Zb4c (c0:Zb53) :Zagt:=⟨u15 (Zir c0.F),pB Tryz.func148 30 (kD c0 k0) e0 1 (sS l0) fun d=>by kernel_rfl⟩
def Zak6:Zagt:=Zb4c Zb6z 
abbrev Zaq:Lay:={ T:=[(0,.int .u8),(1,.ptr 0 0),(2,.ptr 1 0)],h:=yNc2,nx:=7 }
abbrev Zai:List (Ev.Ex×Lay):=[(.ret,{ T:=[],h:=yNc2,nx:=7 })]
abbrev Zatb:=TL Zaq.σs→Option (Out Zai)
abbrev Zamt:=Kb 256 3 Zaq 0 Zai
abbrev Zcj:Lay:={ T:=[(0,.int .u8),(2,.ptr 1 0),(6,.fz (.int .i64)),(7,.int .i64),(8,.int .i64)],h:=yNc2,nx:=7 }
abbrev Zc1:List (Ev.Ex×Lay):=[((.exit 0),{ T:=[],h:=yNc2,nx:=7 })]
abbrev Zasf:=TL Zcj.σs→Option (Out Zc1)
abbrev Zasg:=Ld 7 20 (Zb5 [0] (Zaa Tryz.f256)) Zcj Zc1
def Zf8 (t0:Int) (t6:List Int) (t7 t8:Int) (b0_0:List Int) (b2_0:Int) (b2_1:List Int) (b2_2:List (Sh.T Za0)) (b2_3 b2_4 b2_5:List Int) (b2_6:List (Sh.T Za1)) (b2_7:List (Sh.T Za0)) (b3:List Int) (b4:List (Sh.T Za4)) (b5 b6:List Int):Option (TL Zcj.σs⊕Out Zc1):=
 br (iL t8 t7)
 (
  chk (inb t8 (List.length t6))<|
  chk (inb (gt (.int .i64) t6 t8) (List.length b5))<|
  some (.inl (t0,(t6,(t7,((IntKind.wrap .i64 (t8+(1:Int))),(b0_0,(b2_0,(b2_1,(b2_2,(b2_3,(b2_4,(b2_5,(b2_6,(b2_7,(b3,(b4,((List.set b5 (Int.toNat (gt (.int .i64) t6 t8)) t0),(b6,())))))))))))))))))))
 (
  some (.inr (b0_0,(b2_0,(b2_1,(b2_2,(b2_3,(b2_4,(b2_5,(b2_6,(b2_7,(b3,(b4,(b5,(b6,())))))))))))))))
def Zaz1  :Zasg:=mkL (u17 Zf8) (pL k0 e0 1 l0 fun d=>by kernel_rfl)
def Zfk (L1:Zasf) (t0:Int) (b0_0:List Int) (b2_0:Int) (b2_1:List Int) (b2_2:List (Sh.T Za0)) (b2_3 b2_4 b2_5:List Int) (b2_6:List (Sh.T Za1)) (b2_7:List (Sh.T Za0)) (b3:List Int) (b4:List (Sh.T Za4)) (b5 b6:List Int):Option (Out Zai):=
 bnd (L1 (t0,(b0_0,((Int.ofNat (List.length b0_0)),((0:Int),(b0_0,(b2_0,(b2_1,(b2_2,(b2_3,(b2_4,(b2_5,(b2_6,(b2_7,(b3,(b4,(b5,(b6,())))))))))))))))))) fun x0=>
 some x0
def Zazv (M1:Zasg):Zamt:=⟨u14 (Zfk M1.L),pB Tryz.func256 20 k0 e0 1 (sS (sC M1 l0)) fun d=>by kernel_rfl⟩
def Zatc:Zamt:=Zazv  Zaz1
abbrev Za7:Lay:={ T:=[(0,.ptr 0 0),(1,.int .i64)],h:=yNc0,nx:=5 }
abbrev Za6:List (Ev.Ex×Lay):=[(.ret,{ T:=[(0,.bool)],h:=yNc0,nx:=5 })]
abbrev Zabn:=TL Za7.σs→Option (Out Za6)
abbrev Zaaz:=Kb 226 2 Za7 1 Za6
abbrev Zcu:Lay:={ T:=[(2,.ptr 5 0),(7,.func 256 [] [.ptr 6 0,.ptr 5 0]),(8,.int .i64),(86,.fz (.int .i64)),(87,.int .i64),(88,.int .i64)],h:=yNc3,nx:=7 }
abbrev Zci:List (Ev.Ex×Lay):=[((.exit 3),{ T:=[(7,.func 256 [] [.ptr 5 0,.ptr 6 0])],h:=[(0,.cells [.int .i64,.fz (.int .i64),.fz Za0,.fz (.int .i64),.fz (.int .i64),.fz (.int .i64),.fz Za1,.fz Za0,.hd 1 (.int .i64),.hd 2 Za4,.hd 3 (.int .u8),.hd 4 (.int .i64)] 224),(1,.arr (.int .i64) 3),(2,.arr Za4 148),(3,.arr (.int .u8) 5),(4,.arr (.int .i64) 3),(5,.cells [.fz (.int .i64)] 22),(6,.cells [.ptr 0 0] 198)],nx:=7 })]
abbrev Zat9:=TL Zcu.σs→Option (Out Zci)
abbrev Zamr:=Ld 5 103 (Zb5 [1] (Zaa Tryz.f226)) Zcu Zci
abbrev Zbx:Lay:={ T:=[(2,.ptr 5 0),(6,.ptr 6 0),(7,.func 256 [] [.ptr 6 0,.ptr 5 0]),(8,.int .i64),(64,.fz (.int .i64)),(65,.int .i64),(66,.int .i64)],h:=yNc3,nx:=7 }
abbrev Zbl:List (Ev.Ex×Lay):=[(.ret,{ T:=[(4,.bool)],h:=yNc0,nx:=5 }),((.exit 1),{ T:=[(2,.ptr 5 0),(6,.ptr 6 0),(7,.func 256 [] [.ptr 6 0,.ptr 5 0]),(8,.int .i64)],h:=yNc3,nx:=7 })]
abbrev Zata:=TL Zbx.σs→Option (Out Zbl)
abbrev Zams:=Ld 5 103 (Zb5 [0] (Zaa Tryz.f226)) Zbx Zbl
def Zi2 (F0:Zb3g) (F1:Zabn) (t8:Int) (t64:List Int) (t65 t66 b0_0:Int) (b0_1:List Int) (b0_2:List (Sh.T Za0)) (b0_3 b0_4 b0_5:List Int) (b0_6:List (Sh.T Za1)) (b0_7:List (Sh.T Za0)) (b1:List Int) (b2:List (Sh.T Za4)) (b3 b4 b6_0:List Int):Option (TL Zbx.σs⊕Out Zbl):=
 br (iL t66 t65)
 (
  chk (inb t66 (List.length t64))<|
  bnd (F0 ((gt (.int .i64) t64 t66),())) fun x0=>
  bnd (F1 (x0.1,(b0_0,(b0_1,(b0_2,(b0_3,(b0_4,(b0_5,(b0_6,(b0_7,(b1,(b2,(b3,(b4,())))))))))))))) fun x1=>
  br (Bool.not x1.1)
  (
   some (.inr (.inl (false,x1.2))))
  (
   chk (inb x0.1 (List.length x1.2.2.2.2.2.2.2.2.2.2.2.2.1))<|
   some (.inl ((selI (iL t8 (gt (.int .i64) x1.2.2.2.2.2.2.2.2.2.2.2.2.1 x0.1)) (gt (.int .i64) x1.2.2.2.2.2.2.2.2.2.2.2.2.1 x0.1) t8),(t64,(t65,((IntKind.wrap .i64 (t66+(1:Int))),(x1.2.1,(x1.2.2.1,(x1.2.2.2.1,(x1.2.2.2.2.1,(x1.2.2.2.2.2.1,(x1.2.2.2.2.2.2.1,(x1.2.2.2.2.2.2.2.1,(x1.2.2.2.2.2.2.2.2.1,(x1.2.2.2.2.2.2.2.2.2.1,(x1.2.2.2.2.2.2.2.2.2.2.1,(x1.2.2.2.2.2.2.2.2.2.2.2.1,(x1.2.2.2.2.2.2.2.2.2.2.2.2.1,(b6_0,()))))))))))))))))))))
 (
  some (.inr (.inr (t8,(b0_0,(b0_1,(b0_2,(b0_3,(b0_4,(b0_5,(b0_6,(b0_7,(b1,(b2,(b3,(b4,(b6_0,())))))))))))))))))
def Zazu (c0:Zazd) (c1:Zaaz) :Zams:=mkL (u17 (Zi2 c0.F c1.F)) (pL (kD c0 (kB c1 k0)) e0 1 l0 fun d=>by kernel_rfl)
def Zazs (s:Zaaz):Zams:=Zazu Zb3h s 
def Zfj (t8:Int) (t86:List Int) (t87 t88 b0_0:Int) (b0_1:List Int) (b0_2:List (Sh.T Za0)) (b0_3 b0_4 b0_5:List Int) (b0_6:List (Sh.T Za1)) (b0_7:List (Sh.T Za0)) (b1:List Int) (b2:List (Sh.T Za4)) (b3 b4 b6_0:List Int):Option (TL Zcu.σs⊕Out Zci):=
 br (iL t88 t87)
 (
  chk (inb t88 (List.length t86))<|
  chk (inb (gt (.int .i64) t86 t88) (List.length b4))<|
  some (.inl (t8,(t86,(t87,((IntKind.wrap .i64 (t88+(1:Int))),(b0_0,(b0_1,(b0_2,(b0_3,(b0_4,(b0_5,(b0_6,(b0_7,(b1,(b2,(b3,((List.set b4 (Int.toNat (gt (.int .i64) t86 t88)) (IntKind.wrap .i64 (t8+(1:Int)))),(b6_0,())))))))))))))))))))
 (
  some (.inr (b0_0,(b0_1,(b0_2,(b0_3,(b0_4,(b0_5,(b0_6,(b0_7,(b1,(b2,(b3,(b4,(b6_0,())))))))))))))))
def Zazt  :Zamr:=mkL (u17 Zfj) (pL k0 e0 1 l0 fun d=>by kernel_rfl)
def Zazr (s:Zaaz):Zamr:=Zazt  
def Zgu (F0:Zb3g) (F1:Zabn) (F2:Zawy) (F3:Zatb) (F4:Zak5) (L11:Zata) (L19:Zat9) (t1 b0_0:Int) (b0_1:List Int) (b0_2:List (Sh.T Za0)) (b0_3 b0_4 b0_5:List Int) (b0_6:List (Sh.T Za1)) (b0_7:List (Sh.T Za0)) (b1:List Int) (b2:List (Sh.T Za4)) (b3 b4:List Int):Option (Out Za6):=
 chk (inb t1 (List.length b1))<|
 br (iQ (gt (.int .i64) b1 t1) (0:Int))
 (
  some (true,(b0_0,(b0_1,(b0_2,(b0_3,(b0_4,(b0_5,(b0_6,(b0_7,(b1,(b2,(b3,(b4,()))))))))))))))
 (
  chk (inb t1 (List.length b3))<|
  br (selB false true (iQ (gt (.int .u8) b3 t1) (2:Int)))
  (
   some (true,(b0_0,(b0_1,(b0_2,(b0_3,(b0_4,(b0_5,(b0_6,(b0_7,(b1,(b2,(b3,(b4,()))))))))))))))
  (
   chk (inb t1 (List.length b3))<|
   br (iQ (gt (.int .u8) b3 t1) (1:Int))
   (
    some (false,(b0_0,(b0_1,(b0_2,(b0_3,(b0_4,(b0_5,(b0_6,(b0_7,(b1,(b2,(b3,(b4,()))))))))))))))
   (
    chk (inb t1 (List.length b1))<|
    chk (inb (IntKind.wrap .i64 (@HSub.hSub (Int) (Int) (Int) _ (gt (.int .i64) b1 t1) (1:Int))) (List.length b2))<|
    bnd (F4 ((gt Za4 b2 (IntKind.wrap .i64 (@HSub.hSub (Int) (Int) (Int) _ (gt (.int .i64) b1 t1) (1:Int)))).1,((gt Za4 b2 (IntKind.wrap .i64 (@HSub.hSub (Int) (Int) (Int) _ (gt (.int .i64) b1 t1) (1:Int)))).2.1,((gt Za4 b2 (IntKind.wrap .i64 (@HSub.hSub (Int) (Int) (Int) _ (gt (.int .i64) b1 t1) (1:Int)))).2.2.1,(b0_0,(b0_1,(b0_2,(b0_3,(b0_4,(b0_5,(b0_6,(b0_7,(b1,(b2,(b3,(b4,())))))))))))))))) fun x0=>
    bnd (F3 ((1:Int),x0)) fun x1=>
    bnd (F2 ((gt Za4 b2 (IntKind.wrap .i64 (@HSub.hSub (Int) (Int) (Int) _ (gt (.int .i64) b1 t1) (1:Int)))).1,((gt Za4 b2 (IntKind.wrap .i64 (@HSub.hSub (Int) (Int) (Int) _ (gt (.int .i64) b1 t1) (1:Int)))).2.1,((gt Za4 b2 (IntKind.wrap .i64 (@HSub.hSub (Int) (Int) (Int) _ (gt (.int .i64) b1 t1) (1:Int)))).2.2.1,x1.2)))) fun x2=>
    bnd (L11 ((0:Int),(x2.1,((Int.ofNat (List.length x2.1)),((0:Int),(x2.2.1,(x2.2.2.1,(x2.2.2.2.1,(x2.2.2.2.2.1,(x2.2.2.2.2.2.1,(x2.2.2.2.2.2.2.1,(x2.2.2.2.2.2.2.2.1,(x2.2.2.2.2.2.2.2.2.1,(x2.2.2.2.2.2.2.2.2.2.1,(x2.2.2.2.2.2.2.2.2.2.2.1,(x2.2.2.2.2.2.2.2.2.2.2.2.1,(x2.2.2.2.2.2.2.2.2.2.2.2.2.1,(x1.1,())))))))))))))))))) fun x3=>
    (match x3 with
    | .inl x4=>
     some x4
    | .inr x4=>
     bnd (L19 (x4.1,(x4.2.2.2.2.2.2.2.2.2.2.2.2.2.1,((Int.ofNat (List.length x4.2.2.2.2.2.2.2.2.2.2.2.2.2.1)),((0:Int),x4.2))))) fun x5=>
     bnd (F3 ((2:Int),(x5.2.2.2.2.2.2.2.2.2.2.2.2.1,(x5.1,(x5.2.1,(x5.2.2.1,(x5.2.2.2.1,(x5.2.2.2.2.1,(x5.2.2.2.2.2.1,(x5.2.2.2.2.2.2.1,(x5.2.2.2.2.2.2.2.1,(x5.2.2.2.2.2.2.2.2.1,(x5.2.2.2.2.2.2.2.2.2.1,(x5.2.2.2.2.2.2.2.2.2.2.1,(x5.2.2.2.2.2.2.2.2.2.2.2.1,()))))))))))))))) fun x6=>
     some (true,x6.2)
    ))))
def Zb25 (c0:Zazd) (c1:Zaaz) (c2:Zaqz) (c3:Zamt) (c4:Zagt) (M11:Zams) (M19:Zamr):Zaaz:=⟨u13 (Zgu c0.F c1.F c2.F c3.F c4.F M11.L M19.L),pB Tryz.func226 103 (kD c0 (kB c1 (kB c2 (kB c3 (kB c4 k0))))) e0 1 (sS (sC M11 (sC M19 l0))) fun d=>by kernel_rfl⟩
def Zagr:Nat→Zaaz
 | 0=>mk0 Tryz.func226 (by kernel_rfl) (by kernel_rfl)
 | k+1=>Zb25 Zb3h (Zagr k) Zawz Zatc Zak6 (Zazs (Zagr k)) (Zazr (Zagr k))
def Zapq:Zaaz:=Zagr NN
abbrev Zdy:Lay:={ T:=[(0,.ptr 0 0)],h:=yNc0,nx:=5 }
abbrev Zdc:List (Ev.Ex×Lay):=[(.ret,{ T:=[(0,.bool)],h:=yNc0,nx:=5 })]
abbrev Zaxk:=TL Zdy.σs→Option (Out Zdc)
abbrev Zarx:=Kb 195 1 Zdy 1 Zdc
abbrev Zdd:Lay:={ T:=[(3,.func 226 [.ptr 0 0] []),(11,.int .i64),(12,.int .i64)],h:=yNc0,nx:=5 }
abbrev Zcr:List (Ev.Ex×Lay):=[(.ret,{ T:=[(2,.bool)],h:=yNc0,nx:=5 }),((.exit 0),{ T:=[],h:=yNc0,nx:=5 })]
abbrev Zax0:=TL Zdd.σs→Option (Out Zcr)
abbrev Zar0:=Ld 5 20 (Zb5 [0] (Zaa Tryz.f195)) Zdd Zcr
def Zjd (F0:Zabn) (t11 t12 b0_0:Int) (b0_1:List Int) (b0_2:List (Sh.T Za0)) (b0_3 b0_4 b0_5:List Int) (b0_6:List (Sh.T Za1)) (b0_7:List (Sh.T Za0)) (b1:List Int) (b2:List (Sh.T Za4)) (b3 b4:List Int):Option (TL Zdd.σs⊕Out Zcr):=
 br (iL t12 t11)
 (
  bnd (F0 (t12,(b0_0,(b0_1,(b0_2,(b0_3,(b0_4,(b0_5,(b0_6,(b0_7,(b1,(b2,(b3,(b4,())))))))))))))) fun x0=>
  br (Bool.not x0.1)
  (
   some (.inr (.inl (false,x0.2))))
  (
   some (.inl (t11,((IntKind.wrap .i64 (t12+(1:Int))),x0.2)))))
 (
  some (.inr (.inr (b0_0,(b0_1,(b0_2,(b0_3,(b0_4,(b0_5,(b0_6,(b0_7,(b1,(b2,(b3,(b4,())))))))))))))))
def Zb3b (c0:Zaaz) :Zar0:=mkL (u14 (Zjd c0.F)) (pL (kB c0 k0) e0 1 l0 fun d=>by kernel_rfl)
def Zb3a:Zar0:=Zb3b Zapq 
def Zm5 (F0:Zabn) (L3:Zax0) (b0_0:Int) (b0_1:List Int) (b0_2:List (Sh.T Za0)) (b0_3 b0_4 b0_5:List Int) (b0_6:List (Sh.T Za1)) (b0_7:List (Sh.T Za0)) (b1:List Int) (b2:List (Sh.T Za4)) (b3 b4:List Int):Option (Out Zdc):=
 bnd (L3 ((Int.ofNat (List.length b1)),((0:Int),(b0_0,(b0_1,(b0_2,(b0_3,(b0_4,(b0_5,(b0_6,(b0_7,(b1,(b2,(b3,(b4,()))))))))))))))) fun x0=>
 (match x0 with
 | .inl x1=>
  some x1
 | .inr x1=>
  some (true,x1)
 )
def Zb3n (c0:Zaaz) (M3:Zar0):Zarx:=⟨u12 (Zm5 c0.F M3.L),pB Tryz.func195 20 (kB c0 k0) e0 1 (sS (sC M3 l0)) fun d=>by kernel_rfl⟩
def Zaxl:Zarx:=Zb3n Zapq Zb3a
abbrev Zjf:Lay:={ T:=[(0,.agg lNet)],h:=[],nx:=0 }
abbrev Zhl:List (Ev.Ex×Lay):=[(.ret,{ T:=[(0,.ptr 0 0)],h:=yNc0,nx:=5 })]
abbrev Zb5t:=TL Zjf.σs→Option (Out Zhl)
abbrev Zb3w:=Kb 194 1 Zjf 1 Zhl
abbrev Zgb:Lay:=yNc4
abbrev Zfl:List (Ev.Ex×Lay):=[((.exit 6),{ T:=[(3,.ptr 0 0)],h:=yNc0,nx:=5 })]
abbrev Zb4e:=TL Zgb.σs→Option (Out Zfl)
abbrev Zb00:=Ld 0 103 (Zb5 [2] (Zaa Tryz.f194)) Zgb Zfl
abbrev Zdz:Lay:={ T:=[(3,.ptr 0 0),(7,.int .i64),(77,.hd 2 Za4),(78,.int .i64),(79,.int .i64),(86,.fz (.int .i64)),(87,.int .i64),(88,.int .i64)],h:=yNc0,nx:=5 }
abbrev Zdl:List (Ev.Ex×Lay):=[((.exit 8),yNc4)]
abbrev Zazx:=TL Zdz.σs→Option (Out Zdl)
abbrev Zazz:=Ld 0 103 (Zb5 [2,0] (Zaa Tryz.f194)) Zdz Zdl
abbrev Zhm:Lay:=yNc5
abbrev Zg9:List (Ev.Ex×Lay):=[((.exit 2),{ T:=[(3,.ptr 0 0)],h:=yNc0,nx:=5 })]
abbrev Zb5a:=TL Zhm.σs→Option (Out Zg9)
abbrev Zb2a:=Ld 0 103 (Zb5 [1] (Zaa Tryz.f194)) Zhm Zg9
abbrev Ze0:Lay:={ T:=[(1,.ptr 0 0),(3,.ptr 1 0),(5,.int .i64),(46,.int .i64),(47,.int .i64),(56,.int .i64),(57,.int .i64)],h:=yNc1,nx:=6 }
abbrev Zdm:List (Ev.Ex×Lay):=[((.exit 4),yNc5)]
abbrev Zazy:=TL Ze0.σs→Option (Out Zdm)
abbrev Zb01:=Ld 0 103 (Zb5 [1,0] (Zaa Tryz.f194)) Ze0 Zdm
abbrev Zhn:Lay:={ T:=[(1,.ptr 0 0),(3,.ptr 1 0),(28,.int .i64),(29,.int .i64)],h:=yNc1,nx:=6 }
abbrev Zga:List (Ev.Ex×Lay):=[((.exit 0),{ T:=[(1,.ptr 0 0),(3,.ptr 1 0)],h:=yNc1,nx:=6 })]
abbrev Zb5b:=TL Zhn.σs→Option (Out Zga)
abbrev Zb5c:=Ld 0 103 (Zb5 [0] (Zaa Tryz.f194)) Zhn Zga
def Zob (t28 t29 b0_0:Int) (b0_1:List Int) (b0_2:List (Sh.T Za0)) (b0_3 b0_4 b0_5:List Int) (b0_6:List (Sh.T Za1)) (b0_7:List (Sh.T Za0)) (b1_0:Int) (b1_1:List Int) (b1_2:List (Sh.T Za0)) (b1_3 b1_4 b1_5:List Int) (b1_6:List (Sh.T Za1)) (b1_7:List (Sh.T Za0)) (b2:List Int) (b3:List (Sh.T Za4)) (b4 b5:List Int):Option (TL Zhn.σs⊕Out Zga):=
 br (iL t29 t28)
 (
  chk (room 24 (List.length (ap b3 ((false,((0:Int),(t29,()))) :: []))))<|
  some (.inl (t28,((IntKind.wrap .i64 (t29+(1:Int))),(b0_0,(b0_1,(b0_2,(b0_3,(b0_4,(b0_5,(b0_6,(b0_7,(b1_0,(b1_1,(b1_2,(b1_3,(b1_4,(b1_5,(b1_6,(b1_7,(b2,((ap b3 ((false,((0:Int),(t29,()))) :: [])),(b4,(b5,()))))))))))))))))))))))))
 (
  some (.inr (b0_0,(b0_1,(b0_2,(b0_3,(b0_4,(b0_5,(b0_6,(b0_7,(b1_0,(b1_1,(b1_2,(b1_3,(b1_4,(b1_5,(b1_6,(b1_7,(b2,(b3,(b4,(b5,()))))))))))))))))))))))
def Zb7s  :Zb5c:=mkL (u22 Zob) (pL k0 e0 1 l0 fun d=>by kernel_rfl)
def Zma (t5 t46 t47 t56 t57 b0_0:Int) (b0_1:List Int) (b0_2:List (Sh.T Za0)) (b0_3 b0_4 b0_5:List Int) (b0_6:List (Sh.T Za1)) (b0_7:List (Sh.T Za0)) (b1_0:Int) (b1_1:List Int) (b1_2:List (Sh.T Za0)) (b1_3 b1_4 b1_5:List Int) (b1_6:List (Sh.T Za1)) (b1_7:List (Sh.T Za0)) (b2:List Int) (b3:List (Sh.T Za4)) (b4 b5:List Int):Option (TL Ze0.σs⊕Out Zdm):=
 br (iL t57 t56)
 (
  chk (room 24 (List.length (ap b3 ((true,(t5,(t57,()))) :: []))))<|
  some (.inl (t5,(t46,(t47,(t56,((IntKind.wrap .i64 (t57+(1:Int))),(b0_0,(b0_1,(b0_2,(b0_3,(b0_4,(b0_5,(b0_6,(b0_7,(b1_0,(b1_1,(b1_2,(b1_3,(b1_4,(b1_5,(b1_6,(b1_7,(b2,((ap b3 ((true,(t5,(t57,()))) :: [])),(b4,(b5,())))))))))))))))))))))))))))
 (
  some (.inr (t46,(t47,(b0_0,(b0_1,(b0_2,(b0_3,(b0_4,(b0_5,(b0_6,(b0_7,(b1_0,(b1_1,(b1_2,(b1_3,(b1_4,(b1_5,(b1_6,(b1_7,(b2,(b3,(b4,(b5,()))))))))))))))))))))))))
def Zb4g  :Zb01:=mkL (fun d=>Zma   d.1 d.2.1 d.2.2.1 d.2.2.2.1 d.2.2.2.2.1 d.2.2.2.2.2.1 d.2.2.2.2.2.2.1 d.2.2.2.2.2.2.2.1 d.2.2.2.2.2.2.2.2.1 d.2.2.2.2.2.2.2.2.2.1 d.2.2.2.2.2.2.2.2.2.2.1 d.2.2.2.2.2.2.2.2.2.2.2.1 d.2.2.2.2.2.2.2.2.2.2.2.2.1 d.2.2.2.2.2.2.2.2.2.2.2.2.2.1 d.2.2.2.2.2.2.2.2.2.2.2.2.2.2.1 d.2.2.2.2.2.2.2.2.2.2.2.2.2.2.2.1 d.2.2.2.2.2.2.2.2.2.2.2.2.2.2.2.2.1 d.2.2.2.2.2.2.2.2.2.2.2.2.2.2.2.2.2.1 d.2.2.2.2.2.2.2.2.2.2.2.2.2.2.2.2.2.2.1 d.2.2.2.2.2.2.2.2.2.2.2.2.2.2.2.2.2.2.2.1 d.2.2.2.2.2.2.2.2.2.2.2.2.2.2.2.2.2.2.2.2.1 d.2.2.2.2.2.2.2.2.2.2.2.2.2.2.2.2.2.2.2.2.2.1 d.2.2.2.2.2.2.2.2.2.2.2.2.2.2.2.2.2.2.2.2.2.2.1 d.2.2.2.2.2.2.2.2.2.2.2.2.2.2.2.2.2.2.2.2.2.2.2.1 d.2.2.2.2.2.2.2.2.2.2.2.2.2.2.2.2.2.2.2.2.2.2.2.2.1) (pL k0 e0 1 l0 fun d=>by kernel_rfl)
def Zoa (L11:Zazy) (t46 t47 b0_0:Int) (b0_1:List Int) (b0_2:List (Sh.T Za0)) (b0_3 b0_4 b0_5:List Int) (b0_6:List (Sh.T Za1)) (b0_7:List (Sh.T Za0)) (b1_0:Int) (b1_1:List Int) (b1_2:List (Sh.T Za0)) (b1_3 b1_4 b1_5:List Int) (b1_6:List (Sh.T Za1)) (b1_7:List (Sh.T Za0)) (b2:List Int) (b3:List (Sh.T Za4)) (b4 b5:List Int):Option (TL Zhm.σs⊕Out Zg9):=
 br (iL t47 t46)
 (
  chk (inb t47 (List.length b0_6))<|
  bnd (L11 (t47,(t46,(t47,((Int.ofNat (List.length (gt Za1 b0_6 t47).2.2.2.1)),((0:Int),(b0_0,(b0_1,(b0_2,(b0_3,(b0_4,(b0_5,(b0_6,(b0_7,(b1_0,(b1_1,(b1_2,(b1_3,(b1_4,(b1_5,(b1_6,(b1_7,(b2,(b3,(b4,(b5,())))))))))))))))))))))))))) fun x0=>
  some (.inl (x0.1,((IntKind.wrap .i64 (@HAdd.hAdd (Int) (Int) (Int) _ x0.2.1 (1:Int))),x0.2.2))))
 (
  some (.inr (b1_0,(b1_1,(b1_2,(b1_3,(b1_4,(b1_5,(b1_6,(b1_7,(b2,(b3,(b4,(b5,()))))))))))))))
def Zb7t (M11:Zb01):Zb2a:=mkL (u22 (Zoa M11.L)) (pL k0 e0 1 (sC M11 l0) fun d=>by kernel_rfl)
def Zb7r:Zb2a:=Zb7t  Zb4g
def Zm8 (t7 t78 t79:Int) (t86:List Int) (t87 t88 b0_0:Int) (b0_1:List Int) (b0_2:List (Sh.T Za0)) (b0_3 b0_4 b0_5:List Int) (b0_6:List (Sh.T Za1)) (b0_7:List (Sh.T Za0)) (b1:List Int) (b2:List (Sh.T Za4)) (b3 b4:List Int):Option (TL Zdz.σs⊕Out Zdl):=
 br (iL t88 t87)
 (
  chk (inb t88 (List.length t86))<|
  chk (inb (gt (.int .i64) t86 t88) (List.length b1))<|
  some (.inl (t7,(t78,(t79,(t86,(t87,((IntKind.wrap .i64 (t88+(1:Int))),(b0_0,(b0_1,(b0_2,(b0_3,(b0_4,(b0_5,(b0_6,(b0_7,((List.set b1 (Int.toNat (gt (.int .i64) t86 t88)) (IntKind.wrap .i64 (t7+(1:Int)))),(b2,(b3,(b4,()))))))))))))))))))))
 (
  some (.inr (t78,(t79,(b0_0,(b0_1,(b0_2,(b0_3,(b0_4,(b0_5,(b0_6,(b0_7,(b1,(b2,(b3,(b4,()))))))))))))))))
def Zb4f  :Zazz:=mkL (u18 Zm8) (pL k0 e0 1 l0 fun d=>by kernel_rfl)
def Zm9 (F0:Zak5) (L20:Zazx) (t78 t79 b0_0:Int) (b0_1:List Int) (b0_2:List (Sh.T Za0)) (b0_3 b0_4 b0_5:List Int) (b0_6:List (Sh.T Za1)) (b0_7:List (Sh.T Za0)) (b1:List Int) (b2:List (Sh.T Za4)) (b3 b4:List Int):Option (TL Zgb.σs⊕Out Zfl):=
 br (iL t79 t78)
 (
  chk (inb t79 (List.length b2))<|
  bnd (F0 ((gt Za4 b2 t79).1,((gt Za4 b2 t79).2.1,((gt Za4 b2 t79).2.2.1,(b0_0,(b0_1,(b0_2,(b0_3,(b0_4,(b0_5,(b0_6,(b0_7,(b1,(b2,(b3,(b4,())))))))))))))))) fun x0=>
  bnd (L20 (t79,(t78,(t79,(x0.1,((Int.ofNat (List.length x0.1)),((0:Int),x0.2))))))) fun x1=>
  some (.inl (x1.1,((IntKind.wrap .i64 (@HAdd.hAdd (Int) (Int) (Int) _ x1.2.1 (1:Int))),x1.2.2))))
 (
  some (.inr (b0_0,(b0_1,(b0_2,(b0_3,(b0_4,(b0_5,(b0_6,(b0_7,(b1,(b2,(b3,(b4,()))))))))))))))
def Zb76 (c0:Zagt) (M20:Zazz):Zb00:=mkL (u14 (Zm9 c0.F M20.L)) (pL (kB c0 k0) e0 1 (sC M20 l0) fun d=>by kernel_rfl)
def Zb75:Zb00:=Zb76 Zak6 Zb4f
def Zq4 (F0:Zak5) (L3:Zb5b) (L8:Zb5a) (L11:Zazy) (L17:Zb4e) (L20:Zazx) (t0_0:Int) (t0_1:List Int) (t0_2:List (Sh.T Za0)) (t0_3 t0_4 t0_5:List Int) (t0_6:List (Sh.T Za1)) (t0_7:List (Sh.T Za0)):Option (Out Zhl):=
 chk (both (iE (0:Int) (IntKind.wrap .i64 (t0_0+(1:Int)))) (both (iE (IntKind.wrap .i64 (t0_0+(1:Int))) (IntKind.wrap .i64 (t0_0+(1:Int)))) (iE ((Int.ofNat 8)*(IntKind.wrap .i64 (t0_0+(1:Int)))) (281474976710656:Int))))<|
 chk (both (iE (0:Int) (IntKind.wrap .i64 (t0_0+(1:Int)))) (both (iE (IntKind.wrap .i64 (t0_0+(1:Int))) (IntKind.wrap .i64 (t0_0+(1:Int)))) (iE ((Int.ofNat 1)*(IntKind.wrap .i64 (t0_0+(1:Int)))) (281474976710656:Int))))<|
 chk (both (iE (0:Int) (IntKind.wrap .i64 (t0_0+(1:Int)))) (both (iE (IntKind.wrap .i64 (t0_0+(1:Int))) (IntKind.wrap .i64 (t0_0+(1:Int)))) (iE ((Int.ofNat 8)*(IntKind.wrap .i64 (t0_0+(1:Int)))) (281474976710656:Int))))<|
 bnd (L3 ((Int.ofNat (List.length t0_7)),((0:Int),(t0_0,(t0_1,(t0_2,(t0_3,(t0_4,(t0_5,(t0_6,(t0_7,(t0_0,(t0_1,(t0_2,(t0_3,(t0_4,(t0_5,(t0_6,(t0_7,((List.replicate (Int.toNat (IntKind.wrap .i64 (t0_0+(1:Int)))) (Sh.zero (.int .i64))),([],((List.replicate (Int.toNat (IntKind.wrap .i64 (t0_0+(1:Int)))) (Sh.zero (.int .u8))),((List.replicate (Int.toNat (IntKind.wrap .i64 (t0_0+(1:Int)))) (Sh.zero (.int .i64))),()))))))))))))))))))))))) fun x0=>
 bnd (L8 ((Int.ofNat (List.length x0.2.2.2.2.2.2.1)),((0:Int),x0))) fun x1=>
 bnd (L17 ((Int.ofNat (List.length x1.2.2.2.2.2.2.2.2.2.1)),((0:Int),x1))) fun x2=>
 some x2
def Zb8k (c0:Zagt) (M3:Zb5c) (M8:Zb2a) (M11:Zb01) (M17:Zb00) (M20:Zazz):Zb3w:=⟨u8 (Zq4 c0.F M3.L M8.L M11.L M17.L M20.L),pB Tryz.func194 103 (kB c0 k0) e0 1 (sS (sC M3 (sC M8 (sC M17 l0)))) fun d=>by kernel_rfl⟩
def Zb5u:Zb3w:=Zb8k Zak6 Zb7s Zb7r Zb4g Zb75 Zb4f
abbrev Zjg:Lay:={ T:=[(0,.agg lNet)],h:=[],nx:=0 }
abbrev Zho:List (Ev.Ex×Lay):=[(.ret,{ T:=[(0,.nilp),(1,.int .i64)],h:=[],nx:=0 }),(.ret,{ T:=[(0,.ptr 0 0),(1,.int .i64)],h:=yNc0,nx:=5 })]
abbrev Zb3x:=TL Zjg.σs→Option (Out Zho)
abbrev Zb02:=Kb 128 1 Zjg 2 Zho
def Zw8 (F0:Zb8p) (F1:Zaxk) (F2:Zb5t) (t0_0:Int) (t0_1:List Int) (t0_2:List (Sh.T Za0)) (t0_3 t0_4 t0_5:List Int) (t0_6:List (Sh.T Za1)) (t0_7:List (Sh.T Za0)):Option (Out Zho):=
 bnd (F0 ((t0_0,(t0_1,(t0_2,(t0_3,(t0_4,(t0_5,(t0_6,(t0_7,())))))))),())) fun x0=>
 br (Bool.not (iQ x0.1 (0:Int)))
 (
  some (.inl (x0.1,())))
 (
  bnd (F2 (t0_0,(t0_1,(t0_2,(t0_3,(t0_4,(t0_5,(t0_6,(t0_7,()))))))))) fun x1=>
  bnd (F1 x1) fun x2=>
  br (Bool.not x2.1)
  (
   some (.inl ((8:Int),())))
  (
   some (.inr ((0:Int),x2.2))))
def Zb8l (c0:Zb66) (c1:Zarx) (c2:Zb3w) :Zb02:=⟨u8 (Zw8 c0.F c1.F c2.F),pB Tryz.func128 17 (kD c0 (kB c1 (kB c2 k0))) e0 1 (sS l0) fun d=>by kernel_rfl⟩
def Zb3y:Zb02:=Zb8l Zb8q Zaxl Zb5u 
abbrev Zq5:List Sh:=[Za5]
abbrev Zmb:List Sh:=[(.int .i64)]
abbrev Zaq7:=TL Zq5→Option (TL Zmb)
abbrev Zamw:=Kd 66 Zq5 Zmb
def Zul (F0:Zb3x) (a0:Sh.T Za5):Option (TL Zmb):=
 bnd (F0 a0) fun x0=>
 (match x0 with
 | .inl x1=>
  some (x1.1,())
 | .inr x1=>
  some (x1.1,())
 )
def Zb7w (c0:Zb02) :Zamw:=⟨u1 (Zul c0.F),pD Tryz.func66 11 (kB c0 k0) e0 1 (sS l0) fun d=>by kernel_rfl⟩
def Zaq8:Zamw:=Zb7w Zb3y 
end Go.Proofs.YtkcpdpplobhpaaaGreat.V
end
