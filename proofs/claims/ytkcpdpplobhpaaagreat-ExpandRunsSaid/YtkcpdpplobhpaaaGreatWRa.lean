import Derived.Test.YtkcpdpplobhpaaaGreatWSa
set_option linter.unusedVariables false
set_option linter.unusedSimpArgs false
set_option linter.unnecessarySimpa false
section
namespace Go.Proofs.YtkcpdpplobhpaaaGreat.V
open Go Go.RowKit
set_option maxRecDepth 1000000
abbrev aaq:List Sh:=[(.int .i64)]
abbrev CY:List Sh:=[.bool]
abbrev aat:=TL aaq->Option (TL CY)
abbrev Na:=Kd 198 aaq CY
def M0(a0:Int):Option (TL CY):=some ((Bool.not (iQ a0 a0)),())
def amR  :Na:=⟨u1 M0,pD Tryz.func198 6 k0 e0 1 (sS l0) fun d=>by kernel_rfl⟩
def aau:Na:=amR
def aar:aat:=aau.F
abbrev aal:List Sh:=[(.int .i64),(.int .i64)]
abbrev CU:List Sh:=[(.int .i64)]
abbrev aam:=TL aal->Option (TL CU)
abbrev MU:=Kd 147 aal CU
def wI(F0:aat)(a0 a1:Int):Option (TL CU):=
 ao (F0 (a0,())) fun x0=>
 ao (F0 (a1,())) fun x1=>
 br x0.1
 (
  br x1.1
  (
   some ((0:Int),()))
  (
   some ((Int.negSucc 0),())))
 (
  br x1.1
  (
   some ((1:Int),()))
  (
   br (iL a0 a1)
   (
    some ((Int.negSucc 0),()))
   (
    br (iL a1 a0)
    (
     some ((1:Int),()))
    (
     some ((0:Int),())))))
def amK(c0:Na) :MU:=⟨u2 (wI c0.F),pD Tryz.func147 20 (kD c0 k0) e0 1 (sS l0) fun d=>by kernel_rfl⟩
def aan:MU:=amK aau
def MT:aam:=aan.F
abbrev iY:List (Nat×LO):=[(0,.arr aq 148),(1,.cells [.ptr 2 0] 198),(2,.cells [.int .i64,.fz (.int .i64),.fz ae,.fz (.int .i64),.fz (.int .i64),.fz (.int .i64),.fz ab,.fz ae,.hd 3 (.int .i64),.hd 0 aq,.hd 4 (.int .u8),.hd 5 (.int .i64)] 224),(3,.arr (.int .i64) 3),(4,.arr (.int .u8) 5),(5,.arr (.int .i64) 3)]
abbrev DQ:List (Nat×LO):=[(0,.cells [.int .i64,.fz (.int .i64),.fz ae,.fz (.int .i64),.fz (.int .i64),.fz (.int .i64),.hd 1 ab,.fz ae] 27),(1,.dV ab [.int .i64,.int .i64,.bool,.hd 2 bg,.hd 3 aH] 116),(2,.arr bg 152),(3,.arr aH 175),(4,.cells [.int .i64,.bk,.bk,.bk,.bk,.bk,.bk,.bk] 27)]
abbrev abW:List (Nat×LO):=[(0,.cells [.ptr 1 0] 198),(1,.cells [.int .i64,.fz (.int .i64),.fz ae,.fz (.int .i64),.fz (.int .i64),.fz (.int .i64),.fz ab,.fz ae,.hd 2 (.int .i64),.hd 3 aq,.hd 4 (.int .u8),.hd 5 (.int .i64)] 224),(2,.arr (.int .i64) 3),(3,.arr aq 148),(4,.arr (.int .u8) 5),(5,.arr (.int .i64) 3)]
abbrev nq:Lay:={ T:=[],h:=iY,nx:=6 }
abbrev Ow:Lay:={ T:=[(0,.hd 0 aq),(1,.int .i64),(2,.int .i64),(3,.int .i64),(4,.func 146 [] [.ptr 1 0])],h:=iY,nx:=6 }
abbrev abX:List (Nat×LO):=[(0,.cells [.int .i64,.fz (.int .i64),.fz ae,.fz (.int .i64),.fz (.int .i64),.fz (.int .i64),.hd 1 ab,.fz ae] 27),(1,.arr ab 116),(2,.cells [.int .i64,.bk,.bk,.bk,.bk,.bk,.bk,.bk] 27)]
abbrev DR:List (Nat×LO):=[(0,.cells [.int .i64,.int .i64,.mp 1] 220),(1,.map .u64 (.int .u64))]
abbrev abY:Lay:={ T:=[(0,.hd 0 aq),(1,.int .i64),(2,.func 146 [] [.ptr 1 0]),(6,.int .i64),(7,.int .i64),(8,.int .i64)],h:=iY,nx:=6 }
abbrev abZ:Lay:={ T:=[(0,.hd 0 aq),(1,.int .i64),(2,.int .i64),(3,.func 146 [] [.ptr 1 0]),(8,.int .i64)],h:=iY,nx:=6 }
abbrev ab0:Lay:={ T:=[(0,.hd 0 aq),(1,.int .i64),(2,.func 146 [] [.ptr 1 0]),(6,.int .i64),(7,.int .i64)],h:=iY,nx:=6 }
abbrev aas:Lay:={ T:=[(0,.agg [.bool,.int .i64,.int .i64]),(1,.agg [.bool,.int .i64,.int .i64]),(2,.ptr 0 0)],h:=abW,nx:=6 }
abbrev MW:List (Ev.Ex×Lay):=[(.ret,{ T:=[(0,.int .i64)],h:=abW,nx:=6 })]
abbrev mb:=TL aas.σs->Option (Out MW)
abbrev lI:=Kb 146 3 aas 1 MW
def amU(F0:aam)(F1:wG)(eX:Bool)(jh iV:Int)(fW:Bool)(fT iX ff:Int)(fx:List Int)(ik:List (Sh.T ae))(gU iB mi:List Int)(mj:List (Sh.T ab))(mn:List (Sh.T ae))(b2:List Int)(b3:List (Sh.T aq))(b4 b5:List Int):Option (Out MW):=
 ao (F1 (eX,(jh,(iV,(ff,(fx,(ik,(gU,(iB,(mi,(mj,(mn,(b2,(b3,(b4,(b5,())))))))))))))))) fun x0=>
 ai (av (0:Int) (List.length x0.1))<|
 ai (av (gt (.int .i64) x0.1 (0:Int)) (List.length (fF x0)))<|
 ai (both (bQ fW fW) (both (iQ fT fT) (both (iQ iX iX) true)))<|
 ao (F1 (fW,(fT,(iX,x0.2)))) fun x1=>
 ai (av (0:Int) (List.length x1.1))<|
 ai (av (gt (.int .i64) x1.1 (0:Int)) (List.length (fF x1)))<|
 ai (av (0:Int) (List.length x0.1))<|
 ai (Sh.beq (.int .i64) (gt (.int .i64) x0.1 (0:Int)) (gt (.int .i64) x0.1 (0:Int)))<|
 ai (iQ (gt (.int .i64) x0.1 (0:Int)) (gt (.int .i64) x0.1 (0:Int)))<|
 ai (av (gt (.int .i64) x0.1 (0:Int)) (List.length (fF x1)))<|
 ai (nQ (Int.toNat (gt (.int .i64) x0.1 (0:Int))) (Int.toNat (gt (.int .i64) x0.1 (0:Int))))<|
 ai (iQ (gt (.int .i64) (fF x0) (gt (.int .i64) x0.1 (0:Int))) (gt (.int .i64) (fF x1) (gt (.int .i64) x0.1 (0:Int))))<|
 ao (F0 ((gt (.int .i64) (fF x0) (gt (.int .i64) x0.1 (0:Int))),((gt (.int .i64) (fF x1) (gt (.int .i64) x1.1 (0:Int))),()))) fun x2=>
 some (x2.1,x1.2)
def amT(c0:MU)(c1:sR) :lI:=⟨Gi (amU c0.F c1.F),pB Tryz.func146 29 (kD c0 (kB c1 k0)) e0 1 (sS l0) fun d=>by kernel_rfl⟩
def me:lI:=amT aan wH
def kg:mb:=me.F
abbrev YB:Lay:=Ow
abbrev K8:List (Ev.Ex×Lay):=[(.ret,nq)]
abbrev Ln:=TL YB.σs->Option (Out K8)
abbrev BX:=Kb 265 5 YB 0 K8
abbrev BK:Lay:={ T:=[(0,.hd 0 aq),(1,.int .i64),(2,.int .i64),(3,.int .i64),(10,.int .i64)],h:=iY,nx:=6 }
abbrev BD:List (Ev.Ex×Lay):=[((.exit 0),nq)]
abbrev YN:=TL BK.σs->Option (Out BD)
abbrev YQ:=Ld 6 38 (bI [0] (bh Tryz.f265)) BK BD
def BR(t1 t2 t3 t10:Int)(b0:List (Sh.T aq))(cP:Int)(cU:List Int)(cV:List (Sh.T ae))(cW cX cY:List Int)(cZ:List (Sh.T ab))(db:List (Sh.T ae))(b3 b4 b5:List Int):Option (TL BK.σs⊕Out BD):=
 br (iL t10 t3)
 (
  ai (av (IntKind.wrap .i64 (t2+t10)) (List.length b0))<|
  ai (av (IntKind.wrap .i64 (t1+t10)) (List.length b0))<|
  ai (av (IntKind.wrap .i64 (t1+t10)) (List.length b0))<|
  ai (av (IntKind.wrap .i64 (t2+t10)) (List.length (List.set b0 (Int.toNat (IntKind.wrap .i64 (t1+t10))) ((gt aq b0 (IntKind.wrap .i64 (t2+t10))).1,((gt aq b0 (IntKind.wrap .i64 (t2+t10))).2.1,((gt aq b0 (IntKind.wrap .i64 (t2+t10))).2.2.1,()))))))<|
  ai (iQ t2 t2)<|
  ai (iQ t10 t10)<|
  ai (iQ (IntKind.wrap .i64 (t2+t10)) (IntKind.wrap .i64 (t2+t10)))<|
  some (.inl (t1,(t2,(t3,((IntKind.wrap .i64 (t10+(1:Int))),((List.set (List.set b0 (Int.toNat (IntKind.wrap .i64 (t1+t10))) ((gt aq b0 (IntKind.wrap .i64 (t2+t10))).1,((gt aq b0 (IntKind.wrap .i64 (t2+t10))).2.1,((gt aq b0 (IntKind.wrap .i64 (t2+t10))).2.2.1,())))) (Int.toNat (IntKind.wrap .i64 (t2+t10))) ((gt aq b0 (IntKind.wrap .i64 (t1+t10))).1,((gt aq b0 (IntKind.wrap .i64 (t1+t10))).2.1,((gt aq b0 (IntKind.wrap .i64 (t1+t10))).2.2.1,())))),(cP,(cU,(cV,(cW,(cX,(cY,(cZ,(db,(b3,(b4,(b5,()))))))))))))))))))
 (
  some (.inr (b0,(cP,(cU,(cV,(cW,(cX,(cY,(cZ,(db,(b3,(b4,(b5,()))))))))))))))
def alh  :YQ:=bN (u16 BR) (pL k0 e0 1 l0 fun d=>by kernel_rfl)
def YO:YN:=aX (u16 BR) NN
def alo(F0:mb)(L1:YN)(t1 t2 t3:Int)(b0:List (Sh.T aq))(cP:Int)(cU:List Int)(cV:List (Sh.T ae))(cW cX cY:List Int)(cZ:List (Sh.T ab))(db:List (Sh.T ae))(b3 b4 b5:List Int):Option (Out K8):=
 ao (L1 (t1,(t2,(t3,((0:Int),(b0,(cP,(cU,(cV,(cW,(cX,(cY,(cZ,(db,(b3,(b4,(b5,()))))))))))))))))) fun x0=>
 some x0
def aln(c0:lI)(M1:YQ):BX:=⟨fB (alo c0.F M1.L),pB Tryz.func265 38 (kB c0 k0) e0 1 (sS (sC M1 l0)) fun d=>by kernel_rfl⟩
def Lo:BX:=aln me alh
def YP:Ln:=Lo.F
abbrev Y0:Lay:=Ow
abbrev wa:List (Ev.Ex×Lay):=[(.ret,nq)]
abbrev CQ:=TL Y0.σs->Option (Out wa)
abbrev LC:=Kb 257 5 Y0 0 wa
abbrev wb:Lay:={ T:=[(0,.hd 0 aq),(2,.int .i64),(4,.func 146 [] [.ptr 1 0]),(10,.int .i64),(11,.int .i64)],h:=iY,nx:=6 }
abbrev v8:List (Ev.Ex×Lay):=[((.exit 0),{ T:=[(0,.hd 0 aq),(2,.int .i64),(4,.func 146 [] [.ptr 1 0]),(10,.int .i64)],h:=iY,nx:=6 })]
abbrev Y8:=TL wb.σs->Option (Out v8)
abbrev Lx:=Ld 6 58 (bI [0] (bh Tryz.f257)) wb v8
def Ly(F1:Ln)(t2 t10 t11:Int)(b0:List (Sh.T aq))(cP:Int)(cU:List Int)(cV:List (Sh.T ae))(cW cX cY:List Int)(cZ:List (Sh.T ab))(db:List (Sh.T ae))(b3 b4 b5:List Int):Option (TL wb.σs⊕Out v8):=
 br (Bool.not (iQ t10 t11))
 (
  br (iL t11 t10)
  (
   ao (F1 ((IntKind.wrap .i64 (t2-t10)),(t2,(t11,(b0,(cP,(cU,(cV,(cW,(cX,(cY,(cZ,(db,(b3,(b4,(b5,())))))))))))))))) fun x0=>
   some (.inl (t2,((IntKind.wrap .i64 (t10-t11)),(t11,x0)))))
  (
   ao (F1 ((IntKind.wrap .i64 (t2-t10)),((IntKind.wrap .i64 ((IntKind.wrap .i64 (t2+t11))-t10)),(t10,(b0,(cP,(cU,(cV,(cW,(cX,(cY,(cZ,(db,(b3,(b4,(b5,())))))))))))))))) fun x0=>
   some (.inl (t2,(t10,((IntKind.wrap .i64 (t11-t10)),x0))))))
 (
  some (.inr (t2,(t10,(b0,(cP,(cU,(cV,(cW,(cX,(cY,(cZ,(db,(b3,(b4,(b5,()))))))))))))))))
def alA(c1:BX) :Lx:=bN (fB (Ly c1.F)) (pL (kB c1 k0) e0 1 l0 fun d=>by kernel_rfl)
def alz:Lx:=alA Lo
def Lw:Y8:=aX (fB (Ly YP)) NN
def alH(F0:mb)(F1:Ln)(L2:Y8)(t1 t2 t3:Int)(b0:List (Sh.T aq))(cP:Int)(cU:List Int)(cV:List (Sh.T ae))(cW cX cY:List Int)(cZ:List (Sh.T ab))(db:List (Sh.T ae))(b3 b4 b5:List Int):Option (Out wa):=
 ao (L2 (t2,((IntKind.wrap .i64 (t2-t1)),((IntKind.wrap .i64 (t3-t2)),(b0,(cP,(cU,(cV,(cW,(cX,(cY,(cZ,(db,(b3,(b4,(b5,())))))))))))))))) fun x0=>
 ao (F1 ((IntKind.wrap .i64 (@HSub.hSub (Int) (Int) (Int) _ x0.1 x0.2.1)),x0)) fun x1=>
 some x1
def alG(c0:lI)(c1:BX)(M2:Lx):LC:=⟨fB (alH c0.F c1.F M2.L),pB Tryz.func257 58 (kB c0 (kB c1 k0)) e0 1 (sS (sC M2 l0)) fun d=>by kernel_rfl⟩
def Ze:LC:=alG me Lo alz
def B8:CQ:=Ze.F
abbrev Ye:Lay:={ T:=[(0,.hd 0 aq),(1,.int .i64),(2,.int .i64),(3,.func 146 [] [.ptr 1 0])],h:=iY,nx:=6 }
abbrev KQ:List (Ev.Ex×Lay):=[(.ret,nq)]
abbrev K6:=TL Ye.σs->Option (Out KQ)
abbrev BE:=Kb 227 4 Ye 0 KQ
abbrev Bu:Lay:=abZ
abbrev Bt:List (Ev.Ex×Lay):=[((.exit 0),nq)]
abbrev Yg:=TL Bu.σs->Option (Out Bt)
abbrev KV:=Ld 6 53 (bI [0] (bh Tryz.f227)) Bu Bt
abbrev v7:Lay:={ T:=[(0,.hd 0 aq),(1,.int .i64),(2,.int .i64),(3,.func 146 [] [.ptr 1 0]),(8,.int .i64),(9,.int .i64)],h:=iY,nx:=6 }
abbrev vZ:List (Ev.Ex×Lay):=[((.exit 2),abZ)]
abbrev KT:=TL v7.σs->Option (Out vZ)
abbrev Bw:=Ld 6 53 (bI [0,0] (bh Tryz.f227)) v7 vZ
def KW(F0:mb)(t1 t2 t8 t9:Int)(b0:List (Sh.T aq))(cP:Int)(cU:List Int)(cV:List (Sh.T ae))(cW cX cY:List Int)(cZ:List (Sh.T ab))(db:List (Sh.T ae))(b3 b4 b5:List Int):Option (TL v7.σs⊕Out vZ):=
 br (iL t1 t9)
 (
  ai (av t9 (List.length b0))<|
  ai (av (IntKind.wrap .i64 (t9-(1:Int))) (List.length b0))<|
  ao (F0 ((gt aq b0 t9).1,((gt aq b0 t9).2.1,((gt aq b0 t9).2.2.1,((gt aq b0 (IntKind.wrap .i64 (t9-(1:Int)))).1,((gt aq b0 (IntKind.wrap .i64 (t9-(1:Int)))).2.1,((gt aq b0 (IntKind.wrap .i64 (t9-(1:Int)))).2.2.1,(cP,(cU,(cV,(cW,(cX,(cY,(cZ,(db,(b3,(b0,(b4,(b5,()))))))))))))))))))) fun x0=>
  br (bn true (iL x0.1 (0:Int)) false)
  (
   ai (av (IntKind.wrap .i64 (t9-(1:Int))) (List.length (dD x0)))<|
   ai (av t9 (List.length (dD x0)))<|
   ai (av t9 (List.length (dD x0)))<|
   ai (av (IntKind.wrap .i64 (t9-(1:Int))) (List.length (List.set (dD x0) (Int.toNat t9) ((gt aq (dD x0) (IntKind.wrap .i64 (t9-(1:Int)))).1,((gt aq (dD x0) (IntKind.wrap .i64 (t9-(1:Int)))).2.1,((gt aq (dD x0) (IntKind.wrap .i64 (t9-(1:Int)))).2.2.1,()))))))<|
   ai (iQ t9 t9)<|
   ai (iQ (IntKind.wrap .i64 (t9-(1:Int))) (IntKind.wrap .i64 (t9-(1:Int))))<|
   some (.inl (t1,(t2,(t8,((IntKind.wrap .i64 (t9-(1:Int))),((List.set (List.set (dD x0) (Int.toNat t9) ((gt aq (dD x0) (IntKind.wrap .i64 (t9-(1:Int)))).1,((gt aq (dD x0) (IntKind.wrap .i64 (t9-(1:Int)))).2.1,((gt aq (dD x0) (IntKind.wrap .i64 (t9-(1:Int)))).2.2.1,())))) (Int.toNat (IntKind.wrap .i64 (t9-(1:Int)))) ((gt aq (dD x0) t9).1,((gt aq (dD x0) t9).2.1,((gt aq (dD x0) t9).2.2.1,())))),(x0.2.1,(x0.2.2.1,(cJ x0,(cK x0,(cT x0,(cO x0,(dt x0,(dX x0,(fu x0,ni x0))))))))))))))))
  (
   some (.inr (t1,(t2,(t8,(dD x0,(x0.2.1,(x0.2.2.1,(cJ x0,(cK x0,(cT x0,(cO x0,(dt x0,(dX x0,(fu x0,ni x0))))))))))))))))
 (
  some (.inr (t1,(t2,(t8,(b0,(cP,(cU,(cV,(cW,(cX,(cY,(cZ,(db,(b3,(b4,(b5,())))))))))))))))))
def akH(c0:lI) :Bw:=bN (u16 (KW c0.F)) (pL (kB c0 k0) e0 1 l0 fun d=>by kernel_rfl)
def Yh:Bw:=akH me
def KU:KT:=aX (u16 (KW kg)) NN
def Bz(L4:KT)(t1 t2 t8:Int)(b0:List (Sh.T aq))(cP:Int)(cU:List Int)(cV:List (Sh.T ae))(cW cX cY:List Int)(cZ:List (Sh.T ab))(db:List (Sh.T ae))(b3 b4 b5:List Int):Option (TL Bu.σs⊕Out Bt):=
 br (iL t8 t2)
 (
  ao (L4 (t1,(t2,(t8,(t8,(b0,(cP,(cU,(cV,(cW,(cX,(cY,(cZ,(db,(b3,(b4,(b5,()))))))))))))))))) fun x0=>
  some (.inl (x0.1,(x0.2.1,((IntKind.wrap .i64 (@HAdd.hAdd (Int) (Int) (Int) _ x0.2.2.1 (1:Int))),rN x0)))))
 (
  some (.inr (b0,(cP,(cU,(cV,(cW,(cX,(cY,(cZ,(db,(b3,(b4,(b5,()))))))))))))))
def akI(M4:Bw):KV:=bN (fB (Bz M4.L)) (pL k0 e0 1 (sC M4 l0) fun d=>by kernel_rfl)
def akG:KV:=akI  Yh
def Bv:Yg:=aX (fB (Bz KU)) NN
def akX(F0:mb)(L1:Yg)(L4:KT)(t1 t2:Int)(b0:List (Sh.T aq))(cP:Int)(cU:List Int)(cV:List (Sh.T ae))(cW cX cY:List Int)(cZ:List (Sh.T ab))(db:List (Sh.T ae))(b3 b4 b5:List Int):Option (Out KQ):=
 ao (L1 (t1,(t2,((IntKind.wrap .i64 (t1+(1:Int))),(b0,(cP,(cU,(cV,(cW,(cX,(cY,(cZ,(db,(b3,(b4,(b5,())))))))))))))))) fun x0=>
 some x0
def akW(c0:lI)(M1:KV)(M4:Bw):BE:=⟨i7 (akX c0.F M1.L M4.L),pB Tryz.func227 53 (kB c0 k0) e0 1 (sS (sC M1 l0)) fun d=>by kernel_rfl⟩
def K7:BE:=akW me akG Yh
def Yi:K6:=K7.F
abbrev YI:Lay:=Ow
abbrev BM:List (Ev.Ex×Lay):=[(.ret,nq)]
abbrev ig:=TL YI.σs->Option (Out BM)
abbrev ma:=Kb 228 5 YI 0 BM
abbrev BH:Lay:={ T:=[(0,.hd 0 aq),(1,.int .i64),(2,.int .i64),(3,.int .i64),(4,.func 146 [] [.ptr 1 0]),(18,.int .i64),(19,.int .i64),(20,.int .i64),(21,.int .i64),(22,.int .i64)],h:=iY,nx:=6 }
abbrev we:List (Ev.Ex×Lay):=[((.exit 8),{ T:=[(0,.hd 0 aq),(1,.int .i64),(2,.int .i64),(3,.int .i64),(4,.func 146 [] [.ptr 1 0]),(18,.int .i64),(19,.int .i64),(20,.int .i64)],h:=iY,nx:=6 })]
abbrev YJ:=TL BH.σs->Option (Out we)
abbrev Lf:=Ld 6 220 (bI [4] (bh Tryz.f228)) BH we
abbrev BI:Lay:={ T:=[(0,.hd 0 aq),(14,.int .i64),(17,.int .i64)],h:=iY,nx:=6 }
abbrev BB:List (Ev.Ex×Lay):=[((.exit 6),nq)]
abbrev YK:=TL BI.σs->Option (Out BB)
abbrev Lg:=Ld 6 220 (bI [3] (bh Tryz.f228)) BI BB
abbrev BJ:Lay:={ T:=[(0,.hd 0 aq),(2,.int .i64),(4,.func 146 [] [.ptr 1 0]),(14,.int .i64),(15,.int .i64)],h:=iY,nx:=6 }
abbrev BC:List (Ev.Ex×Lay):=[((.exit 4),{ T:=[(0,.hd 0 aq),(2,.int .i64),(14,.int .i64)],h:=iY,nx:=6 })]
abbrev YL:=TL BJ.σs->Option (Out BC)
abbrev Lh:=Ld 6 220 (bI [2] (bh Tryz.f228)) BJ BC
abbrev BN:Lay:={ T:=[(0,.hd 0 aq),(10,.int .i64),(13,.int .i64)],h:=iY,nx:=6 }
abbrev BF:List (Ev.Ex×Lay):=[((.exit 2),nq)]
abbrev YV:=TL BN.σs->Option (Out BF)
abbrev Ll:=Ld 6 220 (bI [1] (bh Tryz.f228)) BN BF
abbrev BO:Lay:={ T:=[(0,.hd 0 aq),(1,.int .i64),(4,.func 146 [] [.ptr 1 0]),(10,.int .i64),(11,.int .i64)],h:=iY,nx:=6 }
abbrev BG:List (Ev.Ex×Lay):=[((.exit 0),{ T:=[(0,.hd 0 aq),(1,.int .i64),(10,.int .i64)],h:=iY,nx:=6 })]
abbrev YW:=TL BO.σs->Option (Out BG)
abbrev Lm:=Ld 6 220 (bI [0] (bh Tryz.f228)) BO BG
def sL(F0:mb)(t1 t10 t11:Int)(b0:List (Sh.T aq))(cP:Int)(cU:List Int)(cV:List (Sh.T ae))(cW cX cY:List Int)(cZ:List (Sh.T ab))(db:List (Sh.T ae))(b3 b4 b5:List Int):Option (TL BO.σs⊕Out BG):=
 br (iL t10 t11)
 (
  ai (av (IntKind.wrap .i64 (Int.fdiv (IntKind.wrap .u64 (IntKind.wrap .i64 (t10+t11))) (HPow.hPow (2:Int) (Min.min (Int.toNat (1:Int)) 64)))) (List.length b0))<|
  ai (av t1 (List.length b0))<|
  ao (F0 ((gt aq b0 (IntKind.wrap .i64 (Int.fdiv (IntKind.wrap .u64 (IntKind.wrap .i64 (t10+t11))) (HPow.hPow (2:Int) (Min.min (Int.toNat (1:Int)) 64))))).1,((gt aq b0 (IntKind.wrap .i64 (Int.fdiv (IntKind.wrap .u64 (IntKind.wrap .i64 (t10+t11))) (HPow.hPow (2:Int) (Min.min (Int.toNat (1:Int)) 64))))).2.1,((gt aq b0 (IntKind.wrap .i64 (Int.fdiv (IntKind.wrap .u64 (IntKind.wrap .i64 (t10+t11))) (HPow.hPow (2:Int) (Min.min (Int.toNat (1:Int)) 64))))).2.2.1,((gt aq b0 t1).1,((gt aq b0 t1).2.1,((gt aq b0 t1).2.2.1,(cP,(cU,(cV,(cW,(cX,(cY,(cZ,(db,(b3,(b0,(b4,(b5,()))))))))))))))))))) fun x0=>
  br (iL x0.1 (0:Int))
  (
   some (.inl (t1,((IntKind.wrap .i64 ((IntKind.wrap .i64 (Int.fdiv (IntKind.wrap .u64 (IntKind.wrap .i64 (t10+t11))) (HPow.hPow (2:Int) (Min.min (Int.toNat (1:Int)) 64))))+(1:Int))),(t11,(dD x0,(x0.2.1,(x0.2.2.1,(cJ x0,(cK x0,(cT x0,(cO x0,(dt x0,(dX x0,(fu x0,ni x0)))))))))))))))
  (
   some (.inl (t1,(t10,((IntKind.wrap .i64 (Int.fdiv (IntKind.wrap .u64 (IntKind.wrap .i64 (t10+t11))) (HPow.hPow (2:Int) (Min.min (Int.toNat (1:Int)) 64)))),(dD x0,(x0.2.1,(x0.2.2.1,(cJ x0,(cK x0,(cT x0,(cO x0,(dt x0,(dX x0,(fu x0,ni x0))))))))))))))))
 (
  some (.inr (t1,(t10,(b0,(cP,(cU,(cV,(cW,(cX,(cY,(cZ,(db,(b3,(b4,(b5,()))))))))))))))))
def alm(c0:lI) :Lm:=bN (fB (sL c0.F)) (pL (kB c0 k0) e0 1 l0 fun d=>by kernel_rfl)
def alj(s:ma):Lm:=alm me
def YX(F:ig):YW:=aX (fun d=>sL kg  d.1 d.2.1 d.2.2.1 d.2.2.2.1 d.2.2.2.2.1 d.2.2.2.2.2.1 d.2.2.2.2.2.2.1 d.2.2.2.2.2.2.2.1 d.2.2.2.2.2.2.2.2.1 d.2.2.2.2.2.2.2.2.2.1 d.2.2.2.2.2.2.2.2.2.2.1 d.2.2.2.2.2.2.2.2.2.2.2.1 d.2.2.2.2.2.2.2.2.2.2.2.2.1 d.2.2.2.2.2.2.2.2.2.2.2.2.2.1 d.2.2.2.2.2.2.2.2.2.2.2.2.2.2.1) NN
def BW(t10 t13:Int)(b0:List (Sh.T aq))(cP:Int)(cU:List Int)(cV:List (Sh.T ae))(cW cX cY:List Int)(cZ:List (Sh.T ab))(db:List (Sh.T ae))(b3 b4 b5:List Int):Option (TL BN.σs⊕Out BF):=
 br (iL t13 (IntKind.wrap .i64 (t10-(1:Int))))
 (
  ai (av (IntKind.wrap .i64 (t13+(1:Int))) (List.length b0))<|
  ai (av t13 (List.length b0))<|
  ai (av t13 (List.length b0))<|
  ai (av (IntKind.wrap .i64 (t13+(1:Int))) (List.length (List.set b0 (Int.toNat t13) ((gt aq b0 (IntKind.wrap .i64 (t13+(1:Int)))).1,((gt aq b0 (IntKind.wrap .i64 (t13+(1:Int)))).2.1,((gt aq b0 (IntKind.wrap .i64 (t13+(1:Int)))).2.2.1,()))))))<|
  ai (iQ t13 t13)<|
  ai (iQ (IntKind.wrap .i64 (t13+(1:Int))) (IntKind.wrap .i64 (t13+(1:Int))))<|
  some (.inl (t10,((IntKind.wrap .i64 (t13+(1:Int))),((List.set (List.set b0 (Int.toNat t13) ((gt aq b0 (IntKind.wrap .i64 (t13+(1:Int)))).1,((gt aq b0 (IntKind.wrap .i64 (t13+(1:Int)))).2.1,((gt aq b0 (IntKind.wrap .i64 (t13+(1:Int)))).2.2.1,())))) (Int.toNat (IntKind.wrap .i64 (t13+(1:Int)))) ((gt aq b0 t13).1,((gt aq b0 t13).2.1,((gt aq b0 t13).2.2.1,())))),(cP,(cU,(cV,(cW,(cX,(cY,(cZ,(db,(b3,(b4,(b5,()))))))))))))))))
 (
  some (.inr (b0,(cP,(cU,(cV,(cW,(cX,(cY,(cZ,(db,(b3,(b4,(b5,()))))))))))))))
def alk  :Ll:=bN (i7 BW) (pL k0 e0 1 l0 fun d=>by kernel_rfl)
def ali(s:ma):Ll:=alk
def Lj(F:ig):YV:=aX (fun d=>BW   d.1 d.2.1 d.2.2.1 d.2.2.2.1 d.2.2.2.2.1 d.2.2.2.2.2.1 d.2.2.2.2.2.2.1 d.2.2.2.2.2.2.2.1 d.2.2.2.2.2.2.2.2.1 d.2.2.2.2.2.2.2.2.2.1 d.2.2.2.2.2.2.2.2.2.2.1 d.2.2.2.2.2.2.2.2.2.2.2.1 d.2.2.2.2.2.2.2.2.2.2.2.2.1 d.2.2.2.2.2.2.2.2.2.2.2.2.2.1) NN
def sK(F0:mb)(t2 t14 t15:Int)(b0:List (Sh.T aq))(cP:Int)(cU:List Int)(cV:List (Sh.T ae))(cW cX cY:List Int)(cZ:List (Sh.T ab))(db:List (Sh.T ae))(b3 b4 b5:List Int):Option (TL BJ.σs⊕Out BC):=
 br (iL t14 t15)
 (
  ai (av t2 (List.length b0))<|
  ai (av (IntKind.wrap .i64 (Int.fdiv (IntKind.wrap .u64 (IntKind.wrap .i64 (t14+t15))) (HPow.hPow (2:Int) (Min.min (Int.toNat (1:Int)) 64)))) (List.length b0))<|
  ao (F0 ((gt aq b0 t2).1,((gt aq b0 t2).2.1,((gt aq b0 t2).2.2.1,((gt aq b0 (IntKind.wrap .i64 (Int.fdiv (IntKind.wrap .u64 (IntKind.wrap .i64 (t14+t15))) (HPow.hPow (2:Int) (Min.min (Int.toNat (1:Int)) 64))))).1,((gt aq b0 (IntKind.wrap .i64 (Int.fdiv (IntKind.wrap .u64 (IntKind.wrap .i64 (t14+t15))) (HPow.hPow (2:Int) (Min.min (Int.toNat (1:Int)) 64))))).2.1,((gt aq b0 (IntKind.wrap .i64 (Int.fdiv (IntKind.wrap .u64 (IntKind.wrap .i64 (t14+t15))) (HPow.hPow (2:Int) (Min.min (Int.toNat (1:Int)) 64))))).2.2.1,(cP,(cU,(cV,(cW,(cX,(cY,(cZ,(db,(b3,(b0,(b4,(b5,()))))))))))))))))))) fun x0=>
  br (Bool.not (iL x0.1 (0:Int)))
  (
   some (.inl (t2,((IntKind.wrap .i64 ((IntKind.wrap .i64 (Int.fdiv (IntKind.wrap .u64 (IntKind.wrap .i64 (t14+t15))) (HPow.hPow (2:Int) (Min.min (Int.toNat (1:Int)) 64))))+(1:Int))),(t15,(dD x0,(x0.2.1,(x0.2.2.1,(cJ x0,(cK x0,(cT x0,(cO x0,(dt x0,(dX x0,(fu x0,ni x0)))))))))))))))
  (
   some (.inl (t2,(t14,((IntKind.wrap .i64 (Int.fdiv (IntKind.wrap .u64 (IntKind.wrap .i64 (t14+t15))) (HPow.hPow (2:Int) (Min.min (Int.toNat (1:Int)) 64)))),(dD x0,(x0.2.1,(x0.2.2.1,(cJ x0,(cK x0,(cT x0,(cO x0,(dt x0,(dX x0,(fu x0,ni x0))))))))))))))))
 (
  some (.inr (t2,(t14,(b0,(cP,(cU,(cV,(cW,(cX,(cY,(cZ,(db,(b3,(b4,(b5,()))))))))))))))))
def alg(c0:lI) :Lh:=bN (fB (sK c0.F)) (pL (kB c0 k0) e0 1 l0 fun d=>by kernel_rfl)
def ald(s:ma):Lh:=alg me
def YM(F:ig):YL:=aX (fun d=>sK kg  d.1 d.2.1 d.2.2.1 d.2.2.2.1 d.2.2.2.2.1 d.2.2.2.2.2.1 d.2.2.2.2.2.2.1 d.2.2.2.2.2.2.2.1 d.2.2.2.2.2.2.2.2.1 d.2.2.2.2.2.2.2.2.2.1 d.2.2.2.2.2.2.2.2.2.2.1 d.2.2.2.2.2.2.2.2.2.2.2.1 d.2.2.2.2.2.2.2.2.2.2.2.2.1 d.2.2.2.2.2.2.2.2.2.2.2.2.2.1 d.2.2.2.2.2.2.2.2.2.2.2.2.2.2.1) NN
def BQ(t14 t17:Int)(b0:List (Sh.T aq))(cP:Int)(cU:List Int)(cV:List (Sh.T ae))(cW cX cY:List Int)(cZ:List (Sh.T ab))(db:List (Sh.T ae))(b3 b4 b5:List Int):Option (TL BI.σs⊕Out BB):=
 br (iL t14 t17)
 (
  ai (av (IntKind.wrap .i64 (t17-(1:Int))) (List.length b0))<|
  ai (av t17 (List.length b0))<|
  ai (av t17 (List.length b0))<|
  ai (av (IntKind.wrap .i64 (t17-(1:Int))) (List.length (List.set b0 (Int.toNat t17) ((gt aq b0 (IntKind.wrap .i64 (t17-(1:Int)))).1,((gt aq b0 (IntKind.wrap .i64 (t17-(1:Int)))).2.1,((gt aq b0 (IntKind.wrap .i64 (t17-(1:Int)))).2.2.1,()))))))<|
  ai (iQ t17 t17)<|
  ai (iQ (IntKind.wrap .i64 (t17-(1:Int))) (IntKind.wrap .i64 (t17-(1:Int))))<|
  some (.inl (t14,((IntKind.wrap .i64 (t17-(1:Int))),((List.set (List.set b0 (Int.toNat t17) ((gt aq b0 (IntKind.wrap .i64 (t17-(1:Int)))).1,((gt aq b0 (IntKind.wrap .i64 (t17-(1:Int)))).2.1,((gt aq b0 (IntKind.wrap .i64 (t17-(1:Int)))).2.2.1,())))) (Int.toNat (IntKind.wrap .i64 (t17-(1:Int)))) ((gt aq b0 t17).1,((gt aq b0 t17).2.1,((gt aq b0 t17).2.2.1,())))),(cP,(cU,(cV,(cW,(cX,(cY,(cZ,(db,(b3,(b4,(b5,()))))))))))))))))
 (
  some (.inr (b0,(cP,(cU,(cV,(cW,(cX,(cY,(cZ,(db,(b3,(b4,(b5,()))))))))))))))
def alf  :Lg:=bN (i7 BQ) (pL k0 e0 1 l0 fun d=>by kernel_rfl)
def alc(s:ma):Lg:=alf
def Le(F:ig):YK:=aX (fun d=>BQ   d.1 d.2.1 d.2.2.1 d.2.2.2.1 d.2.2.2.2.1 d.2.2.2.2.2.1 d.2.2.2.2.2.2.1 d.2.2.2.2.2.2.2.1 d.2.2.2.2.2.2.2.2.1 d.2.2.2.2.2.2.2.2.2.1 d.2.2.2.2.2.2.2.2.2.2.1 d.2.2.2.2.2.2.2.2.2.2.2.1 d.2.2.2.2.2.2.2.2.2.2.2.2.1 d.2.2.2.2.2.2.2.2.2.2.2.2.2.1) NN
def sJ(F0:mb)(t1 t2 t3 t18 t19 t20 t21 t22:Int)(b0:List (Sh.T aq))(cP:Int)(cU:List Int)(cV:List (Sh.T ae))(cW cX cY:List Int)(cZ:List (Sh.T ab))(db:List (Sh.T ae))(b3 b4 b5:List Int):Option (TL BH.σs⊕Out we):=
 br (iL t20 t21)
 (
  ai (av (IntKind.wrap .i64 (t22-(IntKind.wrap .i64 (Int.fdiv (IntKind.wrap .u64 (IntKind.wrap .i64 (t20+t21))) (HPow.hPow (2:Int) (Min.min (Int.toNat (1:Int)) 64)))))) (List.length b0))<|
  ai (av (IntKind.wrap .i64 (Int.fdiv (IntKind.wrap .u64 (IntKind.wrap .i64 (t20+t21))) (HPow.hPow (2:Int) (Min.min (Int.toNat (1:Int)) 64)))) (List.length b0))<|
  ao (F0 ((gt aq b0 (IntKind.wrap .i64 (t22-(IntKind.wrap .i64 (Int.fdiv (IntKind.wrap .u64 (IntKind.wrap .i64 (t20+t21))) (HPow.hPow (2:Int) (Min.min (Int.toNat (1:Int)) 64))))))).1,((gt aq b0 (IntKind.wrap .i64 (t22-(IntKind.wrap .i64 (Int.fdiv (IntKind.wrap .u64 (IntKind.wrap .i64 (t20+t21))) (HPow.hPow (2:Int) (Min.min (Int.toNat (1:Int)) 64))))))).2.1,((gt aq b0 (IntKind.wrap .i64 (t22-(IntKind.wrap .i64 (Int.fdiv (IntKind.wrap .u64 (IntKind.wrap .i64 (t20+t21))) (HPow.hPow (2:Int) (Min.min (Int.toNat (1:Int)) 64))))))).2.2.1,((gt aq b0 (IntKind.wrap .i64 (Int.fdiv (IntKind.wrap .u64 (IntKind.wrap .i64 (t20+t21))) (HPow.hPow (2:Int) (Min.min (Int.toNat (1:Int)) 64))))).1,((gt aq b0 (IntKind.wrap .i64 (Int.fdiv (IntKind.wrap .u64 (IntKind.wrap .i64 (t20+t21))) (HPow.hPow (2:Int) (Min.min (Int.toNat (1:Int)) 64))))).2.1,((gt aq b0 (IntKind.wrap .i64 (Int.fdiv (IntKind.wrap .u64 (IntKind.wrap .i64 (t20+t21))) (HPow.hPow (2:Int) (Min.min (Int.toNat (1:Int)) 64))))).2.2.1,(cP,(cU,(cV,(cW,(cX,(cY,(cZ,(db,(b3,(b0,(b4,(b5,()))))))))))))))))))) fun x0=>
  br (Bool.not (iL x0.1 (0:Int)))
  (
   some (.inl (t1,(t2,(t3,(t18,(t19,((IntKind.wrap .i64 ((IntKind.wrap .i64 (Int.fdiv (IntKind.wrap .u64 (IntKind.wrap .i64 (t20+t21))) (HPow.hPow (2:Int) (Min.min (Int.toNat (1:Int)) 64))))+(1:Int))),(t21,(t22,(dD x0,(x0.2.1,(x0.2.2.1,(cJ x0,(cK x0,(cT x0,(cO x0,(dt x0,(dX x0,(fu x0,ni x0))))))))))))))))))))
  (
   some (.inl (t1,(t2,(t3,(t18,(t19,(t20,((IntKind.wrap .i64 (Int.fdiv (IntKind.wrap .u64 (IntKind.wrap .i64 (t20+t21))) (HPow.hPow (2:Int) (Min.min (Int.toNat (1:Int)) 64)))),(t22,(dD x0,(x0.2.1,(x0.2.2.1,(cJ x0,(cK x0,(cT x0,(cO x0,(dt x0,(dX x0,(fu x0,ni x0)))))))))))))))))))))
 (
  some (.inr (t1,(t2,(t3,(t18,(t19,(t20,(b0,(cP,(cU,(cV,(cW,(cX,(cY,(cZ,(db,(b3,(b4,(b5,()))))))))))))))))))))
def ale(c0:lI) :Lf:=bN (ku (sJ c0.F)) (pL (kB c0 k0) e0 1 l0 fun d=>by kernel_rfl)
def alb(s:ma):Lf:=ale me
def BP(F:ig):YJ:=aX (fun d=>sJ kg  d.1 d.2.1 d.2.2.1 d.2.2.2.1 d.2.2.2.2.1 d.2.2.2.2.2.1 d.2.2.2.2.2.2.1 d.2.2.2.2.2.2.2.1 d.2.2.2.2.2.2.2.2.1 d.2.2.2.2.2.2.2.2.2.1 d.2.2.2.2.2.2.2.2.2.2.1 d.2.2.2.2.2.2.2.2.2.2.2.1 d.2.2.2.2.2.2.2.2.2.2.2.2.1 d.2.2.2.2.2.2.2.2.2.2.2.2.2.1 d.2.2.2.2.2.2.2.2.2.2.2.2.2.2.1 d.2.2.2.2.2.2.2.2.2.2.2.2.2.2.2.1 d.2.2.2.2.2.2.2.2.2.2.2.2.2.2.2.2.1 d.2.2.2.2.2.2.2.2.2.2.2.2.2.2.2.2.2.1 d.2.2.2.2.2.2.2.2.2.2.2.2.2.2.2.2.2.2.1 d.2.2.2.2.2.2.2.2.2.2.2.2.2.2.2.2.2.2.2.1) NN
abbrev bp:=aq.T
abbrev jO:=TL [.int .i64,.sl (.int .i64),.sl ae,.sl (.int .i64),.sl (.int .i64),.sl (.int .i64),.sl ab,.sl ae,.sl (.int .i64),.sl (.int .u8),.sl (.int .i64)]
abbrev qH:=Option (Out BM)
def tF(F1:ig)(b mid e:Int)(x:List bp×jO):qH:=br (iL mid e) (br (bn true (iL e b) false) (ao (F1 (mid,(e,(b,(x.1,x.2))))) fun y=>some (y.1,y.2)) (some x)) (some x)
def xp(F1:ig)(a b mid s e:Int)(x:List bp×jO):qH:=br (iL a s) (br (bn true (iL s mid) false) (ao (F1 (a,(s,(mid,(x.1,x.2))))) fun y=>tF F1 b mid e y) (tF F1 b mid e x)) (tF F1 b mid e x)
def Ot(F2:CQ)(F1:ig)(a m b mid s e:Int)(x:List bp×jO):qH:=br (iL s m) (br (bn true (iL m e) false) (ao (F2 (s,(m,(e,(x.1,x.2))))) fun y=>xp F1 a b mid s e y) (xp F1 a b mid s e x)) (xp F1 a b mid s e x)
def abM(F2:CQ)(F1:ig)(x0:Out we):qH:=Ot F2 F1 x0.1 x0.2.1 x0.2.2.1 x0.2.2.2.1 x0.2.2.2.2.2.1 (IntKind.wrap .i64 (@HSub.hSub (Int) (Int) (Int) _ x0.2.2.2.2.1 x0.2.2.2.2.2.1)) x0.2.2.2.2.2.2
def wc(F0:mb)(F1:ig)(F2:CQ)(L3:YW)(L9:YV)(L15:YL)(L21:YK)(L33:YJ)(t1 t2 t3:Int)(b0:List (Sh.T aq))(cP:Int)(cU:List Int)(cV:List (Sh.T ae))(cW cX cY:List Int)(cZ:List (Sh.T ab))(db:List (Sh.T ae))(b3 b4 b5:List Int):Option (Out BM):=
 br (iQ (IntKind.wrap .i64 (t2-t1)) (1:Int))
 (
  ao (L3 (t1,(t2,(t3,(b0,(cP,(cU,(cV,(cW,(cX,(cY,(cZ,(db,(b3,(b4,(b5,())))))))))))))))) fun x0=>
  ao (L9 (x0.2.1,(x0.1,x0.2.2))) fun x1=>
  some x1)
 (
  br (iQ (IntKind.wrap .i64 (t3-t2)) (1:Int))
  (
   ao (L15 (t2,(t1,(t2,(b0,(cP,(cU,(cV,(cW,(cX,(cY,(cZ,(db,(b3,(b4,(b5,())))))))))))))))) fun x0=>
   ao (L21 (x0.2.1,(x0.1,x0.2.2))) fun x1=>
   some x1)
  (
   br (iL (IntKind.wrap .i64 (Int.fdiv (IntKind.wrap .u64 (IntKind.wrap .i64 (t1+t3))) (HPow.hPow (2:Int) (Min.min (Int.toNat (1:Int)) 64)))) t2)
   (
    ao (L33 (t1,(t2,(t3,((IntKind.wrap .i64 (Int.fdiv (IntKind.wrap .u64 (IntKind.wrap .i64 (t1+t3))) (HPow.hPow (2:Int) (Min.min (Int.toNat (1:Int)) 64)))),((IntKind.wrap .i64 ((IntKind.wrap .i64 (Int.fdiv (IntKind.wrap .u64 (IntKind.wrap .i64 (t1+t3))) (HPow.hPow (2:Int) (Min.min (Int.toNat (1:Int)) 64))))+t2)),((IntKind.wrap .i64 ((IntKind.wrap .i64 ((IntKind.wrap .i64 (Int.fdiv (IntKind.wrap .u64 (IntKind.wrap .i64 (t1+t3))) (HPow.hPow (2:Int) (Min.min (Int.toNat (1:Int)) 64))))+t2))-t3)),((IntKind.wrap .i64 (Int.fdiv (IntKind.wrap .u64 (IntKind.wrap .i64 (t1+t3))) (HPow.hPow (2:Int) (Min.min (Int.toNat (1:Int)) 64)))),((IntKind.wrap .i64 ((IntKind.wrap .i64 ((IntKind.wrap .i64 (Int.fdiv (IntKind.wrap .u64 (IntKind.wrap .i64 (t1+t3))) (HPow.hPow (2:Int) (Min.min (Int.toNat (1:Int)) 64))))+t2))-(1:Int))),(b0,(cP,(cU,(cV,(cW,(cX,(cY,(cZ,(db,(b3,(b4,(b5,()))))))))))))))))))))) fun x0=>abM F2 F1 x0)
   (
    ao (L33 (t1,(t2,(t3,((IntKind.wrap .i64 (Int.fdiv (IntKind.wrap .u64 (IntKind.wrap .i64 (t1+t3))) (HPow.hPow (2:Int) (Min.min (Int.toNat (1:Int)) 64)))),((IntKind.wrap .i64 ((IntKind.wrap .i64 (Int.fdiv (IntKind.wrap .u64 (IntKind.wrap .i64 (t1+t3))) (HPow.hPow (2:Int) (Min.min (Int.toNat (1:Int)) 64))))+t2)),(t1,(t2,((IntKind.wrap .i64 ((IntKind.wrap .i64 ((IntKind.wrap .i64 (Int.fdiv (IntKind.wrap .u64 (IntKind.wrap .i64 (t1+t3))) (HPow.hPow (2:Int) (Min.min (Int.toNat (1:Int)) 64))))+t2))-(1:Int))),(b0,(cP,(cU,(cV,(cW,(cX,(cY,(cZ,(db,(b3,(b4,(b5,()))))))))))))))))))))) fun x0=>abM F2 F1 x0)))
def alr(c0:lI)(c1:ma)(c2:LC)(M3:Lm)(M9:Ll)(M15:Lh)(M21:Lg)(M33:Lf):ma:=⟨fB (wc c0.F c1.F c2.F M3.L M9.L M15.L M21.L M33.L),pB Tryz.func228 220 (kB c0 (kB c1 (kB c2 k0))) e0 1 (sS (sC M3 (sC M9 (sC M15 (sC M21 (sC M33 l0)))))) fun d=>by kernel_rfl⟩
def pA:Nat->ma
 |0=>mk0 Tryz.func228 (by kernel_rfl) (by kernel_rfl)|k+1=>alr me (pA k) Ze (alj (pA k)) (ali (pA k)) (ald (pA k)) (alc (pA k)) (alb (pA k))
def jH(k:Nat):ig:=(pA k).F
def B5:ma:=pA NN
def Lk:ig:=B5.F
abbrev YZ:Lay:={ T:=[(0,.hd 0 aq),(1,.int .i64),(2,.func 146 [] [.ptr 1 0])],h:=iY,nx:=6 }
abbrev Lp:List (Ev.Ex×Lay):=[(.ret,nq)]
abbrev Zc:=TL YZ.σs->Option (Out Lp)
abbrev Lz:=Kb 197 3 YZ 0 Lp
abbrev B0:Lay:={ T:=[(0,.hd 0 aq),(1,.int .i64),(2,.func 146 [] [.ptr 1 0]),(6,.int .i64)],h:=iY,nx:=6 }
abbrev BU:List (Ev.Ex×Lay):=[((.exit 2),nq)]
abbrev Y3:=TL B0.σs->Option (Out BU)
abbrev Lr:=Ld 6 63 (bI [1] (bh Tryz.f197)) B0 BU
abbrev BZ:Lay:=abY
abbrev BS:List (Ev.Ex×Lay):=[((.exit 4),ab0)]
abbrev Lq:=TL BZ.σs->Option (Out BS)
abbrev B7:=Ld 6 63 (bI [1,0] (bh Tryz.f197)) BZ BS
abbrev B4:Lay:=abY
abbrev BV:List (Ev.Ex×Lay):=[((.exit 0),ab0)]
abbrev Y4:=TL B4.σs->Option (Out BV)
abbrev Ls:=Ld 6 63 (bI [0] (bh Tryz.f197)) B4 BV
def Lv(F2:K6)(t1 t6 t7 t8:Int)(b0:List (Sh.T aq))(cP:Int)(cU:List Int)(cV:List (Sh.T ae))(cW cX cY:List Int)(cZ:List (Sh.T ab))(db:List (Sh.T ae))(b3 b4 b5:List Int):Option (TL B4.σs⊕Out BV):=
 br (iE t8 t1)
 (
  ao (F2 (t7,(t8,(b0,(cP,(cU,(cV,(cW,(cX,(cY,(cZ,(db,(b3,(b4,(b5,()))))))))))))))) fun x0=>
  some (.inl (t1,(t6,(t8,((IntKind.wrap .i64 (t8+t6)),x0))))))
 (
  some (.inr (t1,(t6,(t7,(b0,(cP,(cU,(cV,(cW,(cX,(cY,(cZ,(db,(b3,(b4,(b5,())))))))))))))))))
def alx(c2:BE) :Ls:=bN (u16 (Lv c2.F)) (pL (kB c2 k0) e0 1 l0 fun d=>by kernel_rfl)
def alu:Ls:=alx K7
def Y7:Y4:=aX (u16 (Lv Yi)) NN
def Lt(F1:ig)(t1 t6 t7 t8:Int)(b0:List (Sh.T aq))(cP:Int)(cU:List Int)(cV:List (Sh.T ae))(cW cX cY:List Int)(cZ:List (Sh.T ab))(db:List (Sh.T ae))(b3 b4 b5:List Int):Option (TL BZ.σs⊕Out BS):=
 br (iE t8 t1)
 (
  ao (F1 (t7,((IntKind.wrap .i64 (t7+t6)),(t8,(b0,(cP,(cU,(cV,(cW,(cX,(cY,(cZ,(db,(b3,(b4,(b5,())))))))))))))))) fun x0=>
  some (.inl (t1,(t6,(t8,((IntKind.wrap .i64 (t8+(IntKind.wrap .i64 ((2:Int)*t6)))),x0))))))
 (
  some (.inr (t1,(t6,(t7,(b0,(cP,(cU,(cV,(cW,(cX,(cY,(cZ,(db,(b3,(b4,(b5,())))))))))))))))))
def alv(c1:ma) :B7:=bN (u16 (Lt c1.F)) (pL (kB c1 k0) e0 1 l0 fun d=>by kernel_rfl)
def Y5:B7:=alv B5
def B6:Lq:=aX (u16 (Lt Lk)) NN
def Lu(F1:ig)(L9:Lq)(t1 t6:Int)(b0:List (Sh.T aq))(cP:Int)(cU:List Int)(cV:List (Sh.T ae))(cW cX cY:List Int)(cZ:List (Sh.T ab))(db:List (Sh.T ae))(b3 b4 b5:List Int):Option (TL B0.σs⊕Out BU):=
 br (iL t6 t1)
 (
  ao (L9 (t1,(t6,((0:Int),((IntKind.wrap .i64 ((2:Int)*t6)),(b0,(cP,(cU,(cV,(cW,(cX,(cY,(cZ,(db,(b3,(b4,(b5,()))))))))))))))))) fun x0=>
  br (iL (IntKind.wrap .i64 (@HAdd.hAdd (Int) (Int) (Int) _ x0.2.2.1 x0.2.1)) x0.1)
  (
   ao (F1 (x0.2.2.1,((IntKind.wrap .i64 (@HAdd.hAdd (Int) (Int) (Int) _ x0.2.2.1 x0.2.1)),(x0.1,rN x0)))) fun x1=>
   some (.inl (x0.1,((IntKind.wrap .i64 (@HMul.hMul (Int) (Int) (Int) _ x0.2.1 (2:Int))),x1))))
  (
   some (.inl (x0.1,((IntKind.wrap .i64 (@HMul.hMul (Int) (Int) (Int) _ x0.2.1 (2:Int))),rN x0)))))
 (
  some (.inr (b0,(cP,(cU,(cV,(cW,(cX,(cY,(cZ,(db,(b3,(b4,(b5,()))))))))))))))
def alw(c1:ma)(M9:B7):Lr:=bN (i7 (Lu c1.F M9.L)) (pL (kB c1 k0) e0 1 (sC M9 l0) fun d=>by kernel_rfl)
def als:Lr:=alw B5 Y5
def Y6:Y3:=aX (i7 (Lu Lk B6)) NN
def alF(F0:mb)(F1:ig)(F2:K6)(L2:Y4)(L7:Y3)(L9:Lq)(t1:Int)(b0:List (Sh.T aq))(cP:Int)(cU:List Int)(cV:List (Sh.T ae))(cW cX cY:List Int)(cZ:List (Sh.T ab))(db:List (Sh.T ae))(b3 b4 b5:List Int):Option (Out Lp):=
 ao (L2 (t1,((20:Int),((0:Int),((20:Int),(b0,(cP,(cU,(cV,(cW,(cX,(cY,(cZ,(db,(b3,(b4,(b5,()))))))))))))))))) fun x0=>
 ao (F2 (x0.2.2.1,(x0.1,rN x0))) fun x1=>
 ao (L7 (x0.1,(x0.2.1,x1))) fun x2=>
 some x2
def alE(c0:lI)(c1:ma)(c2:BE)(M2:Ls)(M7:Lr)(M9:B7):Lz:=⟨ot (alF c0.F c1.F c2.F M2.L M7.L M9.L),pB Tryz.func197 63 (kB c0 (kB c1 (kB c2 k0))) e0 1 (sS (sC M2 (sC M7 l0))) fun d=>by kernel_rfl⟩
def Zd:Lz:=alE me B5 K7 alu als Y5
def aly:Zc:=Zd.F
abbrev XX:Lay:={ T:=[(0,.hd 0 aq),(1,.func 146 [] [.ptr 1 0])],h:=iY,nx:=6 }
abbrev KI:List (Ev.Ex×Lay):=[(.ret,nq)]
abbrev XY:=TL XX.σs->Option (Out KI)
abbrev KK:=Kb 145 2 XX 0 KI
def aky(F0:mb)(F1:Zc)(b0:List (Sh.T aq))(cP:Int)(cU:List Int)(cV:List (Sh.T ae))(cW cX cY:List Int)(cZ:List (Sh.T ab))(db:List (Sh.T ae))(b3 b4 b5:List Int):Option (Out KI):=
 ao (F1 ((Int.ofNat (List.length b0)),(b0,(cP,(cU,(cV,(cW,(cX,(cY,(cZ,(db,(b3,(b4,(b5,())))))))))))))) fun x0=>
 some x0
def akx(c0:lI)(c1:Lz) :KK:=⟨mO (aky c0.F c1.F),pB Tryz.func145 9 (kB c0 (kB c1 k0)) e0 1 (sS l0) fun d=>by kernel_rfl⟩
def XZ:KK:=akx me Zd
def akw:XY:=XZ.F
abbrev aaB:List Sh:=[ca]
abbrev Nq:List Sh:=[(.sl aq),.bool]
abbrev aaK:=TL aaB->Option (TL Nq)
abbrev NA:=Kd 78 aaB Nq
def anb(F0:XY)(F1:mb)(F2:NG)(a0:Sh.T ca):Option (TL Nq):=
 ao (F2 a0) fun x0=>
 (match x0 with
 |.inl x1=>
  ai (Bool.not (iQ x1.1 (0:Int)))<|
  some ([],(false,()))
 |.inr x1=>
  br (Bool.not (iQ x1.1 (0:Int)))
  (
   some ([],(false,())))
  (
   ao (F0 (dD x1,(x1.2.1,(x1.2.2.1,(cJ x1,(cK x1,(cT x1,(cO x1,(dt x1,(dX x1,(fu x1,ni x1))))))))))) fun x2=>
   some (x2.1,(true,())))
 )
def ana(c0:KK)(c1:lI)(c2:Dp) :NA:=⟨u1 (anb c0.F c1.F c2.F),pD Tryz.func78 23 (kB c0 (kB c1 (kB c2 k0))) e0 1 (sS l0) fun d=>by kernel_rfl⟩
def aaL:NA:=ana XZ me NH
def am0:aaK:=aaL.F
abbrev aa0:List Sh:=[(.int .i64)]
abbrev NJ:List Sh:=[.bool]
abbrev aa5:=TL aa0->Option (TL NJ)
abbrev NO:=Kd 149 aa0 NJ
def NM(a0:Int):Option (TL NJ):=some ((iQ (kv .i64 a0 (1:Int)) (1:Int)),())
def anD  :NO:=⟨u1 NM,pD Tryz.func149 6 k0 e0 1 (sS l0) fun d=>by kernel_rfl⟩
def aa6:NO:=anD
def aa1:aa5:=aa6.F
abbrev aaQ:List Sh:=[(.int .i64),(.sl .bool)]
abbrev Dn:List Sh:=[.bool]
abbrev mX:=TL aaQ->Option (TL Dn)
abbrev mf:=Kd 80 aaQ Dn
def NK(F0:aa5)(F1:qT)(a0:Int)(a1:List Bool):Option (TL Dn):=
 br (iL a0 (0:Int))
 (
  some (false,()))
 (
  ao (F1 (a0,())) fun x0=>
  ao (F0 (a0,())) fun x1=>
  br (iL (0:Int) x0.1)
  (
   br (bn true (iL x0.1 (Int.ofNat (List.length a1))) false)
   (
    ai (av x0.1 (List.length a1))<|
    some ((Bool.not (@decide _ (Bool.decEq x1.1 (bn true (gt .bool a1 x0.1) false)))),()))
   (
    some ((Bool.not (@decide _ (Bool.decEq x1.1 false))),())))
  (
   some ((Bool.not (@decide _ (Bool.decEq x1.1 false))),())))
def anv(c0:NO)(c1:pE) :mf:=⟨u2 (NK c0.F c1.F),pD Tryz.func80 27 (kD c0 (kD c1 k0)) e0 1 (sS l0) fun d=>by kernel_rfl⟩
def mY:mf:=anv aa6 qU
def kh:mX:=mY.F
abbrev C3:Lay:={ T:=[(1,.fz .bool),(4,.int .u64),(11,.fz (.int .i64)),(12,.int .i64),(13,.int .i64)],h:=[],nx:=0 }
abbrev CZ:List (Ev.Ex×Lay):=[((.exit 0),{ T:=[(4,.int .u64)],h:=[],nx:=0 })]
abbrev aax:=TL C3.σs->Option (Out CZ)
abbrev Ng:=Ld 0 27 (bI [0] (bh Tryz.f81)) C3 CZ
def De(F0:mX)(t1:List Bool)(t4:Int)(t11:List Int)(t12 t13:Int):Option (TL C3.σs⊕Out CZ):=
 br (iL t13 t12)
 (
  ai (av t13 (List.length t11))<|
  ao (F0 ((gt (.int .i64) t11 t13),(t1,()))) fun x0=>
  br x0.1
  (
   ai (iE (0:Int) t13)<|
   some (.inl (t1,((tt .u64 t4 (IntKind.wrap .u64 ((1:Int)*(HPow.hPow (2:Int) (Min.min (Int.toNat t13) 64))))),(t11,(t12,((IntKind.wrap .i64 (t13+(1:Int))),())))))))
  (
   some (.inl (t1,(t4,(t11,(t12,((IntKind.wrap .i64 (t13+(1:Int))),()))))))))
 (
  some (.inr (t4,())))
def amW(c0:mf) :Ng:=bN (u5 (De c0.F)) (pL (kD c0 k0) e0 1 l0 fun d=>by kernel_rfl)
def amV:Ng:=amW mY
def Dd:aax:=aX (u5 (De kh)) NN
abbrev aaw:List Sh:=[(.sl (.int .i64)),(.sl .bool)]
abbrev Nf:List Sh:=[(.int .u64)]
abbrev wK:=TL aaw->Option (TL Nf)
abbrev sW:=Kd 81 aaw Nf
def Nw(F0:mX)(L2:aax)(a0:List Int)(a1:List Bool):Option (TL Nf):=
 ai (both (iE (0:Int) (du (iL (64:Int) (Int.ofNat (List.length a0))) (64:Int) (Int.ofNat (List.length a0)))) (iE (du (iL (64:Int) (Int.ofNat (List.length a0))) (64:Int) (Int.ofNat (List.length a0))) (Int.ofNat (List.length a0))))<|
 ao (L2 (a1,((0:Int),((List.take (Int.toNat (du (iL (64:Int) (Int.ofNat (List.length a0))) (64:Int) (Int.ofNat (List.length a0)))) a0),((Int.ofNat (List.length (List.take (Int.toNat (du (iL (64:Int) (Int.ofNat (List.length a0))) (64:Int) (Int.ofNat (List.length a0)))) a0))),((0:Int),())))))) fun x0=>
 some (x0.1,())
def am5(c0:mf)(M2:Ng):sW:=⟨u2 (Nw c0.F M2.L),pD Tryz.func81 27 (kD c0 k0) e0 1 (sS (sC M2 l0)) fun d=>by kernel_rfl⟩
def wL:sW:=am5 mY amV
def qM:wK:=wL.F
abbrev C9:Lay:={ T:=[(0,.int .u64),(4,.hd 0 .bool),(7,.int .i64),(8,.int .i64)],h:=[(0,.arr .bool 4)],nx:=1 }
abbrev C4:List (Ev.Ex×Lay):=[((.exit 0),{ T:=[(4,.hd 0 .bool)],h:=[(0,.arr .bool 4)],nx:=1 })]
abbrev aaF:=TL C9.σs->Option (Out C4)
abbrev aaG:=Ld 0 21 (bI [0] (bh Tryz.f63)) C9 C4
def Dj(t0 t7 t8:Int)(b0:List Bool):Option (TL C9.σs⊕Out C4):=
 br (iL t8 t7)
 (
  ai (iE (0:Int) t8)<|
  ai (room 1 (List.length (ap b0 ((iQ (kv .u64 (Int.fdiv t0 (HPow.hPow (2:Int) (Min.min (Int.toNat t8) 64))) (1:Int)) (1:Int))::[]))))<|
  some (.inl (t0,(t7,((IntKind.wrap .i64 (t8+(1:Int))),((ap b0 ((iQ (kv .u64 (Int.fdiv t0 (HPow.hPow (2:Int) (Min.min (Int.toNat t8) 64))) (1:Int)) (1:Int))::[])),()))))))
 (
  some (.inr (b0,())))
def am6  :aaG:=bN (u4 Dj) (pL k0 e0 1 l0 fun d=>by kernel_rfl)
def Ny:aaF:=aX (u4 Dj) NN
abbrev aaE:List Sh:=[(.int .u64),(.int .i64)]
abbrev Nx:List Sh:=[(.sl .bool)]
abbrev tb:=TL aaE->Option (TL Nx)
abbrev ta:=Kd 63 aaE Nx
def ND(F0:MO)(L2:aaF)(a0 a1:Int):Option (TL Nx):=
 ao (F0 (a1,())) fun x0=>
 ao (L2 (a0,(x0.1,((0:Int),([],()))))) fun x1=>
 some (x1.1,())
def ank(c0:CR)(M2:aaG):ta:=⟨u2 (ND c0.F M2.L),pD Tryz.func63 21 (kD c0 k0) e0 1 (sS (sC M2 l0)) fun d=>by kernel_rfl⟩
def wU:ta:=ank MP am6
def qS:tb:=wU.F
abbrev CD:Lay:={ T:=[(0,.fz .bool),(3,.int .u64),(4,.int .u64),(5,.int .i64)],h:=[],nx:=0 }
abbrev Ct:List (Ev.Ex×Lay):=[((.exit 0),{ T:=[(3,.int .u64)],h:=[],nx:=0 })]
abbrev Z2:=TL CD.σs->Option (Out Ct)
abbrev Z3:=Ld 0 26 (bI [0] (bh Tryz.f121)) CD Ct
def CM(t0:List Bool)(t3 t4 t5:Int):Option (TL CD.σs⊕Out Ct):=
 br (iL t5 (Int.ofNat (List.length t0)))
 (
  br (bn true (iL t5 (64:Int)) false)
  (
   ai (av t5 (List.length t0))<|
   br (gt .bool t0 t5)
   (
    some (.inl (t0,((IntKind.wrap .u64 (t3+t4)),((IntKind.wrap .u64 (t4*(2:Int))),((IntKind.wrap .i64 (t5+(1:Int))),()))))))
   (
    some (.inl (t0,(t3,((IntKind.wrap .u64 (t4*(2:Int))),((IntKind.wrap .i64 (t5+(1:Int))),())))))))
  (
   some (.inr (t3,()))))
 (
  some (.inr (t3,())))
def amj  :Z3:=bN (u4 CM) (pL k0 e0 1 l0 fun d=>by kernel_rfl)
def My:Z2:=aX (u4 CM) NN
abbrev Z1:List Sh:=[(.sl .bool)]
abbrev Mx:List Sh:=[(.int .u64)]
abbrev MY:=TL Z1->Option (TL Mx)
abbrev CX:=Kd 121 Z1 Mx
def MH(L3:Z2)(a0:List Bool):Option (TL Mx):=
 ao (L3 (a0,((0:Int),((1:Int),((0:Int),()))))) fun x0=>
 some (x0.1,())
def amv(M3:Z3):CX:=⟨u1 (MH M3.L),pD Tryz.func121 26 k0 e0 1 (sS (sC M3 l0)) fun d=>by kernel_rfl⟩
def MZ:CX:=amv  amj
def MV:MY:=MZ.F
abbrev akU:Lay:={ T:=[(0,.ej (.int .i64))],h:=[],nx:=0 }
abbrev YH:List (Ev.Ex×Lay):=[(.ret,{ T:=[(0,.hd 0 (.int .i64))],h:=[(0,.arr (.int .i64) 3)],nx:=1 })]
abbrev Zs:=Kb 131 1 akU 1 YH
def alM(t0z:Bool)(t0:List Int):Option (Out YH):=
 br t0z
 (
  some ([],()))
 (
  ai (room 8 (List.length (ap [] t0)))<|
  some ((ap [] t0),()))
def alL  :Zs:=⟨u2 alM,pB Tryz.func131 8 k0 e0 1 (sS l0) fun d=>by kernel_rfl⟩
def ala:Zs:=alL
abbrev Zu:List Sh:=[.sl (.int .i64)]
abbrev Zt:List Sh:=[.sl (.int .i64)]
abbrev Cp:=TL Zu->Option (TL Zt)
abbrev Cr:=Kd 131 Zu Zt
def Cq:Cr:=⟨_,Nv ala.ok rfl (fun L=>rfl) (fun L=>⟨_,_,rfl,rfl,rfl⟩)⟩
def sN:Cp:=Cq.F
abbrev akp:Lay:={ T:=[(0,.ej ae)],h:=[],nx:=0 }
abbrev XV:List (Ev.Ex×Lay):=[(.ret,{ T:=[(0,.hd 0 ae)],h:=[(0,.arr ae 95)],nx:=1 })]
abbrev YE:=Kb 132 1 akp 1 XV
def ak8(t0z:Bool)(t0:List (Sh.T ae)):Option (Out XV):=
 br t0z
 (
  some ([],()))
 (
  ai (room 24 (List.length (ap [] t0)))<|
  some ((ap [] t0),()))
def ak7  :YE:=⟨u2 ak8,pB Tryz.func132 8 k0 e0 1 (sS l0) fun d=>by kernel_rfl⟩
def aks:YE:=ak7
abbrev YG:List Sh:=[.sl ae]
abbrev YF:List Sh:=[.sl ae]
abbrev YS:=TL YG->Option (TL YF)
abbrev YU:=Kd 132 YG YF
def YT:YU:=⟨_,Nv aks.ok rfl (fun L=>rfl) (fun L=>⟨_,_,rfl,rfl,rfl⟩)⟩
def ak9:YS:=YT.F
abbrev aku:Lay:={ T:=[(0,.ej ae)],h:=[],nx:=0 }
abbrev XW:List (Ev.Ex×Lay):=[(.ret,{ T:=[(0,.hd 0 ae)],h:=[(0,.arr ae 150)],nx:=1 })]
abbrev Y9:=Kb 133 1 aku 1 XW
def alC(t0z:Bool)(t0:List (Sh.T ae)):Option (Out XW):=
 br t0z
 (
  some ([],()))
 (
  ai (room 24 (List.length (ap [] t0)))<|
  some ((ap [] t0),()))
def alB  :Y9:=⟨u2 alC,pB Tryz.func133 8 k0 e0 1 (sS l0) fun d=>by kernel_rfl⟩
def akv:Y9:=alB
abbrev Zb:List Sh:=[.sl ae]
abbrev Za:List Sh:=[.sl ae]
abbrev Zf:=TL Zb->Option (TL Za)
abbrev Zh:=Kd 133 Zb Za
def Zg:Zh:=⟨_,Nv akv.ok rfl (fun L=>rfl) (fun L=>⟨_,_,rfl,rfl,rfl⟩)⟩
def alD:Zf:=Zg.F
abbrev akm:Lay:={ T:=[(0,.ej ab)],h:=[],nx:=0 }
abbrev KG:List (Ev.Ex×Lay):=[(.ret,{ T:=[(0,.hd 0 ab)],h:=[(0,.arr ab 116)],nx:=1 })]
abbrev Yx:=Kb 134 1 akm 1 KG
def akZ(t0z:Bool)(t0:List (Sh.T ab)):Option (Out KG):=
 br t0z
 (
  some ([],()))
 (
  ai (room 72 (List.length (ap [] t0)))<|
  some ((ap [] t0),()))
def akY  :Yx:=⟨u2 akZ,pB Tryz.func134 8 k0 e0 1 (sS l0) fun d=>by kernel_rfl⟩
def ako:Yx:=akY
abbrev Yj:Lay:={ T:=[(0,.fz ab)],h:=[],nx:=0 }
abbrev Yf:List (Ev.Ex×Lay):=KG
abbrev LD:=TL Yj.σs->Option (Out Yf)
abbrev LG:=Kb 134 1 Yj 1 Yf
def LF:LG:=rM ako rfl
def Zr:LD:=LF.F
abbrev akr:Lay:={ T:=[(0,.ej bg)],h:=[],nx:=0 }
abbrev KJ:List (Ev.Ex×Lay):=[(.ret,{ T:=[(0,.hd 0 bg)],h:=[(0,.arr bg 152)],nx:=1 })]
abbrev YY:=Kb 135 1 akr 1 KJ
def alq(t0z:Bool)(t0:List (Sh.T bg)):Option (Out KJ):=
 br t0z
 (
  some ([],()))
 (
  ai (room 32 (List.length (ap [] t0)))<|
  some ((ap [] t0),()))
def alp  :YY:=⟨u2 alq,pB Tryz.func135 8 k0 e0 1 (sS l0) fun d=>by kernel_rfl⟩
def akt:YY:=alp
abbrev YR:Lay:={ T:=[(0,.fz bg)],h:=[],nx:=0 }
abbrev YD:List (Ev.Ex×Lay):=KJ
abbrev wu:=TL YR.σs->Option (Out YD)
abbrev wy:=Kb 135 1 YR 1 YD
def wx:wy:=rM akt rfl
def sQ:wu:=wx.F
abbrev akn:Lay:={ T:=[(0,.ej aH)],h:=[],nx:=0 }
abbrev KH:List (Ev.Ex×Lay):=[(.ret,{ T:=[(0,.hd 0 aH)],h:=[(0,.arr aH 175)],nx:=1 })]
abbrev YC:=Kb 136 1 akn 1 KH
def ak6(t0z:Bool)(t0:List (Sh.T aH)):Option (Out KH):=
 br t0z
 (
  some ([],()))
 (
  ai (room 56 (List.length (ap [] t0)))<|
  some ((ap [] t0),()))
def ak5  :YC:=⟨u2 ak6,pB Tryz.func136 8 k0 e0 1 (sS l0) fun d=>by kernel_rfl⟩
def akq:YC:=ak5
abbrev Yy:Lay:={ T:=[(0,.fz aH)],h:=[],nx:=0 }
abbrev Yw:List (Ev.Ex×Lay):=KH
abbrev wo:=TL Yy.σs->Option (Out Yw)
abbrev wt:=Kb 136 1 Yy 1 Yw
def wq:wt:=rM akq rfl
def sP:wo:=wq.F
abbrev Dc:Lay:={ T:=[(1,.ptr 0 0),(2,.ptr 2 0),(41,.int .i64),(42,.int .i64)],h:=abX,nx:=3 }
abbrev C6:List (Ev.Ex×Lay):=[((.exit 2),{ T:=[(1,.ptr 0 0),(2,.ptr 2 0)],h:=abX,nx:=3 })]
abbrev aaN:=TL Dc.σs->Option (Out C6)
abbrev NC:=Ld 0 123 (bI [1] (bh Tryz.f68)) Dc C6
abbrev C7:Lay:={ T:=[(1,.ptr 0 0),(2,.ptr 4 0),(6,.dT 1 5 0),(41,.int .i64),(42,.int .i64),(94,.int .i64),(95,.int .i64)],h:=DQ,nx:=5 }
abbrev C1:List (Ev.Ex×Lay):=[((.exit 6),{ T:=[(1,.ptr 0 0),(2,.ptr 4 0),(41,.int .i64),(42,.int .i64)],h:=DQ,nx:=5 })]
abbrev Nr:=TL C7.σs->Option (Out C1)
abbrev Df:=Ld 0 123 (bI [1,1] (bh Tryz.f68)) C7 C1
abbrev C8:Lay:={ T:=[(1,.ptr 0 0),(2,.ptr 4 0),(6,.dT 1 5 0),(41,.int .i64),(42,.int .i64),(69,.int .i64),(70,.int .i64)],h:=DQ,nx:=5 }
abbrev C2:List (Ev.Ex×Lay):=[((.exit 4),{ T:=[(1,.ptr 0 0),(2,.ptr 4 0),(6,.dT 1 5 0),(41,.int .i64),(42,.int .i64)],h:=DQ,nx:=5 })]
abbrev Ns:=TL C8.σs->Option (Out C2)
abbrev Dg:=Ld 0 123 (bI [1,0] (bh Tryz.f68)) C8 C2
def Di(F2:Cp)(t6 t41 t42 t69 t70 aw:Int)(aG:List Int)(aT:List (Sh.T ae))(aP aW ba:List Int)(aM:List (Sh.T ae))(b1i:Int)(b1:List (Sh.T ab))(ff fx:Int)(ik:Bool)(b2:List (Sh.T bg))(b3:List (Sh.T aH))(mZ:Int):Option (TL C8.σs⊕Out C2):=
 br (iL t70 t69)
 (
  ai (Nat.beq (Int.toNat t6) (Int.toNat b1i))<|
  ai (Nat.beq (Int.toNat t6) (Int.toNat b1i))<|
  ai (av t70 (List.length b2))<|
  ao (F2 ((gt bg b2 t70).2.1,())) fun x0=>
  ai (av t70 (List.length b2))<|
  some (.inl ((Int.ofNat (Int.toNat t6)),(t41,(t42,(t69,((IntKind.wrap .i64 (t70+(1:Int))),(aw,(aG,(aT,(aP,(aW,(ba,(aM,((Int.ofNat (Int.toNat b1i)),(b1,(ff,(fx,(ik,((List.set b2 (Int.toNat t70) ((gt bg b2 t70).1,(x0.1,()))),(b3,(mZ,()))))))))))))))))))))))
 (
  some (.inr ((Int.ofNat (Int.toNat t6)),(t41,(t42,(aw,(aG,(aT,(aP,(aW,(ba,(aM,((Int.ofNat (Int.toNat b1i)),(b1,(ff,(fx,(ik,(b2,(b3,(mZ,()))))))))))))))))))))
def am3(c2:Cr) :Dg:=bN (ku (Di c2.F)) (pL (kD c2 k0) e0 1 l0 fun d=>by kernel_rfl)
def aaD:Dg:=am3 Cq
def Nu:Ns:=aX (ku (Di sN)) NN
def Dh(F2:Cp)(t6 t41 t42 t94 t95 aw:Int)(aG:List Int)(aT:List (Sh.T ae))(aP aW ba:List Int)(aM:List (Sh.T ae))(b1i:Int)(b1:List (Sh.T ab))(ff fx:Int)(ik:Bool)(b2:List (Sh.T bg))(b3:List (Sh.T aH))(mZ:Int):Option (TL C7.σs⊕Out C1):=
 br (iL t95 t94)
 (
  ai (Nat.beq (Int.toNat t6) (Int.toNat b1i))<|
  ai (av t95 (List.length b3))<|
  ao (F2 ((gt aH b3 t95).2.1,())) fun x0=>
  ao (F2 ((gt aH b3 t95).2.2.1,())) fun x1=>
  ai (nQ (Int.toNat t95) (Int.toNat t95))<|
  some (.inl ((Int.ofNat (Int.toNat t6)),(t41,(t42,(t94,((IntKind.wrap .i64 (t95+(1:Int))),(aw,(aG,(aT,(aP,(aW,(ba,(aM,((Int.ofNat (Int.toNat b1i)),(b1,(ff,(fx,(ik,(b2,((List.set (List.set b3 (Int.toNat t95) ((gt aH b3 t95).1,(x0.1,((gt aH b3 t95).2.2.1,())))) (Int.toNat t95) ((gt aH (List.set b3 (Int.toNat t95) ((gt aH b3 t95).1,(x0.1,((gt aH b3 t95).2.2.1,())))) t95).1,((gt aH (List.set b3 (Int.toNat t95) ((gt aH b3 t95).1,(x0.1,((gt aH b3 t95).2.2.1,())))) t95).2.1,(x1.1,())))),(mZ,()))))))))))))))))))))))
 (
  some (.inr (t41,(t42,(aw,(aG,(aT,(aP,(aW,(ba,(aM,((Int.ofNat (Int.toNat b1i)),(b1,(ff,(fx,(ik,(b2,(b3,(mZ,())))))))))))))))))))
def am2(c2:Cr) :Df:=bN (ku (Dh c2.F)) (pL (kD c2 k0) e0 1 l0 fun d=>by kernel_rfl)
def aaC:Df:=am2 Cq
def Nt:Nr:=aX (ku (Dh sN)) NN
def Dm(F3:wo)(F4:wu)(L13:Ns)(L18:Nr)(t41 t42 aw:Int)(aG:List Int)(aT:List (Sh.T ae))(aP aW ba:List Int)(aM:List (Sh.T ae))(b1:List (Sh.T ab))(cP:Int):Option (TL Dc.σs⊕Out C6):=
 br (iL t42 t41)
 (
  ai (av t42 (List.length b1))<|
  ao (F4 ((gt ab b1 t42).2.2.2.1,())) fun x0=>
  ai (nQ (Int.toNat t42) (Int.toNat t42))<|
  ai (nQ (Int.toNat t42) (Int.toNat t42))<|
  ai (nQ (Int.toNat t42) (Int.toNat t42))<|
  ai (nQ (Int.toNat t42) (Int.toNat t42))<|
  ai (nQ (Int.toNat t42) (Int.toNat t42))<|
  ai (fp (Sh.beq aH) (gt ab b1 t42).2.2.2.2.1 (gt ab b1 t42).2.2.2.2.1)<|
  ao (F3 ((gt ab b1 t42).2.2.2.2.1,())) fun x1=>
  ai (nQ (Int.toNat t42) (Int.toNat t42))<|
  ai (nQ (Int.toNat t42) (Int.toNat t42))<|
  ai (nQ (Int.toNat t42) (Int.toNat t42))<|
  ai (Nat.beq (Int.toNat t42) (Int.toNat t42))<|
  ai (Nat.beq (Int.toNat t42) (Int.toNat t42))<|
  ao (L13 ((Int.ofNat (Int.toNat t42)),(t41,(t42,((Int.ofNat (List.length x0.1)),((0:Int),(aw,(aG,(aT,(aP,(aW,(ba,(aM,((Int.ofNat (Int.toNat t42)),(b1,((gt ab b1 t42).1,((gt ab b1 t42).2.1,((gt ab b1 t42).2.2.1,(x0.1,(x1.1,(cP,()))))))))))))))))))))) fun x2=>
  ai (Nat.beq (Int.toNat x2.1) (Int.toNat (dD x2)))<|
  ao (L18 ((Int.ofNat (Int.toNat x2.1)),(x2.2.1,(x2.2.2.1,((Int.ofNat (List.length (cK (eh x2)))),((0:Int),(cJ x2,(cK x2,(cT x2,(cO x2,(dt x2,(dX x2,(fu x2,((Int.ofNat (Int.toNat (dD x2))),(jg x2,(fF x2,((eh x2).2.1,((eh x2).2.2.1,(cJ (eh x2),(cK (eh x2),(cT (eh x2),()))))))))))))))))))))) fun x3=>
  some (.inl (x3.1,((IntKind.wrap .i64 (@HAdd.hAdd (Int) (Int) (Int) _ x3.2.1 (1:Int))),(x3.2.2.1,(cJ x3,(cK x3,(cT x3,(cO x3,(dt x3,(dX x3,((List.set (dD x3) (Int.toNat (fu x3)) (jg x3,(fF x3,((eh x3).2.1,((eh x3).2.2.1,(cJ (eh x3),())))))),(cK (eh x3),())))))))))))))
 (
  some (.inr (aw,(aG,(aT,(aP,(aW,(ba,(aM,(b1,(cP,())))))))))))
def anh(c3:wt)(c4:wy)(M13:Dg)(M18:Df):NC:=bN (kV (Dm c3.F c4.F M13.L M18.L)) (pL (kB c3 (kB c4 k0)) e0 1 (sC M13 (sC M18 l0)) fun d=>by kernel_rfl)
def ang:NC:=anh wq wx aaD aaC
def aaO:aaN:=aX (kV (Dm sP sQ Nu Nt)) NN
abbrev aaM:List Sh:=[ca]
abbrev NB:List Sh:=[ca]
abbrev aaY:=TL aaM->Option (TL NB)
abbrev NI:=Kd 68 aaM NB
def ans(F0:Zf)(F1:YS)(F2:Cp)(F3:wo)(F4:wu)(F5:LD)(L8:aaN)(L13:Ns)(L18:Nr)(a0:Sh.T ca):Option (TL NB):=
 ao (F2 (a0.2.1,())) fun x0=>
 ao (F2 (cJ a0,())) fun x1=>
 ao (F2 (cK a0,())) fun x2=>
 ao (F2 (cT a0,())) fun x3=>
 ao (F1 (a0.2.2.1,())) fun x4=>
 ao (F0 (dt a0,())) fun x5=>
 ao (F5 (cO a0,())) fun x6=>
 ao (L8 ((Int.ofNat (List.length x6.1)),((0:Int),(a0.1,(x0.1,(x4.1,(x1.1,(x2.1,(x3.1,(x5.1,(x6.1,((0:Int),())))))))))))) fun x7=>
 some ((x7.1,(x7.2.1,(x7.2.2.1,(cJ x7,(cK x7,(cT x7,(dt x7,(cO x7,())))))))),())
def anr(c0:Zh)(c1:YU)(c2:Cr)(c3:wt)(c4:wy)(c5:LG)(M8:NC)(M13:Dg)(M18:Df):NI:=⟨u1 (ans c0.F c1.F c2.F c3.F c4.F c5.F M8.L M13.L M18.L),pD Tryz.func68 123 (kD c0 (kD c1 (kD c2 (kB c3 (kB c4 (kB c5 k0)))))) e0 1 (lS (lU (bI [0] (bh Tryz.f68)) 5 (kD c0 (kD c1 (kD c2 (kB c3 (kB c4 (kB c5 k0)))))) e0 1 l0 (by kernel_rfl) (sC M8 l0) (by kernel_rfl)) (by kernel_rfl)) fun d=>by kernel_rfl⟩
def aaZ:NI:=anr Zg YT Cq wq wx LF ang aaD aaC
def ani:aaY:=aaZ.F
abbrev akz:Lay:={ T:=[(0,.ej .bool)],h:=[],nx:=0 }
abbrev Lc:List (Ev.Ex×Lay):=[(.ret,{ T:=[(0,.hd 0 .bool)],h:=[(0,.arr .bool 4)],nx:=1 })]
abbrev Zq:=Kb 73 1 akz 1 Lc
def alK(t0z:Bool)(t0:List Bool):Option (Out Lc):=
 br t0z
 (
  some ([],()))
 (
  ai (room 1 (List.length (ap [] t0)))<|
  some ((ap [] t0),()))
def alJ  :Zq:=⟨u2 alK,pB Tryz.func73 8 k0 e0 1 (sS l0) fun d=>by kernel_rfl⟩
def akV:Zq:=alJ
abbrev Zn:Lay:={ T:=[(0,.fz .bool)],h:=[],nx:=0 }
abbrev Zk:List (Ev.Ex×Lay):=Lc
abbrev wz:=TL Zn.σs->Option (Out Zk)
abbrev wA:=Kb 73 1 Zn 1 Zk
def sO:wA:=rM akV rfl
def LH:wz:=sO.F
abbrev Zj:Lay:={ T:=[(0,.hd 0 .bool)],h:=[(0,.arr .bool 4)],nx:=1 }
abbrev Zi:List (Ev.Ex×Lay):=[(.ret,{ T:=[(0,.hd 1 .bool)],h:=[(0,.arr .bool 4),(1,.arr .bool 4)],nx:=2 })]
abbrev wC:=TL Zj.σs->Option (Out Zi)
abbrev wE:=Kb 73 1 Zj 1 Zi
def wD:wE:=⟨_,ant (by kernel_rfl) sO.ok⟩
def amQ:wC:=wD.F
abbrev Zke:Lay:={ T:=[(0,.ptr 0 0),(1,.int .u64)],h:=DR,nx:=2 }
abbrev xL:List (Ev.Ex×Lay):=[(.ret,{ T:=[(0,.int .u64)],h:=DR,nx:=2 })]
abbrev s9:=TL Zke.σs->Option (Out xL)
abbrev sX:=Kb 75 2 Zke 1 xL
def P5(t1 aw aG:Int)(b1:List (Sh.T aA)):Option (Out xL):=some ((@nh (.int .u64) b1 t1),(aw,(aG,(b1,()))))
def amP  :sX:=⟨u4 P5,pB Tryz.func75 13 k0 e0 1 (sS l0) fun d=>by kernel_rfl⟩
def wN:sX:=amP
def rH:s9:=wN.F
abbrev wS:Lay:={ T:=[(0,.ptr 0 0)],h:=DR,nx:=2 }
abbrev wO:List (Ev.Ex×Lay):=[(.ret,{ T:=[(0,.fz aA)],h:=DR,nx:=2 })]
abbrev N1:=TL wS.σs->Option (Out wO)
abbrev N2:=Kb 83 1 wS 1 wO
