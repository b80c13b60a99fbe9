import Derived.Test.YtkcpdpplobhpaaaGreatYSa
set_option linter.unusedVariables false
set_option linter.unusedSimpArgs false
set_option linter.unnecessarySimpa false
section
namespace Go.Proofs.YtkcpdpplobhpaaaGreat.V
open Go Go.RowKit
set_option maxRecDepth 1000000
abbrev XA:List Sh:=[(.int .i64)]
abbrev AY:List Sh:=[.bool]
abbrev XD:=TL XA->Option (TL AY)
abbrev J2:=Kd 198 XA AY
def J1(a0:Int):Option (TL AY):=some ((Bool.not (iQ a0 a0)),())
def akn  :J2:=⟨u1 J1,pD Tryz.func198 6 k0 e0 1 (sS l0) fun d=>by kernel_rfl⟩
def XE:J2:=akn
def XB:XD:=XE.F
abbrev Xv:List Sh:=[(.int .i64),(.int .i64)]
abbrev AS:List Sh:=[(.int .i64)]
abbrev Xx:=TL Xv->Option (TL AS)
abbrev JW:=Kd 147 Xv AS
def uZ(F0:XD)(a0 a1:Int):Option (TL AS):=
 ar (F0 (a0,())) fun x0=>
 ar (F0 (a1,())) fun x1=>
 br x0.1
 (
  br x1.1
  (
   some ((0:Int),()))
  (
   some ((Int.negSucc 0),())))
 (
  br x1.1
  (
   some ((1:Int),()))
  (
   br (iL a0 a1)
   (
    some ((Int.negSucc 0),()))
   (
    br (iL a1 a0)
    (
     some ((1:Int),()))
    (
     some ((0:Int),())))))
def akg(c0:J2) :JW:=⟨u2 (uZ c0.F),pD Tryz.func147 20 (kD c0 k0) e0 1 (sS l0) fun d=>by kernel_rfl⟩
def Xy:JW:=akg XE
def JV:Xx:=Xy.F
abbrev gK:List (Nat×LO):=[(0,.arr ah 148),(1,.cells [.ptr 2 0] 198),(2,.cells [.int .i64,.fz (.int .i64),.fz ae,.fz (.int .i64),.fz (.int .i64),.fz (.int .i64),.fz ab,.fz ae,.hd 3 (.int .i64),.hd 0 ah,.hd 4 (.int .u8),.hd 5 (.int .i64)] 224),(3,.arr (.int .i64) 3),(4,.arr (.int .u8) 5),(5,.arr (.int .i64) 3)]
abbrev BZ:List (Nat×LO):=[(0,.cells [.int .i64,.fz (.int .i64),.fz ae,.fz (.int .i64),.fz (.int .i64),.fz (.int .i64),.hd 1 ab,.fz ae] 27),(1,.du ab [.int .i64,.int .i64,.bool,.hd 2 bL,.hd 3 bD] 116),(2,.arr bL 152),(3,.arr bD 175),(4,.cells [.int .i64,.bz,.bz,.bz,.bz,.bz,.bz,.bz] 27)]
abbrev Ze:List (Nat×LO):=[(0,.cells [.ptr 1 0] 198),(1,.cells [.int .i64,.fz (.int .i64),.fz ae,.fz (.int .i64),.fz (.int .i64),.fz (.int .i64),.fz ab,.fz ae,.hd 2 (.int .i64),.hd 3 ah,.hd 4 (.int .u8),.hd 5 (.int .i64)] 224),(2,.arr (.int .i64) 3),(3,.arr ah 148),(4,.arr (.int .u8) 5),(5,.arr (.int .i64) 3)]
abbrev mh:Lay:={ T:=[],h:=gK,nx:=6 }
abbrev Lt:Lay:={ T:=[(0,.hd 0 ah),(1,.int .i64),(2,.int .i64),(3,.int .i64),(4,.func 146 [] [.ptr 1 0])],h:=gK,nx:=6 }
abbrev Zf:List (Nat×LO):=[(0,.cells [.int .i64,.fz (.int .i64),.fz ae,.fz (.int .i64),.fz (.int .i64),.fz (.int .i64),.hd 1 ab,.fz ae] 27),(1,.arr ab 116),(2,.cells [.int .i64,.bz,.bz,.bz,.bz,.bz,.bz,.bz] 27)]
abbrev B0:List (Nat×LO):=[(0,.cells [.int .i64,.int .i64,.mp 1] 220),(1,.map .u64 (.int .u64))]
abbrev Zg:Lay:={ T:=[(0,.hd 0 ah),(1,.int .i64),(2,.func 146 [] [.ptr 1 0]),(6,.int .i64),(7,.int .i64),(8,.int .i64)],h:=gK,nx:=6 }
abbrev Zh:Lay:={ T:=[(0,.hd 0 ah),(1,.int .i64),(2,.int .i64),(3,.func 146 [] [.ptr 1 0]),(8,.int .i64)],h:=gK,nx:=6 }
abbrev Zi:Lay:={ T:=[(0,.hd 0 ah),(1,.int .i64),(2,.func 146 [] [.ptr 1 0]),(6,.int .i64),(7,.int .i64)],h:=gK,nx:=6 }
abbrev XC:Lay:={ T:=[(0,.agg [.bool,.int .i64,.int .i64]),(1,.agg [.bool,.int .i64,.int .i64]),(2,.ptr 0 0)],h:=Ze,nx:=6 }
abbrev JY:List (Ev.Ex×Lay):=[(.ret,{ T:=[(0,.int .i64)],h:=Ze,nx:=6 })]
abbrev kU:=TL XC.σs->Option (Out JY)
abbrev ki:=Kb 146 3 XC 1 JY
def akp(F0:Xx)(F1:uX)(dq:Bool)(fO fm:Int)(ig:Bool)(fP kr cM:Int)(cR:List Int)(gH:List (Sh.T ae))(gl gZ mR:List Int)(mS:List (Sh.T ab))(mT:List (Sh.T ae))(b2:List Int)(b3:List (Sh.T ah))(b4 b5:List Int):Option (Out JY):=
 ar (F1 (dq,(fO,(fm,(cM,(cR,(gH,(gl,(gZ,(mR,(mS,(mT,(b2,(b3,(b4,(b5,())))))))))))))))) fun x0=>
 ai (aA (0:Int) (List.length x0.1))<|
 ai (aA (gt (.int .i64) x0.1 (0:Int)) (List.length x0.2.2.2.2.2.2.2.2.2.2.2.2.1))<|
 ai (both (bQ ig ig) (both (iQ fP fP) (both (iQ kr kr) true)))<|
 ar (F1 (ig,(fP,(kr,x0.2)))) fun x1=>
 ai (aA (0:Int) (List.length x1.1))<|
 ai (aA (gt (.int .i64) x1.1 (0:Int)) (List.length x1.2.2.2.2.2.2.2.2.2.2.2.2.1))<|
 ai (aA (0:Int) (List.length x0.1))<|
 ai (Sh.beq (.int .i64) (gt (.int .i64) x0.1 (0:Int)) (gt (.int .i64) x0.1 (0:Int)))<|
 ai (iQ (gt (.int .i64) x0.1 (0:Int)) (gt (.int .i64) x0.1 (0:Int)))<|
 ai (aA (gt (.int .i64) x0.1 (0:Int)) (List.length x1.2.2.2.2.2.2.2.2.2.2.2.2.1))<|
 ai (nQ (Int.toNat (gt (.int .i64) x0.1 (0:Int))) (Int.toNat (gt (.int .i64) x0.1 (0:Int))))<|
 ai (iQ (gt (.int .i64) x0.2.2.2.2.2.2.2.2.2.2.2.2.1 (gt (.int .i64) x0.1 (0:Int))) (gt (.int .i64) x1.2.2.2.2.2.2.2.2.2.2.2.2.1 (gt (.int .i64) x0.1 (0:Int))))<|
 ar (F0 ((gt (.int .i64) x0.2.2.2.2.2.2.2.2.2.2.2.2.1 (gt (.int .i64) x0.1 (0:Int))),((gt (.int .i64) x1.2.2.2.2.2.2.2.2.2.2.2.2.1 (gt (.int .i64) x1.1 (0:Int))),()))) fun x2=>
 some (x2.1,x1.2)
def ako(c0:JW)(c1:rT) :ki:=⟨DY (akp c0.F c1.F),pB Tryz.func146 29 (kD c0 (kB c1 k0)) e0 1 (sS l0) fun d=>by kernel_rfl⟩
def kV:ki:=ako Xy uY
def jr:kU:=kV.F
abbrev U8:Lay:=Lt
abbrev H5:List (Ev.Ex×Lay):=[(.ret,mh)]
abbrev Io:=TL U8.σs->Option (Out H5)
abbrev zC:=Kb 265 5 U8 0 H5
abbrev zq:Lay:={ T:=[(0,.hd 0 ah),(1,.int .i64),(2,.int .i64),(3,.int .i64),(10,.int .i64)],h:=gK,nx:=6 }
abbrev zj:List (Ev.Ex×Lay):=[((.exit 0),mh)]
abbrev Vk:=TL zq.σs->Option (Out zj)
abbrev Vn:=Ld 6 38 (bp [0] (aW Tryz.f265)) zq zj
def zx(t1 t2 t3 t10:Int)(b0:List (Sh.T ah))(bN:Int)(bS:List Int)(bT:List (Sh.T ae))(bU bV bW:List Int)(bX:List (Sh.T ab))(bZ:List (Sh.T ae))(b3 b4 b5:List Int):Option (TL zq.σs⊕Out zj):=
 br (iL t10 t3)
 (
  ai (aA (IntKind.wrap .i64 (t2+t10)) (List.length b0))<|
  ai (aA (IntKind.wrap .i64 (t1+t10)) (List.length b0))<|
  ai (aA (IntKind.wrap .i64 (t1+t10)) (List.length b0))<|
  ai (aA (IntKind.wrap .i64 (t2+t10)) (List.length (List.set b0 (Int.toNat (IntKind.wrap .i64 (t1+t10))) ((gt ah b0 (IntKind.wrap .i64 (t2+t10))).1,((gt ah b0 (IntKind.wrap .i64 (t2+t10))).2.1,((gt ah b0 (IntKind.wrap .i64 (t2+t10))).2.2.1,()))))))<|
  ai (iQ t2 t2)<|
  ai (iQ t10 t10)<|
  ai (iQ (IntKind.wrap .i64 (t2+t10)) (IntKind.wrap .i64 (t2+t10)))<|
  some (.inl (t1,(t2,(t3,((IntKind.wrap .i64 (t10+(1:Int))),((List.set (List.set b0 (Int.toNat (IntKind.wrap .i64 (t1+t10))) ((gt ah b0 (IntKind.wrap .i64 (t2+t10))).1,((gt ah b0 (IntKind.wrap .i64 (t2+t10))).2.1,((gt ah b0 (IntKind.wrap .i64 (t2+t10))).2.2.1,())))) (Int.toNat (IntKind.wrap .i64 (t2+t10))) ((gt ah b0 (IntKind.wrap .i64 (t1+t10))).1,((gt ah b0 (IntKind.wrap .i64 (t1+t10))).2.1,((gt ah b0 (IntKind.wrap .i64 (t1+t10))).2.2.1,())))),(bN,(bS,(bT,(bU,(bV,(bW,(bX,(bZ,(b3,(b4,(b5,()))))))))))))))))))
 (
  some (.inr (b0,(bN,(bS,(bT,(bU,(bV,(bW,(bX,(bZ,(b3,(b4,(b5,()))))))))))))))
def aiD  :Vn:=bw (u16 zx) (pL k0 e0 1 l0 fun d=>by kernel_rfl)
def Vl:Vk:=aQ (u16 zx) NN
def aiJ(F0:kU)(L1:Vk)(t1 t2 t3:Int)(b0:List (Sh.T ah))(bN:Int)(bS:List Int)(bT:List (Sh.T ae))(bU bV bW:List Int)(bX:List (Sh.T ab))(bZ:List (Sh.T ae))(b3 b4 b5:List Int):Option (Out H5):=
 ar (L1 (t1,(t2,(t3,((0:Int),(b0,(bN,(bS,(bT,(bU,(bV,(bW,(bX,(bZ,(b3,(b4,(b5,()))))))))))))))))) fun x0=>
 some x0
def aiI(c0:ki)(M1:Vn):zC:=⟨dT (aiJ c0.F M1.L),pB Tryz.func265 38 (kB c0 k0) e0 1 (sS (sC M1 l0)) fun d=>by kernel_rfl⟩
def Ip:zC:=aiI kV aiD
def Vm:Io:=Ip.F
abbrev Vy:Lay:=Lt
abbrev uN:List (Ev.Ex×Lay):=[(.ret,mh)]
abbrev AO:=TL Vy.σs->Option (Out uN)
abbrev IF:=Kb 257 5 Vy 0 uN
abbrev uO:Lay:={ T:=[(0,.hd 0 ah),(2,.int .i64),(4,.func 146 [] [.ptr 1 0]),(10,.int .i64),(11,.int .i64)],h:=gK,nx:=6 }
abbrev uM:List (Ev.Ex×Lay):=[((.exit 0),{ T:=[(0,.hd 0 ah),(2,.int .i64),(4,.func 146 [] [.ptr 1 0]),(10,.int .i64)],h:=gK,nx:=6 })]
abbrev VJ:=TL uO.σs->Option (Out uM)
abbrev IC:=Ld 6 58 (bp [0] (aW Tryz.f257)) uO uM
def ID(F1:Io)(t2 t10 t11:Int)(b0:List (Sh.T ah))(bN:Int)(bS:List Int)(bT:List (Sh.T ae))(bU bV bW:List Int)(bX:List (Sh.T ab))(bZ:List (Sh.T ae))(b3 b4 b5:List Int):Option (TL uO.σs⊕Out uM):=
 br (Bool.not (iQ t10 t11))
 (
  br (iL t11 t10)
  (
   ar (F1 ((IntKind.wrap .i64 (t2-t10)),(t2,(t11,(b0,(bN,(bS,(bT,(bU,(bV,(bW,(bX,(bZ,(b3,(b4,(b5,())))))))))))))))) fun x0=>
   some (.inl (t2,((IntKind.wrap .i64 (t10-t11)),(t11,x0)))))
  (
   ar (F1 ((IntKind.wrap .i64 (t2-t10)),((IntKind.wrap .i64 ((IntKind.wrap .i64 (t2+t11))-t10)),(t10,(b0,(bN,(bS,(bT,(bU,(bV,(bW,(bX,(bZ,(b3,(b4,(b5,())))))))))))))))) fun x0=>
   some (.inl (t2,(t10,((IntKind.wrap .i64 (t11-t10)),x0))))))
 (
  some (.inr (t2,(t10,(b0,(bN,(bS,(bT,(bU,(bV,(bW,(bX,(bZ,(b3,(b4,(b5,()))))))))))))))))
def aiU(c1:zC) :IC:=bw (dT (ID c1.F)) (pL (kB c1 k0) e0 1 l0 fun d=>by kernel_rfl)
def aiT:IC:=aiU Ip
def IB:VJ:=aQ (dT (ID Vm)) NN
def ai1(F0:kU)(F1:Io)(L2:VJ)(t1 t2 t3:Int)(b0:List (Sh.T ah))(bN:Int)(bS:List Int)(bT:List (Sh.T ae))(bU bV bW:List Int)(bX:List (Sh.T ab))(bZ:List (Sh.T ae))(b3 b4 b5:List Int):Option (Out uN):=
 ar (L2 (t2,((IntKind.wrap .i64 (t2-t1)),((IntKind.wrap .i64 (t3-t2)),(b0,(bN,(bS,(bT,(bU,(bV,(bW,(bX,(bZ,(b3,(b4,(b5,())))))))))))))))) fun x0=>
 ar (F1 ((IntKind.wrap .i64 (@HSub.hSub (Int) (Int) (Int) _ x0.1 x0.2.1)),x0)) fun x1=>
 some x1
def ai0(c0:ki)(c1:zC)(M2:IC):IF:=⟨dT (ai1 c0.F c1.F M2.L),pB Tryz.func257 58 (kB c0 (kB c1 k0)) e0 1 (sS (sC M2 l0)) fun d=>by kernel_rfl⟩
def VP:IF:=ai0 kV Ip aiT
def zJ:AO:=VP.F
abbrev UO:Lay:={ T:=[(0,.hd 0 ah),(1,.int .i64),(2,.int .i64),(3,.func 146 [] [.ptr 1 0])],h:=gK,nx:=6 }
abbrev Hv:List (Ev.Ex×Lay):=[(.ret,mh)]
abbrev H2:=TL UO.σs->Option (Out Hv)
abbrev zk:=Kb 227 4 UO 0 Hv
abbrev zb:Lay:=Zh
abbrev za:List (Ev.Ex×Lay):=[((.exit 0),mh)]
abbrev UQ:=TL zb.σs->Option (Out za)
abbrev HA:=Ld 6 53 (bp [0] (aW Tryz.f227)) zb za
abbrev uL:Lay:={ T:=[(0,.hd 0 ah),(1,.int .i64),(2,.int .i64),(3,.func 146 [] [.ptr 1 0]),(8,.int .i64),(9,.int .i64)],h:=gK,nx:=6 }
abbrev uK:List (Ev.Ex×Lay):=[((.exit 2),Zh)]
abbrev Hy:=TL uL.σs->Option (Out uK)
abbrev ze:=Ld 6 53 (bp [0,0] (aW Tryz.f227)) uL uK
def HH(F0:kU)(t1 t2 t8 t9:Int)(b0:List (Sh.T ah))(bN:Int)(bS:List Int)(bT:List (Sh.T ae))(bU bV bW:List Int)(bX:List (Sh.T ab))(bZ:List (Sh.T ae))(b3 b4 b5:List Int):Option (TL uL.σs⊕Out uK):=
 br (iL t1 t9)
 (
  ai (aA t9 (List.length b0))<|
  ai (aA (IntKind.wrap .i64 (t9-(1:Int))) (List.length b0))<|
  ar (F0 ((gt ah b0 t9).1,((gt ah b0 t9).2.1,((gt ah b0 t9).2.2.1,((gt ah b0 (IntKind.wrap .i64 (t9-(1:Int)))).1,((gt ah b0 (IntKind.wrap .i64 (t9-(1:Int)))).2.1,((gt ah b0 (IntKind.wrap .i64 (t9-(1:Int)))).2.2.1,(bN,(bS,(bT,(bU,(bV,(bW,(bX,(bZ,(b3,(b0,(b4,(b5,()))))))))))))))))))) fun x0=>
  br (aR true (iL x0.1 (0:Int)) false)
  (
   ai (aA (IntKind.wrap .i64 (t9-(1:Int))) (List.length x0.2.2.2.2.2.2.2.2.2.2.1))<|
   ai (aA t9 (List.length x0.2.2.2.2.2.2.2.2.2.2.1))<|
   ai (aA t9 (List.length x0.2.2.2.2.2.2.2.2.2.2.1))<|
   ai (aA (IntKind.wrap .i64 (t9-(1:Int))) (List.length (List.set x0.2.2.2.2.2.2.2.2.2.2.1 (Int.toNat t9) ((gt ah x0.2.2.2.2.2.2.2.2.2.2.1 (IntKind.wrap .i64 (t9-(1:Int)))).1,((gt ah x0.2.2.2.2.2.2.2.2.2.2.1 (IntKind.wrap .i64 (t9-(1:Int)))).2.1,((gt ah x0.2.2.2.2.2.2.2.2.2.2.1 (IntKind.wrap .i64 (t9-(1:Int)))).2.2.1,()))))))<|
   ai (iQ t9 t9)<|
   ai (iQ (IntKind.wrap .i64 (t9-(1:Int))) (IntKind.wrap .i64 (t9-(1:Int))))<|
   some (.inl (t1,(t2,(t8,((IntKind.wrap .i64 (t9-(1:Int))),((List.set (List.set x0.2.2.2.2.2.2.2.2.2.2.1 (Int.toNat t9) ((gt ah x0.2.2.2.2.2.2.2.2.2.2.1 (IntKind.wrap .i64 (t9-(1:Int)))).1,((gt ah x0.2.2.2.2.2.2.2.2.2.2.1 (IntKind.wrap .i64 (t9-(1:Int)))).2.1,((gt ah x0.2.2.2.2.2.2.2.2.2.2.1 (IntKind.wrap .i64 (t9-(1:Int)))).2.2.1,())))) (Int.toNat (IntKind.wrap .i64 (t9-(1:Int)))) ((gt ah x0.2.2.2.2.2.2.2.2.2.2.1 t9).1,((gt ah x0.2.2.2.2.2.2.2.2.2.2.1 t9).2.1,((gt ah x0.2.2.2.2.2.2.2.2.2.2.1 t9).2.2.1,())))),(x0.2.1,(x0.2.2.1,(x0.2.2.2.1,(x0.2.2.2.2.1,(x0.2.2.2.2.2.1,(x0.2.2.2.2.2.2.1,(x0.2.2.2.2.2.2.2.1,(x0.2.2.2.2.2.2.2.2.1,(x0.2.2.2.2.2.2.2.2.2.1,x0.2.2.2.2.2.2.2.2.2.2.2))))))))))))))))
  (
   some (.inr (t1,(t2,(t8,(x0.2.2.2.2.2.2.2.2.2.2.1,(x0.2.1,(x0.2.2.1,(x0.2.2.2.1,(x0.2.2.2.2.1,(x0.2.2.2.2.2.1,(x0.2.2.2.2.2.2.1,(x0.2.2.2.2.2.2.2.1,(x0.2.2.2.2.2.2.2.2.1,(x0.2.2.2.2.2.2.2.2.2.1,x0.2.2.2.2.2.2.2.2.2.2.2))))))))))))))))
 (
  some (.inr (t1,(t2,(t8,(b0,(bN,(bS,(bT,(bU,(bV,(bW,(bX,(bZ,(b3,(b4,(b5,())))))))))))))))))
def ah7(c0:ki) :ze:=bw (u16 (HH c0.F)) (pL (kB c0 k0) e0 1 l0 fun d=>by kernel_rfl)
def UR:ze:=ah7 kV
def Hz:Hy:=aQ (u16 (HH jr)) NN
def zf(L4:Hy)(t1 t2 t8:Int)(b0:List (Sh.T ah))(bN:Int)(bS:List Int)(bT:List (Sh.T ae))(bU bV bW:List Int)(bX:List (Sh.T ab))(bZ:List (Sh.T ae))(b3 b4 b5:List Int):Option (TL zb.σs⊕Out za):=
 br (iL t8 t2)
 (
  ar (L4 (t1,(t2,(t8,(t8,(b0,(bN,(bS,(bT,(bU,(bV,(bW,(bX,(bZ,(b3,(b4,(b5,()))))))))))))))))) fun x0=>
  some (.inl (x0.1,(x0.2.1,((IntKind.wrap .i64 (@HAdd.hAdd (Int) (Int) (Int) _ x0.2.2.1 (1:Int))),x0.2.2.2)))))
 (
  some (.inr (b0,(bN,(bS,(bT,(bU,(bV,(bW,(bX,(bZ,(b3,(b4,(b5,()))))))))))))))
def ah8(M4:ze):HA:=bw (dT (zf M4.L)) (pL k0 e0 1 (sC M4 l0) fun d=>by kernel_rfl)
def ah6:HA:=ah8  UR
def zd:UQ:=aQ (dT (zf Hz)) NN
def ail(F0:kU)(L1:UQ)(L4:Hy)(t1 t2:Int)(b0:List (Sh.T ah))(bN:Int)(bS:List Int)(bT:List (Sh.T ae))(bU bV bW:List Int)(bX:List (Sh.T ab))(bZ:List (Sh.T ae))(b3 b4 b5:List Int):Option (Out Hv):=
 ar (L1 (t1,(t2,((IntKind.wrap .i64 (t1+(1:Int))),(b0,(bN,(bS,(bT,(bU,(bV,(bW,(bX,(bZ,(b3,(b4,(b5,())))))))))))))))) fun x0=>
 some x0
def aik(c0:ki)(M1:HA)(M4:ze):zk:=⟨gN (ail c0.F M1.L M4.L),pB Tryz.func227 53 (kB c0 k0) e0 1 (sS (sC M1 l0)) fun d=>by kernel_rfl⟩
def H4:zk:=aik kV ah6 UR
def US:H2:=H4.F
abbrev Vf:Lay:=Lt
abbrev zs:List (Ev.Ex×Lay):=[(.ret,mh)]
abbrev fY:=TL Vf.σs->Option (Out zs)
abbrev kS:=Kb 228 5 Vf 0 zs
abbrev zn:Lay:={ T:=[(0,.hd 0 ah),(1,.int .i64),(2,.int .i64),(3,.int .i64),(4,.func 146 [] [.ptr 1 0]),(18,.int .i64),(19,.int .i64),(20,.int .i64),(21,.int .i64),(22,.int .i64)],h:=gK,nx:=6 }
abbrev uQ:List (Ev.Ex×Lay):=[((.exit 8),{ T:=[(0,.hd 0 ah),(1,.int .i64),(2,.int .i64),(3,.int .i64),(4,.func 146 [] [.ptr 1 0]),(18,.int .i64),(19,.int .i64),(20,.int .i64)],h:=gK,nx:=6 })]
abbrev Vg:=TL zn.σs->Option (Out uQ)
abbrev H9:=Ld 6 220 (bp [4] (aW Tryz.f228)) zn uQ
abbrev zo:Lay:={ T:=[(0,.hd 0 ah),(14,.int .i64),(17,.int .i64)],h:=gK,nx:=6 }
abbrev zh:List (Ev.Ex×Lay):=[((.exit 6),mh)]
abbrev Vh:=TL zo.σs->Option (Out zh)
abbrev Ia:=Ld 6 220 (bp [3] (aW Tryz.f228)) zo zh
abbrev zp:Lay:={ T:=[(0,.hd 0 ah),(2,.int .i64),(4,.func 146 [] [.ptr 1 0]),(14,.int .i64),(15,.int .i64)],h:=gK,nx:=6 }
abbrev zi:List (Ev.Ex×Lay):=[((.exit 4),{ T:=[(0,.hd 0 ah),(2,.int .i64),(14,.int .i64)],h:=gK,nx:=6 })]
abbrev Vi:=TL zp.σs->Option (Out zi)
abbrev Ib:=Ld 6 220 (bp [2] (aW Tryz.f228)) zp zi
abbrev zt:Lay:={ T:=[(0,.hd 0 ah),(10,.int .i64),(13,.int .i64)],h:=gK,nx:=6 }
abbrev zl:List (Ev.Ex×Lay):=[((.exit 2),mh)]
abbrev Vt:=TL zt.σs->Option (Out zl)
abbrev Il:=Ld 6 220 (bp [1] (aW Tryz.f228)) zt zl
abbrev zu:Lay:={ T:=[(0,.hd 0 ah),(1,.int .i64),(4,.func 146 [] [.ptr 1 0]),(10,.int .i64),(11,.int .i64)],h:=gK,nx:=6 }
abbrev zm:List (Ev.Ex×Lay):=[((.exit 0),{ T:=[(0,.hd 0 ah),(1,.int .i64),(10,.int .i64)],h:=gK,nx:=6 })]
abbrev Vu:=TL zu.σs->Option (Out zm)
abbrev Im:=Ld 6 220 (bp [0] (aW Tryz.f228)) zu zm
def rO(F0:kU)(t1 t10 t11:Int)(b0:List (Sh.T ah))(bN:Int)(bS:List Int)(bT:List (Sh.T ae))(bU bV bW:List Int)(bX:List (Sh.T ab))(bZ:List (Sh.T ae))(b3 b4 b5:List Int):Option (TL zu.σs⊕Out zm):=
 br (iL t10 t11)
 (
  ai (aA (IntKind.wrap .i64 (Int.fdiv (IntKind.wrap .u64 (IntKind.wrap .i64 (t10+t11))) (HPow.hPow (2:Int) (Min.min (Int.toNat (1:Int)) 64)))) (List.length b0))<|
  ai (aA t1 (List.length b0))<|
  ar (F0 ((gt ah b0 (IntKind.wrap .i64 (Int.fdiv (IntKind.wrap .u64 (IntKind.wrap .i64 (t10+t11))) (HPow.hPow (2:Int) (Min.min (Int.toNat (1:Int)) 64))))).1,((gt ah b0 (IntKind.wrap .i64 (Int.fdiv (IntKind.wrap .u64 (IntKind.wrap .i64 (t10+t11))) (HPow.hPow (2:Int) (Min.min (Int.toNat (1:Int)) 64))))).2.1,((gt ah b0 (IntKind.wrap .i64 (Int.fdiv (IntKind.wrap .u64 (IntKind.wrap .i64 (t10+t11))) (HPow.hPow (2:Int) (Min.min (Int.toNat (1:Int)) 64))))).2.2.1,((gt ah b0 t1).1,((gt ah b0 t1).2.1,((gt ah b0 t1).2.2.1,(bN,(bS,(bT,(bU,(bV,(bW,(bX,(bZ,(b3,(b0,(b4,(b5,()))))))))))))))))))) fun x0=>
  br (iL x0.1 (0:Int))
  (
   some (.inl (t1,((IntKind.wrap .i64 ((IntKind.wrap .i64 (Int.fdiv (IntKind.wrap .u64 (IntKind.wrap .i64 (t10+t11))) (HPow.hPow (2:Int) (Min.min (Int.toNat (1:Int)) 64))))+(1:Int))),(t11,(x0.2.2.2.2.2.2.2.2.2.2.1,(x0.2.1,(x0.2.2.1,(x0.2.2.2.1,(x0.2.2.2.2.1,(x0.2.2.2.2.2.1,(x0.2.2.2.2.2.2.1,(x0.2.2.2.2.2.2.2.1,(x0.2.2.2.2.2.2.2.2.1,(x0.2.2.2.2.2.2.2.2.2.1,x0.2.2.2.2.2.2.2.2.2.2.2)))))))))))))))
  (
   some (.inl (t1,(t10,((IntKind.wrap .i64 (Int.fdiv (IntKind.wrap .u64 (IntKind.wrap .i64 (t10+t11))) (HPow.hPow (2:Int) (Min.min (Int.toNat (1:Int)) 64)))),(x0.2.2.2.2.2.2.2.2.2.2.1,(x0.2.1,(x0.2.2.1,(x0.2.2.2.1,(x0.2.2.2.2.1,(x0.2.2.2.2.2.1,(x0.2.2.2.2.2.2.1,(x0.2.2.2.2.2.2.2.1,(x0.2.2.2.2.2.2.2.2.1,(x0.2.2.2.2.2.2.2.2.2.1,x0.2.2.2.2.2.2.2.2.2.2.2))))))))))))))))
 (
  some (.inr (t1,(t10,(b0,(bN,(bS,(bT,(bU,(bV,(bW,(bX,(bZ,(b3,(b4,(b5,()))))))))))))))))
def aiH(c0:ki) :Im:=bw (dT (rO c0.F)) (pL (kB c0 k0) e0 1 l0 fun d=>by kernel_rfl)
def aiF(s:kS):Im:=aiH kV
def Vv(F:fY):Vu:=aQ (fun d=>rO jr  d.1 d.2.1 d.2.2.1 d.2.2.2.1 d.2.2.2.2.1 d.2.2.2.2.2.1 d.2.2.2.2.2.2.1 d.2.2.2.2.2.2.2.1 d.2.2.2.2.2.2.2.2.1 d.2.2.2.2.2.2.2.2.2.1 d.2.2.2.2.2.2.2.2.2.2.1 d.2.2.2.2.2.2.2.2.2.2.2.1 d.2.2.2.2.2.2.2.2.2.2.2.2.1 d.2.2.2.2.2.2.2.2.2.2.2.2.2.1 d.2.2.2.2.2.2.2.2.2.2.2.2.2.2.1) NN
def zB(t10 t13:Int)(b0:List (Sh.T ah))(bN:Int)(bS:List Int)(bT:List (Sh.T ae))(bU bV bW:List Int)(bX:List (Sh.T ab))(bZ:List (Sh.T ae))(b3 b4 b5:List Int):Option (TL zt.σs⊕Out zl):=
 br (iL t13 (IntKind.wrap .i64 (t10-(1:Int))))
 (
  ai (aA (IntKind.wrap .i64 (t13+(1:Int))) (List.length b0))<|
  ai (aA t13 (List.length b0))<|
  ai (aA t13 (List.length b0))<|
  ai (aA (IntKind.wrap .i64 (t13+(1:Int))) (List.length (List.set b0 (Int.toNat t13) ((gt ah b0 (IntKind.wrap .i64 (t13+(1:Int)))).1,((gt ah b0 (IntKind.wrap .i64 (t13+(1:Int)))).2.1,((gt ah b0 (IntKind.wrap .i64 (t13+(1:Int)))).2.2.1,()))))))<|
  ai (iQ t13 t13)<|
  ai (iQ (IntKind.wrap .i64 (t13+(1:Int))) (IntKind.wrap .i64 (t13+(1:Int))))<|
  some (.inl (t10,((IntKind.wrap .i64 (t13+(1:Int))),((List.set (List.set b0 (Int.toNat t13) ((gt ah b0 (IntKind.wrap .i64 (t13+(1:Int)))).1,((gt ah b0 (IntKind.wrap .i64 (t13+(1:Int)))).2.1,((gt ah b0 (IntKind.wrap .i64 (t13+(1:Int)))).2.2.1,())))) (Int.toNat (IntKind.wrap .i64 (t13+(1:Int)))) ((gt ah b0 t13).1,((gt ah b0 t13).2.1,((gt ah b0 t13).2.2.1,())))),(bN,(bS,(bT,(bU,(bV,(bW,(bX,(bZ,(b3,(b4,(b5,()))))))))))))))))
 (
  some (.inr (b0,(bN,(bS,(bT,(bU,(bV,(bW,(bX,(bZ,(b3,(b4,(b5,()))))))))))))))
def aiG  :Il:=bw (gN zB) (pL k0 e0 1 l0 fun d=>by kernel_rfl)
def aiE(s:kS):Il:=aiG
def Ij(F:fY):Vt:=aQ (fun d=>zB   d.1 d.2.1 d.2.2.1 d.2.2.2.1 d.2.2.2.2.1 d.2.2.2.2.2.1 d.2.2.2.2.2.2.1 d.2.2.2.2.2.2.2.1 d.2.2.2.2.2.2.2.2.1 d.2.2.2.2.2.2.2.2.2.1 d.2.2.2.2.2.2.2.2.2.2.1 d.2.2.2.2.2.2.2.2.2.2.2.1 d.2.2.2.2.2.2.2.2.2.2.2.2.1 d.2.2.2.2.2.2.2.2.2.2.2.2.2.1) NN
def rN(F0:kU)(t2 t14 t15:Int)(b0:List (Sh.T ah))(bN:Int)(bS:List Int)(bT:List (Sh.T ae))(bU bV bW:List Int)(bX:List (Sh.T ab))(bZ:List (Sh.T ae))(b3 b4 b5:List Int):Option (TL zp.σs⊕Out zi):=
 br (iL t14 t15)
 (
  ai (aA t2 (List.length b0))<|
  ai (aA (IntKind.wrap .i64 (Int.fdiv (IntKind.wrap .u64 (IntKind.wrap .i64 (t14+t15))) (HPow.hPow (2:Int) (Min.min (Int.toNat (1:Int)) 64)))) (List.length b0))<|
  ar (F0 ((gt ah b0 t2).1,((gt ah b0 t2).2.1,((gt ah b0 t2).2.2.1,((gt ah b0 (IntKind.wrap .i64 (Int.fdiv (IntKind.wrap .u64 (IntKind.wrap .i64 (t14+t15))) (HPow.hPow (2:Int) (Min.min (Int.toNat (1:Int)) 64))))).1,((gt ah b0 (IntKind.wrap .i64 (Int.fdiv (IntKind.wrap .u64 (IntKind.wrap .i64 (t14+t15))) (HPow.hPow (2:Int) (Min.min (Int.toNat (1:Int)) 64))))).2.1,((gt ah b0 (IntKind.wrap .i64 (Int.fdiv (IntKind.wrap .u64 (IntKind.wrap .i64 (t14+t15))) (HPow.hPow (2:Int) (Min.min (Int.toNat (1:Int)) 64))))).2.2.1,(bN,(bS,(bT,(bU,(bV,(bW,(bX,(bZ,(b3,(b0,(b4,(b5,()))))))))))))))))))) fun x0=>
  br (Bool.not (iL x0.1 (0:Int)))
  (
   some (.inl (t2,((IntKind.wrap .i64 ((IntKind.wrap .i64 (Int.fdiv (IntKind.wrap .u64 (IntKind.wrap .i64 (t14+t15))) (HPow.hPow (2:Int) (Min.min (Int.toNat (1:Int)) 64))))+(1:Int))),(t15,(x0.2.2.2.2.2.2.2.2.2.2.1,(x0.2.1,(x0.2.2.1,(x0.2.2.2.1,(x0.2.2.2.2.1,(x0.2.2.2.2.2.1,(x0.2.2.2.2.2.2.1,(x0.2.2.2.2.2.2.2.1,(x0.2.2.2.2.2.2.2.2.1,(x0.2.2.2.2.2.2.2.2.2.1,x0.2.2.2.2.2.2.2.2.2.2.2)))))))))))))))
  (
   some (.inl (t2,(t14,((IntKind.wrap .i64 (Int.fdiv (IntKind.wrap .u64 (IntKind.wrap .i64 (t14+t15))) (HPow.hPow (2:Int) (Min.min (Int.toNat (1:Int)) 64)))),(x0.2.2.2.2.2.2.2.2.2.2.1,(x0.2.1,(x0.2.2.1,(x0.2.2.2.1,(x0.2.2.2.2.1,(x0.2.2.2.2.2.1,(x0.2.2.2.2.2.2.1,(x0.2.2.2.2.2.2.2.1,(x0.2.2.2.2.2.2.2.2.1,(x0.2.2.2.2.2.2.2.2.2.1,x0.2.2.2.2.2.2.2.2.2.2.2))))))))))))))))
 (
  some (.inr (t2,(t14,(b0,(bN,(bS,(bT,(bU,(bV,(bW,(bX,(bZ,(b3,(b4,(b5,()))))))))))))))))
def aiC(c0:ki) :Ib:=bw (dT (rN c0.F)) (pL (kB c0 k0) e0 1 l0 fun d=>by kernel_rfl)
def aiz(s:kS):Ib:=aiC kV
def Vj(F:fY):Vi:=aQ (fun d=>rN jr  d.1 d.2.1 d.2.2.1 d.2.2.2.1 d.2.2.2.2.1 d.2.2.2.2.2.1 d.2.2.2.2.2.2.1 d.2.2.2.2.2.2.2.1 d.2.2.2.2.2.2.2.2.1 d.2.2.2.2.2.2.2.2.2.1 d.2.2.2.2.2.2.2.2.2.2.1 d.2.2.2.2.2.2.2.2.2.2.2.1 d.2.2.2.2.2.2.2.2.2.2.2.2.1 d.2.2.2.2.2.2.2.2.2.2.2.2.2.1 d.2.2.2.2.2.2.2.2.2.2.2.2.2.2.1) NN
def zw(t14 t17:Int)(b0:List (Sh.T ah))(bN:Int)(bS:List Int)(bT:List (Sh.T ae))(bU bV bW:List Int)(bX:List (Sh.T ab))(bZ:List (Sh.T ae))(b3 b4 b5:List Int):Option (TL zo.σs⊕Out zh):=
 br (iL t14 t17)
 (
  ai (aA (IntKind.wrap .i64 (t17-(1:Int))) (List.length b0))<|
  ai (aA t17 (List.length b0))<|
  ai (aA t17 (List.length b0))<|
  ai (aA (IntKind.wrap .i64 (t17-(1:Int))) (List.length (List.set b0 (Int.toNat t17) ((gt ah b0 (IntKind.wrap .i64 (t17-(1:Int)))).1,((gt ah b0 (IntKind.wrap .i64 (t17-(1:Int)))).2.1,((gt ah b0 (IntKind.wrap .i64 (t17-(1:Int)))).2.2.1,()))))))<|
  ai (iQ t17 t17)<|
  ai (iQ (IntKind.wrap .i64 (t17-(1:Int))) (IntKind.wrap .i64 (t17-(1:Int))))<|
  some (.inl (t14,((IntKind.wrap .i64 (t17-(1:Int))),((List.set (List.set b0 (Int.toNat t17) ((gt ah b0 (IntKind.wrap .i64 (t17-(1:Int)))).1,((gt ah b0 (IntKind.wrap .i64 (t17-(1:Int)))).2.1,((gt ah b0 (IntKind.wrap .i64 (t17-(1:Int)))).2.2.1,())))) (Int.toNat (IntKind.wrap .i64 (t17-(1:Int)))) ((gt ah b0 t17).1,((gt ah b0 t17).2.1,((gt ah b0 t17).2.2.1,())))),(bN,(bS,(bT,(bU,(bV,(bW,(bX,(bZ,(b3,(b4,(b5,()))))))))))))))))
 (
  some (.inr (b0,(bN,(bS,(bT,(bU,(bV,(bW,(bX,(bZ,(b3,(b4,(b5,()))))))))))))))
def aiB  :Ia:=bw (gN zw) (pL k0 e0 1 l0 fun d=>by kernel_rfl)
def aiy(s:kS):Ia:=aiB
def H8(F:fY):Vh:=aQ (fun d=>zw   d.1 d.2.1 d.2.2.1 d.2.2.2.1 d.2.2.2.2.1 d.2.2.2.2.2.1 d.2.2.2.2.2.2.1 d.2.2.2.2.2.2.2.1 d.2.2.2.2.2.2.2.2.1 d.2.2.2.2.2.2.2.2.2.1 d.2.2.2.2.2.2.2.2.2.2.1 d.2.2.2.2.2.2.2.2.2.2.2.1 d.2.2.2.2.2.2.2.2.2.2.2.2.1 d.2.2.2.2.2.2.2.2.2.2.2.2.2.1) NN
def rM(F0:kU)(t1 t2 t3 t18 t19 t20 t21 t22:Int)(b0:List (Sh.T ah))(bN:Int)(bS:List Int)(bT:List (Sh.T ae))(bU bV bW:List Int)(bX:List (Sh.T ab))(bZ:List (Sh.T ae))(b3 b4 b5:List Int):Option (TL zn.σs⊕Out uQ):=
 br (iL t20 t21)
 (
  ai (aA (IntKind.wrap .i64 (t22-(IntKind.wrap .i64 (Int.fdiv (IntKind.wrap .u64 (IntKind.wrap .i64 (t20+t21))) (HPow.hPow (2:Int) (Min.min (Int.toNat (1:Int)) 64)))))) (List.length b0))<|
  ai (aA (IntKind.wrap .i64 (Int.fdiv (IntKind.wrap .u64 (IntKind.wrap .i64 (t20+t21))) (HPow.hPow (2:Int) (Min.min (Int.toNat (1:Int)) 64)))) (List.length b0))<|
  ar (F0 ((gt ah b0 (IntKind.wrap .i64 (t22-(IntKind.wrap .i64 (Int.fdiv (IntKind.wrap .u64 (IntKind.wrap .i64 (t20+t21))) (HPow.hPow (2:Int) (Min.min (Int.toNat (1:Int)) 64))))))).1,((gt ah b0 (IntKind.wrap .i64 (t22-(IntKind.wrap .i64 (Int.fdiv (IntKind.wrap .u64 (IntKind.wrap .i64 (t20+t21))) (HPow.hPow (2:Int) (Min.min (Int.toNat (1:Int)) 64))))))).2.1,((gt ah b0 (IntKind.wrap .i64 (t22-(IntKind.wrap .i64 (Int.fdiv (IntKind.wrap .u64 (IntKind.wrap .i64 (t20+t21))) (HPow.hPow (2:Int) (Min.min (Int.toNat (1:Int)) 64))))))).2.2.1,((gt ah b0 (IntKind.wrap .i64 (Int.fdiv (IntKind.wrap .u64 (IntKind.wrap .i64 (t20+t21))) (HPow.hPow (2:Int) (Min.min (Int.toNat (1:Int)) 64))))).1,((gt ah b0 (IntKind.wrap .i64 (Int.fdiv (IntKind.wrap .u64 (IntKind.wrap .i64 (t20+t21))) (HPow.hPow (2:Int) (Min.min (Int.toNat (1:Int)) 64))))).2.1,((gt ah b0 (IntKind.wrap .i64 (Int.fdiv (IntKind.wrap .u64 (IntKind.wrap .i64 (t20+t21))) (HPow.hPow (2:Int) (Min.min (Int.toNat (1:Int)) 64))))).2.2.1,(bN,(bS,(bT,(bU,(bV,(bW,(bX,(bZ,(b3,(b0,(b4,(b5,()))))))))))))))))))) fun x0=>
  br (Bool.not (iL x0.1 (0:Int)))
  (
   some (.inl (t1,(t2,(t3,(t18,(t19,((IntKind.wrap .i64 ((IntKind.wrap .i64 (Int.fdiv (IntKind.wrap .u64 (IntKind.wrap .i64 (t20+t21))) (HPow.hPow (2:Int) (Min.min (Int.toNat (1:Int)) 64))))+(1:Int))),(t21,(t22,(x0.2.2.2.2.2.2.2.2.2.2.1,(x0.2.1,(x0.2.2.1,(x0.2.2.2.1,(x0.2.2.2.2.1,(x0.2.2.2.2.2.1,(x0.2.2.2.2.2.2.1,(x0.2.2.2.2.2.2.2.1,(x0.2.2.2.2.2.2.2.2.1,(x0.2.2.2.2.2.2.2.2.2.1,x0.2.2.2.2.2.2.2.2.2.2.2))))))))))))))))))))
  (
   some (.inl (t1,(t2,(t3,(t18,(t19,(t20,((IntKind.wrap .i64 (Int.fdiv (IntKind.wrap .u64 (IntKind.wrap .i64 (t20+t21))) (HPow.hPow (2:Int) (Min.min (Int.toNat (1:Int)) 64)))),(t22,(x0.2.2.2.2.2.2.2.2.2.2.1,(x0.2.1,(x0.2.2.1,(x0.2.2.2.1,(x0.2.2.2.2.1,(x0.2.2.2.2.2.1,(x0.2.2.2.2.2.2.1,(x0.2.2.2.2.2.2.2.1,(x0.2.2.2.2.2.2.2.2.1,(x0.2.2.2.2.2.2.2.2.2.1,x0.2.2.2.2.2.2.2.2.2.2.2)))))))))))))))))))))
 (
  some (.inr (t1,(t2,(t3,(t18,(t19,(t20,(b0,(bN,(bS,(bT,(bU,(bV,(bW,(bX,(bZ,(b3,(b4,(b5,()))))))))))))))))))))
def aiA(c0:ki) :H9:=bw (nD (rM c0.F)) (pL (kB c0 k0) e0 1 l0 fun d=>by kernel_rfl)
def aix(s:kS):H9:=aiA kV
def zv(F:fY):Vg:=aQ (fun d=>rM jr  d.1 d.2.1 d.2.2.1 d.2.2.2.1 d.2.2.2.2.1 d.2.2.2.2.2.1 d.2.2.2.2.2.2.1 d.2.2.2.2.2.2.2.1 d.2.2.2.2.2.2.2.2.1 d.2.2.2.2.2.2.2.2.2.1 d.2.2.2.2.2.2.2.2.2.2.1 d.2.2.2.2.2.2.2.2.2.2.2.1 d.2.2.2.2.2.2.2.2.2.2.2.2.1 d.2.2.2.2.2.2.2.2.2.2.2.2.2.1 d.2.2.2.2.2.2.2.2.2.2.2.2.2.2.1 d.2.2.2.2.2.2.2.2.2.2.2.2.2.2.2.1 d.2.2.2.2.2.2.2.2.2.2.2.2.2.2.2.2.1 d.2.2.2.2.2.2.2.2.2.2.2.2.2.2.2.2.2.1 d.2.2.2.2.2.2.2.2.2.2.2.2.2.2.2.2.2.2.1 d.2.2.2.2.2.2.2.2.2.2.2.2.2.2.2.2.2.2.2.1) NN
abbrev aZ:=ah.T
abbrev i6:=TL [.int .i64,.sl (.int .i64),.sl ae,.sl (.int .i64),.sl (.int .i64),.sl (.int .i64),.sl ab,.sl ae,.sl (.int .i64),.sl (.int .u8),.sl (.int .i64)]
abbrev pY:=Option (Out zs)
def sF(F1:fY)(b mid e:Int)(x:List aZ×i6):pY:=br (iL mid e) (br (aR true (iL e b) false) (ar (F1 (mid,(e,(b,(x.1,x.2))))) fun y=>some (y.1,y.2)) (some x)) (some x)
def vI(F1:fY)(a b mid s e:Int)(x:List aZ×i6):pY:=br (iL a s) (br (aR true (iL s mid) false) (ar (F1 (a,(s,(mid,(x.1,x.2))))) fun y=>sF F1 b mid e y) (sF F1 b mid e x)) (sF F1 b mid e x)
def Lp(F2:AO)(F1:fY)(a m b mid s e:Int)(x:List aZ×i6):pY:=br (iL s m) (br (aR true (iL m e) false) (ar (F2 (s,(m,(e,(x.1,x.2))))) fun y=>vI F1 a b mid s e y) (vI F1 a b mid s e x)) (vI F1 a b mid s e x)
def Y5(F2:AO)(F1:fY)(x0:Out uQ):pY:=Lp F2 F1 x0.1 x0.2.1 x0.2.2.1 x0.2.2.2.1 x0.2.2.2.2.2.1 (IntKind.wrap .i64 (@HSub.hSub (Int) (Int) (Int) _ x0.2.2.2.2.1 x0.2.2.2.2.2.1)) x0.2.2.2.2.2.2
def uP(F0:kU)(F1:fY)(F2:AO)(L3:Vu)(L9:Vt)(L15:Vi)(L21:Vh)(L33:Vg)(t1 t2 t3:Int)(b0:List (Sh.T ah))(bN:Int)(bS:List Int)(bT:List (Sh.T ae))(bU bV bW:List Int)(bX:List (Sh.T ab))(bZ:List (Sh.T ae))(b3 b4 b5:List Int):Option (Out zs):=
 br (iQ (IntKind.wrap .i64 (t2-t1)) (1:Int))
 (
  ar (L3 (t1,(t2,(t3,(b0,(bN,(bS,(bT,(bU,(bV,(bW,(bX,(bZ,(b3,(b4,(b5,())))))))))))))))) fun x0=>
  ar (L9 (x0.2.1,(x0.1,x0.2.2))) fun x1=>
  some x1)
 (
  br (iQ (IntKind.wrap .i64 (t3-t2)) (1:Int))
  (
   ar (L15 (t2,(t1,(t2,(b0,(bN,(bS,(bT,(bU,(bV,(bW,(bX,(bZ,(b3,(b4,(b5,())))))))))))))))) fun x0=>
   ar (L21 (x0.2.1,(x0.1,x0.2.2))) fun x1=>
   some x1)
  (
   br (iL (IntKind.wrap .i64 (Int.fdiv (IntKind.wrap .u64 (IntKind.wrap .i64 (t1+t3))) (HPow.hPow (2:Int) (Min.min (Int.toNat (1:Int)) 64)))) t2)
   (
    ar (L33 (t1,(t2,(t3,((IntKind.wrap .i64 (Int.fdiv (IntKind.wrap .u64 (IntKind.wrap .i64 (t1+t3))) (HPow.hPow (2:Int) (Min.min (Int.toNat (1:Int)) 64)))),((IntKind.wrap .i64 ((IntKind.wrap .i64 (Int.fdiv (IntKind.wrap .u64 (IntKind.wrap .i64 (t1+t3))) (HPow.hPow (2:Int) (Min.min (Int.toNat (1:Int)) 64))))+t2)),((IntKind.wrap .i64 ((IntKind.wrap .i64 ((IntKind.wrap .i64 (Int.fdiv (IntKind.wrap .u64 (IntKind.wrap .i64 (t1+t3))) (HPow.hPow (2:Int) (Min.min (Int.toNat (1:Int)) 64))))+t2))-t3)),((IntKind.wrap .i64 (Int.fdiv (IntKind.wrap .u64 (IntKind.wrap .i64 (t1+t3))) (HPow.hPow (2:Int) (Min.min (Int.toNat (1:Int)) 64)))),((IntKind.wrap .i64 ((IntKind.wrap .i64 ((IntKind.wrap .i64 (Int.fdiv (IntKind.wrap .u64 (IntKind.wrap .i64 (t1+t3))) (HPow.hPow (2:Int) (Min.min (Int.toNat (1:Int)) 64))))+t2))-(1:Int))),(b0,(bN,(bS,(bT,(bU,(bV,(bW,(bX,(bZ,(b3,(b4,(b5,()))))))))))))))))))))) fun x0=>Y5 F2 F1 x0)
   (
    ar (L33 (t1,(t2,(t3,((IntKind.wrap .i64 (Int.fdiv (IntKind.wrap .u64 (IntKind.wrap .i64 (t1+t3))) (HPow.hPow (2:Int) (Min.min (Int.toNat (1:Int)) 64)))),((IntKind.wrap .i64 ((IntKind.wrap .i64 (Int.fdiv (IntKind.wrap .u64 (IntKind.wrap .i64 (t1+t3))) (HPow.hPow (2:Int) (Min.min (Int.toNat (1:Int)) 64))))+t2)),(t1,(t2,((IntKind.wrap .i64 ((IntKind.wrap .i64 ((IntKind.wrap .i64 (Int.fdiv (IntKind.wrap .u64 (IntKind.wrap .i64 (t1+t3))) (HPow.hPow (2:Int) (Min.min (Int.toNat (1:Int)) 64))))+t2))-(1:Int))),(b0,(bN,(bS,(bT,(bU,(bV,(bW,(bX,(bZ,(b3,(b4,(b5,()))))))))))))))))))))) fun x0=>Y5 F2 F1 x0)))
def aiM(c0:ki)(c1:kS)(c2:IF)(M3:Im)(M9:Il)(M15:Ib)(M21:Ia)(M33:H9):kS:=⟨dT (uP c0.F c1.F c2.F M3.L M9.L M15.L M21.L M33.L),pB Tryz.func228 220 (kB c0 (kB c1 (kB c2 k0))) e0 1 (sS (sC M3 (sC M9 (sC M15 (sC M21 (sC M33 l0)))))) fun d=>by kernel_rfl⟩
def oN:Nat->kS
 |0=>mk0 Tryz.func228 (by kernel_rfl) (by kernel_rfl)|k+1=>aiM kV (oN k) VP (aiF (oN k)) (aiE (oN k)) (aiz (oN k)) (aiy (oN k)) (aix (oN k))
def iV(k:Nat):fY:=(oN k).F
def zG:kS:=oN NN
def Ik:fY:=zG.F
abbrev Vx:Lay:={ T:=[(0,.hd 0 ah),(1,.int .i64),(2,.func 146 [] [.ptr 1 0])],h:=gK,nx:=6 }
abbrev Iq:List (Ev.Ex×Lay):=[(.ret,mh)]
abbrev VN:=TL Vx.σs->Option (Out Iq)
abbrev IE:=Kb 197 3 Vx 0 Iq
abbrev zE:Lay:={ T:=[(0,.hd 0 ah),(1,.int .i64),(2,.func 146 [] [.ptr 1 0]),(6,.int .i64)],h:=gK,nx:=6 }
abbrev zz:List (Ev.Ex×Lay):=[((.exit 2),mh)]
abbrev VD:=TL zE.σs->Option (Out zz)
abbrev Iw:=Ld 6 63 (bp [1] (aW Tryz.f197)) zE zz
abbrev zD:Lay:=Zg
abbrev zy:List (Ev.Ex×Lay):=[((.exit 4),Zi)]
abbrev Iv:=TL zD.σs->Option (Out zy)
abbrev zI:=Ld 6 63 (bp [1,0] (aW Tryz.f197)) zD zy
abbrev zF:Lay:=Zg
abbrev zA:List (Ev.Ex×Lay):=[((.exit 0),Zi)]
abbrev VE:=TL zF.σs->Option (Out zA)
abbrev Ix:=Ld 6 63 (bp [0] (aW Tryz.f197)) zF zA
def IA(F2:H2)(t1 t6 t7 t8:Int)(b0:List (Sh.T ah))(bN:Int)(bS:List Int)(bT:List (Sh.T ae))(bU bV bW:List Int)(bX:List (Sh.T ab))(bZ:List (Sh.T ae))(b3 b4 b5:List Int):Option (TL zF.σs⊕Out zA):=
 br (iE t8 t1)
 (
  ar (F2 (t7,(t8,(b0,(bN,(bS,(bT,(bU,(bV,(bW,(bX,(bZ,(b3,(b4,(b5,()))))))))))))))) fun x0=>
  some (.inl (t1,(t6,(t8,((IntKind.wrap .i64 (t8+t6)),x0))))))
 (
  some (.inr (t1,(t6,(t7,(b0,(bN,(bS,(bT,(bU,(bV,(bW,(bX,(bZ,(b3,(b4,(b5,())))))))))))))))))
def aiR(c2:zk) :Ix:=bw (u16 (IA c2.F)) (pL (kB c2 k0) e0 1 l0 fun d=>by kernel_rfl)
def aiO:Ix:=aiR H4
def VH:VE:=aQ (u16 (IA US)) NN
def Iy(F1:fY)(t1 t6 t7 t8:Int)(b0:List (Sh.T ah))(bN:Int)(bS:List Int)(bT:List (Sh.T ae))(bU bV bW:List Int)(bX:List (Sh.T ab))(bZ:List (Sh.T ae))(b3 b4 b5:List Int):Option (TL zD.σs⊕Out zy):=
 br (iE t8 t1)
 (
  ar (F1 (t7,((IntKind.wrap .i64 (t7+t6)),(t8,(b0,(bN,(bS,(bT,(bU,(bV,(bW,(bX,(bZ,(b3,(b4,(b5,())))))))))))))))) fun x0=>
  some (.inl (t1,(t6,(t8,((IntKind.wrap .i64 (t8+(IntKind.wrap .i64 ((2:Int)*t6)))),x0))))))
 (
  some (.inr (t1,(t6,(t7,(b0,(bN,(bS,(bT,(bU,(bV,(bW,(bX,(bZ,(b3,(b4,(b5,())))))))))))))))))
def aiP(c1:kS) :zI:=bw (u16 (Iy c1.F)) (pL (kB c1 k0) e0 1 l0 fun d=>by kernel_rfl)
def VF:zI:=aiP zG
def zH:Iv:=aQ (u16 (Iy Ik)) NN
def Iz(F1:fY)(L9:Iv)(t1 t6:Int)(b0:List (Sh.T ah))(bN:Int)(bS:List Int)(bT:List (Sh.T ae))(bU bV bW:List Int)(bX:List (Sh.T ab))(bZ:List (Sh.T ae))(b3 b4 b5:List Int):Option (TL zE.σs⊕Out zz):=
 br (iL t6 t1)
 (
  ar (L9 (t1,(t6,((0:Int),((IntKind.wrap .i64 ((2:Int)*t6)),(b0,(bN,(bS,(bT,(bU,(bV,(bW,(bX,(bZ,(b3,(b4,(b5,()))))))))))))))))) fun x0=>
  br (iL (IntKind.wrap .i64 (@HAdd.hAdd (Int) (Int) (Int) _ x0.2.2.1 x0.2.1)) x0.1)
  (
   ar (F1 (x0.2.2.1,((IntKind.wrap .i64 (@HAdd.hAdd (Int) (Int) (Int) _ x0.2.2.1 x0.2.1)),(x0.1,x0.2.2.2)))) fun x1=>
   some (.inl (x0.1,((IntKind.wrap .i64 (@HMul.hMul (Int) (Int) (Int) _ x0.2.1 (2:Int))),x1))))
  (
   some (.inl (x0.1,((IntKind.wrap .i64 (@HMul.hMul (Int) (Int) (Int) _ x0.2.1 (2:Int))),x0.2.2.2)))))
 (
  some (.inr (b0,(bN,(bS,(bT,(bU,(bV,(bW,(bX,(bZ,(b3,(b4,(b5,()))))))))))))))
def aiQ(c1:kS)(M9:zI):Iw:=bw (gN (Iz c1.F M9.L)) (pL (kB c1 k0) e0 1 (sC M9 l0) fun d=>by kernel_rfl)
def aiN:Iw:=aiQ zG VF
def VG:VD:=aQ (gN (Iz Ik zH)) NN
def aiZ(F0:kU)(F1:fY)(F2:H2)(L2:VE)(L7:VD)(L9:Iv)(t1:Int)(b0:List (Sh.T ah))(bN:Int)(bS:List Int)(bT:List (Sh.T ae))(bU bV bW:List Int)(bX:List (Sh.T ab))(bZ:List (Sh.T ae))(b3 b4 b5:List Int):Option (Out Iq):=
 ar (L2 (t1,((20:Int),((0:Int),((20:Int),(b0,(bN,(bS,(bT,(bU,(bV,(bW,(bX,(bZ,(b3,(b4,(b5,()))))))))))))))))) fun x0=>
 ar (F2 (x0.2.2.1,(x0.1,x0.2.2.2))) fun x1=>
 ar (L7 (x0.1,(x0.2.1,x1))) fun x2=>
 some x2
def aiY(c0:ki)(c1:kS)(c2:zk)(M2:Ix)(M7:Iw)(M9:zI):IE:=⟨nC (aiZ c0.F c1.F c2.F M2.L M7.L M9.L),pB Tryz.func197 63 (kB c0 (kB c1 (kB c2 k0))) e0 1 (sS (sC M2 (sC M7 l0))) fun d=>by kernel_rfl⟩
def VO:IE:=aiY kV zG H4 aiO aiN VF
def aiS:VN:=VO.F
abbrev Uz:Lay:={ T:=[(0,.hd 0 ah),(1,.func 146 [] [.ptr 1 0])],h:=gK,nx:=6 }
abbrev Hm:List (Ev.Ex×Lay):=[(.ret,mh)]
abbrev UA:=TL Uz.σs->Option (Out Hm)
abbrev Hq:=Kb 145 2 Uz 0 Hm
def ahW(F0:kU)(F1:VN)(b0:List (Sh.T ah))(bN:Int)(bS:List Int)(bT:List (Sh.T ae))(bU bV bW:List Int)(bX:List (Sh.T ab))(bZ:List (Sh.T ae))(b3 b4 b5:List Int):Option (Out Hm):=
 ar (F1 ((Int.ofNat (List.length b0)),(b0,(bN,(bS,(bT,(bU,(bV,(bW,(bX,(bZ,(b3,(b4,(b5,())))))))))))))) fun x0=>
 some x0
def ahV(c0:ki)(c1:IE) :Hq:=⟨jW (ahW c0.F c1.F),pB Tryz.func145 9 (kB c0 (kB c1 k0)) e0 1 (sS l0) fun d=>by kernel_rfl⟩
def UB:Hq:=ahV kV VO
def ahU:UA:=UB.F
abbrev XL:List Sh:=[bf]
abbrev Kg:List Sh:=[(.sl ah),.bool]
abbrev XW:=TL XL->Option (TL Kg)
abbrev Kt:=Kd 78 XL Kg
def akG(F0:UA)(F1:kU)(F2:Ky)(a0:Sh.T bf):Option (TL Kg):=
 ar (F2 a0) fun x0=>
 (match x0 with
 |.inl x1=>
  ai (Bool.not (iQ x1.1 (0:Int)))<|
  some ([],(false,()))
 |.inr x1=>
  br (Bool.not (iQ x1.1 (0:Int)))
  (
   some ([],(false,())))
  (
   ar (F0 (x1.2.2.2.2.2.2.2.2.2.2.1,(x1.2.1,(x1.2.2.1,(x1.2.2.2.1,(x1.2.2.2.2.1,(x1.2.2.2.2.2.1,(x1.2.2.2.2.2.2.1,(x1.2.2.2.2.2.2.2.1,(x1.2.2.2.2.2.2.2.2.1,(x1.2.2.2.2.2.2.2.2.2.1,x1.2.2.2.2.2.2.2.2.2.2.2))))))))))) fun x2=>
   some (x2.1,(true,())))
 )
def akF(c0:Hq)(c1:ki)(c2:Bs) :Kt:=⟨u1 (akG c0.F c1.F c2.F),pD Tryz.func78 23 (kB c0 (kB c1 (kB c2 k0))) e0 1 (sS l0) fun d=>by kernel_rfl⟩
def XX:Kt:=akF UB kV Kz
def akv:XW:=XX.F
abbrev Yi:List Sh:=[(.int .i64)]
abbrev KB:List Sh:=[.bool]
abbrev Yq:=TL Yi->Option (TL KB)
abbrev KH:=Kd 149 Yi KB
def KG(a0:Int):Option (TL KB):=some ((iQ (lQ .i64 a0 (1:Int)) (1:Int)),())
def alb  :KH:=⟨u1 KG,pD Tryz.func149 6 k0 e0 1 (sS l0) fun d=>by kernel_rfl⟩
def Yr:KH:=alb
def Yj:Yq:=Yr.F
abbrev X8:List Sh:=[(.int .i64),(.sl .bool)]
abbrev Br:List Sh:=[.bool]
abbrev l6:=TL X8->Option (TL Br)
abbrev kW:=Kd 80 X8 Br
def KC(F0:Yq)(F1:Bt)(a0:Int)(a1:List Bool):Option (TL Br):=
 br (iL a0 (0:Int))
 (
  some (false,()))
 (
  ar (F1 (a0,())) fun x0=>
  ar (F0 (a0,())) fun x1=>
  br (iL (0:Int) x0.1)
  (
   br (aR true (iL x0.1 (Int.ofNat (List.length a1))) false)
   (
    ai (aA x0.1 (List.length a1))<|
    some ((Bool.not (@decide _ (Bool.decEq x1.1 (aR true (gt .bool a1 x0.1) false)))),()))
   (
    some ((Bool.not (@decide _ (Bool.decEq x1.1 false))),())))
  (
   some ((Bool.not (@decide _ (Bool.decEq x1.1 false))),())))
def ak1(c0:KH)(c1:vl) :kW:=⟨u2 (KC c0.F c1.F),pD Tryz.func80 27 (kD c0 (kD c1 k0)) e0 1 (sS l0) fun d=>by kernel_rfl⟩
def l8:kW:=ak1 Yr Bu
def js:l6:=l8.F
abbrev A5:Lay:={ T:=[(1,.fz .bool),(4,.int .u64),(11,.fz (.int .i64)),(12,.int .i64),(13,.int .i64)],h:=[],nx:=0 }
abbrev AZ:List (Ev.Ex×Lay):=[((.exit 0),{ T:=[(4,.int .u64)],h:=[],nx:=0 })]
abbrev XH:=TL A5.σs->Option (Out AZ)
abbrev J4:=Ld 0 27 (bp [0] (aW Tryz.f81)) A5 AZ
def Bg(F0:l6)(t1:List Bool)(t4:Int)(t11:List Int)(t12 t13:Int):Option (TL A5.σs⊕Out AZ):=
 br (iL t13 t12)
 (
  ai (aA t13 (List.length t11))<|
  ar (F0 ((gt (.int .i64) t11 t13),(t1,()))) fun x0=>
  br x0.1
  (
   ai (iE (0:Int) t13)<|
   some (.inl (t1,((so .u64 t4 (IntKind.wrap .u64 ((1:Int)*(HPow.hPow (2:Int) (Min.min (Int.toNat t13) 64))))),(t11,(t12,((IntKind.wrap .i64 (t13+(1:Int))),())))))))
  (
   some (.inl (t1,(t4,(t11,(t12,((IntKind.wrap .i64 (t13+(1:Int))),()))))))))
 (
  some (.inr (t4,())))
def akr(c0:kW) :J4:=bw (u5 (Bg c0.F)) (pL (kD c0 k0) e0 1 l0 fun d=>by kernel_rfl)
def akq:J4:=akr l8
def Bf:XH:=aQ (u5 (Bg js)) NN
abbrev XG:List Sh:=[(.sl (.int .i64)),(.sl .bool)]
abbrev J3:List Sh:=[(.int .u64)]
abbrev vd:=TL XG->Option (TL J3)
abbrev rZ:=Kd 81 XG J3
def Kp(F0:l6)(L2:XH)(a0:List Int)(a1:List Bool):Option (TL J3):=
 ai (both (iE (0:Int) (cN (iL (64:Int) (Int.ofNat (List.length a0))) (64:Int) (Int.ofNat (List.length a0)))) (iE (cN (iL (64:Int) (Int.ofNat (List.length a0))) (64:Int) (Int.ofNat (List.length a0))) (Int.ofNat (List.length a0))))<|
 ar (L2 (a1,((0:Int),((List.take (Int.toNat (cN (iL (64:Int) (Int.ofNat (List.length a0))) (64:Int) (Int.ofNat (List.length a0)))) a0),((Int.ofNat (List.length (List.take (Int.toNat (cN (iL (64:Int) (Int.ofNat (List.length a0))) (64:Int) (Int.ofNat (List.length a0)))) a0))),((0:Int),())))))) fun x0=>
 some (x0.1,())
def akA(c0:kW)(M2:J4):rZ:=⟨u2 (Kp c0.F M2.L),pD Tryz.func81 27 (kD c0 k0) e0 1 (sS (sC M2 l0)) fun d=>by kernel_rfl⟩
def ve:rZ:=akA l8 akq
def qd:vd:=ve.F
abbrev Bb:Lay:={ T:=[(0,.int .u64),(4,.hd 0 .bool),(7,.int .i64),(8,.int .i64)],h:=[(0,.arr .bool 4)],nx:=1 }
abbrev A7:List (Ev.Ex×Lay):=[((.exit 0),{ T:=[(4,.hd 0 .bool)],h:=[(0,.arr .bool 4)],nx:=1 })]
abbrev XP:=TL Bb.σs->Option (Out A7)
abbrev XQ:=Ld 0 21 (bp [0] (aW Tryz.f63)) Bb A7
def Bl(t0 t7 t8:Int)(b0:List Bool):Option (TL Bb.σs⊕Out A7):=
 br (iL t8 t7)
 (
  ai (iE (0:Int) t8)<|
  ai (room 1 (List.length (ap b0 ((iQ (lQ .u64 (Int.fdiv t0 (HPow.hPow (2:Int) (Min.min (Int.toNat t8) 64))) (1:Int)) (1:Int))::[]))))<|
  some (.inl (t0,(t7,((IntKind.wrap .i64 (t8+(1:Int))),((ap b0 ((iQ (lQ .u64 (Int.fdiv t0 (HPow.hPow (2:Int) (Min.min (Int.toNat t8) 64))) (1:Int)) (1:Int))::[])),()))))))
 (
  some (.inr (b0,())))
def akB  :XQ:=bw (u4 Bl) (pL k0 e0 1 l0 fun d=>by kernel_rfl)
def Kr:XP:=aQ (u4 Bl) NN
abbrev XO:List Sh:=[(.int .u64),(.int .i64)]
abbrev Kq:List Sh:=[(.sl .bool)]
abbrev nP:=TL XO->Option (TL Kq)
abbrev mO:=Kd 63 XO Kq
def Kw(F0:JQ)(L2:XP)(a0 a1:Int):Option (TL Kq):=
 ar (F0 (a1,())) fun x0=>
 ar (L2 (a0,(x0.1,((0:Int),([],()))))) fun x1=>
 some (x1.1,())
def akP(c0:AP)(M2:XQ):mO:=⟨u2 (Kw c0.F M2.L),pD Tryz.func63 21 (kD c0 k0) e0 1 (sS (sC M2 l0)) fun d=>by kernel_rfl⟩
def nR:mO:=akP JR akB
def l9:nP:=nR.F
abbrev Aw:Lay:={ T:=[(0,.fz .bool),(3,.int .u64),(4,.int .u64),(5,.int .i64)],h:=[],nx:=0 }
abbrev Ad:List (Ev.Ex×Lay):=[((.exit 0),{ T:=[(3,.int .u64)],h:=[],nx:=0 })]
abbrev W7:=TL Aw.σs->Option (Out Ad)
abbrev W8:=Ld 0 26 (bp [0] (aW Tryz.f121)) Aw Ad
def AJ(t0:List Bool)(t3 t4 t5:Int):Option (TL Aw.σs⊕Out Ad):=
 br (iL t5 (Int.ofNat (List.length t0)))
 (
  br (aR true (iL t5 (64:Int)) false)
  (
   ai (aA t5 (List.length t0))<|
   br (gt .bool t0 t5)
   (
    some (.inl (t0,((IntKind.wrap .u64 (t3+t4)),((IntKind.wrap .u64 (t4*(2:Int))),((IntKind.wrap .i64 (t5+(1:Int))),()))))))
   (
    some (.inl (t0,(t3,((IntKind.wrap .u64 (t4*(2:Int))),((IntKind.wrap .i64 (t5+(1:Int))),())))))))
  (
   some (.inr (t3,()))))
 (
  some (.inr (t3,())))
def ajJ  :W8:=bw (u4 AJ) (pL k0 e0 1 l0 fun d=>by kernel_rfl)
def Jv:W7:=aQ (u4 AJ) NN
abbrev W6:List Sh:=[(.sl .bool)]
abbrev Ju:List Sh:=[(.int .u64)]
abbrev JZ:=TL W6->Option (TL Ju)
abbrev AX:=Kd 121 W6 Ju
def JL(L3:W7)(a0:List Bool):Option (TL Ju):=
 ar (L3 (a0,((0:Int),((1:Int),((0:Int),()))))) fun x0=>
 some (x0.1,())
def ajY(M3:W8):AX:=⟨u1 (JL M3.L),pD Tryz.func121 26 k0 e0 1 (sS (sC M3 l0)) fun d=>by kernel_rfl⟩
def J0:AX:=ajY  ajJ
def JX:JZ:=J0.F
abbrev Ae:Lay:={ T:=[(0,.int .u64),(1,.int .i64),(5,.hd 0 .bool),(6,.int .i64)],h:=[(0,.arr .bool 4)],nx:=1 }
abbrev zV:List (Ev.Ex×Lay):=[((.exit 0),{ T:=[(5,.hd 0 .bool)],h:=[(0,.arr .bool 4)],nx:=1 })]
abbrev WD:=TL Ae.σs->Option (Out zV)
abbrev WE:=Ld 0 25 (bp [0] (aW Tryz.f116)) Ae zV
def AB(t0 t1 t6:Int)(b0:List Bool):Option (TL Ae.σs⊕Out zV):=
 br (iL t6 t1)
 (
  br (aR true (iL t6 (64:Int)) false)
  (
   ai (room 1 (List.length (ap b0 ((iQ (Int.tmod t0 (2:Int)) (1:Int))::[]))))<|
   some (.inl ((IntKind.wrap .u64 (Int.tdiv t0 (2:Int))),(t1,((IntKind.wrap .i64 (t6+(1:Int))),((ap b0 ((iQ (Int.tmod t0 (2:Int)) (1:Int))::[])),()))))))
  (
   some (.inr (b0,()))))
 (
  some (.inr (b0,())))
def ajs  :WE:=bw (u4 AB) (pL k0 e0 1 l0 fun d=>by kernel_rfl)
def Jj:WD:=aQ (u4 AB) NN
abbrev WC:List Sh:=[(.int .u64),(.int .i64)]
abbrev Ji:List Sh:=[(.sl .bool)]
abbrev Jw:=TL WC->Option (TL Ji)
abbrev AK:=Kd 116 WC Ji
def Jz(L3:WD)(a0 a1:Int):Option (TL Ji):=
 ar (L3 (a0,(a1,((0:Int),([],()))))) fun x0=>
 some (x0.1,())
def ajK(M3:WE):AK:=⟨u2 (Jz M3.L),pD Tryz.func116 25 k0 e0 1 (sS (sC M3 l0)) fun d=>by kernel_rfl⟩
def Jy:AK:=ajK  ajs
def IL:Jw:=Jy.F
abbrev Au:Lay:={ T:=[(0,.fz aB),(1,.int .u64),(5,.int .i64)],h:=[],nx:=0 }
abbrev uU:List (Ev.Ex×Lay):=[(.ret,{ T:=[(4,.int .u64)],h:=[],nx:=0 }),((.exit 0),{ T:=[],h:=[],nx:=0 })]
abbrev WZ:=TL Au.σs->Option (Out uU)
abbrev W5:=Ld 0 24 (bp [0] (aW Tryz.f188)) Au uU
def AH(t0:List (Sh.T aB))(t1 t5:Int):Option (TL Au.σs⊕Out uU):=
 br (iL t5 (Int.ofNat (List.length t0)))
 (
  ai (aA t5 (List.length t0))<|
  br (iQ (gt aB t0 t5).1 t1)
  (
   ai (aA t5 (List.length t0))<|
   some (.inr (.inl ((gt aB t0 t5).2.1,()))))
  (
   some (.inl (t0,(t1,((IntKind.wrap .i64 (t5+(1:Int))),()))))))
 (
  some (.inr (.inr ())))
def ajI  :W5:=bw (u3 AH) (pL k0 e0 1 l0 fun d=>by kernel_rfl)
def W2:WZ:=aQ (u3 AH) NN
abbrev WY:List Sh:=[(.sl aB),(.int .u64)]
abbrev Jt:List Sh:=[(.int .u64)]
abbrev JI:=TL WY->Option (TL Jt)
abbrev AQ:=Kd 188 WY Jt
def JK(L2:WZ)(a0:List (Sh.T aB))(a1:Int):Option (TL Jt):=
 ar (L2 (a0,(a1,((0:Int),())))) fun x0=>
 (match x0 with|.inl x1=>some (x1.1,())|.inr x1=>some ((0:Int),())
 )
def ajX(M2:W5):AQ:=⟨u2 (JK M2.L),pD Tryz.func188 24 k0 e0 1 (sS (sC M2 l0)) fun d=>by kernel_rfl⟩
def JJ:AQ:=ajX  ajI
def IU:JI:=JJ.F
abbrev aii:Lay:={ T:=[(0,.dz (.int .i64))],h:=[],nx:=0 }
abbrev Ve:List (Ev.Ex×Lay):=[(.ret,{ T:=[(0,.hd 0 (.int .i64))],h:=[(0,.arr (.int .i64) 3)],nx:=1 })]
abbrev Wc:=Kb 131 1 aii 1 Ve
def ai9(t0z:Bool)(t0:List Int):Option (Out Ve):=
 br t0z
 (
  some ([],()))
 (
  ai (room 8 (List.length (ap [] t0)))<|
  some ((ap [] t0),()))
def ai8  :Wc:=⟨u2 ai9,pB Tryz.func131 8 k0 e0 1 (sS l0) fun d=>by kernel_rfl⟩
def aiw:Wc:=ai8
abbrev We:List Sh:=[.sl (.int .i64)]
abbrev Wd:List Sh:=[.sl (.int .i64)]
abbrev z7:=TL We->Option (TL Wd)
abbrev Aa:=Kd 131 We Wd
def z8:Aa:=⟨_,Ko aiw.ok rfl (fun L=>rfl) (fun L=>⟨_,_,rfl,rfl,rfl⟩)⟩
def rP:z7:=z8.F
abbrev ahN:Lay:={ T:=[(0,.dz ae)],h:=[],nx:=0 }
abbrev Ux:List (Ev.Ex×Lay):=[(.ret,{ T:=[(0,.hd 0 ae)],h:=[(0,.arr ae 95)],nx:=1 })]
abbrev Vb:=Kb 132 1 ahN 1 Ux
def aiu(t0z:Bool)(t0:List (Sh.T ae)):Option (Out Ux):=
 br t0z
 (
  some ([],()))
 (
  ai (room 24 (List.length (ap [] t0)))<|
  some ((ap [] t0),()))
def ait  :Vb:=⟨u2 aiu,pB Tryz.func132 8 k0 e0 1 (sS l0) fun d=>by kernel_rfl⟩
def ahQ:Vb:=ait
abbrev Vd:List Sh:=[.sl ae]
abbrev Vc:List Sh:=[.sl ae]
abbrev Vp:=TL Vd->Option (TL Vc)
abbrev Vr:=Kd 132 Vd Vc
def Vq:Vr:=⟨_,Ko ahQ.ok rfl (fun L=>rfl) (fun L=>⟨_,_,rfl,rfl,rfl⟩)⟩
def aiv:Vp:=Vq.F
abbrev ahS:Lay:={ T:=[(0,.dz ae)],h:=[],nx:=0 }
abbrev Uy:List (Ev.Ex×Lay):=[(.ret,{ T:=[(0,.hd 0 ae)],h:=[(0,.arr ae 150)],nx:=1 })]
abbrev VK:=Kb 133 1 ahS 1 Uy
def aiW(t0z:Bool)(t0:List (Sh.T ae)):Option (Out Uy):=
 br t0z
 (
  some ([],()))
 (
  ai (room 24 (List.length (ap [] t0)))<|
  some ((ap [] t0),()))
def aiV  :VK:=⟨u2 aiW,pB Tryz.func133 8 k0 e0 1 (sS l0) fun d=>by kernel_rfl⟩
def ahT:VK:=aiV
abbrev VM:List Sh:=[.sl ae]
abbrev VL:List Sh:=[.sl ae]
abbrev VQ:=TL VM->Option (TL VL)
abbrev VS:=Kd 133 VM VL
def VR:VS:=⟨_,Ko ahT.ok rfl (fun L=>rfl) (fun L=>⟨_,_,rfl,rfl,rfl⟩)⟩
def aiX:VQ:=VR.F
abbrev ahK:Lay:={ T:=[(0,.dz ab)],h:=[],nx:=0 }
abbrev Hk:List (Ev.Ex×Lay):=[(.ret,{ T:=[(0,.hd 0 ab)],h:=[(0,.arr ab 116)],nx:=1 })]
abbrev U3:=Kb 134 1 ahK 1 Hk
def ain(t0z:Bool)(t0:List (Sh.T ab)):Option (Out Hk):=
 br t0z
 (
  some ([],()))
 (
  ai (room 72 (List.length (ap [] t0)))<|
  some ((ap [] t0),()))
def aim  :U3:=⟨u2 ain,pB Tryz.func134 8 k0 e0 1 (sS l0) fun d=>by kernel_rfl⟩
def ahM:U3:=aim
abbrev UT:Lay:={ T:=[(0,.fz ab)],h:=[],nx:=0 }
abbrev UP:List (Ev.Ex×Lay):=Hk
abbrev U5:=TL UT.σs->Option (Out UP)
abbrev U7:=Kb 134 1 UT 1 UP
def U6:U7:=DV ahM rfl
def aio:U5:=U6.F
abbrev ahP:Lay:={ T:=[(0,.dz bL)],h:=[],nx:=0 }
abbrev Ho:List (Ev.Ex×Lay):=[(.ret,{ T:=[(0,.hd 0 bL)],h:=[(0,.arr bL 152)],nx:=1 })]
abbrev Vw:=Kb 135 1 ahP 1 Ho
def aiL(t0z:Bool)(t0:List (Sh.T bL)):Option (Out Ho):=
 br t0z
 (
  some ([],()))
 (
  ai (room 32 (List.length (ap [] t0)))<|
  some ((ap [] t0),()))
def aiK  :Vw:=⟨u2 aiL,pB Tryz.func135 8 k0 e0 1 (sS l0) fun d=>by kernel_rfl⟩
def ahR:Vw:=aiK
abbrev Vo:Lay:={ T:=[(0,.fz bL)],h:=[],nx:=0 }
abbrev Va:List (Ev.Ex×Lay):=Ho
abbrev Is:=TL Vo.σs->Option (Out Va)
abbrev Iu:=Kb 135 1 Vo 1 Va
def It:Iu:=DV ahR rfl
def Ir:Is:=It.F
abbrev ahL:Lay:={ T:=[(0,.dz bD)],h:=[],nx:=0 }
abbrev Hl:List (Ev.Ex×Lay):=[(.ret,{ T:=[(0,.hd 0 bD)],h:=[(0,.arr bD 175)],nx:=1 })]
abbrev U9:=Kb 136 1 ahL 1 Hl
def ais(t0z:Bool)(t0:List (Sh.T bD)):Option (Out Hl):=
 br t0z
 (
  some ([],()))
 (
  ai (room 56 (List.length (ap [] t0)))<|
  some ((ap [] t0),()))
def air  :U9:=⟨u2 ais,pB Tryz.func136 8 k0 e0 1 (sS l0) fun d=>by kernel_rfl⟩
def ahO:U9:=air
abbrev U4:Lay:={ T:=[(0,.fz bD)],h:=[],nx:=0 }
abbrev U2:List (Ev.Ex×Lay):=Hl
abbrev Ic:=TL U4.σs->Option (Out U2)
abbrev Ig:=Kb 136 1 U4 1 U2
def Ie:Ig:=DV ahO rfl
def H7:Ic:=Ie.F
abbrev Be:Lay:={ T:=[(1,.ptr 0 0),(2,.ptr 2 0),(41,.int .i64),(42,.int .i64)],h:=Zf,nx:=3 }
abbrev A8:List (Ev.Ex×Lay):=[((.exit 2),{ T:=[(1,.ptr 0 0),(2,.ptr 2 0)],h:=Zf,nx:=3 })]
abbrev XZ:=TL Be.σs->Option (Out A8)
abbrev Kv:=Ld 0 123 (bp [1] (aW Tryz.f68)) Be A8
abbrev A9:Lay:={ T:=[(1,.ptr 0 0),(2,.ptr 4 0),(6,.dw 1 5 0),(41,.int .i64),(42,.int .i64),(94,.int .i64),(95,.int .i64)],h:=BZ,nx:=5 }
abbrev A0:List (Ev.Ex×Lay):=[((.exit 6),{ T:=[(1,.ptr 0 0),(2,.ptr 4 0),(41,.int .i64),(42,.int .i64)],h:=BZ,nx:=5 })]
abbrev Kj:=TL A9.σs->Option (Out A0)
abbrev Bh:=Ld 0 123 (bp [1,1] (aW Tryz.f68)) A9 A0
abbrev Ba:Lay:={ T:=[(1,.ptr 0 0),(2,.ptr 4 0),(6,.dw 1 5 0),(41,.int .i64),(42,.int .i64),(69,.int .i64),(70,.int .i64)],h:=BZ,nx:=5 }
abbrev A4:List (Ev.Ex×Lay):=[((.exit 4),{ T:=[(1,.ptr 0 0),(2,.ptr 4 0),(6,.dw 1 5 0),(41,.int .i64),(42,.int .i64)],h:=BZ,nx:=5 })]
abbrev Kk:=TL Ba.σs->Option (Out A4)
abbrev Bi:=Ld 0 123 (bp [1,0] (aW Tryz.f68)) Ba A4
def Bk(F2:z7)(t6 t41 t42 t69 t70 aE:Int)(aD:List Int)(aF:List (Sh.T ae))(aH aJ aK:List Int)(aG:List (Sh.T ae))(b1i:Int)(b1:List (Sh.T ab))(cM cR:Int)(gH:Bool)(b2:List (Sh.T bL))(b3:List (Sh.T bD))(qi:Int):Option (TL Ba.σs⊕Out A4):=
 br (iL t70 t69)
 (
  ai (Nat.beq (Int.toNat t6) (Int.toNat b1i))<|
  ai (Nat.beq (Int.toNat t6) (Int.toNat b1i))<|
  ai (aA t70 (List.length b2))<|
  ar (F2 ((gt bL b2 t70).2.1,())) fun x0=>
  ai (aA t70 (List.length b2))<|
  some (.inl ((Int.ofNat (Int.toNat t6)),(t41,(t42,(t69,((IntKind.wrap .i64 (t70+(1:Int))),(aE,(aD,(aF,(aH,(aJ,(aK,(aG,((Int.ofNat (Int.toNat b1i)),(b1,(cM,(cR,(gH,((List.set b2 (Int.toNat t70) ((gt bL b2 t70).1,(x0.1,()))),(b3,(qi,()))))))))))))))))))))))
 (
  some (.inr ((Int.ofNat (Int.toNat t6)),(t41,(t42,(aE,(aD,(aF,(aH,(aJ,(aK,(aG,((Int.ofNat (Int.toNat b1i)),(b1,(cM,(cR,(gH,(b2,(b3,(qi,()))))))))))))))))))))
def aky(c2:Aa) :Bi:=bw (nD (Bk c2.F)) (pL (kD c2 k0) e0 1 l0 fun d=>by kernel_rfl)
def XN:Bi:=aky z8
def Km:Kk:=aQ (nD (Bk rP)) NN
def Bj(F2:z7)(t6 t41 t42 t94 t95 aE:Int)(aD:List Int)(aF:List (Sh.T ae))(aH aJ aK:List Int)(aG:List (Sh.T ae))(b1i:Int)(b1:List (Sh.T ab))(cM cR:Int)(gH:Bool)(b2:List (Sh.T bL))(b3:List (Sh.T bD))(qi:Int):Option (TL A9.σs⊕Out A0):=
 br (iL t95 t94)
 (
  ai (Nat.beq (Int.toNat t6) (Int.toNat b1i))<|
  ai (aA t95 (List.length b3))<|
  ar (F2 ((gt bD b3 t95).2.1,())) fun x0=>
  ar (F2 ((gt bD b3 t95).2.2.1,())) fun x1=>
  ai (nQ (Int.toNat t95) (Int.toNat t95))<|
  some (.inl ((Int.ofNat (Int.toNat t6)),(t41,(t42,(t94,((IntKind.wrap .i64 (t95+(1:Int))),(aE,(aD,(aF,(aH,(aJ,(aK,(aG,((Int.ofNat (Int.toNat b1i)),(b1,(cM,(cR,(gH,(b2,((List.set (List.set b3 (Int.toNat t95) ((gt bD b3 t95).1,(x0.1,((gt bD b3 t95).2.2.1,())))) (Int.toNat t95) ((gt bD (List.set b3 (Int.toNat t95) ((gt bD b3 t95).1,(x0.1,((gt bD b3 t95).2.2.1,())))) t95).1,((gt bD (List.set b3 (Int.toNat t95) ((gt bD b3 t95).1,(x0.1,((gt bD b3 t95).2.2.1,())))) t95).2.1,(x1.1,())))),(qi,()))))))))))))))))))))))
 (
  some (.inr (t41,(t42,(aE,(aD,(aF,(aH,(aJ,(aK,(aG,((Int.ofNat (Int.toNat b1i)),(b1,(cM,(cR,(gH,(b2,(b3,(qi,())))))))))))))))))))
def akx(c2:Aa) :Bh:=bw (nD (Bj c2.F)) (pL (kD c2 k0) e0 1 l0 fun d=>by kernel_rfl)
def XM:Bh:=akx z8
def Kl:Kj:=aQ (nD (Bj rP)) NN
def Bq(F3:Ic)(F4:Is)(L13:Kk)(L18:Kj)(t41 t42 aE:Int)(aD:List Int)(aF:List (Sh.T ae))(aH aJ aK:List Int)(aG:List (Sh.T ae))(b1:List (Sh.T ab))(bN:Int):Option (TL Be.σs⊕Out A8):=
 br (iL t42 t41)
 (
  ai (aA t42 (List.length b1))<|
  ar (F4 ((gt ab b1 t42).2.2.2.1,())) fun x0=>
  ai (nQ (Int.toNat t42) (Int.toNat t42))<|
  ai (nQ (Int.toNat t42) (Int.toNat t42))<|
  ai (nQ (Int.toNat t42) (Int.toNat t42))<|
  ai (nQ (Int.toNat t42) (Int.toNat t42))<|
  ai (nQ (Int.toNat t42) (Int.toNat t42))<|
  ai (mr (Sh.beq bD) (gt ab b1 t42).2.2.2.2.1 (gt ab b1 t42).2.2.2.2.1)<|
  ar (F3 ((gt ab b1 t42).2.2.2.2.1,())) fun x1=>
  ai (nQ (Int.toNat t42) (Int.toNat t42))<|
  ai (nQ (Int.toNat t42) (Int.toNat t42))<|
  ai (nQ (Int.toNat t42) (Int.toNat t42))<|
  ai (Nat.beq (Int.toNat t42) (Int.toNat t42))<|
  ai (Nat.beq (Int.toNat t42) (Int.toNat t42))<|
  ar (L13 ((Int.ofNat (Int.toNat t42)),(t41,(t42,((Int.ofNat (List.length x0.1)),((0:Int),(aE,(aD,(aF,(aH,(aJ,(aK,(aG,((Int.ofNat (Int.toNat t42)),(b1,((gt ab b1 t42).1,((gt ab b1 t42).2.1,((gt ab b1 t42).2.2.1,(x0.1,(x1.1,(bN,()))))))))))))))))))))) fun x2=>
  ai (Nat.beq (Int.toNat x2.1) (Int.toNat x2.2.2.2.2.2.2.2.2.2.2.1))<|
  ar (L18 ((Int.ofNat (Int.toNat x2.1)),(x2.2.1,(x2.2.2.1,((Int.ofNat (List.length x2.2.2.2.2.2.2.2.2.2.2.2.2.2.2.2.2.1)),((0:Int),(x2.2.2.2.1,(x2.2.2.2.2.1,(x2.2.2.2.2.2.1,(x2.2.2.2.2.2.2.1,(x2.2.2.2.2.2.2.2.1,(x2.2.2.2.2.2.2.2.2.1,(x2.2.2.2.2.2.2.2.2.2.1,((Int.ofNat (Int.toNat x2.2.2.2.2.2.2.2.2.2.2.1)),(x2.2.2.2.2.2.2.2.2.2.2.2.1,(x2.2.2.2.2.2.2.2.2.2.2.2.2.1,(x2.2.2.2.2.2.2.2.2.2.2.2.2.2.1,(x2.2.2.2.2.2.2.2.2.2.2.2.2.2.2.1,(x2.2.2.2.2.2.2.2.2.2.2.2.2.2.2.2.1,(x2.2.2.2.2.2.2.2.2.2.2.2.2.2.2.2.2.1,(x2.2.2.2.2.2.2.2.2.2.2.2.2.2.2.2.2.2.1,()))))))))))))))))))))) fun x3=>
  some (.inl (x3.1,((IntKind.wrap .i64 (@HAdd.hAdd (Int) (Int) (Int) _ x3.2.1 (1:Int))),(x3.2.2.1,(x3.2.2.2.1,(x3.2.2.2.2.1,(x3.2.2.2.2.2.1,(x3.2.2.2.2.2.2.1,(x3.2.2.2.2.2.2.2.1,(x3.2.2.2.2.2.2.2.2.1,((List.set x3.2.2.2.2.2.2.2.2.2.2.1 (Int.toNat x3.2.2.2.2.2.2.2.2.2.1) (x3.2.2.2.2.2.2.2.2.2.2.2.1,(x3.2.2.2.2.2.2.2.2.2.2.2.2.1,(x3.2.2.2.2.2.2.2.2.2.2.2.2.2.1,(x3.2.2.2.2.2.2.2.2.2.2.2.2.2.2.1,(x3.2.2.2.2.2.2.2.2.2.2.2.2.2.2.2.1,())))))),(x3.2.2.2.2.2.2.2.2.2.2.2.2.2.2.2.2.1,())))))))))))))
 (
  some (.inr (aE,(aD,(aF,(aH,(aJ,(aK,(aG,(b1,(bN,())))))))))))
def akL(c3:Ig)(c4:Iu)(M13:Bi)(M18:Bh):Kv:=bw (jE (Bq c3.F c4.F M13.L M18.L)) (pL (kB c3 (kB c4 k0)) e0 1 (sC M13 (sC M18 l0)) fun d=>by kernel_rfl)
def akK:Kv:=akL Ie It XN XM
def X0:XZ:=aQ (jE (Bq H7 Ir Km Kl)) NN
abbrev XY:List Sh:=[bf]
abbrev Ku:List Sh:=[bf]
abbrev Yg:=TL XY->Option (TL Ku)
abbrev KA:=Kd 68 XY Ku
def akY(F0:VQ)(F1:Vp)(F2:z7)(F3:Ic)(F4:Is)(F5:U5)(L8:XZ)(L13:Kk)(L18:Kj)(a0:Sh.T bf):Option (TL Ku):=
 ar (F2 (a0.2.1,())) fun x0=>
 ar (F2 (a0.2.2.2.1,())) fun x1=>
 ar (F2 (a0.2.2.2.2.1,())) fun x2=>
 ar (F2 (a0.2.2.2.2.2.1,())) fun x3=>
 ar (F1 (a0.2.2.1,())) fun x4=>
 ar (F0 (a0.2.2.2.2.2.2.2.1,())) fun x5=>
 ar (F5 (a0.2.2.2.2.2.2.1,())) fun x6=>
 ar (L8 ((Int.ofNat (List.length x6.1)),((0:Int),(a0.1,(x0.1,(x4.1,(x1.1,(x2.1,(x3.1,(x5.1,(x6.1,((0:Int),())))))))))))) fun x7=>
 some ((x7.1,(x7.2.1,(x7.2.2.1,(x7.2.2.2.1,(x7.2.2.2.2.1,(x7.2.2.2.2.2.1,(x7.2.2.2.2.2.2.2.1,(x7.2.2.2.2.2.2.1,())))))))),())
def akX(c0:VS)(c1:Vr)(c2:Aa)(c3:Ig)(c4:Iu)(c5:U7)(M8:Kv)(M13:Bi)(M18:Bh):KA:=⟨u1 (akY c0.F c1.F c2.F c3.F c4.F c5.F M8.L M13.L M18.L),pD Tryz.func68 123 (kD c0 (kD c1 (kD c2 (kB c3 (kB c4 (kB c5 k0)))))) e0 1 (lS (lU (bp [0] (aW Tryz.f68)) 5 (kD c0 (kD c1 (kD c2 (kB c3 (kB c4 (kB c5 k0)))))) e0 1 l0 (by kernel_rfl) (sC M8 l0) (by kernel_rfl)) (by kernel_rfl)) fun d=>by kernel_rfl⟩
def Yh:KA:=akX VR Vq z8 Ie It U6 akK XN XM
def akM:Yg:=Yh.F
abbrev ahY:Lay:={ T:=[(0,.dz .bool)],h:=[],nx:=0 }
abbrev H6:List (Ev.Ex×Lay):=[(.ret,{ T:=[(0,.hd 0 .bool)],h:=[(0,.arr .bool 4)],nx:=1 })]
abbrev Wb:=Kb 73 1 ahY 1 H6
def ai5(t0z:Bool)(t0:List Bool):Option (Out H6):=
 br t0z
 (
  some ([],()))
 (
  ai (room 1 (List.length (ap [] t0)))<|
  some ((ap [] t0),()))
def ai4  :Wb:=⟨u2 ai5,pB Tryz.func73 8 k0 e0 1 (sS l0) fun d=>by kernel_rfl⟩
def aij:Wb:=ai4
abbrev VY:Lay:={ T:=[(0,.fz .bool)],h:=[],nx:=0 }
abbrev VV:List (Ev.Ex×Lay):=H6
abbrev rR:=TL VY.σs->Option (Out VV)
abbrev rS:=Kb 73 1 VY 1 VV
def p9:rS:=DV aij rfl
def IK:rR:=p9.F
abbrev VU:Lay:={ T:=[(0,.hd 0 .bool)],h:=[(0,.arr .bool 4)],nx:=1 }
abbrev VT:List (Ev.Ex×Lay):=[(.ret,{ T:=[(0,.hd 1 .bool)],h:=[(0,.arr .bool 4),(1,.arr .bool 4)],nx:=2 })]
abbrev rU:=TL VU.σs->Option (Out VT)
abbrev rW:=Kb 73 1 VU 1 VT
def rV:rW:=⟨_,akZ (by kernel_rfl) p9.ok⟩
def akm:rU:=rV.F
abbrev Z3:Lay:={ T:=[(0,.ptr 0 0),(1,.int .u64)],h:=B0,nx:=2 }
abbrev wg:List (Ev.Ex×Lay):=[(.ret,{ T:=[(0,.int .u64)],h:=B0,nx:=2 })]
abbrev vh:=TL Z3.σs->Option (Out wg)
abbrev r9:=Kb 75 2 Z3 1 wg
def Ns(t1 aE aD:Int)(b1:List (Sh.T aB)):Option (Out wg):=some ((@me (.int .u64) b1 t1),(aE,(aD,(b1,()))))
def akl  :r9:=⟨u4 Ns,pB Tryz.func75 13 k0 e0 1 (sS l0) fun d=>by kernel_rfl⟩
def vi:r9:=akl
def tc:vh:=vi.F
abbrev vk:Lay:={ T:=[(0,.ptr 0 0)],h:=B0,nx:=2 }
abbrev vj:List (Ev.Ex×Lay):=[(.ret,{ T:=[(0,.fz aB)],h:=B0,nx:=2 })]
abbrev KT:=TL vk.σs->Option (Out vj)
abbrev KU:=Kb 83 1 vk 1 vj
