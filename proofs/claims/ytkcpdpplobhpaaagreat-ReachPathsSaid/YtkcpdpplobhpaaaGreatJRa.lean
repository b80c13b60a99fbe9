import Derived.Test.YtkcpdpplobhpaaaGreatJSa
set_option linter.unusedVariables false
set_option linter.unusedSimpArgs false
set_option linter.unnecessarySimpa false
section
namespace Go.Proofs.YtkcpdpplobhpaaaGreat.V
open Go Go.RowKit
set_option maxRecDepth 1000000
abbrev XF:List Sh:=[(.int .i64)]
abbrev Bg:List Sh:=[.bool]
abbrev XI:=TL XF->Option (TL Bg)
abbrev Kg:=Kd 198 XF Bg
def Kf(a0:Int):Option (TL Bg):=some ((Bool.not (iQ a0 a0)),())
def akr  :Kg:=⟨u1 Kf,pD Tryz.func198 6 k0 e0 1 (sS l0) fun d=>by kernel_rfl⟩
def XJ:Kg:=akr
def XG:XI:=XJ.F
abbrev XA:List Sh:=[(.int .i64),(.int .i64)]
abbrev Bc:List Sh:=[(.int .i64)]
abbrev XC:=TL XA->Option (TL Bc)
abbrev J8:=Kd 147 XA Bc
def vi(F0:XI)(a0 a1:Int):Option (TL Bc):=
 ar (F0 (a0,())) fun x0=>
 ar (F0 (a1,())) fun x1=>
 br x0.1
 (
  br x1.1
  (
   some ((0:Int),()))
  (
   some ((Int.negSucc 0),())))
 (
  br x1.1
  (
   some ((1:Int),()))
  (
   br (iL a0 a1)
   (
    some ((Int.negSucc 0),()))
   (
    br (iL a1 a0)
    (
     some ((1:Int),()))
    (
     some ((0:Int),())))))
def akk(c0:Kg) :J8:=⟨u2 (vi c0.F),pD Tryz.func147 20 (kD c0 k0) e0 1 (sS l0) fun d=>by kernel_rfl⟩
def XD:J8:=akk XJ
def J7:XC:=XD.F
abbrev gO:List (Nat×LO):=[(0,.arr ah 148),(1,.cells [.ptr 2 0] 198),(2,.cells [.int .i64,.fz (.int .i64),.fz ae,.fz (.int .i64),.fz (.int .i64),.fz (.int .i64),.fz ab,.fz ae,.hd 3 (.int .i64),.hd 0 ah,.hd 4 (.int .u8),.hd 5 (.int .i64)] 224),(3,.arr (.int .i64) 3),(4,.arr (.int .u8) 5),(5,.arr (.int .i64) 3)]
abbrev Ce:List (Nat×LO):=[(0,.cells [.int .i64,.fz (.int .i64),.fz ae,.fz (.int .i64),.fz (.int .i64),.fz (.int .i64),.hd 1 ab,.fz ae] 27),(1,.du ab [.int .i64,.int .i64,.bool,.hd 2 bO,.hd 3 bE] 116),(2,.arr bO 152),(3,.arr bE 175),(4,.cells [.int .i64,.bq,.bq,.bq,.bq,.bq,.bq,.bq] 27)]
abbrev Zs:List (Nat×LO):=[(0,.cells [.ptr 1 0] 198),(1,.cells [.int .i64,.fz (.int .i64),.fz ae,.fz (.int .i64),.fz (.int .i64),.fz (.int .i64),.fz ab,.fz ae,.hd 2 (.int .i64),.hd 3 ah,.hd 4 (.int .u8),.hd 5 (.int .i64)] 224),(2,.arr (.int .i64) 3),(3,.arr ah 148),(4,.arr (.int .u8) 5),(5,.arr (.int .i64) 3)]
abbrev me:Lay:={ T:=[],h:=gO,nx:=6 }
abbrev LD:Lay:={ T:=[(0,.hd 0 ah),(1,.int .i64),(2,.int .i64),(3,.int .i64),(4,.func 146 [] [.ptr 1 0])],h:=gO,nx:=6 }
abbrev Zt:List (Nat×LO):=[(0,.cells [.int .i64,.fz (.int .i64),.fz ae,.fz (.int .i64),.fz (.int .i64),.fz (.int .i64),.hd 1 ab,.fz ae] 27),(1,.arr ab 116),(2,.cells [.int .i64,.bq,.bq,.bq,.bq,.bq,.bq,.bq] 27)]
abbrev Cf:List (Nat×LO):=[(0,.cells [.int .i64,.int .i64,.mp 1] 220),(1,.map .u64 (.int .u64))]
abbrev Zu:Lay:={ T:=[(0,.hd 0 ah),(1,.int .i64),(2,.func 146 [] [.ptr 1 0]),(6,.int .i64),(7,.int .i64),(8,.int .i64)],h:=gO,nx:=6 }
abbrev Zv:Lay:={ T:=[(0,.hd 0 ah),(1,.int .i64),(2,.int .i64),(3,.func 146 [] [.ptr 1 0]),(8,.int .i64)],h:=gO,nx:=6 }
abbrev Zw:Lay:={ T:=[(0,.hd 0 ah),(1,.int .i64),(2,.func 146 [] [.ptr 1 0]),(6,.int .i64),(7,.int .i64)],h:=gO,nx:=6 }
abbrev XH:Lay:={ T:=[(0,.agg [.bool,.int .i64,.int .i64]),(1,.agg [.bool,.int .i64,.int .i64]),(2,.ptr 0 0)],h:=Zs,nx:=6 }
abbrev Ka:List (Ev.Ex×Lay):=[(.ret,{ T:=[(0,.int .i64)],h:=Zs,nx:=6 })]
abbrev kU:=TL XH.σs->Option (Out Ka)
abbrev ks:=Kb 146 3 XH 1 Ka
def akt(F0:XC)(F1:vg)(dr:Bool)(fR fx:Int)(ic:Bool)(fS kG cG:Int)(cN:List Int)(fO:List (Sh.T ae))(eW ia mT:List Int)(mU:List (Sh.T ab))(mV:List (Sh.T ae))(b2:List Int)(b3:List (Sh.T ah))(b4 b5:List Int):Option (Out Ka):=
 ar (F1 (dr,(fR,(fx,(cG,(cN,(fO,(eW,(ia,(mT,(mU,(mV,(b2,(b3,(b4,(b5,())))))))))))))))) fun x0=>
 ai (aw (0:Int) (List.length x0.1))<|
 ai (aw (gt (.int .i64) x0.1 (0:Int)) (List.length x0.2.2.2.2.2.2.2.2.2.2.2.2.1))<|
 ai (both (bQ ic ic) (both (iQ fS fS) (both (iQ kG kG) true)))<|
 ar (F1 (ic,(fS,(kG,x0.2)))) fun x1=>
 ai (aw (0:Int) (List.length x1.1))<|
 ai (aw (gt (.int .i64) x1.1 (0:Int)) (List.length x1.2.2.2.2.2.2.2.2.2.2.2.2.1))<|
 ai (aw (0:Int) (List.length x0.1))<|
 ai (Sh.beq (.int .i64) (gt (.int .i64) x0.1 (0:Int)) (gt (.int .i64) x0.1 (0:Int)))<|
 ai (iQ (gt (.int .i64) x0.1 (0:Int)) (gt (.int .i64) x0.1 (0:Int)))<|
 ai (aw (gt (.int .i64) x0.1 (0:Int)) (List.length x1.2.2.2.2.2.2.2.2.2.2.2.2.1))<|
 ai (nQ (Int.toNat (gt (.int .i64) x0.1 (0:Int))) (Int.toNat (gt (.int .i64) x0.1 (0:Int))))<|
 ai (iQ (gt (.int .i64) x0.2.2.2.2.2.2.2.2.2.2.2.2.1 (gt (.int .i64) x0.1 (0:Int))) (gt (.int .i64) x1.2.2.2.2.2.2.2.2.2.2.2.2.1 (gt (.int .i64) x0.1 (0:Int))))<|
 ar (F0 ((gt (.int .i64) x0.2.2.2.2.2.2.2.2.2.2.2.2.1 (gt (.int .i64) x0.1 (0:Int))),((gt (.int .i64) x1.2.2.2.2.2.2.2.2.2.2.2.2.1 (gt (.int .i64) x1.1 (0:Int))),()))) fun x2=>
 some (x2.1,x1.2)
def aks(c0:J8)(c1:sc) :ks:=⟨D9 (akt c0.F c1.F),pB Tryz.func146 29 (kD c0 (kB c1 k0)) e0 1 (sS l0) fun d=>by kernel_rfl⟩
def kV:ks:=aks XD vh
def jz:kU:=kV.F
abbrev Vf:Lay:=LD
abbrev Ik:List (Ev.Ex×Lay):=[(.ret,me)]
abbrev IA:=TL Vf.σs->Option (Out Ik)
abbrev zQ:=Kb 265 5 Vf 0 Ik
abbrev zF:Lay:={ T:=[(0,.hd 0 ah),(1,.int .i64),(2,.int .i64),(3,.int .i64),(10,.int .i64)],h:=gO,nx:=6 }
abbrev zy:List (Ev.Ex×Lay):=[((.exit 0),me)]
abbrev Vr:=TL zF.σs->Option (Out zy)
abbrev Vv:=Ld 6 38 (bu [0] (aW Tryz.f265)) zF zy
def zL(t1 t2 t3 t10:Int)(b0:List (Sh.T ah))(bR:Int)(bU:List Int)(bV:List (Sh.T ae))(bW bX bZ:List Int)(ca:List (Sh.T ab))(cd:List (Sh.T ae))(b3 b4 b5:List Int):Option (TL zF.σs⊕Out zy):=
 br (iL t10 t3)
 (
  ai (aw (IntKind.wrap .i64 (t2+t10)) (List.length b0))<|
  ai (aw (IntKind.wrap .i64 (t1+t10)) (List.length b0))<|
  ai (aw (IntKind.wrap .i64 (t1+t10)) (List.length b0))<|
  ai (aw (IntKind.wrap .i64 (t2+t10)) (List.length (List.set b0 (Int.toNat (IntKind.wrap .i64 (t1+t10))) ((gt ah b0 (IntKind.wrap .i64 (t2+t10))).1,((gt ah b0 (IntKind.wrap .i64 (t2+t10))).2.1,((gt ah b0 (IntKind.wrap .i64 (t2+t10))).2.2.1,()))))))<|
  ai (iQ t2 t2)<|
  ai (iQ t10 t10)<|
  ai (iQ (IntKind.wrap .i64 (t2+t10)) (IntKind.wrap .i64 (t2+t10)))<|
  some (.inl (t1,(t2,(t3,((IntKind.wrap .i64 (t10+(1:Int))),((List.set (List.set b0 (Int.toNat (IntKind.wrap .i64 (t1+t10))) ((gt ah b0 (IntKind.wrap .i64 (t2+t10))).1,((gt ah b0 (IntKind.wrap .i64 (t2+t10))).2.1,((gt ah b0 (IntKind.wrap .i64 (t2+t10))).2.2.1,())))) (Int.toNat (IntKind.wrap .i64 (t2+t10))) ((gt ah b0 (IntKind.wrap .i64 (t1+t10))).1,((gt ah b0 (IntKind.wrap .i64 (t1+t10))).2.1,((gt ah b0 (IntKind.wrap .i64 (t1+t10))).2.2.1,())))),(bR,(bU,(bV,(bW,(bX,(bZ,(ca,(cd,(b3,(b4,(b5,()))))))))))))))))))
 (
  some (.inr (b0,(bR,(bU,(bV,(bW,(bX,(bZ,(ca,(cd,(b3,(b4,(b5,()))))))))))))))
def aiH  :Vv:=bB (u16 zL) (pL k0 e0 1 l0 fun d=>by kernel_rfl)
def Vt:Vr:=aR (u16 zL) NN
def aiN(F0:kU)(L1:Vr)(t1 t2 t3:Int)(b0:List (Sh.T ah))(bR:Int)(bU:List Int)(bV:List (Sh.T ae))(bW bX bZ:List Int)(ca:List (Sh.T ab))(cd:List (Sh.T ae))(b3 b4 b5:List Int):Option (Out Ik):=
 ar (L1 (t1,(t2,(t3,((0:Int),(b0,(bR,(bU,(bV,(bW,(bX,(bZ,(ca,(cd,(b3,(b4,(b5,()))))))))))))))))) fun x0=>
 some x0
def aiM(c0:ks)(M1:Vv):zQ:=⟨dV (aiN c0.F M1.L),pB Tryz.func265 38 (kB c0 k0) e0 1 (sS (sC M1 l0)) fun d=>by kernel_rfl⟩
def IB:zQ:=aiM kV aiH
def Vu:IA:=IB.F
abbrev VF:Lay:=LD
abbrev uW:List (Ev.Ex×Lay):=[(.ret,me)]
abbrev A8:=TL VF.σs->Option (Out uW)
abbrev IW:=Kb 257 5 VF 0 uW
abbrev uX:Lay:={ T:=[(0,.hd 0 ah),(2,.int .i64),(4,.func 146 [] [.ptr 1 0]),(10,.int .i64),(11,.int .i64)],h:=gO,nx:=6 }
abbrev uV:List (Ev.Ex×Lay):=[((.exit 0),{ T:=[(0,.hd 0 ah),(2,.int .i64),(4,.func 146 [] [.ptr 1 0]),(10,.int .i64)],h:=gO,nx:=6 })]
abbrev VO:=TL uX.σs->Option (Out uV)
abbrev IQ:=Ld 6 58 (bu [0] (aW Tryz.f257)) uX uV
def IU(F1:IA)(t2 t10 t11:Int)(b0:List (Sh.T ah))(bR:Int)(bU:List Int)(bV:List (Sh.T ae))(bW bX bZ:List Int)(ca:List (Sh.T ab))(cd:List (Sh.T ae))(b3 b4 b5:List Int):Option (TL uX.σs⊕Out uV):=
 br (Bool.not (iQ t10 t11))
 (
  br (iL t11 t10)
  (
   ar (F1 ((IntKind.wrap .i64 (t2-t10)),(t2,(t11,(b0,(bR,(bU,(bV,(bW,(bX,(bZ,(ca,(cd,(b3,(b4,(b5,())))))))))))))))) fun x0=>
   some (.inl (t2,((IntKind.wrap .i64 (t10-t11)),(t11,x0)))))
  (
   ar (F1 ((IntKind.wrap .i64 (t2-t10)),((IntKind.wrap .i64 ((IntKind.wrap .i64 (t2+t11))-t10)),(t10,(b0,(bR,(bU,(bV,(bW,(bX,(bZ,(ca,(cd,(b3,(b4,(b5,())))))))))))))))) fun x0=>
   some (.inl (t2,(t10,((IntKind.wrap .i64 (t11-t10)),x0))))))
 (
  some (.inr (t2,(t10,(b0,(bR,(bU,(bV,(bW,(bX,(bZ,(ca,(cd,(b3,(b4,(b5,()))))))))))))))))
def aiY(c1:zQ) :IQ:=bB (dV (IU c1.F)) (pL (kB c1 k0) e0 1 l0 fun d=>by kernel_rfl)
def aiX:IQ:=aiY IB
def IP:VO:=aR (dV (IU Vu)) NN
def ai5(F0:kU)(F1:IA)(L2:VO)(t1 t2 t3:Int)(b0:List (Sh.T ah))(bR:Int)(bU:List Int)(bV:List (Sh.T ae))(bW bX bZ:List Int)(ca:List (Sh.T ab))(cd:List (Sh.T ae))(b3 b4 b5:List Int):Option (Out uW):=
 ar (L2 (t2,((IntKind.wrap .i64 (t2-t1)),((IntKind.wrap .i64 (t3-t2)),(b0,(bR,(bU,(bV,(bW,(bX,(bZ,(ca,(cd,(b3,(b4,(b5,())))))))))))))))) fun x0=>
 ar (F1 ((IntKind.wrap .i64 (@HSub.hSub (Int) (Int) (Int) _ x0.1 x0.2.1)),x0)) fun x1=>
 some x1
def ai4(c0:ks)(c1:zQ)(M2:IQ):IW:=⟨dV (ai5 c0.F c1.F M2.L),pB Tryz.func257 58 (kB c0 (kB c1 k0)) e0 1 (sS (sC M2 l0)) fun d=>by kernel_rfl⟩
def VU:IW:=ai4 kV IB aiX
def zY:A8:=VU.F
abbrev UW:Lay:={ T:=[(0,.hd 0 ah),(1,.int .i64),(2,.int .i64),(3,.func 146 [] [.ptr 1 0])],h:=gO,nx:=6 }
abbrev H4:List (Ev.Ex×Lay):=[(.ret,me)]
abbrev Ii:=TL UW.σs->Option (Out H4)
abbrev zz:=Kb 227 4 UW 0 H4
abbrev zq:Lay:=Zv
abbrev zp:List (Ev.Ex×Lay):=[((.exit 0),me)]
abbrev UY:=TL zq.σs->Option (Out zp)
abbrev H9:=Ld 6 53 (bu [0] (aW Tryz.f227)) zq zp
abbrev uU:Lay:={ T:=[(0,.hd 0 ah),(1,.int .i64),(2,.int .i64),(3,.func 146 [] [.ptr 1 0]),(8,.int .i64),(9,.int .i64)],h:=gO,nx:=6 }
abbrev uT:List (Ev.Ex×Lay):=[((.exit 2),Zv)]
abbrev H7:=TL uU.σs->Option (Out uT)
abbrev zt:=Ld 6 53 (bu [0,0] (aW Tryz.f227)) uU uT
def Ia(F0:kU)(t1 t2 t8 t9:Int)(b0:List (Sh.T ah))(bR:Int)(bU:List Int)(bV:List (Sh.T ae))(bW bX bZ:List Int)(ca:List (Sh.T ab))(cd:List (Sh.T ae))(b3 b4 b5:List Int):Option (TL uU.σs⊕Out uT):=
 br (iL t1 t9)
 (
  ai (aw t9 (List.length b0))<|
  ai (aw (IntKind.wrap .i64 (t9-(1:Int))) (List.length b0))<|
  ar (F0 ((gt ah b0 t9).1,((gt ah b0 t9).2.1,((gt ah b0 t9).2.2.1,((gt ah b0 (IntKind.wrap .i64 (t9-(1:Int)))).1,((gt ah b0 (IntKind.wrap .i64 (t9-(1:Int)))).2.1,((gt ah b0 (IntKind.wrap .i64 (t9-(1:Int)))).2.2.1,(bR,(bU,(bV,(bW,(bX,(bZ,(ca,(cd,(b3,(b0,(b4,(b5,()))))))))))))))))))) fun x0=>
  br (aQ true (iL x0.1 (0:Int)) false)
  (
   ai (aw (IntKind.wrap .i64 (t9-(1:Int))) (List.length x0.2.2.2.2.2.2.2.2.2.2.1))<|
   ai (aw t9 (List.length x0.2.2.2.2.2.2.2.2.2.2.1))<|
   ai (aw t9 (List.length x0.2.2.2.2.2.2.2.2.2.2.1))<|
   ai (aw (IntKind.wrap .i64 (t9-(1:Int))) (List.length (List.set x0.2.2.2.2.2.2.2.2.2.2.1 (Int.toNat t9) ((gt ah x0.2.2.2.2.2.2.2.2.2.2.1 (IntKind.wrap .i64 (t9-(1:Int)))).1,((gt ah x0.2.2.2.2.2.2.2.2.2.2.1 (IntKind.wrap .i64 (t9-(1:Int)))).2.1,((gt ah x0.2.2.2.2.2.2.2.2.2.2.1 (IntKind.wrap .i64 (t9-(1:Int)))).2.2.1,()))))))<|
   ai (iQ t9 t9)<|
   ai (iQ (IntKind.wrap .i64 (t9-(1:Int))) (IntKind.wrap .i64 (t9-(1:Int))))<|
   some (.inl (t1,(t2,(t8,((IntKind.wrap .i64 (t9-(1:Int))),((List.set (List.set x0.2.2.2.2.2.2.2.2.2.2.1 (Int.toNat t9) ((gt ah x0.2.2.2.2.2.2.2.2.2.2.1 (IntKind.wrap .i64 (t9-(1:Int)))).1,((gt ah x0.2.2.2.2.2.2.2.2.2.2.1 (IntKind.wrap .i64 (t9-(1:Int)))).2.1,((gt ah x0.2.2.2.2.2.2.2.2.2.2.1 (IntKind.wrap .i64 (t9-(1:Int)))).2.2.1,())))) (Int.toNat (IntKind.wrap .i64 (t9-(1:Int)))) ((gt ah x0.2.2.2.2.2.2.2.2.2.2.1 t9).1,((gt ah x0.2.2.2.2.2.2.2.2.2.2.1 t9).2.1,((gt ah x0.2.2.2.2.2.2.2.2.2.2.1 t9).2.2.1,())))),(x0.2.1,(x0.2.2.1,(x0.2.2.2.1,(x0.2.2.2.2.1,(x0.2.2.2.2.2.1,(x0.2.2.2.2.2.2.1,(x0.2.2.2.2.2.2.2.1,(x0.2.2.2.2.2.2.2.2.1,(x0.2.2.2.2.2.2.2.2.2.1,x0.2.2.2.2.2.2.2.2.2.2.2))))))))))))))))
  (
   some (.inr (t1,(t2,(t8,(x0.2.2.2.2.2.2.2.2.2.2.1,(x0.2.1,(x0.2.2.1,(x0.2.2.2.1,(x0.2.2.2.2.1,(x0.2.2.2.2.2.1,(x0.2.2.2.2.2.2.1,(x0.2.2.2.2.2.2.2.1,(x0.2.2.2.2.2.2.2.2.1,(x0.2.2.2.2.2.2.2.2.2.1,x0.2.2.2.2.2.2.2.2.2.2.2))))))))))))))))
 (
  some (.inr (t1,(t2,(t8,(b0,(bR,(bU,(bV,(bW,(bX,(bZ,(ca,(cd,(b3,(b4,(b5,())))))))))))))))))
def aic(c0:ks) :zt:=bB (u16 (Ia c0.F)) (pL (kB c0 k0) e0 1 l0 fun d=>by kernel_rfl)
def UZ:zt:=aic kV
def H8:H7:=aR (u16 (Ia jz)) NN
def zu(L4:H7)(t1 t2 t8:Int)(b0:List (Sh.T ah))(bR:Int)(bU:List Int)(bV:List (Sh.T ae))(bW bX bZ:List Int)(ca:List (Sh.T ab))(cd:List (Sh.T ae))(b3 b4 b5:List Int):Option (TL zq.σs⊕Out zp):=
 br (iL t8 t2)
 (
  ar (L4 (t1,(t2,(t8,(t8,(b0,(bR,(bU,(bV,(bW,(bX,(bZ,(ca,(cd,(b3,(b4,(b5,()))))))))))))))))) fun x0=>
  some (.inl (x0.1,(x0.2.1,((IntKind.wrap .i64 (@HAdd.hAdd (Int) (Int) (Int) _ x0.2.2.1 (1:Int))),x0.2.2.2)))))
 (
  some (.inr (b0,(bR,(bU,(bV,(bW,(bX,(bZ,(ca,(cd,(b3,(b4,(b5,()))))))))))))))
def aid(M4:zt):H9:=bB (dV (zu M4.L)) (pL k0 e0 1 (sC M4 l0) fun d=>by kernel_rfl)
def aib:H9:=aid  UZ
def zs:UY:=aR (dV (zu H8)) NN
def aip(F0:kU)(L1:UY)(L4:H7)(t1 t2:Int)(b0:List (Sh.T ah))(bR:Int)(bU:List Int)(bV:List (Sh.T ae))(bW bX bZ:List Int)(ca:List (Sh.T ab))(cd:List (Sh.T ae))(b3 b4 b5:List Int):Option (Out H4):=
 ar (L1 (t1,(t2,((IntKind.wrap .i64 (t1+(1:Int))),(b0,(bR,(bU,(bV,(bW,(bX,(bZ,(ca,(cd,(b3,(b4,(b5,())))))))))))))))) fun x0=>
 some x0
def aio(c0:ks)(M1:H9)(M4:zt):zz:=⟨fX (aip c0.F M1.L M4.L),pB Tryz.func227 53 (kB c0 k0) e0 1 (sS (sC M1 l0)) fun d=>by kernel_rfl⟩
def Ij:zz:=aio kV aib UZ
def U0:Ii:=Ij.F
abbrev Vm:Lay:=LD
abbrev zG:List (Ev.Ex×Lay):=[(.ret,me)]
abbrev gd:=TL Vm.σs->Option (Out zG)
abbrev kS:=Kb 228 5 Vm 0 zG
abbrev zC:Lay:={ T:=[(0,.hd 0 ah),(1,.int .i64),(2,.int .i64),(3,.int .i64),(4,.func 146 [] [.ptr 1 0]),(18,.int .i64),(19,.int .i64),(20,.int .i64),(21,.int .i64),(22,.int .i64)],h:=gO,nx:=6 }
abbrev uZ:List (Ev.Ex×Lay):=[((.exit 8),{ T:=[(0,.hd 0 ah),(1,.int .i64),(2,.int .i64),(3,.int .i64),(4,.func 146 [] [.ptr 1 0]),(18,.int .i64),(19,.int .i64),(20,.int .i64)],h:=gO,nx:=6 })]
abbrev Vn:=TL zC.σs->Option (Out uZ)
abbrev Ip:=Ld 6 220 (bu [4] (aW Tryz.f228)) zC uZ
abbrev zD:Lay:={ T:=[(0,.hd 0 ah),(14,.int .i64),(17,.int .i64)],h:=gO,nx:=6 }
abbrev zw:List (Ev.Ex×Lay):=[((.exit 6),me)]
abbrev Vo:=TL zD.σs->Option (Out zw)
abbrev Iq:=Ld 6 220 (bu [3] (aW Tryz.f228)) zD zw
abbrev zE:Lay:={ T:=[(0,.hd 0 ah),(2,.int .i64),(4,.func 146 [] [.ptr 1 0]),(14,.int .i64),(15,.int .i64)],h:=gO,nx:=6 }
abbrev zx:List (Ev.Ex×Lay):=[((.exit 4),{ T:=[(0,.hd 0 ah),(2,.int .i64),(14,.int .i64)],h:=gO,nx:=6 })]
abbrev Vp:=TL zE.σs->Option (Out zx)
abbrev Ir:=Ld 6 220 (bu [2] (aW Tryz.f228)) zE zx
abbrev zH:Lay:={ T:=[(0,.hd 0 ah),(10,.int .i64),(13,.int .i64)],h:=gO,nx:=6 }
abbrev zA:List (Ev.Ex×Lay):=[((.exit 2),me)]
abbrev VA:=TL zH.σs->Option (Out zA)
abbrev Iy:=Ld 6 220 (bu [1] (aW Tryz.f228)) zH zA
abbrev zI:Lay:={ T:=[(0,.hd 0 ah),(1,.int .i64),(4,.func 146 [] [.ptr 1 0]),(10,.int .i64),(11,.int .i64)],h:=gO,nx:=6 }
abbrev zB:List (Ev.Ex×Lay):=[((.exit 0),{ T:=[(0,.hd 0 ah),(1,.int .i64),(10,.int .i64)],h:=gO,nx:=6 })]
abbrev VB:=TL zI.σs->Option (Out zB)
abbrev Iz:=Ld 6 220 (bu [0] (aW Tryz.f228)) zI zB
def rW(F0:kU)(t1 t10 t11:Int)(b0:List (Sh.T ah))(bR:Int)(bU:List Int)(bV:List (Sh.T ae))(bW bX bZ:List Int)(ca:List (Sh.T ab))(cd:List (Sh.T ae))(b3 b4 b5:List Int):Option (TL zI.σs⊕Out zB):=
 br (iL t10 t11)
 (
  ai (aw (IntKind.wrap .i64 (Int.fdiv (IntKind.wrap .u64 (IntKind.wrap .i64 (t10+t11))) (HPow.hPow (2:Int) (Min.min (Int.toNat (1:Int)) 64)))) (List.length b0))<|
  ai (aw t1 (List.length b0))<|
  ar (F0 ((gt ah b0 (IntKind.wrap .i64 (Int.fdiv (IntKind.wrap .u64 (IntKind.wrap .i64 (t10+t11))) (HPow.hPow (2:Int) (Min.min (Int.toNat (1:Int)) 64))))).1,((gt ah b0 (IntKind.wrap .i64 (Int.fdiv (IntKind.wrap .u64 (IntKind.wrap .i64 (t10+t11))) (HPow.hPow (2:Int) (Min.min (Int.toNat (1:Int)) 64))))).2.1,((gt ah b0 (IntKind.wrap .i64 (Int.fdiv (IntKind.wrap .u64 (IntKind.wrap .i64 (t10+t11))) (HPow.hPow (2:Int) (Min.min (Int.toNat (1:Int)) 64))))).2.2.1,((gt ah b0 t1).1,((gt ah b0 t1).2.1,((gt ah b0 t1).2.2.1,(bR,(bU,(bV,(bW,(bX,(bZ,(ca,(cd,(b3,(b0,(b4,(b5,()))))))))))))))))))) fun x0=>
  br (iL x0.1 (0:Int))
  (
   some (.inl (t1,((IntKind.wrap .i64 ((IntKind.wrap .i64 (Int.fdiv (IntKind.wrap .u64 (IntKind.wrap .i64 (t10+t11))) (HPow.hPow (2:Int) (Min.min (Int.toNat (1:Int)) 64))))+(1:Int))),(t11,(x0.2.2.2.2.2.2.2.2.2.2.1,(x0.2.1,(x0.2.2.1,(x0.2.2.2.1,(x0.2.2.2.2.1,(x0.2.2.2.2.2.1,(x0.2.2.2.2.2.2.1,(x0.2.2.2.2.2.2.2.1,(x0.2.2.2.2.2.2.2.2.1,(x0.2.2.2.2.2.2.2.2.2.1,x0.2.2.2.2.2.2.2.2.2.2.2)))))))))))))))
  (
   some (.inl (t1,(t10,((IntKind.wrap .i64 (Int.fdiv (IntKind.wrap .u64 (IntKind.wrap .i64 (t10+t11))) (HPow.hPow (2:Int) (Min.min (Int.toNat (1:Int)) 64)))),(x0.2.2.2.2.2.2.2.2.2.2.1,(x0.2.1,(x0.2.2.1,(x0.2.2.2.1,(x0.2.2.2.2.1,(x0.2.2.2.2.2.1,(x0.2.2.2.2.2.2.1,(x0.2.2.2.2.2.2.2.1,(x0.2.2.2.2.2.2.2.2.1,(x0.2.2.2.2.2.2.2.2.2.1,x0.2.2.2.2.2.2.2.2.2.2.2))))))))))))))))
 (
  some (.inr (t1,(t10,(b0,(bR,(bU,(bV,(bW,(bX,(bZ,(ca,(cd,(b3,(b4,(b5,()))))))))))))))))
def aiL(c0:ks) :Iz:=bB (dV (rW c0.F)) (pL (kB c0 k0) e0 1 l0 fun d=>by kernel_rfl)
def aiJ(s:kS):Iz:=aiL kV
def VC(F:gd):VB:=aR (fun d=>rW jz  d.1 d.2.1 d.2.2.1 d.2.2.2.1 d.2.2.2.2.1 d.2.2.2.2.2.1 d.2.2.2.2.2.2.1 d.2.2.2.2.2.2.2.1 d.2.2.2.2.2.2.2.2.1 d.2.2.2.2.2.2.2.2.2.1 d.2.2.2.2.2.2.2.2.2.2.1 d.2.2.2.2.2.2.2.2.2.2.2.1 d.2.2.2.2.2.2.2.2.2.2.2.2.1 d.2.2.2.2.2.2.2.2.2.2.2.2.2.1 d.2.2.2.2.2.2.2.2.2.2.2.2.2.2.1) NN
def zP(t10 t13:Int)(b0:List (Sh.T ah))(bR:Int)(bU:List Int)(bV:List (Sh.T ae))(bW bX bZ:List Int)(ca:List (Sh.T ab))(cd:List (Sh.T ae))(b3 b4 b5:List Int):Option (TL zH.σs⊕Out zA):=
 br (iL t13 (IntKind.wrap .i64 (t10-(1:Int))))
 (
  ai (aw (IntKind.wrap .i64 (t13+(1:Int))) (List.length b0))<|
  ai (aw t13 (List.length b0))<|
  ai (aw t13 (List.length b0))<|
  ai (aw (IntKind.wrap .i64 (t13+(1:Int))) (List.length (List.set b0 (Int.toNat t13) ((gt ah b0 (IntKind.wrap .i64 (t13+(1:Int)))).1,((gt ah b0 (IntKind.wrap .i64 (t13+(1:Int)))).2.1,((gt ah b0 (IntKind.wrap .i64 (t13+(1:Int)))).2.2.1,()))))))<|
  ai (iQ t13 t13)<|
  ai (iQ (IntKind.wrap .i64 (t13+(1:Int))) (IntKind.wrap .i64 (t13+(1:Int))))<|
  some (.inl (t10,((IntKind.wrap .i64 (t13+(1:Int))),((List.set (List.set b0 (Int.toNat t13) ((gt ah b0 (IntKind.wrap .i64 (t13+(1:Int)))).1,((gt ah b0 (IntKind.wrap .i64 (t13+(1:Int)))).2.1,((gt ah b0 (IntKind.wrap .i64 (t13+(1:Int)))).2.2.1,())))) (Int.toNat (IntKind.wrap .i64 (t13+(1:Int)))) ((gt ah b0 t13).1,((gt ah b0 t13).2.1,((gt ah b0 t13).2.2.1,())))),(bR,(bU,(bV,(bW,(bX,(bZ,(ca,(cd,(b3,(b4,(b5,()))))))))))))))))
 (
  some (.inr (b0,(bR,(bU,(bV,(bW,(bX,(bZ,(ca,(cd,(b3,(b4,(b5,()))))))))))))))
def aiK  :Iy:=bB (fX zP) (pL k0 e0 1 l0 fun d=>by kernel_rfl)
def aiI(s:kS):Iy:=aiK
def Iw(F:gd):VA:=aR (fun d=>zP   d.1 d.2.1 d.2.2.1 d.2.2.2.1 d.2.2.2.2.1 d.2.2.2.2.2.1 d.2.2.2.2.2.2.1 d.2.2.2.2.2.2.2.1 d.2.2.2.2.2.2.2.2.1 d.2.2.2.2.2.2.2.2.2.1 d.2.2.2.2.2.2.2.2.2.2.1 d.2.2.2.2.2.2.2.2.2.2.2.1 d.2.2.2.2.2.2.2.2.2.2.2.2.1 d.2.2.2.2.2.2.2.2.2.2.2.2.2.1) NN
def rV(F0:kU)(t2 t14 t15:Int)(b0:List (Sh.T ah))(bR:Int)(bU:List Int)(bV:List (Sh.T ae))(bW bX bZ:List Int)(ca:List (Sh.T ab))(cd:List (Sh.T ae))(b3 b4 b5:List Int):Option (TL zE.σs⊕Out zx):=
 br (iL t14 t15)
 (
  ai (aw t2 (List.length b0))<|
  ai (aw (IntKind.wrap .i64 (Int.fdiv (IntKind.wrap .u64 (IntKind.wrap .i64 (t14+t15))) (HPow.hPow (2:Int) (Min.min (Int.toNat (1:Int)) 64)))) (List.length b0))<|
  ar (F0 ((gt ah b0 t2).1,((gt ah b0 t2).2.1,((gt ah b0 t2).2.2.1,((gt ah b0 (IntKind.wrap .i64 (Int.fdiv (IntKind.wrap .u64 (IntKind.wrap .i64 (t14+t15))) (HPow.hPow (2:Int) (Min.min (Int.toNat (1:Int)) 64))))).1,((gt ah b0 (IntKind.wrap .i64 (Int.fdiv (IntKind.wrap .u64 (IntKind.wrap .i64 (t14+t15))) (HPow.hPow (2:Int) (Min.min (Int.toNat (1:Int)) 64))))).2.1,((gt ah b0 (IntKind.wrap .i64 (Int.fdiv (IntKind.wrap .u64 (IntKind.wrap .i64 (t14+t15))) (HPow.hPow (2:Int) (Min.min (Int.toNat (1:Int)) 64))))).2.2.1,(bR,(bU,(bV,(bW,(bX,(bZ,(ca,(cd,(b3,(b0,(b4,(b5,()))))))))))))))))))) fun x0=>
  br (Bool.not (iL x0.1 (0:Int)))
  (
   some (.inl (t2,((IntKind.wrap .i64 ((IntKind.wrap .i64 (Int.fdiv (IntKind.wrap .u64 (IntKind.wrap .i64 (t14+t15))) (HPow.hPow (2:Int) (Min.min (Int.toNat (1:Int)) 64))))+(1:Int))),(t15,(x0.2.2.2.2.2.2.2.2.2.2.1,(x0.2.1,(x0.2.2.1,(x0.2.2.2.1,(x0.2.2.2.2.1,(x0.2.2.2.2.2.1,(x0.2.2.2.2.2.2.1,(x0.2.2.2.2.2.2.2.1,(x0.2.2.2.2.2.2.2.2.1,(x0.2.2.2.2.2.2.2.2.2.1,x0.2.2.2.2.2.2.2.2.2.2.2)))))))))))))))
  (
   some (.inl (t2,(t14,((IntKind.wrap .i64 (Int.fdiv (IntKind.wrap .u64 (IntKind.wrap .i64 (t14+t15))) (HPow.hPow (2:Int) (Min.min (Int.toNat (1:Int)) 64)))),(x0.2.2.2.2.2.2.2.2.2.2.1,(x0.2.1,(x0.2.2.1,(x0.2.2.2.1,(x0.2.2.2.2.1,(x0.2.2.2.2.2.1,(x0.2.2.2.2.2.2.1,(x0.2.2.2.2.2.2.2.1,(x0.2.2.2.2.2.2.2.2.1,(x0.2.2.2.2.2.2.2.2.2.1,x0.2.2.2.2.2.2.2.2.2.2.2))))))))))))))))
 (
  some (.inr (t2,(t14,(b0,(bR,(bU,(bV,(bW,(bX,(bZ,(ca,(cd,(b3,(b4,(b5,()))))))))))))))))
def aiG(c0:ks) :Ir:=bB (dV (rV c0.F)) (pL (kB c0 k0) e0 1 l0 fun d=>by kernel_rfl)
def aiD(s:kS):Ir:=aiG kV
def Vq(F:gd):Vp:=aR (fun d=>rV jz  d.1 d.2.1 d.2.2.1 d.2.2.2.1 d.2.2.2.2.1 d.2.2.2.2.2.1 d.2.2.2.2.2.2.1 d.2.2.2.2.2.2.2.1 d.2.2.2.2.2.2.2.2.1 d.2.2.2.2.2.2.2.2.2.1 d.2.2.2.2.2.2.2.2.2.2.1 d.2.2.2.2.2.2.2.2.2.2.2.1 d.2.2.2.2.2.2.2.2.2.2.2.2.1 d.2.2.2.2.2.2.2.2.2.2.2.2.2.1 d.2.2.2.2.2.2.2.2.2.2.2.2.2.2.1) NN
def zK(t14 t17:Int)(b0:List (Sh.T ah))(bR:Int)(bU:List Int)(bV:List (Sh.T ae))(bW bX bZ:List Int)(ca:List (Sh.T ab))(cd:List (Sh.T ae))(b3 b4 b5:List Int):Option (TL zD.σs⊕Out zw):=
 br (iL t14 t17)
 (
  ai (aw (IntKind.wrap .i64 (t17-(1:Int))) (List.length b0))<|
  ai (aw t17 (List.length b0))<|
  ai (aw t17 (List.length b0))<|
  ai (aw (IntKind.wrap .i64 (t17-(1:Int))) (List.length (List.set b0 (Int.toNat t17) ((gt ah b0 (IntKind.wrap .i64 (t17-(1:Int)))).1,((gt ah b0 (IntKind.wrap .i64 (t17-(1:Int)))).2.1,((gt ah b0 (IntKind.wrap .i64 (t17-(1:Int)))).2.2.1,()))))))<|
  ai (iQ t17 t17)<|
  ai (iQ (IntKind.wrap .i64 (t17-(1:Int))) (IntKind.wrap .i64 (t17-(1:Int))))<|
  some (.inl (t14,((IntKind.wrap .i64 (t17-(1:Int))),((List.set (List.set b0 (Int.toNat t17) ((gt ah b0 (IntKind.wrap .i64 (t17-(1:Int)))).1,((gt ah b0 (IntKind.wrap .i64 (t17-(1:Int)))).2.1,((gt ah b0 (IntKind.wrap .i64 (t17-(1:Int)))).2.2.1,())))) (Int.toNat (IntKind.wrap .i64 (t17-(1:Int)))) ((gt ah b0 t17).1,((gt ah b0 t17).2.1,((gt ah b0 t17).2.2.1,())))),(bR,(bU,(bV,(bW,(bX,(bZ,(ca,(cd,(b3,(b4,(b5,()))))))))))))))))
 (
  some (.inr (b0,(bR,(bU,(bV,(bW,(bX,(bZ,(ca,(cd,(b3,(b4,(b5,()))))))))))))))
def aiF  :Iq:=bB (fX zK) (pL k0 e0 1 l0 fun d=>by kernel_rfl)
def aiC(s:kS):Iq:=aiF
def Io(F:gd):Vo:=aR (fun d=>zK   d.1 d.2.1 d.2.2.1 d.2.2.2.1 d.2.2.2.2.1 d.2.2.2.2.2.1 d.2.2.2.2.2.2.1 d.2.2.2.2.2.2.2.1 d.2.2.2.2.2.2.2.2.1 d.2.2.2.2.2.2.2.2.2.1 d.2.2.2.2.2.2.2.2.2.2.1 d.2.2.2.2.2.2.2.2.2.2.2.1 d.2.2.2.2.2.2.2.2.2.2.2.2.1 d.2.2.2.2.2.2.2.2.2.2.2.2.2.1) NN
def rU(F0:kU)(t1 t2 t3 t18 t19 t20 t21 t22:Int)(b0:List (Sh.T ah))(bR:Int)(bU:List Int)(bV:List (Sh.T ae))(bW bX bZ:List Int)(ca:List (Sh.T ab))(cd:List (Sh.T ae))(b3 b4 b5:List Int):Option (TL zC.σs⊕Out uZ):=
 br (iL t20 t21)
 (
  ai (aw (IntKind.wrap .i64 (t22-(IntKind.wrap .i64 (Int.fdiv (IntKind.wrap .u64 (IntKind.wrap .i64 (t20+t21))) (HPow.hPow (2:Int) (Min.min (Int.toNat (1:Int)) 64)))))) (List.length b0))<|
  ai (aw (IntKind.wrap .i64 (Int.fdiv (IntKind.wrap .u64 (IntKind.wrap .i64 (t20+t21))) (HPow.hPow (2:Int) (Min.min (Int.toNat (1:Int)) 64)))) (List.length b0))<|
  ar (F0 ((gt ah b0 (IntKind.wrap .i64 (t22-(IntKind.wrap .i64 (Int.fdiv (IntKind.wrap .u64 (IntKind.wrap .i64 (t20+t21))) (HPow.hPow (2:Int) (Min.min (Int.toNat (1:Int)) 64))))))).1,((gt ah b0 (IntKind.wrap .i64 (t22-(IntKind.wrap .i64 (Int.fdiv (IntKind.wrap .u64 (IntKind.wrap .i64 (t20+t21))) (HPow.hPow (2:Int) (Min.min (Int.toNat (1:Int)) 64))))))).2.1,((gt ah b0 (IntKind.wrap .i64 (t22-(IntKind.wrap .i64 (Int.fdiv (IntKind.wrap .u64 (IntKind.wrap .i64 (t20+t21))) (HPow.hPow (2:Int) (Min.min (Int.toNat (1:Int)) 64))))))).2.2.1,((gt ah b0 (IntKind.wrap .i64 (Int.fdiv (IntKind.wrap .u64 (IntKind.wrap .i64 (t20+t21))) (HPow.hPow (2:Int) (Min.min (Int.toNat (1:Int)) 64))))).1,((gt ah b0 (IntKind.wrap .i64 (Int.fdiv (IntKind.wrap .u64 (IntKind.wrap .i64 (t20+t21))) (HPow.hPow (2:Int) (Min.min (Int.toNat (1:Int)) 64))))).2.1,((gt ah b0 (IntKind.wrap .i64 (Int.fdiv (IntKind.wrap .u64 (IntKind.wrap .i64 (t20+t21))) (HPow.hPow (2:Int) (Min.min (Int.toNat (1:Int)) 64))))).2.2.1,(bR,(bU,(bV,(bW,(bX,(bZ,(ca,(cd,(b3,(b0,(b4,(b5,()))))))))))))))))))) fun x0=>
  br (Bool.not (iL x0.1 (0:Int)))
  (
   some (.inl (t1,(t2,(t3,(t18,(t19,((IntKind.wrap .i64 ((IntKind.wrap .i64 (Int.fdiv (IntKind.wrap .u64 (IntKind.wrap .i64 (t20+t21))) (HPow.hPow (2:Int) (Min.min (Int.toNat (1:Int)) 64))))+(1:Int))),(t21,(t22,(x0.2.2.2.2.2.2.2.2.2.2.1,(x0.2.1,(x0.2.2.1,(x0.2.2.2.1,(x0.2.2.2.2.1,(x0.2.2.2.2.2.1,(x0.2.2.2.2.2.2.1,(x0.2.2.2.2.2.2.2.1,(x0.2.2.2.2.2.2.2.2.1,(x0.2.2.2.2.2.2.2.2.2.1,x0.2.2.2.2.2.2.2.2.2.2.2))))))))))))))))))))
  (
   some (.inl (t1,(t2,(t3,(t18,(t19,(t20,((IntKind.wrap .i64 (Int.fdiv (IntKind.wrap .u64 (IntKind.wrap .i64 (t20+t21))) (HPow.hPow (2:Int) (Min.min (Int.toNat (1:Int)) 64)))),(t22,(x0.2.2.2.2.2.2.2.2.2.2.1,(x0.2.1,(x0.2.2.1,(x0.2.2.2.1,(x0.2.2.2.2.1,(x0.2.2.2.2.2.1,(x0.2.2.2.2.2.2.1,(x0.2.2.2.2.2.2.2.1,(x0.2.2.2.2.2.2.2.2.1,(x0.2.2.2.2.2.2.2.2.2.1,x0.2.2.2.2.2.2.2.2.2.2.2)))))))))))))))))))))
 (
  some (.inr (t1,(t2,(t3,(t18,(t19,(t20,(b0,(bR,(bU,(bV,(bW,(bX,(bZ,(ca,(cd,(b3,(b4,(b5,()))))))))))))))))))))
def aiE(c0:ks) :Ip:=bB (nG (rU c0.F)) (pL (kB c0 k0) e0 1 l0 fun d=>by kernel_rfl)
def aiB(s:kS):Ip:=aiE kV
def zJ(F:gd):Vn:=aR (fun d=>rU jz  d.1 d.2.1 d.2.2.1 d.2.2.2.1 d.2.2.2.2.1 d.2.2.2.2.2.1 d.2.2.2.2.2.2.1 d.2.2.2.2.2.2.2.1 d.2.2.2.2.2.2.2.2.1 d.2.2.2.2.2.2.2.2.2.1 d.2.2.2.2.2.2.2.2.2.2.1 d.2.2.2.2.2.2.2.2.2.2.2.1 d.2.2.2.2.2.2.2.2.2.2.2.2.1 d.2.2.2.2.2.2.2.2.2.2.2.2.2.1 d.2.2.2.2.2.2.2.2.2.2.2.2.2.2.1 d.2.2.2.2.2.2.2.2.2.2.2.2.2.2.2.1 d.2.2.2.2.2.2.2.2.2.2.2.2.2.2.2.2.1 d.2.2.2.2.2.2.2.2.2.2.2.2.2.2.2.2.2.1 d.2.2.2.2.2.2.2.2.2.2.2.2.2.2.2.2.2.2.1 d.2.2.2.2.2.2.2.2.2.2.2.2.2.2.2.2.2.2.2.1) NN
abbrev aZ:=ah.T
abbrev jf:=TL [.int .i64,.sl (.int .i64),.sl ae,.sl (.int .i64),.sl (.int .i64),.sl (.int .i64),.sl ab,.sl ae,.sl (.int .i64),.sl (.int .u8),.sl (.int .i64)]
abbrev qc:=Option (Out zG)
def sN(F1:gd)(b mid e:Int)(x:List aZ×jf):qc:=br (iL mid e) (br (aQ true (iL e b) false) (ar (F1 (mid,(e,(b,(x.1,x.2))))) fun y=>some (y.1,y.2)) (some x)) (some x)
def vR(F1:gd)(a b mid s e:Int)(x:List aZ×jf):qc:=br (iL a s) (br (aQ true (iL s mid) false) (ar (F1 (a,(s,(mid,(x.1,x.2))))) fun y=>sN F1 b mid e y) (sN F1 b mid e x)) (sN F1 b mid e x)
def Lx(F2:A8)(F1:gd)(a m b mid s e:Int)(x:List aZ×jf):qc:=br (iL s m) (br (aQ true (iL m e) false) (ar (F2 (s,(m,(e,(x.1,x.2))))) fun y=>vR F1 a b mid s e y) (vR F1 a b mid s e x)) (vR F1 a b mid s e x)
def Zj(F2:A8)(F1:gd)(x0:Out uZ):qc:=Lx F2 F1 x0.1 x0.2.1 x0.2.2.1 x0.2.2.2.1 x0.2.2.2.2.2.1 (IntKind.wrap .i64 (@HSub.hSub (Int) (Int) (Int) _ x0.2.2.2.2.1 x0.2.2.2.2.2.1)) x0.2.2.2.2.2.2
def uY(F0:kU)(F1:gd)(F2:A8)(L3:VB)(L9:VA)(L15:Vp)(L21:Vo)(L33:Vn)(t1 t2 t3:Int)(b0:List (Sh.T ah))(bR:Int)(bU:List Int)(bV:List (Sh.T ae))(bW bX bZ:List Int)(ca:List (Sh.T ab))(cd:List (Sh.T ae))(b3 b4 b5:List Int):Option (Out zG):=
 br (iQ (IntKind.wrap .i64 (t2-t1)) (1:Int))
 (
  ar (L3 (t1,(t2,(t3,(b0,(bR,(bU,(bV,(bW,(bX,(bZ,(ca,(cd,(b3,(b4,(b5,())))))))))))))))) fun x0=>
  ar (L9 (x0.2.1,(x0.1,x0.2.2))) fun x1=>
  some x1)
 (
  br (iQ (IntKind.wrap .i64 (t3-t2)) (1:Int))
  (
   ar (L15 (t2,(t1,(t2,(b0,(bR,(bU,(bV,(bW,(bX,(bZ,(ca,(cd,(b3,(b4,(b5,())))))))))))))))) fun x0=>
   ar (L21 (x0.2.1,(x0.1,x0.2.2))) fun x1=>
   some x1)
  (
   br (iL (IntKind.wrap .i64 (Int.fdiv (IntKind.wrap .u64 (IntKind.wrap .i64 (t1+t3))) (HPow.hPow (2:Int) (Min.min (Int.toNat (1:Int)) 64)))) t2)
   (
    ar (L33 (t1,(t2,(t3,((IntKind.wrap .i64 (Int.fdiv (IntKind.wrap .u64 (IntKind.wrap .i64 (t1+t3))) (HPow.hPow (2:Int) (Min.min (Int.toNat (1:Int)) 64)))),((IntKind.wrap .i64 ((IntKind.wrap .i64 (Int.fdiv (IntKind.wrap .u64 (IntKind.wrap .i64 (t1+t3))) (HPow.hPow (2:Int) (Min.min (Int.toNat (1:Int)) 64))))+t2)),((IntKind.wrap .i64 ((IntKind.wrap .i64 ((IntKind.wrap .i64 (Int.fdiv (IntKind.wrap .u64 (IntKind.wrap .i64 (t1+t3))) (HPow.hPow (2:Int) (Min.min (Int.toNat (1:Int)) 64))))+t2))-t3)),((IntKind.wrap .i64 (Int.fdiv (IntKind.wrap .u64 (IntKind.wrap .i64 (t1+t3))) (HPow.hPow (2:Int) (Min.min (Int.toNat (1:Int)) 64)))),((IntKind.wrap .i64 ((IntKind.wrap .i64 ((IntKind.wrap .i64 (Int.fdiv (IntKind.wrap .u64 (IntKind.wrap .i64 (t1+t3))) (HPow.hPow (2:Int) (Min.min (Int.toNat (1:Int)) 64))))+t2))-(1:Int))),(b0,(bR,(bU,(bV,(bW,(bX,(bZ,(ca,(cd,(b3,(b4,(b5,()))))))))))))))))))))) fun x0=>Zj F2 F1 x0)
   (
    ar (L33 (t1,(t2,(t3,((IntKind.wrap .i64 (Int.fdiv (IntKind.wrap .u64 (IntKind.wrap .i64 (t1+t3))) (HPow.hPow (2:Int) (Min.min (Int.toNat (1:Int)) 64)))),((IntKind.wrap .i64 ((IntKind.wrap .i64 (Int.fdiv (IntKind.wrap .u64 (IntKind.wrap .i64 (t1+t3))) (HPow.hPow (2:Int) (Min.min (Int.toNat (1:Int)) 64))))+t2)),(t1,(t2,((IntKind.wrap .i64 ((IntKind.wrap .i64 ((IntKind.wrap .i64 (Int.fdiv (IntKind.wrap .u64 (IntKind.wrap .i64 (t1+t3))) (HPow.hPow (2:Int) (Min.min (Int.toNat (1:Int)) 64))))+t2))-(1:Int))),(b0,(bR,(bU,(bV,(bW,(bX,(bZ,(ca,(cd,(b3,(b4,(b5,()))))))))))))))))))))) fun x0=>Zj F2 F1 x0)))
def aiQ(c0:ks)(c1:kS)(c2:IW)(M3:Iz)(M9:Iy)(M15:Ir)(M21:Iq)(M33:Ip):kS:=⟨dV (uY c0.F c1.F c2.F M3.L M9.L M15.L M21.L M33.L),pB Tryz.func228 220 (kB c0 (kB c1 (kB c2 k0))) e0 1 (sS (sC M3 (sC M9 (sC M15 (sC M21 (sC M33 l0)))))) fun d=>by kernel_rfl⟩
def oQ:Nat->kS
 |0=>mk0 Tryz.func228 (by kernel_rfl) (by kernel_rfl)|k+1=>aiQ kV (oQ k) VU (aiJ (oQ k)) (aiI (oQ k)) (aiD (oQ k)) (aiC (oQ k)) (aiB (oQ k))
def iX(k:Nat):gd:=(oQ k).F
def zV:kS:=oQ NN
def Ix:gd:=zV.F
abbrev VE:Lay:={ T:=[(0,.hd 0 ah),(1,.int .i64),(2,.func 146 [] [.ptr 1 0])],h:=gO,nx:=6 }
abbrev IC:List (Ev.Ex×Lay):=[(.ret,me)]
abbrev VS:=TL VE.σs->Option (Out IC)
abbrev IV:=Kb 197 3 VE 0 IC
abbrev zT:Lay:={ T:=[(0,.hd 0 ah),(1,.int .i64),(2,.func 146 [] [.ptr 1 0]),(6,.int .i64)],h:=gO,nx:=6 }
abbrev zN:List (Ev.Ex×Lay):=[((.exit 2),me)]
abbrev VJ:=TL zT.σs->Option (Out zN)
abbrev II:=Ld 6 63 (bu [1] (aW Tryz.f197)) zT zN
abbrev zS:Lay:=Zu
abbrev zM:List (Ev.Ex×Lay):=[((.exit 4),Zw)]
abbrev IH:=TL zS.σs->Option (Out zM)
abbrev zX:=Ld 6 63 (bu [1,0] (aW Tryz.f197)) zS zM
abbrev zU:Lay:=Zu
abbrev zO:List (Ev.Ex×Lay):=[((.exit 0),Zw)]
abbrev VK:=TL zU.σs->Option (Out zO)
abbrev IJ:=Ld 6 63 (bu [0] (aW Tryz.f197)) zU zO
def IM(F2:Ii)(t1 t6 t7 t8:Int)(b0:List (Sh.T ah))(bR:Int)(bU:List Int)(bV:List (Sh.T ae))(bW bX bZ:List Int)(ca:List (Sh.T ab))(cd:List (Sh.T ae))(b3 b4 b5:List Int):Option (TL zU.σs⊕Out zO):=
 br (iE t8 t1)
 (
  ar (F2 (t7,(t8,(b0,(bR,(bU,(bV,(bW,(bX,(bZ,(ca,(cd,(b3,(b4,(b5,()))))))))))))))) fun x0=>
  some (.inl (t1,(t6,(t8,((IntKind.wrap .i64 (t8+t6)),x0))))))
 (
  some (.inr (t1,(t6,(t7,(b0,(bR,(bU,(bV,(bW,(bX,(bZ,(ca,(cd,(b3,(b4,(b5,())))))))))))))))))
def aiV(c2:zz) :IJ:=bB (u16 (IM c2.F)) (pL (kB c2 k0) e0 1 l0 fun d=>by kernel_rfl)
def aiS:IJ:=aiV Ij
def VN:VK:=aR (u16 (IM U0)) NN
def IK(F1:gd)(t1 t6 t7 t8:Int)(b0:List (Sh.T ah))(bR:Int)(bU:List Int)(bV:List (Sh.T ae))(bW bX bZ:List Int)(ca:List (Sh.T ab))(cd:List (Sh.T ae))(b3 b4 b5:List Int):Option (TL zS.σs⊕Out zM):=
 br (iE t8 t1)
 (
  ar (F1 (t7,((IntKind.wrap .i64 (t7+t6)),(t8,(b0,(bR,(bU,(bV,(bW,(bX,(bZ,(ca,(cd,(b3,(b4,(b5,())))))))))))))))) fun x0=>
  some (.inl (t1,(t6,(t8,((IntKind.wrap .i64 (t8+(IntKind.wrap .i64 ((2:Int)*t6)))),x0))))))
 (
  some (.inr (t1,(t6,(t7,(b0,(bR,(bU,(bV,(bW,(bX,(bZ,(ca,(cd,(b3,(b4,(b5,())))))))))))))))))
def aiT(c1:kS) :zX:=bB (u16 (IK c1.F)) (pL (kB c1 k0) e0 1 l0 fun d=>by kernel_rfl)
def VL:zX:=aiT zV
def zW:IH:=aR (u16 (IK Ix)) NN
def IL(F1:gd)(L9:IH)(t1 t6:Int)(b0:List (Sh.T ah))(bR:Int)(bU:List Int)(bV:List (Sh.T ae))(bW bX bZ:List Int)(ca:List (Sh.T ab))(cd:List (Sh.T ae))(b3 b4 b5:List Int):Option (TL zT.σs⊕Out zN):=
 br (iL t6 t1)
 (
  ar (L9 (t1,(t6,((0:Int),((IntKind.wrap .i64 ((2:Int)*t6)),(b0,(bR,(bU,(bV,(bW,(bX,(bZ,(ca,(cd,(b3,(b4,(b5,()))))))))))))))))) fun x0=>
  br (iL (IntKind.wrap .i64 (@HAdd.hAdd (Int) (Int) (Int) _ x0.2.2.1 x0.2.1)) x0.1)
  (
   ar (F1 (x0.2.2.1,((IntKind.wrap .i64 (@HAdd.hAdd (Int) (Int) (Int) _ x0.2.2.1 x0.2.1)),(x0.1,x0.2.2.2)))) fun x1=>
   some (.inl (x0.1,((IntKind.wrap .i64 (@HMul.hMul (Int) (Int) (Int) _ x0.2.1 (2:Int))),x1))))
  (
   some (.inl (x0.1,((IntKind.wrap .i64 (@HMul.hMul (Int) (Int) (Int) _ x0.2.1 (2:Int))),x0.2.2.2)))))
 (
  some (.inr (b0,(bR,(bU,(bV,(bW,(bX,(bZ,(ca,(cd,(b3,(b4,(b5,()))))))))))))))
def aiU(c1:kS)(M9:zX):II:=bB (fX (IL c1.F M9.L)) (pL (kB c1 k0) e0 1 (sC M9 l0) fun d=>by kernel_rfl)
def aiR:II:=aiU zV VL
def VM:VJ:=aR (fX (IL Ix zW)) NN
def ai3(F0:kU)(F1:gd)(F2:Ii)(L2:VK)(L7:VJ)(L9:IH)(t1:Int)(b0:List (Sh.T ah))(bR:Int)(bU:List Int)(bV:List (Sh.T ae))(bW bX bZ:List Int)(ca:List (Sh.T ab))(cd:List (Sh.T ae))(b3 b4 b5:List Int):Option (Out IC):=
 ar (L2 (t1,((20:Int),((0:Int),((20:Int),(b0,(bR,(bU,(bV,(bW,(bX,(bZ,(ca,(cd,(b3,(b4,(b5,()))))))))))))))))) fun x0=>
 ar (F2 (x0.2.2.1,(x0.1,x0.2.2.2))) fun x1=>
 ar (L7 (x0.1,(x0.2.1,x1))) fun x2=>
 some x2
def ai2(c0:ks)(c1:kS)(c2:zz)(M2:IJ)(M7:II)(M9:zX):IV:=⟨nF (ai3 c0.F c1.F c2.F M2.L M7.L M9.L),pB Tryz.func197 63 (kB c0 (kB c1 (kB c2 k0))) e0 1 (sS (sC M2 (sC M7 l0))) fun d=>by kernel_rfl⟩
def VT:IV:=ai2 kV zV Ij aiS aiR VL
def aiW:VS:=VT.F
abbrev UK:Lay:={ T:=[(0,.hd 0 ah),(1,.func 146 [] [.ptr 1 0])],h:=gO,nx:=6 }
abbrev HH:List (Ev.Ex×Lay):=[(.ret,me)]
abbrev UL:=TL UK.σs->Option (Out HH)
abbrev HQ:=Kb 145 2 UK 0 HH
def ah3(F0:kU)(F1:VS)(b0:List (Sh.T ah))(bR:Int)(bU:List Int)(bV:List (Sh.T ae))(bW bX bZ:List Int)(ca:List (Sh.T ab))(cd:List (Sh.T ae))(b3 b4 b5:List Int):Option (Out HH):=
 ar (F1 ((Int.ofNat (List.length b0)),(b0,(bR,(bU,(bV,(bW,(bX,(bZ,(ca,(cd,(b3,(b4,(b5,())))))))))))))) fun x0=>
 some x0
def ah2(c0:ks)(c1:IV) :HQ:=⟨jY (ah3 c0.F c1.F),pB Tryz.func145 9 (kB c0 (kB c1 k0)) e0 1 (sS l0) fun d=>by kernel_rfl⟩
def UM:HQ:=ah2 kV VT
def ah1:UL:=UM.F
abbrev XQ:List Sh:=[bg]
abbrev Kt:List Sh:=[(.sl ah),.bool]
abbrev X6:=TL XQ->Option (TL Kt)
abbrev KF:=Kd 78 XQ Kt
def akK(F0:UL)(F1:kU)(F2:KK)(a0:Sh.T bg):Option (TL Kt):=
 ar (F2 a0) fun x0=>
 (match x0 with
 |.inl x1=>
  ai (Bool.not (iQ x1.1 (0:Int)))<|
  some ([],(false,()))
 |.inr x1=>
  br (Bool.not (iQ x1.1 (0:Int)))
  (
   some ([],(false,())))
  (
   ar (F0 (x1.2.2.2.2.2.2.2.2.2.2.1,(x1.2.1,(x1.2.2.1,(x1.2.2.2.1,(x1.2.2.2.2.1,(x1.2.2.2.2.2.1,(x1.2.2.2.2.2.2.1,(x1.2.2.2.2.2.2.2.1,(x1.2.2.2.2.2.2.2.2.1,(x1.2.2.2.2.2.2.2.2.2.1,x1.2.2.2.2.2.2.2.2.2.2.2))))))))))) fun x2=>
   some (x2.1,(true,())))
 )
def akJ(c0:HQ)(c1:ks)(c2:BI) :KF:=⟨u1 (akK c0.F c1.F c2.F),pD Tryz.func78 23 (kB c0 (kB c1 (kB c2 k0))) e0 1 (sS l0) fun d=>by kernel_rfl⟩
def X8:KF:=akJ UM kV KL
def akz:X6:=X8.F
abbrev Yn:List Sh:=[(.int .i64)]
abbrev KO:List Sh:=[.bool]
abbrev Yv:=TL Yn->Option (TL KO)
abbrev KU:=Kd 149 Yn KO
def KT(a0:Int):Option (TL KO):=some ((iQ (lM .i64 a0 (1:Int)) (1:Int)),())
def ale  :KU:=⟨u1 KT,pD Tryz.func149 6 k0 e0 1 (sS l0) fun d=>by kernel_rfl⟩
def Yw:KU:=ale
def Yo:Yv:=Yw.F
abbrev Yd:List Sh:=[(.int .i64),(.sl .bool)]
abbrev BH:List Sh:=[.bool]
abbrev lT:=TL Yd->Option (TL BH)
abbrev kW:=Kd 80 Yd BH
def KP(F0:Yv)(F1:BJ)(a0:Int)(a1:List Bool):Option (TL BH):=
 br (iL a0 (0:Int))
 (
  some (false,()))
 (
  ar (F1 (a0,())) fun x0=>
  ar (F0 (a0,())) fun x1=>
  br (iL (0:Int) x0.1)
  (
   br (aQ true (iL x0.1 (Int.ofNat (List.length a1))) false)
   (
    ai (aw x0.1 (List.length a1))<|
    some ((Bool.not (@decide _ (Bool.decEq x1.1 (aQ true (gt .bool a1 x0.1) false)))),()))
   (
    some ((Bool.not (@decide _ (Bool.decEq x1.1 false))),())))
  (
   some ((Bool.not (@decide _ (Bool.decEq x1.1 false))),())))
def ak4(c0:KU)(c1:vz) :kW:=⟨u2 (KP c0.F c1.F),pD Tryz.func80 27 (kD c0 (kD c1 k0)) e0 1 (sS l0) fun d=>by kernel_rfl⟩
def lV:kW:=ak4 Yw BK
def jA:lT:=lV.F
abbrev Bk:Lay:={ T:=[(1,.fz .bool),(4,.int .u64),(11,.fz (.int .i64)),(12,.int .i64),(13,.int .i64)],h:=[],nx:=0 }
abbrev Bh:List (Ev.Ex×Lay):=[((.exit 0),{ T:=[(4,.int .u64)],h:=[],nx:=0 })]
abbrev XM:=TL Bk.σs->Option (Out Bh)
abbrev Ki:=Ld 0 27 (bu [0] (aW Tryz.f81)) Bk Bh
def Bu(F0:lT)(t1:List Bool)(t4:Int)(t11:List Int)(t12 t13:Int):Option (TL Bk.σs⊕Out Bh):=
 br (iL t13 t12)
 (
  ai (aw t13 (List.length t11))<|
  ar (F0 ((gt (.int .i64) t11 t13),(t1,()))) fun x0=>
  br x0.1
  (
   ai (iE (0:Int) t13)<|
   some (.inl (t1,((sE .u64 t4 (IntKind.wrap .u64 ((1:Int)*(HPow.hPow (2:Int) (Min.min (Int.toNat t13) 64))))),(t11,(t12,((IntKind.wrap .i64 (t13+(1:Int))),())))))))
  (
   some (.inl (t1,(t4,(t11,(t12,((IntKind.wrap .i64 (t13+(1:Int))),()))))))))
 (
  some (.inr (t4,())))
def akv(c0:kW) :Ki:=bB (u5 (Bu c0.F)) (pL (kD c0 k0) e0 1 l0 fun d=>by kernel_rfl)
def aku:Ki:=akv lV
def Bt:XM:=aR (u5 (Bu jA)) NN
abbrev XL:List Sh:=[(.sl (.int .i64)),(.sl .bool)]
abbrev Kh:List Sh:=[(.int .u64)]
abbrev vm:=TL XL->Option (TL Kh)
abbrev sk:=Kd 81 XL Kh
def KB(F0:lT)(L2:XM)(a0:List Int)(a1:List Bool):Option (TL Kh):=
 ai (both (iE (0:Int) (cQ (iL (64:Int) (Int.ofNat (List.length a0))) (64:Int) (Int.ofNat (List.length a0)))) (iE (cQ (iL (64:Int) (Int.ofNat (List.length a0))) (64:Int) (Int.ofNat (List.length a0))) (Int.ofNat (List.length a0))))<|
 ar (L2 (a1,((0:Int),((List.take (Int.toNat (cQ (iL (64:Int) (Int.ofNat (List.length a0))) (64:Int) (Int.ofNat (List.length a0)))) a0),((Int.ofNat (List.length (List.take (Int.toNat (cQ (iL (64:Int) (Int.ofNat (List.length a0))) (64:Int) (Int.ofNat (List.length a0)))) a0))),((0:Int),())))))) fun x0=>
 some (x0.1,())
def akE(c0:kW)(M2:Ki):sk:=⟨u2 (KB c0.F M2.L),pD Tryz.func81 27 (kD c0 k0) e0 1 (sS (sC M2 l0)) fun d=>by kernel_rfl⟩
def vn:sk:=akE lV aku
def qh:vm:=vn.F
abbrev Bp:Lay:={ T:=[(0,.int .u64),(4,.hd 0 .bool),(7,.int .i64),(8,.int .i64)],h:=[(0,.arr .bool 4)],nx:=1 }
abbrev Bl:List (Ev.Ex×Lay):=[((.exit 0),{ T:=[(4,.hd 0 .bool)],h:=[(0,.arr .bool 4)],nx:=1 })]
abbrev XU:=TL Bp.σs->Option (Out Bl)
abbrev XV:=Ld 0 21 (bu [0] (aW Tryz.f63)) Bp Bl
def BB(t0 t7 t8:Int)(b0:List Bool):Option (TL Bp.σs⊕Out Bl):=
 br (iL t8 t7)
 (
  ai (iE (0:Int) t8)<|
  ai (room 1 (List.length (ap b0 ((iQ (lM .u64 (Int.fdiv t0 (HPow.hPow (2:Int) (Min.min (Int.toNat t8) 64))) (1:Int)) (1:Int))::[]))))<|
  some (.inl (t0,(t7,((IntKind.wrap .i64 (t8+(1:Int))),((ap b0 ((iQ (lM .u64 (Int.fdiv t0 (HPow.hPow (2:Int) (Min.min (Int.toNat t8) 64))) (1:Int)) (1:Int))::[])),()))))))
 (
  some (.inr (b0,())))
def akF  :XV:=bB (u4 BB) (pL k0 e0 1 l0 fun d=>by kernel_rfl)
def KD:XU:=aR (u4 BB) NN
abbrev XT:List Sh:=[(.int .u64),(.int .i64)]
abbrev KC:List Sh:=[(.sl .bool)]
abbrev lW:=TL XT->Option (TL KC)
abbrev kY:=Kd 63 XT KC
def KI(F0:J2)(L2:XU)(a0 a1:Int):Option (TL KC):=
 ar (F0 (a1,())) fun x0=>
 ar (L2 (a0,(x0.1,((0:Int),([],()))))) fun x1=>
 some (x1.1,())
def akS(c0:A9)(M2:XV):kY:=⟨u2 (KI c0.F M2.L),pD Tryz.func63 21 (kD c0 k0) e0 1 (sS (sC M2 l0)) fun d=>by kernel_rfl⟩
def lY:kY:=akS J3 akF
def iZ:lW:=lY.F
abbrev AM:Lay:={ T:=[(0,.fz .bool),(3,.int .u64),(4,.int .u64),(5,.int .i64)],h:=[],nx:=0 }
abbrev Az:List (Ev.Ex×Lay):=[((.exit 0),{ T:=[(3,.int .u64)],h:=[],nx:=0 })]
abbrev Xc:=TL AM.σs->Option (Out Az)
abbrev Xd:=Ld 0 26 (bu [0] (aW Tryz.f121)) AM Az
def AZ(t0:List Bool)(t3 t4 t5:Int):Option (TL AM.σs⊕Out Az):=
 br (iL t5 (Int.ofNat (List.length t0)))
 (
  br (aQ true (iL t5 (64:Int)) false)
  (
   ai (aw t5 (List.length t0))<|
   br (gt .bool t0 t5)
   (
    some (.inl (t0,((IntKind.wrap .u64 (t3+t4)),((IntKind.wrap .u64 (t4*(2:Int))),((IntKind.wrap .i64 (t5+(1:Int))),()))))))
   (
    some (.inl (t0,(t3,((IntKind.wrap .u64 (t4*(2:Int))),((IntKind.wrap .i64 (t5+(1:Int))),())))))))
  (
   some (.inr (t3,()))))
 (
  some (.inr (t3,())))
def ajN  :Xd:=bB (u4 AZ) (pL k0 e0 1 l0 fun d=>by kernel_rfl)
def JI:Xc:=aR (u4 AZ) NN
abbrev Xb:List Sh:=[(.sl .bool)]
abbrev JH:List Sh:=[(.int .u64)]
abbrev Kc:=TL Xb->Option (TL JH)
abbrev Bf:=Kd 121 Xb JH
def JX(L3:Xc)(a0:List Bool):Option (TL JH):=
 ar (L3 (a0,((0:Int),((1:Int),((0:Int),()))))) fun x0=>
 some (x0.1,())
def aj2(M3:Xd):Bf:=⟨u1 (JX M3.L),pD Tryz.func121 26 k0 e0 1 (sS (sC M3 l0)) fun d=>by kernel_rfl⟩
def Ke:Bf:=aj2  ajN
def J9:Kc:=Ke.F
abbrev AA:Lay:={ T:=[(0,.int .u64),(1,.int .i64),(5,.hd 0 .bool),(6,.int .i64)],h:=[(0,.arr .bool 4)],nx:=1 }
abbrev Aj:List (Ev.Ex×Lay):=[((.exit 0),{ T:=[(5,.hd 0 .bool)],h:=[(0,.arr .bool 4)],nx:=1 })]
abbrev WJ:=TL AA.σs->Option (Out Aj)
abbrev WK:=Ld 0 25 (bu [0] (aW Tryz.f116)) AA Aj
def AR(t0 t1 t6:Int)(b0:List Bool):Option (TL AA.σs⊕Out Aj):=
 br (iL t6 t1)
 (
  br (aQ true (iL t6 (64:Int)) false)
  (
   ai (room 1 (List.length (ap b0 ((iQ (Int.tmod t0 (2:Int)) (1:Int))::[]))))<|
   some (.inl ((IntKind.wrap .u64 (Int.tdiv t0 (2:Int))),(t1,((IntKind.wrap .i64 (t6+(1:Int))),((ap b0 ((iQ (Int.tmod t0 (2:Int)) (1:Int))::[])),()))))))
  (
   some (.inr (b0,()))))
 (
  some (.inr (b0,())))
def ajw  :WK:=bB (u4 AR) (pL k0 e0 1 l0 fun d=>by kernel_rfl)
def Jv:WJ:=aR (u4 AR) NN
abbrev WI:List Sh:=[(.int .u64),(.int .i64)]
abbrev Ju:List Sh:=[(.sl .bool)]
abbrev JJ:=TL WI->Option (TL Ju)
abbrev A0:=Kd 116 WI Ju
def JL(L3:WJ)(a0 a1:Int):Option (TL Ju):=
 ar (L3 (a0,(a1,((0:Int),([],()))))) fun x0=>
 some (x0.1,())
def ajO(M3:WK):A0:=⟨u2 (JL M3.L),pD Tryz.func116 25 k0 e0 1 (sS (sC M3 l0)) fun d=>by kernel_rfl⟩
def JK:A0:=ajO  ajw
def I2:JJ:=JK.F
abbrev AL:Lay:={ T:=[(0,.fz aC),(1,.int .u64),(5,.int .i64)],h:=[],nx:=0 }
abbrev vd:List (Ev.Ex×Lay):=[(.ret,{ T:=[(4,.int .u64)],h:=[],nx:=0 }),((.exit 0),{ T:=[],h:=[],nx:=0 })]
abbrev W8:=TL AL.σs->Option (Out vd)
abbrev Xa:=Ld 0 24 (bu [0] (aW Tryz.f188)) AL vd
def AY(t0:List (Sh.T aC))(t1 t5:Int):Option (TL AL.σs⊕Out vd):=
 br (iL t5 (Int.ofNat (List.length t0)))
 (
  ai (aw t5 (List.length t0))<|
  br (iQ (gt aC t0 t5).1 t1)
  (
   ai (aw t5 (List.length t0))<|
   some (.inr (.inl ((gt aC t0 t5).2.1,()))))
  (
   some (.inl (t0,(t1,((IntKind.wrap .i64 (t5+(1:Int))),()))))))
 (
  some (.inr (.inr ())))
def ajM  :Xa:=bB (u3 AY) (pL k0 e0 1 l0 fun d=>by kernel_rfl)
def W9:W8:=aR (u3 AY) NN
abbrev W7:List Sh:=[(.sl aC),(.int .u64)]
abbrev JG:List Sh:=[(.int .u64)]
abbrev JU:=TL W7->Option (TL JG)
abbrev Ba:=Kd 188 W7 JG
def JW(L2:W8)(a0:List (Sh.T aC))(a1:Int):Option (TL JG):=
 ar (L2 (a0,(a1,((0:Int),())))) fun x0=>
 (match x0 with|.inl x1=>some (x1.1,())|.inr x1=>some ((0:Int),())
 )
def aj1(M2:Xa):Ba:=⟨u2 (JW M2.L),pD Tryz.func188 24 k0 e0 1 (sS (sC M2 l0)) fun d=>by kernel_rfl⟩
def JV:Ba:=aj1  ajM
def I6:JU:=JV.F
abbrev aim:Lay:={ T:=[(0,.dA (.int .i64))],h:=[],nx:=0 }
abbrev Vl:List (Ev.Ex×Lay):=[(.ret,{ T:=[(0,.hd 0 (.int .i64))],h:=[(0,.arr (.int .i64) 3)],nx:=1 })]
abbrev Wh:=Kb 131 1 aim 1 Vl
def ajd(t0z:Bool)(t0:List Int):Option (Out Vl):=
 br t0z
 (
  some ([],()))
 (
  ai (room 8 (List.length (ap [] t0)))<|
  some ((ap [] t0),()))
def ajc  :Wh:=⟨u2 ajd,pB Tryz.func131 8 k0 e0 1 (sS l0) fun d=>by kernel_rfl⟩
def aiA:Wh:=ajc
abbrev Wj:List Sh:=[.sl (.int .i64)]
abbrev Wi:List Sh:=[.sl (.int .i64)]
abbrev Aw:=TL Wj->Option (TL Wi)
abbrev Ay:=Kd 131 Wj Wi
def Ax:Ay:=⟨_,KA aiA.ok rfl (fun L=>rfl) (fun L=>⟨_,_,rfl,rfl,rfl⟩)⟩
def rX:Aw:=Ax.F
abbrev ahU:Lay:={ T:=[(0,.dA ae)],h:=[],nx:=0 }
abbrev UI:List (Ev.Ex×Lay):=[(.ret,{ T:=[(0,.hd 0 ae)],h:=[(0,.arr ae 95)],nx:=1 })]
abbrev Vi:=Kb 132 1 ahU 1 UI
def aiy(t0z:Bool)(t0:List (Sh.T ae)):Option (Out UI):=
 br t0z
 (
  some ([],()))
 (
  ai (room 24 (List.length (ap [] t0)))<|
  some ((ap [] t0),()))
def aix  :Vi:=⟨u2 aiy,pB Tryz.func132 8 k0 e0 1 (sS l0) fun d=>by kernel_rfl⟩
def ahX:Vi:=aix
abbrev Vk:List Sh:=[.sl ae]
abbrev Vj:List Sh:=[.sl ae]
abbrev Vx:=TL Vk->Option (TL Vj)
abbrev Vz:=Kd 132 Vk Vj
def Vy:Vz:=⟨_,KA ahX.ok rfl (fun L=>rfl) (fun L=>⟨_,_,rfl,rfl,rfl⟩)⟩
def aiz:Vx:=Vy.F
abbrev ahZ:Lay:={ T:=[(0,.dA ae)],h:=[],nx:=0 }
abbrev UJ:List (Ev.Ex×Lay):=[(.ret,{ T:=[(0,.hd 0 ae)],h:=[(0,.arr ae 150)],nx:=1 })]
abbrev VP:=Kb 133 1 ahZ 1 UJ
def ai0(t0z:Bool)(t0:List (Sh.T ae)):Option (Out UJ):=
 br t0z
 (
  some ([],()))
 (
  ai (room 24 (List.length (ap [] t0)))<|
  some ((ap [] t0),()))
def aiZ  :VP:=⟨u2 ai0,pB Tryz.func133 8 k0 e0 1 (sS l0) fun d=>by kernel_rfl⟩
def ah0:VP:=aiZ
abbrev VR:List Sh:=[.sl ae]
abbrev VQ:List Sh:=[.sl ae]
abbrev VV:=TL VR->Option (TL VQ)
abbrev VX:=Kd 133 VR VQ
def VW:VX:=⟨_,KA ah0.ok rfl (fun L=>rfl) (fun L=>⟨_,_,rfl,rfl,rfl⟩)⟩
def ai1:VV:=VW.F
abbrev ahR:Lay:={ T:=[(0,.dA ab)],h:=[],nx:=0 }
abbrev Hz:List (Ev.Ex×Lay):=[(.ret,{ T:=[(0,.hd 0 ab)],h:=[(0,.arr ab 116)],nx:=1 })]
abbrev Va:=Kb 134 1 ahR 1 Hz
def air(t0z:Bool)(t0:List (Sh.T ab)):Option (Out Hz):=
 br t0z
 (
  some ([],()))
 (
  ai (room 72 (List.length (ap [] t0)))<|
  some ((ap [] t0),()))
def aiq  :Va:=⟨u2 air,pB Tryz.func134 8 k0 e0 1 (sS l0) fun d=>by kernel_rfl⟩
def ahT:Va:=aiq
abbrev U1:Lay:={ T:=[(0,.fz ab)],h:=[],nx:=0 }
abbrev UX:List (Ev.Ex×Lay):=Hz
abbrev Vc:=TL U1.σs->Option (Out UX)
abbrev Ve:=Kb 134 1 U1 1 UX
def Vd:Ve:=D6 ahT rfl
def ais:Vc:=Vd.F
abbrev ahW:Lay:={ T:=[(0,.dA bO)],h:=[],nx:=0 }
abbrev HK:List (Ev.Ex×Lay):=[(.ret,{ T:=[(0,.hd 0 bO)],h:=[(0,.arr bO 152)],nx:=1 })]
abbrev VD:=Kb 135 1 ahW 1 HK
def aiP(t0z:Bool)(t0:List (Sh.T bO)):Option (Out HK):=
 br t0z
 (
  some ([],()))
 (
  ai (room 32 (List.length (ap [] t0)))<|
  some ((ap [] t0),()))
def aiO  :VD:=⟨u2 aiP,pB Tryz.func135 8 k0 e0 1 (sS l0) fun d=>by kernel_rfl⟩
def ahY:VD:=aiO
abbrev Vw:Lay:={ T:=[(0,.fz bO)],h:=[],nx:=0 }
abbrev Vh:List (Ev.Ex×Lay):=HK
abbrev IE:=TL Vw.σs->Option (Out Vh)
abbrev IG:=Kb 135 1 Vw 1 Vh
def IF:IG:=D6 ahY rfl
def ID:IE:=IF.F
abbrev ahS:Lay:={ T:=[(0,.dA bE)],h:=[],nx:=0 }
abbrev HA:List (Ev.Ex×Lay):=[(.ret,{ T:=[(0,.hd 0 bE)],h:=[(0,.arr bE 175)],nx:=1 })]
abbrev Vg:=Kb 136 1 ahS 1 HA
def aiw(t0z:Bool)(t0:List (Sh.T bE)):Option (Out HA):=
 br t0z
 (
  some ([],()))
 (
  ai (room 56 (List.length (ap [] t0)))<|
  some ((ap [] t0),()))
def aiv  :Vg:=⟨u2 aiw,pB Tryz.func136 8 k0 e0 1 (sS l0) fun d=>by kernel_rfl⟩
def ahV:Vg:=aiv
abbrev Vb:Lay:={ T:=[(0,.fz bE)],h:=[],nx:=0 }
abbrev U9:List (Ev.Ex×Lay):=HA
abbrev Is:=TL Vb.σs->Option (Out U9)
abbrev Iu:=Kb 136 1 Vb 1 U9
def It:Iu:=D6 ahV rfl
def Im:Is:=It.F
abbrev Bs:Lay:={ T:=[(1,.ptr 0 0),(2,.ptr 2 0),(41,.int .i64),(42,.int .i64)],h:=Zt,nx:=3 }
abbrev Bm:List (Ev.Ex×Lay):=[((.exit 2),{ T:=[(1,.ptr 0 0),(2,.ptr 2 0)],h:=Zt,nx:=3 })]
abbrev Ya:=TL Bs.σs->Option (Out Bm)
abbrev KH:=Ld 0 123 (bu [1] (aW Tryz.f68)) Bs Bm
abbrev Bn:Lay:={ T:=[(1,.ptr 0 0),(2,.ptr 4 0),(6,.dw 1 5 0),(41,.int .i64),(42,.int .i64),(94,.int .i64),(95,.int .i64)],h:=Ce,nx:=5 }
abbrev Bi:List (Ev.Ex×Lay):=[((.exit 6),{ T:=[(1,.ptr 0 0),(2,.ptr 4 0),(41,.int .i64),(42,.int .i64)],h:=Ce,nx:=5 })]
abbrev Kw:=TL Bn.σs->Option (Out Bi)
abbrev Bv:=Ld 0 123 (bu [1,1] (aW Tryz.f68)) Bn Bi
abbrev Bo:Lay:={ T:=[(1,.ptr 0 0),(2,.ptr 4 0),(6,.dw 1 5 0),(41,.int .i64),(42,.int .i64),(69,.int .i64),(70,.int .i64)],h:=Ce,nx:=5 }
abbrev Bj:List (Ev.Ex×Lay):=[((.exit 4),{ T:=[(1,.ptr 0 0),(2,.ptr 4 0),(6,.dw 1 5 0),(41,.int .i64),(42,.int .i64)],h:=Ce,nx:=5 })]
abbrev Kx:=TL Bo.σs->Option (Out Bj)
abbrev Bw:=Ld 0 123 (bu [1,0] (aW Tryz.f68)) Bo Bj
def BA(F2:Aw)(t6 t41 t42 t69 t70 aE:Int)(aD:List Int)(aG:List (Sh.T ae))(aH aI aL:List Int)(aF:List (Sh.T ae))(b1i:Int)(b1:List (Sh.T ab))(cG cN:Int)(fO:Bool)(b2:List (Sh.T bO))(b3:List (Sh.T bE))(qm:Int):Option (TL Bo.σs⊕Out Bj):=
 br (iL t70 t69)
 (
  ai (Nat.beq (Int.toNat t6) (Int.toNat b1i))<|
  ai (Nat.beq (Int.toNat t6) (Int.toNat b1i))<|
  ai (aw t70 (List.length b2))<|
  ar (F2 ((gt bO b2 t70).2.1,())) fun x0=>
  ai (aw t70 (List.length b2))<|
  some (.inl ((Int.ofNat (Int.toNat t6)),(t41,(t42,(t69,((IntKind.wrap .i64 (t70+(1:Int))),(aE,(aD,(aG,(aH,(aI,(aL,(aF,((Int.ofNat (Int.toNat b1i)),(b1,(cG,(cN,(fO,((List.set b2 (Int.toNat t70) ((gt bO b2 t70).1,(x0.1,()))),(b3,(qm,()))))))))))))))))))))))
 (
  some (.inr ((Int.ofNat (Int.toNat t6)),(t41,(t42,(aE,(aD,(aG,(aH,(aI,(aL,(aF,((Int.ofNat (Int.toNat b1i)),(b1,(cG,(cN,(fO,(b2,(b3,(qm,()))))))))))))))))))))
def akC(c2:Ay) :Bw:=bB (nG (BA c2.F)) (pL (kD c2 k0) e0 1 l0 fun d=>by kernel_rfl)
def XS:Bw:=akC Ax
def Kz:Kx:=aR (nG (BA rX)) NN
def Bz(F2:Aw)(t6 t41 t42 t94 t95 aE:Int)(aD:List Int)(aG:List (Sh.T ae))(aH aI aL:List Int)(aF:List (Sh.T ae))(b1i:Int)(b1:List (Sh.T ab))(cG cN:Int)(fO:Bool)(b2:List (Sh.T bO))(b3:List (Sh.T bE))(qm:Int):Option (TL Bn.σs⊕Out Bi):=
 br (iL t95 t94)
 (
  ai (Nat.beq (Int.toNat t6) (Int.toNat b1i))<|
  ai (aw t95 (List.length b3))<|
  ar (F2 ((gt bE b3 t95).2.1,())) fun x0=>
  ar (F2 ((gt bE b3 t95).2.2.1,())) fun x1=>
  ai (nQ (Int.toNat t95) (Int.toNat t95))<|
  some (.inl ((Int.ofNat (Int.toNat t6)),(t41,(t42,(t94,((IntKind.wrap .i64 (t95+(1:Int))),(aE,(aD,(aG,(aH,(aI,(aL,(aF,((Int.ofNat (Int.toNat b1i)),(b1,(cG,(cN,(fO,(b2,((List.set (List.set b3 (Int.toNat t95) ((gt bE b3 t95).1,(x0.1,((gt bE b3 t95).2.2.1,())))) (Int.toNat t95) ((gt bE (List.set b3 (Int.toNat t95) ((gt bE b3 t95).1,(x0.1,((gt bE b3 t95).2.2.1,())))) t95).1,((gt bE (List.set b3 (Int.toNat t95) ((gt bE b3 t95).1,(x0.1,((gt bE b3 t95).2.2.1,())))) t95).2.1,(x1.1,())))),(qm,()))))))))))))))))))))))
 (
  some (.inr (t41,(t42,(aE,(aD,(aG,(aH,(aI,(aL,(aF,((Int.ofNat (Int.toNat b1i)),(b1,(cG,(cN,(fO,(b2,(b3,(qm,())))))))))))))))))))
def akB(c2:Ay) :Bv:=bB (nG (Bz c2.F)) (pL (kD c2 k0) e0 1 l0 fun d=>by kernel_rfl)
def XR:Bv:=akB Ax
def Ky:Kw:=aR (nG (Bz rX)) NN
def BG(F3:Is)(F4:IE)(L13:Kx)(L18:Kw)(t41 t42 aE:Int)(aD:List Int)(aG:List (Sh.T ae))(aH aI aL:List Int)(aF:List (Sh.T ae))(b1:List (Sh.T ab))(bR:Int):Option (TL Bs.σs⊕Out Bm):=
 br (iL t42 t41)
 (
  ai (aw t42 (List.length b1))<|
  ar (F4 ((gt ab b1 t42).2.2.2.1,())) fun x0=>
  ai (nQ (Int.toNat t42) (Int.toNat t42))<|
  ai (nQ (Int.toNat t42) (Int.toNat t42))<|
  ai (nQ (Int.toNat t42) (Int.toNat t42))<|
  ai (nQ (Int.toNat t42) (Int.toNat t42))<|
  ai (nQ (Int.toNat t42) (Int.toNat t42))<|
  ai (mq (Sh.beq bE) (gt ab b1 t42).2.2.2.2.1 (gt ab b1 t42).2.2.2.2.1)<|
  ar (F3 ((gt ab b1 t42).2.2.2.2.1,())) fun x1=>
  ai (nQ (Int.toNat t42) (Int.toNat t42))<|
  ai (nQ (Int.toNat t42) (Int.toNat t42))<|
  ai (nQ (Int.toNat t42) (Int.toNat t42))<|
  ai (Nat.beq (Int.toNat t42) (Int.toNat t42))<|
  ai (Nat.beq (Int.toNat t42) (Int.toNat t42))<|
  ar (L13 ((Int.ofNat (Int.toNat t42)),(t41,(t42,((Int.ofNat (List.length x0.1)),((0:Int),(aE,(aD,(aG,(aH,(aI,(aL,(aF,((Int.ofNat (Int.toNat t42)),(b1,((gt ab b1 t42).1,((gt ab b1 t42).2.1,((gt ab b1 t42).2.2.1,(x0.1,(x1.1,(bR,()))))))))))))))))))))) fun x2=>
  ai (Nat.beq (Int.toNat x2.1) (Int.toNat x2.2.2.2.2.2.2.2.2.2.2.1))<|
  ar (L18 ((Int.ofNat (Int.toNat x2.1)),(x2.2.1,(x2.2.2.1,((Int.ofNat (List.length x2.2.2.2.2.2.2.2.2.2.2.2.2.2.2.2.2.1)),((0:Int),(x2.2.2.2.1,(x2.2.2.2.2.1,(x2.2.2.2.2.2.1,(x2.2.2.2.2.2.2.1,(x2.2.2.2.2.2.2.2.1,(x2.2.2.2.2.2.2.2.2.1,(x2.2.2.2.2.2.2.2.2.2.1,((Int.ofNat (Int.toNat x2.2.2.2.2.2.2.2.2.2.2.1)),(x2.2.2.2.2.2.2.2.2.2.2.2.1,(x2.2.2.2.2.2.2.2.2.2.2.2.2.1,(x2.2.2.2.2.2.2.2.2.2.2.2.2.2.1,(x2.2.2.2.2.2.2.2.2.2.2.2.2.2.2.1,(x2.2.2.2.2.2.2.2.2.2.2.2.2.2.2.2.1,(x2.2.2.2.2.2.2.2.2.2.2.2.2.2.2.2.2.1,(x2.2.2.2.2.2.2.2.2.2.2.2.2.2.2.2.2.2.1,()))))))))))))))))))))) fun x3=>
  some (.inl (x3.1,((IntKind.wrap .i64 (@HAdd.hAdd (Int) (Int) (Int) _ x3.2.1 (1:Int))),(x3.2.2.1,(x3.2.2.2.1,(x3.2.2.2.2.1,(x3.2.2.2.2.2.1,(x3.2.2.2.2.2.2.1,(x3.2.2.2.2.2.2.2.1,(x3.2.2.2.2.2.2.2.2.1,((List.set x3.2.2.2.2.2.2.2.2.2.2.1 (Int.toNat x3.2.2.2.2.2.2.2.2.2.1) (x3.2.2.2.2.2.2.2.2.2.2.2.1,(x3.2.2.2.2.2.2.2.2.2.2.2.2.1,(x3.2.2.2.2.2.2.2.2.2.2.2.2.2.1,(x3.2.2.2.2.2.2.2.2.2.2.2.2.2.2.1,(x3.2.2.2.2.2.2.2.2.2.2.2.2.2.2.2.1,())))))),(x3.2.2.2.2.2.2.2.2.2.2.2.2.2.2.2.2.1,())))))))))))))
 (
  some (.inr (aE,(aD,(aG,(aH,(aI,(aL,(aF,(b1,(bR,())))))))))))
def akP(c3:Iu)(c4:IG)(M13:Bw)(M18:Bv):KH:=bB (jI (BG c3.F c4.F M13.L M18.L)) (pL (kB c3 (kB c4 k0)) e0 1 (sC M13 (sC M18 l0)) fun d=>by kernel_rfl)
def akO:KH:=akP It IF XS XR
def Yb:Ya:=aR (jI (BG Im ID Kz Ky)) NN
abbrev X9:List Sh:=[bg]
abbrev KG:List Sh:=[bg]
abbrev Yl:=TL X9->Option (TL KG)
abbrev KM:=Kd 68 X9 KG
def ak1(F0:VV)(F1:Vx)(F2:Aw)(F3:Is)(F4:IE)(F5:Vc)(L8:Ya)(L13:Kx)(L18:Kw)(a0:Sh.T bg):Option (TL KG):=
 ar (F2 (a0.2.1,())) fun x0=>
 ar (F2 (a0.2.2.2.1,())) fun x1=>
 ar (F2 (a0.2.2.2.2.1,())) fun x2=>
 ar (F2 (a0.2.2.2.2.2.1,())) fun x3=>
 ar (F1 (a0.2.2.1,())) fun x4=>
 ar (F0 (a0.2.2.2.2.2.2.2.1,())) fun x5=>
 ar (F5 (a0.2.2.2.2.2.2.1,())) fun x6=>
 ar (L8 ((Int.ofNat (List.length x6.1)),((0:Int),(a0.1,(x0.1,(x4.1,(x1.1,(x2.1,(x3.1,(x5.1,(x6.1,((0:Int),())))))))))))) fun x7=>
 some ((x7.1,(x7.2.1,(x7.2.2.1,(x7.2.2.2.1,(x7.2.2.2.2.1,(x7.2.2.2.2.2.1,(x7.2.2.2.2.2.2.2.1,(x7.2.2.2.2.2.2.1,())))))))),())
def ak0(c0:VX)(c1:Vz)(c2:Ay)(c3:Iu)(c4:IG)(c5:Ve)(M8:KH)(M13:Bw)(M18:Bv):KM:=⟨u1 (ak1 c0.F c1.F c2.F c3.F c4.F c5.F M8.L M13.L M18.L),pD Tryz.func68 123 (kD c0 (kD c1 (kD c2 (kB c3 (kB c4 (kB c5 k0)))))) e0 1 (lS (lU (bu [0] (aW Tryz.f68)) 5 (kD c0 (kD c1 (kD c2 (kB c3 (kB c4 (kB c5 k0)))))) e0 1 l0 (by kernel_rfl) (sC M8 l0) (by kernel_rfl)) (by kernel_rfl)) fun d=>by kernel_rfl⟩
def Ym:KM:=ak0 VW Vy Ax It IF Vd akO XS XR
def akQ:Yl:=Ym.F
abbrev ah5:Lay:={ T:=[(0,.dA .bool)],h:=[],nx:=0 }
abbrev Il:List (Ev.Ex×Lay):=[(.ret,{ T:=[(0,.hd 0 .bool)],h:=[(0,.arr .bool 4)],nx:=1 })]
abbrev Wg:=Kb 73 1 ah5 1 Il
def ai9(t0z:Bool)(t0:List Bool):Option (Out Il):=
 br t0z
 (
  some ([],()))
 (
  ai (room 1 (List.length (ap [] t0)))<|
  some ((ap [] t0),()))
def ai8  :Wg:=⟨u2 ai9,pB Tryz.func73 8 k0 e0 1 (sS l0) fun d=>by kernel_rfl⟩
def ain:Wg:=ai8
abbrev V9:Lay:={ T:=[(0,.fz .bool)],h:=[],nx:=0 }
abbrev V3:List (Ev.Ex×Lay):=Il
abbrev rZ:=TL V9.σs->Option (Out V3)
abbrev r9:=Kb 73 1 V9 1 V3
def qd:r9:=D6 ain rfl
def I1:rZ:=qd.F
abbrev VZ:Lay:={ T:=[(0,.hd 0 .bool)],h:=[(0,.arr .bool 4)],nx:=1 }
abbrev VY:List (Ev.Ex×Lay):=[(.ret,{ T:=[(0,.hd 1 .bool)],h:=[(0,.arr .bool 4),(1,.arr .bool 4)],nx:=2 })]
abbrev sd:=TL VZ.σs->Option (Out VY)
abbrev sf:=Kb 73 1 VZ 1 VY
def se:sf:=⟨_,ak2 (by kernel_rfl) qd.ok⟩
def akq:sd:=se.F
abbrev Zke:Lay:={ T:=[(0,.ptr 0 0),(1,.int .u64)],h:=Cf,nx:=2 }
abbrev wu:List (Ev.Ex×Lay):=[(.ret,{ T:=[(0,.int .u64)],h:=Cf,nx:=2 })]
abbrev vr:=TL Zke.σs->Option (Out wu)
abbrev so:=Kb 75 2 Zke 1 wu
def Nz(t1 aE aD:Int)(b1:List (Sh.T aC)):Option (Out wu):=some ((@eX (.int .u64) b1 t1),(aE,(aD,(b1,()))))
def akp  :so:=⟨u4 Nz,pB Tryz.func75 13 k0 e0 1 (sS l0) fun d=>by kernel_rfl⟩
def vt:so:=akp
def tt:vr:=vt.F
abbrev vv:Lay:={ T:=[(0,.ptr 0 0)],h:=Cf,nx:=2 }
abbrev vu:List (Ev.Ex×Lay):=[(.ret,{ T:=[(0,.fz aC)],h:=Cf,nx:=2 })]
abbrev K8:=TL vv.σs->Option (Out vu)
abbrev K9:=Kb 83 1 vv 1 vu
