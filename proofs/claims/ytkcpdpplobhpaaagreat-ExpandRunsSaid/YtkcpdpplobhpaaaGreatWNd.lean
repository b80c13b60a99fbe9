import Derived.Test.YtkcpdpplobhpaaaGreatWNc
set_option linter.unusedVariables false
set_option linter.unusedSimpArgs false
set_option linter.unnecessarySimpa false
/- the document's topo (printed by VTool.lean). -/
namespace Go.Proofs.YtkcpdpplobhpaaaGreat.V
open Go Go.RowKit
set_option maxRecDepth 1000000
abbrev Zja:List Sh:=[(.int .i64)]
abbrev PB:List Sh:=[(.int .i64)]
abbrev Mc:=TL Zja->Option (TL PB)
abbrev CH:=Kd 202 Zja PB
def PJ(a0:Int):Option (TL PB):=some ((IntKind.wrap .i64 (Int.tdiv a0 (2:Int))),())
def amC  :CH:=⟨u1 PJ,pD Tryz.func202 5 k0 e0 1 (sS l0) fun d=>by kernel_rfl⟩
def Md:CH:=amC
def xC:Mc:=Md.F
abbrev OT:Lay:={ T:=[(1,.int .i64),(2,.ptr 0 0),(5,.hd 1 (.int .i64)),(6,.int .i64)],h:=[(0,.cells [.int .i64,.int .i64,.bool,.fz bg,.fz aH] 116),(1,.arr (.int .i64) 3)],nx:=2 }
abbrev pS:List (Nat×LO):=[(0,.arr (.int .i64) 3)]
abbrev xr:List (Nat×LO):=[(0,.cells jf 27),(1,.arr dU 237)]
abbrev abT:Lay:={ T:=[(4,.hd 0 (.int .i64)),(5,.fz dU),(8,.int .i64),(9,.int .i64),(10,.int .i64)],h:=pS,nx:=1 }
abbrev abU:Lay:={ T:=[(4,.hd 0 (.int .i64)),(5,.fz dU),(8,.int .i64),(9,.int .i64)],h:=pS,nx:=1 }
abbrev abV:Lay:={ T:=[(4,.hd 0 (.int .i64)),(5,.fz dU),(6,.int .i64)],h:=pS,nx:=1 }
abbrev OQ:List (Ev.Ex×Lay):=[((.exit 0),{ T:=[(5,.hd 0 (.int .i64))],h:=pS,nx:=1 })]
abbrev Z6:=TL OT.σs->Option (Out OQ)
abbrev Z7:=Ld 0 34 (bI [0] (bh Tryz.f185)) OT OQ
def Fb(t1 t6 aw aG:Int)(aT:Bool)(aP:List (Sh.T bg))(aW:List (Sh.T aH))(b1:List Int):Option (TL OT.σs⊕Out OQ):=
 br (iL t6 aG)
 (
  ai (av t1 (List.length aP))<|
  ai (room 8 (List.length (ap b1 ((IntKind.wrap .i64 (@HAdd.hAdd (Int) (Int) (Int) _ (gt bg aP t1).1 t6))::[]))))<|
  some (.inl (t1,((IntKind.wrap .i64 (t6+(1:Int))),(aw,(aG,(aT,(aP,(aW,((ap b1 ((IntKind.wrap .i64 (@HAdd.hAdd (Int) (Int) (Int) _ (gt bg aP t1).1 t6))::[])),()))))))))))
 (
  some (.inr (b1,())))
def amn  :Z7:=bN (u8 Fb) (pL k0 e0 1 l0 fun d=>by kernel_rfl)
def O8:Z6:=aX (u8 Fb) NN
abbrev Ziz:List Sh:=[ab,(.int .i64)]
abbrev Py:List Sh:=[(.sl (.int .i64))]
abbrev MI:=TL Ziz->Option (TL Py)
abbrev CS:=Kd 185 Ziz Py
def PA(L5:Z6)(a0:Sh.T ab)(a1:Int):Option (TL Py):=
 br (iL a1 (0:Int))
 (
  some ([],()))
 (
  br (bn false true (iE (Int.ofNat (List.length a0.2.2.2.1)) a1))
  (
   some ([],()))
  (
   ao (L5 (a1,((0:Int),(a0.1,(a0.2.1,(a0.2.2.1,(a0.2.2.2.1,(a0.2.2.2.2.1,([],()))))))))) fun x0=>
   some (x0.1,())))
def amw(M5:Z7):CS:=⟨u2 (PA M5.L),pD Tryz.func185 34 k0 e0 1 (sS (sC M5 l0)) fun d=>by kernel_rfl⟩
def MJ:CS:=amw  amn
def Zbo:MI:=MJ.F
abbrev Ez:Lay:={ T:=[(1,.ptr 0 0),(3,.hd 1 dU),(6,.int .i64)],h:=xr,nx:=2 }
abbrev Ek:List (Ev.Ex×Lay):=[((.exit 2),{ T:=[(3,.hd 0 dU)],h:=[(0,.arr dU 237)],nx:=1 })]
abbrev ZP:=TL Ez.σs->Option (Out Ek)
abbrev Mp:=Ld 0 75 (bI [1] (bh Tryz.f162)) Ez Ek
abbrev OI:Lay:={ T:=[(1,.ptr 0 0),(3,.hd 1 dU),(6,.int .i64),(7,.int .i64)],h:=xr,nx:=2 }
abbrev OH:List (Ev.Ex×Lay):=[((.exit 4),{ T:=[(1,.ptr 0 0),(3,.hd 1 dU),(6,.int .i64)],h:=xr,nx:=2 })]
abbrev Me:=TL OI.σs->Option (Out OH)
abbrev CE:=Ld 0 75 (bI [1,0] (bh Tryz.f162)) OI OH
abbrev OP:Lay:={ T:=[(1,.ptr 0 0),(3,.hd 1 dU),(4,.int .i64)],h:=xr,nx:=2 }
abbrev OM:List (Ev.Ex×Lay):=[((.exit 0),{ T:=[(1,.ptr 0 0),(3,.hd 1 dU)],h:=xr,nx:=2 })]
abbrev ZQ:=TL OP.σs->Option (Out OM)
abbrev ZR:=Ld 0 75 (bI [0] (bh Tryz.f162)) OP OM
def EX(t4 aw:Int)(aG:List Int)(aT:List (Sh.T ae))(aP aW ba:List Int)(aD:List (Sh.T ab))(aM:List (Sh.T ae))(b1:List (Sh.T dU)):Option (TL OP.σs⊕Out OM):=
 br (iL t4 (Int.ofNat (List.length aM)))
 (
  ai (av t4 (List.length aM))<|
  ai (room 72 (List.length (ap b1 ((false,((0:Int),(t4,(((gt ae aM t4).2.1::((gt ae aM t4).2.2.1::[])),(((gt ae aM t4).1::[]),())))))::[]))))<|
  some (.inl ((IntKind.wrap .i64 (t4+(1:Int))),(aw,(aG,(aT,(aP,(aW,(ba,(aD,(aM,((ap b1 ((false,((0:Int),(t4,(((gt ae aM t4).2.1::((gt ae aM t4).2.2.1::[])),(((gt ae aM t4).1::[]),())))))::[])),()))))))))))))
 (
  some (.inr (aw,(aG,(aT,(aP,(aW,(ba,(aD,(aM,(b1,())))))))))))
def al7  :ZR:=bN (kU EX) (pL k0 e0 1 l0 fun d=>by kernel_rfl)
def Zeg:ZQ:=aX (kU EX) NN
def ES(F0:MI)(t6 t7 aw:Int)(aG:List Int)(aT:List (Sh.T ae))(aP aW ba:List Int)(aD:List (Sh.T ab))(aM:List (Sh.T ae))(b1:List (Sh.T dU)):Option (TL OI.σs⊕Out OH):=
 ai (av t6 (List.length aD))<|
 br (iL t7 (Int.ofNat (List.length (gt ab aD t6).2.2.2.1)))
 (
  ai (av t6 (List.length aD))<|
  ai (av t7 (List.length (gt ab aD t6).2.2.2.1))<|
  ai (av t6 (List.length aD))<|
  ao (F0 (((gt ab aD t6).1,((gt ab aD t6).2.1,((gt ab aD t6).2.2.1,((gt ab aD t6).2.2.2.1,((gt ab aD t6).2.2.2.2.1,()))))),(t7,()))) fun x0=>
  ai (room 72 (List.length (ap b1 ((true,(t6,(t7,((gt bg (gt ab aD t6).2.2.2.1 t7).2.1,(x0.1,())))))::[]))))<|
  some (.inl (t6,((IntKind.wrap .i64 (t7+(1:Int))),(aw,(aG,(aT,(aP,(aW,(ba,(aD,(aM,((ap b1 ((true,(t6,(t7,((gt bg (gt ab aD t6).2.2.2.1 t7).2.1,(x0.1,())))))::[])),())))))))))))))
 (
  some (.inr (t6,(aw,(aG,(aT,(aP,(aW,(ba,(aD,(aM,(b1,()))))))))))))
def alU(c0:CS) :CE:=bN (kV (ES c0.F)) (pL (kD c0 k0) e0 1 l0 fun d=>by kernel_rfl)
def ZE:CE:=alU MJ
def OS:Me:=aX (kV (ES Zbo)) NN
def EW(L11:Me)(t6 aw:Int)(aG:List Int)(aT:List (Sh.T ae))(aP aW ba:List Int)(aD:List (Sh.T ab))(aM:List (Sh.T ae))(b1:List (Sh.T dU)):Option (TL Ez.σs⊕Out Ek):=
 br (iL t6 (Int.ofNat (List.length aD)))
 (
  ao (L11 (t6,((0:Int),(aw,(aG,(aT,(aP,(aW,(ba,(aD,(aM,(b1,())))))))))))) fun x0=>
  some (.inl ((IntKind.wrap .i64 (@HAdd.hAdd (Int) (Int) (Int) _ x0.1 (1:Int))),x0.2)))
 (
  some (.inr (b1,())))
def al8(M11:CE):Mp:=bN (kU (EW M11.L)) (pL k0 e0 1 (sC M11 l0) fun d=>by kernel_rfl)
def al6:Mp:=al8  ZE
def Zef:ZP:=aX (kU (EW OS)) NN
abbrev Zik:List Sh:=[ca]
abbrev Pj:List Sh:=[(.sl dU)]
abbrev Zo:=TL Zik->Option (TL Pj)
abbrev LK:=Kd 162 Zik Pj
def Zl7(F0:MI)(L3:ZQ)(L8:ZP)(L11:Me)(a0:Sh.T ca):Option (TL Pj):=
 ao (L3 ((0:Int),(a0.1,(a0.2.1,(a0.2.2.1,(a0.2.2.2.1,(a0.2.2.2.2.1,(a0.2.2.2.2.2.1,(a0.2.2.2.2.2.2.1,(a0.2.2.2.2.2.2.2.1,([],()))))))))))) fun x0=>
 ao (L8 ((0:Int),x0)) fun x1=>
 some (x1.1,())
def aml(c0:CS)(M3:ZR)(M8:Mp)(M11:CE):LK:=⟨u1 (Zl7 c0.F M3.L M8.L M11.L),pD Tryz.func162 75 (kD c0 k0) e0 1 (sS (sC M3 (sC M8 l0))) fun d=>by kernel_rfl⟩
def Zp:LK:=aml MJ al7 al6 ZE
def Zam:Zo:=Zp.F
abbrev xB:Lay:={ T:=[(1,.fz (.int .i64)),(2,.ptr 0 0),(5,.int .i64),(6,.int .i64)],h:=[(0,.cells [.bool,.int .i64,.int .i64,.fz (.int .i64),.fz (.int .i64)] 237)],nx:=1 }
abbrev xA:List (Ev.Ex×Lay):=[(.ret,{ T:=[(4,.int .i64)],h:=[],nx:=0 }),((.exit 0),{ T:=[(5,.int .i64)],h:=[],nx:=0 })]
abbrev ZO:=TL xB.σs->Option (Out xA)
abbrev Mo:=Ld 0 31 (bI [0] (bh Tryz.f163)) xB xA
def PO(F0:Mc)(t1:List Int)(t5 t6:Int)(aw:Bool)(aG aT:Int)(aP aW:List Int):Option (TL xB.σs⊕Out xA):=
 br (iL t6 (Int.ofNat (List.length aP)))
 (
  ai (av t6 (List.length aP))<|
  ao (F0 ((gt (.int .i64) aP t6),())) fun x0=>
  ai (av x0.1 (List.length t1))<|
  br (iL (gt (.int .i64) t1 x0.1) (0:Int))
  (
   some (.inr (.inl ((Int.negSucc 0),()))))
  (
   some (.inl (t1,((du (iL t5 (gt (.int .i64) t1 x0.1)) (gt (.int .i64) t1 x0.1) t5),((IntKind.wrap .i64 (t6+(1:Int))),(aw,(aG,(aT,(aP,(aW,())))))))))))
 (
  some (.inr (.inr (t5,()))))
def al5(c0:CH) :Mo:=bN (u8 (PO c0.F)) (pL (kD c0 k0) e0 1 l0 fun d=>by kernel_rfl)
def al4:Mo:=al5 Md
def Zfs:ZO:=aX (u8 (PO xC)) NN
abbrev Zii:List Sh:=[dU,(.sl (.int .i64))]
abbrev Ph:List Sh:=[(.int .i64)]
abbrev Mz:=TL Zii->Option (TL Ph)
abbrev CN:=Kd 163 Zii Ph
def Zl6(F0:Mc)(L3:ZO)(a0:Sh.T dU)(a1:List Int):Option (TL Ph):=
 ao (L3 (a1,((0:Int),((0:Int),a0)))) fun x0=>
 (match x0 with|.inl x1=>some (x1.1,())|.inr x1=>some ((IntKind.wrap .i64 (@HAdd.hAdd (Int) (Int) (Int) _ x1.1 (1:Int))),())
 )
def amk(c0:CH)(M3:Mo):CN:=⟨u2 (Zl6 c0.F M3.L),pD Tryz.func163 31 (kD c0 k0) e0 1 (sS (sC M3 l0)) fun d=>by kernel_rfl⟩
def MA:CN:=amk Md al4
def OD:Mz:=MA.F
abbrev Eh:Lay:=abU
abbrev Ef:List (Ev.Ex×Lay):=[((.exit 4),{ T:=[(4,.hd 0 (.int .i64)),(8,.int .i64)],h:=pS,nx:=1 })]
abbrev Zv:=TL Eh.σs->Option (Out Ef)
abbrev LW:=Ld 0 94 (bI [1] (bh Tryz.f86)) Eh Ef
abbrev D7:Lay:=abT
abbrev D5:List (Ev.Ex×Lay):=[((.exit 6),abU)]
abbrev LU:=TL D7.σs->Option (Out D5)
abbrev Cu:=Ld 0 94 (bI [1,0] (bh Tryz.f86)) D7 D5
abbrev D4:Lay:={ T:=[(4,.hd 0 (.int .i64)),(5,.fz dU),(8,.int .i64),(9,.int .i64),(10,.int .i64),(11,.int .i64),(12,.int .i64)],h:=pS,nx:=1 }
abbrev D3:List (Ev.Ex×Lay):=[((.exit 8),abT)]
abbrev LS:=TL D4.σs->Option (Out D3)
abbrev LV:=Ld 0 94 (bI [1,0,0] (bh Tryz.f86)) D4 D3
abbrev El:Lay:=abV
abbrev Eg:List (Ev.Ex×Lay):=[((.exit 0),{ T:=[(4,.hd 0 (.int .i64)),(5,.fz dU)],h:=pS,nx:=1 })]
abbrev ZF:=TL El.σs->Option (Out Eg)
abbrev Mh:=Ld 0 94 (bI [0] (bh Tryz.f86)) El Eg
abbrev Ea:Lay:={ T:=[(4,.hd 0 (.int .i64)),(5,.fz dU),(6,.int .i64),(7,.int .i64)],h:=pS,nx:=1 }
abbrev D6:List (Ev.Ex×Lay):=[((.exit 2),abV)]
abbrev Mf:=TL Ea.σs->Option (Out D6)
abbrev Mg:=Ld 0 94 (bI [0,0] (bh Tryz.f86)) Ea D6
def ET(t5:List (Sh.T dU))(t6 t7:Int)(b0:List Int):Option (TL Ea.σs⊕Out D6):=
 ai (av t6 (List.length t5))<|
 br (iL t7 (Int.ofNat (List.length (gt dU t5 t6).2.2.2.2.1)))
 (
  ai (av t6 (List.length t5))<|
  ai (av t7 (List.length (gt dU t5 t6).2.2.2.2.1))<|
  ai (av (gt (.int .i64) (gt dU t5 t6).2.2.2.2.1 t7) (List.length b0))<|
  some (.inl (t5,(t6,((IntKind.wrap .i64 (t7+(1:Int))),((List.set b0 (Int.toNat (gt (.int .i64) (gt dU t5 t6).2.2.2.2.1 t7)) (Int.negSucc 0)),()))))))
 (
  some (.inr (t5,(t6,(b0,())))))
def ZG  :Mg:=bN (u4 ET) (pL k0 e0 1 l0 fun d=>by kernel_rfl)
def EI:Mf:=aX (u4 ET) NN
def EU(L9:Mf)(t5:List (Sh.T dU))(t6:Int)(b0:List Int):Option (TL El.σs⊕Out Eg):=
 br (iL t6 (Int.ofNat (List.length t5)))
 (
  ao (L9 (t5,(t6,((0:Int),(b0,()))))) fun x0=>
  some (.inl (x0.1,((IntKind.wrap .i64 (@HAdd.hAdd (Int) (Int) (Int) _ x0.2.1 (1:Int))),(x0.2.2.1,())))))
 (
  some (.inr (t5,(b0,()))))
def alW(M9:Mg):Mh:=bN (u3 (EU M9.L)) (pL k0 e0 1 (sC M9 l0) fun d=>by kernel_rfl)
def alV:Mh:=alW  ZG
def O1:ZF:=aX (u3 (EU EI)) NN
def EL(t5:List (Sh.T dU))(t8 t9 t10 t11 t12:Int)(b0:List Int):Option (TL D4.σs⊕Out D3):=
 ai (av t10 (List.length t5))<|
 br (iL t12 (Int.ofNat (List.length (gt dU t5 t10).2.2.2.2.1)))
 (
  ai (av t10 (List.length t5))<|
  ai (av t12 (List.length (gt dU t5 t10).2.2.2.2.1))<|
  ai (av (gt (.int .i64) (gt dU t5 t10).2.2.2.2.1 t12) (List.length b0))<|
  some (.inl (t5,(t8,(t9,(t10,(t11,((IntKind.wrap .i64 (t12+(1:Int))),((List.set b0 (Int.toNat (gt (.int .i64) (gt dU t5 t10).2.2.2.2.1 t12)) t11),())))))))))
 (
  some (.inr (t5,(t8,(t9,(t10,(b0,())))))))
def Zw  :LV:=bN (u7 EL) (pL k0 e0 1 l0 fun d=>by kernel_rfl)
def Ee:LS:=aX (u7 EL) NN
def EM(F0:Mz)(L24:LS)(t5:List (Sh.T dU))(t8 t9 t10:Int)(b0:List Int):Option (TL D7.σs⊕Out D5):=
 br (iL t10 (Int.ofNat (List.length t5)))
 (
  ai (av t10 (List.length t5))<|
  ao (F0 (((gt dU t5 t10).1,((gt dU t5 t10).2.1,((gt dU t5 t10).2.2.1,((gt dU t5 t10).2.2.2.1,((gt dU t5 t10).2.2.2.2.1,()))))),(b0,()))) fun x0=>
  br (iL x0.1 (0:Int))
  (
   ao (L24 (t5,((IntKind.wrap .i64 (t8+(1:Int))),(t9,(t10,(x0.1,((0:Int),(b0,())))))))) fun x1=>
   some (.inl (x1.1,(x1.2.1,(x1.2.2.1,((IntKind.wrap .i64 (@HAdd.hAdd (Int) (Int) (Int) _ x1.2.2.2.1 (1:Int))),(x1.2.2.2.2.1,())))))))
  (
   ao (L24 (t5,(t8,(t9,(t10,(x0.1,((0:Int),(b0,())))))))) fun x1=>
   some (.inl (x1.1,(x1.2.1,(x1.2.2.1,((IntKind.wrap .i64 (@HAdd.hAdd (Int) (Int) (Int) _ x1.2.2.2.1 (1:Int))),(x1.2.2.2.2.1,()))))))))
 (
  some (.inr (t5,(t8,(t9,(b0,()))))))
def alO(c0:CN)(M24:LV):Cu:=bN (u5 (EM c0.F M24.L)) (pL (kD c0 k0) e0 1 (sC M24 l0) fun d=>by kernel_rfl)
def Zx:Cu:=alO MA Zw
def EA:LU:=aX (u5 (EM OD Ee)) NN
def EO(L18:LU)(t5:List (Sh.T dU))(t8 t9:Int)(b0:List Int):Option (TL Eh.σs⊕Out Ef):=
 br (iE t9 (Int.ofNat (List.length t5)))
 (
  ao (L18 (t5,((0:Int),(t9,((0:Int),(b0,())))))) fun x0=>
  some (.inl (x0.1,(x0.2.1,((IntKind.wrap .i64 (@HAdd.hAdd (Int) (Int) (Int) _ x0.2.2.1 (1:Int))),(x0.2.2.2.1,()))))))
 (
  some (.inr (t8,(b0,()))))
def alP(M18:Cu):LW:=bN (u4 (EO M18.L)) (pL k0 e0 1 (sC M18 l0) fun d=>by kernel_rfl)
def alN:LW:=alP  Zx
def OZ:Zv:=aX (u4 (EO EA)) NN
abbrev Zi1:List Sh:=[ca]
abbrev Pd:List Sh:=[(.sl (.int .i64)),.bool]
abbrev Zl:=TL Zi1->Option (TL Pd)
abbrev LJ:=Kd 86 Zi1 Pd
def Pk(F0:Mz)(F1:Zo)(F2:Z4)(L6:ZF)(L9:Mf)(L14:Zv)(L18:LU)(L24:LS)(a0:Sh.T ca):Option (TL Pd):=
 ao (F2 (a0,())) fun x0=>
 br (Bool.not (iQ x0.1 (0:Int)))
 (
  some ([],(false,())))
 (
  ai (both (iE (0:Int) (IntKind.wrap .i64 (@HAdd.hAdd (Int) (Int) (Int) _ a0.1 (1:Int)))) (both (iE (IntKind.wrap .i64 (@HAdd.hAdd (Int) (Int) (Int) _ a0.1 (1:Int))) (IntKind.wrap .i64 (@HAdd.hAdd (Int) (Int) (Int) _ a0.1 (1:Int)))) (iE ((Int.ofNat 8)*(IntKind.wrap .i64 (@HAdd.hAdd (Int) (Int) (Int) _ a0.1 (1:Int)))) (281474976710656:Int))))<|
  ao (F1 (a0,())) fun x1=>
  ao (L6 (x1.1,((0:Int),((List.replicate (Int.toNat (IntKind.wrap .i64 (@HAdd.hAdd (Int) (Int) (Int) _ a0.1 (1:Int)))) (Sh.zero (.int .i64))),())))) fun x2=>
  ao (L14 (x2.1,((0:Int),((0:Int),(x2.2.1,()))))) fun x3=>
  br (iL (0:Int) x3.1)
  (
   some ([],(false,())))
  (
   some (x3.2.1,(true,()))))
def al9(c0:CN)(c1:LK)(c2:MB)(M6:Mh)(M9:Mg)(M14:LW)(M18:Cu)(M24:LV):LJ:=⟨u1 (Pk c0.F c1.F c2.F M6.L M9.L M14.L M18.L M24.L),pD Tryz.func86 94 (kD c0 (kD c1 (kD c2 k0))) e0 1 (sS (sC M6 (sC M14 l0))) fun d=>by kernel_rfl⟩
def Zm:LJ:=al9 MA Zp Z5 alV ZG alN Zx Zw
def Zfg:Zl:=Zm.F
abbrev Zil:List Sh:=[ca]
abbrev Pm:List Sh:=[(.int .i64)]
abbrev Cb:=TL Zil->Option (TL Pm)
abbrev wh:=Kd 38 Zil Pm
def Zl8(F0:Zl)(F1:Z4)(a0:Sh.T ca):Option (TL Pm):=
 ao (F1 (a0,())) fun x0=>
 br (Bool.not (iQ x0.1 (0:Int)))
 (
  some (x0.1,()))
 (
  ao (F0 (a0,())) fun x1=>
  br (Bool.not x1.2.1)
  (
   some ((8:Int),()))
  (
   some ((0:Int),())))
def amm(c0:LJ)(c1:MB) :wh:=⟨u1 (Zl8 c0.F c1.F),pD Tryz.func38 18 (kD c0 (kD c1 k0)) e0 1 (sS l0) fun d=>by kernel_rfl⟩
def Cc:wh:=amm Zm Z5
def Zb7:Cb:=Cc.F
