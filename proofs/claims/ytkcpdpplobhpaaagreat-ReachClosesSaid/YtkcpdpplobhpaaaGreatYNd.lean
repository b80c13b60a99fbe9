import Derived.Test.YtkcpdpplobhpaaaGreatYNc
set_option linter.unusedVariables false
set_option linter.unusedSimpArgs false
set_option linter.unnecessarySimpa false
/- the document's topo (printed by VTool.lean). -/
namespace Go.Proofs.YtkcpdpplobhpaaaGreat.V
open Go Go.RowKit
set_option maxRecDepth 1000000
abbrev ZZ:List Sh:=[(.int .i64)]
abbrev MN:List Sh:=[(.int .i64)]
abbrev I7:=TL ZZ->Option (TL MN)
abbrev AA:=Kd 202 ZZ MN
def MU(a0:Int):Option (TL MN):=some ((IntKind.wrap .i64 (Int.tdiv a0 (2:Int))),())
def aj5  :AA:=⟨u1 MU,pD Tryz.func202 5 k0 e0 1 (sS l0) fun d=>by kernel_rfl⟩
def I8:AA:=aj5
def vU:I7:=I8.F
abbrev LW:Lay:={ T:=[(1,.int .i64),(2,.ptr 0 0),(5,.hd 1 (.int .i64)),(6,.int .i64)],h:=[(0,.cells [.int .i64,.int .i64,.bool,.fz bL,.fz bD] 116),(1,.arr (.int .i64) 3)],nx:=2 }
abbrev o6:List (Nat×LO):=[(0,.arr (.int .i64) 3)]
abbrev vK:List (Nat×LO):=[(0,.cells fL 27),(1,.arr dk 237)]
abbrev Zb:Lay:={ T:=[(4,.hd 0 (.int .i64)),(5,.fz dk),(8,.int .i64),(9,.int .i64),(10,.int .i64)],h:=o6,nx:=1 }
abbrev Zc:Lay:={ T:=[(4,.hd 0 (.int .i64)),(5,.fz dk),(8,.int .i64),(9,.int .i64)],h:=o6,nx:=1 }
abbrev Zd:Lay:={ T:=[(4,.hd 0 (.int .i64)),(5,.fz dk),(6,.int .i64)],h:=o6,nx:=1 }
abbrev LS:List (Ev.Ex×Lay):=[((.exit 0),{ T:=[(5,.hd 0 (.int .i64))],h:=o6,nx:=1 })]
abbrev Xb:=TL LW.σs->Option (Out LS)
abbrev Xc:=Ld 0 34 (bp [0] (aW Tryz.f185)) LW LS
def C3(t1 t6 aE aD:Int)(aF:Bool)(aH:List (Sh.T bL))(aJ:List (Sh.T bD))(b1:List Int):Option (TL LW.σs⊕Out LS):=
 br (iL t6 aD)
 (
  ai (aA t1 (List.length aH))<|
  ai (room 8 (List.length (ap b1 ((IntKind.wrap .i64 (@HAdd.hAdd (Int) (Int) (Int) _ (gt bL aH t1).1 t6))::[]))))<|
  some (.inl (t1,((IntKind.wrap .i64 (t6+(1:Int))),(aE,(aD,(aF,(aH,(aJ,((ap b1 ((IntKind.wrap .i64 (@HAdd.hAdd (Int) (Int) (Int) _ (gt bL aH t1).1 t6))::[])),()))))))))))
 (
  some (.inr (b1,())))
def ajO  :Xc:=bw (u8 C3) (pL k0 e0 1 l0 fun d=>by kernel_rfl)
def Mn:Xb:=aQ (u8 C3) NN
abbrev ZX:List Sh:=[ab,(.int .i64)]
abbrev MK:List Sh:=[(.sl (.int .i64))]
abbrev JM:=TL ZX->Option (TL MK)
abbrev AR:=Kd 185 ZX MK
def MM(L5:Xb)(a0:Sh.T ab)(a1:Int):Option (TL MK):=
 br (iL a1 (0:Int))
 (
  some ([],()))
 (
  br (aR false true (iE (Int.ofNat (List.length a0.2.2.2.1)) a1))
  (
   some ([],()))
  (
   ar (L5 (a1,((0:Int),(a0.1,(a0.2.1,(a0.2.2.1,(a0.2.2.2.1,(a0.2.2.2.2.1,([],()))))))))) fun x0=>
   some (x0.1,())))
def ajZ(M5:Xc):AR:=⟨u2 (MM M5.L),pD Tryz.func185 34 k0 e0 1 (sS (sC M5 l0)) fun d=>by kernel_rfl⟩
def JN:AR:=ajZ  ajO
def Zw:JM:=JN.F
abbrev CB:Lay:={ T:=[(1,.ptr 0 0),(3,.hd 1 dk),(6,.int .i64)],h:=vK,nx:=2 }
abbrev Cq:List (Ev.Ex×Lay):=[((.exit 2),{ T:=[(3,.hd 0 dk)],h:=[(0,.arr dk 237)],nx:=1 })]
abbrev WH:=TL CB.σs->Option (Out Cq)
abbrev Jl:=Ld 0 75 (bp [1] (aW Tryz.f162)) CB Cq
abbrev LH:Lay:={ T:=[(1,.ptr 0 0),(3,.hd 1 dk),(6,.int .i64),(7,.int .i64)],h:=vK,nx:=2 }
abbrev LG:List (Ev.Ex×Lay):=[((.exit 4),{ T:=[(1,.ptr 0 0),(3,.hd 1 dk),(6,.int .i64)],h:=vK,nx:=2 })]
abbrev I9:=TL LH.σs->Option (Out LG)
abbrev Ax:=Ld 0 75 (bp [1,0] (aW Tryz.f162)) LH LG
abbrev LR:Lay:={ T:=[(1,.ptr 0 0),(3,.hd 1 dk),(4,.int .i64)],h:=vK,nx:=2 }
abbrev LM:List (Ev.Ex×Lay):=[((.exit 0),{ T:=[(1,.ptr 0 0),(3,.hd 1 dk)],h:=vK,nx:=2 })]
abbrev WI:=TL LR.σs->Option (Out LM)
abbrev WJ:=Ld 0 75 (bp [0] (aW Tryz.f162)) LR LM
def CW(t4 aE:Int)(aD:List Int)(aF:List (Sh.T ae))(aH aJ aK:List Int)(aC:List (Sh.T ab))(aG:List (Sh.T ae))(b1:List (Sh.T dk)):Option (TL LR.σs⊕Out LM):=
 br (iL t4 (Int.ofNat (List.length aG)))
 (
  ai (aA t4 (List.length aG))<|
  ai (room 72 (List.length (ap b1 ((false,((0:Int),(t4,(((gt ae aG t4).2.1::((gt ae aG t4).2.2.1::[])),(((gt ae aG t4).1::[]),())))))::[]))))<|
  some (.inl ((IntKind.wrap .i64 (t4+(1:Int))),(aE,(aD,(aF,(aH,(aJ,(aK,(aC,(aG,((ap b1 ((false,((0:Int),(t4,(((gt ae aG t4).2.1::((gt ae aG t4).2.2.1::[])),(((gt ae aG t4).1::[]),())))))::[])),()))))))))))))
 (
  some (.inr (aE,(aD,(aF,(aH,(aJ,(aK,(aC,(aG,(b1,())))))))))))
def ajw  :WJ:=bw (lM CW) (pL k0 e0 1 l0 fun d=>by kernel_rfl)
def ZE:WI:=aQ (lM CW) NN
def CR(F0:JM)(t6 t7 aE:Int)(aD:List Int)(aF:List (Sh.T ae))(aH aJ aK:List Int)(aC:List (Sh.T ab))(aG:List (Sh.T ae))(b1:List (Sh.T dk)):Option (TL LH.σs⊕Out LG):=
 ai (aA t6 (List.length aC))<|
 br (iL t7 (Int.ofNat (List.length (gt ab aC t6).2.2.2.1)))
 (
  ai (aA t6 (List.length aC))<|
  ai (aA t7 (List.length (gt ab aC t6).2.2.2.1))<|
  ai (aA t6 (List.length aC))<|
  ar (F0 (((gt ab aC t6).1,((gt ab aC t6).2.1,((gt ab aC t6).2.2.1,((gt ab aC t6).2.2.2.1,((gt ab aC t6).2.2.2.2.1,()))))),(t7,()))) fun x0=>
  ai (room 72 (List.length (ap b1 ((true,(t6,(t7,((gt bL (gt ab aC t6).2.2.2.1 t7).2.1,(x0.1,())))))::[]))))<|
  some (.inl (t6,((IntKind.wrap .i64 (t7+(1:Int))),(aE,(aD,(aF,(aH,(aJ,(aK,(aC,(aG,((ap b1 ((true,(t6,(t7,((gt bL (gt ab aC t6).2.2.2.1 t7).2.1,(x0.1,())))))::[])),())))))))))))))
 (
  some (.inr (t6,(aE,(aD,(aF,(aH,(aJ,(aK,(aC,(aG,(b1,()))))))))))))
def ajh(c0:AR) :Ax:=bw (jE (CR c0.F)) (pL (kD c0 k0) e0 1 l0 fun d=>by kernel_rfl)
def Wo:Ax:=ajh JN
def LV:I9:=aQ (jE (CR Zw)) NN
def CV(L11:I9)(t6 aE:Int)(aD:List Int)(aF:List (Sh.T ae))(aH aJ aK:List Int)(aC:List (Sh.T ab))(aG:List (Sh.T ae))(b1:List (Sh.T dk)):Option (TL CB.σs⊕Out Cq):=
 br (iL t6 (Int.ofNat (List.length aC)))
 (
  ar (L11 (t6,((0:Int),(aE,(aD,(aF,(aH,(aJ,(aK,(aC,(aG,(b1,())))))))))))) fun x0=>
  some (.inl ((IntKind.wrap .i64 (@HAdd.hAdd (Int) (Int) (Int) _ x0.1 (1:Int))),x0.2)))
 (
  some (.inr (b1,())))
def ajx(M11:Ax):Jl:=bw (lM (CV M11.L)) (pL k0 e0 1 (sC M11 l0) fun d=>by kernel_rfl)
def ajv:Jl:=ajx  Wo
def ZD:WH:=aQ (lM (CV LV)) NN
abbrev ZQ:List Sh:=[bf]
abbrev Mz:List Sh:=[(.sl dk)]
abbrev VZ:=TL ZQ->Option (TL Mz)
abbrev IV:=Kd 162 ZQ Mz
def Zl7(F0:JM)(L3:WI)(L8:WH)(L11:I9)(a0:Sh.T bf):Option (TL Mz):=
 ar (L3 ((0:Int),(a0.1,(a0.2.1,(a0.2.2.1,(a0.2.2.2.1,(a0.2.2.2.2.1,(a0.2.2.2.2.2.1,(a0.2.2.2.2.2.2.1,(a0.2.2.2.2.2.2.2.1,([],()))))))))))) fun x0=>
 ar (L8 ((0:Int),x0)) fun x1=>
 some (x1.1,())
def ajM(c0:AR)(M3:WJ)(M8:Jl)(M11:Ax):IV:=⟨u1 (Zl7 c0.F M3.L M8.L M11.L),pD Tryz.func162 75 (kD c0 k0) e0 1 (sS (sC M3 (sC M8 l0))) fun d=>by kernel_rfl⟩
def V3:IV:=ajM JN ajw ajv Wo
def Zs:VZ:=V3.F
abbrev vT:Lay:={ T:=[(1,.fz (.int .i64)),(2,.ptr 0 0),(5,.int .i64),(6,.int .i64)],h:=[(0,.cells [.bool,.int .i64,.int .i64,.fz (.int .i64),.fz (.int .i64)] 237)],nx:=1 }
abbrev vS:List (Ev.Ex×Lay):=[(.ret,{ T:=[(4,.int .i64)],h:=[],nx:=0 }),((.exit 0),{ T:=[(5,.int .i64)],h:=[],nx:=0 })]
abbrev WG:=TL vT.σs->Option (Out vS)
abbrev Jk:=Ld 0 31 (bp [0] (aW Tryz.f163)) vT vS
def MY(F0:I7)(t1:List Int)(t5 t6:Int)(aE:Bool)(aD aF:Int)(aH aJ:List Int):Option (TL vT.σs⊕Out vS):=
 br (iL t6 (Int.ofNat (List.length aH)))
 (
  ai (aA t6 (List.length aH))<|
  ar (F0 ((gt (.int .i64) aH t6),())) fun x0=>
  ai (aA x0.1 (List.length t1))<|
  br (iL (gt (.int .i64) t1 x0.1) (0:Int))
  (
   some (.inr (.inl ((Int.negSucc 0),()))))
  (
   some (.inl (t1,((cN (iL t5 (gt (.int .i64) t1 x0.1)) (gt (.int .i64) t1 x0.1) t5),((IntKind.wrap .i64 (t6+(1:Int))),(aE,(aD,(aF,(aH,(aJ,())))))))))))
 (
  some (.inr (.inr (t5,()))))
def aju(c0:AA) :Jk:=bw (u8 (MY c0.F)) (pL (kD c0 k0) e0 1 l0 fun d=>by kernel_rfl)
def ajt:Jk:=aju I8
def Zfs:WG:=aQ (u8 (MY vU)) NN
abbrev ZP:List Sh:=[dk,(.sl (.int .i64))]
abbrev My:List Sh:=[(.int .i64)]
abbrev JA:=TL ZP->Option (TL My)
abbrev AL:=Kd 163 ZP My
def Zl6(F0:I7)(L3:WG)(a0:Sh.T dk)(a1:List Int):Option (TL My):=
 ar (L3 (a1,((0:Int),((0:Int),a0)))) fun x0=>
 (match x0 with|.inl x1=>some (x1.1,())|.inr x1=>some ((IntKind.wrap .i64 (@HAdd.hAdd (Int) (Int) (Int) _ x1.1 (1:Int))),())
 )
def ajL(c0:AA)(M3:Jk):AL:=⟨u2 (Zl6 c0.F M3.L),pD Tryz.func163 31 (kD c0 k0) e0 1 (sS (sC M3 l0)) fun d=>by kernel_rfl⟩
def JB:AL:=ajL I8 ajt
def LD:JA:=JB.F
abbrev Cl:Lay:=Zc
abbrev Ci:List (Ev.Ex×Lay):=[((.exit 4),{ T:=[(4,.hd 0 (.int .i64)),(8,.int .i64)],h:=o6,nx:=1 })]
abbrev Wf:=TL Cl.σs->Option (Out Ci)
abbrev I2:=Ld 0 94 (bp [1] (aW Tryz.f86)) Cl Ci
abbrev Cb:Lay:=Zb
abbrev B9:List (Ev.Ex×Lay):=[((.exit 6),Zc)]
abbrev I0:=TL Cb.σs->Option (Out B9)
abbrev Af:=Ld 0 94 (bp [1,0] (aW Tryz.f86)) Cb B9
abbrev B8:Lay:={ T:=[(4,.hd 0 (.int .i64)),(5,.fz dk),(8,.int .i64),(9,.int .i64),(10,.int .i64),(11,.int .i64),(12,.int .i64)],h:=o6,nx:=1 }
abbrev B7:List (Ev.Ex×Lay):=[((.exit 8),Zb)]
abbrev IZ:=TL B8.σs->Option (Out B7)
abbrev I1:=Ld 0 94 (bp [1,0,0] (aW Tryz.f86)) B8 B7
abbrev Cr:Lay:=Zd
abbrev Ck:List (Ev.Ex×Lay):=[((.exit 0),{ T:=[(4,.hd 0 (.int .i64)),(5,.fz dk)],h:=o6,nx:=1 })]
abbrev Wp:=TL Cr.σs->Option (Out Ck)
abbrev Jc:=Ld 0 94 (bp [0] (aW Tryz.f86)) Cr Ck
abbrev Ce:Lay:={ T:=[(4,.hd 0 (.int .i64)),(5,.fz dk),(6,.int .i64),(7,.int .i64)],h:=o6,nx:=1 }
abbrev Ca:List (Ev.Ex×Lay):=[((.exit 2),Zd)]
abbrev Ja:=TL Ce.σs->Option (Out Ca)
abbrev Jb:=Ld 0 94 (bp [0,0] (aW Tryz.f86)) Ce Ca
def CS(t5:List (Sh.T dk))(t6 t7:Int)(b0:List Int):Option (TL Ce.σs⊕Out Ca):=
 ai (aA t6 (List.length t5))<|
 br (iL t7 (Int.ofNat (List.length (gt dk t5 t6).2.2.2.2.1)))
 (
  ai (aA t6 (List.length t5))<|
  ai (aA t7 (List.length (gt dk t5 t6).2.2.2.2.1))<|
  ai (aA (gt (.int .i64) (gt dk t5 t6).2.2.2.2.1 t7) (List.length b0))<|
  some (.inl (t5,(t6,((IntKind.wrap .i64 (t7+(1:Int))),((List.set b0 (Int.toNat (gt (.int .i64) (gt dk t5 t6).2.2.2.2.1 t7)) (Int.negSucc 0)),()))))))
 (
  some (.inr (t5,(t6,(b0,())))))
def Wq  :Jb:=bw (u4 CS) (pL k0 e0 1 l0 fun d=>by kernel_rfl)
def CH:Ja:=aQ (u4 CS) NN
def CT(L9:Ja)(t5:List (Sh.T dk))(t6:Int)(b0:List Int):Option (TL Cr.σs⊕Out Ck):=
 br (iL t6 (Int.ofNat (List.length t5)))
 (
  ar (L9 (t5,(t6,((0:Int),(b0,()))))) fun x0=>
  some (.inl (x0.1,((IntKind.wrap .i64 (@HAdd.hAdd (Int) (Int) (Int) _ x0.2.1 (1:Int))),(x0.2.2.1,())))))
 (
  some (.inr (t5,(b0,()))))
def ajj(M9:Jb):Jc:=bw (u3 (CT M9.L)) (pL k0 e0 1 (sC M9 l0) fun d=>by kernel_rfl)
def aji:Jc:=ajj  Wq
def Mf:Wp:=aQ (u3 (CT CH)) NN
def CK(t5:List (Sh.T dk))(t8 t9 t10 t11 t12:Int)(b0:List Int):Option (TL B8.σs⊕Out B7):=
 ai (aA t10 (List.length t5))<|
 br (iL t12 (Int.ofNat (List.length (gt dk t5 t10).2.2.2.2.1)))
 (
  ai (aA t10 (List.length t5))<|
  ai (aA t12 (List.length (gt dk t5 t10).2.2.2.2.1))<|
  ai (aA (gt (.int .i64) (gt dk t5 t10).2.2.2.2.1 t12) (List.length b0))<|
  some (.inl (t5,(t8,(t9,(t10,(t11,((IntKind.wrap .i64 (t12+(1:Int))),((List.set b0 (Int.toNat (gt (.int .i64) (gt dk t5 t10).2.2.2.2.1 t12)) t11),())))))))))
 (
  some (.inr (t5,(t8,(t9,(t10,(b0,())))))))
def Wg  :I1:=bw (u7 CK) (pL k0 e0 1 l0 fun d=>by kernel_rfl)
def Ch:IZ:=aQ (u7 CK) NN
def CL(F0:JA)(L24:IZ)(t5:List (Sh.T dk))(t8 t9 t10:Int)(b0:List Int):Option (TL Cb.σs⊕Out B9):=
 br (iL t10 (Int.ofNat (List.length t5)))
 (
  ai (aA t10 (List.length t5))<|
  ar (F0 (((gt dk t5 t10).1,((gt dk t5 t10).2.1,((gt dk t5 t10).2.2.1,((gt dk t5 t10).2.2.2.1,((gt dk t5 t10).2.2.2.2.1,()))))),(b0,()))) fun x0=>
  br (iL x0.1 (0:Int))
  (
   ar (L24 (t5,((IntKind.wrap .i64 (t8+(1:Int))),(t9,(t10,(x0.1,((0:Int),(b0,())))))))) fun x1=>
   some (.inl (x1.1,(x1.2.1,(x1.2.2.1,((IntKind.wrap .i64 (@HAdd.hAdd (Int) (Int) (Int) _ x1.2.2.2.1 (1:Int))),(x1.2.2.2.2.1,())))))))
  (
   ar (L24 (t5,(t8,(t9,(t10,(x0.1,((0:Int),(b0,())))))))) fun x1=>
   some (.inl (x1.1,(x1.2.1,(x1.2.2.1,((IntKind.wrap .i64 (@HAdd.hAdd (Int) (Int) (Int) _ x1.2.2.2.1 (1:Int))),(x1.2.2.2.2.1,()))))))))
 (
  some (.inr (t5,(t8,(t9,(b0,()))))))
def ajb(c0:AL)(M24:I1):Af:=bw (u5 (CL c0.F M24.L)) (pL (kD c0 k0) e0 1 (sC M24 l0) fun d=>by kernel_rfl)
def Wh:Af:=ajb JB Wg
def CC:I0:=aQ (u5 (CL LD Ch)) NN
def CM(L18:I0)(t5:List (Sh.T dk))(t8 t9:Int)(b0:List Int):Option (TL Cl.σs⊕Out Ci):=
 br (iE t9 (Int.ofNat (List.length t5)))
 (
  ar (L18 (t5,((0:Int),(t9,((0:Int),(b0,())))))) fun x0=>
  some (.inl (x0.1,(x0.2.1,((IntKind.wrap .i64 (@HAdd.hAdd (Int) (Int) (Int) _ x0.2.2.1 (1:Int))),(x0.2.2.2.1,()))))))
 (
  some (.inr (t8,(b0,()))))
def ajc(M18:Af):I2:=bw (u4 (CM M18.L)) (pL k0 e0 1 (sC M18 l0) fun d=>by kernel_rfl)
def aja:I2:=ajc  Wh
def Md:Wf:=aQ (u4 (CM CC)) NN
abbrev ZM:List Sh:=[bf]
abbrev Mt:List Sh:=[(.sl (.int .i64)),.bool]
abbrev VW:=TL ZM->Option (TL Mt)
abbrev IM:=Kd 86 ZM Mt
def MA(F0:JA)(F1:VZ)(F2:W9)(L6:Wp)(L9:Ja)(L14:Wf)(L18:I0)(L24:IZ)(a0:Sh.T bf):Option (TL Mt):=
 ar (F2 (a0,())) fun x0=>
 br (Bool.not (iQ x0.1 (0:Int)))
 (
  some ([],(false,())))
 (
  ai (both (iE (0:Int) (IntKind.wrap .i64 (@HAdd.hAdd (Int) (Int) (Int) _ a0.1 (1:Int)))) (both (iE (IntKind.wrap .i64 (@HAdd.hAdd (Int) (Int) (Int) _ a0.1 (1:Int))) (IntKind.wrap .i64 (@HAdd.hAdd (Int) (Int) (Int) _ a0.1 (1:Int)))) (iE ((Int.ofNat 8)*(IntKind.wrap .i64 (@HAdd.hAdd (Int) (Int) (Int) _ a0.1 (1:Int)))) (281474976710656:Int))))<|
  ar (F1 (a0,())) fun x1=>
  ar (L6 (x1.1,((0:Int),((List.replicate (Int.toNat (IntKind.wrap .i64 (@HAdd.hAdd (Int) (Int) (Int) _ a0.1 (1:Int)))) (Sh.zero (.int .i64))),())))) fun x2=>
  ar (L14 (x2.1,((0:Int),((0:Int),(x2.2.1,()))))) fun x3=>
  br (iL (0:Int) x3.1)
  (
   some ([],(false,())))
  (
   some (x3.2.1,(true,()))))
def ajy(c0:AL)(c1:IV)(c2:JC)(M6:Jc)(M9:Jb)(M14:I2)(M18:Af)(M24:I1):IM:=⟨u1 (MA c0.F c1.F c2.F M6.L M9.L M14.L M18.L M24.L),pD Tryz.func86 94 (kD c0 (kD c1 (kD c2 k0))) e0 1 (sS (sC M6 (sC M14 l0))) fun d=>by kernel_rfl⟩
def VX:IM:=ajy JB V3 Xa aji Wq aja Wh Wg
def Zfg:VW:=VX.F
abbrev ZR:List Sh:=[bf]
abbrev MB:List Sh:=[(.int .i64)]
abbrev uS:=TL ZR->Option (TL MB)
abbrev rQ:=Kd 38 ZR MB
def Zl8(F0:VW)(F1:W9)(a0:Sh.T bf):Option (TL MB):=
 ar (F1 (a0,())) fun x0=>
 br (Bool.not (iQ x0.1 (0:Int)))
 (
  some (x0.1,()))
 (
  ar (F0 (a0,())) fun x1=>
  br (Bool.not x1.2.1)
  (
   some ((8:Int),()))
  (
   some ((0:Int),())))
def ajN(c0:IM)(c1:JC) :rQ:=⟨u1 (Zl8 c0.F c1.F),pD Tryz.func38 18 (kD c0 (kD c1 k0)) e0 1 (sS l0) fun d=>by kernel_rfl⟩
def uT:rQ:=ajN VX Xa
def Zb7:uS:=uT.F
