import Derived.Test.YtdcnjfbffckblaaGreatKNd
set_option linter.unusedVariables false
set_option linter.unusedSimpArgs false
set_option linter.unnecessarySimpa false
/- memories, states of netlists, the documents beside them (printed by VTool.lean). -/
namespace Go.Proofs.YtdcnjfbffckblaaGreat.V
open Go Go.RowKit
set_option maxRecDepth 1000000
abbrev EO:Lay:={ T:=[(0,.int .u64),(1,.int .i64),(5,.int .i64)],h:=[],nx:=0 }
abbrev EK:List (Ev.Ex×Lay):=[((.exit 0),{ T:=[(0,.int .u64)],h:=[],nx:=0 })]
abbrev Mu:=TL EO.σs->Option (Out EK)
abbrev Mv:=Ld 0 19 (bL [0] (bw Tryz.f108)) EO EK
def xV(t0 t1 t5:Int):Option (TL EO.σs⊕Out EK):=
 br (iL t5 t1)
 (
  br (bD true (iL t5 (64:Int)) false)
  (
   some (.inl ((IntKind.wrap .u64 (Int.tdiv t0 (2:Int))),(t1,((IntKind.wrap .i64 (t5+(1:Int))),())))))
  (
   some (.inr (t0,()))))
 (
  some (.inr (t0,())))
def X0  :Mv:=bO (u3 xV) (pL k0 e0 1 l0 fun d=>by kernel_rfl)
def P6:Mu:=bj (u3 xV) NN
abbrev Qk:List Sh:=[(.int .u64),(.int .i64)]
abbrev Fy:List Sh:=[.bool]
abbrev B7:=TL Qk->Option (TL Fy)
abbrev uL:=Kd 108 Qk Fy
def Zm0(L2:Mu)(a0 a1:Int):Option (TL Fy):=
 az (L2 (a0,(a1,((0:Int),())))) fun x0=>
 some ((iQ x0.1 (0:Int)),())
def Yb(M2:Mv):uL:=⟨u2 (Zm0 M2.L),pD Tryz.func108 19 k0 e0 1 (sS (sC M2 l0)) fun d=>by kernel_rfl⟩
def B8:uL:=Yb  X0
def E0:B7:=B8.F
abbrev xF:Lay:={ T:=[(0,.fz .bool),(1,.fz .bool),(5,.int .i64)],h:=[],nx:=0 }
abbrev Et:List (Nat×LO):=[(0,.cells gR 27),(1,.cells [.int .i64,.int .i64,.bool,.fz cV,.fz bU] 87)]
abbrev nD:Lay:={ T:=[],h:=[],nx:=0 }
abbrev xv:List (Ev.Ex×Lay):=[(.ret,{ T:=[(4,.bool)],h:=[],nx:=0 }),((.exit 0),nD)]
abbrev Mr:=TL xF.σs->Option (Out xv)
abbrev Mt:=Ld 0 26 (bL [0] (bw Tryz.f37)) xF xv
def xU(t0 t1:List Bool)(t5:Int):Option (TL xF.σs⊕Out xv):=
 br (iL t5 (Int.ofNat (List.length t0)))
 (
  ak (ah t5 (List.length t0))<|
  ak (ah t5 (List.length t1))<|
  br (Bool.not (@decide _ (Bool.decEq (gt .bool t0 t5) (gt .bool t1 t5))))
  (
   some (.inr (.inl (false,()))))
  (
   some (.inl (t0,(t1,((IntKind.wrap .i64 (t5+(1:Int))),()))))))
 (
  some (.inr (.inr ())))
def XZ  :Mt:=bO (u3 xU) (pL k0 e0 1 l0 fun d=>by kernel_rfl)
def P5:Mr:=bj (u3 xU) NN
abbrev Qj:List Sh:=[(.sl .bool),(.sl .bool)]
abbrev Fx:List Sh:=[.bool]
abbrev Mb:=TL Qj->Option (TL Fx)
abbrev BN:=Kd 37 Qj Fx
def Zlz(L4:Mr)(a0 a1:List Bool):Option (TL Fx):=
 br (Bool.not (iQ (Int.ofNat (List.length a0)) (Int.ofNat (List.length a1))))
 (
  some (false,()))
 (
  az (L4 (a0,(a1,((0:Int),())))) fun x0=>
  (match x0 with|.inl x1=>some (x1.1,())|.inr x1=>some (true,())
  ))
def Ya(M4:Mt):BN:=⟨u2 (Zlz M4.L),pD Tryz.func37 26 k0 e0 1 (sS (sC M4 l0)) fun d=>by kernel_rfl⟩
def Mc:BN:=Ya  XZ
def Zdw:Mb:=Mc.F
abbrev xu:Lay:={ T:=[(0,.int .i64),(1,.int .i64),(2,.fz ar),(7,.int .i64)],h:=[],nx:=0 }
abbrev xj:List (Ev.Ex×Lay):=[(.ret,{ T:=[(6,.bool)],h:=[],nx:=0 }),((.exit 0),nD)]
abbrev Mh:=TL xu.σs->Option (Out xj)
abbrev BU:=Ld 0 77 (bL [0] (bw Tryz.f42)) xu xj
def sf(F0:B7)(t0 t1:Int)(t2:List (Sh.T ar))(t7:Int):Option (TL xu.σs⊕Out xj):=
 br (iL t7 (Int.ofNat (List.length t2)))
 (
  br (iL (0:Int) t7)
  (
   ak (ah t7 (List.length t2))<|
   ak (ah (IntKind.wrap .i64 (t7-(1:Int))) (List.length t2))<|
   br (bD true (iE (gt ar t2 t7).1 (gt ar t2 (IntKind.wrap .i64 (t7-(1:Int)))).1) false)
   (
    some (.inr (.inl (false,()))))
   (
    ak (ah t7 (List.length t2))<|
    az (F0 ((gt ar t2 t7).1,(t0,()))) fun x0=>
    br (bD false true (Bool.not x0.1))
    (
     some (.inr (.inl (false,()))))
    (
     ak (ah t7 (List.length t2))<|
     az (F0 ((gt ar t2 t7).2.1,(t1,()))) fun x1=>
     br (bD false true (Bool.not x1.1))
     (
      some (.inr (.inl (false,()))))
     (
      ak (ah t7 (List.length t2))<|
      br (bD false true (iQ (gt ar t2 t7).2.1 (0:Int)))
      (
       some (.inr (.inl (false,()))))
      (
       some (.inl (t0,(t1,(t2,((IntKind.wrap .i64 (t7+(1:Int))),()))))))))))
  (
   ak (ah t7 (List.length t2))<|
   az (F0 ((gt ar t2 t7).1,(t0,()))) fun x0=>
   br (bD false true (Bool.not x0.1))
   (
    some (.inr (.inl (false,()))))
   (
    ak (ah t7 (List.length t2))<|
    az (F0 ((gt ar t2 t7).2.1,(t1,()))) fun x1=>
    br (bD false true (Bool.not x1.1))
    (
     some (.inr (.inl (false,()))))
    (
     ak (ah t7 (List.length t2))<|
     br (bD false true (iQ (gt ar t2 t7).2.1 (0:Int)))
     (
      some (.inr (.inl (false,()))))
     (
      some (.inl (t0,(t1,(t2,((IntKind.wrap .i64 (t7+(1:Int))),()))))))))))
 (
  some (.inr (.inr ())))
def XO(c0:uL) :BU:=bO (u4 (sf c0.F)) (pL (kD c0 k0) e0 1 l0 fun d=>by kernel_rfl)
def XN:BU:=XO B8
def E6:Mh:=bj (u4 (sf E0)) NN
abbrev P9:List Sh:=[(.int .i64),(.int .i64),(.sl ar)]
abbrev Ff:List Sh:=[.bool]
abbrev BZ:=TL P9->Option (TL Ff)
abbrev uJ:=Kd 42 P9 Ff
def Fw(F0:B7)(L4:Mh)(a0 a1:Int)(a2:List (Sh.T ar)):Option (TL Ff):=
 br (iL a0 (1:Int))
 (
  some (false,()))
 (
  br (bD false true (iL (62:Int) a0))
  (
   some (false,()))
  (
   br (bD false true (iL a1 (1:Int)))
   (
    some (false,()))
   (
    br (bD false true (iL (64:Int) a1))
    (
     some (false,()))
    (
     br (bD false true (iL (4096:Int) (Int.ofNat (List.length a2))))
     (
      some (false,()))
     (
      az (L4 (a0,(a1,(a2,((0:Int),()))))) fun x0=>
      (match x0 with|.inl x1=>some (x1.1,())|.inr x1=>some (true,())
      ))))))
def XY(c0:uL)(M4:BU):uJ:=⟨u3 (Fw c0.F M4.L),pD Tryz.func42 77 (kD c0 k0) e0 1 (sS (sC M4 l0)) fun d=>by kernel_rfl⟩
def B0:uJ:=XY B8 XN
def PT:BZ:=B0.F
abbrev xE:Lay:={ T:=[(0,.fz ar),(1,.fz ar),(5,.int .i64)],h:=[],nx:=0 }
abbrev xt:List (Ev.Ex×Lay):=[(.ret,{ T:=[(4,.bool)],h:=[],nx:=0 }),((.exit 0),nD)]
abbrev Mp:=TL xE.σs->Option (Out xt)
abbrev Mq:=Ld 0 26 (bL [0] (bw Tryz.f63)) xE xt
def xT(t0 t1:List (Sh.T ar))(t5:Int):Option (TL xE.σs⊕Out xt):=
 br (iL t5 (Int.ofNat (List.length t0)))
 (
  ak (ah t5 (List.length t0))<|
  ak (ah t5 (List.length t1))<|
  br (Bool.not (both (iQ (gt ar t0 t5).1 (gt ar t1 t5).1) (both (iQ (gt ar t0 t5).2.1 (gt ar t1 t5).2.1) true)))
  (
   some (.inr (.inl (false,()))))
  (
   some (.inl (t0,(t1,((IntKind.wrap .i64 (t5+(1:Int))),()))))))
 (
  some (.inr (.inr ())))
def XX  :Mq:=bO (u3 xT) (pL k0 e0 1 l0 fun d=>by kernel_rfl)
def P4:Mp:=bj (u3 xT) NN
abbrev Qi:List Sh:=[(.sl ar),(.sl ar)]
abbrev Fv:List Sh:=[.bool]
abbrev B5:=TL Qi->Option (TL Fv)
abbrev uK:=Kd 63 Qi Fv
def Zly(L4:Mp)(a0 a1:List (Sh.T ar)):Option (TL Fv):=
 br (Bool.not (iQ (Int.ofNat (List.length a0)) (Int.ofNat (List.length a1))))
 (
  some (false,()))
 (
  az (L4 (a0,(a1,((0:Int),())))) fun x0=>
  (match x0 with|.inl x1=>some (x1.1,())|.inr x1=>some (true,())
  ))
def X9(M4:Mq):uK:=⟨u2 (Zly M4.L),pD Tryz.func63 26 k0 e0 1 (sS (sC M4 l0)) fun d=>by kernel_rfl⟩
def B6:uK:=X9  XX
def PU:B5:=B6.F
abbrev xD:Lay:={ T:=[(2,.ptr 0 0),(3,.ptr 1 0),(6,.int .i64)],h:=[(0,.cells gR 27),(1,.cells [.fz .bool,.fz (.sl ar)] 31)],nx:=2 }
abbrev xr:List (Ev.Ex×Lay):=[(.ret,{ T:=[(4,.int .i64)],h:=[],nx:=0 }),((.exit 0),nD)]
abbrev Mo:=TL xD.σs->Option (Out xr)
abbrev BX:=Ld 0 54 (bL [0] (bw Tryz.f11)) xD xr
def sr(F0:BZ)(t6 aB:Int)(aI:List Int)(aJ:List (Sh.T al))(aL aR aZ:List Int)(aq:List (Sh.T an))(aO:List (Sh.T al))(cz:List Bool)(ca:List (List (Sh.T ar))):Option (TL xD.σs⊕Out xr):=
 br (iL t6 (Int.ofNat (List.length aq)))
 (
  ak (ah t6 (List.length aq))<|
  ak (ah t6 (List.length aq))<|
  ak (ah t6 (List.length ca))<|
  az (F0 ((gt an aq t6).1,((gt an aq t6).2.1,((gt (.sl ar) ca t6),())))) fun x0=>
  br (Bool.not x0.1)
  (
   some (.inr (.inl ((14:Int),()))))
  (
   some (.inl ((IntKind.wrap .i64 (t6+(1:Int))),(aB,(aI,(aJ,(aL,(aR,(aZ,(aq,(aO,(cz,(ca,()))))))))))))))
 (
  some (.inr (.inr ())))
def XW(c0:uJ) :BX:=bO (jh (sr c0.F)) (pL (kD c0 k0) e0 1 l0 fun d=>by kernel_rfl)
def XV:BX:=XW B0
def P3:Mo:=bj (jh (sr PT)) NN
abbrev Qh:List Sh:=[bE,cj]
abbrev Fu:List Sh:=[(.int .i64)]
abbrev MA:=TL Qh->Option (TL Fu)
abbrev B4:=Kd 11 Qh Fu
def Zlx(F0:BZ)(F1:Md)(L7:Mo)(a0:Sh.T bE)(a1:Sh.T cj):Option (TL Fu):=
 az (F1 (a0,())) fun x0=>
 br (Bool.not (iQ x0.1 (0:Int)))
 (
  some (x0.1,()))
 (
  br (Bool.not (iQ (Int.ofNat (List.length a1.1)) (Int.ofNat (List.length a0.2.2.1))))
  (
   some ((14:Int),()))
  (
   br (bD false true (Bool.not (iQ (Int.ofNat (List.length a1.2.1)) (Int.ofNat (List.length a0.2.2.2.2.2.2.1)))))
   (
    some ((14:Int),()))
   (
    az (L7 ((0:Int),(a0.1,(a0.2.1,(a0.2.2.1,(a0.2.2.2.1,(a0.2.2.2.2.1,(a0.2.2.2.2.2.1,(a0.2.2.2.2.2.2.1,(a0.2.2.2.2.2.2.2.1,a1)))))))))) fun x1=>
    (match x1 with|.inl x2=>some (x2.1,())|.inr x2=>some ((0:Int),())
    ))))
def X8(c0:uJ)(c1:B1)(M7:BX):B4:=⟨u2 (Zlx c0.F c1.F M7.L),pD Tryz.func11 54 (kD c0 (kD c1 k0)) e0 1 (sS (sC M7 l0)) fun d=>by kernel_rfl⟩
def MB:B4:=X8 B0 Me XV
def PQ:MA:=MB.F
abbrev xC:Lay:={ T:=[(2,.ptr 0 0),(3,.ptr 1 0),(5,.int .i64)],h:=[(0,.cells [.fz .bool,.fz (.sl ar)] 31),(1,.cells [.fz .bool,.fz (.sl ar)] 31)],nx:=2 }
abbrev xq:List (Ev.Ex×Lay):=[(.ret,{ T:=[(4,.bool)],h:=[],nx:=0 }),((.exit 0),nD)]
abbrev Mn:=TL xC.σs->Option (Out xq)
abbrev BW:=Ld 0 40 (bL [0] (bw Tryz.f17)) xC xq
def xS(F0:B5)(t5:Int)(aB:List Bool)(aI:List (List (Sh.T ar)))(cz:List Bool)(ca:List (List (Sh.T ar))):Option (TL xC.σs⊕Out xq):=
 br (iL t5 (Int.ofNat (List.length aI)))
 (
  ak (ah t5 (List.length aI))<|
  ak (ah t5 (List.length ca))<|
  az (F0 ((gt (.sl ar) aI t5),((gt (.sl ar) ca t5),()))) fun x0=>
  br (Bool.not x0.1)
  (
   some (.inr (.inl (false,()))))
  (
   some (.inl ((IntKind.wrap .i64 (t5+(1:Int))),(aB,(aI,(cz,(ca,()))))))))
 (
  some (.inr (.inr ())))
def XU(c0:uK) :BW:=bO (u5 (xS c0.F)) (pL (kD c0 k0) e0 1 l0 fun d=>by kernel_rfl)
def XT:BW:=XU B6
def P2:Mn:=bj (u5 (xS PU)) NN
abbrev Qg:List Sh:=[cj,cj]
abbrev Fs:List Sh:=[.bool]
abbrev ME:=TL Qg->Option (TL Fs)
abbrev Ca:=Kd 17 Qg Fs
def Zlw(F0:B5)(F1:Mb)(L4:Mn)(a0 a1:Sh.T cj):Option (TL Fs):=
 az (F1 (a0.1,(a1.1,()))) fun x0=>
 br (Bool.not x0.1)
 (
  some (false,()))
 (
  br (bD false true (Bool.not (iQ (Int.ofNat (List.length a0.2.1)) (Int.ofNat (List.length a1.2.1)))))
  (
   some (false,()))
  (
   az (L4 ((0:Int),(a0.1,(a0.2.1,a1)))) fun x1=>
   (match x1 with|.inl x2=>some (x2.1,())|.inr x2=>some (true,())
   )))
def X6(c0:uK)(c1:BN)(M4:BW):Ca:=⟨u2 (Zlw c0.F c1.F M4.L),pD Tryz.func17 40 (kD c0 (kD c1 k0)) e0 1 (sS (sC M4 l0)) fun d=>by kernel_rfl⟩
def MF:Ca:=X6 B6 Mc XT
def Ft:ME:=MF.F
abbrev xB:Lay:={ T:=[(1,.ptr 0 0),(3,.int .i64)],h:=[(0,.cells gR 27)],nx:=1 }
abbrev xo:List (Ev.Ex×Lay):=[(.ret,{ T:=[(2,.bool)],h:=[],nx:=0 }),((.exit 0),nD)]
abbrev Mm:=TL xB.σs->Option (Out xo)
abbrev BV:=Ld 0 132 (bL [0] (bw Tryz.f73)) xB xo
abbrev xa:Lay:={ T:=[(1,.ptr 0 0),(3,.int .i64),(4,.ptr 1 0),(6,.int .i64)],h:=Et,nx:=2 }
abbrev w7:List (Ev.Ex×Lay):=[(.ret,{ T:=[(2,.bool)],h:=[],nx:=0 }),((.exit 4),{ T:=[(1,.ptr 0 0),(3,.int .i64)],h:=[(0,.cells gR 27)],nx:=1 })]
abbrev BP:=TL xa.σs->Option (Out w7)
abbrev BR:=Ld 0 132 (bL [0,1] (bw Tryz.f73)) xa w7
abbrev xb:Lay:={ T:=[(1,.ptr 0 0),(3,.int .i64),(4,.ptr 1 0),(5,.int .i64)],h:=Et,nx:=2 }
abbrev w8:List (Ev.Ex×Lay):=[(.ret,{ T:=[(2,.bool)],h:=[],nx:=0 }),((.exit 2),{ T:=[(1,.ptr 0 0),(3,.int .i64),(4,.ptr 1 0)],h:=Et,nx:=2 })]
abbrev BQ:=TL xb.σs->Option (Out w8)
abbrev BS:=Ld 0 132 (bL [0,0] (bw Tryz.f73)) xb w8
def se(t3 t5 aB:Int)(aI:List Int)(aJ:List (Sh.T al))(aL aR aZ:List Int)(aq:List (Sh.T an))(aO:List (Sh.T al))(cz ca:Int)(iC:Bool)(fl:List (Sh.T cV))(fT:List (Sh.T bU)):Option (TL xb.σs⊕Out w8):=
 br (iL t5 (Int.ofNat (List.length fl)))
 (
  ak (ah t5 (List.length fl))<|
  br (iL (100:Int) (Int.ofNat (List.length (gt cV fl t5).2.1)))
  (
   some (.inr (.inl (false,()))))
  (
   ak (ah t5 (List.length fl))<|
   br (bD false true (iL (1099511627776:Int) (gt cV fl t5).1))
   (
    some (.inr (.inl (false,()))))
   (
    ak (ah t5 (List.length fl))<|
    br (bD false true (iL (gt cV fl t5).1 (Int.negSucc 1099511627775)))
    (
     some (.inr (.inl (false,()))))
    (
     some (.inl (t3,((IntKind.wrap .i64 (t5+(1:Int))),(aB,(aI,(aJ,(aL,(aR,(aZ,(aq,(aO,(cz,(ca,(iC,(fl,(fT,()))))))))))))))))))))
 (
  some (.inr (.inr (t3,(aB,(aI,(aJ,(aL,(aR,(aZ,(aq,(aO,(cz,(ca,(iC,(fl,(fT,())))))))))))))))))
def Mg  :BS:=bO (mH se) (pL k0 e0 1 l0 fun d=>by kernel_rfl)
def ET:BQ:=bj (mH se) NN
def sd(t3 t6 aB:Int)(aI:List Int)(aJ:List (Sh.T al))(aL aR aZ:List Int)(aq:List (Sh.T an))(aO:List (Sh.T al))(cz ca:Int)(iC:Bool)(fl:List (Sh.T cV))(fT:List (Sh.T bU)):Option (TL xa.σs⊕Out w7):=
 br (iL t6 (Int.ofNat (List.length fT)))
 (
  ak (ah t6 (List.length fT))<|
  br (iL (100:Int) (Int.ofNat (List.length (gt bU fT t6).2.1)))
  (
   some (.inr (.inl (false,()))))
  (
   ak (ah t6 (List.length fT))<|
   br (bD false true (iL (100:Int) (Int.ofNat (List.length (gt bU fT t6).2.2.1))))
   (
    some (.inr (.inl (false,()))))
   (
    some (.inl (t3,((IntKind.wrap .i64 (t6+(1:Int))),(aB,(aI,(aJ,(aL,(aR,(aZ,(aq,(aO,(cz,(ca,(iC,(fl,(fT,())))))))))))))))))))
 (
  some (.inr (.inr (t3,(aB,(aI,(aJ,(aL,(aR,(aZ,(aq,(aO,()))))))))))))
def Mf  :BR:=bO (mH sd) (pL k0 e0 1 l0 fun d=>by kernel_rfl)
def ES:BP:=bj (mH sd) NN
def sq(L10:BQ)(L15:BP)(t3 aB:Int)(aI:List Int)(aJ:List (Sh.T al))(aL aR aZ:List Int)(aq:List (Sh.T an))(aO:List (Sh.T al)):Option (TL xB.σs⊕Out xo):=
 br (iL t3 (Int.ofNat (List.length aq)))
 (
  ak (ah t3 (List.length aq))<|
  br (iL (6:Int) (Int.ofNat (List.length (gt an aq t3).2.2.2.1)))
  (
   some (.inr (.inl (false,()))))
  (
   br (bD false true (iL (6:Int) (Int.ofNat (List.length (gt an aq t3).2.2.2.2.1))))
   (
    some (.inr (.inl (false,()))))
   (
    br (bD false true (iL (100:Int) (gt an aq t3).2.1))
    (
     some (.inr (.inl (false,()))))
    (
     az (L10 (t3,((0:Int),(aB,(aI,(aJ,(aL,(aR,(aZ,(aq,(aO,((gt an aq t3).1,((gt an aq t3).2.1,((gt an aq t3).2.2.1,((gt an aq t3).2.2.2.1,((gt an aq t3).2.2.2.2.1,())))))))))))))))) fun x0=>
     (match x0 with
     |.inl x1=>some (.inr (.inl (x1.1,())))|.inr x1=>
      az (L15 (x1.1,((0:Int),x1.2))) fun x2=>
      (match x2 with|.inl x3=>some (.inr (.inl (x3.1,())))|.inr x3=>some (.inl ((IntKind.wrap .i64 (@HAdd.hAdd (Int) (Int) (Int) _ x3.1 (1:Int))),x3.2))
      )
     )))))
 (
  some (.inr (.inr ())))
def XS(M10:BS)(M15:BR):BV:=bO (u9 (sq M10.L M15.L)) (pL k0 e0 1 (sC M10 (sC M15 l0)) fun d=>by kernel_rfl)
def XR:BV:=XS  Mg Mf
def P0:Mm:=bj (u9 (sq ET ES)) NN
abbrev Qf:List Sh:=[bE]
abbrev Fm:List Sh:=[.bool]
abbrev My:=TL Qf->Option (TL Fm)
abbrev B3:=Kd 73 Qf Fm
def Zlb(L4:Mm)(L10:BQ)(L15:BP)(a0:Sh.T bE):Option (TL Fm):=
 br (iL (2100:Int) (Int.ofNat (List.length a0.2.1)))
 (
  some (false,()))
 (
  br (bD false true (iL (2100:Int) (Int.ofNat (List.length a0.2.2.1))))
  (
   some (false,()))
  (
   br (bD false true (iL (2100:Int) (Int.ofNat (List.length a0.2.2.2.2.2.2.2.1))))
   (
    some (false,()))
   (
    br (bD false true (iL (1100:Int) (Int.ofNat (List.length a0.2.2.2.1))))
    (
     some (false,()))
    (
     br (bD false true (iL (1100:Int) (Int.ofNat (List.length a0.2.2.2.2.1))))
     (
      some (false,()))
     (
      br (bD false true (iL (1100:Int) (Int.ofNat (List.length a0.2.2.2.2.2.1))))
      (
       some (false,()))
      (
       br (bD false true (iL (6:Int) (Int.ofNat (List.length a0.2.2.2.2.2.2.1))))
       (
        some (false,()))
       (
        az (L4 ((0:Int),a0)) fun x0=>
        (match x0 with|.inl x1=>some (x1.1,())|.inr x1=>some (true,())
        ))))))))
def X3(M4:BV)(M10:BS)(M15:BR):B3:=⟨u1 (Zlb M4.L M10.L M15.L),pD Tryz.func73 132 k0 e0 1 (sS (sC M4 l0)) fun d=>by kernel_rfl⟩
def Mz:B3:=X3  XR Mg Mf
def E7:My:=Mz.F
abbrev Qe:List Sh:=[bE]
abbrev Fl:List Sh:=[.bool]
abbrev Mw:=TL Qe->Option (TL Fl)
abbrev B2:=Kd 22 Qe Fl
def Zla(F0:My)(a0:Sh.T bE):Option (TL Fl):=
 az (F0 (a0,())) fun x0=>
 br x0.1
 (
  br (bD true (iE (Int.ofNat (List.length a0.2.2.2.2.2.2.2.1)) (100:Int)) false)
  (
   br (bD true (iE (Int.ofNat (List.length a0.2.1)) (100:Int)) false)
   (
    br (bD true (iE (Int.ofNat (List.length a0.2.2.1)) (100:Int)) false)
    (
     some ((bD true (iE (IntKind.wrap .i64 ((IntKind.wrap .i64 ((Int.ofNat (List.length a0.2.2.2.1))+(Int.ofNat (List.length a0.2.2.2.2.1))))+(Int.ofNat (List.length a0.2.2.2.2.2.1)))) (100:Int)) false),()))
    (
     some (false,())))
   (
    some (false,())))
  (
   some (false,())))
 (
  some (false,()))
def X2(c0:B3) :B2:=⟨u1 (Zla c0.F),pD Tryz.func22 37 (kD c0 k0) e0 1 (sS l0) fun d=>by kernel_rfl⟩
def Mx:B2:=X2 Mz
def Zcw:Mw:=Mx.F
abbrev xz:Lay:={ T:=[(2,.fz (.sl .bool)),(8,.int .i64)],h:=[],nx:=0 }
abbrev xm:List (Ev.Ex×Lay):=[(.ret,{ T:=[(6,.bool)],h:=[],nx:=0 }),((.exit 2),nD)]
abbrev Mi:=TL xz.σs->Option (Out xm)
abbrev Mk:=Ld 0 55 (bL [1] (bw Tryz.f10)) xz xm
abbrev xA:Lay:={ T:=[(2,.fz (.sl .bool)),(4,.ptr 0 0),(7,.int .i64)],h:=[(0,.cells [.fz .bool,.fz (.sl ar)] 31)],nx:=1 }
abbrev xn:List (Ev.Ex×Lay):=[(.ret,{ T:=[(6,.bool)],h:=[],nx:=0 }),((.exit 0),{ T:=[(2,.fz (.sl .bool))],h:=[],nx:=0 })]
abbrev Mj:=TL xA.σs->Option (Out xn)
abbrev Ml:=Ld 0 55 (bL [0] (bw Tryz.f10)) xA xn
def sk(t2:List (List Bool))(t7:Int)(aB:List Bool)(aI:List (List (Sh.T ar))):Option (TL xA.σs⊕Out xn):=
 br (iL t7 (Int.ofNat (List.length aI)))
 (
  ak (ah t7 (List.length aI))<|
  br (iL (100:Int) (Int.ofNat (List.length (gt (.sl ar) aI t7))))
  (
   some (.inr (.inl (false,()))))
  (
   some (.inl (t2,((IntKind.wrap .i64 (t7+(1:Int))),(aB,(aI,())))))))
 (
  some (.inr (.inr (t2,()))))
def XQ  :Ml:=bO (u4 sk) (pL k0 e0 1 l0 fun d=>by kernel_rfl)
def PZ:Mj:=bj (u4 sk) NN
def sj(t2:List (List Bool))(t8:Int):Option (TL xz.σs⊕Out xm):=
 br (iL t8 (Int.ofNat (List.length t2)))
 (
  ak (ah t8 (List.length t2))<|
  br (iL (200:Int) (Int.ofNat (List.length (gt (.sl .bool) t2 t8))))
  (
   some (.inr (.inl (false,()))))
  (
   some (.inl (t2,((IntKind.wrap .i64 (t8+(1:Int))),())))))
 (
  some (.inr (.inr ())))
def XP  :Mk:=bO (u2 sj) (pL k0 e0 1 l0 fun d=>by kernel_rfl)
def PY:Mi:=bj (u2 sj) NN
abbrev Qd:List Sh:=[bE,cj,(.sl (.sl .bool))]
abbrev Fk:List Sh:=[.bool]
abbrev MC:=TL Qd->Option (TL Fk)
abbrev B9:=Kd 10 Qd Fk
def Zl9(F0:Mw)(L4:Mj)(L9:Mi)(a0:Sh.T bE)(a1:Sh.T cj)(a2:List (List Bool)):Option (TL Fk):=
 az (F0 (a0,())) fun x0=>
 br (Bool.not x0.1)
 (
  some (false,()))
 (
  br (bD false true (iL (200:Int) (Int.ofNat (List.length a1.1))))
  (
   some (false,()))
  (
   br (bD false true (iL (10:Int) (Int.ofNat (List.length a1.2.1))))
   (
    some (false,()))
   (
    br (bD false true (iL (40:Int) (Int.ofNat (List.length a2))))
    (
     some (false,()))
    (
     az (L4 (a2,((0:Int),a1))) fun x1=>
     (match x1 with
     |.inl x2=>some (x2.1,())|.inr x2=>
      az (L9 (x2.1,((0:Int),()))) fun x3=>
      (match x3 with|.inl x4=>some (x4.1,())|.inr x4=>some (true,())
      )
     )))))
def X1(c0:B2)(M4:Ml)(M9:Mk):B9:=⟨u3 (Zl9 c0.F M4.L M9.L),pD Tryz.func10 55 (kD c0 k0) e0 1 (sS (sC M4 (sC M9 l0))) fun d=>by kernel_rfl⟩
def MD:B9:=X1 Mx XQ XP
def P7:MC:=MD.F
