import Derived.Test.YtkcpdpplobhpaaaGreatWNd
set_option linter.unusedVariables false
set_option linter.unusedSimpArgs false
set_option linter.unnecessarySimpa false
/- memories, states of netlists, the documents beside them (printed by VTool.lean). -/
namespace Go.Proofs.YtkcpdpplobhpaaaGreat.V
open Go Go.RowKit
set_option maxRecDepth 1000000
abbrev Zos:List Sh:=[(.int .i64)]
abbrev PW:List Sh:=[(.int .i64)]
abbrev MO:=TL Zos->Option (TL PW)
abbrev CR:=Kd 126 Zos PW
def xS(a0:Int):Option (TL PW):=some ((du (iL (du (iL (64:Int) a0) (64:Int) a0) (0:Int)) (0:Int) (du (iL (64:Int) a0) (64:Int) a0)),())
def al3  :CR:=⟨u1 xS,pD Tryz.func126 6 k0 e0 1 (sS l0) fun d=>by kernel_rfl⟩
def MP:CR:=al3
def Fm:MO:=MP.F
abbrev Zrm:List Sh:=[(.int .u64),(.int .i64)]
abbrev P0:List Sh:=[.bool]
abbrev CV:=TL Zrm->Option (TL P0)
abbrev wF:=Kd 196 Zrm P0
def Qg(F0:MO)(a0 a1:Int):Option (TL P0):=
 ao (F0 (a1,())) fun x0=>
 ai (iE (0:Int) x0.1)<|
 some ((iQ (Int.fdiv a0 (HPow.hPow (2:Int) (Min.min (Int.toNat x0.1) 64))) (0:Int)),())
def amI(c0:CR) :wF:=⟨u2 (Qg c0.F),pD Tryz.func196 10 (kD c0 k0) e0 1 (sS l0) fun d=>by kernel_rfl⟩
def CW:wF:=amI MP
def Fh:CV:=CW.F
abbrev E4:Lay:={ T:=[(0,.int .i64),(1,.int .i64),(2,.fz aA),(28,.fz aA),(29,.int .i64),(30,.int .i64)],h:=[],nx:=0 }
abbrev xv:List (Nat×LO):=[(0,.cells [.int .i64,.int .i64,.mp 1] 220),(1,.map .u64 (.int .u64))]
abbrev pU:Lay:={ T:=[],h:=[],nx:=0 }
abbrev Oy:List (Nat×LO):=[(0,.cells jf 27),(1,.cells [.int .i64,.int .i64,.bool,.fz bg,.fz aH] 116)]
abbrev DW:Lay:={ T:=[(6,.bool)],h:=[],nx:=0 }
abbrev tL:List LA:=[.fz .bool,.fz (.sl aA)]
abbrev ER:List (Ev.Ex×Lay):=[(.ret,DW),((.exit 0),pU)]
abbrev aaa:=TL E4.σs->Option (Out ER)
abbrev MG:=Ld 0 68 (bI [0] (bh Tryz.f144)) E4 ER
def xQ(F0:CV)(t0 t1:Int)(t2 t28:List (Sh.T aA))(t29 t30:Int):Option (TL E4.σs⊕Out ER):=
 br (iL t30 t29)
 (
  ai (av t30 (List.length t28))<|
  br (iQ (gt aA t28 t30).2.1 (0:Int))
  (
   some (.inr (.inl (false,()))))
  (
   ao (F0 ((gt aA t28 t30).1,(t0,()))) fun x0=>
   br (bn false true (Bool.not x0.1))
   (
    some (.inr (.inl (false,()))))
   (
    ao (F0 ((gt aA t28 t30).2.1,(t1,()))) fun x1=>
    br (bn false true (Bool.not x1.1))
    (
     some (.inr (.inl (false,()))))
    (
     br (iL (0:Int) t30)
     (
      ai (av (IntKind.wrap .i64 (t30-(1:Int))) (List.length t2))<|
      br (bn false true (bn true (iE (gt aA t28 t30).1 (gt aA t2 (IntKind.wrap .i64 (t30-(1:Int)))).1) false))
      (
       some (.inr (.inl (false,()))))
      (
       some (.inl (t0,(t1,(t2,(t28,(t29,((IntKind.wrap .i64 (t30+(1:Int))),())))))))))
     (
      some (.inl (t0,(t1,(t2,(t28,(t29,((IntKind.wrap .i64 (t30+(1:Int))),()))))))))))))
 (
  some (.inr (.inr ())))
def amu(c0:wF) :MG:=bN (u6 (xQ c0.F)) (pL (kD c0 k0) e0 1 l0 fun d=>by kernel_rfl)
def amt:MG:=amu CW
def PR:aaa:=aX (u6 (xQ Fh)) NN
abbrev Zrd:List Sh:=[(.int .i64),(.int .i64),(.sl aA)]
abbrev PZ:List Sh:=[.bool]
abbrev aah:=TL Zrd->Option (TL PZ)
abbrev MS:=Kd 144 Zrd PZ
def P9(F0:CV)(L4:aaa)(a0 a1:Int)(a2:List (Sh.T aA)):Option (TL PZ):=
 br (iL a0 (1:Int))
 (
  some (false,()))
 (
  br (bn false true (iL (62:Int) a0))
  (
   some (false,()))
  (
   br (bn false true (iL a1 (1:Int)))
   (
    some (false,()))
   (
    br (bn false true (iL (64:Int) a1))
    (
     some (false,()))
    (
     br (bn false true (iL (4096:Int) (Int.ofNat (List.length a2))))
     (
      some (false,()))
     (
      ao (L4 (a0,(a1,(a2,(a2,((Int.ofNat (List.length a2)),((0:Int),()))))))) fun x0=>
      (match x0 with|.inl x1=>some (x1.1,())|.inr x1=>some (true,())
      ))))))
def amG(c0:wF)(M4:MG):MS:=⟨u3 (P9 c0.F M4.L),pD Tryz.func144 68 (kD c0 k0) e0 1 (sS (sC M4 l0)) fun d=>by kernel_rfl⟩
def aai:MS:=amG CW amt
def Zj4:aah:=aai.F
abbrev Zh9:Lay:={ T:=[(0,.int .i64),(1,.int .i64),(2,.fz aA)],h:=[],nx:=0 }
abbrev Pc:List (Ev.Ex×Lay):=[(.ret,{ T:=[(0,.ed),(1,.int .i64)],h:=[],nx:=0 }),(.ret,{ T:=[(0,.ptr 0 0),(1,.int .i64)],h:=xv,nx:=2 })]
abbrev sY:=TL Zh9.σs->Option (Out Pc)
abbrev sV:=Kb 74 3 Zh9 2 Pc
abbrev Fg:Lay:={ T:=[(8,.ptr 0 0),(21,.fz aA),(22,.int .i64),(23,.int .i64)],h:=xv,nx:=2 }
abbrev E5:List (Ev.Ex×Lay):=[((.exit 0),{ T:=[(8,.ptr 0 0)],h:=xv,nx:=2 })]
abbrev aaj:=TL Fg.σs->Option (Out E5)
abbrev aak:=Ld 0 37 (bI [0] (bh Tryz.f74)) Fg E5
def Fy(t21:List (Sh.T aA))(t22 t23 aw aG:Int)(b1:List (Sh.T aA)):Option (TL Fg.σs⊕Out E5):=
 br (iL t23 t22)
 (
  ai (av t23 (List.length t21))<|
  some (.inl (t21,(t22,((IntKind.wrap .i64 (t23+(1:Int))),(aw,(aG,((@iq (.int .u64) (gt aA t21 t23).1 (gt aA t21 t23).2.1 b1),()))))))))
 (
  some (.inr (aw,(aG,(b1,())))))
def amH  :aak:=bN (u6 Fy) (pL k0 e0 1 l0 fun d=>by kernel_rfl)
def PT:aaj:=aX (u6 Fy) NN
def Qj(F0:aah)(L5:aaj)(t0 t1:Int)(t2:List (Sh.T aA)):Option (Out Pc):=
 ao (F0 (t0,(t1,(t2,())))) fun x0=>
 br (Bool.not x0.1)
 (
  some (.inl ((14:Int),())))
 (
  ao (L5 (t2,((Int.ofNat (List.length t2)),((0:Int),(t0,(t1,([],()))))))) fun x1=>
  some (.inr ((0:Int),x1)))
def amO(c0:MS)(M5:aak):sV:=⟨u3 (Qj c0.F M5.L),pB Tryz.func74 37 (kD c0 k0) e0 1 (sS (sC M5 l0)) fun d=>by kernel_rfl⟩
def wM:sV:=amO aai amH
def tV:sY:=wM.F
abbrev Zjo:Lay:={ T:=[(0,.ptr 0 0),(1,.int .u64),(2,.int .u64)],h:=xv,nx:=2 }
abbrev Fi:List (Ev.Ex×Lay):=[(.ret,{ T:=[(0,.bool)],h:=xv,nx:=2 })]
abbrev LQ:=TL Zjo.σs->Option (Out Fi)
abbrev Cj:=Kb 150 3 Zjo 1 Fi
def P3(F0:CV)(t1 t2 aw aG:Int)(b1:List (Sh.T aA)):Option (Out Fi):=
 ao (F0 (t1,(aw,()))) fun x0=>
 br (bn false true (Bool.not x0.1))
 (
  some (false,(aw,(aG,(b1,())))))
 (
  ao (F0 (t2,(aG,()))) fun x1=>
  br (bn false true (Bool.not x1.1))
  (
   some (false,(aw,(aG,(b1,())))))
  (
   br (iQ t2 (0:Int))
   (
    some (true,(aw,(aG,((@j2 (.int .u64) t1 b1),())))))
   (
    some (true,(aw,(aG,((@iq (.int .u64) t1 t2 b1),())))))))
def alI(c0:wF) :Cj:=⟨u5 (P3 c0.F),pB Tryz.func150 42 (kD c0 k0) e0 1 (sS l0) fun d=>by kernel_rfl⟩
def LR:Cj:=alI CW
def Qs:LQ:=LR.F
abbrev Zkg:Lay:={ T:=[(0,.agg jf),(1,.agg tL)],h:=[],nx:=0 }
abbrev PL:List (Ev.Ex×Lay):=[(.ret,{ T:=[(0,.dW 0),(1,.int .i64)],h:=[(0,.dL 220)],nx:=1 })]
abbrev Nb:=TL Zkg.σs->Option (Out PL)
abbrev C5:=Kb 77 2 Zkg 2 PL
abbrev Ff:Lay:={ T:=[(3,.ptr 0 0),(4,.dW 1),(27,.fz ab),(28,.int .i64),(29,.int .i64)],h:=[(0,.cells tL 40),(1,.dL 220)],nx:=2 }
abbrev E0:List (Ev.Ex×Lay):=[(.ret,{ T:=[(4,.bk),(5,.int .i64)],h:=[],nx:=0 }),((.exit 0),{ T:=[(4,.dW 0)],h:=[(0,.dL 220)],nx:=1 })]
abbrev aag:=TL Ff.σs->Option (Out E0)
abbrev MR:=Ld 0 56 (bI [0] (bh Tryz.f77)) Ff E0
def xT(F0:sY)(t27:List (Sh.T ab))(t28 t29:Int)(aw:List Bool)(aG:List (List (Sh.T aA)))(b1:List (Sh.T (.agg [(.int .i64),(.int .i64),(.sl aA)]))):Option (TL Ff.σs⊕Out E0):=
 br (iL t29 t28)
 (
  ai (av t29 (List.length t27))<|
  ai (av t29 (List.length aG))<|
  ao (F0 ((gt ab t27 t29).1,((gt ab t27 t29).2.1,((gt (.sl aA) aG t29),())))) fun x0=>
  (match x0 with
  |.inl x1=>
   ai (Bool.not (iQ x1.1 (0:Int)))<|
   some (.inr (.inl (x1.1,())))
  |.inr x1=>
   br (Bool.not (iQ x1.1 (0:Int)))
   (
    some (.inr (.inl (x1.1,()))))
   (
    ai (room 8 (List.length (ap b1 ((nJ x1.2.1 x1.2.2.1 x1.2.2.2.1)::[]))))<|
    some (.inl (t27,(t28,((IntKind.wrap .i64 (t29+(1:Int))),(aw,(aG,((ap b1 ((nJ x1.2.1 x1.2.2.1 x1.2.2.2.1)::[])),()))))))))
  ))
 (
  some (.inr (.inr (b1,()))))
def amF(c0:sV) :MR:=bN (u6 (xT c0.F)) (pL (kB c0 k0) e0 1 l0 fun d=>by kernel_rfl)
def amE:MR:=amF wM
def PS:aag:=aX (u6 (xT tV)) NN
def Qi(F0:sY)(L4:aag)(eX:Int)(jh:List Int)(iV:List (Sh.T ae))(jL jM jN:List Int)(fA:List (Sh.T ab))(iW:List (Sh.T ae))(fW:List Bool)(fT:List (List (Sh.T aA))):Option (Out PL):=
 br (Bool.not (iQ (Int.ofNat (List.length fW)) (Int.ofNat (List.length iV))))
 (
  some ((14:Int),([],())))
 (
  br (bn false true (Bool.not (iQ (Int.ofNat (List.length fT)) (Int.ofNat (List.length fA)))))
  (
   some ((14:Int),([],())))
  (
   ao (L4 (fA,((Int.ofNat (List.length fA)),((0:Int),(fW,(fT,([],()))))))) fun x0=>
   (match x0 with|.inl x1=>some (x1.1,([],()))|.inr x1=>some ((0:Int),(x1.1,()))
   )))
def amL(c0:sV)(M4:MR):C5:=⟨kU (Qi c0.F M4.L),pB Tryz.func77 56 (kB c0 k0) e0 1 (sS (sC M4 l0)) fun d=>by kernel_rfl⟩
def Nc:C5:=amL wM amE
def Zq8:Nb:=Nc.F
abbrev Zsj:List Sh:=[ca,gK]
abbrev P7:List Sh:=[(.int .i64)]
abbrev aao:=TL Zsj->Option (TL P7)
abbrev MX:=Kd 72 Zsj P7
def Zy5(F0:sT)(F1:Nb)(a0:Sh.T ca)(a1:Sh.T gK):Option (TL P7):=
 ao (F0 (a0,())) fun x0=>
 br (Bool.not (iQ x0.1 (0:Int)))
 (
  some (x0.1,()))
 (
  ao (F1 (a0.1,(a0.2.1,(a0.2.2.1,(a0.2.2.2.1,(a0.2.2.2.2.1,(a0.2.2.2.2.2.1,(a0.2.2.2.2.2.2.1,(a0.2.2.2.2.2.2.2.1,a1))))))))) fun x1=>
  some (x1.1,()))
def amN(c0:qN)(c1:C5) :MX:=⟨u2 (Zy5 c0.F c1.F),pD Tryz.func72 20 (kD c0 (kB c1 k0)) e0 1 (sS l0) fun d=>by kernel_rfl⟩
def aap:MX:=amN sU Nc
def Zhp:aao:=aap.F
abbrev OR:Lay:={ T:=[(0,.int .u64),(1,.int .i64),(5,.int .i64)],h:=[],nx:=0 }
abbrev OO:List (Ev.Ex×Lay):=[((.exit 0),{ T:=[(0,.int .u64)],h:=[],nx:=0 })]
abbrev Yq:=TL OR.σs->Option (Out OO)
abbrev Yr:=Ld 0 19 (bI [0] (bh Tryz.f127)) OR OO
def Fa(t0 t1 t5:Int):Option (TL OR.σs⊕Out OO):=
 br (iL t5 t1)
 (
  br (bn true (iL t5 (64:Int)) false)
  (
   some (.inl ((IntKind.wrap .u64 (Int.tdiv t0 (2:Int))),(t1,((IntKind.wrap .i64 (t5+(1:Int))),())))))
  (
   some (.inr (t0,()))))
 (
  some (.inr (t0,())))
def akQ  :Yr:=bN (u3 Fa) (pL k0 e0 1 l0 fun d=>by kernel_rfl)
def Zf0:Yq:=aX (u3 Fa) NN
abbrev Ziy:List Sh:=[(.int .u64),(.int .i64)]
abbrev E9:List Sh:=[.bool]
abbrev wi:=TL Ziy->Option (TL E9)
abbrev sM:=Kd 127 Ziy E9
def Zm0(L2:Yq)(a0 a1:Int):Option (TL E9):=
 ao (L2 (a0,(a1,((0:Int),())))) fun x0=>
 some ((iQ x0.1 (0:Int)),())
def ak4(M2:Yr):sM:=⟨u2 (Zm0 M2.L),pD Tryz.func127 19 k0 e0 1 (sS (sC M2 l0)) fun d=>by kernel_rfl⟩
def wj:sM:=ak4  akQ
def xD:wi:=wj.F
abbrev EH:Lay:={ T:=[(0,.fz .bool),(1,.fz .bool),(5,.int .i64)],h:=[],nx:=0 }
abbrev Ey:List (Ev.Ex×Lay):=[(.ret,{ T:=[(4,.bool)],h:=[],nx:=0 }),((.exit 0),pU)]
abbrev Yo:=TL EH.σs->Option (Out Ey)
abbrev Yp:=Ld 0 26 (bI [0] (bh Tryz.f33)) EH Ey
def E8(t0 t1:List Bool)(t5:Int):Option (TL EH.σs⊕Out Ey):=
 br (iL t5 (Int.ofNat (List.length t0)))
 (
  ai (av t5 (List.length t0))<|
  ai (av t5 (List.length t1))<|
  br (Bool.not (@decide _ (Bool.decEq (gt .bool t0 t5) (gt .bool t1 t5))))
  (
   some (.inr (.inl (false,()))))
  (
   some (.inl (t0,(t1,((IntKind.wrap .i64 (t5+(1:Int))),()))))))
 (
  some (.inr (.inr ())))
def akP  :Yp:=bN (u3 E8) (pL k0 e0 1 l0 fun d=>by kernel_rfl)
def Zez:Yo:=aX (u3 E8) NN
abbrev Zix:List Sh:=[(.sl .bool),(.sl .bool)]
abbrev Px:List Sh:=[.bool]
abbrev B9:=TL Zix->Option (TL Px)
abbrev wg:=Kd 33 Zix Px
def Zlz(L4:Yo)(a0 a1:List Bool):Option (TL Px):=
 br (Bool.not (iQ (Int.ofNat (List.length a0)) (Int.ofNat (List.length a1))))
 (
  some (false,()))
 (
  ao (L4 (a0,(a1,((0:Int),())))) fun x0=>
  (match x0 with|.inl x1=>some (x1.1,())|.inr x1=>some (true,())
  ))
def ak3(M4:Yp):wg:=⟨u2 (Zlz M4.L),pD Tryz.func33 26 k0 e0 1 (sS (sC M4 l0)) fun d=>by kernel_rfl⟩
def Ca:wg:=ak3  akP
def EK:B9:=Ca.F
abbrev Ew:Lay:={ T:=[(0,.int .i64),(1,.int .i64),(2,.fz aA),(7,.int .i64)],h:=[],nx:=0 }
abbrev Ej:List (Ev.Ex×Lay):=[(.ret,DW),((.exit 0),pU)]
abbrev X8:=TL Ew.σs->Option (Out Ej)
abbrev KR:=Ld 0 77 (bI [0] (bh Tryz.f65)) Ew Ej
def xG(F0:wi)(t0 t1:Int)(t2:List (Sh.T aA))(t7:Int):Option (TL Ew.σs⊕Out Ej):=
 br (iL t7 (Int.ofNat (List.length t2)))
 (
  br (iL (0:Int) t7)
  (
   ai (av t7 (List.length t2))<|
   ai (av (IntKind.wrap .i64 (t7-(1:Int))) (List.length t2))<|
   br (bn true (iE (gt aA t2 t7).1 (gt aA t2 (IntKind.wrap .i64 (t7-(1:Int)))).1) false)
   (
    some (.inr (.inl (false,()))))
   (
    ai (av t7 (List.length t2))<|
    ao (F0 ((gt aA t2 t7).1,(t0,()))) fun x0=>
    br (bn false true (Bool.not x0.1))
    (
     some (.inr (.inl (false,()))))
    (
     ai (av t7 (List.length t2))<|
     ao (F0 ((gt aA t2 t7).2.1,(t1,()))) fun x1=>
     br (bn false true (Bool.not x1.1))
     (
      some (.inr (.inl (false,()))))
     (
      ai (av t7 (List.length t2))<|
      br (bn false true (iQ (gt aA t2 t7).2.1 (0:Int)))
      (
       some (.inr (.inl (false,()))))
      (
       some (.inl (t0,(t1,(t2,((IntKind.wrap .i64 (t7+(1:Int))),()))))))))))
  (
   ai (av t7 (List.length t2))<|
   ao (F0 ((gt aA t2 t7).1,(t0,()))) fun x0=>
   br (bn false true (Bool.not x0.1))
   (
    some (.inr (.inl (false,()))))
   (
    ai (av t7 (List.length t2))<|
    ao (F0 ((gt aA t2 t7).2.1,(t1,()))) fun x1=>
    br (bn false true (Bool.not x1.1))
    (
     some (.inr (.inl (false,()))))
    (
     ai (av t7 (List.length t2))<|
     br (bn false true (iQ (gt aA t2 t7).2.1 (0:Int)))
     (
      some (.inr (.inl (false,()))))
     (
      some (.inl (t0,(t1,(t2,((IntKind.wrap .i64 (t7+(1:Int))),()))))))))))
 (
  some (.inr (.inr ())))
def akB(c0:sM) :KR:=bN (u4 (xG c0.F)) (pL (kD c0 k0) e0 1 l0 fun d=>by kernel_rfl)
def akA:KR:=akB wj
def O6:X8:=aX (u4 (xG xD)) NN
abbrev Zih:List Sh:=[(.int .i64),(.int .i64),(.sl aA)]
abbrev Pg:List Sh:=[.bool]
abbrev KZ:=TL Zih->Option (TL Pg)
abbrev BA:=Kd 65 Zih Pg
def Pw(F0:wi)(L4:X8)(a0 a1:Int)(a2:List (Sh.T aA)):Option (TL Pg):=
 br (iL a0 (1:Int))
 (
  some (false,()))
 (
  br (bn false true (iL (62:Int) a0))
  (
   some (false,()))
  (
   br (bn false true (iL a1 (1:Int)))
   (
    some (false,()))
   (
    br (bn false true (iL (64:Int) a1))
    (
     some (false,()))
    (
     br (bn false true (iL (4096:Int) (Int.ofNat (List.length a2))))
     (
      some (false,()))
     (
      ao (L4 (a0,(a1,(a2,((0:Int),()))))) fun x0=>
      (match x0 with|.inl x1=>some (x1.1,())|.inr x1=>some (true,())
      ))))))
def akO(c0:sM)(M4:KR):BA:=⟨u3 (Pw c0.F M4.L),pD Tryz.func65 77 (kD c0 k0) e0 1 (sS (sC M4 l0)) fun d=>by kernel_rfl⟩
def K3:BA:=akO wj akA
def Zdq:KZ:=K3.F
abbrev EG:Lay:={ T:=[(0,.fz aA),(1,.fz aA),(5,.int .i64)],h:=[],nx:=0 }
abbrev Eu:List (Ev.Ex×Lay):=[(.ret,{ T:=[(4,.bool)],h:=[],nx:=0 }),((.exit 0),pU)]
abbrev Ym:=TL EG.σs->Option (Out Eu)
abbrev Yn:=Ld 0 26 (bI [0] (bh Tryz.f58)) EG Eu
def E7(t0 t1:List (Sh.T aA))(t5:Int):Option (TL EG.σs⊕Out Eu):=
 br (iL t5 (Int.ofNat (List.length t0)))
 (
  ai (av t5 (List.length t0))<|
  ai (av t5 (List.length t1))<|
  br (Bool.not (both (iQ (gt aA t0 t5).1 (gt aA t1 t5).1) (both (iQ (gt aA t0 t5).2.1 (gt aA t1 t5).2.1) true)))
  (
   some (.inr (.inl (false,()))))
  (
   some (.inl (t0,(t1,((IntKind.wrap .i64 (t5+(1:Int))),()))))))
 (
  some (.inr (.inr ())))
def akN  :Yn:=bN (u3 E7) (pL k0 e0 1 l0 fun d=>by kernel_rfl)
def Zey:Ym:=aX (u3 E7) NN
abbrev Ziw:List Sh:=[(.sl aA),(.sl aA)]
abbrev Pv:List Sh:=[.bool]
abbrev La:=TL Ziw->Option (TL Pv)
abbrev BL:=Kd 58 Ziw Pv
def Zly(L4:Ym)(a0 a1:List (Sh.T aA)):Option (TL Pv):=
 br (Bool.not (iQ (Int.ofNat (List.length a0)) (Int.ofNat (List.length a1))))
 (
  some (false,()))
 (
  ao (L4 (a0,(a1,((0:Int),())))) fun x0=>
  (match x0 with|.inl x1=>some (x1.1,())|.inr x1=>some (true,())
  ))
def ak2(M4:Yn):BL:=⟨u2 (Zly M4.L),pD Tryz.func58 26 k0 e0 1 (sS (sC M4 l0)) fun d=>by kernel_rfl⟩
def Lb:BL:=ak2  akN
def Zdv:La:=Lb.F
abbrev EF:Lay:={ T:=[(2,.ptr 0 0),(3,.ptr 1 0),(6,.int .i64)],h:=[(0,.cells jf 27),(1,.cells tL 40)],nx:=2 }
abbrev Et:List (Ev.Ex×Lay):=[(.ret,{ T:=[(4,.int .i64)],h:=[],nx:=0 }),((.exit 0),pU)]
abbrev Yl:=TL EF.σs->Option (Out Et)
abbrev KY:=Ld 0 54 (bI [0] (bh Tryz.f26)) EF Et
def xK(F0:KZ)(t6 aw:Int)(aG:List Int)(aT:List (Sh.T ae))(aP aW ba:List Int)(aD:List (Sh.T ab))(aM:List (Sh.T ae))(ff:List Bool)(fx:List (List (Sh.T aA))):Option (TL EF.σs⊕Out Et):=
 br (iL t6 (Int.ofNat (List.length aD)))
 (
  ai (av t6 (List.length aD))<|
  ai (av t6 (List.length aD))<|
  ai (av t6 (List.length fx))<|
  ao (F0 ((gt ab aD t6).1,((gt ab aD t6).2.1,((gt (.sl aA) fx t6),())))) fun x0=>
  br (Bool.not x0.1)
  (
   some (.inr (.inl ((14:Int),()))))
  (
   some (.inl ((IntKind.wrap .i64 (t6+(1:Int))),(aw,(aG,(aT,(aP,(aW,(ba,(aD,(aM,(ff,(fx,()))))))))))))))
 (
  some (.inr (.inr ())))
def akM(c0:BA) :KY:=bN (kV (xK c0.F)) (pL (kD c0 k0) e0 1 l0 fun d=>by kernel_rfl)
def akL:KY:=akM K3
def Zew:Yl:=aX (kV (xK Zdq)) NN
abbrev Ziv:List Sh:=[ca,gK]
abbrev Pu:List Sh:=[(.int .i64)]
abbrev Yz:=TL Ziv->Option (TL Pu)
abbrev K9:=Kd 26 Ziv Pu
def Zlx(F0:KZ)(F1:Cb)(L7:Yl)(a0:Sh.T ca)(a1:Sh.T gK):Option (TL Pu):=
 ao (F1 (a0,())) fun x0=>
 br (Bool.not (iQ x0.1 (0:Int)))
 (
  some (x0.1,()))
 (
  br (Bool.not (iQ (Int.ofNat (List.length a1.1)) (Int.ofNat (List.length a0.2.2.1))))
  (
   some ((14:Int),()))
  (
   br (bn false true (Bool.not (iQ (Int.ofNat (List.length a1.2.1)) (Int.ofNat (List.length a0.2.2.2.2.2.2.1)))))
   (
    some ((14:Int),()))
   (
    ao (L7 ((0:Int),(a0.1,(a0.2.1,(a0.2.2.1,(a0.2.2.2.1,(a0.2.2.2.2.1,(a0.2.2.2.2.2.1,(a0.2.2.2.2.2.2.1,(a0.2.2.2.2.2.2.2.1,a1)))))))))) fun x1=>
    (match x1 with|.inl x2=>some (x2.1,())|.inr x2=>some ((0:Int),())
    ))))
def ak1(c0:BA)(c1:wh)(M7:KY):K9:=⟨u2 (Zlx c0.F c1.F M7.L),pD Tryz.func26 54 (kD c0 (kD c1 k0)) e0 1 (sS (sC M7 l0)) fun d=>by kernel_rfl⟩
def YA:K9:=ak1 K3 Cc akL
def Zbn:Yz:=YA.F
abbrev EE:Lay:={ T:=[(2,.ptr 0 0),(3,.ptr 1 0),(5,.int .i64)],h:=[(0,.cells tL 40),(1,.cells tL 40)],nx:=2 }
abbrev Es:List (Ev.Ex×Lay):=[(.ret,{ T:=[(4,.bool)],h:=[],nx:=0 }),((.exit 0),pU)]
abbrev Yk:=TL EE.σs->Option (Out Es)
abbrev KX:=Ld 0 40 (bI [0] (bh Tryz.f18)) EE Es
def E6(F0:La)(t5:Int)(aw:List Bool)(aG:List (List (Sh.T aA)))(ff:List Bool)(fx:List (List (Sh.T aA))):Option (TL EE.σs⊕Out Es):=
 br (iL t5 (Int.ofNat (List.length aG)))
 (
  ai (av t5 (List.length aG))<|
  ai (av t5 (List.length fx))<|
  ao (F0 ((gt (.sl aA) aG t5),((gt (.sl aA) fx t5),()))) fun x0=>
  br (Bool.not x0.1)
  (
   some (.inr (.inl (false,()))))
  (
   some (.inl ((IntKind.wrap .i64 (t5+(1:Int))),(aw,(aG,(ff,(fx,()))))))))
 (
  some (.inr (.inr ())))
def akK(c0:BL) :KX:=bN (u5 (E6 c0.F)) (pL (kD c0 k0) e0 1 l0 fun d=>by kernel_rfl)
def akJ:KX:=akK Lb
def Zev:Yk:=aX (u5 (E6 Zdv)) NN
abbrev Ziu:List Sh:=[gK,gK]
abbrev Pt:List Sh:=[.bool]
abbrev LM:=TL Ziu->Option (TL Pt)
abbrev Cd:=Kd 18 Ziu Pt
def Zlw(F0:La)(F1:B9)(L4:Yk)(a0 a1:Sh.T gK):Option (TL Pt):=
 ao (F1 (a0.1,(a1.1,()))) fun x0=>
 br (Bool.not x0.1)
 (
  some (false,()))
 (
  br (bn false true (Bool.not (iQ (Int.ofNat (List.length a0.2.1)) (Int.ofNat (List.length a1.2.1)))))
  (
   some (false,()))
  (
   ao (L4 ((0:Int),(a0.1,(a0.2.1,a1)))) fun x1=>
   (match x1 with|.inl x2=>some (x2.1,())|.inr x2=>some (true,())
   )))
def ak0(c0:BL)(c1:wg)(M4:KX):Cd:=⟨u2 (Zlw c0.F c1.F M4.L),pD Tryz.func18 40 (kD c0 (kD c1 k0)) e0 1 (sS (sC M4 l0)) fun d=>by kernel_rfl⟩
def LP:Cd:=ak0 Lb Ca akJ
def Zgi:LM:=LP.F
abbrev ED:Lay:={ T:=[(1,.ptr 0 0),(3,.int .i64)],h:=[(0,.cells jf 27)],nx:=1 }
abbrev Ep:List (Ev.Ex×Lay):=[(.ret,{ T:=[(2,.bool)],h:=[],nx:=0 }),((.exit 0),pU)]
abbrev Yd:=TL ED.σs->Option (Out Ep)
abbrev KS:=Ld 0 132 (bI [0] (bh Tryz.f50)) ED Ep
abbrev Eb:Lay:={ T:=[(1,.ptr 0 0),(3,.int .i64),(4,.ptr 1 0),(6,.int .i64)],h:=Oy,nx:=2 }
abbrev D8:List (Ev.Ex×Lay):=[(.ret,{ T:=[(2,.bool)],h:=[],nx:=0 }),((.exit 4),{ T:=[(1,.ptr 0 0),(3,.int .i64)],h:=[(0,.cells jf 27)],nx:=1 })]
abbrev KL:=TL Eb.σs->Option (Out D8)
abbrev KO:=Ld 0 132 (bI [0,1] (bh Tryz.f50)) Eb D8
abbrev Ec:Lay:={ T:=[(1,.ptr 0 0),(3,.int .i64),(4,.ptr 1 0),(5,.int .i64)],h:=Oy,nx:=2 }
abbrev D9:List (Ev.Ex×Lay):=[(.ret,{ T:=[(2,.bool)],h:=[],nx:=0 }),((.exit 2),{ T:=[(1,.ptr 0 0),(3,.int .i64),(4,.ptr 1 0)],h:=Oy,nx:=2 })]
abbrev KM:=TL Ec.σs->Option (Out D9)
abbrev KP:=Ld 0 132 (bI [0,0] (bh Tryz.f50)) Ec D9
def xF(t3 t5 aw:Int)(aG:List Int)(aT:List (Sh.T ae))(aP aW ba:List Int)(aD:List (Sh.T ab))(aM:List (Sh.T ae))(ff fx:Int)(ik:Bool)(gU:List (Sh.T bg))(iB:List (Sh.T aH)):Option (TL Ec.σs⊕Out D9):=
 br (iL t5 (Int.ofNat (List.length gU)))
 (
  ai (av t5 (List.length gU))<|
  br (iL (100:Int) (Int.ofNat (List.length (gt bg gU t5).2.1)))
  (
   some (.inr (.inl (false,()))))
  (
   ai (av t5 (List.length gU))<|
   br (bn false true (iL (1099511627776:Int) (gt bg gU t5).1))
   (
    some (.inr (.inl (false,()))))
   (
    ai (av t5 (List.length gU))<|
    br (bn false true (iL (gt bg gU t5).1 (Int.negSucc 1099511627775)))
    (
     some (.inr (.inl (false,()))))
    (
     some (.inl (t3,((IntKind.wrap .i64 (t5+(1:Int))),(aw,(aG,(aT,(aP,(aW,(ba,(aD,(aM,(ff,(fx,(ik,(gU,(iB,()))))))))))))))))))))
 (
  some (.inr (.inr (t3,(aw,(aG,(aT,(aP,(aW,(ba,(aD,(aM,(ff,(fx,(ik,(gU,(iB,())))))))))))))))))
def X6  :KP:=bN (fB xF) (pL k0 e0 1 l0 fun d=>by kernel_rfl)
def OV:KM:=aX (fB xF) NN
def xE(t3 t6 aw:Int)(aG:List Int)(aT:List (Sh.T ae))(aP aW ba:List Int)(aD:List (Sh.T ab))(aM:List (Sh.T ae))(ff fx:Int)(ik:Bool)(gU:List (Sh.T bg))(iB:List (Sh.T aH)):Option (TL Eb.σs⊕Out D8):=
 br (iL t6 (Int.ofNat (List.length iB)))
 (
  ai (av t6 (List.length iB))<|
  br (iL (100:Int) (Int.ofNat (List.length (gt aH iB t6).2.1)))
  (
   some (.inr (.inl (false,()))))
  (
   ai (av t6 (List.length iB))<|
   br (bn false true (iL (100:Int) (Int.ofNat (List.length (gt aH iB t6).2.2.1))))
   (
    some (.inr (.inl (false,()))))
   (
    some (.inl (t3,((IntKind.wrap .i64 (t6+(1:Int))),(aw,(aG,(aT,(aP,(aW,(ba,(aD,(aM,(ff,(fx,(ik,(gU,(iB,())))))))))))))))))))
 (
  some (.inr (.inr (t3,(aw,(aG,(aT,(aP,(aW,(ba,(aD,(aM,()))))))))))))
def X0  :KO:=bN (fB xE) (pL k0 e0 1 l0 fun d=>by kernel_rfl)
def OU:KL:=aX (fB xE) NN
def xJ(L10:KM)(L15:KL)(t3 aw:Int)(aG:List Int)(aT:List (Sh.T ae))(aP aW ba:List Int)(aD:List (Sh.T ab))(aM:List (Sh.T ae)):Option (TL ED.σs⊕Out Ep):=
 br (iL t3 (Int.ofNat (List.length aD)))
 (
  ai (av t3 (List.length aD))<|
  br (iL (6:Int) (Int.ofNat (List.length (gt ab aD t3).2.2.2.1)))
  (
   some (.inr (.inl (false,()))))
  (
   br (bn false true (iL (6:Int) (Int.ofNat (List.length (gt ab aD t3).2.2.2.2.1))))
   (
    some (.inr (.inl (false,()))))
   (
    br (bn false true (iL (100:Int) (gt ab aD t3).2.1))
    (
     some (.inr (.inl (false,()))))
    (
     ao (L10 (t3,((0:Int),(aw,(aG,(aT,(aP,(aW,(ba,(aD,(aM,((gt ab aD t3).1,((gt ab aD t3).2.1,((gt ab aD t3).2.2.1,((gt ab aD t3).2.2.2.1,((gt ab aD t3).2.2.2.2.1,())))))))))))))))) fun x0=>
     (match x0 with
     |.inl x1=>some (.inr (.inl (x1.1,())))|.inr x1=>
      ao (L15 (x1.1,((0:Int),x1.2))) fun x2=>
      (match x2 with|.inl x3=>some (.inr (.inl (x3.1,())))|.inr x3=>some (.inl ((IntKind.wrap .i64 (@HAdd.hAdd (Int) (Int) (Int) _ x3.1 (1:Int))),x3.2))
      )
     )))))
 (
  some (.inr (.inr ())))
def akF(M10:KP)(M15:KO):KS:=bN (u9 (xJ M10.L M15.L)) (pL k0 e0 1 (sC M10 (sC M15 l0)) fun d=>by kernel_rfl)
def akE:KS:=akF  X6 X0
def Zen:Yd:=aX (u9 (xJ OV OU)) NN
abbrev Ziq:List Sh:=[ca]
abbrev Pp:List Sh:=[.bool]
abbrev Yu:=TL Ziq->Option (TL Pp)
abbrev K5:=Kd 50 Ziq Pp
def Zlb(L4:Yd)(L10:KM)(L15:KL)(a0:Sh.T ca):Option (TL Pp):=
 br (iL (2100:Int) (Int.ofNat (List.length a0.2.1)))
 (
  some (false,()))
 (
  br (bn false true (iL (2100:Int) (Int.ofNat (List.length a0.2.2.1))))
  (
   some (false,()))
  (
   br (bn false true (iL (2100:Int) (Int.ofNat (List.length a0.2.2.2.2.2.2.2.1))))
   (
    some (false,()))
   (
    br (bn false true (iL (1100:Int) (Int.ofNat (List.length a0.2.2.2.1))))
    (
     some (false,()))
    (
     br (bn false true (iL (1100:Int) (Int.ofNat (List.length a0.2.2.2.2.1))))
     (
      some (false,()))
     (
      br (bn false true (iL (1100:Int) (Int.ofNat (List.length a0.2.2.2.2.2.1))))
      (
       some (false,()))
      (
       br (bn false true (iL (6:Int) (Int.ofNat (List.length a0.2.2.2.2.2.2.1))))
       (
        some (false,()))
       (
        ao (L4 ((0:Int),a0)) fun x0=>
        (match x0 with|.inl x1=>some (x1.1,())|.inr x1=>some (true,())
        ))))))))
def akT(M4:KS)(M10:KP)(M15:KO):K5:=⟨u1 (Zlb M4.L M10.L M15.L),pD Tryz.func50 132 k0 e0 1 (sS (sC M4 l0)) fun d=>by kernel_rfl⟩
def Yv:K5:=akT  akE X6 X0
def O7:Yu:=Yv.F
abbrev Zio:List Sh:=[ca]
abbrev Po:List Sh:=[.bool]
abbrev Ys:=TL Zio->Option (TL Po)
abbrev K4:=Kd 13 Zio Po
def Zla(F0:Yu)(a0:Sh.T ca):Option (TL Po):=
 ao (F0 (a0,())) fun x0=>
 br x0.1
 (
  br (bn true (iE (Int.ofNat (List.length a0.2.2.2.2.2.2.2.1)) (100:Int)) false)
  (
   br (bn true (iE (Int.ofNat (List.length a0.2.1)) (100:Int)) false)
   (
    br (bn true (iE (Int.ofNat (List.length a0.2.2.1)) (100:Int)) false)
    (
     some ((bn true (iE (IntKind.wrap .i64 ((IntKind.wrap .i64 ((Int.ofNat (List.length a0.2.2.2.1))+(Int.ofNat (List.length a0.2.2.2.2.1))))+(Int.ofNat (List.length a0.2.2.2.2.2.1)))) (100:Int)) false),()))
    (
     some (false,())))
   (
    some (false,())))
  (
   some (false,())))
 (
  some (false,()))
def akS(c0:K5) :K4:=⟨u1 (Zla c0.F),pD Tryz.func13 37 (kD c0 k0) e0 1 (sS l0) fun d=>by kernel_rfl⟩
def Yt:K4:=akS Yv
def Zcw:Ys:=Yt.F
abbrev EB:Lay:={ T:=[(2,.fz (.sl .bool)),(8,.int .i64)],h:=[],nx:=0 }
abbrev Em:List (Ev.Ex×Lay):=[(.ret,DW),((.exit 2),pU)]
abbrev X9:=TL EB.σs->Option (Out Em)
abbrev Yb:=Ld 0 55 (bI [1] (bh Tryz.f21)) EB Em
abbrev EC:Lay:={ T:=[(2,.fz (.sl .bool)),(4,.ptr 0 0),(7,.int .i64)],h:=[(0,.cells tL 40)],nx:=1 }
abbrev Eo:List (Ev.Ex×Lay):=[(.ret,DW),((.exit 0),{ T:=[(2,.fz (.sl .bool))],h:=[],nx:=0 })]
abbrev Ya:=TL EC.σs->Option (Out Eo)
abbrev Yc:=Ld 0 55 (bI [0] (bh Tryz.f21)) EC Eo
def xI(t2:List (List Bool))(t7:Int)(aw:List Bool)(aG:List (List (Sh.T aA))):Option (TL EC.σs⊕Out Eo):=
 br (iL t7 (Int.ofNat (List.length aG)))
 (
  ai (av t7 (List.length aG))<|
  br (iL (100:Int) (Int.ofNat (List.length (gt (.sl aA) aG t7))))
  (
   some (.inr (.inl (false,()))))
  (
   some (.inl (t2,((IntKind.wrap .i64 (t7+(1:Int))),(aw,(aG,())))))))
 (
  some (.inr (.inr (t2,()))))
def akD  :Yc:=bN (u4 xI) (pL k0 e0 1 l0 fun d=>by kernel_rfl)
def Zek:Ya:=aX (u4 xI) NN
def xH(t2:List (List Bool))(t8:Int):Option (TL EB.σs⊕Out Em):=
 br (iL t8 (Int.ofNat (List.length t2)))
 (
  ai (av t8 (List.length t2))<|
  br (iL (200:Int) (Int.ofNat (List.length (gt (.sl .bool) t2 t8))))
  (
   some (.inr (.inl (false,()))))
  (
   some (.inl (t2,((IntKind.wrap .i64 (t8+(1:Int))),())))))
 (
  some (.inr (.inr ())))
def akC  :Yb:=bN (u2 xH) (pL k0 e0 1 l0 fun d=>by kernel_rfl)
def Zej:X9:=aX (u2 xH) NN
abbrev Zin:List Sh:=[ca,gK,(.sl (.sl .bool))]
abbrev Pn:List Sh:=[.bool]
abbrev Y1:=TL Zin->Option (TL Pn)
abbrev Li:=Kd 21 Zin Pn
def Zl9(F0:Ys)(L4:Ya)(L9:X9)(a0:Sh.T ca)(a1:Sh.T gK)(a2:List (List Bool)):Option (TL Pn):=
 ao (F0 (a0,())) fun x0=>
 br (Bool.not x0.1)
 (
  some (false,()))
 (
  br (bn false true (iL (200:Int) (Int.ofNat (List.length a1.1))))
  (
   some (false,()))
  (
   br (bn false true (iL (10:Int) (Int.ofNat (List.length a1.2.1))))
   (
    some (false,()))
   (
    br (bn false true (iL (40:Int) (Int.ofNat (List.length a2))))
    (
     some (false,()))
    (
     ao (L4 (a2,((0:Int),a1))) fun x1=>
     (match x1 with
     |.inl x2=>some (x2.1,())|.inr x2=>
      ao (L9 (x2.1,((0:Int),()))) fun x3=>
      (match x3 with|.inl x4=>some (x4.1,())|.inr x4=>some (true,())
      )
     )))))
def akR(c0:K4)(M4:Yc)(M9:Yb):Li:=⟨u3 (Zl9 c0.F M4.L M9.L),pD Tryz.func21 55 (kD c0 k0) e0 1 (sS (sC M4 (sC M9 l0))) fun d=>by kernel_rfl⟩
def Y2:Li:=akR Yt akD akC
def Zfz:Y1:=Y2.F
