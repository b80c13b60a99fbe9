import Derived.Test.YtkcpdpplobhpaaaGreatYNd
set_option linter.unusedVariables false
set_option linter.unusedSimpArgs false
set_option linter.unnecessarySimpa false
/- memories, states of netlists, the documents beside them (printed by VTool.lean). -/
namespace Go.Proofs.YtkcpdpplobhpaaaGreat.V
open Go Go.RowKit
set_option maxRecDepth 1000000
abbrev Zos:List Sh:=[(.int .i64)]
abbrev Ng:List Sh:=[(.int .i64)]
abbrev JQ:=TL Zos->Option (TL Ng)
abbrev AP:=Kd 126 Zos Ng
def wz(a0:Int):Option (TL Ng):=some ((cN (iL (cN (iL (64:Int) a0) (64:Int) a0) (0:Int)) (0:Int) (cN (iL (64:Int) a0) (64:Int) a0)),())
def ajr  :AP:=⟨u1 wz,pD Tryz.func126 6 k0 e0 1 (sS l0) fun d=>by kernel_rfl⟩
def JR:AP:=ajr
def De:JQ:=JR.F
abbrev Zrm:List Sh:=[(.int .u64),(.int .i64)]
abbrev Np:List Sh:=[.bool]
abbrev AU:=TL Zrm->Option (TL Np)
abbrev uW:=Kd 196 Zrm Np
def NF(F0:JQ)(a0 a1:Int):Option (TL Np):=
 ar (F0 (a1,())) fun x0=>
 ai (iE (0:Int) x0.1)<|
 some ((iQ (Int.fdiv a0 (HPow.hPow (2:Int) (Min.min (Int.toNat x0.1) 64))) (0:Int)),())
def ake(c0:AP) :uW:=⟨u2 (NF c0.F),pD Tryz.func196 10 (kD c0 k0) e0 1 (sS l0) fun d=>by kernel_rfl⟩
def AW:uW:=ake JR
def C9:AU:=AW.F
abbrev C0:Lay:={ T:=[(0,.int .i64),(1,.int .i64),(2,.fz aB),(28,.fz aB),(29,.int .i64),(30,.int .i64)],h:=[],nx:=0 }
abbrev sK:List (Nat×LO):=[(0,.cells fL 27),(1,.cells [.fz .bool,.fz (.sl aB)] 40)]
abbrev vN:List (Nat×LO):=[(0,.cells [.int .i64,.int .i64,.mp 1] 220),(1,.map .u64 (.int .u64))]
abbrev vO:Lay:={ T:=[(4,.int .i64)],h:=[],nx:=0 }
abbrev Lw:List (Nat×LO):=[(0,.cells fL 27),(1,.cells [.int .i64,.int .i64,.bool,.fz bL,.fz bD] 116)]
abbrev qx:Lay:={ T:=[],h:=[],nx:=0 }
abbrev B2:Lay:={ T:=[(6,.bool)],h:=[],nx:=0 }
abbrev CQ:List (Ev.Ex×Lay):=[(.ret,B2),((.exit 0),qx)]
abbrev Xh:=TL C0.σs->Option (Out CQ)
abbrev JH:=Ld 0 68 (bp [0] (aW Tryz.f144)) C0 CQ
def wx(F0:AU)(t0 t1:Int)(t2 t28:List (Sh.T aB))(t29 t30:Int):Option (TL C0.σs⊕Out CQ):=
 br (iL t30 t29)
 (
  ai (aA t30 (List.length t28))<|
  br (iQ (gt aB t28 t30).2.1 (0:Int))
  (
   some (.inr (.inl (false,()))))
  (
   ar (F0 ((gt aB t28 t30).1,(t0,()))) fun x0=>
   br (aR false true (Bool.not x0.1))
   (
    some (.inr (.inl (false,()))))
   (
    ar (F0 ((gt aB t28 t30).2.1,(t1,()))) fun x1=>
    br (aR false true (Bool.not x1.1))
    (
     some (.inr (.inl (false,()))))
    (
     br (iL (0:Int) t30)
     (
      ai (aA (IntKind.wrap .i64 (t30-(1:Int))) (List.length t2))<|
      br (aR false true (aR true (iE (gt aB t28 t30).1 (gt aB t2 (IntKind.wrap .i64 (t30-(1:Int)))).1) false))
      (
       some (.inr (.inl (false,()))))
      (
       some (.inl (t0,(t1,(t2,(t28,(t29,((IntKind.wrap .i64 (t30+(1:Int))),())))))))))
     (
      some (.inl (t0,(t1,(t2,(t28,(t29,((IntKind.wrap .i64 (t30+(1:Int))),()))))))))))))
 (
  some (.inr (.inr ())))
def ajW(c0:uW) :JH:=bw (u6 (wx c0.F)) (pL (kD c0 k0) e0 1 l0 fun d=>by kernel_rfl)
def ajV:JH:=ajW AW
def M0:Xh:=aQ (u6 (wx C9)) NN
abbrev Zrd:List Sh:=[(.int .i64),(.int .i64),(.sl aB)]
abbrev Nn:List Sh:=[.bool]
abbrev Xr:=TL Zrd->Option (TL Nn)
abbrev JU:=Kd 144 Zrd Nn
def Nx(F0:AU)(L4:Xh)(a0 a1:Int)(a2:List (Sh.T aB)):Option (TL Nn):=
 br (iL a0 (1:Int))
 (
  some (false,()))
 (
  br (aR false true (iL (62:Int) a0))
  (
   some (false,()))
  (
   br (aR false true (iL a1 (1:Int)))
   (
    some (false,()))
   (
    br (aR false true (iL (64:Int) a1))
    (
     some (false,()))
    (
     br (aR false true (iL (4096:Int) (Int.ofNat (List.length a2))))
     (
      some (false,()))
     (
      ar (L4 (a0,(a1,(a2,(a2,((Int.ofNat (List.length a2)),((0:Int),()))))))) fun x0=>
      (match x0 with|.inl x1=>some (x1.1,())|.inr x1=>some (true,())
      ))))))
def akc(c0:uW)(M4:JH):JU:=⟨u3 (Nx c0.F M4.L),pD Tryz.func144 68 (kD c0 k0) e0 1 (sS (sC M4 l0)) fun d=>by kernel_rfl⟩
def Xs:JU:=akc AW ajV
def ZY:Xr:=Xs.F
abbrev ZL:Lay:={ T:=[(0,.int .i64),(1,.int .i64),(2,.fz aB)],h:=[],nx:=0 }
abbrev Mr:List (Ev.Ex×Lay):=[(.ret,{ T:=[(0,.di),(1,.int .i64)],h:=[],nx:=0 }),(.ret,{ T:=[(0,.ptr 0 0),(1,.int .i64)],h:=vN,nx:=2 })]
abbrev vf:=TL ZL.σs->Option (Out Mr)
abbrev rY:=Kb 74 3 ZL 2 Mr
abbrev C8:Lay:={ T:=[(8,.ptr 0 0),(21,.fz aB),(22,.int .i64),(23,.int .i64)],h:=vN,nx:=2 }
abbrev C1:List (Ev.Ex×Lay):=[((.exit 0),{ T:=[(8,.ptr 0 0)],h:=vN,nx:=2 })]
abbrev Xt:=TL C8.σs->Option (Out C1)
abbrev Xu:=Ld 0 37 (bp [0] (aW Tryz.f74)) C8 C1
def Dq(t21:List (Sh.T aB))(t22 t23 aE aD:Int)(b1:List (Sh.T aB)):Option (TL C8.σs⊕Out C1):=
 br (iL t23 t22)
 (
  ai (aA t23 (List.length t21))<|
  some (.inl (t21,(t22,((IntKind.wrap .i64 (t23+(1:Int))),(aE,(aD,((@dp (.int .u64) (gt aB t21 t23).1 (gt aB t21 t23).2.1 b1),()))))))))
 (
  some (.inr (aE,(aD,(b1,())))))
def akd  :Xu:=bw (u6 Dq) (pL k0 e0 1 l0 fun d=>by kernel_rfl)
def Nb:Xt:=aQ (u6 Dq) NN
def NH(F0:Xr)(L5:Xt)(t0 t1:Int)(t2:List (Sh.T aB)):Option (Out Mr):=
 ar (F0 (t0,(t1,(t2,())))) fun x0=>
 br (Bool.not x0.1)
 (
  some (.inl ((14:Int),())))
 (
  ar (L5 (t2,((Int.ofNat (List.length t2)),((0:Int),(t0,(t1,([],()))))))) fun x1=>
  some (.inr ((0:Int),x1)))
def akk(c0:JU)(M5:Xu):rY:=⟨u3 (NH c0.F M5.L),pB Tryz.func74 37 (kD c0 k0) e0 1 (sS (sC M5 l0)) fun d=>by kernel_rfl⟩
def vg:rY:=akk Xs akd
def wi:vf:=vg.F
abbrev Z2:Lay:={ T:=[(0,.ptr 0 0),(1,.int .u64),(2,.int .u64)],h:=vN,nx:=2 }
abbrev Da:List (Ev.Ex×Lay):=[(.ret,{ T:=[(0,.bool)],h:=vN,nx:=2 })]
abbrev IX:=TL Z2.σs->Option (Out Da)
abbrev zU:=Kb 150 3 Z2 1 Da
def Nq(F0:AU)(t1 t2 aE aD:Int)(b1:List (Sh.T aB)):Option (Out Da):=
 ar (F0 (t1,(aE,()))) fun x0=>
 br (aR false true (Bool.not x0.1))
 (
  some (false,(aE,(aD,(b1,())))))
 (
  ar (F0 (t2,(aD,()))) fun x1=>
  br (aR false true (Bool.not x1.1))
  (
   some (false,(aE,(aD,(b1,())))))
  (
   br (iQ t2 (0:Int))
   (
    some (true,(aE,(aD,((@jh (.int .u64) t1 b1),())))))
   (
    some (true,(aE,(aD,((@dp (.int .u64) t1 t2 b1),())))))))
def ai2(c0:uW) :zU:=⟨u5 (Nq c0.F),pB Tryz.func150 42 (kD c0 k0) e0 1 (sS l0) fun d=>by kernel_rfl⟩
def IY:zU:=ai2 AW
def NR:IX:=IY.F
abbrev Z4:Lay:={ T:=[(0,.agg fL),(1,.agg [.fz .bool,.fz (.sl aB)])],h:=[],nx:=0 }
abbrev MW:List (Ev.Ex×Lay):=[(.ret,{ T:=[(0,.cT 0),(1,.int .i64)],h:=[(0,.cQ 220)],nx:=1 })]
abbrev Bm:=TL Z4.σs->Option (Out MW)
abbrev vc:=Kb 77 2 Z4 2 MW
abbrev C6:Lay:={ T:=[(3,.ptr 0 0),(4,.cT 1),(27,.fz ab),(28,.int .i64),(29,.int .i64)],h:=[(0,.cells [.fz .bool,.fz (.sl aB)] 40),(1,.cQ 220)],nx:=2 }
abbrev CX:List (Ev.Ex×Lay):=[(.ret,{ T:=[(4,.bz),(5,.int .i64)],h:=[],nx:=0 }),((.exit 0),{ T:=[(4,.cT 0)],h:=[(0,.cQ 220)],nx:=1 })]
abbrev Xo:=TL C6.σs->Option (Out CX)
abbrev JT:=Ld 0 56 (bp [0] (aW Tryz.f77)) C6 CX
def wA(F0:vf)(t27:List (Sh.T ab))(t28 t29:Int)(aE:List Bool)(aD:List (List (Sh.T aB)))(b1:List (Sh.T (.agg [(.int .i64),(.int .i64),(.sl aB)]))):Option (TL C6.σs⊕Out CX):=
 br (iL t29 t28)
 (
  ai (aA t29 (List.length t27))<|
  ai (aA t29 (List.length aD))<|
  ar (F0 ((gt ab t27 t29).1,((gt ab t27 t29).2.1,((gt (.sl aB) aD t29),())))) fun x0=>
  (match x0 with
  |.inl x1=>
   ai (Bool.not (iQ x1.1 (0:Int)))<|
   some (.inr (.inl (x1.1,())))
  |.inr x1=>
   br (Bool.not (iQ x1.1 (0:Int)))
   (
    some (.inr (.inl (x1.1,()))))
   (
    ai (room 8 (List.length (ap b1 ((mK x1.2.1 x1.2.2.1 x1.2.2.2.1)::[]))))<|
    some (.inl (t27,(t28,((IntKind.wrap .i64 (t29+(1:Int))),(aE,(aD,((ap b1 ((mK x1.2.1 x1.2.2.1 x1.2.2.2.1)::[])),()))))))))
  ))
 (
  some (.inr (.inr (b1,()))))
def aj9(c0:rY) :JT:=bw (u6 (wA c0.F)) (pL (kB c0 k0) e0 1 l0 fun d=>by kernel_rfl)
def aj8:JT:=aj9 vg
def Na:Xo:=aQ (u6 (wA wi)) NN
def NG(F0:vf)(L4:Xo)(dq:Int)(fO:List Int)(fm:List (Sh.T ae))(gn gp gr:List Int)(dS:List (Sh.T ab))(fZ:List (Sh.T ae))(ig:List Bool)(fP:List (List (Sh.T aB))):Option (Out MW):=
 br (Bool.not (iQ (Int.ofNat (List.length ig)) (Int.ofNat (List.length fm))))
 (
  some ((14:Int),([],())))
 (
  br (aR false true (Bool.not (iQ (Int.ofNat (List.length fP)) (Int.ofNat (List.length dS)))))
  (
   some ((14:Int),([],())))
  (
   ar (L4 (dS,((Int.ofNat (List.length dS)),((0:Int),(ig,(fP,([],()))))))) fun x0=>
   (match x0 with|.inl x1=>some (x1.1,([],()))|.inr x1=>some ((0:Int),(x1.1,()))
   )))
def akh(c0:rY)(M4:JT):vc:=⟨lM (NG c0.F M4.L),pB Tryz.func77 56 (kB c0 k0) e0 1 (sS (sC M4 l0)) fun d=>by kernel_rfl⟩
def Bn:vc:=akh vg aj8
def Zq8:Bm:=Bn.F
abbrev Zsj:List Sh:=[bf,cF]
abbrev Nv:List Sh:=[(.int .i64)]
abbrev J6:=TL Zsj->Option (TL Nv)
abbrev Bd:=Kd 72 Zsj Nv
def Zy5(F0:qe)(F1:Bm)(a0:Sh.T bf)(a1:Sh.T cF):Option (TL Nv):=
 ar (F0 (a0,())) fun x0=>
 br (Bool.not (iQ x0.1 (0:Int)))
 (
  some (x0.1,()))
 (
  ar (F1 (a0.1,(a0.2.1,(a0.2.2.1,(a0.2.2.2.1,(a0.2.2.2.2.1,(a0.2.2.2.2.2.1,(a0.2.2.2.2.2.2.1,(a0.2.2.2.2.2.2.2.1,a1))))))))) fun x1=>
  some (x1.1,()))
def akj(c0:oQ)(c1:vc) :Bd:=⟨u2 (Zy5 c0.F c1.F),pD Tryz.func72 20 (kD c0 (kB c1 k0)) e0 1 (sS l0) fun d=>by kernel_rfl⟩
def J7:Bd:=akj qf Bn
def Zhp:J6:=J7.F
abbrev CP:Lay:={ T:=[(3,.ptr 0 0),(40,.fz ab),(41,.int .i64),(42,.int .i64)],h:=[(0,.cells [.fz .bool,.fz (.sl aB)] 40)],nx:=1 }
abbrev CJ:List (Ev.Ex×Lay):=[(.ret,vO),((.exit 2),qx)]
abbrev WA:=TL CP.σs->Option (Out CJ)
abbrev WB:=Ld 0 60 (bp [1] (aW Tryz.f54)) CP CJ
abbrev CZ:Lay:={ T:=[(2,.ptr 0 0),(3,.ptr 1 0),(17,.fz ae),(18,.int .i64),(19,.int .i64)],h:=sK,nx:=2 }
abbrev CO:List (Ev.Ex×Lay):=[(.ret,vO),((.exit 0),{ T:=[(2,.ptr 0 0),(3,.ptr 1 0)],h:=sK,nx:=2 })]
abbrev Xf:=TL CZ.σs->Option (Out CO)
abbrev Xg:=Ld 0 60 (bp [0] (aW Tryz.f54)) CZ CO
def wu(t17:List (Sh.T ae))(t18 t19 aE:Int)(aD:List Int)(aF:List (Sh.T ae))(aH aJ aK:List Int)(aC:List (Sh.T ab))(aG:List (Sh.T ae))(cM:List Bool)(cR:List (List (Sh.T aB))):Option (TL CZ.σs⊕Out CO):=
 br (iL t19 t18)
 (
  ai (aA t19 (List.length t17))<|
  br (Bool.not (iQ (gt ae t17 t19).2.2.1 (2:Int)))
  (
   ai (aA t19 (List.length cM))<|
   br (aR true (Bool.not (@decide _ (Bool.decEq (iQ (gt ae t17 t19).2.2.1 (1:Int)) (gt .bool cM t19)))) false)
   (
    some (.inr (.inl ((14:Int),()))))
   (
    some (.inl (t17,(t18,((IntKind.wrap .i64 (t19+(1:Int))),(aE,(aD,(aF,(aH,(aJ,(aK,(aC,(aG,(cM,(cR,()))))))))))))))))
  (
   some (.inl (t17,(t18,((IntKind.wrap .i64 (t19+(1:Int))),(aE,(aD,(aF,(aH,(aJ,(aK,(aC,(aG,(cM,(cR,()))))))))))))))))
 (
  some (.inr (.inr (aE,(aD,(aF,(aH,(aJ,(aK,(aC,(aG,(cM,(cR,())))))))))))))
def ajU  :Xg:=bw (nC wu) (pL k0 e0 1 l0 fun d=>by kernel_rfl)
def Z8:Xf:=aQ (nC wu) NN
def wq(t40:List (Sh.T ab))(t41 t42:Int)(aE:List Bool)(aD:List (List (Sh.T aB))):Option (TL CP.σs⊕Out CJ):=
 br (iL t42 t41)
 (
  ai (aA t42 (List.length t40))<|
  br (Bool.not (gt ab t40 t42).2.2.1)
  (
   ai (aA t42 (List.length aD))<|
   br (aR true (iL (0:Int) (Int.ofNat (List.length (gt (.sl aB) aD t42)))) false)
   (
    some (.inr (.inl ((14:Int),()))))
   (
    some (.inl (t40,(t41,((IntKind.wrap .i64 (t42+(1:Int))),(aE,(aD,()))))))))
  (
   some (.inl (t40,(t41,((IntKind.wrap .i64 (t42+(1:Int))),(aE,(aD,()))))))))
 (
  some (.inr (.inr ())))
def ajq  :WB:=bw (u5 wq) (pL k0 e0 1 l0 fun d=>by kernel_rfl)
def Z5:WA:=aQ (u5 wq) NN
abbrev Zr9:List Sh:=[bf,cF]
abbrev Nk:List Sh:=[(.int .i64)]
abbrev Kh:=TL Zr9->Option (TL Nk)
abbrev Bc:=Kd 54 Zr9 Nk
def Zwg(F0:J6)(L5:Xf)(L11:WA)(a0:Sh.T bf)(a1:Sh.T cF):Option (TL Nk):=
 ar (F0 (a0,(a1,()))) fun x0=>
 br (Bool.not (iQ x0.1 (0:Int)))
 (
  some (x0.1,()))
 (
  ar (L5 (a0.2.2.1,((Int.ofNat (List.length a0.2.2.1)),((0:Int),(a0.1,(a0.2.1,(a0.2.2.1,(a0.2.2.2.1,(a0.2.2.2.2.1,(a0.2.2.2.2.2.1,(a0.2.2.2.2.2.2.1,(a0.2.2.2.2.2.2.2.1,a1)))))))))))) fun x1=>
  (match x1 with
  |.inl x2=>some (x2.1,())|.inr x2=>
   ar (L11 (x2.2.2.2.2.2.2.1,((Int.ofNat (List.length x2.2.2.2.2.2.2.1)),((0:Int),x2.2.2.2.2.2.2.2.2)))) fun x3=>
   (match x3 with|.inl x4=>some (x4.1,())|.inr x4=>some ((0:Int),())
   )
  ))
def akb(c0:Bd)(M5:Xg)(M11:WB):Bc:=⟨u2 (Zwg c0.F M5.L M11.L),pD Tryz.func54 60 (kD c0 k0) e0 1 (sS (sC M5 (sC M11 l0))) fun d=>by kernel_rfl⟩
def Ki:Bc:=akb J7 ajU ajq
def Nl:Kh:=Ki.F
abbrev C7:Lay:={ T:=[(1,.ptr 0 0),(2,.ptr 1 0),(10,.fz ae),(11,.int .i64),(12,.int .i64)],h:=[(0,.cells fL 27),(1,.cells [.hd 2 .bool,.bz] 40),(2,.arr .bool 4)],nx:=3 }
abbrev CY:List (Ev.Ex×Lay):=[((.exit 0),{ T:=[(1,.ptr 0 0),(2,.ptr 1 0)],h:=[(0,.cells fL 27),(1,.cells [.hd 2 .bool,.bz] 40),(2,.arr .bool 4)],nx:=3 })]
abbrev Xp:=TL C7.σs->Option (Out CY)
abbrev Xq:=Ld 0 31 (bp [0] (aW Tryz.f117)) C7 CY
def Dn(t10:List (Sh.T ae))(t11 t12 aE:Int)(aD:List Int)(aF:List (Sh.T ae))(aH aJ aK:List Int)(aC:List (Sh.T ab))(aG:List (Sh.T ae))(b2:List Bool):Option (TL C7.σs⊕Out CY):=
 br (iL t12 t11)
 (
  ai (aA t12 (List.length t10))<|
  ai (room 1 (List.length (ap b2 ((iQ (gt ae t10 t12).2.2.1 (1:Int))::[]))))<|
  some (.inl (t10,(t11,((IntKind.wrap .i64 (t12+(1:Int))),(aE,(aD,(aF,(aH,(aJ,(aK,(aC,(aG,((ap b2 ((iQ (gt ae t10 t12).2.2.1 (1:Int))::[])),()))))))))))))))
 (
  some (.inr (aE,(aD,(aF,(aH,(aJ,(aK,(aC,(aG,(b2,())))))))))))
def aka  :Xq:=bw (jW Dn) (pL k0 e0 1 l0 fun d=>by kernel_rfl)
def Z9:Xp:=aQ (jW Dn) NN
abbrev Zsi:List Sh:=[bf]
abbrev Nu:List Sh:=[cF]
abbrev XR:=TL Zsi->Option (TL Nu)
abbrev J5:=Kd 117 Zsi Nu
def Zy4(F0:qe)(L4:Xp)(a0:Sh.T bf):Option (TL Nu):=
 ar (F0 (a0,())) fun x0=>
 br (Bool.not (iQ x0.1 (0:Int)))
 (
  some (([],([],())),()))
 (
  ar (L4 (a0.2.2.1,((Int.ofNat (List.length a0.2.2.1)),((0:Int),(a0.1,(a0.2.1,(a0.2.2.1,(a0.2.2.2.1,(a0.2.2.2.2.1,(a0.2.2.2.2.2.1,(a0.2.2.2.2.2.2.1,(a0.2.2.2.2.2.2.2.1,([],()))))))))))))) fun x1=>
  ai (both (iE (0:Int) (Int.ofNat (List.length x1.2.2.2.2.2.2.1))) (both (iE (Int.ofNat (List.length x1.2.2.2.2.2.2.1)) (Int.ofNat (List.length x1.2.2.2.2.2.2.1))) (iE ((Int.ofNat 24)*(Int.ofNat (List.length x1.2.2.2.2.2.2.1))) (281474976710656:Int))))<|
  some ((x1.2.2.2.2.2.2.2.2.1,((List.replicate (Int.toNat (Int.ofNat (List.length x1.2.2.2.2.2.2.1))) (Sh.zero (.sl aB))),())),()))
def aki(c0:oQ)(M4:Xq):J5:=⟨u1 (Zy4 c0.F M4.L),pD Tryz.func117 31 (kD c0 k0) e0 1 (sS (sC M4 l0)) fun d=>by kernel_rfl⟩
def XS:J5:=aki qf aka
def Zqa:XR:=XS.F
abbrev LU:Lay:={ T:=[(0,.int .u64),(1,.int .i64),(5,.int .i64)],h:=[],nx:=0 }
abbrev LQ:List (Ev.Ex×Lay):=[((.exit 0),{ T:=[(0,.int .u64)],h:=[],nx:=0 })]
abbrev UW:=TL LU.σs->Option (Out LQ)
abbrev UX:=Ld 0 19 (bp [0] (aW Tryz.f127)) LU LQ
def C2(t0 t1 t5:Int):Option (TL LU.σs⊕Out LQ):=
 br (iL t5 t1)
 (
  br (aR true (iL t5 (64:Int)) false)
  (
   some (.inl ((IntKind.wrap .u64 (Int.tdiv t0 (2:Int))),(t1,((IntKind.wrap .i64 (t5+(1:Int))),())))))
  (
   some (.inr (t0,()))))
 (
  some (.inr (t0,())))
def aid  :UX:=bw (u3 C2) (pL k0 e0 1 l0 fun d=>by kernel_rfl)
def ZJ:UW:=aQ (u3 C2) NN
abbrev ZW:List Sh:=[(.int .u64),(.int .i64)]
abbrev wc:List Sh:=[.bool]
abbrev qa:=TL ZW->Option (TL wc)
abbrev oO:=Kd 127 ZW wc
def Zm0(L2:UW)(a0 a1:Int):Option (TL wc):=
 ar (L2 (a0,(a1,((0:Int),())))) fun x0=>
 some ((iQ x0.1 (0:Int)),())
def aiq(M2:UX):oO:=⟨u2 (Zm0 M2.L),pD Tryz.func127 19 k0 e0 1 (sS (sC M2 l0)) fun d=>by kernel_rfl⟩
def qb:oO:=aiq  aid
def qA:qa:=qb.F
abbrev CA:Lay:={ T:=[(0,.int .i64),(1,.int .i64),(2,.fz aB),(7,.int .i64)],h:=[],nx:=0 }
abbrev Cp:List (Ev.Ex×Lay):=[(.ret,B2),((.exit 0),qx)]
abbrev UI:=TL CA.σs->Option (Out Cp)
abbrev Hw:=Ld 0 77 (bp [0] (aW Tryz.f65)) CA Cp
def vZ(F0:qa)(t0 t1:Int)(t2:List (Sh.T aB))(t7:Int):Option (TL CA.σs⊕Out Cp):=
 br (iL t7 (Int.ofNat (List.length t2)))
 (
  br (iL (0:Int) t7)
  (
   ai (aA t7 (List.length t2))<|
   ai (aA (IntKind.wrap .i64 (t7-(1:Int))) (List.length t2))<|
   br (aR true (iE (gt aB t2 t7).1 (gt aB t2 (IntKind.wrap .i64 (t7-(1:Int)))).1) false)
   (
    some (.inr (.inl (false,()))))
   (
    ai (aA t7 (List.length t2))<|
    ar (F0 ((gt aB t2 t7).1,(t0,()))) fun x0=>
    br (aR false true (Bool.not x0.1))
    (
     some (.inr (.inl (false,()))))
    (
     ai (aA t7 (List.length t2))<|
     ar (F0 ((gt aB t2 t7).2.1,(t1,()))) fun x1=>
     br (aR false true (Bool.not x1.1))
     (
      some (.inr (.inl (false,()))))
     (
      ai (aA t7 (List.length t2))<|
      br (aR false true (iQ (gt aB t2 t7).2.1 (0:Int)))
      (
       some (.inr (.inl (false,()))))
      (
       some (.inl (t0,(t1,(t2,((IntKind.wrap .i64 (t7+(1:Int))),()))))))))))
  (
   ai (aA t7 (List.length t2))<|
   ar (F0 ((gt aB t2 t7).1,(t0,()))) fun x0=>
   br (aR false true (Bool.not x0.1))
   (
    some (.inr (.inl (false,()))))
   (
    ai (aA t7 (List.length t2))<|
    ar (F0 ((gt aB t2 t7).2.1,(t1,()))) fun x1=>
    br (aR false true (Bool.not x1.1))
    (
     some (.inr (.inl (false,()))))
    (
     ai (aA t7 (List.length t2))<|
     br (aR false true (iQ (gt aB t2 t7).2.1 (0:Int)))
     (
      some (.inr (.inl (false,()))))
     (
      some (.inl (t0,(t1,(t2,((IntKind.wrap .i64 (t7+(1:Int))),()))))))))))
 (
  some (.inr (.inr ())))
def ah1(c0:oO) :Hw:=bw (u4 (vZ c0.F)) (pL (kD c0 k0) e0 1 l0 fun d=>by kernel_rfl)
def ah0:Hw:=ah1 qb
def Ml:UI:=aQ (u4 (vZ qA)) NN
abbrev ZO:List Sh:=[(.int .i64),(.int .i64),(.sl aB)]
abbrev Mx:List Sh:=[.bool]
abbrev HQ:=TL ZO->Option (TL Mx)
abbrev zg:=Kd 65 ZO Mx
def MJ(F0:qa)(L4:UI)(a0 a1:Int)(a2:List (Sh.T aB)):Option (TL Mx):=
 br (iL a0 (1:Int))
 (
  some (false,()))
 (
  br (aR false true (iL (62:Int) a0))
  (
   some (false,()))
  (
   br (aR false true (iL a1 (1:Int)))
   (
    some (false,()))
   (
    br (aR false true (iL (64:Int) a1))
    (
     some (false,()))
    (
     br (aR false true (iL (4096:Int) (Int.ofNat (List.length a2))))
     (
      some (false,()))
     (
      ar (L4 (a0,(a1,(a2,((0:Int),()))))) fun x0=>
      (match x0 with|.inl x1=>some (x1.1,())|.inr x1=>some (true,())
      ))))))
def aic(c0:oO)(M4:Hw):zg:=⟨u3 (MJ c0.F M4.L),pD Tryz.func65 77 (kD c0 k0) e0 1 (sS (sC M4 l0)) fun d=>by kernel_rfl⟩
def HT:zg:=aic qb ah0
def Zz:HQ:=HT.F
abbrev CG:Lay:={ T:=[(2,.ptr 0 0),(3,.ptr 1 0),(6,.int .i64)],h:=sK,nx:=2 }
abbrev Cz:List (Ev.Ex×Lay):=[(.ret,vO),((.exit 0),qx)]
abbrev UU:=TL CG.σs->Option (Out Cz)
abbrev HK:=Ld 0 54 (bp [0] (aW Tryz.f26)) CG Cz
def wb(F0:HQ)(t6 aE:Int)(aD:List Int)(aF:List (Sh.T ae))(aH aJ aK:List Int)(aC:List (Sh.T ab))(aG:List (Sh.T ae))(cM:List Bool)(cR:List (List (Sh.T aB))):Option (TL CG.σs⊕Out Cz):=
 br (iL t6 (Int.ofNat (List.length aC)))
 (
  ai (aA t6 (List.length aC))<|
  ai (aA t6 (List.length aC))<|
  ai (aA t6 (List.length cR))<|
  ar (F0 ((gt ab aC t6).1,((gt ab aC t6).2.1,((gt (.sl aB) cR t6),())))) fun x0=>
  br (Bool.not x0.1)
  (
   some (.inr (.inl ((14:Int),()))))
  (
   some (.inl ((IntKind.wrap .i64 (t6+(1:Int))),(aE,(aD,(aF,(aH,(aJ,(aK,(aC,(aG,(cM,(cR,()))))))))))))))
 (
  some (.inr (.inr ())))
def aib(c0:zg) :HK:=bw (jE (wb c0.F)) (pL (kD c0 k0) e0 1 l0 fun d=>by kernel_rfl)
def aia:HK:=aib HT
def ZI:UU:=aQ (jE (wb Zz)) NN
abbrev ZV:List Sh:=[bf,cF]
abbrev MI:List Sh:=[(.int .i64)]
abbrev IG:=TL ZV->Option (TL MI)
abbrev zK:=Kd 26 ZV MI
def Zlx(F0:HQ)(F1:uS)(L7:UU)(a0:Sh.T bf)(a1:Sh.T cF):Option (TL MI):=
 ar (F1 (a0,())) fun x0=>
 br (Bool.not (iQ x0.1 (0:Int)))
 (
  some (x0.1,()))
 (
  br (Bool.not (iQ (Int.ofNat (List.length a1.1)) (Int.ofNat (List.length a0.2.2.1))))
  (
   some ((14:Int),()))
  (
   br (aR false true (Bool.not (iQ (Int.ofNat (List.length a1.2.1)) (Int.ofNat (List.length a0.2.2.2.2.2.2.1)))))
   (
    some ((14:Int),()))
   (
    ar (L7 ((0:Int),(a0.1,(a0.2.1,(a0.2.2.1,(a0.2.2.2.1,(a0.2.2.2.2.1,(a0.2.2.2.2.2.1,(a0.2.2.2.2.2.2.1,(a0.2.2.2.2.2.2.2.1,a1)))))))))) fun x1=>
    (match x1 with|.inl x2=>some (x2.1,())|.inr x2=>some ((0:Int),())
    ))))
def aip(c0:zg)(c1:rQ)(M7:HK):zK:=⟨u2 (Zlx c0.F c1.F M7.L),pD Tryz.func26 54 (kD c0 (kD c1 k0)) e0 1 (sS (sC M7 l0)) fun d=>by kernel_rfl⟩
def IH:zK:=aip HT uT aia
def Zbn:IG:=IH.F
abbrev Co:Lay:={ T:=[(2,.ptr 0 0),(3,.ptr 1 0),(7,.int .i64)],h:=sK,nx:=2 }
abbrev Cj:List (Ev.Ex×Lay):=[(.ret,vO),((.exit 2),qx)]
abbrev UC:=TL Co.σs->Option (Out Cj)
abbrev UD:=Ld 0 75 (bp [1] (aW Tryz.f22)) Co Cj
abbrev Cy:Lay:={ T:=[(2,.ptr 0 0),(3,.ptr 1 0),(6,.int .i64)],h:=sK,nx:=2 }
abbrev Cn:List (Ev.Ex×Lay):=[(.ret,vO),((.exit 0),{ T:=[(2,.ptr 0 0),(3,.ptr 1 0)],h:=sK,nx:=2 })]
abbrev UG:=TL Cy.σs->Option (Out Cn)
abbrev UH:=Ld 0 75 (bp [0] (aW Tryz.f22)) Cy Cn
def vY(t6 aE:Int)(aD:List Int)(aF:List (Sh.T ae))(aH aJ aK:List Int)(aC:List (Sh.T ab))(aG:List (Sh.T ae))(cM:List Bool)(cR:List (List (Sh.T aB))):Option (TL Cy.σs⊕Out Cn):=
 br (iL t6 (Int.ofNat (List.length aF)))
 (
  ai (aA t6 (List.length aF))<|
  br (iQ (gt ae aF t6).2.2.1 (0:Int))
  (
   ai (aA t6 (List.length cM))<|
   br (aR true (gt .bool cM t6) false)
   (
    some (.inr (.inl ((14:Int),()))))
   (
    ai (aA t6 (List.length aF))<|
    br (iQ (gt ae aF t6).2.2.1 (1:Int))
    (
     ai (aA t6 (List.length cM))<|
     br (aR false true (aR true (Bool.not (gt .bool cM t6)) false))
     (
      some (.inr (.inl ((14:Int),()))))
     (
      some (.inl ((IntKind.wrap .i64 (t6+(1:Int))),(aE,(aD,(aF,(aH,(aJ,(aK,(aC,(aG,(cM,(cR,()))))))))))))))
    (
     some (.inl ((IntKind.wrap .i64 (t6+(1:Int))),(aE,(aD,(aF,(aH,(aJ,(aK,(aC,(aG,(cM,(cR,())))))))))))))))
  (
   ai (aA t6 (List.length aF))<|
   br (iQ (gt ae aF t6).2.2.1 (1:Int))
   (
    ai (aA t6 (List.length cM))<|
    br (aR false true (aR true (Bool.not (gt .bool cM t6)) false))
    (
     some (.inr (.inl ((14:Int),()))))
    (
     some (.inl ((IntKind.wrap .i64 (t6+(1:Int))),(aE,(aD,(aF,(aH,(aJ,(aK,(aC,(aG,(cM,(cR,()))))))))))))))
   (
    some (.inl ((IntKind.wrap .i64 (t6+(1:Int))),(aE,(aD,(aF,(aH,(aJ,(aK,(aC,(aG,(cM,(cR,())))))))))))))))
 (
  some (.inr (.inr (aE,(aD,(aF,(aH,(aJ,(aK,(aC,(aG,(cM,(cR,())))))))))))))
def ahZ  :UH:=bw (jE vY) (pL k0 e0 1 l0 fun d=>by kernel_rfl)
def ZC:UG:=aQ (jE vY) NN
def vV(t7 aE:Int)(aD:List Int)(aF:List (Sh.T ae))(aH aJ aK:List Int)(aC:List (Sh.T ab))(aG:List (Sh.T ae))(cM:List Bool)(cR:List (List (Sh.T aB))):Option (TL Co.σs⊕Out Cj):=
 br (iL t7 (Int.ofNat (List.length aC)))
 (
  ai (aA t7 (List.length aC))<|
  br (Bool.not (gt ab aC t7).2.2.1)
  (
   ai (aA t7 (List.length cR))<|
   br (aR true (iL (0:Int) (Int.ofNat (List.length (gt (.sl aB) cR t7)))) false)
   (
    some (.inr (.inl ((14:Int),()))))
   (
    some (.inl ((IntKind.wrap .i64 (t7+(1:Int))),(aE,(aD,(aF,(aH,(aJ,(aK,(aC,(aG,(cM,(cR,()))))))))))))))
  (
   some (.inl ((IntKind.wrap .i64 (t7+(1:Int))),(aE,(aD,(aF,(aH,(aJ,(aK,(aC,(aG,(cM,(cR,()))))))))))))))
 (
  some (.inr (.inr ())))
def ahX  :UD:=bw (jE vV) (pL k0 e0 1 l0 fun d=>by kernel_rfl)
def ZB:UC:=aQ (jE vV) NN
abbrev ZN:List Sh:=[bf,cF]
abbrev Mw:List Sh:=[(.int .i64)]
abbrev Vz:=TL ZN->Option (TL Mw)
abbrev Ih:=Kd 22 ZN Mw
def Zl5(F0:IG)(L5:UG)(L10:UC)(a0:Sh.T bf)(a1:Sh.T cF):Option (TL Mw):=
 ar (F0 (a0,(a1,()))) fun x0=>
 br (Bool.not (iQ x0.1 (0:Int)))
 (
  some (x0.1,()))
 (
  ar (L5 ((0:Int),(a0.1,(a0.2.1,(a0.2.2.1,(a0.2.2.2.1,(a0.2.2.2.2.1,(a0.2.2.2.2.2.1,(a0.2.2.2.2.2.2.1,(a0.2.2.2.2.2.2.2.1,a1)))))))))) fun x1=>
  (match x1 with
  |.inl x2=>some (x2.1,())|.inr x2=>
   ar (L10 ((0:Int),x2)) fun x3=>
   (match x3 with|.inl x4=>some (x4.1,())|.inr x4=>some ((0:Int),())
   )
  ))
def ah9(c0:zK)(M5:UH)(M10:UD):Ih:=⟨u2 (Zl5 c0.F M5.L M10.L),pD Tryz.func22 75 (kD c0 k0) e0 1 (sS (sC M5 (sC M10 l0))) fun d=>by kernel_rfl⟩
def VA:Ih:=ah9 IH ahZ ahX
def ZK:Vz:=VA.F
abbrev CF:Lay:={ T:=[(1,.ptr 0 0),(3,.int .i64)],h:=[(0,.cells fL 27)],nx:=1 }
abbrev Cv:List (Ev.Ex×Lay):=[(.ret,{ T:=[(2,.bool)],h:=[],nx:=0 }),((.exit 0),qx)]
abbrev UN:=TL CF.σs->Option (Out Cv)
abbrev Hx:=Ld 0 132 (bp [0] (aW Tryz.f50)) CF Cv
abbrev Cf:Lay:={ T:=[(1,.ptr 0 0),(3,.int .i64),(4,.ptr 1 0),(6,.int .i64)],h:=Lw,nx:=2 }
abbrev Cc:List (Ev.Ex×Lay):=[(.ret,{ T:=[(2,.bool)],h:=[],nx:=0 }),((.exit 4),{ T:=[(1,.ptr 0 0),(3,.int .i64)],h:=[(0,.cells fL 27)],nx:=1 })]
abbrev Hr:=TL Cf.σs->Option (Out Cc)
abbrev Ht:=Ld 0 132 (bp [0,1] (aW Tryz.f50)) Cf Cc
abbrev Cg:Lay:={ T:=[(1,.ptr 0 0),(3,.int .i64),(4,.ptr 1 0),(5,.int .i64)],h:=Lw,nx:=2 }
abbrev Cd:List (Ev.Ex×Lay):=[(.ret,{ T:=[(2,.bool)],h:=[],nx:=0 }),((.exit 2),{ T:=[(1,.ptr 0 0),(3,.int .i64),(4,.ptr 1 0)],h:=Lw,nx:=2 })]
abbrev Hs:=TL Cg.σs->Option (Out Cd)
abbrev Hu:=Ld 0 132 (bp [0,0] (aW Tryz.f50)) Cg Cd
def vX(t3 t5 aE:Int)(aD:List Int)(aF:List (Sh.T ae))(aH aJ aK:List Int)(aC:List (Sh.T ab))(aG:List (Sh.T ae))(cM cR:Int)(gH:Bool)(gl:List (Sh.T bL))(gZ:List (Sh.T bD)):Option (TL Cg.σs⊕Out Cd):=
 br (iL t5 (Int.ofNat (List.length gl)))
 (
  ai (aA t5 (List.length gl))<|
  br (iL (100:Int) (Int.ofNat (List.length (gt bL gl t5).2.1)))
  (
   some (.inr (.inl (false,()))))
  (
   ai (aA t5 (List.length gl))<|
   br (aR false true (iL (1099511627776:Int) (gt bL gl t5).1))
   (
    some (.inr (.inl (false,()))))
   (
    ai (aA t5 (List.length gl))<|
    br (aR false true (iL (gt bL gl t5).1 (Int.negSucc 1099511627775)))
    (
     some (.inr (.inl (false,()))))
    (
     some (.inl (t3,((IntKind.wrap .i64 (t5+(1:Int))),(aE,(aD,(aF,(aH,(aJ,(aK,(aC,(aG,(cM,(cR,(gH,(gl,(gZ,()))))))))))))))))))))
 (
  some (.inr (.inr (t3,(aE,(aD,(aF,(aH,(aJ,(aK,(aC,(aG,(cM,(cR,(gH,(gl,(gZ,())))))))))))))))))
def UF  :Hu:=bw (dT vX) (pL k0 e0 1 l0 fun d=>by kernel_rfl)
def L0:Hs:=aQ (dT vX) NN
def vW(t3 t6 aE:Int)(aD:List Int)(aF:List (Sh.T ae))(aH aJ aK:List Int)(aC:List (Sh.T ab))(aG:List (Sh.T ae))(cM cR:Int)(gH:Bool)(gl:List (Sh.T bL))(gZ:List (Sh.T bD)):Option (TL Cf.σs⊕Out Cc):=
 br (iL t6 (Int.ofNat (List.length gZ)))
 (
  ai (aA t6 (List.length gZ))<|
  br (iL (100:Int) (Int.ofNat (List.length (gt bD gZ t6).2.1)))
  (
   some (.inr (.inl (false,()))))
  (
   ai (aA t6 (List.length gZ))<|
   br (aR false true (iL (100:Int) (Int.ofNat (List.length (gt bD gZ t6).2.2.1))))
   (
    some (.inr (.inl (false,()))))
   (
    some (.inl (t3,((IntKind.wrap .i64 (t6+(1:Int))),(aE,(aD,(aF,(aH,(aJ,(aK,(aC,(aG,(cM,(cR,(gH,(gl,(gZ,())))))))))))))))))))
 (
  some (.inr (.inr (t3,(aE,(aD,(aF,(aH,(aJ,(aK,(aC,(aG,()))))))))))))
def UE  :Ht:=bw (dT vW) (pL k0 e0 1 l0 fun d=>by kernel_rfl)
def LY:Hr:=aQ (dT vW) NN
def wa(L10:Hs)(L15:Hr)(t3 aE:Int)(aD:List Int)(aF:List (Sh.T ae))(aH aJ aK:List Int)(aC:List (Sh.T ab))(aG:List (Sh.T ae)):Option (TL CF.σs⊕Out Cv):=
 br (iL t3 (Int.ofNat (List.length aC)))
 (
  ai (aA t3 (List.length aC))<|
  br (iL (6:Int) (Int.ofNat (List.length (gt ab aC t3).2.2.2.1)))
  (
   some (.inr (.inl (false,()))))
  (
   br (aR false true (iL (6:Int) (Int.ofNat (List.length (gt ab aC t3).2.2.2.2.1))))
   (
    some (.inr (.inl (false,()))))
   (
    br (aR false true (iL (100:Int) (gt ab aC t3).2.1))
    (
     some (.inr (.inl (false,()))))
    (
     ar (L10 (t3,((0:Int),(aE,(aD,(aF,(aH,(aJ,(aK,(aC,(aG,((gt ab aC t3).1,((gt ab aC t3).2.1,((gt ab aC t3).2.2.1,((gt ab aC t3).2.2.2.1,((gt ab aC t3).2.2.2.2.1,())))))))))))))))) fun x0=>
     (match x0 with
     |.inl x1=>some (.inr (.inl (x1.1,())))|.inr x1=>
      ar (L15 (x1.1,((0:Int),x1.2))) fun x2=>
      (match x2 with|.inl x3=>some (.inr (.inl (x3.1,())))|.inr x3=>some (.inl ((IntKind.wrap .i64 (@HAdd.hAdd (Int) (Int) (Int) _ x3.1 (1:Int))),x3.2))
      )
     )))))
 (
  some (.inr (.inr ())))
def ah5(M10:Hu)(M15:Ht):Hx:=bw (u9 (wa M10.L M15.L)) (pL k0 e0 1 (sC M10 (sC M15 l0)) fun d=>by kernel_rfl)
def ah4:Hx:=ah5  UF UE
def ZH:UN:=aQ (u9 (wa L0 LY)) NN
abbrev ZU:List Sh:=[bf]
abbrev ME:List Sh:=[.bool]
abbrev U0:=TL ZU->Option (TL ME)
abbrev H0:=Kd 50 ZU ME
def Zlb(L4:UN)(L10:Hs)(L15:Hr)(a0:Sh.T bf):Option (TL ME):=
 br (iL (2100:Int) (Int.ofNat (List.length a0.2.1)))
 (
  some (false,()))
 (
  br (aR false true (iL (2100:Int) (Int.ofNat (List.length a0.2.2.1))))
  (
   some (false,()))
  (
   br (aR false true (iL (2100:Int) (Int.ofNat (List.length a0.2.2.2.2.2.2.2.1))))
   (
    some (false,()))
   (
    br (aR false true (iL (1100:Int) (Int.ofNat (List.length a0.2.2.2.1))))
    (
     some (false,()))
    (
     br (aR false true (iL (1100:Int) (Int.ofNat (List.length a0.2.2.2.2.1))))
     (
      some (false,()))
     (
      br (aR false true (iL (1100:Int) (Int.ofNat (List.length a0.2.2.2.2.2.1))))
      (
       some (false,()))
      (
       br (aR false true (iL (6:Int) (Int.ofNat (List.length a0.2.2.2.2.2.2.1))))
       (
        some (false,()))
       (
        ar (L4 ((0:Int),a0)) fun x0=>
        (match x0 with|.inl x1=>some (x1.1,())|.inr x1=>some (true,())
        ))))))))
def aih(M4:Hx)(M10:Hu)(M15:Ht):H0:=⟨u1 (Zlb M4.L M10.L M15.L),pD Tryz.func50 132 k0 e0 1 (sS (sC M4 l0)) fun d=>by kernel_rfl⟩
def U1:H0:=aih  ah4 UF UE
def Mm:U0:=U1.F
abbrev ZT:List Sh:=[bf]
abbrev MD:List Sh:=[.bool]
abbrev UY:=TL ZT->Option (TL MD)
abbrev HU:=Kd 13 ZT MD
def Zla(F0:U0)(a0:Sh.T bf):Option (TL MD):=
 ar (F0 (a0,())) fun x0=>
 br x0.1
 (
  br (aR true (iE (Int.ofNat (List.length a0.2.2.2.2.2.2.2.1)) (100:Int)) false)
  (
   br (aR true (iE (Int.ofNat (List.length a0.2.1)) (100:Int)) false)
   (
    br (aR true (iE (Int.ofNat (List.length a0.2.2.1)) (100:Int)) false)
    (
     some ((aR true (iE (IntKind.wrap .i64 ((IntKind.wrap .i64 ((Int.ofNat (List.length a0.2.2.2.1))+(Int.ofNat (List.length a0.2.2.2.2.1))))+(Int.ofNat (List.length a0.2.2.2.2.2.1)))) (100:Int)) false),()))
    (
     some (false,())))
   (
    some (false,())))
  (
   some (false,())))
 (
  some (false,()))
def aif(c0:H0) :HU:=⟨u1 (Zla c0.F),pD Tryz.func13 37 (kD c0 k0) e0 1 (sS l0) fun d=>by kernel_rfl⟩
def UZ:HU:=aif U1
def Zcw:UY:=UZ.F
abbrev CD:Lay:={ T:=[(2,.fz (.sl .bool)),(8,.int .i64)],h:=[],nx:=0 }
abbrev Ct:List (Ev.Ex×Lay):=[(.ret,B2),((.exit 2),qx)]
abbrev UJ:=TL CD.σs->Option (Out Ct)
abbrev UL:=Ld 0 55 (bp [1] (aW Tryz.f21)) CD Ct
abbrev CE:Lay:={ T:=[(2,.fz (.sl .bool)),(4,.ptr 0 0),(7,.int .i64)],h:=[(0,.cells [.fz .bool,.fz (.sl aB)] 40)],nx:=1 }
abbrev Cu:List (Ev.Ex×Lay):=[(.ret,B2),((.exit 0),{ T:=[(2,.fz (.sl .bool))],h:=[],nx:=0 })]
abbrev UK:=TL CE.σs->Option (Out Cu)
abbrev UM:=Ld 0 55 (bp [0] (aW Tryz.f21)) CE Cu
def v8(t2:List (List Bool))(t7:Int)(aE:List Bool)(aD:List (List (Sh.T aB))):Option (TL CE.σs⊕Out Cu):=
 br (iL t7 (Int.ofNat (List.length aD)))
 (
  ai (aA t7 (List.length aD))<|
  br (iL (100:Int) (Int.ofNat (List.length (gt (.sl aB) aD t7))))
  (
   some (.inr (.inl (false,()))))
  (
   some (.inl (t2,((IntKind.wrap .i64 (t7+(1:Int))),(aE,(aD,())))))))
 (
  some (.inr (.inr (t2,()))))
def ah3  :UM:=bw (u4 v8) (pL k0 e0 1 l0 fun d=>by kernel_rfl)
def ZG:UK:=aQ (u4 v8) NN
def v7(t2:List (List Bool))(t8:Int):Option (TL CD.σs⊕Out Ct):=
 br (iL t8 (Int.ofNat (List.length t2)))
 (
  ai (aA t8 (List.length t2))<|
  br (iL (200:Int) (Int.ofNat (List.length (gt (.sl .bool) t2 t8))))
  (
   some (.inr (.inl (false,()))))
  (
   some (.inl (t2,((IntKind.wrap .i64 (t8+(1:Int))),())))))
 (
  some (.inr (.inr ())))
def ah2  :UL:=bw (u2 v7) (pL k0 e0 1 l0 fun d=>by kernel_rfl)
def ZF:UJ:=aQ (u2 v7) NN
abbrev ZS:List Sh:=[bf,cF,(.sl (.sl .bool))]
abbrev MC:List Sh:=[.bool]
abbrev VB:=TL ZS->Option (TL MC)
abbrev Ii:=Kd 21 ZS MC
def Zl9(F0:UY)(L4:UK)(L9:UJ)(a0:Sh.T bf)(a1:Sh.T cF)(a2:List (List Bool)):Option (TL MC):=
 ar (F0 (a0,())) fun x0=>
 br (Bool.not x0.1)
 (
  some (false,()))
 (
  br (aR false true (iL (200:Int) (Int.ofNat (List.length a1.1))))
  (
   some (false,()))
  (
   br (aR false true (iL (10:Int) (Int.ofNat (List.length a1.2.1))))
   (
    some (false,()))
   (
    br (aR false true (iL (40:Int) (Int.ofNat (List.length a2))))
    (
     some (false,()))
    (
     ar (L4 (a2,((0:Int),a1))) fun x1=>
     (match x1 with
     |.inl x2=>some (x2.1,())|.inr x2=>
      ar (L9 (x2.1,((0:Int),()))) fun x3=>
      (match x3 with|.inl x4=>some (x4.1,())|.inr x4=>some (true,())
      )
     )))))
def aie(c0:HU)(M4:UM)(M9:UL):Ii:=⟨u3 (Zl9 c0.F M4.L M9.L),pD Tryz.func21 55 (kD c0 k0) e0 1 (sS (sC M4 (sC M9 l0))) fun d=>by kernel_rfl⟩
def VC:Ii:=aie UZ ah3 ah2
def Zfz:VB:=VC.F
