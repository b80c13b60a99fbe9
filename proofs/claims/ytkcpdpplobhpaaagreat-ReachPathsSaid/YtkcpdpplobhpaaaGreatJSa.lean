import Derived.Test.YtkcpdpplobhpaaaGreatJNd
set_option linter.unusedVariables false
set_option linter.unusedSimpArgs false
set_option linter.unnecessarySimpa false
/- memories, states of netlists, the documents beside them (printed by VTool.lean). -/
namespace Go.Proofs.YtkcpdpplobhpaaaGreat.V
open Go Go.RowKit
set_option maxRecDepth 1000000
abbrev Zos:List Sh:=[(.int .i64)]
abbrev Np:List Sh:=[(.int .i64)]
abbrev J2:=TL Zos->Option (TL Np)
abbrev A9:=Kd 126 Zos Np
def wG(a0:Int):Option (TL Np):=some ((cQ (iL (cQ (iL (64:Int) a0) (64:Int) a0) (0:Int)) (0:Int) (cQ (iL (64:Int) a0) (64:Int) a0)),())
def ajv  :A9:=⟨u1 wG,pD Tryz.func126 6 k0 e0 1 (sS l0) fun d=>by kernel_rfl⟩
def J3:A9:=ajv
def Dn:J2:=J3.F
abbrev Zrm:List Sh:=[(.int .u64),(.int .i64)]
abbrev Nw:List Sh:=[.bool]
abbrev Bd:=TL Zrm->Option (TL Nw)
abbrev vf:=Kd 196 Zrm Nw
def NM(F0:J2)(a0 a1:Int):Option (TL Nw):=
 ar (F0 (a1,())) fun x0=>
 ai (iE (0:Int) x0.1)<|
 some ((iQ (Int.fdiv a0 (HPow.hPow (2:Int) (Min.min (Int.toNat x0.1) 64))) (0:Int)),())
def aki(c0:A9) :vf:=⟨u2 (NM c0.F),pD Tryz.func196 10 (kD c0 k0) e0 1 (sS l0) fun d=>by kernel_rfl⟩
def Be:vf:=aki J3
def Di:Bd:=Be.F
abbrev C9:Lay:={ T:=[(0,.int .i64),(1,.int .i64),(2,.fz aC),(28,.fz aC),(29,.int .i64),(30,.int .i64)],h:=[],nx:=0 }
abbrev sT:List (Nat×LO):=[(0,.cells fq 27),(1,.cells [.fz .bool,.fz (.sl aC)] 40)]
abbrev vW:List (Nat×LO):=[(0,.cells [.int .i64,.int .i64,.mp 1] 220),(1,.map .u64 (.int .u64))]
abbrev vX:Lay:={ T:=[(4,.int .i64)],h:=[],nx:=0 }
abbrev LH:List (Nat×LO):=[(0,.cells fq 27),(1,.cells [.int .i64,.int .i64,.bool,.fz bO,.fz bE] 116)]
abbrev sU:Lay:={ T:=[],h:=[],nx:=0 }
abbrev CZ:List (Ev.Ex×Lay):=[(.ret,{ T:=[(6,.bool)],h:=[],nx:=0 }),((.exit 0),sU)]
abbrev Xm:=TL C9.σs->Option (Out CZ)
abbrev JT:=Ld 0 68 (bu [0] (aW Tryz.f144)) C9 CZ
def wE(F0:Bd)(t0 t1:Int)(t2 t28:List (Sh.T aC))(t29 t30:Int):Option (TL C9.σs⊕Out CZ):=
 br (iL t30 t29)
 (
  ai (aw t30 (List.length t28))<|
  br (iQ (gt aC t28 t30).2.1 (0:Int))
  (
   some (.inr (.inl (false,()))))
  (
   ar (F0 ((gt aC t28 t30).1,(t0,()))) fun x0=>
   br (aQ false true (Bool.not x0.1))
   (
    some (.inr (.inl (false,()))))
   (
    ar (F0 ((gt aC t28 t30).2.1,(t1,()))) fun x1=>
    br (aQ false true (Bool.not x1.1))
    (
     some (.inr (.inl (false,()))))
    (
     br (iL (0:Int) t30)
     (
      ai (aw (IntKind.wrap .i64 (t30-(1:Int))) (List.length t2))<|
      br (aQ false true (aQ true (iE (gt aC t28 t30).1 (gt aC t2 (IntKind.wrap .i64 (t30-(1:Int)))).1) false))
      (
       some (.inr (.inl (false,()))))
      (
       some (.inl (t0,(t1,(t2,(t28,(t29,((IntKind.wrap .i64 (t30+(1:Int))),())))))))))
     (
      some (.inl (t0,(t1,(t2,(t28,(t29,((IntKind.wrap .i64 (t30+(1:Int))),()))))))))))))
 (
  some (.inr (.inr ())))
def aj0(c0:vf) :JT:=bB (u6 (wE c0.F)) (pL (kD c0 k0) e0 1 l0 fun d=>by kernel_rfl)
def ajZ:JT:=aj0 Be
def Ni:Xm:=aR (u6 (wE Di)) NN
abbrev Zrd:List Sh:=[(.int .i64),(.int .i64),(.sl aC)]
abbrev Nv:List Sh:=[.bool]
abbrev Xw:=TL Zrd->Option (TL Nv)
abbrev J6:=Kd 144 Zrd Nv
def NF(F0:Bd)(L4:Xm)(a0 a1:Int)(a2:List (Sh.T aC)):Option (TL Nv):=
 br (iL a0 (1:Int))
 (
  some (false,()))
 (
  br (aQ false true (iL (62:Int) a0))
  (
   some (false,()))
  (
   br (aQ false true (iL a1 (1:Int)))
   (
    some (false,()))
   (
    br (aQ false true (iL (64:Int) a1))
    (
     some (false,()))
    (
     br (aQ false true (iL (4096:Int) (Int.ofNat (List.length a2))))
     (
      some (false,()))
     (
      ar (L4 (a0,(a1,(a2,(a2,((Int.ofNat (List.length a2)),((0:Int),()))))))) fun x0=>
      (match x0 with|.inl x1=>some (x1.1,())|.inr x1=>some (true,())
      ))))))
def akg(c0:vf)(M4:JT):J6:=⟨u3 (NF c0.F M4.L),pD Tryz.func144 68 (kD c0 k0) e0 1 (sS (sC M4 l0)) fun d=>by kernel_rfl⟩
def Xx:J6:=akg Be ajZ
def Z9:Xw:=Xx.F
abbrev ZX:Lay:={ T:=[(0,.int .i64),(1,.int .i64),(2,.fz aC)],h:=[],nx:=0 }
abbrev MA:List (Ev.Ex×Lay):=[(.ret,{ T:=[(0,.dk),(1,.int .i64)],h:=[],nx:=0 }),(.ret,{ T:=[(0,.ptr 0 0),(1,.int .i64)],h:=vW,nx:=2 })]
abbrev vp:=TL ZX.σs->Option (Out MA)
abbrev sj:=Kb 74 3 ZX 2 MA
abbrev Dh:Lay:={ T:=[(8,.ptr 0 0),(21,.fz aC),(22,.int .i64),(23,.int .i64)],h:=vW,nx:=2 }
abbrev Da:List (Ev.Ex×Lay):=[((.exit 0),{ T:=[(8,.ptr 0 0)],h:=vW,nx:=2 })]
abbrev Xy:=TL Dh.σs->Option (Out Da)
abbrev Xz:=Ld 0 37 (bu [0] (aW Tryz.f74)) Dh Da
def Dz(t21:List (Sh.T aC))(t22 t23 aE aD:Int)(b1:List (Sh.T aC)):Option (TL Dh.σs⊕Out Da):=
 br (iL t23 t22)
 (
  ai (aw t23 (List.length t21))<|
  some (.inl (t21,(t22,((IntKind.wrap .i64 (t23+(1:Int))),(aE,(aD,((@dg (.int .u64) (gt aC t21 t23).1 (gt aC t21 t23).2.1 b1),()))))))))
 (
  some (.inr (aE,(aD,(b1,())))))
def akh  :Xz:=bB (u6 Dz) (pL k0 e0 1 l0 fun d=>by kernel_rfl)
def Nk:Xy:=aR (u6 Dz) NN
def NP(F0:Xw)(L5:Xy)(t0 t1:Int)(t2:List (Sh.T aC)):Option (Out MA):=
 ar (F0 (t0,(t1,(t2,())))) fun x0=>
 br (Bool.not x0.1)
 (
  some (.inl ((14:Int),())))
 (
  ar (L5 (t2,((Int.ofNat (List.length t2)),((0:Int),(t0,(t1,([],()))))))) fun x1=>
  some (.inr ((0:Int),x1)))
def ako(c0:J6)(M5:Xz):sj:=⟨u3 (NP c0.F M5.L),pB Tryz.func74 37 (kD c0 k0) e0 1 (sS (sC M5 l0)) fun d=>by kernel_rfl⟩
def vq:sj:=ako Xx akh
def wy:vp:=vq.F
abbrev Zjo:Lay:={ T:=[(0,.ptr 0 0),(1,.int .u64),(2,.int .u64)],h:=vW,nx:=2 }
abbrev Dj:List (Ev.Ex×Lay):=[(.ret,{ T:=[(0,.bool)],h:=vW,nx:=2 })]
abbrev I9:=TL Zjo.σs->Option (Out Dj)
abbrev Ah:=Kb 150 3 Zjo 1 Dj
def Nx(F0:Bd)(t1 t2 aE aD:Int)(b1:List (Sh.T aC)):Option (Out Dj):=
 ar (F0 (t1,(aE,()))) fun x0=>
 br (aQ false true (Bool.not x0.1))
 (
  some (false,(aE,(aD,(b1,())))))
 (
  ar (F0 (t2,(aD,()))) fun x1=>
  br (aQ false true (Bool.not x1.1))
  (
   some (false,(aE,(aD,(b1,())))))
  (
   br (iQ t2 (0:Int))
   (
    some (true,(aE,(aD,((@jn (.int .u64) t1 b1),())))))
   (
    some (true,(aE,(aD,((@dg (.int .u64) t1 t2 b1),())))))))
def ai6(c0:vf) :Ah:=⟨u5 (Nx c0.F),pB Tryz.func150 42 (kD c0 k0) e0 1 (sS l0) fun d=>by kernel_rfl⟩
def Ja:Ah:=ai6 Be
def NY:I9:=Ja.F
abbrev Zkg:Lay:={ T:=[(0,.agg fq),(1,.agg [.fz .bool,.fz (.sl aC)])],h:=[],nx:=0 }
abbrev Nc:List (Ev.Ex×Lay):=[(.ret,{ T:=[(0,.cS 0),(1,.int .i64)],h:=[(0,.cO 220)],nx:=1 })]
abbrev BC:=TL Zkg.σs->Option (Out Nc)
abbrev vl:=Kb 77 2 Zkg 2 Nc
abbrev Df:Lay:={ T:=[(3,.ptr 0 0),(4,.cS 1),(27,.fz ab),(28,.int .i64),(29,.int .i64)],h:=[(0,.cells [.fz .bool,.fz (.sl aC)] 40),(1,.cO 220)],nx:=2 }
abbrev C6:List (Ev.Ex×Lay):=[(.ret,{ T:=[(4,.bq),(5,.int .i64)],h:=[],nx:=0 }),((.exit 0),{ T:=[(4,.cS 0)],h:=[(0,.cO 220)],nx:=1 })]
abbrev Xt:=TL Df.σs->Option (Out C6)
abbrev J5:=Ld 0 56 (bu [0] (aW Tryz.f77)) Df C6
def wH(F0:vp)(t27:List (Sh.T ab))(t28 t29:Int)(aE:List Bool)(aD:List (List (Sh.T aC)))(b1:List (Sh.T (.agg [(.int .i64),(.int .i64),(.sl aC)]))):Option (TL Df.σs⊕Out C6):=
 br (iL t29 t28)
 (
  ai (aw t29 (List.length t27))<|
  ai (aw t29 (List.length aD))<|
  ar (F0 ((gt ab t27 t29).1,((gt ab t27 t29).2.1,((gt (.sl aC) aD t29),())))) fun x0=>
  (match x0 with
  |.inl x1=>
   ai (Bool.not (iQ x1.1 (0:Int)))<|
   some (.inr (.inl (x1.1,())))
  |.inr x1=>
   br (Bool.not (iQ x1.1 (0:Int)))
   (
    some (.inr (.inl (x1.1,()))))
   (
    ai (room 8 (List.length (ap b1 ((mM x1.2.1 x1.2.2.1 x1.2.2.2.1)::[]))))<|
    some (.inl (t27,(t28,((IntKind.wrap .i64 (t29+(1:Int))),(aE,(aD,((ap b1 ((mM x1.2.1 x1.2.2.1 x1.2.2.2.1)::[])),()))))))))
  ))
 (
  some (.inr (.inr (b1,()))))
def akd(c0:sj) :J5:=bB (u6 (wH c0.F)) (pL (kB c0 k0) e0 1 l0 fun d=>by kernel_rfl)
def akc:J5:=akd vq
def Nj:Xt:=aR (u6 (wH wy)) NN
def NO(F0:vp)(L4:Xt)(dr:Int)(fR:List Int)(fx:List (Sh.T ae))(gC gD gF:List Int)(dU:List (Sh.T ab))(gm:List (Sh.T ae))(ic:List Bool)(fS:List (List (Sh.T aC))):Option (Out Nc):=
 br (Bool.not (iQ (Int.ofNat (List.length ic)) (Int.ofNat (List.length fx))))
 (
  some ((14:Int),([],())))
 (
  br (aQ false true (Bool.not (iQ (Int.ofNat (List.length fS)) (Int.ofNat (List.length dU)))))
  (
   some ((14:Int),([],())))
  (
   ar (L4 (dU,((Int.ofNat (List.length dU)),((0:Int),(ic,(fS,([],()))))))) fun x0=>
   (match x0 with|.inl x1=>some (x1.1,([],()))|.inr x1=>some ((0:Int),(x1.1,()))
   )))
def akl(c0:sj)(M4:J5):vl:=⟨lH (NO c0.F M4.L),pB Tryz.func77 56 (kB c0 k0) e0 1 (sS (sC M4 l0)) fun d=>by kernel_rfl⟩
def BD:vl:=akl vq akc
def Zq8:BC:=BD.F
abbrev Zsj:List Sh:=[bg,cV]
abbrev NC:List Sh:=[(.int .i64)]
abbrev Kk:=TL Zsj->Option (TL NC)
abbrev Br:=Kd 72 Zsj NC
def Zy5(F0:qi)(F1:BC)(a0:Sh.T bg)(a1:Sh.T cV):Option (TL NC):=
 ar (F0 (a0,())) fun x0=>
 br (Bool.not (iQ x0.1 (0:Int)))
 (
  some (x0.1,()))
 (
  ar (F1 (a0.1,(a0.2.1,(a0.2.2.1,(a0.2.2.2.1,(a0.2.2.2.2.1,(a0.2.2.2.2.2.1,(a0.2.2.2.2.2.2.1,(a0.2.2.2.2.2.2.2.1,a1))))))))) fun x1=>
  some (x1.1,()))
def akn(c0:oT)(c1:vl) :Br:=⟨u2 (Zy5 c0.F c1.F),pD Tryz.func72 20 (kD c0 (kB c1 k0)) e0 1 (sS l0) fun d=>by kernel_rfl⟩
def Kl:Br:=akn qj BD
def Zhp:Kk:=Kl.F
abbrev CY:Lay:={ T:=[(3,.ptr 0 0),(40,.fz ab),(41,.int .i64),(42,.int .i64)],h:=[(0,.cells [.fz .bool,.fz (.sl aC)] 40)],nx:=1 }
abbrev CS:List (Ev.Ex×Lay):=[(.ret,vX),((.exit 2),sU)]
abbrev WG:=TL CY.σs->Option (Out CS)
abbrev WH:=Ld 0 60 (bu [1] (aW Tryz.f54)) CY CS
abbrev C8:Lay:={ T:=[(2,.ptr 0 0),(3,.ptr 1 0),(17,.fz ae),(18,.int .i64),(19,.int .i64)],h:=sT,nx:=2 }
abbrev CX:List (Ev.Ex×Lay):=[(.ret,vX),((.exit 0),{ T:=[(2,.ptr 0 0),(3,.ptr 1 0)],h:=sT,nx:=2 })]
abbrev Xk:=TL C8.σs->Option (Out CX)
abbrev Xl:=Ld 0 60 (bu [0] (aW Tryz.f54)) C8 CX
def wD(t17:List (Sh.T ae))(t18 t19 aE:Int)(aD:List Int)(aG:List (Sh.T ae))(aH aI aL:List Int)(aA:List (Sh.T ab))(aF:List (Sh.T ae))(cG:List Bool)(cN:List (List (Sh.T aC))):Option (TL C8.σs⊕Out CX):=
 br (iL t19 t18)
 (
  ai (aw t19 (List.length t17))<|
  br (Bool.not (iQ (gt ae t17 t19).2.2.1 (2:Int)))
  (
   ai (aw t19 (List.length cG))<|
   br (aQ true (Bool.not (@decide _ (Bool.decEq (iQ (gt ae t17 t19).2.2.1 (1:Int)) (gt .bool cG t19)))) false)
   (
    some (.inr (.inl ((14:Int),()))))
   (
    some (.inl (t17,(t18,((IntKind.wrap .i64 (t19+(1:Int))),(aE,(aD,(aG,(aH,(aI,(aL,(aA,(aF,(cG,(cN,()))))))))))))))))
  (
   some (.inl (t17,(t18,((IntKind.wrap .i64 (t19+(1:Int))),(aE,(aD,(aG,(aH,(aI,(aL,(aA,(aF,(cG,(cN,()))))))))))))))))
 (
  some (.inr (.inr (aE,(aD,(aG,(aH,(aI,(aL,(aA,(aF,(cG,(cN,())))))))))))))
def ajY  :Xl:=bB (nF wD) (pL k0 e0 1 l0 fun d=>by kernel_rfl)
def Zlq:Xk:=aR (nF wD) NN
def wB(t40:List (Sh.T ab))(t41 t42:Int)(aE:List Bool)(aD:List (List (Sh.T aC))):Option (TL CY.σs⊕Out CS):=
 br (iL t42 t41)
 (
  ai (aw t42 (List.length t40))<|
  br (Bool.not (gt ab t40 t42).2.2.1)
  (
   ai (aw t42 (List.length aD))<|
   br (aQ true (iL (0:Int) (Int.ofNat (List.length (gt (.sl aC) aD t42)))) false)
   (
    some (.inr (.inl ((14:Int),()))))
   (
    some (.inl (t40,(t41,((IntKind.wrap .i64 (t42+(1:Int))),(aE,(aD,()))))))))
  (
   some (.inl (t40,(t41,((IntKind.wrap .i64 (t42+(1:Int))),(aE,(aD,()))))))))
 (
  some (.inr (.inr ())))
def aju  :WH:=bB (u5 wB) (pL k0 e0 1 l0 fun d=>by kernel_rfl)
def Zku:WG:=aR (u5 wB) NN
abbrev Zr9:List Sh:=[bg,cV]
abbrev Nt:List Sh:=[(.int .i64)]
abbrev Ku:=TL Zr9->Option (TL Nt)
abbrev Bq:=Kd 54 Zr9 Nt
def Zwg(F0:Kk)(L5:Xk)(L11:WG)(a0:Sh.T bg)(a1:Sh.T cV):Option (TL Nt):=
 ar (F0 (a0,(a1,()))) fun x0=>
 br (Bool.not (iQ x0.1 (0:Int)))
 (
  some (x0.1,()))
 (
  ar (L5 (a0.2.2.1,((Int.ofNat (List.length a0.2.2.1)),((0:Int),(a0.1,(a0.2.1,(a0.2.2.1,(a0.2.2.2.1,(a0.2.2.2.2.1,(a0.2.2.2.2.2.1,(a0.2.2.2.2.2.2.1,(a0.2.2.2.2.2.2.2.1,a1)))))))))))) fun x1=>
  (match x1 with
  |.inl x2=>some (x2.1,())|.inr x2=>
   ar (L11 (x2.2.2.2.2.2.2.1,((Int.ofNat (List.length x2.2.2.2.2.2.2.1)),((0:Int),x2.2.2.2.2.2.2.2.2)))) fun x3=>
   (match x3 with|.inl x4=>some (x4.1,())|.inr x4=>some ((0:Int),())
   )
  ))
def akf(c0:Br)(M5:Xl)(M11:WH):Bq:=⟨u2 (Zwg c0.F M5.L M11.L),pD Tryz.func54 60 (kD c0 k0) e0 1 (sS (sC M5 (sC M11 l0))) fun d=>by kernel_rfl⟩
def Kv:Bq:=akf Kl ajY aju
def Nu:Ku:=Kv.F
abbrev Dg:Lay:={ T:=[(1,.ptr 0 0),(2,.ptr 1 0),(10,.fz ae),(11,.int .i64),(12,.int .i64)],h:=[(0,.cells fq 27),(1,.cells [.hd 2 .bool,.bq] 40),(2,.arr .bool 4)],nx:=3 }
abbrev C7:List (Ev.Ex×Lay):=[((.exit 0),{ T:=[(1,.ptr 0 0),(2,.ptr 1 0)],h:=[(0,.cells fq 27),(1,.cells [.hd 2 .bool,.bq] 40),(2,.arr .bool 4)],nx:=3 })]
abbrev Xu:=TL Dg.σs->Option (Out C7)
abbrev Xv:=Ld 0 31 (bu [0] (aW Tryz.f117)) Dg C7
def Dx(t10:List (Sh.T ae))(t11 t12 aE:Int)(aD:List Int)(aG:List (Sh.T ae))(aH aI aL:List Int)(aA:List (Sh.T ab))(aF:List (Sh.T ae))(b2:List Bool):Option (TL Dg.σs⊕Out C7):=
 br (iL t12 t11)
 (
  ai (aw t12 (List.length t10))<|
  ai (room 1 (List.length (ap b2 ((iQ (gt ae t10 t12).2.2.1 (1:Int))::[]))))<|
  some (.inl (t10,(t11,((IntKind.wrap .i64 (t12+(1:Int))),(aE,(aD,(aG,(aH,(aI,(aL,(aA,(aF,((ap b2 ((iQ (gt ae t10 t12).2.2.1 (1:Int))::[])),()))))))))))))))
 (
  some (.inr (aE,(aD,(aG,(aH,(aI,(aL,(aA,(aF,(b2,())))))))))))
def ake  :Xv:=bB (jY Dx) (pL k0 e0 1 l0 fun d=>by kernel_rfl)
def Zmt:Xu:=aR (jY Dx) NN
abbrev Zsi:List Sh:=[bg]
abbrev NB:List Sh:=[cV]
abbrev XW:=TL Zsi->Option (TL NB)
abbrev Kj:=Kd 117 Zsi NB
def Zy4(F0:qi)(L4:Xu)(a0:Sh.T bg):Option (TL NB):=
 ar (F0 (a0,())) fun x0=>
 br (Bool.not (iQ x0.1 (0:Int)))
 (
  some (([],([],())),()))
 (
  ar (L4 (a0.2.2.1,((Int.ofNat (List.length a0.2.2.1)),((0:Int),(a0.1,(a0.2.1,(a0.2.2.1,(a0.2.2.2.1,(a0.2.2.2.2.1,(a0.2.2.2.2.2.1,(a0.2.2.2.2.2.2.1,(a0.2.2.2.2.2.2.2.1,([],()))))))))))))) fun x1=>
  ai (both (iE (0:Int) (Int.ofNat (List.length x1.2.2.2.2.2.2.1))) (both (iE (Int.ofNat (List.length x1.2.2.2.2.2.2.1)) (Int.ofNat (List.length x1.2.2.2.2.2.2.1))) (iE ((Int.ofNat 24)*(Int.ofNat (List.length x1.2.2.2.2.2.2.1))) (281474976710656:Int))))<|
  some ((x1.2.2.2.2.2.2.2.2.1,((List.replicate (Int.toNat (Int.ofNat (List.length x1.2.2.2.2.2.2.1))) (Sh.zero (.sl aC))),())),()))
def akm(c0:oT)(M4:Xv):Kj:=⟨u1 (Zy4 c0.F M4.L),pD Tryz.func117 31 (kD c0 k0) e0 1 (sS (sC M4 l0)) fun d=>by kernel_rfl⟩
def XX:Kj:=akm qj ake
def Zqa:XW:=XX.F
abbrev Md:Lay:={ T:=[(0,.int .u64),(1,.int .i64),(5,.int .i64)],h:=[],nx:=0 }
abbrev Ma:List (Ev.Ex×Lay):=[((.exit 0),{ T:=[(0,.int .u64)],h:=[],nx:=0 })]
abbrev U3:=TL Md.σs->Option (Out Ma)
abbrev U4:=Ld 0 19 (bu [0] (aW Tryz.f127)) Md Ma
def Db(t0 t1 t5:Int):Option (TL Md.σs⊕Out Ma):=
 br (iL t5 t1)
 (
  br (aQ true (iL t5 (64:Int)) false)
  (
   some (.inl ((IntKind.wrap .u64 (Int.tdiv t0 (2:Int))),(t1,((IntKind.wrap .i64 (t5+(1:Int))),())))))
  (
   some (.inr (t0,()))))
 (
  some (.inr (t0,())))
def aij  :U4:=bB (u3 Db) (pL k0 e0 1 l0 fun d=>by kernel_rfl)
def ZV:U3:=aR (u3 Db) NN
abbrev Z7:List Sh:=[(.int .u64),(.int .i64)]
abbrev wq:List Sh:=[.bool]
abbrev qe:=TL Z7->Option (TL wq)
abbrev oR:=Kd 127 Z7 wq
def Zm0(L2:U3)(a0 a1:Int):Option (TL wq):=
 ar (L2 (a0,(a1,((0:Int),())))) fun x0=>
 some ((iQ x0.1 (0:Int)),())
def aiu(M2:U4):oR:=⟨u2 (Zm0 M2.L),pD Tryz.func127 19 k0 e0 1 (sS (sC M2 l0)) fun d=>by kernel_rfl⟩
def qf:oR:=aiu  aij
def qE:qe:=qf.F
abbrev CL:Lay:={ T:=[(0,.int .i64),(1,.int .i64),(2,.fz aC),(7,.int .i64)],h:=[],nx:=0 }
abbrev CE:List (Ev.Ex×Lay):=[(.ret,{ T:=[(6,.bool)],h:=[],nx:=0 }),((.exit 0),sU)]
abbrev UT:=TL CL.σs->Option (Out CE)
abbrev H5:=Ld 0 77 (bu [0] (aW Tryz.f65)) CL CE
def wi(F0:qe)(t0 t1:Int)(t2:List (Sh.T aC))(t7:Int):Option (TL CL.σs⊕Out CE):=
 br (iL t7 (Int.ofNat (List.length t2)))
 (
  br (iL (0:Int) t7)
  (
   ai (aw t7 (List.length t2))<|
   ai (aw (IntKind.wrap .i64 (t7-(1:Int))) (List.length t2))<|
   br (aQ true (iE (gt aC t2 t7).1 (gt aC t2 (IntKind.wrap .i64 (t7-(1:Int)))).1) false)
   (
    some (.inr (.inl (false,()))))
   (
    ai (aw t7 (List.length t2))<|
    ar (F0 ((gt aC t2 t7).1,(t0,()))) fun x0=>
    br (aQ false true (Bool.not x0.1))
    (
     some (.inr (.inl (false,()))))
    (
     ai (aw t7 (List.length t2))<|
     ar (F0 ((gt aC t2 t7).2.1,(t1,()))) fun x1=>
     br (aQ false true (Bool.not x1.1))
     (
      some (.inr (.inl (false,()))))
     (
      ai (aw t7 (List.length t2))<|
      br (aQ false true (iQ (gt aC t2 t7).2.1 (0:Int)))
      (
       some (.inr (.inl (false,()))))
      (
       some (.inl (t0,(t1,(t2,((IntKind.wrap .i64 (t7+(1:Int))),()))))))))))
  (
   ai (aw t7 (List.length t2))<|
   ar (F0 ((gt aC t2 t7).1,(t0,()))) fun x0=>
   br (aQ false true (Bool.not x0.1))
   (
    some (.inr (.inl (false,()))))
   (
    ai (aw t7 (List.length t2))<|
    ar (F0 ((gt aC t2 t7).2.1,(t1,()))) fun x1=>
    br (aQ false true (Bool.not x1.1))
    (
     some (.inr (.inl (false,()))))
    (
     ai (aw t7 (List.length t2))<|
     br (aQ false true (iQ (gt aC t2 t7).2.1 (0:Int)))
     (
      some (.inr (.inl (false,()))))
     (
      some (.inl (t0,(t1,(t2,((IntKind.wrap .i64 (t7+(1:Int))),()))))))))))
 (
  some (.inr (.inr ())))
def ah8(c0:oR) :H5:=bB (u4 (wi c0.F)) (pL (kD c0 k0) e0 1 l0 fun d=>by kernel_rfl)
def ah7:H5:=ah8 qf
def Mu:UT:=aR (u4 (wi qE)) NN
abbrev Z0:List Sh:=[(.int .i64),(.int .i64),(.sl aC)]
abbrev MF:List Sh:=[.bool]
abbrev Ic:=TL Z0->Option (TL MF)
abbrev zv:=Kd 65 Z0 MF
def MQ(F0:qe)(L4:UT)(a0 a1:Int)(a2:List (Sh.T aC)):Option (TL MF):=
 br (iL a0 (1:Int))
 (
  some (false,()))
 (
  br (aQ false true (iL (62:Int) a0))
  (
   some (false,()))
  (
   br (aQ false true (iL a1 (1:Int)))
   (
    some (false,()))
   (
    br (aQ false true (iL (64:Int) a1))
    (
     some (false,()))
    (
     br (aQ false true (iL (4096:Int) (Int.ofNat (List.length a2))))
     (
      some (false,()))
     (
      ar (L4 (a0,(a1,(a2,((0:Int),()))))) fun x0=>
      (match x0 with|.inl x1=>some (x1.1,())|.inr x1=>some (true,())
      ))))))
def aii(c0:oR)(M4:H5):zv:=⟨u3 (MQ c0.F M4.L),pD Tryz.func65 77 (kD c0 k0) e0 1 (sS (sC M4 l0)) fun d=>by kernel_rfl⟩
def Ie:zv:=aii qf ah7
def ZN:Ic:=Ie.F
abbrev CP:Lay:={ T:=[(2,.ptr 0 0),(3,.ptr 1 0),(6,.int .i64)],h:=sT,nx:=2 }
abbrev CK:List (Ev.Ex×Lay):=[(.ret,vX),((.exit 0),sU)]
abbrev U2:=TL CP.σs->Option (Out CK)
abbrev Ib:=Ld 0 54 (bu [0] (aW Tryz.f26)) CP CK
def wo(F0:Ic)(t6 aE:Int)(aD:List Int)(aG:List (Sh.T ae))(aH aI aL:List Int)(aA:List (Sh.T ab))(aF:List (Sh.T ae))(cG:List Bool)(cN:List (List (Sh.T aC))):Option (TL CP.σs⊕Out CK):=
 br (iL t6 (Int.ofNat (List.length aA)))
 (
  ai (aw t6 (List.length aA))<|
  ai (aw t6 (List.length aA))<|
  ai (aw t6 (List.length cN))<|
  ar (F0 ((gt ab aA t6).1,((gt ab aA t6).2.1,((gt (.sl aC) cN t6),())))) fun x0=>
  br (Bool.not x0.1)
  (
   some (.inr (.inl ((14:Int),()))))
  (
   some (.inl ((IntKind.wrap .i64 (t6+(1:Int))),(aE,(aD,(aG,(aH,(aI,(aL,(aA,(aF,(cG,(cN,()))))))))))))))
 (
  some (.inr (.inr ())))
def aih(c0:zv) :Ib:=bB (jI (wo c0.F)) (pL (kD c0 k0) e0 1 l0 fun d=>by kernel_rfl)
def aif:Ib:=aih Ie
def ZU:U2:=aR (jI (wo ZN)) NN
abbrev Z6:List Sh:=[bg,cV]
abbrev MP:List Sh:=[(.int .i64)]
abbrev IX:=TL Z6->Option (TL MP)
abbrev zZ:=Kd 26 Z6 MP
def Zlx(F0:Ic)(F1:vb)(L7:U2)(a0:Sh.T bg)(a1:Sh.T cV):Option (TL MP):=
 ar (F1 (a0,())) fun x0=>
 br (Bool.not (iQ x0.1 (0:Int)))
 (
  some (x0.1,()))
 (
  br (Bool.not (iQ (Int.ofNat (List.length a1.1)) (Int.ofNat (List.length a0.2.2.1))))
  (
   some ((14:Int),()))
  (
   br (aQ false true (Bool.not (iQ (Int.ofNat (List.length a1.2.1)) (Int.ofNat (List.length a0.2.2.2.2.2.2.1)))))
   (
    some ((14:Int),()))
   (
    ar (L7 ((0:Int),(a0.1,(a0.2.1,(a0.2.2.1,(a0.2.2.2.1,(a0.2.2.2.2.1,(a0.2.2.2.2.2.1,(a0.2.2.2.2.2.2.1,(a0.2.2.2.2.2.2.2.1,a1)))))))))) fun x1=>
    (match x1 with|.inl x2=>some (x2.1,())|.inr x2=>some ((0:Int),())
    ))))
def ait(c0:zv)(c1:rY)(M7:Ib):zZ:=⟨u2 (Zlx c0.F c1.F M7.L),pD Tryz.func26 54 (kD c0 (kD c1 k0)) e0 1 (sS (sC M7 l0)) fun d=>by kernel_rfl⟩
def IY:zZ:=ait Ie vc aif
def Zbn:IX:=IY.F
abbrev CD:Lay:={ T:=[(2,.ptr 0 0),(3,.ptr 1 0),(7,.int .i64)],h:=sT,nx:=2 }
abbrev Cy:List (Ev.Ex×Lay):=[(.ret,vX),((.exit 2),sU)]
abbrev UN:=TL CD.σs->Option (Out Cy)
abbrev UO:=Ld 0 75 (bu [1] (aW Tryz.f22)) CD Cy
abbrev CJ:Lay:={ T:=[(2,.ptr 0 0),(3,.ptr 1 0),(6,.int .i64)],h:=sT,nx:=2 }
abbrev CC:List (Ev.Ex×Lay):=[(.ret,vX),((.exit 0),{ T:=[(2,.ptr 0 0),(3,.ptr 1 0)],h:=sT,nx:=2 })]
abbrev UR:=TL CJ.σs->Option (Out CC)
abbrev US:=Ld 0 75 (bu [0] (aW Tryz.f22)) CJ CC
def wh(t6 aE:Int)(aD:List Int)(aG:List (Sh.T ae))(aH aI aL:List Int)(aA:List (Sh.T ab))(aF:List (Sh.T ae))(cG:List Bool)(cN:List (List (Sh.T aC))):Option (TL CJ.σs⊕Out CC):=
 br (iL t6 (Int.ofNat (List.length aG)))
 (
  ai (aw t6 (List.length aG))<|
  br (iQ (gt ae aG t6).2.2.1 (0:Int))
  (
   ai (aw t6 (List.length cG))<|
   br (aQ true (gt .bool cG t6) false)
   (
    some (.inr (.inl ((14:Int),()))))
   (
    ai (aw t6 (List.length aG))<|
    br (iQ (gt ae aG t6).2.2.1 (1:Int))
    (
     ai (aw t6 (List.length cG))<|
     br (aQ false true (aQ true (Bool.not (gt .bool cG t6)) false))
     (
      some (.inr (.inl ((14:Int),()))))
     (
      some (.inl ((IntKind.wrap .i64 (t6+(1:Int))),(aE,(aD,(aG,(aH,(aI,(aL,(aA,(aF,(cG,(cN,()))))))))))))))
    (
     some (.inl ((IntKind.wrap .i64 (t6+(1:Int))),(aE,(aD,(aG,(aH,(aI,(aL,(aA,(aF,(cG,(cN,())))))))))))))))
  (
   ai (aw t6 (List.length aG))<|
   br (iQ (gt ae aG t6).2.2.1 (1:Int))
   (
    ai (aw t6 (List.length cG))<|
    br (aQ false true (aQ true (Bool.not (gt .bool cG t6)) false))
    (
     some (.inr (.inl ((14:Int),()))))
    (
     some (.inl ((IntKind.wrap .i64 (t6+(1:Int))),(aE,(aD,(aG,(aH,(aI,(aL,(aA,(aF,(cG,(cN,()))))))))))))))
   (
    some (.inl ((IntKind.wrap .i64 (t6+(1:Int))),(aE,(aD,(aG,(aH,(aI,(aL,(aA,(aF,(cG,(cN,())))))))))))))))
 (
  some (.inr (.inr (aE,(aD,(aG,(aH,(aI,(aL,(aA,(aF,(cG,(cN,())))))))))))))
def ah6  :US:=bB (jI wh) (pL k0 e0 1 l0 fun d=>by kernel_rfl)
def ZQ:UR:=aR (jI wh) NN
def wc(t7 aE:Int)(aD:List Int)(aG:List (Sh.T ae))(aH aI aL:List Int)(aA:List (Sh.T ab))(aF:List (Sh.T ae))(cG:List Bool)(cN:List (List (Sh.T aC))):Option (TL CD.σs⊕Out Cy):=
 br (iL t7 (Int.ofNat (List.length aA)))
 (
  ai (aw t7 (List.length aA))<|
  br (Bool.not (gt ab aA t7).2.2.1)
  (
   ai (aw t7 (List.length cN))<|
   br (aQ true (iL (0:Int) (Int.ofNat (List.length (gt (.sl aC) cN t7)))) false)
   (
    some (.inr (.inl ((14:Int),()))))
   (
    some (.inl ((IntKind.wrap .i64 (t7+(1:Int))),(aE,(aD,(aG,(aH,(aI,(aL,(aA,(aF,(cG,(cN,()))))))))))))))
  (
   some (.inl ((IntKind.wrap .i64 (t7+(1:Int))),(aE,(aD,(aG,(aH,(aI,(aL,(aA,(aF,(cG,(cN,()))))))))))))))
 (
  some (.inr (.inr ())))
def ah4  :UO:=bB (jI wc) (pL k0 e0 1 l0 fun d=>by kernel_rfl)
def ZP:UN:=aR (jI wc) NN
abbrev ZZ:List Sh:=[bg,cV]
abbrev ME:List Sh:=[(.int .i64)]
abbrev VG:=TL ZZ->Option (TL ME)
abbrev Iv:=Kd 22 ZZ ME
def Zl5(F0:IX)(L5:UR)(L10:UN)(a0:Sh.T bg)(a1:Sh.T cV):Option (TL ME):=
 ar (F0 (a0,(a1,()))) fun x0=>
 br (Bool.not (iQ x0.1 (0:Int)))
 (
  some (x0.1,()))
 (
  ar (L5 ((0:Int),(a0.1,(a0.2.1,(a0.2.2.1,(a0.2.2.2.1,(a0.2.2.2.2.1,(a0.2.2.2.2.2.1,(a0.2.2.2.2.2.2.1,(a0.2.2.2.2.2.2.2.1,a1)))))))))) fun x1=>
  (match x1 with
  |.inl x2=>some (x2.1,())|.inr x2=>
   ar (L10 ((0:Int),x2)) fun x3=>
   (match x3 with|.inl x4=>some (x4.1,())|.inr x4=>some ((0:Int),())
   )
  ))
def aie(c0:zZ)(M5:US)(M10:UO):Iv:=⟨u2 (Zl5 c0.F M5.L M10.L),pD Tryz.func22 75 (kD c0 k0) e0 1 (sS (sC M5 (sC M10 l0))) fun d=>by kernel_rfl⟩
def VH:Iv:=aie IY ah6 ah4
def ZW:VG:=VH.F
abbrev CO:Lay:={ T:=[(1,.ptr 0 0),(3,.int .i64)],h:=[(0,.cells fq 27)],nx:=1 }
abbrev CH:List (Ev.Ex×Lay):=[(.ret,{ T:=[(2,.bool)],h:=[],nx:=0 }),((.exit 0),sU)]
abbrev UU:=TL CO.σs->Option (Out CH)
abbrev H6:=Ld 0 132 (bu [0] (aW Tryz.f50)) CO CH
abbrev Ct:Lay:={ T:=[(1,.ptr 0 0),(3,.int .i64),(4,.ptr 1 0),(6,.int .i64)],h:=LH,nx:=2 }
abbrev Cp:List (Ev.Ex×Lay):=[(.ret,{ T:=[(2,.bool)],h:=[],nx:=0 }),((.exit 4),{ T:=[(1,.ptr 0 0),(3,.int .i64)],h:=[(0,.cells fq 27)],nx:=1 })]
abbrev HT:=TL Ct.σs->Option (Out Cp)
abbrev H0:=Ld 0 132 (bu [0,1] (aW Tryz.f50)) Ct Cp
abbrev Cu:Lay:={ T:=[(1,.ptr 0 0),(3,.int .i64),(4,.ptr 1 0),(5,.int .i64)],h:=LH,nx:=2 }
abbrev Cq:List (Ev.Ex×Lay):=[(.ret,{ T:=[(2,.bool)],h:=[],nx:=0 }),((.exit 2),{ T:=[(1,.ptr 0 0),(3,.int .i64),(4,.ptr 1 0)],h:=LH,nx:=2 })]
abbrev HU:=TL Cu.σs->Option (Out Cq)
abbrev H2:=Ld 0 132 (bu [0,0] (aW Tryz.f50)) Cu Cq
def wg(t3 t5 aE:Int)(aD:List Int)(aG:List (Sh.T ae))(aH aI aL:List Int)(aA:List (Sh.T ab))(aF:List (Sh.T ae))(cG cN:Int)(fO:Bool)(eW:List (Sh.T bO))(ia:List (Sh.T bE)):Option (TL Cu.σs⊕Out Cq):=
 br (iL t5 (Int.ofNat (List.length eW)))
 (
  ai (aw t5 (List.length eW))<|
  br (iL (100:Int) (Int.ofNat (List.length (gt bO eW t5).2.1)))
  (
   some (.inr (.inl (false,()))))
  (
   ai (aw t5 (List.length eW))<|
   br (aQ false true (iL (1099511627776:Int) (gt bO eW t5).1))
   (
    some (.inr (.inl (false,()))))
   (
    ai (aw t5 (List.length eW))<|
    br (aQ false true (iL (gt bO eW t5).1 (Int.negSucc 1099511627775)))
    (
     some (.inr (.inl (false,()))))
    (
     some (.inl (t3,((IntKind.wrap .i64 (t5+(1:Int))),(aE,(aD,(aG,(aH,(aI,(aL,(aA,(aF,(cG,(cN,(fO,(eW,(ia,()))))))))))))))))))))
 (
  some (.inr (.inr (t3,(aE,(aD,(aG,(aH,(aI,(aL,(aA,(aF,(cG,(cN,(fO,(eW,(ia,())))))))))))))))))
def UQ  :H2:=bB (dV wg) (pL k0 e0 1 l0 fun d=>by kernel_rfl)
def Mh:HU:=aR (dV wg) NN
def we(t3 t6 aE:Int)(aD:List Int)(aG:List (Sh.T ae))(aH aI aL:List Int)(aA:List (Sh.T ab))(aF:List (Sh.T ae))(cG cN:Int)(fO:Bool)(eW:List (Sh.T bO))(ia:List (Sh.T bE)):Option (TL Ct.σs⊕Out Cp):=
 br (iL t6 (Int.ofNat (List.length ia)))
 (
  ai (aw t6 (List.length ia))<|
  br (iL (100:Int) (Int.ofNat (List.length (gt bE ia t6).2.1)))
  (
   some (.inr (.inl (false,()))))
  (
   ai (aw t6 (List.length ia))<|
   br (aQ false true (iL (100:Int) (Int.ofNat (List.length (gt bE ia t6).2.2.1))))
   (
    some (.inr (.inl (false,()))))
   (
    some (.inl (t3,((IntKind.wrap .i64 (t6+(1:Int))),(aE,(aD,(aG,(aH,(aI,(aL,(aA,(aF,(cG,(cN,(fO,(eW,(ia,())))))))))))))))))))
 (
  some (.inr (.inr (t3,(aE,(aD,(aG,(aH,(aI,(aL,(aA,(aF,()))))))))))))
def UP  :H0:=bB (dV we) (pL k0 e0 1 l0 fun d=>by kernel_rfl)
def Mg:HT:=aR (dV we) NN
def wj(L10:HU)(L15:HT)(t3 aE:Int)(aD:List Int)(aG:List (Sh.T ae))(aH aI aL:List Int)(aA:List (Sh.T ab))(aF:List (Sh.T ae)):Option (TL CO.σs⊕Out CH):=
 br (iL t3 (Int.ofNat (List.length aA)))
 (
  ai (aw t3 (List.length aA))<|
  br (iL (6:Int) (Int.ofNat (List.length (gt ab aA t3).2.2.2.1)))
  (
   some (.inr (.inl (false,()))))
  (
   br (aQ false true (iL (6:Int) (Int.ofNat (List.length (gt ab aA t3).2.2.2.2.1))))
   (
    some (.inr (.inl (false,()))))
   (
    br (aQ false true (iL (100:Int) (gt ab aA t3).2.1))
    (
     some (.inr (.inl (false,()))))
    (
     ar (L10 (t3,((0:Int),(aE,(aD,(aG,(aH,(aI,(aL,(aA,(aF,((gt ab aA t3).1,((gt ab aA t3).2.1,((gt ab aA t3).2.2.1,((gt ab aA t3).2.2.2.1,((gt ab aA t3).2.2.2.2.1,())))))))))))))))) fun x0=>
     (match x0 with
     |.inl x1=>some (.inr (.inl (x1.1,())))|.inr x1=>
      ar (L15 (x1.1,((0:Int),x1.2))) fun x2=>
      (match x2 with|.inl x3=>some (.inr (.inl (x3.1,())))|.inr x3=>some (.inl ((IntKind.wrap .i64 (@HAdd.hAdd (Int) (Int) (Int) _ x3.1 (1:Int))),x3.2))
      )
     )))))
 (
  some (.inr (.inr ())))
def aia(M10:H2)(M15:H0):H6:=bB (u9 (wj M10.L M15.L)) (pL k0 e0 1 (sC M10 (sC M15 l0)) fun d=>by kernel_rfl)
def ah9:H6:=aia  UQ UP
def ZT:UU:=aR (u9 (wj Mh Mg)) NN
abbrev Z5:List Sh:=[bg]
abbrev ML:List Sh:=[.bool]
abbrev U7:=TL Z5->Option (TL ML)
abbrev Ih:=Kd 50 Z5 ML
def Zlb(L4:UU)(L10:HU)(L15:HT)(a0:Sh.T bg):Option (TL ML):=
 br (iL (2100:Int) (Int.ofNat (List.length a0.2.1)))
 (
  some (false,()))
 (
  br (aQ false true (iL (2100:Int) (Int.ofNat (List.length a0.2.2.1))))
  (
   some (false,()))
  (
   br (aQ false true (iL (2100:Int) (Int.ofNat (List.length a0.2.2.2.2.2.2.2.1))))
   (
    some (false,()))
   (
    br (aQ false true (iL (1100:Int) (Int.ofNat (List.length a0.2.2.2.1))))
    (
     some (false,()))
    (
     br (aQ false true (iL (1100:Int) (Int.ofNat (List.length a0.2.2.2.2.1))))
     (
      some (false,()))
     (
      br (aQ false true (iL (1100:Int) (Int.ofNat (List.length a0.2.2.2.2.2.1))))
      (
       some (false,()))
      (
       br (aQ false true (iL (6:Int) (Int.ofNat (List.length a0.2.2.2.2.2.2.1))))
       (
        some (false,()))
       (
        ar (L4 ((0:Int),a0)) fun x0=>
        (match x0 with|.inl x1=>some (x1.1,())|.inr x1=>some (true,())
        ))))))))
def ail(M4:H6)(M10:H2)(M15:H0):Ih:=⟨u1 (Zlb M4.L M10.L M15.L),pD Tryz.func50 132 k0 e0 1 (sS (sC M4 l0)) fun d=>by kernel_rfl⟩
def U8:Ih:=ail  ah9 UQ UP
def Mv:U7:=U8.F
abbrev Z4:List Sh:=[bg]
abbrev MK:List Sh:=[.bool]
abbrev U5:=TL Z4->Option (TL MK)
abbrev Ig:=Kd 13 Z4 MK
def Zla(F0:U7)(a0:Sh.T bg):Option (TL MK):=
 ar (F0 (a0,())) fun x0=>
 br x0.1
 (
  br (aQ true (iE (Int.ofNat (List.length a0.2.2.2.2.2.2.2.1)) (100:Int)) false)
  (
   br (aQ true (iE (Int.ofNat (List.length a0.2.1)) (100:Int)) false)
   (
    br (aQ true (iE (Int.ofNat (List.length a0.2.2.1)) (100:Int)) false)
    (
     some ((aQ true (iE (IntKind.wrap .i64 ((IntKind.wrap .i64 ((Int.ofNat (List.length a0.2.2.2.1))+(Int.ofNat (List.length a0.2.2.2.2.1))))+(Int.ofNat (List.length a0.2.2.2.2.2.1)))) (100:Int)) false),()))
    (
     some (false,())))
   (
    some (false,())))
  (
   some (false,())))
 (
  some (false,()))
def aik(c0:Ih) :Ig:=⟨u1 (Zla c0.F),pD Tryz.func13 37 (kD c0 k0) e0 1 (sS l0) fun d=>by kernel_rfl⟩
def U6:Ig:=aik U8
def Zcw:U5:=U6.F
