import Derived.Test.YtkcpdpplobhpaaaGreatKNd
set_option linter.unusedVariables false
set_option linter.unusedSimpArgs false
set_option linter.unnecessarySimpa false
/- memories, states of netlists, the documents beside them (printed by VTool.lean). -/
namespace Go.Proofs.YtkcpdpplobhpaaaGreat.V
open Go Go.RowKit
set_option maxRecDepth 1000000
abbrev Zos:List Sh:=[(.int .i64)]
abbrev QC:List Sh:=[(.int .i64)]
abbrev Ns:=TL Zos->Option (TL QC)
abbrev CX:=Kd 126 Zos QC
def xT(a0:Int):Option (TL QC):=some ((dj (iL (dj (iL (64:Int) a0) (64:Int) a0) (0:Int)) (0:Int) (dj (iL (64:Int) a0) (64:Int) a0)),())
def am4  :CX:=⟨u1 xT,pD Tryz.func126 6 k0 e0 1 (sS l0) fun d=>by kernel_rfl⟩
def Nt:CX:=am4
def Fv:Ns:=Nt.F
abbrev Zrm:List Sh:=[(.int .u64),(.int .i64)]
abbrev QJ:List Sh:=[.bool]
abbrev C6:=TL Zrm->Option (TL QJ)
abbrev wt:=Kd 196 Zrm QJ
def QY(F0:Ns)(a0 a1:Int):Option (TL QJ):=
 aj (F0 (a1,())) fun x0=>
 ah (iE (0:Int) x0.1)<|
 some ((iQ (Int.fdiv a0 (HPow.hPow (2:Int) (Min.min (Int.toNat x0.1) 64))) (0:Int)),())
def aoh(c0:CX) :wt:=⟨u2 (QY c0.F),pD Tryz.func196 10 (kD c0 k0) e0 1 (sS l0) fun d=>by kernel_rfl⟩
def C7:wt:=aoh Nt
def Fp:C6:=C7.F
abbrev Ff:Lay:={ T:=[(0,.int .i64),(1,.int .i64),(2,.fz ar),(28,.fz ar),(29,.int .i64),(30,.int .i64)],h:=[],nx:=0 }
abbrev ua:List (Nat×LO):=[(0,.cells ej 27),(1,.cells [.fz .bool,.fz (.sl ar)] 40)]
abbrev xq:List (Nat×LO):=[(0,.cells [.int .i64,.int .i64,.mp 1] 220),(1,.map .u64 (.int .u64))]
abbrev xr:Lay:={ T:=[(4,.int .i64)],h:=[],nx:=0 }
abbrev Pf:List (Nat×LO):=[(0,.cells ej 27),(1,.cells [.int .i64,.int .i64,.bool,.fz cj,.fz bI] 116)]
abbrev ub:Lay:={ T:=[],h:=[],nx:=0 }
abbrev E4:List (Ev.Ex×Lay):=[(.ret,{ T:=[(6,.bool)],h:=[],nx:=0 }),((.exit 0),ub)]
abbrev abg:=TL Ff.σs->Option (Out E4)
abbrev MY:=Ld 0 68 (bp [0] (aU Tryz.f144)) Ff E4
def xR(F0:C6)(t0 t1:Int)(t2 t28:List (Sh.T ar))(t29 t30:Int):Option (TL Ff.σs⊕Out E4):=
 br (iL t30 t29)
 (
  ah (aq t30 (List.length t28))<|
  br (iQ (gt ar t28 t30).2.1 (0:Int))
  (
   some (.inr (.inl (false,()))))
  (
   aj (F0 ((gt ar t28 t30).1,(t0,()))) fun x0=>
   br (aV false true (Bool.not x0.1))
   (
    some (.inr (.inl (false,()))))
   (
    aj (F0 ((gt ar t28 t30).2.1,(t1,()))) fun x1=>
    br (aV false true (Bool.not x1.1))
    (
     some (.inr (.inl (false,()))))
    (
     br (iL (0:Int) t30)
     (
      ah (aq (IntKind.wrap .i64 (t30-(1:Int))) (List.length t2))<|
      br (aV false true (aV true (iE (gt ar t28 t30).1 (gt ar t2 (IntKind.wrap .i64 (t30-(1:Int)))).1) false))
      (
       some (.inr (.inl (false,()))))
      (
       some (.inl (t0,(t1,(t2,(t28,(t29,((IntKind.wrap .i64 (t30+(1:Int))),())))))))))
     (
      some (.inl (t0,(t1,(t2,(t28,(t29,((IntKind.wrap .i64 (t30+(1:Int))),()))))))))))))
 (
  some (.inr (.inr ())))
def anS(c0:wt) :MY:=bu (u6 (xR c0.F)) (pL (kD c0 k0) e0 1 l0 fun d=>by kernel_rfl)
def anR:MY:=anS C7
def Qx:abg:=aQ (u6 (xR Fp)) NN
abbrev Zrd:List Sh:=[(.int .i64),(.int .i64),(.sl ar)]
abbrev QI:List Sh:=[.bool]
abbrev abu:=TL Zrd->Option (TL QI)
abbrev Ny:=Kd 144 Zrd QI
def QR(F0:C6)(L4:abg)(a0 a1:Int)(a2:List (Sh.T ar)):Option (TL QI):=
 br (iL a0 (1:Int))
 (
  some (false,()))
 (
  br (aV false true (iL (62:Int) a0))
  (
   some (false,()))
  (
   br (aV false true (iL a1 (1:Int)))
   (
    some (false,()))
   (
    br (aV false true (iL (64:Int) a1))
    (
     some (false,()))
    (
     br (aV false true (iL (4096:Int) (Int.ofNat (List.length a2))))
     (
      some (false,()))
     (
      aj (L4 (a0,(a1,(a2,(a2,((Int.ofNat (List.length a2)),((0:Int),()))))))) fun x0=>
      (match x0 with|.inl x1=>some (x1.1,())|.inr x1=>some (true,())
      ))))))
def aof(c0:wt)(M4:MY):Ny:=⟨u3 (QR c0.F M4.L),pD Tryz.func144 68 (kD c0 k0) e0 1 (sS (sC M4 l0)) fun d=>by kernel_rfl⟩
def abv:Ny:=aof C7 anR
def Zj4:abu:=abv.F
abbrev Zh9:Lay:={ T:=[(0,.int .i64),(1,.int .i64),(2,.fz ar)],h:=[],nx:=0 }
abbrev PX:List (Ev.Ex×Lay):=[(.ret,{ T:=[(0,.dJ),(1,.int .i64)],h:=[],nx:=0 }),(.ret,{ T:=[(0,.ptr 0 0),(1,.int .i64)],h:=xq,nx:=2 })]
abbrev wE:=TL Zh9.σs->Option (Out PX)
abbrev tz:=Kb 74 3 Zh9 2 PX
abbrev Fo:Lay:={ T:=[(8,.ptr 0 0),(21,.fz ar),(22,.int .i64),(23,.int .i64)],h:=xq,nx:=2 }
abbrev Fg:List (Ev.Ex×Lay):=[((.exit 0),{ T:=[(8,.ptr 0 0)],h:=xq,nx:=2 })]
abbrev abw:=TL Fo.σs->Option (Out Fg)
abbrev abx:=Ld 0 37 (bp [0] (aU Tryz.f74)) Fo Fg
def FH(t21:List (Sh.T ar))(t22 t23 aC aB:Int)(b1:List (Sh.T ar)):Option (TL Fo.σs⊕Out Fg):=
 br (iL t23 t22)
 (
  ah (aq t23 (List.length t21))<|
  some (.inl (t21,(t22,((IntKind.wrap .i64 (t23+(1:Int))),(aC,(aB,((@dR (.int .u64) (gt ar t21 t23).1 (gt ar t21 t23).2.1 b1),()))))))))
 (
  some (.inr (aC,(aB,(b1,())))))
def aog  :abx:=bu (u6 FH) (pL k0 e0 1 l0 fun d=>by kernel_rfl)
def Qz:abw:=aQ (u6 FH) NN
def Q0(F0:abu)(L5:abw)(t0 t1:Int)(t2:List (Sh.T ar)):Option (Out PX):=
 aj (F0 (t0,(t1,(t2,())))) fun x0=>
 br (Bool.not x0.1)
 (
  some (.inl ((14:Int),())))
 (
  aj (L5 (t2,((Int.ofNat (List.length t2)),((0:Int),(t0,(t1,([],()))))))) fun x1=>
  some (.inr ((0:Int),x1)))
def aoo(c0:Ny)(M5:abx):tz:=⟨u3 (Q0 c0.F M5.L),pB Tryz.func74 37 (kD c0 k0) e0 1 (sS (sC M5 l0)) fun d=>by kernel_rfl⟩
def wF:tz:=aoo abv aog
def xL:wE:=wF.F
abbrev Zjo:Lay:={ T:=[(0,.ptr 0 0),(1,.int .u64),(2,.int .u64)],h:=xq,nx:=2 }
abbrev Fq:List (Ev.Ex×Lay):=[(.ret,{ T:=[(0,.bool)],h:=xq,nx:=2 })]
abbrev Ln:=TL Zjo.σs->Option (Out Fq)
abbrev BI:=Kb 150 3 Zjo 1 Fq
def QK(F0:C6)(t1 t2 aC aB:Int)(b1:List (Sh.T ar)):Option (Out Fq):=
 aj (F0 (t1,(aC,()))) fun x0=>
 br (aV false true (Bool.not x0.1))
 (
  some (false,(aC,(aB,(b1,())))))
 (
  aj (F0 (t2,(aB,()))) fun x1=>
  br (aV false true (Bool.not x1.1))
  (
   some (false,(aC,(aB,(b1,())))))
  (
   br (iQ t2 (0:Int))
   (
    some (true,(aC,(aB,((@jT (.int .u64) t1 b1),())))))
   (
    some (true,(aC,(aB,((@dR (.int .u64) t1 t2 b1),())))))))
def amz(c0:wt) :BI:=⟨u5 (QK c0.F),pB Tryz.func150 42 (kD c0 k0) e0 1 (sS l0) fun d=>by kernel_rfl⟩
def Lo:BI:=amz C7
def Rb:Ln:=Lo.F
abbrev Zkg:Lay:={ T:=[(0,.agg ej),(1,.agg [.fz .bool,.fz (.sl ar)])],h:=[],nx:=0 }
abbrev Qt:List (Ev.Ex×Lay):=[(.ret,{ T:=[(0,.dw 0),(1,.int .i64)],h:=[(0,.dm 220)],nx:=1 })]
abbrev Du:=TL Zkg.σs->Option (Out Qt)
abbrev wB:=Kb 77 2 Zkg 2 Qt
abbrev Fl:Lay:={ T:=[(3,.ptr 0 0),(4,.dw 1),(27,.fz ab),(28,.int .i64),(29,.int .i64)],h:=[(0,.cells [.fz .bool,.fz (.sl ar)] 40),(1,.dm 220)],nx:=2 }
abbrev Fb:List (Ev.Ex×Lay):=[(.ret,{ T:=[(4,.bJ),(5,.int .i64)],h:=[],nx:=0 }),((.exit 0),{ T:=[(4,.dw 0)],h:=[(0,.dm 220)],nx:=1 })]
abbrev abq:=TL Fl.σs->Option (Out Fb)
abbrev Nx:=Ld 0 56 (bp [0] (aU Tryz.f77)) Fl Fb
def xU(F0:wE)(t27:List (Sh.T ab))(t28 t29:Int)(aC:List Bool)(aB:List (List (Sh.T ar)))(b1:List (Sh.T (.agg [(.int .i64),(.int .i64),(.sl ar)]))):Option (TL Fl.σs⊕Out Fb):=
 br (iL t29 t28)
 (
  ah (aq t29 (List.length t27))<|
  ah (aq t29 (List.length aB))<|
  aj (F0 ((gt ab t27 t29).1,((gt ab t27 t29).2.1,((gt (.sl ar) aB t29),())))) fun x0=>
  (match x0 with
  |.inl x1=>
   ah (Bool.not (iQ x1.1 (0:Int)))<|
   some (.inr (.inl (x1.1,())))
  |.inr x1=>
   br (Bool.not (iQ x1.1 (0:Int)))
   (
    some (.inr (.inl (x1.1,()))))
   (
    ah (room 8 (List.length (ap b1 ((nP x1.2.1 x1.2.2.1 x1.2.2.2.1)::[]))))<|
    some (.inl (t27,(t28,((IntKind.wrap .i64 (t29+(1:Int))),(aC,(aB,((ap b1 ((nP x1.2.1 x1.2.2.1 x1.2.2.2.1)::[])),()))))))))
  ))
 (
  some (.inr (.inr (b1,()))))
def aoc(c0:tz) :Nx:=bu (u6 (xU c0.F)) (pL (kB c0 k0) e0 1 l0 fun d=>by kernel_rfl)
def aob:Nx:=aoc wF
def Qy:abq:=aQ (u6 (xU xL)) NN
def QZ(F0:wE)(L4:abq)(dK:Int)(gB:List Int)(fV:List (Sh.T ae))(ig ij ik:List Int)(eO:List (Sh.T ab))(gO:List (Sh.T ae))(iM:List Bool)(gD:List (List (Sh.T ar))):Option (Out Qt):=
 br (Bool.not (iQ (Int.ofNat (List.length iM)) (Int.ofNat (List.length fV))))
 (
  some ((14:Int),([],())))
 (
  br (aV false true (Bool.not (iQ (Int.ofNat (List.length gD)) (Int.ofNat (List.length eO)))))
  (
   some ((14:Int),([],())))
  (
   aj (L4 (eO,((Int.ofNat (List.length eO)),((0:Int),(iM,(gD,([],()))))))) fun x0=>
   (match x0 with|.inl x1=>some (x1.1,([],()))|.inr x1=>some ((0:Int),(x1.1,()))
   )))
def aok(c0:tz)(M4:Nx):wB:=⟨jO (QZ c0.F M4.L),pB Tryz.func77 56 (kB c0 k0) e0 1 (sS (sC M4 l0)) fun d=>by kernel_rfl⟩
def Dv:wB:=aok wF aob
def Zq8:Du:=Dv.F
abbrev Zsj:List Sh:=[ba,cr]
abbrev QP:List Sh:=[(.int .i64)]
abbrev NJ:=TL Zsj->Option (TL QP)
abbrev Dk:=Kd 72 Zsj QP
def Zy5(F0:rm)(F1:Du)(a0:Sh.T ba)(a1:Sh.T cr):Option (TL QP):=
 aj (F0 (a0,())) fun x0=>
 br (Bool.not (iQ x0.1 (0:Int)))
 (
  some (x0.1,()))
 (
  aj (F1 (a0.1,(a0.2.1,(a0.2.2.1,(a0.2.2.2.1,(a0.2.2.2.2.1,(a0.2.2.2.2.2.1,(a0.2.2.2.2.2.2.1,(a0.2.2.2.2.2.2.2.1,a1))))))))) fun x1=>
  some (x1.1,()))
def aon(c0:pW)(c1:wB) :Dk:=⟨u2 (Zy5 c0.F c1.F),pD Tryz.func72 20 (kD c0 (kB c1 k0)) e0 1 (sS l0) fun d=>by kernel_rfl⟩
def NK:Dk:=aon rn Dv
def Zhp:NJ:=NK.F
abbrev E0:Lay:={ T:=[(3,.ptr 0 0),(40,.fz ab),(41,.int .i64),(42,.int .i64)],h:=[(0,.cells [.fz .bool,.fz (.sl ar)] 40)],nx:=1 }
abbrev ES:List (Ev.Ex×Lay):=[(.ret,xr),((.exit 2),ub)]
abbrev aak:=TL E0.σs->Option (Out ES)
abbrev aal:=Ld 0 60 (bp [1] (aU Tryz.f54)) E0 ES
abbrev Fe:Lay:={ T:=[(2,.ptr 0 0),(3,.ptr 1 0),(17,.fz ae),(18,.int .i64),(19,.int .i64)],h:=ua,nx:=2 }
abbrev EX:List (Ev.Ex×Lay):=[(.ret,xr),((.exit 0),{ T:=[(2,.ptr 0 0),(3,.ptr 1 0)],h:=ua,nx:=2 })]
abbrev abe:=TL Fe.σs->Option (Out EX)
abbrev abf:=Ld 0 60 (bp [0] (aU Tryz.f54)) Fe EX
def xQ(t17:List (Sh.T ae))(t18 t19 aC:Int)(aB:List Int)(aG:List (Sh.T ae))(aH aI aJ:List Int)(aw:List (Sh.T ab))(aE:List (Sh.T ae))(bO:List Bool)(bL:List (List (Sh.T ar))):Option (TL Fe.σs⊕Out EX):=
 br (iL t19 t18)
 (
  ah (aq t19 (List.length t17))<|
  br (Bool.not (iQ (gt ae t17 t19).2.2.1 (2:Int)))
  (
   ah (aq t19 (List.length bO))<|
   br (aV true (Bool.not (@decide _ (Bool.decEq (iQ (gt ae t17 t19).2.2.1 (1:Int)) (gt .bool bO t19)))) false)
   (
    some (.inr (.inl ((14:Int),()))))
   (
    some (.inl (t17,(t18,((IntKind.wrap .i64 (t19+(1:Int))),(aC,(aB,(aG,(aH,(aI,(aJ,(aw,(aE,(bO,(bL,()))))))))))))))))
  (
   some (.inl (t17,(t18,((IntKind.wrap .i64 (t19+(1:Int))),(aC,(aB,(aG,(aH,(aI,(aJ,(aw,(aE,(bO,(bL,()))))))))))))))))
 (
  some (.inr (.inr (aC,(aB,(aG,(aH,(aI,(aJ,(aw,(aE,(bO,(bL,())))))))))))))
def anQ  :abf:=bu (gZ xQ) (pL k0 e0 1 l0 fun d=>by kernel_rfl)
def Zlq:abe:=aQ (gZ xQ) NN
def xO(t40:List (Sh.T ab))(t41 t42:Int)(aC:List Bool)(aB:List (List (Sh.T ar))):Option (TL E0.σs⊕Out ES):=
 br (iL t42 t41)
 (
  ah (aq t42 (List.length t40))<|
  br (Bool.not (gt ab t40 t42).2.2.1)
  (
   ah (aq t42 (List.length aB))<|
   br (aV true (iL (0:Int) (Int.ofNat (List.length (gt (.sl ar) aB t42)))) false)
   (
    some (.inr (.inl ((14:Int),()))))
   (
    some (.inl (t40,(t41,((IntKind.wrap .i64 (t42+(1:Int))),(aC,(aB,()))))))))
  (
   some (.inl (t40,(t41,((IntKind.wrap .i64 (t42+(1:Int))),(aC,(aB,()))))))))
 (
  some (.inr (.inr ())))
def am3  :aal:=bu (u5 xO) (pL k0 e0 1 l0 fun d=>by kernel_rfl)
def Zku:aak:=aQ (u5 xO) NN
abbrev Zr9:List Sh:=[ba,cr]
abbrev QG:List Sh:=[(.int .i64)]
abbrev NS:=TL Zr9->Option (TL QG)
abbrev Dj:=Kd 54 Zr9 QG
def Zwg(F0:NJ)(L5:abe)(L11:aak)(a0:Sh.T ba)(a1:Sh.T cr):Option (TL QG):=
 aj (F0 (a0,(a1,()))) fun x0=>
 br (Bool.not (iQ x0.1 (0:Int)))
 (
  some (x0.1,()))
 (
  aj (L5 (a0.2.2.1,((Int.ofNat (List.length a0.2.2.1)),((0:Int),(a0.1,(a0.2.1,(a0.2.2.1,(a0.2.2.2.1,(a0.2.2.2.2.1,(a0.2.2.2.2.2.1,(a0.2.2.2.2.2.2.1,(a0.2.2.2.2.2.2.2.1,a1)))))))))))) fun x1=>
  (match x1 with
  |.inl x2=>some (x2.1,())|.inr x2=>
   aj (L11 (x2.2.2.2.2.2.2.1,((Int.ofNat (List.length x2.2.2.2.2.2.2.1)),((0:Int),x2.2.2.2.2.2.2.2.2)))) fun x3=>
   (match x3 with|.inl x4=>some (x4.1,())|.inr x4=>some ((0:Int),())
   )
  ))
def aoe(c0:Dk)(M5:abf)(M11:aal):Dj:=⟨u2 (Zwg c0.F M5.L M11.L),pD Tryz.func54 60 (kD c0 k0) e0 1 (sS (sC M5 (sC M11 l0))) fun d=>by kernel_rfl⟩
def NT:Dj:=aoe NK anQ am3
def QH:NS:=NT.F
abbrev Fm:Lay:={ T:=[(1,.ptr 0 0),(2,.ptr 1 0),(10,.fz ae),(11,.int .i64),(12,.int .i64)],h:=[(0,.cells ej 27),(1,.cells [.hd 2 .bool,.bJ] 40),(2,.arr .bool 4)],nx:=3 }
abbrev Fc:List (Ev.Ex×Lay):=[((.exit 0),{ T:=[(1,.ptr 0 0),(2,.ptr 1 0)],h:=[(0,.cells ej 27),(1,.cells [.hd 2 .bool,.bJ] 40),(2,.arr .bool 4)],nx:=3 })]
abbrev abr:=TL Fm.σs->Option (Out Fc)
abbrev abt:=Ld 0 31 (bp [0] (aU Tryz.f117)) Fm Fc
def FF(t10:List (Sh.T ae))(t11 t12 aC:Int)(aB:List Int)(aG:List (Sh.T ae))(aH aI aJ:List Int)(aw:List (Sh.T ab))(aE:List (Sh.T ae))(b2:List Bool):Option (TL Fm.σs⊕Out Fc):=
 br (iL t12 t11)
 (
  ah (aq t12 (List.length t10))<|
  ah (room 1 (List.length (ap b2 ((iQ (gt ae t10 t12).2.2.1 (1:Int))::[]))))<|
  some (.inl (t10,(t11,((IntKind.wrap .i64 (t12+(1:Int))),(aC,(aB,(aG,(aH,(aI,(aJ,(aw,(aE,((ap b2 ((iQ (gt ae t10 t12).2.2.1 (1:Int))::[])),()))))))))))))))
 (
  some (.inr (aC,(aB,(aG,(aH,(aI,(aJ,(aw,(aE,(b2,())))))))))))
def aod  :abt:=bu (iZ FF) (pL k0 e0 1 l0 fun d=>by kernel_rfl)
def Zmt:abr:=aQ (iZ FF) NN
abbrev Zsi:List Sh:=[ba]
abbrev QO:List Sh:=[cr]
abbrev abS:=TL Zsi->Option (TL QO)
abbrev NI:=Kd 117 Zsi QO
def Zy4(F0:rm)(L4:abr)(a0:Sh.T ba):Option (TL QO):=
 aj (F0 (a0,())) fun x0=>
 br (Bool.not (iQ x0.1 (0:Int)))
 (
  some (([],([],())),()))
 (
  aj (L4 (a0.2.2.1,((Int.ofNat (List.length a0.2.2.1)),((0:Int),(a0.1,(a0.2.1,(a0.2.2.1,(a0.2.2.2.1,(a0.2.2.2.2.1,(a0.2.2.2.2.2.1,(a0.2.2.2.2.2.2.1,(a0.2.2.2.2.2.2.2.1,([],()))))))))))))) fun x1=>
  ah (both (iE (0:Int) (Int.ofNat (List.length x1.2.2.2.2.2.2.1))) (both (iE (Int.ofNat (List.length x1.2.2.2.2.2.2.1)) (Int.ofNat (List.length x1.2.2.2.2.2.2.1))) (iE ((Int.ofNat 24)*(Int.ofNat (List.length x1.2.2.2.2.2.2.1))) (281474976710656:Int))))<|
  some ((x1.2.2.2.2.2.2.2.2.1,((List.replicate (Int.toNat (Int.ofNat (List.length x1.2.2.2.2.2.2.1))) (Sh.zero (.sl ar))),())),()))
def aol(c0:pW)(M4:abt):NI:=⟨u1 (Zy4 c0.F M4.L),pD Tryz.func117 31 (kD c0 k0) e0 1 (sS (sC M4 l0)) fun d=>by kernel_rfl⟩
def abT:NI:=aol rn aod
def Zqa:abS:=abT.F
abbrev Pz:Lay:={ T:=[(0,.int .u64),(1,.int .i64),(5,.int .i64)],h:=[],nx:=0 }
abbrev Pw:List (Ev.Ex×Lay):=[((.exit 0),{ T:=[(0,.int .u64)],h:=[],nx:=0 })]
abbrev YO:=TL Pz.σs->Option (Out Pw)
abbrev YP:=Ld 0 19 (bp [0] (aU Tryz.f127)) Pz Pw
def Fh(t0 t1 t5:Int):Option (TL Pz.σs⊕Out Pw):=
 br (iL t5 t1)
 (
  br (aV true (iL t5 (64:Int)) false)
  (
   some (.inl ((IntKind.wrap .u64 (Int.tdiv t0 (2:Int))),(t1,((IntKind.wrap .i64 (t5+(1:Int))),())))))
  (
   some (.inr (t0,()))))
 (
  some (.inr (t0,())))
def alL  :YP:=bu (u3 Fh) (pL k0 e0 1 l0 fun d=>by kernel_rfl)
def Zf0:YO:=aQ (u3 Fh) NN
abbrev Ziy:List Sh:=[(.int .u64),(.int .i64)]
abbrev xG:List Sh:=[.bool]
abbrev ri:=TL Ziy->Option (TL xG)
abbrev pU:=Kd 127 Ziy xG
def Zm0(L2:YO)(a0 a1:Int):Option (TL xG):=
 aj (L2 (a0,(a1,((0:Int),())))) fun x0=>
 some ((iQ x0.1 (0:Int)),())
def alW(M2:YP):pU:=⟨u2 (Zm0 M2.L),pD Tryz.func127 19 k0 e0 1 (sS (sC M2 l0)) fun d=>by kernel_rfl⟩
def rj:pU:=alW  alL
def rM:ri:=rj.F
abbrev EJ:Lay:={ T:=[(0,.int .i64),(1,.int .i64),(2,.fz ar),(7,.int .i64)],h:=[],nx:=0 }
abbrev EC:List (Ev.Ex×Lay):=[(.ret,{ T:=[(6,.bool)],h:=[],nx:=0 }),((.exit 0),ub)]
abbrev YF:=TL EJ.σs->Option (Out EC)
abbrev Kp:=Ld 0 77 (bp [0] (aU Tryz.f65)) EJ EC
def xD(F0:ri)(t0 t1:Int)(t2:List (Sh.T ar))(t7:Int):Option (TL EJ.σs⊕Out EC):=
 br (iL t7 (Int.ofNat (List.length t2)))
 (
  br (iL (0:Int) t7)
  (
   ah (aq t7 (List.length t2))<|
   ah (aq (IntKind.wrap .i64 (t7-(1:Int))) (List.length t2))<|
   br (aV true (iE (gt ar t2 t7).1 (gt ar t2 (IntKind.wrap .i64 (t7-(1:Int)))).1) false)
   (
    some (.inr (.inl (false,()))))
   (
    ah (aq t7 (List.length t2))<|
    aj (F0 ((gt ar t2 t7).1,(t0,()))) fun x0=>
    br (aV false true (Bool.not x0.1))
    (
     some (.inr (.inl (false,()))))
    (
     ah (aq t7 (List.length t2))<|
     aj (F0 ((gt ar t2 t7).2.1,(t1,()))) fun x1=>
     br (aV false true (Bool.not x1.1))
     (
      some (.inr (.inl (false,()))))
     (
      ah (aq t7 (List.length t2))<|
      br (aV false true (iQ (gt ar t2 t7).2.1 (0:Int)))
      (
       some (.inr (.inl (false,()))))
      (
       some (.inl (t0,(t1,(t2,((IntKind.wrap .i64 (t7+(1:Int))),()))))))))))
  (
   ah (aq t7 (List.length t2))<|
   aj (F0 ((gt ar t2 t7).1,(t0,()))) fun x0=>
   br (aV false true (Bool.not x0.1))
   (
    some (.inr (.inl (false,()))))
   (
    ah (aq t7 (List.length t2))<|
    aj (F0 ((gt ar t2 t7).2.1,(t1,()))) fun x1=>
    br (aV false true (Bool.not x1.1))
    (
     some (.inr (.inl (false,()))))
    (
     ah (aq t7 (List.length t2))<|
     br (aV false true (iQ (gt ar t2 t7).2.1 (0:Int)))
     (
      some (.inr (.inl (false,()))))
     (
      some (.inl (t0,(t1,(t2,((IntKind.wrap .i64 (t7+(1:Int))),()))))))))))
 (
  some (.inr (.inr ())))
def alB(c0:pU) :Kp:=bu (u4 (xD c0.F)) (pL (kD c0 k0) e0 1 l0 fun d=>by kernel_rfl)
def alA:Kp:=alB rj
def PR:YF:=aQ (u4 (xD rM)) NN
abbrev Zih:List Sh:=[(.int .i64),(.int .i64),(.sl ar)]
abbrev P5:List Sh:=[.bool]
abbrev Kw:=TL Zih->Option (TL P5)
abbrev AP:=Kd 65 Zih P5
def Qg(F0:ri)(L4:YF)(a0 a1:Int)(a2:List (Sh.T ar)):Option (TL P5):=
 br (iL a0 (1:Int))
 (
  some (false,()))
 (
  br (aV false true (iL (62:Int) a0))
  (
   some (false,()))
  (
   br (aV false true (iL a1 (1:Int)))
   (
    some (false,()))
   (
    br (aV false true (iL (64:Int) a1))
    (
     some (false,()))
    (
     br (aV false true (iL (4096:Int) (Int.ofNat (List.length a2))))
     (
      some (false,()))
     (
      aj (L4 (a0,(a1,(a2,((0:Int),()))))) fun x0=>
      (match x0 with|.inl x1=>some (x1.1,())|.inr x1=>some (true,())
      ))))))
def alK(c0:pU)(M4:Kp):AP:=⟨u3 (Qg c0.F M4.L),pD Tryz.func65 77 (kD c0 k0) e0 1 (sS (sC M4 l0)) fun d=>by kernel_rfl⟩
def Kx:AP:=alK rj alA
def Zdq:Kw:=Kx.F
abbrev EO:Lay:={ T:=[(2,.ptr 0 0),(3,.ptr 1 0),(6,.int .i64)],h:=ua,nx:=2 }
abbrev EI:List (Ev.Ex×Lay):=[(.ret,xr),((.exit 0),ub)]
abbrev YN:=TL EO.σs->Option (Out EI)
abbrev Kv:=Ld 0 54 (bp [0] (aU Tryz.f26)) EO EI
def xF(F0:Kw)(t6 aC:Int)(aB:List Int)(aG:List (Sh.T ae))(aH aI aJ:List Int)(aw:List (Sh.T ab))(aE:List (Sh.T ae))(bO:List Bool)(bL:List (List (Sh.T ar))):Option (TL EO.σs⊕Out EI):=
 br (iL t6 (Int.ofNat (List.length aw)))
 (
  ah (aq t6 (List.length aw))<|
  ah (aq t6 (List.length aw))<|
  ah (aq t6 (List.length bL))<|
  aj (F0 ((gt ab aw t6).1,((gt ab aw t6).2.1,((gt (.sl ar) bL t6),())))) fun x0=>
  br (Bool.not x0.1)
  (
   some (.inr (.inl ((14:Int),()))))
  (
   some (.inl ((IntKind.wrap .i64 (t6+(1:Int))),(aC,(aB,(aG,(aH,(aI,(aJ,(aw,(aE,(bO,(bL,()))))))))))))))
 (
  some (.inr (.inr ())))
def alJ(c0:AP) :Kv:=bu (jl (xF c0.F)) (pL (kD c0 k0) e0 1 l0 fun d=>by kernel_rfl)
def alI:Kv:=alJ Kx
def Zew:YN:=aQ (jl (xF Zdq)) NN
abbrev Ziv:List Sh:=[ba,cr]
abbrev Qf:List Sh:=[(.int .i64)]
abbrev Lc:=TL Ziv->Option (TL Qf)
abbrev Bo:=Kd 26 Ziv Qf
def Zlx(F0:Kw)(F1:wc)(L7:YN)(a0:Sh.T ba)(a1:Sh.T cr):Option (TL Qf):=
 aj (F1 (a0,())) fun x0=>
 br (Bool.not (iQ x0.1 (0:Int)))
 (
  some (x0.1,()))
 (
  br (Bool.not (iQ (Int.ofNat (List.length a1.1)) (Int.ofNat (List.length a0.2.2.1))))
  (
   some ((14:Int),()))
  (
   br (aV false true (Bool.not (iQ (Int.ofNat (List.length a1.2.1)) (Int.ofNat (List.length a0.2.2.2.2.2.2.1)))))
   (
    some ((14:Int),()))
   (
    aj (L7 ((0:Int),(a0.1,(a0.2.1,(a0.2.2.1,(a0.2.2.2.1,(a0.2.2.2.2.1,(a0.2.2.2.2.2.1,(a0.2.2.2.2.2.2.1,(a0.2.2.2.2.2.2.2.1,a1)))))))))) fun x1=>
    (match x1 with|.inl x2=>some (x2.1,())|.inr x2=>some ((0:Int),())
    ))))
def alV(c0:AP)(c1:tg)(M7:Kv):Bo:=⟨u2 (Zlx c0.F c1.F M7.L),pD Tryz.func26 54 (kD c0 (kD c1 k0)) e0 1 (sS (sC M7 l0)) fun d=>by kernel_rfl⟩
def Le:Bo:=alV Kx we alI
def Zbn:Lc:=Le.F
abbrev EB:Lay:={ T:=[(2,.ptr 0 0),(3,.ptr 1 0),(7,.int .i64)],h:=ua,nx:=2 }
abbrev Eu:List (Ev.Ex×Lay):=[(.ret,xr),((.exit 2),ub)]
abbrev Yz:=TL EB.σs->Option (Out Eu)
abbrev YA:=Ld 0 75 (bp [1] (aU Tryz.f22)) EB Eu
abbrev EH:Lay:={ T:=[(2,.ptr 0 0),(3,.ptr 1 0),(6,.int .i64)],h:=ua,nx:=2 }
abbrev EA:List (Ev.Ex×Lay):=[(.ret,xr),((.exit 0),{ T:=[(2,.ptr 0 0),(3,.ptr 1 0)],h:=ua,nx:=2 })]
abbrev YD:=TL EH.σs->Option (Out EA)
abbrev YE:=Ld 0 75 (bp [0] (aU Tryz.f22)) EH EA
def xC(t6 aC:Int)(aB:List Int)(aG:List (Sh.T ae))(aH aI aJ:List Int)(aw:List (Sh.T ab))(aE:List (Sh.T ae))(bO:List Bool)(bL:List (List (Sh.T ar))):Option (TL EH.σs⊕Out EA):=
 br (iL t6 (Int.ofNat (List.length aG)))
 (
  ah (aq t6 (List.length aG))<|
  br (iQ (gt ae aG t6).2.2.1 (0:Int))
  (
   ah (aq t6 (List.length bO))<|
   br (aV true (gt .bool bO t6) false)
   (
    some (.inr (.inl ((14:Int),()))))
   (
    ah (aq t6 (List.length aG))<|
    br (iQ (gt ae aG t6).2.2.1 (1:Int))
    (
     ah (aq t6 (List.length bO))<|
     br (aV false true (aV true (Bool.not (gt .bool bO t6)) false))
     (
      some (.inr (.inl ((14:Int),()))))
     (
      some (.inl ((IntKind.wrap .i64 (t6+(1:Int))),(aC,(aB,(aG,(aH,(aI,(aJ,(aw,(aE,(bO,(bL,()))))))))))))))
    (
     some (.inl ((IntKind.wrap .i64 (t6+(1:Int))),(aC,(aB,(aG,(aH,(aI,(aJ,(aw,(aE,(bO,(bL,())))))))))))))))
  (
   ah (aq t6 (List.length aG))<|
   br (iQ (gt ae aG t6).2.2.1 (1:Int))
   (
    ah (aq t6 (List.length bO))<|
    br (aV false true (aV true (Bool.not (gt .bool bO t6)) false))
    (
     some (.inr (.inl ((14:Int),()))))
    (
     some (.inl ((IntKind.wrap .i64 (t6+(1:Int))),(aC,(aB,(aG,(aH,(aI,(aJ,(aw,(aE,(bO,(bL,()))))))))))))))
   (
    some (.inl ((IntKind.wrap .i64 (t6+(1:Int))),(aC,(aB,(aG,(aH,(aI,(aJ,(aw,(aE,(bO,(bL,())))))))))))))))
 (
  some (.inr (.inr (aC,(aB,(aG,(aH,(aI,(aJ,(aw,(aE,(bO,(bL,())))))))))))))
def alz  :YE:=bu (jl xC) (pL k0 e0 1 l0 fun d=>by kernel_rfl)
def Zec:YD:=aQ (jl xC) NN
def xz(t7 aC:Int)(aB:List Int)(aG:List (Sh.T ae))(aH aI aJ:List Int)(aw:List (Sh.T ab))(aE:List (Sh.T ae))(bO:List Bool)(bL:List (List (Sh.T ar))):Option (TL EB.σs⊕Out Eu):=
 br (iL t7 (Int.ofNat (List.length aw)))
 (
  ah (aq t7 (List.length aw))<|
  br (Bool.not (gt ab aw t7).2.2.1)
  (
   ah (aq t7 (List.length bL))<|
   br (aV true (iL (0:Int) (Int.ofNat (List.length (gt (.sl ar) bL t7)))) false)
   (
    some (.inr (.inl ((14:Int),()))))
   (
    some (.inl ((IntKind.wrap .i64 (t7+(1:Int))),(aC,(aB,(aG,(aH,(aI,(aJ,(aw,(aE,(bO,(bL,()))))))))))))))
  (
   some (.inl ((IntKind.wrap .i64 (t7+(1:Int))),(aC,(aB,(aG,(aH,(aI,(aJ,(aw,(aE,(bO,(bL,()))))))))))))))
 (
  some (.inr (.inr ())))
def alx  :YA:=bu (jl xz) (pL k0 e0 1 l0 fun d=>by kernel_rfl)
def Ze4:Yz:=aQ (jl xz) NN
abbrev Zig:List Sh:=[ba,cr]
abbrev P3:List Sh:=[(.int .i64)]
abbrev Lk:=TL Zig->Option (TL P3)
abbrev Br:=Kd 22 Zig P3
def Zl5(F0:Lc)(L5:YD)(L10:Yz)(a0:Sh.T ba)(a1:Sh.T cr):Option (TL P3):=
 aj (F0 (a0,(a1,()))) fun x0=>
 br (Bool.not (iQ x0.1 (0:Int)))
 (
  some (x0.1,()))
 (
  aj (L5 ((0:Int),(a0.1,(a0.2.1,(a0.2.2.1,(a0.2.2.2.1,(a0.2.2.2.2.1,(a0.2.2.2.2.2.1,(a0.2.2.2.2.2.2.1,(a0.2.2.2.2.2.2.2.1,a1)))))))))) fun x1=>
  (match x1 with
  |.inl x2=>some (x2.1,())|.inr x2=>
   aj (L10 ((0:Int),x2)) fun x3=>
   (match x3 with|.inl x4=>some (x4.1,())|.inr x4=>some ((0:Int),())
   )
  ))
def alH(c0:Bo)(M5:YE)(M10:YA):Br:=⟨u2 (Zl5 c0.F M5.L M10.L),pD Tryz.func22 75 (kD c0 k0) e0 1 (sS (sC M5 (sC M10 l0))) fun d=>by kernel_rfl⟩
def Ll:Br:=alH Le alz alx
def P4:Lk:=Ll.F
abbrev EM:Lay:={ T:=[(1,.ptr 0 0),(3,.int .i64)],h:=[(0,.cells ej 27)],nx:=1 }
abbrev EF:List (Ev.Ex×Lay):=[(.ret,{ T:=[(2,.bool)],h:=[],nx:=0 }),((.exit 0),ub)]
abbrev YG:=TL EM.σs->Option (Out EF)
abbrev Kq:=Ld 0 132 (bp [0] (aU Tryz.f50)) EM EF
abbrev Ep:Lay:={ T:=[(1,.ptr 0 0),(3,.int .i64),(4,.ptr 1 0),(6,.int .i64)],h:=Pf,nx:=2 }
abbrev El:List (Ev.Ex×Lay):=[(.ret,{ T:=[(2,.bool)],h:=[],nx:=0 }),((.exit 4),{ T:=[(1,.ptr 0 0),(3,.int .i64)],h:=[(0,.cells ej 27)],nx:=1 })]
abbrev Kj:=TL Ep.σs->Option (Out El)
abbrev Kl:=Ld 0 132 (bp [0,1] (aU Tryz.f50)) Ep El
abbrev Er:Lay:={ T:=[(1,.ptr 0 0),(3,.int .i64),(4,.ptr 1 0),(5,.int .i64)],h:=Pf,nx:=2 }
abbrev Em:List (Ev.Ex×Lay):=[(.ret,{ T:=[(2,.bool)],h:=[],nx:=0 }),((.exit 2),{ T:=[(1,.ptr 0 0),(3,.int .i64),(4,.ptr 1 0)],h:=Pf,nx:=2 })]
abbrev Kk:=TL Er.σs->Option (Out Em)
abbrev Km:=Ld 0 132 (bp [0,0] (aU Tryz.f50)) Er Em
def xB(t3 t5 aC:Int)(aB:List Int)(aG:List (Sh.T ae))(aH aI aJ:List Int)(aw:List (Sh.T ab))(aE:List (Sh.T ae))(bO bL:Int)(fj:Bool)(eY:List (Sh.T cj))(fw:List (Sh.T bI)):Option (TL Er.σs⊕Out Em):=
 br (iL t5 (Int.ofNat (List.length eY)))
 (
  ah (aq t5 (List.length eY))<|
  br (iL (100:Int) (Int.ofNat (List.length (gt cj eY t5).2.1)))
  (
   some (.inr (.inl (false,()))))
  (
   ah (aq t5 (List.length eY))<|
   br (aV false true (iL (1099511627776:Int) (gt cj eY t5).1))
   (
    some (.inr (.inl (false,()))))
   (
    ah (aq t5 (List.length eY))<|
    br (aV false true (iL (gt cj eY t5).1 (Int.negSucc 1099511627775)))
    (
     some (.inr (.inl (false,()))))
    (
     some (.inl (t3,((IntKind.wrap .i64 (t5+(1:Int))),(aC,(aB,(aG,(aH,(aI,(aJ,(aw,(aE,(bO,(bL,(fj,(eY,(fw,()))))))))))))))))))))
 (
  some (.inr (.inr (t3,(aC,(aB,(aG,(aH,(aI,(aJ,(aw,(aE,(bO,(bL,(fj,(eY,(fw,())))))))))))))))))
def YC  :Km:=bu (fg xB) (pL k0 e0 1 l0 fun d=>by kernel_rfl)
def PD:Kk:=aQ (fg xB) NN
def xA(t3 t6 aC:Int)(aB:List Int)(aG:List (Sh.T ae))(aH aI aJ:List Int)(aw:List (Sh.T ab))(aE:List (Sh.T ae))(bO bL:Int)(fj:Bool)(eY:List (Sh.T cj))(fw:List (Sh.T bI)):Option (TL Ep.σs⊕Out El):=
 br (iL t6 (Int.ofNat (List.length fw)))
 (
  ah (aq t6 (List.length fw))<|
  br (iL (100:Int) (Int.ofNat (List.length (gt bI fw t6).2.1)))
  (
   some (.inr (.inl (false,()))))
  (
   ah (aq t6 (List.length fw))<|
   br (aV false true (iL (100:Int) (Int.ofNat (List.length (gt bI fw t6).2.2.1))))
   (
    some (.inr (.inl (false,()))))
   (
    some (.inl (t3,((IntKind.wrap .i64 (t6+(1:Int))),(aC,(aB,(aG,(aH,(aI,(aJ,(aw,(aE,(bO,(bL,(fj,(eY,(fw,())))))))))))))))))))
 (
  some (.inr (.inr (t3,(aC,(aB,(aG,(aH,(aI,(aJ,(aw,(aE,()))))))))))))
def YB  :Kl:=bu (fg xA) (pL k0 e0 1 l0 fun d=>by kernel_rfl)
def PC:Kj:=aQ (fg xA) NN
def xE(L10:Kk)(L15:Kj)(t3 aC:Int)(aB:List Int)(aG:List (Sh.T ae))(aH aI aJ:List Int)(aw:List (Sh.T ab))(aE:List (Sh.T ae)):Option (TL EM.σs⊕Out EF):=
 br (iL t3 (Int.ofNat (List.length aw)))
 (
  ah (aq t3 (List.length aw))<|
  br (iL (6:Int) (Int.ofNat (List.length (gt ab aw t3).2.2.2.1)))
  (
   some (.inr (.inl (false,()))))
  (
   br (aV false true (iL (6:Int) (Int.ofNat (List.length (gt ab aw t3).2.2.2.2.1))))
   (
    some (.inr (.inl (false,()))))
   (
    br (aV false true (iL (100:Int) (gt ab aw t3).2.1))
    (
     some (.inr (.inl (false,()))))
    (
     aj (L10 (t3,((0:Int),(aC,(aB,(aG,(aH,(aI,(aJ,(aw,(aE,((gt ab aw t3).1,((gt ab aw t3).2.1,((gt ab aw t3).2.2.1,((gt ab aw t3).2.2.2.1,((gt ab aw t3).2.2.2.2.1,())))))))))))))))) fun x0=>
     (match x0 with
     |.inl x1=>some (.inr (.inl (x1.1,())))|.inr x1=>
      aj (L15 (x1.1,((0:Int),x1.2))) fun x2=>
      (match x2 with|.inl x3=>some (.inr (.inl (x3.1,())))|.inr x3=>some (.inl ((IntKind.wrap .i64 (@HAdd.hAdd (Int) (Int) (Int) _ x3.1 (1:Int))),x3.2))
      )
     )))))
 (
  some (.inr (.inr ())))
def alD(M10:Km)(M15:Kl):Kq:=bu (u9 (xE M10.L M15.L)) (pL k0 e0 1 (sC M10 (sC M15 l0)) fun d=>by kernel_rfl)
def alC:Kq:=alD  YC YB
def Zen:YG:=aQ (u9 (xE PD PC)) NN
abbrev Ziq:List Sh:=[ba]
abbrev Qb:List Sh:=[.bool]
abbrev YS:=TL Ziq->Option (TL Qb)
abbrev Kz:=Kd 50 Ziq Qb
def Zlb(L4:YG)(L10:Kk)(L15:Kj)(a0:Sh.T ba):Option (TL Qb):=
 br (iL (2100:Int) (Int.ofNat (List.length a0.2.1)))
 (
  some (false,()))
 (
  br (aV false true (iL (2100:Int) (Int.ofNat (List.length a0.2.2.1))))
  (
   some (false,()))
  (
   br (aV false true (iL (2100:Int) (Int.ofNat (List.length a0.2.2.2.2.2.2.2.1))))
   (
    some (false,()))
   (
    br (aV false true (iL (1100:Int) (Int.ofNat (List.length a0.2.2.2.1))))
    (
     some (false,()))
    (
     br (aV false true (iL (1100:Int) (Int.ofNat (List.length a0.2.2.2.2.1))))
     (
      some (false,()))
     (
      br (aV false true (iL (1100:Int) (Int.ofNat (List.length a0.2.2.2.2.2.1))))
      (
       some (false,()))
      (
       br (aV false true (iL (6:Int) (Int.ofNat (List.length a0.2.2.2.2.2.2.1))))
       (
        some (false,()))
       (
        aj (L4 ((0:Int),a0)) fun x0=>
        (match x0 with|.inl x1=>some (x1.1,())|.inr x1=>some (true,())
        ))))))))
def alN(M4:Kq)(M10:Km)(M15:Kl):Kz:=⟨u1 (Zlb M4.L M10.L M15.L),pD Tryz.func50 132 k0 e0 1 (sS (sC M4 l0)) fun d=>by kernel_rfl⟩
def YT:Kz:=alN  alC YC YB
def PS:YS:=YT.F
abbrev Zio:List Sh:=[ba]
abbrev Qa:List Sh:=[.bool]
abbrev YQ:=TL Zio->Option (TL Qa)
abbrev Ky:=Kd 13 Zio Qa
def Zla(F0:YS)(a0:Sh.T ba):Option (TL Qa):=
 aj (F0 (a0,())) fun x0=>
 br x0.1
 (
  br (aV true (iE (Int.ofNat (List.length a0.2.2.2.2.2.2.2.1)) (100:Int)) false)
  (
   br (aV true (iE (Int.ofNat (List.length a0.2.1)) (100:Int)) false)
   (
    br (aV true (iE (Int.ofNat (List.length a0.2.2.1)) (100:Int)) false)
    (
     some ((aV true (iE (IntKind.wrap .i64 ((IntKind.wrap .i64 ((Int.ofNat (List.length a0.2.2.2.1))+(Int.ofNat (List.length a0.2.2.2.2.1))))+(Int.ofNat (List.length a0.2.2.2.2.2.1)))) (100:Int)) false),()))
    (
     some (false,())))
   (
    some (false,())))
  (
   some (false,())))
 (
  some (false,()))
def alM(c0:Kz) :Ky:=⟨u1 (Zla c0.F),pD Tryz.func13 37 (kD c0 k0) e0 1 (sS l0) fun d=>by kernel_rfl⟩
def YR:Ky:=alM YT
def Zcw:YQ:=YR.F
