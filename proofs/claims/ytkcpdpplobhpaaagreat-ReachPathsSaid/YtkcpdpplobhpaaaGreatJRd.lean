import Derived.Test.YtkcpdpplobhpaaaGreatJRc
set_option linter.unusedVariables false
set_option linter.unusedSimpArgs false
set_option linter.unnecessarySimpa false
section
namespace Go.Proofs.YtkcpdpplobhpaaaGreat.V
open Go Go.RowKit
set_option maxRecDepth 1000000
abbrev Qg:List Sh:=[ab]
abbrev yh:List Sh:=[(.int .i64)]
abbrev Fx:=TL Qg->Option (TL yh)
abbrev yn:=Kd 186 Qg yh
def Fv(a0:Sh.T ab):Option (TL yh):=
 br (iE (10:Int) a0.1)
 (
  some ((1000:Int),()))
 (
  ai (iE (0:Int) a0.1)<|
  some ((IntKind.wrap .i64 (@HMul.hMul (Int) (Int) (Int) _ a0.2.1 (HPow.hPow (2:Int) (Min.min (Int.toNat a0.1) 64)))),()))
def abD  :yn:=⟨u1 Fv,pD Tryz.func186 11 k0 e0 1 (sS l0) fun d=>by kernel_rfl⟩
def Fw:yn:=abD
def Fj:Fx:=Fw.F
abbrev P8:List Sh:=[ab]
abbrev E9:List Sh:=[(.int .i64)]
abbrev Qi:=TL P8->Option (TL E9)
abbrev yi:=Kd 130 P8 E9
def abt(a0:Sh.T ab):Option (TL E9):=some ((IntKind.wrap .i64 ((Int.ofNat (List.length a0.2.2.2.1))+(Int.ofNat (List.length a0.2.2.2.2.1)))),())
def abu  :yi:=⟨u1 abt,pD Tryz.func130 10 k0 e0 1 (sS l0) fun d=>by kernel_rfl⟩
def Qh:yi:=abu
abbrev Qq:Lay:={ T:=[(0,.agg fq),(1,.func 186 [] [])],h:=[],nx:=0 }
abbrev Fk:List (Ev.Ex×Lay):=[(.ret,{ T:=[(0,.int .i64)],h:=[],nx:=0 })]
abbrev QD:=TL Qq.σs->Option (Out Fk)
abbrev FF:=Kb 129 2 Qq 1 Fk
abbrev ue:Lay:={ T:=[(1,.func 186 [] []),(4,.int .i64),(8,.fz ab),(9,.int .i64),(10,.int .i64)],h:=[],nx:=0 }
abbrev uc:List (Ev.Ex×Lay):=[((.exit 0),{ T:=[(4,.int .i64)],h:=[],nx:=0 })]
abbrev Qy:=TL ue.σs->Option (Out uc)
abbrev FB:=Ld 0 21 (bu [0] (aW Tryz.f129)) ue uc
def Qw(F0:Fx)(t4:Int)(t8:List (Sh.T ab))(t9 t10:Int):Option (TL ue.σs⊕Out uc):=
 br (iL t10 t9)
 (
  ai (aw t10 (List.length t8))<|
  ar (F0 (((gt ab t8 t10).1,((gt ab t8 t10).2.1,((gt ab t8 t10).2.2.1,((gt ab t8 t10).2.2.2.1,((gt ab t8 t10).2.2.2.2.1,()))))),())) fun x0=>
  some (.inl ((IntKind.wrap .i64 (@HAdd.hAdd (Int) (Int) (Int) _ t4 x0.1)),(t8,(t9,((IntKind.wrap .i64 (t10+(1:Int))),()))))))
 (
  some (.inr (t4,())))
def abK(c0:yn) :FB:=bB (u4 (Qw c0.F)) (pL (kD c0 k0) e0 1 l0 fun d=>by kernel_rfl)
def abL:FB:=abK Fw
def Qx:Qy:=aR (u4 (Qw Fj)) NN
def abW(F0:Fx)(L2:Qy)(dr:Int)(fR:List Int)(fx:List (Sh.T ae))(gC gD gF:List Int)(dU:List (Sh.T ab))(gm:List (Sh.T ae)):Option (Out Fk):=
 ar (L2 ((0:Int),(dU,((Int.ofNat (List.length dU)),((0:Int),()))))) fun x0=>
 some (x0.1,())
def abX(c0:yn)(M2:FB):FF:=⟨u8 (abW c0.F M2.L),pB Tryz.func129 21 (kD c0 k0) e0 1 (sS (sC M2 l0)) fun d=>by kernel_rfl⟩
def QC:FF:=abX Fw abL
def abJ:QD:=QC.F
abbrev Qr:Lay:={ T:=[(0,.agg fq),(1,.func 130 [] [])],h:=[],nx:=0 }
abbrev Fm:List (Ev.Ex×Lay):=[(.ret,{ T:=[(0,.int .i64)],h:=[],nx:=0 })]
abbrev ab1:=TL Qr.σs->Option (Out Fm)
abbrev FG:=Kb 129 2 Qr 1 Fm
abbrev Fl:Lay:={ T:=[(1,.func 130 [] []),(4,.int .i64),(8,.fz ab),(9,.int .i64),(10,.int .i64)],h:=[],nx:=0 }
abbrev Fa:List (Ev.Ex×Lay):=[((.exit 0),{ T:=[(4,.int .i64)],h:=[],nx:=0 })]
abbrev abP:=TL Fl.σs->Option (Out Fa)
abbrev FC:=Ld 0 21 (bu [0] (aW Tryz.f129)) Fl Fa
def abM(F0:Qi)(t4:Int)(t8:List (Sh.T ab))(t9 t10:Int):Option (TL Fl.σs⊕Out Fa):=
 br (iL t10 t9)
 (
  ai (aw t10 (List.length t8))<|
  ar (F0 (((gt ab t8 t10).1,((gt ab t8 t10).2.1,((gt ab t8 t10).2.2.1,((gt ab t8 t10).2.2.2.1,((gt ab t8 t10).2.2.2.2.1,()))))),())) fun x0=>
  some (.inl ((IntKind.wrap .i64 (@HAdd.hAdd (Int) (Int) (Int) _ t4 x0.1)),(t8,(t9,((IntKind.wrap .i64 (t10+(1:Int))),()))))))
 (
  some (.inr (t4,())))
def abN(c0:yi) :FC:=bB (u4 (abM c0.F)) (pL (kD c0 k0) e0 1 l0 fun d=>by kernel_rfl)
def abO:FC:=abN Qh
def abY(F0:Qi)(L2:abP)(dr:Int)(fR:List Int)(fx:List (Sh.T ae))(gC gD gF:List Int)(dU:List (Sh.T ab))(gm:List (Sh.T ae)):Option (Out Fm):=
 ar (L2 ((0:Int),(dU,((Int.ofNat (List.length dU)),((0:Int),()))))) fun x0=>
 some (x0.1,())
def abZ(c0:yi)(M2:FC):FG:=⟨u8 (abY c0.F M2.L),pB Tryz.func129 21 (kD c0 k0) e0 1 (sS (sC M2 l0)) fun d=>by kernel_rfl⟩
def ab0:FG:=abZ Qh abO
abbrev Qv:List Sh:=[bg]
abbrev yp:List Sh:=[(.int .i64)]
abbrev QB:=TL Qv->Option (TL yp)
abbrev FE:=Kd 114 Qv yp
def abU(F0:ab1)(F1:QD)(a0:Sh.T bg):Option (TL yp):=
 ar (F1 a0) fun x0=>
 some ((cQ (iL (1000:Int) (IntKind.wrap .i64 (@HAdd.hAdd (Int) (Int) (Int) _ (Int.ofNat (List.length a0.2.2.1)) x0.1))) (1000:Int) (IntKind.wrap .i64 (@HAdd.hAdd (Int) (Int) (Int) _ (Int.ofNat (List.length a0.2.2.1)) x0.1))),())
def abV(c0:FG)(c1:FF) :FE:=⟨u1 (abU c0.F c1.F),pD Tryz.func114 12 (kB c0 (kB c1 k0)) e0 1 (sS l0) fun d=>by kernel_rfl⟩
def QA:FE:=abV ab0 QC
def abI:QB:=QA.F
abbrev PV:List Sh:=[bg]
abbrev yb:List Sh:=[(.int .i64)]
abbrev rl:=TL PV->Option (TL yb)
abbrev pK:=Kd 52 PV yb
def abc(F0:QB)(F1:qi)(a0:Sh.T bg):Option (TL yb):=
 ar (F1 (a0,())) fun x0=>
 br (Bool.not (iQ x0.1 (0:Int)))
 (
  some ((0:Int),()))
 (
  ar (F0 (((0:Int),([],([],([],([],([],(a0.2.2.2.2.2.2.1,([],())))))))),())) fun x1=>
  some ((cQ (iL (1000:Int) x1.1) (1000:Int) x1.1),()))
def abd(c0:FE)(c1:oT) :pK:=⟨u1 (abc c0.F c1.F),pD Tryz.func52 11 (kD c0 (kD c1 k0)) e0 1 (sS l0) fun d=>by kernel_rfl⟩
def rj:pK:=abd QA qj
def aa6:rl:=rj.F
abbrev ye:Lay:={ T:=[(2,.int .u64),(9,.fz .bool),(10,.int .i64),(11,.int .i64)],h:=[],nx:=0 }
abbrev x9:List (Ev.Ex×Lay):=[((.exit 0),{ T:=[(2,.int .u64)],h:=[],nx:=0 })]
abbrev Qo:=TL ye.σs->Option (Out x9)
abbrev Qn:=Ld 0 23 (bu [0] (aW Tryz.f76)) ye x9
def Qm(t2:Int)(t9:List Bool)(t10 t11:Int):Option (TL ye.σs⊕Out x9):=
 br (iL t11 t10)
 (
  ai (aw t11 (List.length t9))<|
  br (gt .bool t9 t11)
  (
   ai (iE (0:Int) t11)<|
   some (.inl ((sE .u64 t2 (IntKind.wrap .u64 ((1:Int)*(HPow.hPow (2:Int) (Min.min (Int.toNat t11) 64))))),(t9,(t10,((IntKind.wrap .i64 (t11+(1:Int))),()))))))
  (
   some (.inl (t2,(t9,(t10,((IntKind.wrap .i64 (t11+(1:Int))),())))))))
 (
  some (.inr (t2,())))
def abB  :Qn:=bB (u4 Qm) (pL k0 e0 1 l0 fun d=>by kernel_rfl)
def ym:Qo:=aR (u4 Qm) NN
abbrev Qp:List Sh:=[(.sl .bool)]
abbrev Fu:List Sh:=[(.int .u64)]
abbrev pQ:=TL Qp->Option (TL Fu)
abbrev oA:=Kd 76 Qp Fu
def FA(L2:Qo)(a0:List Bool):Option (TL Fu):=
 ai (both (iE (0:Int) (cQ (iL (64:Int) (Int.ofNat (List.length a0))) (64:Int) (Int.ofNat (List.length a0)))) (iE (cQ (iL (64:Int) (Int.ofNat (List.length a0))) (64:Int) (Int.ofNat (List.length a0))) (Int.ofNat (List.length a0))))<|
 ar (L2 ((0:Int),((List.take (Int.toNat (cQ (iL (64:Int) (Int.ofNat (List.length a0))) (64:Int) (Int.ofNat (List.length a0)))) a0),((Int.ofNat (List.length (List.take (Int.toNat (cQ (iL (64:Int) (Int.ofNat (List.length a0))) (64:Int) (Int.ofNat (List.length a0)))) a0))),((0:Int),()))))) fun x0=>
 some (x0.1,())
def abG(M2:Qn):oA:=⟨u1 (FA M2.L),pD Tryz.func76 23 k0 e0 1 (sS (sC M2 l0)) fun d=>by kernel_rfl⟩
def pO:oA:=abG  abB
def uf:pQ:=pO.F
abbrev PO:Lay:={ T:=[(0,.agg fq),(1,.agg [.fz .bool,.fz (.sl aC)])],h:=[],nx:=0 }
abbrev ES:List (Ev.Ex×Lay):=[(.ret,{ T:=[(0,.agg [.hd 0 .bool,.bq]),(1,.int .i64)],h:=[(0,.arr .bool 4)],nx:=1 })]
abbrev ub:=TL PO.σs->Option (Out ES)
abbrev rm:=Kb 29 2 PO 2 ES
abbrev Zz:Lay:={ T:=[(2,.ptr 0 0),(3,.ptr 1 0),(4,.ptr 2 0),(7,.hd 3 .bool),(8,.int .i64)],h:=[(0,.cells fq 27),(1,.cells [.fz .bool,.fz (.sl aC)] 40),(2,.cells [.bq,.bq] 40),(3,.arr .bool 4)],nx:=4 }
abbrev ZA:Lay:={ T:=[(3,.ptr 0 0),(4,.ptr 1 0),(29,.fz ab),(30,.int .i64),(31,.int .i64)],h:=[(0,.cells [.fz .bool,.fz (.sl aC)] 40),(1,.cells [.hd 2 .bool,.bq] 40),(2,.arr .bool 4)],nx:=3 }
abbrev ZB:List (Nat×LO):=[(0,.cells fq 27),(1,.cells [.bq,.bq] 40),(2,.cells [.hd 3 .bool,.hd 4 (.sl aC)] 40),(3,.arr .bool 4),(4,.arr (.sl aC) 104),(5,.arr aC 137)]
abbrev xV:Lay:=ZA
abbrev xR:List (Ev.Ex×Lay):=[((.exit 0),{ T:=[(4,.ptr 0 0)],h:=[(0,.cells [.hd 1 .bool,.bq] 40),(1,.arr .bool 4)],nx:=2 })]
abbrev PY:=TL xV.σs->Option (Out xR)
abbrev E4:=Ld 0 70 (bu [0] (aW Tryz.f29)) xV xR
abbrev xQ:Lay:={ T:=[(3,.ptr 0 0),(4,.ptr 1 0),(8,.ptr 3 0),(11,.func 75 [.ptr 4 0] []),(29,.fz ab),(30,.int .i64),(31,.int .i64),(53,.int .u64),(54,.int .u64)],h:=[(0,.cells [.fz .bool,.fz (.sl aC)] 40),(1,.cells [.hd 2 .bool,.bq] 40),(2,.arr .bool 4),(3,.cells [.int .i64,.int .i64,.bool,.fz bO,.fz bE] 116),(4,.cells [.int .i64,.int .i64,.mp 5] 220),(5,.map .u64 (.int .u64))],nx:=6 }
abbrev xM:List (Ev.Ex×Lay):=[((.exit 2),ZA)]
abbrev EU:=TL xQ.σs->Option (Out xM)
abbrev xY:=Ld 0 70 (bu [0,0] (aW Tryz.f29)) xQ xM
def PL(F0:lW)(F3:vr)(t29:List (Sh.T ab))(t30 t31 t53 t54:Int)(aE:List Bool)(aD:List (List (Sh.T aC)))(b2:List Bool)(gg cT:Int)(gj:Bool)(gk:List (Sh.T bO))(gl:List (Sh.T bE))(qm alA:Int)(b5:List (Sh.T aC)):Option (TL xQ.σs⊕Out xM):=
 br (iL t54 t53)
 (
  ar (F3 (t54,(qm,(alA,(b5,()))))) fun x0=>
  ai (iQ cT cT)<|
  ar (F0 (x0.1,(cT,()))) fun x1=>
  ai (room 1 (List.length (ap b2 x1.1)))<|
  some (.inl (t29,(t30,(t31,(t53,((IntKind.wrap .u64 (t54+(1:Int))),(aE,(aD,((ap b2 x1.1),(gg,(cT,(gj,(gk,(gl,x0.2)))))))))))))))
 (
  some (.inr (t29,(t30,(t31,(aE,(aD,(b2,()))))))))
def aa2(c0:kY)(c3:so) :xY:=bB (u16 (PL c0.F c3.F)) (pL (kD c0 (kB c3 k0)) e0 1 l0 fun d=>by kernel_rfl)
def PM:xY:=aa2 lY vt
def tX:EU:=aR (u16 (PL iZ tt)) NN
def PW(F4:vp)(L13:EU)(t29:List (Sh.T ab))(t30 t31:Int)(aE:List Bool)(aD:List (List (Sh.T aC)))(b2:List Bool):Option (TL xV.σs⊕Out xR):=
 br (iL t31 t30)
 (
  ai (aw t31 (List.length t29))<|
  ai (aw t31 (List.length aD))<|
  ar (F4 ((gt ab t29 t31).1,((gt ab t29 t31).2.1,((gt (.sl aC) aD t31),())))) fun x0=>
  (match x0 with
  |.inl x1=>
   ai (iE (0:Int) (gt ab t29 t31).1)<|
   none
  |.inr x1=>
   ai (iE (0:Int) (gt ab t29 t31).1)<|
   ar (L13 (t29,(t30,(t31,((IntKind.wrap .u64 ((1:Int)*(HPow.hPow (2:Int) (Min.min (Int.toNat (gt ab t29 t31).1) 64)))),((0:Int),(aE,(aD,(b2,((gt ab t29 t31).1,((gt ab t29 t31).2.1,((gt ab t29 t31).2.2.1,((gt ab t29 t31).2.2.2.1,((gt ab t29 t31).2.2.2.2.1,x1.2)))))))))))))) fun x2=>
   some (.inl (x2.1,(x2.2.1,((IntKind.wrap .i64 (@HAdd.hAdd (Int) (Int) (Int) _ x2.2.2.1 (1:Int))),x2.2.2.2))))
  ))
 (
  some (.inr (b2,())))
def aa7(c4:sj)(M13:xY):E4:=bB (u6 (PW c4.F M13.L)) (pL (kB c4 k0) e0 1 (sC M13 l0) fun d=>by kernel_rfl)
def aa8:E4:=aa7 vq PM
def PX:PY:=aR (u6 (PW wy tX)) NN
def abe(F0:lW)(F1:rl)(F2:Kk)(F3:vr)(F4:vp)(F5:sd)(F6:rZ)(L8:PY)(L13:EU)(dr:Int)(fR:List Int)(fx:List (Sh.T ae))(gC gD gF:List Int)(dU:List (Sh.T ab))(gm:List (Sh.T ae))(ic:List Bool)(fS:List (List (Sh.T aC))):Option (Out ES):=
 ar (F2 ((dr,(fR,(fx,(gC,(gD,(gF,(dU,(gm,())))))))),((ic,(fS,())),()))) fun x0=>
 br (Bool.not (iQ x0.1 (0:Int)))
 (
  some (x0.1,([],())))
 (
  ar (F1 ((dr,(fR,(fx,(gC,(gD,(gF,(dU,(gm,())))))))),())) fun x1=>
  br (iL (64:Int) x1.1)
  (
   some ((17:Int),([],())))
  (
   ar (F6 (ic,())) fun x2=>
   ar (L8 (dU,((Int.ofNat (List.length dU)),((0:Int),(ic,(fS,(x2.1,()))))))) fun x3=>
   some ((0:Int),(x3.1,()))))
def abf(c0:kY)(c1:pK)(c2:Br)(c3:so)(c4:sj)(c5:sf)(c6:r9)(M8:E4)(M13:xY):rm:=⟨lH (abe c0.F c1.F c2.F c3.F c4.F c5.F c6.F M8.L M13.L),pB Tryz.func29 70 (kD c0 (kD c1 (kD c2 (kB c3 (kB c4 (kB c5 (kB c6 k0))))))) e0 1 (sS (sC M8 l0)) fun d=>by kernel_rfl⟩
def ua:rm:=abf lY rj Kl vt vq se qd aa8 PM
def yc:ub:=ua.F
abbrev xT:Lay:={ T:=[(4,.ptr 0 0),(8,.fz .bool),(58,.fz ab),(59,.int .i64),(60,.int .i64)],h:=[(0,.cells [.hd 1 .bool,.hd 2 (.sl aC)] 40),(1,.arr .bool 4),(2,.arr (.sl aC) 104)],nx:=3 }
abbrev xO:List (Ev.Ex×Lay):=[((.exit 1),{ T:=[(4,.ptr 0 0)],h:=[(0,.cells [.hd 1 .bool,.hd 2 (.sl aC)] 40),(1,.arr .bool 4),(2,.arr (.sl aC) 104)],nx:=3 })]
abbrev PU:=TL xT.σs->Option (Out xO)
abbrev EW:=Ld 0 96 (bu [0] (aW Tryz.f30)) xT xO
abbrev xU:Lay:={ T:=[(4,.ptr 0 0),(8,.fz .bool),(10,.ptr 3 0),(11,.hd 4 aC),(58,.fz ab),(59,.int .i64),(60,.int .i64),(66,.int .u64),(67,.int .u64)],h:=[(0,.cells [.hd 1 .bool,.hd 2 (.sl aC)] 40),(1,.arr .bool 4),(2,.arr (.sl aC) 104),(3,.cells [.int .i64,.int .i64,.bool,.fz bO,.fz bE] 116),(4,.arr aC 137)],nx:=5 }
abbrev xP:List (Ev.Ex×Lay):=[((.exit 3),{ T:=[(4,.ptr 0 0),(8,.fz .bool),(11,.hd 3 aC),(58,.fz ab),(59,.int .i64),(60,.int .i64)],h:=[(0,.cells [.hd 1 .bool,.hd 2 (.sl aC)] 40),(1,.arr .bool 4),(2,.arr (.sl aC) 104),(3,.arr aC 137)],nx:=4 })]
abbrev E0:=TL xU.σs->Option (Out xP)
abbrev ya:=Ld 0 96 (bu [0,0] (aW Tryz.f30)) xU xP
def PS(F0:pQ)(t8:List Bool)(t58:List (Sh.T ab))(t59 t60 t66 t67:Int)(b1:List Bool)(b2:List (List (Sh.T aC)))(gg cT:Int)(gj:Bool)(gk:List (Sh.T bO))(gl:List (Sh.T bE))(b4:List (Sh.T aC)):Option (TL xU.σs⊕Out xP):=
 br (iL t67 t66)
 (
  ai (both (iE (0:Int) cT) (iE cT (Int.ofNat (List.length t8))))<|
  ar (F0 ((List.take (Int.toNat cT) t8),())) fun x0=>
  br (Bool.not (iQ x0.1 (0:Int)))
  (
   ai (room 16 (List.length (ap b4 ((t67,(x0.1,()))::[]))))<|
   ai (both (iE (0:Int) cT) (iE cT (Int.ofNat (List.length t8))))<|
   some (.inl ((List.drop (Int.toNat cT) t8),(t58,(t59,(t60,(t66,((IntKind.wrap .u64 (t67+(1:Int))),(b1,(b2,(gg,(cT,(gj,(gk,(gl,((ap b4 ((t67,(x0.1,()))::[])),()))))))))))))))))
  (
   ai (both (iE (0:Int) cT) (iE cT (Int.ofNat (List.length t8))))<|
   some (.inl ((List.drop (Int.toNat cT) t8),(t58,(t59,(t60,(t66,((IntKind.wrap .u64 (t67+(1:Int))),(b1,(b2,(gg,(cT,(gj,(gk,(gl,(b4,())))))))))))))))))
 (
  some (.inr (t8,(t58,(t59,(t60,(b1,(b2,(b4,())))))))))
def aa4(c0:oA) :ya:=bB (fX (PS c0.F)) (pL (kD c0 k0) e0 1 l0 fun d=>by kernel_rfl)
def PT:ya:=aa4 pO
def tY:E0:=aR (fX (PS uf)) NN
def PR(L16:E0)(t8:List Bool)(t58:List (Sh.T ab))(t59 t60:Int)(b1:List Bool)(b2:List (List (Sh.T aC))):Option (TL xT.σs⊕Out xO):=
 br (iL t60 t59)
 (
  ai (aw t60 (List.length t58))<|
  ai (iE (0:Int) (gt ab t58 t60).1)<|
  ar (L16 (t8,(t58,(t59,(t60,((IntKind.wrap .u64 ((1:Int)*(HPow.hPow (2:Int) (Min.min (Int.toNat (gt ab t58 t60).1) 64)))),((0:Int),(b1,(b2,((gt ab t58 t60).1,((gt ab t58 t60).2.1,((gt ab t58 t60).2.2.1,((gt ab t58 t60).2.2.2.1,((gt ab t58 t60).2.2.2.2.1,([],()))))))))))))))) fun x0=>
  ai (room 24 (List.length (ap x0.2.2.2.2.2.1 (x0.2.2.2.2.2.2.1::[]))))<|
  some (.inl (x0.1,(x0.2.1,(x0.2.2.1,((IntKind.wrap .i64 (@HAdd.hAdd (Int) (Int) (Int) _ x0.2.2.2.1 (1:Int))),(x0.2.2.2.2.1,((ap x0.2.2.2.2.2.1 (x0.2.2.2.2.2.2.1::[])),()))))))))
 (
  some (.inr (b1,(b2,()))))
def aa3(M16:ya):EW:=bB (u6 (PR M16.L)) (pL k0 e0 1 (sC M16 l0) fun d=>by kernel_rfl)
def aa5:EW:=aa3  PT
def EX:PU:=aR (u6 (PR tY)) NN
abbrev P7:List Sh:=[bg,cV]
abbrev E8:List Sh:=[cV,(.int .i64)]
abbrev rq:=TL P7->Option (TL E8)
abbrev pN:=Kd 30 P7 E8
def abq(F0:pQ)(F1:rl)(F2:qi)(F3:sd)(F4:rZ)(L12:PU)(L16:E0)(a0:Sh.T bg)(a1:Sh.T cV):Option (TL E8):=
 ar (F2 (a0,())) fun x0=>
 br (Bool.not (iQ x0.1 (0:Int)))
 (
  some (([],([],())),(x0.1,())))
 (
  ar (F1 (a0,())) fun x1=>
  br (iL (64:Int) x1.1)
  (
   some (([],([],())),((17:Int),())))
  (
   br (Bool.not (iQ (Int.ofNat (List.length a1.1)) (IntKind.wrap .i64 (@HAdd.hAdd (Int) (Int) (Int) _ (Int.ofNat (List.length a0.2.2.1)) x1.1))))
   (
    some (([],([],())),((14:Int),())))
   (
    br (aQ false true (iL (0:Int) (Int.ofNat (List.length a1.2.1))))
    (
     some (([],([],())),((14:Int),())))
    (
     ai (both (iE (0:Int) (Int.ofNat (List.length a0.2.2.1))) (iE (Int.ofNat (List.length a0.2.2.1)) (Int.ofNat (List.length a1.1))))<|
     ar (F4 ((List.take (Int.toNat (Int.ofNat (List.length a0.2.2.1))) a1.1),())) fun x2=>
     ai (both (iE (0:Int) (Int.ofNat (List.length a0.2.2.1))) (iE (Int.ofNat (List.length a0.2.2.1)) (Int.ofNat (List.length a1.1))))<|
     ar (L12 ((List.drop (Int.toNat (Int.ofNat (List.length a0.2.2.1))) a1.1),(a0.2.2.2.2.2.2.1,((Int.ofNat (List.length a0.2.2.2.2.2.2.1)),((0:Int),(x2.1,([],()))))))) fun x3=>
     some (x3,((0:Int),()))))))
def abr(c0:oA)(c1:pK)(c2:oT)(c3:sf)(c4:r9)(M12:EW)(M16:ya):pN:=⟨u2 (abq c0.F c1.F c2.F c3.F c4.F M12.L M16.L),pD Tryz.func30 96 (kD c0 (kD c1 (kD c2 (kB c3 (kB c4 k0))))) e0 1 (sS (sC M12 l0)) fun d=>by kernel_rfl⟩
def rn:pN:=abr pO rj qj se qd aa5 PT
def yf:rq:=rn.F
abbrev xr:Lay:={ T:=[(1,.ptr 0 0),(3,.int .i64),(4,.int .i64)],h:=[(0,.cells fq 27)],nx:=1 }
abbrev xm:List (Ev.Ex×Lay):=[((.exit 0),{ T:=[(3,.int .i64)],h:=[],nx:=0 })]
abbrev O7:=TL xr.σs->Option (Out xm)
abbrev Er:=Ld 0 44 (bu [0] (aW Tryz.f55)) xr xm
abbrev qZ:Lay:={ T:=[(1,.ptr 0 0),(3,.int .i64),(4,.int .i64),(5,.int .i64),(6,.int .i64)],h:=[(0,.cells fq 27)],nx:=1 }
abbrev tN:List (Ev.Ex×Lay):=[((.exit 2),{ T:=[(1,.ptr 0 0),(3,.int .i64),(4,.int .i64),(5,.int .i64)],h:=[(0,.cells fq 27)],nx:=1 })]
abbrev Eu:=TL qZ.σs->Option (Out tN)
abbrev Es:=Ld 0 44 (bu [0,0] (aW Tryz.f55)) qZ tN
def Ep(t3 t4 t5 t6 aE:Int)(aD:List Int)(aG:List (Sh.T ae))(aH aI aL:List Int)(aA:List (Sh.T ab))(aF:List (Sh.T ae)):Option (TL qZ.σs⊕Out tN):=
 ai (aw t4 (List.length aA))<|
 br (iL t6 (gt ab aA t4).1)
 (
  br (aQ true (iL t5 (1000:Int)) false)
  (
   some (.inl (t3,(t4,((IntKind.wrap .i64 ((2:Int)*t5)),((IntKind.wrap .i64 (t6+(1:Int))),(aE,(aD,(aG,(aH,(aI,(aL,(aA,(aF,()))))))))))))))
  (
   some (.inr (t3,(t4,(t5,(aE,(aD,(aG,(aH,(aI,(aL,(aA,(aF,()))))))))))))))
 (
  some (.inr (t3,(t4,(t5,(aE,(aD,(aG,(aH,(aI,(aL,(aA,(aF,())))))))))))))
def O6  :Es:=bB (jY Ep) (pL k0 e0 1 l0 fun d=>by kernel_rfl)
def Et:Eu:=aR (jY Ep) NN
def O4(L9:Eu)(t3 t4 aE:Int)(aD:List Int)(aG:List (Sh.T ae))(aH aI aL:List Int)(aA:List (Sh.T ab))(aF:List (Sh.T ae)):Option (TL xr.σs⊕Out xm):=
 br (iL t4 (Int.ofNat (List.length aA)))
 (
  ai (aw t4 (List.length aA))<|
  ar (L9 (t3,(t4,((gt ab aA t4).2.1,((0:Int),(aE,(aD,(aG,(aH,(aI,(aL,(aA,(aF,()))))))))))))) fun x0=>
  some (.inl ((IntKind.wrap .i64 (@HAdd.hAdd (Int) (Int) (Int) _ x0.1 x0.2.2.1)),((IntKind.wrap .i64 (@HAdd.hAdd (Int) (Int) (Int) _ x0.2.1 (1:Int))),x0.2.2.2))))
 (
  some (.inr (t3,())))
def aan(M9:Es):Er:=bB (lH (O4 M9.L)) (pL k0 e0 1 (sC M9 l0) fun d=>by kernel_rfl)
def aao:Er:=aan  O6
def O5:O7:=aR (lH (O4 Et)) NN
abbrev O8:List Sh:=[bg]
abbrev xB:List Sh:=[(.int .i64)]
abbrev xF:=TL O8->Option (TL xB)
abbrev tU:=Kd 55 O8 xB
def aay(F0:vb)(L5:O7)(L9:Eu)(a0:Sh.T bg):Option (TL xB):=
 ar (F0 (a0,())) fun x0=>
 br (Bool.not (iQ x0.1 (0:Int)))
 (
  some ((0:Int),()))
 (
  ar (L5 ((0:Int),((0:Int),a0))) fun x1=>
  some ((cQ (iL (1000:Int) x1.1) (1000:Int) x1.1),()))
def aaz(c0:rY)(M5:Er)(M9:Es):tU:=⟨u1 (aay c0.F M5.L M9.L),pD Tryz.func55 44 (kD c0 k0) e0 1 (sS (sC M5 l0)) fun d=>by kernel_rfl⟩
def xE:tU:=aaz vc aao O6
def aam:xF:=xE.F
abbrev xt:Lay:=Zz
abbrev xo:List (Ev.Ex×Lay):=[((.exit 0),{ T:=[(4,.ptr 0 0),(7,.hd 1 .bool)],h:=[(0,.cells [.bq,.bq] 40),(1,.arr .bool 4)],nx:=2 })]
abbrev Pb:=TL xt.σs->Option (Out xo)
abbrev Ew:=Ld 0 60 (bu [0] (aW Tryz.f120)) xt xo
abbrev xn:Lay:={ T:=[(2,.ptr 0 0),(3,.ptr 1 0),(4,.ptr 2 0),(7,.hd 3 .bool),(8,.int .i64),(9,.int .u64)],h:=[(0,.cells fq 27),(1,.cells [.fz .bool,.fz (.sl aC)] 40),(2,.cells [.bq,.bq] 40),(3,.arr .bool 4)],nx:=4 }
abbrev xj:List (Ev.Ex×Lay):=[((.exit 2),Zz)]
abbrev Eh:=TL xn.σs->Option (Out xj)
abbrev xy:=Ld 0 60 (bu [0,0] (aW Tryz.f120)) xn xj
def OW(F0:JJ)(F1:JU)(F2:qe)(t8 t9 aE:Int)(aD:List Int)(aG:List (Sh.T ae))(aH aI aL:List Int)(aA:List (Sh.T ab))(aF:List (Sh.T ae))(cG:List Bool)(cN:List (List (Sh.T aC)))(b3:List Bool):Option (TL xn.σs⊕Out xj):=
 ai (aw t8 (List.length aA))<|
 ar (F2 (t9,((gt ab aA t8).1,()))) fun x0=>
 br x0.1
 (
  ai (aw t8 (List.length cN))<|
  ai (aw t8 (List.length aA))<|
  ar (F1 ((gt (.sl aC) cN t8),(t9,()))) fun x1=>
  ar (F0 (x1.1,((gt ab aA t8).2.1,()))) fun x2=>
  ai (room 1 (List.length (ap b3 x2.1)))<|
  some (.inl (t8,((IntKind.wrap .u64 (t9+(1:Int))),(aE,(aD,(aG,(aH,(aI,(aL,(aA,(aF,(cG,(cN,((ap b3 x2.1),())))))))))))))))
 (
  some (.inr (t8,(aE,(aD,(aG,(aH,(aI,(aL,(aA,(aF,(cG,(cN,(b3,()))))))))))))))
def aah(c0:A0)(c1:Ba)(c2:oR) :xy:=bB (nF (OW c0.F c1.F c2.F)) (pL (kD c0 (kD c1 (kD c2 k0))) e0 1 l0 fun d=>by kernel_rfl)
def OX:xy:=aah JK JV qf
def Eg:Eh:=aR (nF (OW I2 I6 qE)) NN
def O9(L11:Eh)(t8 aE:Int)(aD:List Int)(aG:List (Sh.T ae))(aH aI aL:List Int)(aA:List (Sh.T ab))(aF:List (Sh.T ae))(cG:List Bool)(cN:List (List (Sh.T aC)))(b3:List Bool):Option (TL xt.σs⊕Out xo):=
 br (iL t8 (Int.ofNat (List.length aA)))
 (
  ar (L11 (t8,((0:Int),(aE,(aD,(aG,(aH,(aI,(aL,(aA,(aF,(cG,(cN,(b3,())))))))))))))) fun x0=>
  some (.inl ((IntKind.wrap .i64 (@HAdd.hAdd (Int) (Int) (Int) _ x0.1 (1:Int))),x0.2)))
 (
  some (.inr (b3,())))
def aaq(M11:xy):Ew:=bB (jY (O9 M11.L)) (pL k0 e0 1 (sC M11 l0) fun d=>by kernel_rfl)
def aar:Ew:=aaq  OX
def Pa:Pb:=aR (jY (O9 Eg)) NN
abbrev Pc:List Sh:=[bg,cV]
abbrev Ey:List Sh:=[cV,(.int .i64)]
abbrev aaD:=TL Pc->Option (TL Ey)
abbrev Pq:=Kd 120 Pc Ey
def aaA(F0:JJ)(F1:JU)(F2:qe)(F3:xF)(F4:IX)(L8:Pb)(L11:Eh)(a0:Sh.T bg)(a1:Sh.T cV):Option (TL Ey):=
 ar (F4 (a0,(a1,()))) fun x0=>
 br (Bool.not (iQ x0.1 (0:Int)))
 (
  some (([],([],())),(x0.1,())))
 (
  ar (F3 (a0,())) fun x1=>
  br (iL (64:Int) x1.1)
  (
   some (([],([],())),((17:Int),())))
  (
   ai (room 1 (List.length (ap [] a1.1)))<|
   ar (L8 ((0:Int),(a0.1,(a0.2.1,(a0.2.2.1,(a0.2.2.2.1,(a0.2.2.2.2.1,(a0.2.2.2.2.2.1,(a0.2.2.2.2.2.2.1,(a0.2.2.2.2.2.2.2.1,(a1.1,(a1.2.1,((ap [] a1.1),()))))))))))))) fun x2=>
   some ((x2.1,([],())),((0:Int),()))))
def aaB(c0:A0)(c1:Ba)(c2:oR)(c3:tU)(c4:zZ)(M8:Ew)(M11:xy):Pq:=⟨u2 (aaA c0.F c1.F c2.F c3.F c4.F M8.L M11.L),pD Tryz.func120 60 (kD c0 (kD c1 (kD c2 (kD c3 (kD c4 k0))))) e0 1 (sS (sC M8 l0)) fun d=>by kernel_rfl⟩
def aaC:Pq:=aaB JK JV qf xE IY aar OX
def aap:aaD:=aaC.F
abbrev xp:Lay:={ T:=[(2,.ptr 0 0),(4,.ptr 1 0),(7,.ptr 2 0),(8,.fz .bool),(9,.int .i64)],h:=[(0,.cells fq 27),(1,.cells [.bq,.bq] 40),(2,.cells [.hd 3 .bool,.hd 4 (.sl aC)] 40),(3,.arr .bool 4),(4,.arr (.sl aC) 104)],nx:=5 }
abbrev xk:List (Ev.Ex×Lay):=[((.exit 0),{ T:=[(4,.ptr 0 0),(7,.ptr 1 0)],h:=[(0,.cells [.bq,.bq] 40),(1,.cells [.hd 2 .bool,.hd 3 (.sl aC)] 40),(2,.arr .bool 4),(3,.arr (.sl aC) 104)],nx:=4 })]
abbrev O3:=TL xp.σs->Option (Out xk)
abbrev Ek:=Ld 0 104 (bu [0] (aW Tryz.f115)) xp xk
abbrev xq:Lay:={ T:=[(2,.ptr 0 0),(4,.ptr 1 0),(7,.ptr 2 0),(8,.fz .bool),(9,.int .i64),(10,.hd 5 aC),(11,.int .u64)],h:=ZB,nx:=6 }
abbrev xl:List (Ev.Ex×Lay):=[((.exit 2),{ T:=[(2,.ptr 0 0),(4,.ptr 1 0),(7,.ptr 2 0),(8,.fz .bool),(9,.int .i64),(10,.hd 5 aC)],h:=ZB,nx:=6 })]
abbrev Eo:=TL xq.σs->Option (Out xl)
abbrev xA:=Ld 0 104 (bu [0,0] (aW Tryz.f115)) xq xl
def O1(F0:Kc)(F1:qe)(t8:List Bool)(t9 t11 aE:Int)(aD:List Int)(aG:List (Sh.T ae))(aH aI aL:List Int)(aA:List (Sh.T ab))(aF:List (Sh.T ae))(b3:List Bool)(b4:List (List (Sh.T aC)))(b5:List (Sh.T aC)):Option (TL xq.σs⊕Out xl):=
 ai (aw t9 (List.length aA))<|
 ar (F1 (t11,((gt ab aA t9).1,()))) fun x0=>
 br x0.1
 (
  ai (aw t9 (List.length aA))<|
  ai (both (iE (0:Int) (gt ab aA t9).2.1) (iE (gt ab aA t9).2.1 (Int.ofNat (List.length t8))))<|
  ar (F0 ((List.take (Int.toNat (gt ab aA t9).2.1) t8),())) fun x1=>
  ai (aw t9 (List.length aA))<|
  ai (both (iE (0:Int) (gt ab aA t9).2.1) (iE (gt ab aA t9).2.1 (Int.ofNat (List.length t8))))<|
  br (Bool.not (iQ x1.1 (0:Int)))
  (
   ai (room 16 (List.length (ap b5 ((t11,(x1.1,()))::[]))))<|
   some (.inl ((List.drop (Int.toNat (gt ab aA t9).2.1) t8),(t9,((IntKind.wrap .u64 (t11+(1:Int))),(aE,(aD,(aG,(aH,(aI,(aL,(aA,(aF,(b3,(b4,((ap b5 ((t11,(x1.1,()))::[])),()))))))))))))))))
  (
   some (.inl ((List.drop (Int.toNat (gt ab aA t9).2.1) t8),(t9,((IntKind.wrap .u64 (t11+(1:Int))),(aE,(aD,(aG,(aH,(aI,(aL,(aA,(aF,(b3,(b4,(b5,())))))))))))))))))
 (
  some (.inr (t8,(t9,(aE,(aD,(aG,(aH,(aI,(aL,(aA,(aF,(b3,(b4,(b5,())))))))))))))))
def aak(c0:Bf)(c1:oR) :xA:=bB (fX (O1 c0.F c1.F)) (pL (kD c0 (kD c1 k0)) e0 1 l0 fun d=>by kernel_rfl)
def O2:xA:=aak Ke qf
def Em:Eo:=aR (fX (O1 J9 qE)) NN
def O0(L15:Eo)(t8:List Bool)(t9 aE:Int)(aD:List Int)(aG:List (Sh.T ae))(aH aI aL:List Int)(aA:List (Sh.T ab))(aF:List (Sh.T ae))(b3:List Bool)(b4:List (List (Sh.T aC))):Option (TL xp.σs⊕Out xk):=
 br (iL t9 (Int.ofNat (List.length aA)))
 (
  ar (L15 (t8,(t9,((0:Int),(aE,(aD,(aG,(aH,(aI,(aL,(aA,(aF,(b3,(b4,([],()))))))))))))))) fun x0=>
  ai (room 24 (List.length (ap x0.2.2.2.2.2.2.2.2.2.2.2.1 (x0.2.2.2.2.2.2.2.2.2.2.2.2.1::[]))))<|
  some (.inl (x0.1,((IntKind.wrap .i64 (@HAdd.hAdd (Int) (Int) (Int) _ x0.2.1 (1:Int))),(x0.2.2.1,(x0.2.2.2.1,(x0.2.2.2.2.1,(x0.2.2.2.2.2.1,(x0.2.2.2.2.2.2.1,(x0.2.2.2.2.2.2.2.1,(x0.2.2.2.2.2.2.2.2.1,(x0.2.2.2.2.2.2.2.2.2.1,(x0.2.2.2.2.2.2.2.2.2.2.1,((ap x0.2.2.2.2.2.2.2.2.2.2.2.1 (x0.2.2.2.2.2.2.2.2.2.2.2.2.1::[])),()))))))))))))))
 (
  some (.inr (b3,(b4,()))))
def aaj(M15:xA):Ek:=bB (jY (O0 M15.L)) (pL k0 e0 1 (sC M15 l0) fun d=>by kernel_rfl)
def aal:Ek:=aaj  O2
def El:O3:=aR (jY (O0 Em)) NN
abbrev Pp:List Sh:=[bg,cV]
abbrev EF:List Sh:=[cV,(.int .i64)]
abbrev aaR:=TL Pp->Option (TL EF)
abbrev PC:=Kd 115 Pp EF
def aaO(F0:Kc)(F1:qe)(F2:xF)(F3:vb)(L11:O3)(L15:Eo)(a0:Sh.T bg)(a1:Sh.T cV):Option (TL EF):=
 ar (F3 (a0,())) fun x0=>
 br (Bool.not (iQ x0.1 (0:Int)))
 (
  some (([],([],())),(x0.1,())))
 (
  ar (F2 (a0,())) fun x1=>
  br (iL (64:Int) x1.1)
  (
   some (([],([],())),((17:Int),())))
  (
   ar (F2 (a0,())) fun x2=>
   br (Bool.not (iQ (Int.ofNat (List.length a1.1)) (IntKind.wrap .i64 (@HAdd.hAdd (Int) (Int) (Int) _ (Int.ofNat (List.length a0.2.2.1)) x2.1))))
   (
    some (([],([],())),((14:Int),())))
   (
    br (aQ false true (Bool.not (iQ (Int.ofNat (List.length a1.2.1)) (0:Int))))
    (
     some (([],([],())),((14:Int),())))
    (
     ai (both (iE (0:Int) (Int.ofNat (List.length a0.2.2.1))) (iE (Int.ofNat (List.length a0.2.2.1)) (Int.ofNat (List.length a1.1))))<|
     ai (room 1 (List.length (ap [] (List.take (Int.toNat (Int.ofNat (List.length a0.2.2.1))) a1.1))))<|
     ai (both (iE (0:Int) (Int.ofNat (List.length a0.2.2.1))) (iE (Int.ofNat (List.length a0.2.2.1)) (Int.ofNat (List.length a1.1))))<|
     ar (L11 ((List.drop (Int.toNat (Int.ofNat (List.length a0.2.2.1))) a1.1),((0:Int),(a0.1,(a0.2.1,(a0.2.2.1,(a0.2.2.2.1,(a0.2.2.2.2.1,(a0.2.2.2.2.2.1,(a0.2.2.2.2.2.2.1,(a0.2.2.2.2.2.2.2.1,((ap [] (List.take (Int.toNat (Int.ofNat (List.length a0.2.2.1))) a1.1)),([],()))))))))))))) fun x3=>
     some (x3,((0:Int),()))))))
def aaP(c0:Bf)(c1:oR)(c2:tU)(c3:rY)(M11:Ek)(M15:xA):PC:=⟨u2 (aaO c0.F c1.F c2.F c3.F M11.L M15.L),pD Tryz.func115 104 (kD c0 (kD c1 (kD c2 (kD c3 k0)))) e0 1 (sS (sC M11 l0)) fun d=>by kernel_rfl⟩
def aaQ:PC:=aaP Ke qf xE vc aal O2
def Po:aaR:=aaQ.F
open Go.Proofs.YtkcpdpplobhpaaaGreat.Pl
def jc(x:Int):Int:=if 1000<x then 1000 else x
def tP(m:bC):Int:=if 10<=m.addr then 1000 else m.word*2^m.addr.toNat
def dz(w:Int):Nat->Int
 |0=>w|k+1=>if dz w k<1000 then 2*dz w k else dz w k
def dZ(l:List bC):Int:=l.foldl (fun a m=>a+tP m) 0
def k7(l:List bC):Int:=l.foldl (fun a m=>a+dz m.word m.addr.toNat) 0
def qb(t u:Int):Prop:=t=u\/(1000<=t/\1000<=u)
theorem acG{t u:Int}(h:qb t u):jc t=jc u:=by
 unfold jc;rcases h with rfl|⟨h1,h2⟩
 .rfl
 .split<;>split<;>omega
theorem ade(k:Nat):(1:Int)<=2^k:=by have:=Int.pow_pos (n:=(2:Int)) (m:=k) (by decide);omega
theorem yy{w a b:Int}(hw:0<=w)(h:a<=b):w*a<=w*b:=Int.mul_le_mul_of_nonneg_left h hw
theorem adN{w:Int}(hw:1<=w):∀k,dz w k=w*2^k\/(1000<=dz w k/\1000<=w*2^k):=by
 intro k
 induction k with
 |zero=>left;rw[dz];simp|succ k ih=>
  have e:w*2^(k+1)=2*(w*2^k):=by rw[Int.pow_succ];rw[<-Int.mul_assoc,Int.mul_comm]
  rw[dz,e];split
  .rename_i q;rcases ih with h|⟨h1,h2⟩
   .left;rw[h]
   .omega
  .rename_i q;right;rcases ih with h|⟨h1,h2⟩<;>omega
theorem yC{w:Int}(hw:1<=w):∀k,w<=dz w k:=by
 intro k
 induction k with|zero=>rw[dz];omega|succ k ih=>rw[dz];split<;>omega
theorem FY{w:Int}(hw:w<=64):∀k,dz w k<=2000:=by
 intro k
 induction k with|zero=>rw[dz];omega|succ k ih=>rw[dz];split<;>omega
theorem acK{w:Int}{k:Nat}(h:1000<=dz w k):∀j,dz w (k+j)=dz w k:=by
 intro j
 induction j with|zero=>rfl|succ j ih=>rw[show k+(j+1)=k+j+1 by omega,dz,ih,if_neg (by omega)]
theorem ac6{m:bC}(h1:1<=m.addr)(h2:1<=m.word):qb (tP m) (dz m.word m.addr.toNat):=by
 have r:=adN h2 m.addr.toNat;unfold tP;split
 .rename_i q;right;have p:(2:Int)^10<=2^m.addr.toNat:=by
   have:=Nat.pow_le_pow_right (n:=2) (by decide) (show 10<=m.addr.toNat by omega)
   exact_mod_cast this
  have p2:(2:Int)^10=1024:=by decide
  have p3:=yy (w:=m.word) (by omega) p;have p4:=yy (w:=1024) (a:=1) (b:=m.word) (by omega) h2;rw[p2]at p3;have p5:m.word*1024=1024*m.word:=Int.mul_comm ..;rcases r with h|⟨a,b⟩<;>omega
 .rcases r with h|⟨a,b⟩
  .left;exact h.symm
  .right;exact⟨b,a⟩
theorem yK{m:bC}(h1:1<=m.addr)(h2:1<=m.word)(h3:m.word<=64):0<=tP m/\tP m<=40000:=by
 unfold tP;split
 .omega
 .have p:(2:Int)^m.addr.toNat<=2^9:=by
   have:=Nat.pow_le_pow_right (n:=2) (by decide) (show m.addr.toNat<=9 by omega)
   exact_mod_cast this
  have p2:(2:Int)^9=512:=by decide
  have p3:=yy (w:=m.word) (by omega) p;have p4:=yy (w:=m.word) (by omega) (ade m.addr.toNat);rw[p2]at p3;omega
theorem ac5{a b c d:Int}(h1:qb a b)(h2:qb c d)(ha:0<=a)(hb:0<=b)(hc:0<=c)(hd:0<=d):qb (a+c) (b+d):=by
 rcases h1 with h1|h1<;>rcases h2 with h2|h2
 .left;omega
 .right;omega
 .right;omega
 .right;omega
theorem adu:∀(l:List bC) (a b:Int),(∀m∈l,1<=m.addr/\1<=m.word/\m.word<=64)->qb a b->0<=a->0<=b->qb (l.foldl (fun a m=>a+tP m) a) (l.foldl (fun a m=>a+dz m.word m.addr.toNat) b):=by
 intro l
 induction l with|nil=>intro a b _ h _ _;exact h|cons m l ih=>intro a b hl h ha hb;obtain⟨h1,h2,h3⟩:=hl m (by simp);have t:=yK h1 h2 h3;have u:=yC h2 m.addr.toNat;exact ih _ _ (fun x hx=>hl x (by simp[hx])) (ac5 h (ac6 h1 h2) ha hb t.1 (by omega)) (show 0<=a+tP m by omega) (show 0<=b+dz m.word m.addr.toNat by omega)
theorem yA:∀(l:List bC) (a:Int),(∀m∈l,1<=m.addr/\1<=m.word/\m.word<=64)->a<=l.foldl (fun a m=>a+tP m) a/\l.foldl (fun a m=>a+tP m) a<=a+40000*(l.length:Int):=by
 intro l
 induction l with|nil=>intro a _;exact⟨Int.le_refl _,by simp⟩|cons m l ih=>intro a hl;obtain⟨h1,h2,h3⟩:=hl m (by simp);have t:=yK h1 h2 h3;obtain⟨x,y⟩:=ih (a+tP m) (fun x hx=>hl x (by simp[hx]));rw[List.foldl_cons,List.length_cons];omega
theorem adt:∀(l:List bC) (a:Int),(∀m∈l,1<=m.addr/\1<=m.word/\m.word<=64)->a<=l.foldl (fun a m=>a+dz m.word m.addr.toNat) a/\l.foldl (fun a m=>a+dz m.word m.addr.toNat) a<=a+2000*(l.length:Int):=by
 intro l
 induction l with|nil=>intro a _;exact⟨Int.le_refl _,by simp⟩|cons m l ih=>intro a hl;obtain⟨h1,h2,h3⟩:=hl m (by simp);have t:=yC h2 m.addr.toNat;have t2:=FY h3 m.addr.toNat;obtain⟨x,y⟩:=ih (a+dz m.word m.addr.toNat) (fun x hx=>hl x (by simp[hx]));rw[List.foldl_cons,List.length_cons];omega
def dF(n:ax):Int:=if Pl.cL n≠0 then 0 else jc (dZ n.aa)
section
variable{n:ax}{V:Nat}(hs:cq n V)
include hs
theorem mI:∀m∈n.aa,1<=m.addr/\1<=m.word/\m.word<=64:=fun m hm=>by obtain⟨m1,m2,m3,m4,_⟩:=hs.aa m hm;exact⟨m1,m3,m4⟩
end
section
variable{n:ax}{V:Nat}
theorem FV(x:Int):cQ (iL (1000:Int) x) (1000:Int) x=jc x:=by
 unfold jc cQ;by_cases q:1000<x
 .rw[if_pos q,show iL (1000:Int) x=true from aj q]
 .rw[if_neg q,show iL (1000:Int) x=false from av q]
end
section
variable{n:ax}{V:Nat}(hs:cq n V)
include hs
theorem aeC:abJ ((0:Int),([],([],([],([],([],(n.aa.map aq,([],()))))))))=some (dZ n.aa,()):=by
 have hM:=hs.lens.2.2.2.2;have hL:((n.aa.map aq).length:Int)=(n.aa.length:Int):=by rw[List.length_map]
 have e2:Qx ((0:Int),(n.aa.map aq,(((n.aa.map aq).length:Int),((0:Int),()))))=some (dZ n.aa,()):=by
  unfold Qx;delta u4;refine cP (fun k:Nat=>(dZ (n.aa.take k),(n.aa.map aq,(((n.aa.map aq).length:Int),((k:Int),()))))) n.aa.length rfl ?_ ?_ (bA (by omega))
  .intro k hk;have hx:=List.getElem?_eq_getElem hk;obtain⟨h1,h2,h3⟩:=mI hs _ (List.getElem_mem hk);have t:=yK h1 h2 h3;have hx':(n.aa.map aq)[k]?=some (aq n.aa[k]):=by rw[List.getElem?_map,hx];rfl
   have g:gt ab (n.aa.map aq) (k:Int)=aq n.aa[k]:=bn (σ:=ab) hx';have eb:Fj (aq n.aa[k],())=some (tP n.aa[k],()):=by
    show Fv (aq n.aa[k])=_;unfold Fv tP;by_cases q:10<=n.aa[k].addr
    .rw[if_pos q];exact ao (aj q) rfl
    .rw[if_neg q];have e:∀p q:Int,p=q->(some (p,()):Option (TL yh))=some (q,()):=by rintro _ _ rfl;rfl
     refine af (av q) (ak (aj (show(0:Int)<=n.aa[k].addr by omega)) (e _ _ ?_));show IntKind.wrap .i64 (n.aa[k].word*2^min (Int.toNat n.aa[k].addr) 64)=_;rw[Nat.min_eq_left (by omega)];unfold tP at t;rw[if_neg q]at t;exact bK (by omega)
   have eb':Fj (((gt ab (n.aa.map aq) (k:Int)).1,((gt ab (n.aa.map aq) (k:Int)).2.1,((gt ab (n.aa.map aq) (k:Int)).2.2.1,((gt ab (n.aa.map aq) (k:Int)).2.2.2.1,((gt ab (n.aa.map aq) (k:Int)).2.2.2.2.1,()))))),())=some (tP n.aa[k],()):=by rw[g];exact eb
   have hr:=yA (n.aa.take k) 0 (fun m hm=>mI hs m (List.mem_of_mem_take hm));have hl:(n.aa.take k).length<=4:=by rw[List.length_take];omega
   have hst:dZ (n.aa.take (k+1))=dZ (n.aa.take k)+tP n.aa[k]:=by unfold dZ;rw[Pl.dm hx,List.foldl_append];rfl
   have e:∀(a b p q:Int),a=b->p=q->(some (.inl (a,(n.aa.map aq,(((n.aa.map aq).length:Int),(p,()))))):Option (TL ue.σs⊕Out uc))=some (.inl (b,(n.aa.map aq,(((n.aa.map aq).length:Int),(q,()))))):=by rintro _ _ _ _ rfl rfl;rfl
   have hr:0<=dZ (n.aa.take k)/\dZ (n.aa.take k)<=0+40000*((n.aa.take k).length:Int):=hr;refine ao (aj (show(k:Int)<((n.aa.map aq).length:Int) by omega)) (ak (show aw (k:Int) (List.length (n.aa.map aq))=true from aN ⟨by omega,by omega⟩) (ag eb' (e _ _ _ _ ?_ (bG (show(k:Int)+1=((k+1:Nat):Int) by omega) (by omega)))));rw[hst];exact bK (by omega)
  .have e:∀(a b:Int),a=b->(some (.inr (a,())):Option (TL ue.σs⊕Out uc))=some (.inr (b,())):=by rintro _ _ rfl;rfl
   rw[List.take_length];exact af (av (show ¬(n.aa.length:Int)<((n.aa.map aq).length:Int) by omega)) rfl
 exact ag e2 rfl
theorem acC:abI (((0:Int),([],([],([],([],([],(n.aa.map aq,([],())))))))),())=some (jc (dZ n.aa),()):=by
 have hM:=hs.lens.2.2.2.2;have e1:=aeC hs;have hr:=yA n.aa 0 (mI hs);have hr:0<=dZ n.aa/\dZ n.aa<=0+40000*(n.aa.length:Int):=hr;have w:IntKind.wrap .i64 (((0:Nat):Int)+dZ n.aa)=dZ n.aa:=by rw[show((0:Nat):Int)+dZ n.aa=dZ n.aa by omega];exact bK (by omega)
 have e:∀(a b:Int),a=b->(some (a,()):Option (TL yp))=some (b,()):=by rintro _ _ rfl;rfl
 refine ag e1 (e _ _ ?_);show cQ (iL (1000:Int) (IntKind.wrap .i64 (((0:Nat):Int)+dZ n.aa))) (1000:Int) (IntKind.wrap .i64 (((0:Nat):Int)+dZ n.aa))=_;rw[w];exact FV _
theorem afi{k:Nat}{m:bC}(hm:n.aa[k]?=some m)(acc:Int) :
  Et (acc,((k:Int),(m.word,((0:Int),nt n ()))))=some (acc,((k:Int),(dz m.word m.addr.toNat,nt n ()))):=by
 obtain⟨h1,h2,h3⟩:=mI hs m (List.mem_of_getElem? hm);obtain⟨_,h4,_⟩:=hs.aa m (List.mem_of_getElem? hm);have hk:=dy hm;have hL:((n.aa.map aq).length:Int)=(n.aa.length:Int):=by rw[List.length_map]
 have hM:=hs.lens.2.2.2.2;have hx':(n.aa.map aq)[k]?=some (aq m):=by rw[List.getElem?_map,hm];rfl
 have g:gt ab (n.aa.map aq) (k:Int)=aq m:=bn (σ:=ab) hx';have aT:aw (k:Int) (List.length (n.aa.map aq))=true:=aN ⟨by omega,by omega⟩;have hq:=lQ (B:=fun d=>Ep d.1 d.2.1 d.2.2.1 d.2.2.2.1 d.2.2.2.2.1 d.2.2.2.2.2.1 d.2.2.2.2.2.2.1 d.2.2.2.2.2.2.2.1 d.2.2.2.2.2.2.2.2.1 d.2.2.2.2.2.2.2.2.2.1 d.2.2.2.2.2.2.2.2.2.2.1 d.2.2.2.2.2.2.2.2.2.2.2.1)
  (I:=fun d:TL qZ.σs=>∃j:Nat,j<=m.addr.toNat/\d=(acc,((k:Int),(dz m.word j,((j:Int),nt n ())))))
  (Q:=fun o:Out tN=>o=(acc,((k:Int),(dz m.word m.addr.toNat,nt n ()))))
  (fun d:TL qZ.σs=>m.addr.toNat-Int.toNat d.2.2.2.1) ?_ NN (acc,((k:Int),(m.word,((0:Int),nt n ())))) ⟨0,by omega,rfl⟩ (bA (by show m.addr.toNat-_<=_;omega))
 .obtain⟨o,ho,rfl⟩:=hq;exact ho
 .rintro d ⟨j,hj,rfl⟩;have e0:(gt ab (n.aa.map aq) (k:Int)).1=m.addr:=by rw[g];rfl
  by_cases q:j<m.addr.toNat
  .have c0:iL (j:Int) (gt ab (n.aa.map aq) (k:Int)).1=true:=aj (by rw[e0];omega);have lo:=yC h2 j;have up:=FY h3 j;by_cases r:dz m.word j<1000
   .refine .inr ⟨(acc,((k:Int),(dz m.word (j+1),(((j+1:Nat):Int),nt n ())))),?_,⟨j+1,by omega,rfl⟩,by show m.addr.toNat-Int.toNat ((j+1:Nat):Int)<m.addr.toNat-Int.toNat (j:Int);omega⟩;have e:∀(a b p q:Int),a=b->p=q->(some (.inl (acc,((k:Int),(a,(p,nt n ()))))):Option (TL qZ.σs⊕Out tN))=some (.inl (acc,((k:Int),(b,(q,nt n ()))))):=by rintro _ _ _ _ rfl rfl;rfl
    refine ak aT (ao c0 (ao (show aQ true (iL (dz m.word j) (1000:Int)) false=true from aj r) (e _ _ _ _ ?_ (bG (show(j:Int)+1=((j+1:Nat):Int) by omega) (by omega)))));rw[dz,if_pos r];exact bK (x:=2*dz m.word j) (by omega)
   .refine .inl ⟨_,ak aT (ao c0 (af (show aQ true (iL (dz m.word j) (1000:Int)) false=false from av r) rfl)),?_⟩;have:=acK (w:=m.word) (k:=j) (by omega) (m.addr.toNat-j);rw[show j+(m.addr.toNat-j)=m.addr.toNat by omega]at this;rw[this];rfl
  .obtain rfl:j=m.addr.toNat:=by omega
   exact .inl ⟨_,ak aT (af (av (show ¬((m.addr.toNat:Nat):Int)<(gt ab (n.aa.map aq) (k:Int)).1 by rw[e0];omega)) rfl),rfl⟩
theorem afh:O5 ((0:Int),((0:Int),nt n ()))=some (k7 n.aa,()):=by
 have hM:=hs.lens.2.2.2.2;have hL:((n.aa.map aq).length:Int)=(n.aa.length:Int):=by rw[List.length_map]
 unfold O5;delta lH;refine cP (fun k:Nat=>(k7 (n.aa.take k),((k:Int),nt n ()))) n.aa.length rfl ?_ ?_ (bA (by omega))
 .intro k hk;have hx:=List.getElem?_eq_getElem hk;have hx':(n.aa.map aq)[k]?=some (aq n.aa[k]):=by rw[List.getElem?_map,hx];rfl
  have g:gt ab (n.aa.map aq) (k:Int)=aq n.aa[k]:=bn (σ:=ab) hx';obtain⟨h1,h2,h3⟩:=mI hs _ (List.getElem_mem hk);have lo:=yC h2 n.aa[k].addr.toNat;have up:=FY h3 n.aa[k].addr.toNat;have e9:Et (k7 (n.aa.take k),((k:Int),((gt ab (n.aa.map aq) (k:Int)).2.1,((0:Int),nt n ()))))=some (k7 (n.aa.take k),((k:Int),(dz n.aa[k].word n.aa[k].addr.toNat,nt n ()))):=by rw[g];exact afi hs hx _
  have hr:0<=k7 (n.aa.take k)/\k7 (n.aa.take k)<=0+2000*((n.aa.take k).length:Int):=adt (n.aa.take k) 0 (fun m hm=>mI hs m (List.mem_of_mem_take hm));have hl:(n.aa.take k).length<=4:=by rw[List.length_take];omega
  have hst:k7 (n.aa.take (k+1))=k7 (n.aa.take k)+dz n.aa[k].word n.aa[k].addr.toNat:=by unfold k7;rw[Pl.dm hx,List.foldl_append];rfl
  have e:∀(a b p q:Int),a=b->p=q->(some (.inl (a,(p,nt n ()))):Option (TL xr.σs⊕Out xm))=some (.inl (b,(q,nt n ()))):=by rintro _ _ _ _ rfl rfl;rfl
  refine ao (aj (show(k:Int)<((n.aa.map aq).length:Int) by omega)) (ak (show aw (k:Int) (List.length (n.aa.map aq))=true from aN ⟨by omega,by omega⟩) (ag e9 (e _ _ _ _ ?_ (bG (show(k:Int)+1=((k+1:Nat):Int) by omega) (by omega)))));rw[hst];exact bK (x:=k7 (n.aa.take k)+dz n.aa[k].word n.aa[k].addr.toNat) (by omega)
 .rw[List.take_length];exact af (av (show ¬(n.aa.length:Int)<((n.aa.map aq).length:Int) by omega)) rfl
end
section
variable{n:ax}(ft:Fit n)
include ft
theorem uh:aa6 (bc n,())=some (dF n,()):=by
 have ec:=po ft;unfold dF;by_cases hc:Pl.cL n=0
 .rw[if_neg (fun q=>q hc)];unfold Pl.cL at hc;have h0:dt n=0:=by
   by_cases q:dt n=0
   .exact q
   .rw[if_pos q]at hc;exact absurd hc q
  obtain⟨V,hs⟩:=oP h0;have eb:=acC hs;have hc':Pl.cL n=0:=by unfold Pl.cL;exact hc
  have e:∀(a b:Int),a=b->(some (a,()):Option (TL yb))=some (b,()):=by rintro _ _ rfl;rfl
  refine ag ec (af (df (aj hc')) (ag eb (e _ _ ?_)));show cQ (iL (1000:Int) (jc (dZ n.aa))) (1000:Int) (jc (dZ n.aa))=_;rw[FV];unfold jc;split
  .rfl
  .rfl
 .rw[if_pos hc];exact ag ec (ao (fD (av hc)) rfl)
theorem FD:aam (bc n,())=some (dF n,()):=by
 have ec:=DW ft;unfold dF;by_cases hc:Pl.cL n=0
 .rw[if_neg (fun q=>q hc)];have hc':=hc;unfold Pl.cL at hc;have h0:dt n=0:=by
   by_cases q:dt n=0
   .exact q
   .rw[if_pos q]at hc;exact absurd hc q
  obtain⟨V,hs⟩:=oP h0;have e5:=afh hs;have e:∀(a b:Int),a=b->(some (a,()):Option (TL xB))=some (b,()):=by rintro _ _ rfl;rfl
  refine ag ec (af (df (aj hc')) (ag e5 (e _ _ ?_)));show cQ (iL (1000:Int) (k7 n.aa)) (1000:Int) (k7 n.aa)=_;rw[FV];exact(acG (adu n.aa 0 0 (mI hs) (.inl rfl) (by omega) (by omega))).symm
 .rw[if_pos hc];exact ag ec (ao (fD (av hc)) rfl)
end
def jM(m:bC)(c:List aO)(a:Nat):List Bool:=bN (rd c ((a:Nat):Int)).toNat m.word.toNat
def fQ(m:bC)(c:List aO)(k:Nat):List Bool:=(List.range k).flatMap (jM m c)
theorem yJ(L:List Bool)(h:L.length<=100000):room 1 (List.length ([]++L))=true:=by rw[List.nil_append];exact kr (by omega) (by omega)
def mz:bC:=⟨0,0,false,[],[]⟩
def fH(n:ax)(ls:List Bool)(cs:List (List aO))(k:Nat):List Bool:=ls++(List.range k).flatMap fun i=>fQ (n.aa.getD i mz) (cs.getD i []) (2^(n.aa.getD i mz).addr.toNat)
theorem yr(m:bC)(c:List aO)(k:Nat):fQ m c (k+1)=fQ m c k++jM m c k:=by unfold fQ;rw[List.range_succ,List.flatMap_append];simp
theorem ui(m:bC)(c:List aO):∀k,(fQ m c k).length=k*m.word.toNat:=by
 intro k
 induction k with|zero=>simp[fQ]|succ k ih=>rw[yr,List.length_append,ih,Nat.succ_mul];unfold jM;rw[j7]
theorem uj(n:ax)(ls:List Bool)(cs:List (List aO)){k:Nat}{m:bC}{c:List aO}(hm:n.aa[k]?=some m)(hc:cs[k]?=some c):fH n ls cs (k+1)=fH n ls cs k++fQ m c (2^m.addr.toNat):=by unfold fH;rw[List.range_succ,List.flatMap_append,<-List.append_assoc];congr 1;simp only[List.flatMap_cons,List.flatMap_nil,List.append_nil];rw[List.getD_eq_getElem?_getD,List.getD_eq_getElem?_getD,hm,hc];rfl
theorem afX(c:List aO)(a:Int):rd c a=0\/∃p∈c,rd c a=p.2.1:=by
 induction c with
 |nil=>exact .inl rfl|cons p c ih=>
  rw[Lb];by_cases q:p.1=a
  .rw[if_pos q];exact .inr ⟨p,by simp,rfl⟩
  .rw[if_neg q];rcases ih with h|⟨r,hr,h⟩
   .exact .inl h
   .exact .inr ⟨r,by simp[hr],h⟩
theorem QS{c:List aO}{i:Nat}{p:aO}(h:c[i]?=some p):dH c (i:Int)=p.1/\gY c (i:Int)=p.2.1:=by have g:gt aC c (i:Int)=p:=bn (σ:=aC) h;unfold dH gY;rw[g];exact⟨rfl,rfl⟩
theorem R8{c:List aO}(h:pE c)(a:Int):0<=rd c a/\rd c a<=18446744073709551615:=by
 rcases afX c a with e|⟨p,hp,e⟩
 .omega
 .obtain⟨i,hi⟩:=List.getElem?_of_mem hp;have hw:=(h i (dy hi)).2;rw[(QS hi).2]at hw;omega
structure Small(m:bC):Prop where
 a1:1<=m.addr
 a2:m.addr<10
 w1:1<=m.word
 w2:m.word<=64
 sz:m.word*2^m.addr.toNat<=64
theorem Small.nat{m:bC}(h:Small m):2^m.addr.toNat*m.word.toNat<=64/\1<=2^m.addr.toNat:=by
 have hp:(1:Nat)<=2^m.addr.toNat:=Nat.pos_of_ne_zero (by simp);refine⟨?_,hp⟩;have e:((2^m.addr.toNat*m.word.toNat:Nat):Int)=m.word*2^m.addr.toNat:=by
  push_cast
  rw[show((m.word.toNat:Nat):Int)=m.word by have:=h.w1;omega,Int.mul_comm]
 have:=h.sz;omega
theorem Small.iM{m:bC}(h:Small m):2^m.addr.toNat<=64:=by have h1:=h.nat.1;have h2:2^m.addr.toNat*1<=2^m.addr.toNat*m.word.toNat:=Nat.mul_le_mul_left _ (by have:=h.w1;omega);omega
theorem acS:∀(l:List bC) (a:Int),(∀m∈l,1<=m.addr/\1<=m.word/\m.word<=64)->∀m∈l,a+tP m<=l.foldl (fun a m=>a+tP m) a:=by
 intro l
 induction l with
 |nil=>intro a _ m hm;cases hm
 |cons x l ih=>
  intro a hl m hm;obtain⟨h1,h2,h3⟩:=hl x (by simp);have t:=yK h1 h2 h3;have hl':∀m∈l,1<=m.addr/\1<=m.word/\m.word<=64:=fun y hy=>hl y (by simp[hy]);rw[List.foldl_cons];rcases List.mem_cons.1 hm with rfl|hm
  .exact(yA l (a+tP m) hl').1
  .have:=ih (a+tP x) hl' m hm;omega
section
variable{n:ax}{V:Nat}(hs:cq n V)
include hs
theorem FQ(h:jc (dZ n.aa)<=64):∀m∈n.aa,Small m:=by
 intro m hm;have h2:dZ n.aa<=64:=by unfold jc at h;split at h<;>omega
 have h3:=acS n.aa 0 (mI hs) m hm;have h3:0+tP m<=dZ n.aa:=h3;obtain⟨m1,m2,m3⟩:=mI hs m hm;unfold tP at h3;by_cases q:10<=m.addr
 .rw[if_pos q]at h3;omega
 .rw[if_neg q]at h3;exact⟨m1,by omega,m2,m3,by omega⟩
end
section
variable{n:ax}{V:Nat}
theorem Rp(ls:List Bool)(cs:List (List aO))(hsm:∀m∈n.aa,Small m):∀k,k<=n.aa.length->k<=cs.length->(fH n ls cs k).length<=ls.length+64*k:=by
 intro k
 induction k with|zero=>intro _ _;simp[fH]|succ k ih=>intro hk hc;have hx:=List.getElem?_eq_getElem (l:=n.aa) (i:=k) (by omega);have hy:=List.getElem?_eq_getElem (l:=cs) (i:=k) (by omega);rw[uj n ls cs hx hy,List.length_append,ui];have:=(hsm _ (List.getElem_mem (show k<n.aa.length by omega))).nat.1;have:=ih (by omega) (by omega);omega
end
section
variable{n:ax}{V:Nat}
theorem QQ{m:bC}(h:Small m):IntKind.wrap .u64 ((1:Int)*(HPow.hPow (2:Int) (Min.min (Int.toNat m.addr) 64)))=((2^m.addr.toNat:Nat):Int):=by
 have h1:=h.a2;have h2:=h.a1;rw[Nat.min_eq_left (by omega),Int.one_mul];have hc:=h.iM;have e:((2^m.addr.toNat:Nat):Int)=(2:Int)^m.addr.toNat:=by push_cast;rfl
 have hp:(0:Int)<=(2:Int)^m.addr.toNat:=Int.le_of_lt (Int.pow_pos (by decide));have hc':(2:Int)^m.addr.toNat<=64:=by exact_mod_cast hc
 rw[e];exact jE ⟨hp,by omega⟩
end
section
variable{n:ax}{V:Nat}
theorem af5{k:Nat}{m:bC}{c:List aO}(hm:Small m)(hc:pE c)(L:Int)(ls:List Bool)(cs:List (List aO))(acc:List Bool)(hacc:acc.length<=1000000)(ra:Int) :
  tX (n.aa.map aq,(L,((k:Int),(((2^m.addr.toNat:Nat):Int),((0:Int),(ls,(cs,(acc,(m.addr,(m.word,(m.any,(m.reads.map dv,(m.writes.map dK,(ra,(m.word,(c,())))))))))))))))) =
   some (n.aa.map aq,(L,((k:Int),(ls,(cs,(acc++fQ m c (2^m.addr.toNat),())))))):=by
 have hn:=hm.nat;have hcn:=hm.iM;unfold tX;delta u16;refine cP (fun j:Nat=>(n.aa.map aq,(L,((k:Int),(((2^m.addr.toNat:Nat):Int),((j:Int),(ls,(cs,(acc++fQ m c j,(m.addr,(m.word,(m.any,(m.reads.map dv,(m.writes.map dK,(ra,(m.word,(c,()))))))))))))))))) (2^m.addr.toNat) (by have h:acc++fQ m c 0=acc:=List.append_nil acc;dsimp only;rw[h];try rfl) ?_ ?_ (bA (by omega))
 .intro j hj;have hr:=R8 hc (j:Int);have e1:tt ((j:Int),(ra,(m.word,(c,()))))=some (rd c (j:Int),(ra,(m.word,(c,())))):=by
   have e:∀p q:Int,p=q->(some (p,(ra,(m.word,(c,())))):Option (Out wu))=some (q,(ra,(m.word,(c,())))):=by rintro _ _ rfl;rfl
   exact e _ _ (um c (j:Int))
  have hw1:=hm.w1;have hw2:=hm.w2;have e2:iZ (rd c (j:Int),(m.word,()))=some (jM m c j,()):=by have:=oB (rd c (j:Int)).toNat m.word.toNat (by omega) (by omega);rw[show(((rd c (j:Int)).toNat:Nat):Int)=rd c (j:Int) by omega,show((m.word.toNat:Nat):Int)=m.word by omega]at this;exact this
  have hl:(fQ m c j).length<=64:=by rw[ui];have:j*m.word.toNat<=2^m.addr.toNat*m.word.toNat:=Nat.mul_le_mul_right _ (by omega);omega
  have hwl:(jM m c j).length<=64:=by unfold jM;rw[j7];omega
  have hroom:room 1 (List.length ((acc++fQ m c j)++jM m c j))=true:=by rw[List.length_append,List.length_append];exact kr (by omega) (by omega)
  have ht:(acc++fQ m c j)++jM m c j=acc++fQ m c (j+1):=by rw[yr,List.append_assoc]
  have e:∀(a b:List Bool) (p q:Int),a=b->p=q->(some (.inl (n.aa.map aq,(L,((k:Int),(((2^m.addr.toNat:Nat):Int),(p,(ls,(cs,(a,(m.addr,(m.word,(m.any,(m.reads.map dv,(m.writes.map dK,(ra,(m.word,(c,())))))))))))))))) ):Option (TL xQ.σs⊕Out xM))=some (.inl (n.aa.map aq,(L,((k:Int),(((2^m.addr.toNat:Nat):Int),(q,(ls,(cs,(b,(m.addr,(m.word,(m.any,(m.reads.map dv,(m.writes.map dK,(ra,(m.word,(c,())))))))))))))))) ):=by rintro _ _ _ _ rfl rfl;rfl
  exact ao (aj (show(j:Int)<((2^m.addr.toNat:Nat):Int) by omega)) (ag e1 (ak (aj rfl) (ag e2 (ak hroom (e _ _ _ _ ht (jE (x:=(j:Int)+1) (by omega)))))))
 .exact af (av (show ¬((2^m.addr.toNat:Nat):Int)<((2^m.addr.toNat:Nat):Int) by omega)) rfl
end
section
variable{n:ax}{V:Nat}(hs:cq n V)
include hs
theorem alN(ls:List Bool)(cs:List (List aO))(hsm:∀m∈n.aa,Small m)(hok:nC cs)(hf:dX (bc n) (ls,(cs,()))=true)(hl:ls.length<=100000) :
  PX (n.aa.map aq,(((n.aa.map aq).length:Int),((0:Int),(ls,(cs,(ls,()))))))=some (fH n ls cs n.aa.length,()):=by
 have hM:=hs.lens.2.2.2.2;have hL:((n.aa.map aq).length:Int)=(n.aa.length:Int):=by rw[List.length_map]
 unfold dX at hf;simp only[Bool.and_eq_true,decide_eq_true_eq]at hf;obtain⟨⟨f1,f2⟩,f3⟩:=hf;have f2:cs.length=n.aa.length:=f2.trans (List.length_map ..);have f3:(List.range (n.aa.map aq).length).all (jv (n.aa.map aq) cs)=true:=f3;unfold PX;delta u6;refine cP (fun k:Nat=>(n.aa.map aq,(((n.aa.map aq).length:Int),((k:Int),(ls,(cs,(fH n ls cs k,()))))))) n.aa.length (by have h:fH n ls cs 0=ls:=List.append_nil ls;dsimp only;rw[h];try rfl) ?_ ?_ (bA (by omega))
 .intro k hk;obtain⟨m,hm⟩:∃m,n.aa[k]?=some m:=⟨_,List.getElem?_eq_getElem hk⟩;obtain⟨c,hc⟩:∃c,cs[k]?=some c:=⟨_,List.getElem?_eq_getElem (by omega)⟩;have hmm:=List.mem_of_getElem? hm;have sm:=hsm m hmm;have hm':(n.aa.map aq)[k]?=some (aq m):=by rw[List.getElem?_map,hm];rfl
  have g1:gt ab (n.aa.map aq) (k:Int)=aq m:=bn (σ:=ab) hm';have g2:gt (.sl aC) cs (k:Int)=c:=bn (σ:=.sl aC) hc;have hp:=(List.all_eq_true.1 f3) k (List.mem_range.2 (by rw[List.length_map];exact hk));unfold jv at hp;rw[g1,g2]at hp;have hp:ik m.addr m.word c=true:=hp;have e4:=Oq m.addr m.word c;rw[hp]at e4;have e4':wy ((gt ab (n.aa.map aq) (k:Int)).1,((gt ab (n.aa.map aq) (k:Int)).2.1,(gt (.sl aC) cs (k:Int),())))=some (.inr ((0:Int),(m.addr,(m.word,(c,()))))):=by rw[g1,g2];exact e4
  have hsl:=Rp ls cs hsm k (by omega) (by omega);have e13:=af5 (n:=n) (k:=k) sm (hok c (List.mem_of_getElem? hc)) ((n.aa.map aq).length:Int) ls cs (fH n ls cs k) (by omega) m.addr;have e13':tX (n.aa.map aq,(((n.aa.map aq).length:Int),((k:Int),((IntKind.wrap .u64 ((1:Int)*(HPow.hPow (2:Int) (Min.min (Int.toNat (gt ab (n.aa.map aq) (k:Int)).1) 64)))),((0:Int),(ls,(cs,(fH n ls cs k,((gt ab (n.aa.map aq) (k:Int)).1,((gt ab (n.aa.map aq) (k:Int)).2.1,((gt ab (n.aa.map aq) (k:Int)).2.2.1,((gt ab (n.aa.map aq) (k:Int)).2.2.2.1,((gt ab (n.aa.map aq) (k:Int)).2.2.2.2.1,(m.addr,(m.word,(c,())))))))))))))))) =
   some (n.aa.map aq,(((n.aa.map aq).length:Int),((k:Int),(ls,(cs,(fH n ls cs k++fQ m c (2^m.addr.toNat),())))))):=by
   rw[g1];have:=QQ sm;show tX (n.aa.map aq,(((n.aa.map aq).length:Int),((k:Int),((IntKind.wrap .u64 ((1:Int)*(HPow.hPow (2:Int) (Min.min (Int.toNat m.addr) 64)))),_))))=_;rw[this];exact e13
  have hc0:iE (0:Int) (gt ab (n.aa.map aq) (k:Int)).1=true:=aj (by rw[g1];have:=sm.a1;show(0:Int)<=m.addr;omega);have e:∀(a b:List Bool) (p q:Int),a=b->p=q->(some (.inl (n.aa.map aq,(((n.aa.map aq).length:Int),(p,(ls,(cs,(a,()))))))):Option (TL xV.σs⊕Out xR))=some (.inl (n.aa.map aq,(((n.aa.map aq).length:Int),(q,(ls,(cs,(b,()))))))):=by rintro _ _ _ _ rfl rfl;rfl
  exact ao (aj (show(k:Int)<((n.aa.map aq).length:Int) by omega)) (ak (show aw (k:Int) (List.length (n.aa.map aq))=true from aN ⟨by omega,by omega⟩) (ak (show aw (k:Int) (List.length cs)=true from aN ⟨by omega,by omega⟩) (ag e4' (ak hc0 (ag e13' (e _ _ _ _ (uj n ls cs hm hc).symm (bG (show(k:Int)+1=((k+1:Nat):Int) by omega) (by omega))))))))
 .exact af (av (show ¬(n.aa.length:Int)<((n.aa.map aq).length:Int) by omega)) rfl
theorem af1{k:Nat}{m:bC}{c:List aO}(hmk:n.aa[k]?=some m)(hck:∀cs:List (List aO),cs[k]?=some c->True)(hm:Small m)(hc:pE c)(hcl:c.length<=100000)(ls:List Bool)(cs:List (List aO))(hcs:cs[k]?=some c)(acc:List Bool)(hacc:acc.length<=1000000) :
  Eg ((k:Int),((0:Int),nt n (ls,(cs,(acc,())))))=some ((k:Int),nt n (ls,(cs,(acc++fQ m c (2^m.addr.toNat),())))):=by
 have hn:=hm.nat;have hcn:=hm.iM;have hk:=dy hmk;have hM:=hs.lens.2.2.2.2;have hm':(n.aa.map aq)[k]?=some (aq m):=by rw[List.getElem?_map,hmk];rfl
 have g1:gt ab (n.aa.map aq) (k:Int)=aq m:=bn (σ:=ab) hm';have g2:gt (.sl aC) cs (k:Int)=c:=bn (σ:=.sl aC) hcs;have aT:aw (k:Int) (List.length (n.aa.map aq))=true:=aN ⟨by omega,by rw[List.length_map];omega⟩;have hin2:aw (k:Int) (List.length cs)=true:=aN ⟨by omega,by have:k<List.length (α:=List aO) cs:=dy hcs;omega⟩;have a1:=hm.a1;have a2:=hm.a2;have hfit:∀j:Nat,j<=2^m.addr.toNat->qE ((j:Int),((gt ab (n.aa.map aq) (k:Int)).1,()))=some (decide (j<2^m.addr.toNat),()):=by
  intro j hj;rw[g1];have:=tA (v:=(j:Int)) (w:=m.addr) ⟨by omega,by omega⟩ ⟨by omega,by omega⟩;refine this.trans ?_;have e:∀p q:Bool,p=q->(some (p,()):Option (TL wq))=some (q,()):=by rintro _ _ rfl;rfl
  refine e _ _ ?_;unfold ir;have hp:((2^m.addr.toNat:Nat):Int)=(2:Int)^m.addr.toNat:=by push_cast;rfl
  by_cases q:j<2^m.addr.toNat
  .rw[decide_eq_true q,decide_eq_true];exact Int.ediv_eq_zero_of_lt (by omega) (by omega)
  .obtain rfl:j=2^m.addr.toNat:=by omega
   rw[decide_eq_false q,hp,decide_eq_false];rw[Int.ediv_self (by omega)];omega
 unfold Eg;delta nF;refine cP (fun j:Nat=>((k:Int),((j:Int),nt n (ls,(cs,(acc++fQ m c j,())))))) (2^m.addr.toNat) (by have h:acc++fQ m c 0=acc:=List.append_nil acc;dsimp only;rw[h];try rfl) ?_ ?_ (bA (by omega))
 .intro j hj;have e0:=hfit j (by omega);rw[decide_eq_true hj]at e0;have hr:=R8 hc (j:Int);have hw1:=hm.w1;have hw2:=hm.w2;have e1:I6 (gt (.sl aC) cs (k:Int),((j:Int),()))=some (rd c (j:Int),()):=by rw[g2];exact alr c (j:Int) hcl
  have e2:I2 (rd c (j:Int),((gt ab (n.aa.map aq) (k:Int)).2.1,()))=some (jM m c j,()):=by rw[g1];have:=alh (rd c (j:Int)).toNat m.word.toNat (by omega) (by omega);rw[show(((rd c (j:Int)).toNat:Nat):Int)=rd c (j:Int) by omega,show((m.word.toNat:Nat):Int)=m.word by omega]at this;exact this
  have hl:(fQ m c j).length<=64:=by rw[ui];have:j*m.word.toNat<=2^m.addr.toNat*m.word.toNat:=Nat.mul_le_mul_right _ (by omega);omega
  have hwl:(jM m c j).length<=64:=by unfold jM;rw[j7];omega
  have hroom:room 1 (List.length ((acc++fQ m c j)++jM m c j))=true:=by rw[List.length_append,List.length_append];exact kr (by omega) (by omega)
  have ht:(acc++fQ m c j)++jM m c j=acc++fQ m c (j+1):=by rw[yr,List.append_assoc]
  have e:∀(a b:List Bool) (p q:Int),a=b->p=q->(some (.inl ((k:Int),(p,nt n (ls,(cs,(a,())))))):Option (TL xn.σs⊕Out xj))=some (.inl ((k:Int),(q,nt n (ls,(cs,(b,())))))):=by rintro _ _ _ _ rfl rfl;rfl
  exact ak aT (ag e0 (ao rfl (ak hin2 (ak aT (ag e1 (ag e2 (ak hroom (e _ _ _ _ ht (jE (x:=(j:Int)+1) (by omega))))))))))
 .have e0:=hfit (2^m.addr.toNat) (Nat.le_refl _);rw[decide_eq_false (by omega)]at e0;exact ak aT (ag e0 (af rfl rfl))
theorem alM(ls:List Bool)(cs:List (List aO))(hsm:∀m∈n.aa,Small m)(hok:nC cs)(hcs:cs.length=n.aa.length)(hcl:∀c∈cs,c.length<=100000)(hl:ls.length<=100000) :
  Pa ((0:Int),nt n (ls,(cs,(ls,()))))=some (fH n ls cs n.aa.length,()):=by
 have hM:=hs.lens.2.2.2.2;have hL:((n.aa.map aq).length:Int)=(n.aa.length:Int):=by rw[List.length_map]
 unfold Pa;delta jY;refine cP (fun k:Nat=>((k:Int),nt n (ls,(cs,(fH n ls cs k,()))))) n.aa.length (by have h:fH n ls cs 0=ls:=List.append_nil ls;dsimp only;rw[h];try rfl) ?_ ?_ (bA (by omega))
 .intro k hk;obtain⟨m,hm⟩:∃m,n.aa[k]?=some m:=⟨_,List.getElem?_eq_getElem hk⟩;obtain⟨c,hc⟩:∃c,cs[k]?=some c:=⟨_,List.getElem?_eq_getElem (by omega)⟩;have sm:=hsm m (List.mem_of_getElem? hm);have hsl:=Rp ls cs hsm k (by omega) (by omega);have e11:=af1 hs hm (fun _ _=>trivial) sm (hok c (List.mem_of_getElem? hc)) (hcl c (List.mem_of_getElem? hc)) ls cs hc (fH n ls cs k) (by omega);have e:∀(a b:List Bool) (p q:Int),a=b->p=q->(some (.inl (p,nt n (ls,(cs,(a,()))))):Option (TL xt.σs⊕Out xo))=some (.inl (q,nt n (ls,(cs,(b,()))))):=by rintro _ _ _ _ rfl rfl;rfl
  exact ao (aj (show(k:Int)<((n.aa.map aq).length:Int) by omega)) (ag e11 (e _ _ _ _ (uj n ls cs hm hc).symm (bG (show(k:Int)+1=((k+1:Nat):Int) by omega) (by omega))))
 .exact af (av (show ¬(n.aa.length:Int)<((n.aa.map aq).length:Int) by omega)) rfl
end
def gp(n:ax)(ls:List Bool)(cs:List (List aO)):Int×List Bool:=if iS (bc n) (ls,(cs,()))≠0 then(iS (bc n) (ls,(cs,())),[])else if 64<dF n then(17,[])else(0,fH n ls cs n.aa.length)
section
variable{n:ax}
theorem Su{ls:List Bool}{cs:List (List aO)}(h:iS (bc n) (ls,(cs,()))=0):Pl.cL n=0/\dX (bc n) (ls,(cs,()))=true:=by
 unfold iS at h;rw[lE]at h;by_cases q:Pl.cL n=0
 .rw[if_neg (fun w=>w q)]at h;refine⟨q,?_⟩;cases hf:dX (bc n) (ls,(cs,()))with|true=>rfl|false=>rw[hf]at h;simp at h
 .rw[if_pos q]at h;exact absurd h q
end
section
variable{n:ax}
theorem SG(h:Pl.cL n=0):∃V,cq n V/\dF n=jc (dZ n.aa):=by
 have hc:=h;unfold Pl.cL at hc;have h0:dt n=0:=by
  by_cases q:dt n=0
  .exact q
  .rw[if_pos q]at hc;exact absurd hc q
 obtain⟨V,hs⟩:=oP h0;exact⟨V,hs,by unfold dF;rw[if_neg (fun q=>q h)]⟩
end
section
variable{n:ax}(ft:Fit n)
include ft
theorem QH(ls:List Bool)(cs:List (List aO))(hok:nC cs)(hl:ls.length<=100000)(hcl:∀c∈cs,c.length<=100000) :
  yc (nt n (ls,(cs,())))=some ((gp n ls cs).1,((gp n ls cs).2,())) /\
  aap (bc n,((ls,(cs,())),()))=some (((gp n ls cs).2,([],())),((gp n ls cs).1,())):=by
 have ot:Fit (dS (bc n)):=by rw[lE];exact ft
 have hT:List.length (bc n).2.2.2.2.2.2.1<=100000:=by show(n.aa.map aq).length<=_;rw[List.length_map];have:=ft.aa.1;omega
 have e1:=Zy6 (bc n) (ls,(cs,())) ot hT;have e2:=Zya (bc n) (ls,(cs,())) ot hT hok;have c1:=uh ft;have c2:=FD ft;unfold gp;by_cases h0:iS (bc n) (ls,(cs,()))=0
 .rw[if_neg (fun q=>q h0)];obtain⟨hc,hf⟩:=Su h0;obtain⟨V,hs,hcl2⟩:=SG hc;by_cases h1:64<dF n
  .rw[if_pos h1];exact⟨ag e1 (af (df (aj h0)) (ag c1 (ao (aj h1) rfl))),ag e2 (af (df (aj h0)) (ag c2 (ao (aj h1) rfl)))⟩
  .rw[if_neg h1];have hsm:=FQ hs (by rw[<-hcl2];omega);have e8:=alN hs ls cs hsm hok hf hl;have hcs:cs.length=n.aa.length:=by unfold dX at hf;simp only[Bool.and_eq_true,decide_eq_true_eq]at hf;exact hf.1.2.trans (List.length_map ..)
   have r8:=alM hs ls cs hsm hok hcs hcl hl;have hcb:I1 (ls,())=some (ls,()):=ak (yJ ls hl) rfl;refine⟨ag e1 (af (df (aj h0)) (ag c1 (af (av h1) (ag hcb (ag e8 rfl))))),ag e2 (af (df (aj h0)) (ag c2 (af (av h1) (ak (yJ ls hl) (ag r8 rfl)))))⟩
 .rw[if_pos h0];exact⟨ag e1 (ao (fD (av h0)) rfl),ag e2 (ao (fD (av h0)) rfl)⟩
end
theorem yP{a b:Bool}(h1:a=true)(h2:b=true):both a b=true:=by subst h1;subst h2;rfl
theorem Rt{l:List Bool}{k n:Nat}(h:k<=n):(l.take k).length<=n:=by rw[List.length_take];omega
theorem Ft(l:List Bool)(hl:l.length<=64):uf (l,())=some ((cp l:Int),()):=by
 have s:cQ (iL (64:Int) (Int.ofNat (List.length l))) (64:Int) (Int.ofNat (List.length l))=Int.ofNat (List.length l):=by
  unfold cQ;rw[show iL (64:Int) (Int.ofNat (List.length l))=false from av (show ¬(64:Int)<((l.length:Nat):Int) by omega)]
  try rfl
 have ht:List.take (Int.toNat (Int.ofNat (List.length l))) l=l:=by show List.take l.length l=l;exact List.take_length
 have eL:ym ((0:Int),(l,(((l.length:Nat):Int),((0:Int),()))))=some ((cp l:Int),()):=by
  unfold ym;delta u4;refine cP (fun k:Nat=>((cp (l.take k):Int),(l,(((l.length:Nat):Int),((k:Int),()))))) l.length rfl ?_ ?_ (bA (by omega))
  .intro k hk;have hx:=List.getElem?_eq_getElem hk;have ht:l.take (k+1)=l.take k++[l[k]]:=Pl.dm hx;have hk2:(l.take k).length=k:=by rw[List.length_take];omega
   have hw:=lZ (l.take k);rw[hk2]at hw;have e:∀(a b p q:Int),a=b->p=q->(some (.inl (a,(l,(((l.length:Nat):Int),(p,()))))):Option (TL ye.σs⊕Out x9))=some (.inl (b,(l,(((l.length:Nat):Int),(q,()))))):=by rintro _ _ _ _ rfl rfl;rfl
   refine ao (aj (show(k:Int)<((l.length:Nat):Int) by omega)) (ak (show aw (k:Int) (List.length l)=true from aN ⟨by omega,by omega⟩) ?_);have g:gt .bool l (k:Int)=l[k]:=bn (σ:=.bool) hx;have hz:=Re (i:=k) (w:=cp (l.take k)) (by omega) hw;have hs:(cp (l.take (k+1)):Int)=((cp (l.take k)+(if l[k]then 2^k else 0):Nat):Int):=by rw[ht,KX,hk2]
   cases hb:l[k]
   .rw[hb]at g hs;exact af g (e _ _ _ _ hs.symm (bG (show(k:Int)+1=((k+1:Nat):Int) by omega) (by omega)))
   .rw[hb]at g hs;exact ao g (ak (aj (show(0:Int)<=(k:Int) by omega)) (e _ _ _ _ (hz.trans hs.symm) (bG (show(k:Int)+1=((k+1:Nat):Int) by omega) (by omega))))
  .rw[List.take_length];exact af (av (show ¬((l.length:Nat):Int)<((l.length:Nat):Int) by omega)) rfl
 have eL':∀l':List Bool,l'=l->ym ((0:Int),(l',(((List.length l':Nat):Int),((0:Int),()))))=some ((cp l:Int),()):=by rintro _ rfl;exact eL
 show FA ym l=_;unfold FA;rw[s];refine ak (yP (aj (show(0:Int)<=((l.length:Nat):Int) by omega)) (aj (show((l.length:Nat):Int)<=((l.length:Nat):Int) by omega))) (ag (eL' _ ht) rfl)
def cellAt(w:Nat)(l:List Bool)(a:Nat):Nat:=cp ((l.drop (a*w)).take w)
def fV(w:Nat)(l:List Bool)(k:Nat):List aO:=(List.range k).flatMap (fun a=>if cellAt w l a=0 then[]else[((a:Int),((cellAt w l a:Int),()))])
def fW(m:bC):Nat:=2^m.addr.toNat*m.word.toNat
def j9(L:List bC):Nat:=L.foldl (fun a m=>a+fW m) 0
def cD(n:ax)(k:Nat):Nat:=j9 (n.aa.take k)
def eJ(n:ax)(l:List Bool)(k:Nat):List (List aO):=(List.range k).map fun i=>fV (n.aa.getD i mz).word.toNat (l.drop (cD n i)) (2^(n.aa.getD i mz).addr.toNat)
theorem yv(w:Nat)(l:List Bool)(k:Nat):fV w l (k+1)=fV w l k++(if cellAt w l k=0 then[]else[((k:Int),((cellAt w l k:Int),()))]):=by unfold fV;rw[List.range_succ,List.flatMap_append];simp
theorem FR(w:Nat)(l:List Bool):∀k,(fV w l k).length<=k:=by
 intro k
 induction k with|zero=>simp[fV]|succ k ih=>rw[yv,List.length_append];split<;>simp<;>omega
theorem FU(n:ax)(l:List Bool)(k:Nat):(eJ n l k).length=k:=by simp[eJ]
theorem QR(n:ax)(l:List Bool){k:Nat}{m:bC}(hm:n.aa[k]?=some m):eJ n l (k+1)=eJ n l k++[fV m.word.toNat (l.drop (cD n k)) (2^m.addr.toNat)]:=by unfold eJ;rw[List.range_succ,List.map_append];congr 1;simp only[List.map_cons,List.map_nil];rw[List.getD_eq_getElem?_getD,hm];rfl
theorem rz(n:ax){k:Nat}{m:bC}(hm:n.aa[k]?=some m):cD n (k+1)=cD n k+fW m:=by unfold cD j9;rw[Pl.dm hm,List.foldl_append];rfl
theorem afq{m:bC}(h:Small m):(fW m:Int)=tP m:=by
 unfold fW tP;rw[if_neg (by have:=h.a2;omega)]
 push_cast
 rw[show((m.word.toNat:Nat):Int)=m.word by have:=h.w1;omega,Int.mul_comm]
theorem Q4:∀(L:List bC) (a:Nat),(∀m∈L,Small m)->((L.foldl (fun a m=>a+fW m) a:Nat):Int)=L.foldl (fun a m=>a+tP m) (a:Int):=by
 intro L
 induction L with
 |nil=>intro a _;rfl|cons m L ih=>
  intro a h;have e:=afq (h m (by simp));rw[List.foldl_cons,List.foldl_cons,ih _ (fun x hx=>h x (by simp[hx]))];congr 1
  push_cast
  rw[e]
theorem aci:∀(L:List bC) (a:Nat),a<=L.foldl (fun a m=>a+fW m) a:=by
 intro L
 induction L with|nil=>intro a;exact Nat.le_refl _|cons m L ih=>intro a;rw[List.foldl_cons];exact Nat.le_trans (Nat.le_add_right ..) (ih _)
theorem Rm(n:ax)(k:Nat):cD n k<=j9 n.aa:=by
 unfold cD j9
 conv=>rhs;rw[<-List.take_append_drop k n.aa,List.foldl_append]
 exact aci _ _
theorem yq(l:List Bool)(i w:Nat):(l.drop i).drop w=l.drop (i+w):=by rw[List.drop_drop]
theorem Ry{w a N:Nat}{l:List Bool}(ha:a<N)(h:N*w<=l.length):w<=(l.drop (a*w)).length:=by have:(a+1)*w<=N*w:=Nat.mul_le_mul_right _ (by omega);rw[Nat.succ_mul]at this;rw[List.length_drop];omega
theorem QE(c:List aO)(d:aO)(h:c.length<=1000):room 16 (List.length (c++[d]))=true:=by rw[List.length_append,List.length_cons,List.length_nil];exact kr (by omega) (by omega)
theorem QM(c:List (List aO))(d:List aO)(h:c.length<=1000):room 24 (List.length (c++[d]))=true:=by rw[List.length_append,List.length_cons,List.length_nil];exact kr (by omega) (by omega)
theorem afG{m:bC}(hm:Small m)(T:List (Sh.T ab))(L K:Int)(b1:List Bool)(b2:List (List aO))(an:Bool)(rs:List (Sh.T bO))(ws:List (Sh.T bE))(rest:List Bool)(hr:fW m<=rest.length) :
  tY (rest,(T,(L,(K,(((2^m.addr.toNat:Nat):Int),((0:Int),(b1,(b2,(m.addr,(m.word,(an,(rs,(ws,([],())))))))))))))) =
   some (rest.drop (fW m),(T,(L,(K,(b1,(b2,(fV m.word.toNat rest (2^m.addr.toNat),()))))))):=by
 have hcn:=hm.iM;have hw1:=hm.w1;have hw2:=hm.w2;unfold fW at hr;unfold tY;delta fX;refine cP (fun a:Nat=>(rest.drop (a*m.word.toNat),(T,(L,(K,(((2^m.addr.toNat:Nat):Int),((a:Int),(b1,(b2,(m.addr,(m.word,(an,(rs,(ws,(fV m.word.toNat rest a,()))))))))))))))) (2^m.addr.toNat) (by(have h:rest.drop (0*m.word.toNat)=rest:=by rw[Nat.zero_mul];rfl);dsimp only;rw[h];try rfl) ?_ ?_ (bA (by omega))
 .intro a ha;have hlen:=Ry (w:=m.word.toNat) ha hr;have e1:uf (List.take (Int.toNat m.word) (rest.drop (a*m.word.toNat)),())=some ((cellAt m.word.toNat rest a:Int),()):=Ft _ (Rt (by omega));have hb:both (iE (0:Int) m.word) (iE m.word (Int.ofNat (List.length (rest.drop (a*m.word.toNat)))))=true:=yP (aj (by omega)) (aj (show m.word<=((List.length (rest.drop (a*m.word.toNat)):Nat):Int) by omega));have hd:List.drop (Int.toNat m.word) (rest.drop (a*m.word.toNat))=rest.drop ((a+1)*m.word.toNat):=by rw[yq,Nat.succ_mul]
  have hl:=FR m.word.toNat rest a;have hst:=yv m.word.toNat rest a;have e:∀(r r':List Bool) (p q:Int) (c c':List aO),r=r'->p=q->c=c'->(some (.inl (r,(T,(L,(K,(((2^m.addr.toNat:Nat):Int),(p,(b1,(b2,(m.addr,(m.word,(an,(rs,(ws,(c,()))))))))))))))):Option (TL xU.σs⊕Out xP))=some (.inl (r',(T,(L,(K,(((2^m.addr.toNat:Nat):Int),(q,(b1,(b2,(m.addr,(m.word,(an,(rs,(ws,(c',()))))))))))))))):=by rintro _ _ _ _ _ _ rfl rfl rfl;rfl
  have hu:IntKind.wrap .u64 ((a:Int)+1)=((a+1:Nat):Int):=jE (x:=(a:Int)+1) (by omega);by_cases q:cellAt m.word.toNat rest a=0
  .rw[if_pos q,List.append_nil]at hst;exact ao (aj (show(a:Int)<((2^m.addr.toNat:Nat):Int) by omega)) (ak hb (ag e1 (af (df (aj (show((cellAt m.word.toNat rest a:Nat):Int)=0 by omega))) (ak hb (e _ _ _ _ _ _ hd hu hst.symm)))))
  .rw[if_neg q]at hst;exact ao (aj (show(a:Int)<((2^m.addr.toNat:Nat):Int) by omega)) (ak hb (ag e1 (ao (fD (av (show ¬((cellAt m.word.toNat rest a:Nat):Int)=0 by omega))) (ak (show room 16 (List.length (fV m.word.toNat rest a++[((a:Int),((cellAt m.word.toNat rest a:Int),()))]))=true from QE _ _ (by omega)) (ak hb (e _ _ _ _ _ _ hd hu hst.symm))))))
 .exact af (av (show ¬((2^m.addr.toNat:Nat):Int)<((2^m.addr.toNat:Nat):Int) by omega)) rfl
section
variable{n:ax}{V:Nat}(hs:cq n V)
include hs
theorem afF(hsm:∀m∈n.aa,Small m)(aB:List Bool)(rest:List Bool)(hr:j9 n.aa<=rest.length) :
  EX (rest,(n.aa.map aq,(((n.aa.map aq).length:Int),((0:Int),(aB,([],()))))))=some (aB,(eJ n rest n.aa.length,())):=by
 have hM:=hs.lens.2.2.2.2;have hL:((n.aa.map aq).length:Int)=(n.aa.length:Int):=by rw[List.length_map]
 unfold EX;delta u6;refine cP (fun k:Nat=>(rest.drop (cD n k),(n.aa.map aq,(((n.aa.map aq).length:Int),((k:Int),(aB,(eJ n rest k,()))))))) n.aa.length (by(have h:rest.drop (cD n 0)=rest:=rfl);dsimp only;(try rw[h]);try rfl) ?_ ?_ (bA (by omega))
 .intro k hk;obtain⟨m,hm⟩:∃m,n.aa[k]?=some m:=⟨_,List.getElem?_eq_getElem hk⟩;have sm:=hsm m (List.mem_of_getElem? hm);have hm':(n.aa.map aq)[k]?=some (aq m):=by rw[List.getElem?_map,hm];rfl
  have g1:gt ab (n.aa.map aq) (k:Int)=aq m:=bn (σ:=ab) hm';have ho:=rz n hm;have ho2:=Rm n (k+1);have e16:=afG sm (n.aa.map aq) ((n.aa.map aq).length:Int) (k:Int) aB (eJ n rest k) m.any (m.reads.map dv) (m.writes.map dK) (rest.drop (cD n k)) (by rw[List.length_drop];omega);have e16':tY (rest.drop (cD n k),(n.aa.map aq,(((n.aa.map aq).length:Int),((k:Int),((IntKind.wrap .u64 ((1:Int)*(HPow.hPow (2:Int) (Min.min (Int.toNat (gt ab (n.aa.map aq) (k:Int)).1) 64)))),((0:Int),(aB,(eJ n rest k,((gt ab (n.aa.map aq) (k:Int)).1,((gt ab (n.aa.map aq) (k:Int)).2.1,((gt ab (n.aa.map aq) (k:Int)).2.2.1,((gt ab (n.aa.map aq) (k:Int)).2.2.2.1,((gt ab (n.aa.map aq) (k:Int)).2.2.2.2.1,([],())))))))))))))) =
    some ((rest.drop (cD n k)).drop (fW m),(n.aa.map aq,(((n.aa.map aq).length:Int),((k:Int),(aB,(eJ n rest k,(fV m.word.toNat (rest.drop (cD n k)) (2^m.addr.toNat),()))))))):=by
   rw[g1];have:=QQ sm;show tY (rest.drop (cD n k),(n.aa.map aq,(((n.aa.map aq).length:Int),((k:Int),((IntKind.wrap .u64 ((1:Int)*(HPow.hPow (2:Int) (Min.min (Int.toNat m.addr) 64)))),_)))))=_;rw[this];exact e16
  have hc0:iE (0:Int) (gt ab (n.aa.map aq) (k:Int)).1=true:=aj (by rw[g1];have:=sm.a1;show(0:Int)<=m.addr;omega);have hd:(rest.drop (cD n k)).drop (fW m)=rest.drop (cD n (k+1)):=by rw[yq,ho]
  have hroom:=QM (eJ n rest k) (fV m.word.toNat (rest.drop (cD n k)) (2^m.addr.toNat)) (by rw[FU];omega);have e:∀(r r':List Bool) (p q:Int) (c c':List (List aO)),r=r'->p=q->c=c'->(some (.inl (r,(n.aa.map aq,(((n.aa.map aq).length:Int),(p,(aB,(c,()))))))):Option (TL xT.σs⊕Out xO))=some (.inl (r',(n.aa.map aq,(((n.aa.map aq).length:Int),(q,(aB,(c',()))))))):=by rintro _ _ _ _ _ _ rfl rfl rfl;rfl
  exact ao (aj (show(k:Int)<((n.aa.map aq).length:Int) by omega)) (ak (show aw (k:Int) (List.length (n.aa.map aq))=true from aN ⟨by omega,by omega⟩) (ak hc0 (ag e16' (ak hroom (e _ _ _ _ _ _ hd (bG (show(k:Int)+1=((k+1:Nat):Int) by omega) (by omega)) (QR n rest hm).symm)))))
 .exact af (av (show ¬(n.aa.length:Int)<((n.aa.map aq).length:Int) by omega)) rfl
theorem afW{k:Nat}{m:bC}(hmk:n.aa[k]?=some m)(hm:Small m)(b3:List Bool)(b4:List (List aO))(rest:List Bool)(hr:fW m<=rest.length) :
  Em (rest,((k:Int),((0:Int),nt n (b3,(b4,([],()))))))=some (rest.drop (fW m),((k:Int),nt n (b3,(b4,(fV m.word.toNat rest (2^m.addr.toNat),()))))):=by
 have hcn:=hm.iM;have hw1:=hm.w1;have hw2:=hm.w2;have hk:=dy hmk;have hM:=hs.lens.2.2.2.2;have hm':(n.aa.map aq)[k]?=some (aq m):=by rw[List.getElem?_map,hmk];rfl
 have g1:gt ab (n.aa.map aq) (k:Int)=aq m:=bn (σ:=ab) hm';have gw:(gt ab (n.aa.map aq) (k:Int)).2.1=m.word:=by rw[g1];rfl
 have aT:aw (k:Int) (List.length (n.aa.map aq))=true:=aN ⟨by omega,by rw[List.length_map];omega⟩;have a1:=hm.a1;have a2:=hm.a2;have hfit:∀j:Nat,j<=2^m.addr.toNat->qE ((j:Int),((gt ab (n.aa.map aq) (k:Int)).1,()))=some (decide (j<2^m.addr.toNat),()):=by
  intro j hj;rw[g1];have:=tA (v:=(j:Int)) (w:=m.addr) ⟨by omega,by omega⟩ ⟨by omega,by omega⟩;refine this.trans ?_;have e:∀p q:Bool,p=q->(some (p,()):Option (TL wq))=some (q,()):=by rintro _ _ rfl;rfl
  refine e _ _ ?_;unfold ir;have hp:((2^m.addr.toNat:Nat):Int)=(2:Int)^m.addr.toNat:=by push_cast;rfl
  by_cases q:j<2^m.addr.toNat
  .rw[decide_eq_true q,decide_eq_true];exact Int.ediv_eq_zero_of_lt (by omega) (by omega)
  .obtain rfl:j=2^m.addr.toNat:=by omega
   rw[decide_eq_false q,hp,decide_eq_false];have h2:(2:Int)^m.addr.toNat≠0:=by have:=hm.nat.2;rw[<-hp];omega
   rw[Int.ediv_self h2];omega
 unfold fW at hr;unfold Em;delta fX;refine cP (fun a:Nat=>(rest.drop (a*m.word.toNat),((k:Int),((a:Int),nt n (b3,(b4,(fV m.word.toNat rest a,()))))))) (2^m.addr.toNat) (by(have h:rest.drop (0*m.word.toNat)=rest:=by rw[Nat.zero_mul];rfl);dsimp only;rw[h];try rfl) ?_ ?_ (bA (by omega))
 .intro a ha;have e0:=hfit a (by omega);rw[decide_eq_true ha]at e0;have hlen:=Ry (w:=m.word.toNat) ha hr;have e1:J9 (List.take (Int.toNat (gt ab (n.aa.map aq) (k:Int)).2.1) (rest.drop (a*m.word.toNat)),())=some ((cellAt m.word.toNat rest a:Int),()):=by rw[gw];exact alj _ (Rt (by omega))
  have hb:both (iE (0:Int) (gt ab (n.aa.map aq) (k:Int)).2.1) (iE (gt ab (n.aa.map aq) (k:Int)).2.1 (Int.ofNat (List.length (rest.drop (a*m.word.toNat)))))=true:=by rw[gw];exact yP (aj (by omega)) (aj (show m.word<=((List.length (rest.drop (a*m.word.toNat)):Nat):Int) by omega))
  have hd:List.drop (Int.toNat (gt ab (n.aa.map aq) (k:Int)).2.1) (rest.drop (a*m.word.toNat))=rest.drop ((a+1)*m.word.toNat):=by rw[gw,yq,Nat.succ_mul]
  have hl:=FR m.word.toNat rest a;have hst:=yv m.word.toNat rest a;have e:∀(r r':List Bool) (p q:Int) (c c':List aO),r=r'->p=q->c=c'->(some (.inl (r,((k:Int),(p,nt n (b3,(b4,(c,()))))))):Option (TL xq.σs⊕Out xl))=some (.inl (r',((k:Int),(q,nt n (b3,(b4,(c',()))))))):=by rintro _ _ _ _ _ _ rfl rfl rfl;rfl
  have hu:IntKind.wrap .u64 ((a:Int)+1)=((a+1:Nat):Int):=jE (x:=(a:Int)+1) (by omega);by_cases q:cellAt m.word.toNat rest a=0
  .rw[if_pos q,List.append_nil]at hst;exact ak aT (ag e0 (ao rfl (ak aT (ak hb (ag e1 (ak aT (ak hb (af (df (aj (show((cellAt m.word.toNat rest a:Nat):Int)=0 by omega))) (e _ _ _ _ _ _ hd hu hst.symm)))))))))
  .rw[if_neg q]at hst;exact ak aT (ag e0 (ao rfl (ak aT (ak hb (ag e1 (ak aT (ak hb (ao (fD (av (show ¬((cellAt m.word.toNat rest a:Nat):Int)=0 by omega))) (ak (show room 16 (List.length (fV m.word.toNat rest a++[((a:Int),((cellAt m.word.toNat rest a:Int),()))]))=true from QE _ _ (by omega)) (e _ _ _ _ _ _ hd hu hst.symm))))))))))
 .have e0:=hfit (2^m.addr.toNat) (Nat.le_refl _);rw[decide_eq_false (by omega)]at e0;exact ak aT (ag e0 (af rfl rfl))
theorem afV(hsm:∀m∈n.aa,Small m)(aB:List Bool)(rest:List Bool)(hr:j9 n.aa<=rest.length) :
  El (rest,((0:Int),nt n (aB,([],()))))=some (aB,(eJ n rest n.aa.length,())):=by
 have hM:=hs.lens.2.2.2.2;have hL:((n.aa.map aq).length:Int)=(n.aa.length:Int):=by rw[List.length_map]
 unfold El;delta jY;refine cP (fun k:Nat=>(rest.drop (cD n k),((k:Int),nt n (aB,(eJ n rest k,()))))) n.aa.length (by(have h:rest.drop (cD n 0)=rest:=rfl);dsimp only;(try rw[h]);try rfl) ?_ ?_ (bA (by omega))
 .intro k hk;obtain⟨m,hm⟩:∃m,n.aa[k]?=some m:=⟨_,List.getElem?_eq_getElem hk⟩;have sm:=hsm m (List.mem_of_getElem? hm);have ho:=rz n hm;have ho2:=Rm n (k+1);have e15:=afW hs hm sm aB (eJ n rest k) (rest.drop (cD n k)) (by rw[List.length_drop];omega);have hd:(rest.drop (cD n k)).drop (fW m)=rest.drop (cD n (k+1)):=by rw[yq,ho]
  have hroom:=QM (eJ n rest k) (fV m.word.toNat (rest.drop (cD n k)) (2^m.addr.toNat)) (by rw[FU];omega);have e:∀(r r':List Bool) (p q:Int) (c c':List (List aO)),r=r'->p=q->c=c'->(some (.inl (r,(p,nt n (aB,(c,()))))):Option (TL xp.σs⊕Out xk))=some (.inl (r',(q,nt n (aB,(c',()))))):=by rintro _ _ _ _ _ _ rfl rfl rfl;rfl
  exact ao (aj (show(k:Int)<((n.aa.map aq).length:Int) by omega)) (ag e15 (ak hroom (e _ _ _ _ _ _ hd (bG (show(k:Int)+1=((k+1:Nat):Int) by omega) (by omega)) (QR n rest hm).symm)))
 .exact af (av (show ¬(n.aa.length:Int)<((n.aa.map aq).length:Int) by omega)) rfl
end
def my(n:ax)(ls:List Bool)(cs:List (List aO)):Int×(List Bool×List (List aO)):=
 if Pl.cL n≠0 then(Pl.cL n,([],[]))else if 64<dF n then(17,([],[]))else
 if(ls.length:Int)=(n.au.length:Int)+dF n/\cs.length=0 then(0,(ls.take n.au.length,eJ n (ls.drop n.au.length) n.aa.length))else(14,([],[]))
section
variable{n:ax}(ft:Fit n)
include ft
theorem ab9(ls:List Bool)(cs:List (List aO))(hl:ls.length<=100000) :
  yf (bc n,((ls,(cs,())),()))=some (((my n ls cs).2.1,((my n ls cs).2.2,())),((my n ls cs).1,())) /\
  Po (bc n,((ls,(cs,())),()))=some (((my n ls cs).2.1,((my n ls cs).2.2,())),((my n ls cs).1,())):=by
 have c1:=po ft;have c2:=DW ft;have d1:=uh ft;have d2:=FD ft;have hla:=ft.aB.1;have hL:((n.au.map bL).length:Int)=(n.au.length:Int):=by rw[List.length_map]
 unfold my;by_cases hc:Pl.cL n=0
 .rw[if_neg (fun q=>q hc)];by_cases h1:64<dF n
  .rw[if_pos h1];exact⟨ag c1 (af (df (aj hc)) (ag d1 (ao (aj h1) rfl))),ag c2 (af (df (aj hc)) (ag d2 (ao (aj h1) rfl)))⟩
  .rw[if_neg h1];obtain⟨V,hs,hcl2⟩:=SG hc;have hsm:=FQ hs (by rw[<-hcl2];omega);have hsum:((j9 n.aa:Nat):Int)=dZ n.aa:=Q4 n.aa 0 hsm;have hcells:dF n=dZ n.aa:=by
    rw[hcl2];unfold jc;rw[hcl2]at h1;unfold jc at h1;split at h1
    .omega
    .rename_i q;rw[if_neg q]
   have hw:IntKind.wrap .i64 (((n.au.map bL).length:Int)+dF n)=(n.au.length:Int)+dF n:=by rw[hL];exact bK (by omega)
   by_cases h2:(ls.length:Int)=(n.au.length:Int)+dF n
   .by_cases h3:cs.length=0
    .rw[if_pos ⟨h2,h3⟩];have hdl:j9 n.aa<=(ls.drop n.au.length).length:=by rw[List.length_drop];omega
     have f1:=afF hs hsm (ls.take n.au.length) (ls.drop n.au.length) hdl;have f2:=afV hs hsm (ls.take n.au.length) (ls.drop n.au.length) hdl;have tn:Int.toNat (Int.ofNat (List.length (n.au.map bL)))=n.au.length:=by show(n.au.map bL).length=_;rw[List.length_map]
     have b2:not (iQ (Int.ofNat (List.length ls)) (IntKind.wrap .i64 (((n.au.map bL).length:Int)+dF n)))=false:=df (aj (by rw[hw];exact h2));have b3:aQ false true (iL (0:Int) (Int.ofNat (List.length cs)))=false:=av (show ¬(0:Int)<((cs.length:Nat):Int) by omega);have b4:aQ false true (not (iQ (Int.ofNat (List.length cs)) (0:Int)))=false:=df (aj (show((cs.length:Nat):Int)=0 by omega));have b5:both (iE (0:Int) (Int.ofNat (List.length (n.au.map bL)))) (iE (Int.ofNat (List.length (n.au.map bL))) (Int.ofNat (List.length ls)))=true:=yP (aj (show(0:Int)<=(((n.au.map bL).length:Nat):Int) by omega)) (aj (show(((n.au.map bL).length:Nat):Int)<=((ls.length:Nat):Int) by omega));have tk:(ls.take n.au.length).length<=100000:=by rw[List.length_take];omega
     have hcb:I1 (List.take (Int.toNat (Int.ofNat (List.length (n.au.map bL)))) ls,())=some (ls.take n.au.length,()):=by rw[tn];exact ak (yJ _ tk) rfl
     have f1':EX (List.drop (Int.toNat (Int.ofNat (List.length (n.au.map bL)))) ls,(n.aa.map aq,(((n.aa.map aq).length:Int),((0:Int),(ls.take n.au.length,([],()))))))=some (ls.take n.au.length,(eJ n (ls.drop n.au.length) n.aa.length,())):=by rw[tn];exact f1
     have f2':El (List.drop (Int.toNat (Int.ofNat (List.length (n.au.map bL)))) ls,((0:Int),nt n ([]++List.take (Int.toNat (Int.ofNat (List.length (n.au.map bL)))) ls,([],()))))=some (ls.take n.au.length,(eJ n (ls.drop n.au.length) n.aa.length,())):=by rw[tn];exact f2
     have hroom:room 1 (List.length ([]++List.take (Int.toNat (Int.ofNat (List.length (n.au.map bL)))) ls))=true:=by rw[tn];exact yJ _ tk
     exact⟨ag c1 (af (df (aj hc)) (ag d1 (af (av h1) (af b2 (af b3 (ak b5 (ag hcb (ak b5 (ag f1' rfl))))))))),
      ag c2 (af (df (aj hc)) (ag d2 (af (av h1) (ag d2 (af b2 (af b4 (ak b5 (ak hroom (ak b5 (ag f2' rfl))))))))))⟩
    .rw[if_neg (fun q=>h3 q.2)];have b2:not (iQ (Int.ofNat (List.length ls)) (IntKind.wrap .i64 (((n.au.map bL).length:Int)+dF n)))=false:=df (aj (by rw[hw];exact h2));have b3:aQ false true (iL (0:Int) (Int.ofNat (List.length cs)))=true:=aj (show(0:Int)<((cs.length:Nat):Int) by omega);have b4:aQ false true (not (iQ (Int.ofNat (List.length cs)) (0:Int)))=true:=fD (av (show ¬((cs.length:Nat):Int)=0 by omega));exact⟨ag c1 (af (df (aj hc)) (ag d1 (af (av h1) (af b2 (ao b3 rfl))))),
      ag c2 (af (df (aj hc)) (ag d2 (af (av h1) (ag d2 (af b2 (ao b4 rfl))))))⟩
   .rw[if_neg (fun q=>h2 q.1)];have b2:not (iQ (Int.ofNat (List.length ls)) (IntKind.wrap .i64 (((n.au.map bL).length:Int)+dF n)))=true:=fD (av (by rw[hw];exact h2));exact⟨ag c1 (af (df (aj hc)) (ag d1 (af (av h1) (ao b2 rfl)))),
     ag c2 (af (df (aj hc)) (ag d2 (af (av h1) (ag d2 (ao b2 rfl)))))⟩
 .rw[if_pos hc];exact⟨ag c1 (ao (fD (av hc)) rfl),ag c2 (ao (fD (av hc)) rfl)⟩
end
set_option maxRecDepth 10000
theorem Qz{n:ax}(h:Pl.cL n=0):∃V,cq n V/\dt n=0/\eO (aV n) V=true:=by
 unfold Pl.cL at h;by_cases h0:dt n≠0
 .rw[if_pos h0]at h;exact absurd h h0
 rw[if_neg h0]at h;have h0:dt n=0:=by omega
 obtain⟨V,hs⟩:=oP h0;refine⟨V,hs,h0,?_⟩;rw[hs.vars,Int.toNat_natCast]at h;by_cases q:eO (aV n) V=true
 .exact q
 .rw[if_neg q]at h;omega
