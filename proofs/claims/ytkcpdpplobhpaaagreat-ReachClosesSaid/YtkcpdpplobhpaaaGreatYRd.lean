import Derived.Test.YtkcpdpplobhpaaaGreatYRc
set_option linter.unusedVariables false
set_option linter.unusedSimpArgs false
set_option linter.unnecessarySimpa false
section
namespace Go.Proofs.YtkcpdpplobhpaaaGreat.V
open Go Go.RowKit
set_option maxRecDepth 1000000
abbrev PX:List Sh:=[ab]
abbrev xZ:List Sh:=[(.int .i64)]
abbrev Fk:=TL PX->Option (TL xZ)
abbrev yc:=Kd 186 PX xZ
def Fi(a0:Sh.T ab):Option (TL xZ):=
 br (iE (10:Int) a0.1)
 (
  some ((1000:Int),()))
 (
  ai (iE (0:Int) a0.1)<|
  some ((IntKind.wrap .i64 (@HMul.hMul (Int) (Int) (Int) _ a0.2.1 (HPow.hPow (2:Int) (Min.min (Int.toNat a0.1) 64)))),()))
def abw  :yc:=⟨u1 Fi,pD Tryz.func186 11 k0 e0 1 (sS l0) fun d=>by kernel_rfl⟩
def Fj:yc:=abw
def E9:Fk:=Fj.F
abbrev PQ:List Sh:=[ab]
abbrev EW:List Sh:=[(.int .i64)]
abbrev PZ:=TL PQ->Option (TL EW)
abbrev x9:=Kd 130 PQ EW
def abm(a0:Sh.T ab):Option (TL EW):=some ((IntKind.wrap .i64 ((Int.ofNat (List.length a0.2.2.2.1))+(Int.ofNat (List.length a0.2.2.2.2.1)))),())
def abn  :x9:=⟨u1 abm,pD Tryz.func130 10 k0 e0 1 (sS l0) fun d=>by kernel_rfl⟩
def PY:x9:=abn
abbrev Qa:Lay:={ T:=[(0,.agg fL),(1,.func 186 [] [])],h:=[],nx:=0 }
abbrev Fa:List (Ev.Ex×Lay):=[(.ret,{ T:=[(0,.int .i64)],h:=[],nx:=0 })]
abbrev Ql:=TL Qa.σs->Option (Out Fa)
abbrev Fs:=Kb 129 2 Qa 1 Fa
abbrev tU:Lay:={ T:=[(1,.func 186 [] []),(4,.int .i64),(8,.fz ab),(9,.int .i64),(10,.int .i64)],h:=[],nx:=0 }
abbrev tO:List (Ev.Ex×Lay):=[((.exit 0),{ T:=[(4,.int .i64)],h:=[],nx:=0 })]
abbrev Qf:=TL tU.σs->Option (Out tO)
abbrev Fm:=Ld 0 21 (bp [0] (aW Tryz.f129)) tU tO
def Qd(F0:Fk)(t4:Int)(t8:List (Sh.T ab))(t9 t10:Int):Option (TL tU.σs⊕Out tO):=
 br (iL t10 t9)
 (
  ai (aA t10 (List.length t8))<|
  ar (F0 (((gt ab t8 t10).1,((gt ab t8 t10).2.1,((gt ab t8 t10).2.2.1,((gt ab t8 t10).2.2.2.1,((gt ab t8 t10).2.2.2.2.1,()))))),())) fun x0=>
  some (.inl ((IntKind.wrap .i64 (@HAdd.hAdd (Int) (Int) (Int) _ t4 x0.1)),(t8,(t9,((IntKind.wrap .i64 (t10+(1:Int))),()))))))
 (
  some (.inr (t4,())))
def abB(c0:yc) :Fm:=bw (u4 (Qd c0.F)) (pL (kD c0 k0) e0 1 l0 fun d=>by kernel_rfl)
def abC:Fm:=abB Fj
def Qe:Qf:=aQ (u4 (Qd E9)) NN
def abO(F0:Fk)(L2:Qf)(dq:Int)(fO:List Int)(fm:List (Sh.T ae))(gn gp gr:List Int)(dS:List (Sh.T ab))(fZ:List (Sh.T ae)):Option (Out Fa):=
 ar (L2 ((0:Int),(dS,((Int.ofNat (List.length dS)),((0:Int),()))))) fun x0=>
 some (x0.1,())
def abP(c0:yc)(M2:Fm):Fs:=⟨u8 (abO c0.F M2.L),pB Tryz.func129 21 (kD c0 k0) e0 1 (sS (sC M2 l0)) fun d=>by kernel_rfl⟩
def Qk:Fs:=abP Fj abC
def abA:Ql:=Qk.F
abbrev Qb:Lay:={ T:=[(0,.agg fL),(1,.func 130 [] [])],h:=[],nx:=0 }
abbrev Fc:List (Ev.Ex×Lay):=[(.ret,{ T:=[(0,.int .i64)],h:=[],nx:=0 })]
abbrev abT:=TL Qb.σs->Option (Out Fc)
abbrev Ft:=Kb 129 2 Qb 1 Fc
abbrev Fb:Lay:={ T:=[(1,.func 130 [] []),(4,.int .i64),(8,.fz ab),(9,.int .i64),(10,.int .i64)],h:=[],nx:=0 }
abbrev EX:List (Ev.Ex×Lay):=[((.exit 0),{ T:=[(4,.int .i64)],h:=[],nx:=0 })]
abbrev abG:=TL Fb.σs->Option (Out EX)
abbrev Fo:=Ld 0 21 (bp [0] (aW Tryz.f129)) Fb EX
def abD(F0:PZ)(t4:Int)(t8:List (Sh.T ab))(t9 t10:Int):Option (TL Fb.σs⊕Out EX):=
 br (iL t10 t9)
 (
  ai (aA t10 (List.length t8))<|
  ar (F0 (((gt ab t8 t10).1,((gt ab t8 t10).2.1,((gt ab t8 t10).2.2.1,((gt ab t8 t10).2.2.2.1,((gt ab t8 t10).2.2.2.2.1,()))))),())) fun x0=>
  some (.inl ((IntKind.wrap .i64 (@HAdd.hAdd (Int) (Int) (Int) _ t4 x0.1)),(t8,(t9,((IntKind.wrap .i64 (t10+(1:Int))),()))))))
 (
  some (.inr (t4,())))
def abE(c0:x9) :Fo:=bw (u4 (abD c0.F)) (pL (kD c0 k0) e0 1 l0 fun d=>by kernel_rfl)
def abF:Fo:=abE PY
def abQ(F0:PZ)(L2:abG)(dq:Int)(fO:List Int)(fm:List (Sh.T ae))(gn gp gr:List Int)(dS:List (Sh.T ab))(fZ:List (Sh.T ae)):Option (Out Fc):=
 ar (L2 ((0:Int),(dS,((Int.ofNat (List.length dS)),((0:Int),()))))) fun x0=>
 some (x0.1,())
def abR(c0:x9)(M2:Fo):Ft:=⟨u8 (abQ c0.F M2.L),pB Tryz.func129 21 (kD c0 k0) e0 1 (sS (sC M2 l0)) fun d=>by kernel_rfl⟩
def abS:Ft:=abR PY abF
abbrev Qc:List Sh:=[bf]
abbrev ye:List Sh:=[(.int .i64)]
abbrev Qj:=TL Qc->Option (TL ye)
abbrev Fq:=Kd 114 Qc ye
def abM(F0:abT)(F1:Ql)(a0:Sh.T bf):Option (TL ye):=
 ar (F1 a0) fun x0=>
 some ((cN (iL (1000:Int) (IntKind.wrap .i64 (@HAdd.hAdd (Int) (Int) (Int) _ (Int.ofNat (List.length a0.2.2.1)) x0.1))) (1000:Int) (IntKind.wrap .i64 (@HAdd.hAdd (Int) (Int) (Int) _ (Int.ofNat (List.length a0.2.2.1)) x0.1))),())
def abN(c0:Ft)(c1:Fs) :Fq:=⟨u1 (abM c0.F c1.F),pD Tryz.func114 12 (kB c0 (kB c1 k0)) e0 1 (sS l0) fun d=>by kernel_rfl⟩
def Qi:Fq:=abN abS Qk
def abz:Qj:=Qi.F
abbrev PC:List Sh:=[bf]
abbrev xT:List Sh:=[(.int .i64)]
abbrev rh:=TL PC->Option (TL xT)
abbrev pG:=Kd 52 PC xT
def aa8(F0:Qj)(F1:qe)(a0:Sh.T bf):Option (TL xT):=
 ar (F1 (a0,())) fun x0=>
 br (Bool.not (iQ x0.1 (0:Int)))
 (
  some ((0:Int),()))
 (
  ar (F0 (((0:Int),([],([],([],([],([],(a0.2.2.2.2.2.2.1,([],())))))))),())) fun x1=>
  some ((cN (iL (1000:Int) x1.1) (1000:Int) x1.1),()))
def aa9(c0:Fq)(c1:oQ) :pG:=⟨u1 (aa8 c0.F c1.F),pD Tryz.func52 11 (kD c0 (kD c1 k0)) e0 1 (sS l0) fun d=>by kernel_rfl⟩
def q9:pG:=aa9 Qi qf
def aa2:rh:=q9.F
abbrev xW:Lay:={ T:=[(2,.int .u64),(9,.fz .bool),(10,.int .i64),(11,.int .i64)],h:=[],nx:=0 }
abbrev xR:List (Ev.Ex×Lay):=[((.exit 0),{ T:=[(2,.int .u64)],h:=[],nx:=0 })]
abbrev P8:=TL xW.σs->Option (Out xR)
abbrev P7:=Ld 0 23 (bp [0] (aW Tryz.f76)) xW xR
def P6(t2:Int)(t9:List Bool)(t10 t11:Int):Option (TL xW.σs⊕Out xR):=
 br (iL t11 t10)
 (
  ai (aA t11 (List.length t9))<|
  br (gt .bool t9 t11)
  (
   ai (iE (0:Int) t11)<|
   some (.inl ((so .u64 t2 (IntKind.wrap .u64 ((1:Int)*(HPow.hPow (2:Int) (Min.min (Int.toNat t11) 64))))),(t9,(t10,((IntKind.wrap .i64 (t11+(1:Int))),()))))))
  (
   some (.inl (t2,(t9,(t10,((IntKind.wrap .i64 (t11+(1:Int))),())))))))
 (
  some (.inr (t2,())))
def abu  :P7:=bw (u4 P6) (pL k0 e0 1 l0 fun d=>by kernel_rfl)
def yb:P8:=aQ (u4 P6) NN
abbrev P9:List Sh:=[(.sl .bool)]
abbrev Fh:List Sh:=[(.int .u64)]
abbrev pI:=TL P9->Option (TL Fh)
abbrev ow:=Kd 76 P9 Fh
def Fl(L2:P8)(a0:List Bool):Option (TL Fh):=
 ai (both (iE (0:Int) (cN (iL (64:Int) (Int.ofNat (List.length a0))) (64:Int) (Int.ofNat (List.length a0)))) (iE (cN (iL (64:Int) (Int.ofNat (List.length a0))) (64:Int) (Int.ofNat (List.length a0))) (Int.ofNat (List.length a0))))<|
 ar (L2 ((0:Int),((List.take (Int.toNat (cN (iL (64:Int) (Int.ofNat (List.length a0))) (64:Int) (Int.ofNat (List.length a0)))) a0),((Int.ofNat (List.length (List.take (Int.toNat (cN (iL (64:Int) (Int.ofNat (List.length a0))) (64:Int) (Int.ofNat (List.length a0)))) a0))),((0:Int),()))))) fun x0=>
 some (x0.1,())
def abx(M2:P7):ow:=⟨u1 (Fl M2.L),pD Tryz.func76 23 k0 e0 1 (sS (sC M2 l0)) fun d=>by kernel_rfl⟩
def pH:ow:=abx  abu
def tV:pI:=pH.F
abbrev Px:Lay:={ T:=[(0,.agg fL),(1,.agg [.fz .bool,.fz (.sl aB)])],h:=[],nx:=0 }
abbrev EI:List (Ev.Ex×Lay):=[(.ret,{ T:=[(0,.agg [.hd 0 .bool,.bz]),(1,.int .i64)],h:=[(0,.arr .bool 4)],nx:=1 })]
abbrev tN:=TL Px.σs->Option (Out EI)
abbrev ri:=Kb 29 2 Px 2 EI
abbrev Zl:Lay:={ T:=[(2,.ptr 0 0),(3,.ptr 1 0),(4,.ptr 2 0),(7,.hd 3 .bool),(8,.int .i64)],h:=[(0,.cells fL 27),(1,.cells [.fz .bool,.fz (.sl aB)] 40),(2,.cells [.bz,.bz] 40),(3,.arr .bool 4)],nx:=4 }
abbrev Zm:Lay:={ T:=[(3,.ptr 0 0),(4,.ptr 1 0),(29,.fz ab),(30,.int .i64),(31,.int .i64)],h:=[(0,.cells [.fz .bool,.fz (.sl aB)] 40),(1,.cells [.hd 2 .bool,.bz] 40),(2,.arr .bool 4)],nx:=3 }
abbrev Zn:List (Nat×LO):=[(0,.cells fL 27),(1,.cells [.bz,.bz] 40),(2,.cells [.hd 3 .bool,.hd 4 (.sl aB)] 40),(3,.arr .bool 4),(4,.arr (.sl aB) 104),(5,.arr aB 137)]
abbrev xM:Lay:=Zm
abbrev xI:List (Ev.Ex×Lay):=[((.exit 0),{ T:=[(4,.ptr 0 0)],h:=[(0,.cells [.hd 1 .bool,.bz] 40),(1,.arr .bool 4)],nx:=2 })]
abbrev PG:=TL xM.σs->Option (Out xI)
abbrev ER:=Ld 0 70 (bp [0] (aW Tryz.f29)) xM xI
abbrev xH:Lay:={ T:=[(3,.ptr 0 0),(4,.ptr 1 0),(8,.ptr 3 0),(11,.func 75 [.ptr 4 0] []),(29,.fz ab),(30,.int .i64),(31,.int .i64),(53,.int .u64),(54,.int .u64)],h:=[(0,.cells [.fz .bool,.fz (.sl aB)] 40),(1,.cells [.hd 2 .bool,.bz] 40),(2,.arr .bool 4),(3,.cells [.int .i64,.int .i64,.bool,.fz bL,.fz bD] 116),(4,.cells [.int .i64,.int .i64,.mp 5] 220),(5,.map .u64 (.int .u64))],nx:=6 }
abbrev xD:List (Ev.Ex×Lay):=[((.exit 2),Zm)]
abbrev EK:=TL xH.σs->Option (Out xD)
abbrev xP:=Ld 0 70 (bp [0,0] (aW Tryz.f29)) xH xD
def Pv(F0:nP)(F3:vh)(t29:List (Sh.T ab))(t30 t31 t53 t54:Int)(aE:List Bool)(aD:List (List (Sh.T aB)))(b2:List Bool)(h9 da:Int)(ia:Bool)(ib:List (Sh.T bL))(ic:List (Sh.T bD))(qi alx:Int)(b5:List (Sh.T aB)):Option (TL xH.σs⊕Out xD):=
 br (iL t54 t53)
 (
  ar (F3 (t54,(qi,(alx,(b5,()))))) fun x0=>
  ai (iQ da da)<|
  ar (F0 (x0.1,(da,()))) fun x1=>
  ai (room 1 (List.length (ap b2 x1.1)))<|
  some (.inl (t29,(t30,(t31,(t53,((IntKind.wrap .u64 (t54+(1:Int))),(aE,(aD,((ap b2 x1.1),(h9,(da,(ia,(ib,(ic,x0.2)))))))))))))))
 (
  some (.inr (t29,(t30,(t31,(aE,(aD,(b2,()))))))))
def aaY(c0:mO)(c3:r9) :xP:=bw (u16 (Pv c0.F c3.F)) (pL (kD c0 (kB c3 k0)) e0 1 l0 fun d=>by kernel_rfl)
def Pw:xP:=aaY nR vi
def tJ:EK:=aQ (u16 (Pv l9 tc)) NN
def PD(F4:vf)(L13:EK)(t29:List (Sh.T ab))(t30 t31:Int)(aE:List Bool)(aD:List (List (Sh.T aB)))(b2:List Bool):Option (TL xM.σs⊕Out xI):=
 br (iL t31 t30)
 (
  ai (aA t31 (List.length t29))<|
  ai (aA t31 (List.length aD))<|
  ar (F4 ((gt ab t29 t31).1,((gt ab t29 t31).2.1,((gt (.sl aB) aD t31),())))) fun x0=>
  (match x0 with
  |.inl x1=>
   ai (iE (0:Int) (gt ab t29 t31).1)<|
   none
  |.inr x1=>
   ai (iE (0:Int) (gt ab t29 t31).1)<|
   ar (L13 (t29,(t30,(t31,((IntKind.wrap .u64 ((1:Int)*(HPow.hPow (2:Int) (Min.min (Int.toNat (gt ab t29 t31).1) 64)))),((0:Int),(aE,(aD,(b2,((gt ab t29 t31).1,((gt ab t29 t31).2.1,((gt ab t29 t31).2.2.1,((gt ab t29 t31).2.2.2.1,((gt ab t29 t31).2.2.2.2.1,x1.2)))))))))))))) fun x2=>
   some (.inl (x2.1,(x2.2.1,((IntKind.wrap .i64 (@HAdd.hAdd (Int) (Int) (Int) _ x2.2.2.1 (1:Int))),x2.2.2.2))))
  ))
 (
  some (.inr (b2,())))
def aa3(c4:rY)(M13:xP):ER:=bw (u6 (PD c4.F M13.L)) (pL (kB c4 k0) e0 1 (sC M13 l0) fun d=>by kernel_rfl)
def aa4:ER:=aa3 vg Pw
def PF:PG:=aQ (u6 (PD wi tJ)) NN
def aba(F0:nP)(F1:rh)(F2:J6)(F3:vh)(F4:vf)(F5:rU)(F6:rR)(L8:PG)(L13:EK)(dq:Int)(fO:List Int)(fm:List (Sh.T ae))(gn gp gr:List Int)(dS:List (Sh.T ab))(fZ:List (Sh.T ae))(ig:List Bool)(fP:List (List (Sh.T aB))):Option (Out EI):=
 ar (F2 ((dq,(fO,(fm,(gn,(gp,(gr,(dS,(fZ,())))))))),((ig,(fP,())),()))) fun x0=>
 br (Bool.not (iQ x0.1 (0:Int)))
 (
  some (x0.1,([],())))
 (
  ar (F1 ((dq,(fO,(fm,(gn,(gp,(gr,(dS,(fZ,())))))))),())) fun x1=>
  br (iL (64:Int) x1.1)
  (
   some ((17:Int),([],())))
  (
   ar (F6 (ig,())) fun x2=>
   ar (L8 (dS,((Int.ofNat (List.length dS)),((0:Int),(ig,(fP,(x2.1,()))))))) fun x3=>
   some ((0:Int),(x3.1,()))))
def abb(c0:mO)(c1:pG)(c2:Bd)(c3:r9)(c4:rY)(c5:rW)(c6:rS)(M8:ER)(M13:xP):ri:=⟨lM (aba c0.F c1.F c2.F c3.F c4.F c5.F c6.F M8.L M13.L),pB Tryz.func29 70 (kD c0 (kD c1 (kD c2 (kB c3 (kB c4 (kB c5 (kB c6 k0))))))) e0 1 (sS (sC M8 l0)) fun d=>by kernel_rfl⟩
def tM:ri:=abb nR q9 J7 vi vg rV p9 aa4 Pw
def xU:tN:=tM.F
abbrev xK:Lay:={ T:=[(4,.ptr 0 0),(8,.fz .bool),(58,.fz ab),(59,.int .i64),(60,.int .i64)],h:=[(0,.cells [.hd 1 .bool,.hd 2 (.sl aB)] 40),(1,.arr .bool 4),(2,.arr (.sl aB) 104)],nx:=3 }
abbrev xF:List (Ev.Ex×Lay):=[((.exit 1),{ T:=[(4,.ptr 0 0)],h:=[(0,.cells [.hd 1 .bool,.hd 2 (.sl aB)] 40),(1,.arr .bool 4),(2,.arr (.sl aB) 104)],nx:=3 })]
abbrev PB:=TL xK.σs->Option (Out xF)
abbrev EM:=Ld 0 96 (bp [0] (aW Tryz.f30)) xK xF
abbrev xL:Lay:={ T:=[(4,.ptr 0 0),(8,.fz .bool),(10,.ptr 3 0),(11,.hd 4 aB),(58,.fz ab),(59,.int .i64),(60,.int .i64),(66,.int .u64),(67,.int .u64)],h:=[(0,.cells [.hd 1 .bool,.hd 2 (.sl aB)] 40),(1,.arr .bool 4),(2,.arr (.sl aB) 104),(3,.cells [.int .i64,.int .i64,.bool,.fz bL,.fz bD] 116),(4,.arr aB 137)],nx:=5 }
abbrev xG:List (Ev.Ex×Lay):=[((.exit 3),{ T:=[(4,.ptr 0 0),(8,.fz .bool),(11,.hd 3 aB),(58,.fz ab),(59,.int .i64),(60,.int .i64)],h:=[(0,.cells [.hd 1 .bool,.hd 2 (.sl aB)] 40),(1,.arr .bool 4),(2,.arr (.sl aB) 104),(3,.arr aB 137)],nx:=4 })]
abbrev EP:=TL xL.σs->Option (Out xG)
abbrev xS:=Ld 0 96 (bp [0,0] (aW Tryz.f30)) xL xG
def Pz(F0:pI)(t8:List Bool)(t58:List (Sh.T ab))(t59 t60 t66 t67:Int)(b1:List Bool)(b2:List (List (Sh.T aB)))(h9 da:Int)(ia:Bool)(ib:List (Sh.T bL))(ic:List (Sh.T bD))(b4:List (Sh.T aB)):Option (TL xL.σs⊕Out xG):=
 br (iL t67 t66)
 (
  ai (both (iE (0:Int) da) (iE da (Int.ofNat (List.length t8))))<|
  ar (F0 ((List.take (Int.toNat da) t8),())) fun x0=>
  br (Bool.not (iQ x0.1 (0:Int)))
  (
   ai (room 16 (List.length (ap b4 ((t67,(x0.1,()))::[]))))<|
   ai (both (iE (0:Int) da) (iE da (Int.ofNat (List.length t8))))<|
   some (.inl ((List.drop (Int.toNat da) t8),(t58,(t59,(t60,(t66,((IntKind.wrap .u64 (t67+(1:Int))),(b1,(b2,(h9,(da,(ia,(ib,(ic,((ap b4 ((t67,(x0.1,()))::[])),()))))))))))))))))
  (
   ai (both (iE (0:Int) da) (iE da (Int.ofNat (List.length t8))))<|
   some (.inl ((List.drop (Int.toNat da) t8),(t58,(t59,(t60,(t66,((IntKind.wrap .u64 (t67+(1:Int))),(b1,(b2,(h9,(da,(ia,(ib,(ic,(b4,())))))))))))))))))
 (
  some (.inr (t8,(t58,(t59,(t60,(b1,(b2,(b4,())))))))))
def aa0(c0:ow) :xS:=bw (gN (Pz c0.F)) (pL (kD c0 k0) e0 1 l0 fun d=>by kernel_rfl)
def PA:xS:=aa0 pH
def tK:EP:=aQ (gN (Pz tV)) NN
def Py(L16:EP)(t8:List Bool)(t58:List (Sh.T ab))(t59 t60:Int)(b1:List Bool)(b2:List (List (Sh.T aB))):Option (TL xK.σs⊕Out xF):=
 br (iL t60 t59)
 (
  ai (aA t60 (List.length t58))<|
  ai (iE (0:Int) (gt ab t58 t60).1)<|
  ar (L16 (t8,(t58,(t59,(t60,((IntKind.wrap .u64 ((1:Int)*(HPow.hPow (2:Int) (Min.min (Int.toNat (gt ab t58 t60).1) 64)))),((0:Int),(b1,(b2,((gt ab t58 t60).1,((gt ab t58 t60).2.1,((gt ab t58 t60).2.2.1,((gt ab t58 t60).2.2.2.1,((gt ab t58 t60).2.2.2.2.1,([],()))))))))))))))) fun x0=>
  ai (room 24 (List.length (ap x0.2.2.2.2.2.1 (x0.2.2.2.2.2.2.1::[]))))<|
  some (.inl (x0.1,(x0.2.1,(x0.2.2.1,((IntKind.wrap .i64 (@HAdd.hAdd (Int) (Int) (Int) _ x0.2.2.2.1 (1:Int))),(x0.2.2.2.2.1,((ap x0.2.2.2.2.2.1 (x0.2.2.2.2.2.2.1::[])),()))))))))
 (
  some (.inr (b1,(b2,()))))
def aaZ(M16:xS):EM:=bw (u6 (Py M16.L)) (pL k0 e0 1 (sC M16 l0) fun d=>by kernel_rfl)
def aa1:EM:=aaZ  PA
def EO:PB:=aQ (u6 (Py tK)) NN
abbrev PO:List Sh:=[bf,cF]
abbrev EV:List Sh:=[cF,(.int .i64)]
abbrev tT:=TL PO->Option (TL EV)
abbrev rj:=Kd 30 PO EV
def abk(F0:pI)(F1:rh)(F2:qe)(F3:rU)(F4:rR)(L12:PB)(L16:EP)(a0:Sh.T bf)(a1:Sh.T cF):Option (TL EV):=
 ar (F2 (a0,())) fun x0=>
 br (Bool.not (iQ x0.1 (0:Int)))
 (
  some (([],([],())),(x0.1,())))
 (
  ar (F1 (a0,())) fun x1=>
  br (iL (64:Int) x1.1)
  (
   some (([],([],())),((17:Int),())))
  (
   br (Bool.not (iQ (Int.ofNat (List.length a1.1)) (IntKind.wrap .i64 (@HAdd.hAdd (Int) (Int) (Int) _ (Int.ofNat (List.length a0.2.2.1)) x1.1))))
   (
    some (([],([],())),((14:Int),())))
   (
    br (aR false true (iL (0:Int) (Int.ofNat (List.length a1.2.1))))
    (
     some (([],([],())),((14:Int),())))
    (
     ai (both (iE (0:Int) (Int.ofNat (List.length a0.2.2.1))) (iE (Int.ofNat (List.length a0.2.2.1)) (Int.ofNat (List.length a1.1))))<|
     ar (F4 ((List.take (Int.toNat (Int.ofNat (List.length a0.2.2.1))) a1.1),())) fun x2=>
     ai (both (iE (0:Int) (Int.ofNat (List.length a0.2.2.1))) (iE (Int.ofNat (List.length a0.2.2.1)) (Int.ofNat (List.length a1.1))))<|
     ar (L12 ((List.drop (Int.toNat (Int.ofNat (List.length a0.2.2.1))) a1.1),(a0.2.2.2.2.2.2.1,((Int.ofNat (List.length a0.2.2.2.2.2.2.1)),((0:Int),(x2.1,([],()))))))) fun x3=>
     some (x3,((0:Int),()))))))
def abl(c0:ow)(c1:pG)(c2:oQ)(c3:rW)(c4:rS)(M12:EM)(M16:xS):rj:=⟨u2 (abk c0.F c1.F c2.F c3.F c4.F M12.L M16.L),pD Tryz.func30 96 (kD c0 (kD c1 (kD c2 (kB c3 (kB c4 k0))))) e0 1 (sS (sC M12 l0)) fun d=>by kernel_rfl⟩
def tS:rj:=abl pH q9 qf rV p9 aa1 PA
def xX:tT:=tS.F
abbrev xm:Lay:={ T:=[(1,.ptr 0 0),(3,.int .i64),(4,.int .i64)],h:=[(0,.cells fL 27)],nx:=1 }
abbrev xg:List (Ev.Ex×Lay):=[((.exit 0),{ T:=[(3,.int .i64)],h:=[],nx:=0 })]
abbrev OV:=TL xm.σs->Option (Out xg)
abbrev Ei:=Ld 0 44 (bp [0] (aW Tryz.f55)) xm xg
abbrev qY:Lay:={ T:=[(1,.ptr 0 0),(3,.int .i64),(4,.int .i64),(5,.int .i64),(6,.int .i64)],h:=[(0,.cells fL 27)],nx:=1 }
abbrev tD:List (Ev.Ex×Lay):=[((.exit 2),{ T:=[(1,.ptr 0 0),(3,.int .i64),(4,.int .i64),(5,.int .i64)],h:=[(0,.cells fL 27)],nx:=1 })]
abbrev El:=TL qY.σs->Option (Out tD)
abbrev Ej:=Ld 0 44 (bp [0,0] (aW Tryz.f55)) qY tD
def Eh(t3 t4 t5 t6 aE:Int)(aD:List Int)(aF:List (Sh.T ae))(aH aJ aK:List Int)(aC:List (Sh.T ab))(aG:List (Sh.T ae)):Option (TL qY.σs⊕Out tD):=
 ai (aA t4 (List.length aC))<|
 br (iL t6 (gt ab aC t4).1)
 (
  br (aR true (iL t5 (1000:Int)) false)
  (
   some (.inl (t3,(t4,((IntKind.wrap .i64 ((2:Int)*t5)),((IntKind.wrap .i64 (t6+(1:Int))),(aE,(aD,(aF,(aH,(aJ,(aK,(aC,(aG,()))))))))))))))
  (
   some (.inr (t3,(t4,(t5,(aE,(aD,(aF,(aH,(aJ,(aK,(aC,(aG,()))))))))))))))
 (
  some (.inr (t3,(t4,(t5,(aE,(aD,(aF,(aH,(aJ,(aK,(aC,(aG,())))))))))))))
def OU  :Ej:=bw (jW Eh) (pL k0 e0 1 l0 fun d=>by kernel_rfl)
def Ek:El:=aQ (jW Eh) NN
def OS(L9:El)(t3 t4 aE:Int)(aD:List Int)(aF:List (Sh.T ae))(aH aJ aK:List Int)(aC:List (Sh.T ab))(aG:List (Sh.T ae)):Option (TL xm.σs⊕Out xg):=
 br (iL t4 (Int.ofNat (List.length aC)))
 (
  ai (aA t4 (List.length aC))<|
  ar (L9 (t3,(t4,((gt ab aC t4).2.1,((0:Int),(aE,(aD,(aF,(aH,(aJ,(aK,(aC,(aG,()))))))))))))) fun x0=>
  some (.inl ((IntKind.wrap .i64 (@HAdd.hAdd (Int) (Int) (Int) _ x0.1 x0.2.2.1)),((IntKind.wrap .i64 (@HAdd.hAdd (Int) (Int) (Int) _ x0.2.1 (1:Int))),x0.2.2.2))))
 (
  some (.inr (t3,())))
def aan(M9:Ej):Ei:=bw (lM (OS M9.L)) (pL k0 e0 1 (sC M9 l0) fun d=>by kernel_rfl)
def aao:Ei:=aan  OU
def OT:OV:=aQ (lM (OS Ek)) NN
abbrev OW:List Sh:=[bf]
abbrev xt:List Sh:=[(.int .i64)]
abbrev xy:=TL OW->Option (TL xt)
abbrev tH:=Kd 55 OW xt
def aay(F0:uS)(L5:OV)(L9:El)(a0:Sh.T bf):Option (TL xt):=
 ar (F0 (a0,())) fun x0=>
 br (Bool.not (iQ x0.1 (0:Int)))
 (
  some ((0:Int),()))
 (
  ar (L5 ((0:Int),((0:Int),a0))) fun x1=>
  some ((cN (iL (1000:Int) x1.1) (1000:Int) x1.1),()))
def aaz(c0:rQ)(M5:Ei)(M9:Ej):tH:=⟨u1 (aay c0.F M5.L M9.L),pD Tryz.func55 44 (kD c0 k0) e0 1 (sS (sC M5 l0)) fun d=>by kernel_rfl⟩
def xw:tH:=aaz uT aao OU
def aam:xy:=xw.F
abbrev xn:Lay:=Zl
abbrev xj:List (Ev.Ex×Lay):=[((.exit 0),{ T:=[(4,.ptr 0 0),(7,.hd 1 .bool)],h:=[(0,.cells [.bz,.bz] 40),(1,.arr .bool 4)],nx:=2 })]
abbrev OZ:=TL xn.σs->Option (Out xj)
abbrev Em:=Ld 0 60 (bp [0] (aW Tryz.f120)) xn xj
abbrev xh:Lay:={ T:=[(2,.ptr 0 0),(3,.ptr 1 0),(4,.ptr 2 0),(7,.hd 3 .bool),(8,.int .i64),(9,.int .u64)],h:=[(0,.cells fL 27),(1,.cells [.fz .bool,.fz (.sl aB)] 40),(2,.cells [.bz,.bz] 40),(3,.arr .bool 4)],nx:=4 }
abbrev xc:List (Ev.Ex×Lay):=[((.exit 2),Zl)]
abbrev D9:=TL xh.σs->Option (Out xc)
abbrev xq:=Ld 0 60 (bp [0,0] (aW Tryz.f120)) xh xc
def OK(F0:Jw)(F1:JI)(F2:qa)(t8 t9 aE:Int)(aD:List Int)(aF:List (Sh.T ae))(aH aJ aK:List Int)(aC:List (Sh.T ab))(aG:List (Sh.T ae))(cM:List Bool)(cR:List (List (Sh.T aB)))(b3:List Bool):Option (TL xh.σs⊕Out xc):=
 ai (aA t8 (List.length aC))<|
 ar (F2 (t9,((gt ab aC t8).1,()))) fun x0=>
 br x0.1
 (
  ai (aA t8 (List.length cR))<|
  ai (aA t8 (List.length aC))<|
  ar (F1 ((gt (.sl aB) cR t8),(t9,()))) fun x1=>
  ar (F0 (x1.1,((gt ab aC t8).2.1,()))) fun x2=>
  ai (room 1 (List.length (ap b3 x2.1)))<|
  some (.inl (t8,((IntKind.wrap .u64 (t9+(1:Int))),(aE,(aD,(aF,(aH,(aJ,(aK,(aC,(aG,(cM,(cR,((ap b3 x2.1),())))))))))))))))
 (
  some (.inr (t8,(aE,(aD,(aF,(aH,(aJ,(aK,(aC,(aG,(cM,(cR,(b3,()))))))))))))))
def aah(c0:AK)(c1:AQ)(c2:oO) :xq:=bw (nC (OK c0.F c1.F c2.F)) (pL (kD c0 (kD c1 (kD c2 k0))) e0 1 l0 fun d=>by kernel_rfl)
def OL:xq:=aah Jy JJ qb
def D8:D9:=aQ (nC (OK IL IU qA)) NN
def OX(L11:D9)(t8 aE:Int)(aD:List Int)(aF:List (Sh.T ae))(aH aJ aK:List Int)(aC:List (Sh.T ab))(aG:List (Sh.T ae))(cM:List Bool)(cR:List (List (Sh.T aB)))(b3:List Bool):Option (TL xn.σs⊕Out xj):=
 br (iL t8 (Int.ofNat (List.length aC)))
 (
  ar (L11 (t8,((0:Int),(aE,(aD,(aF,(aH,(aJ,(aK,(aC,(aG,(cM,(cR,(b3,())))))))))))))) fun x0=>
  some (.inl ((IntKind.wrap .i64 (@HAdd.hAdd (Int) (Int) (Int) _ x0.1 (1:Int))),x0.2)))
 (
  some (.inr (b3,())))
def aaq(M11:xq):Em:=bw (jW (OX M11.L)) (pL k0 e0 1 (sC M11 l0) fun d=>by kernel_rfl)
def aar:Em:=aaq  OL
def OY:OZ:=aQ (jW (OX D8)) NN
abbrev O0:List Sh:=[bf,cF]
abbrev Eo:List Sh:=[cF,(.int .i64)]
abbrev aaD:=TL O0->Option (TL Eo)
abbrev Pc:=Kd 120 O0 Eo
def aaA(F0:Jw)(F1:JI)(F2:qa)(F3:xy)(F4:IG)(L8:OZ)(L11:D9)(a0:Sh.T bf)(a1:Sh.T cF):Option (TL Eo):=
 ar (F4 (a0,(a1,()))) fun x0=>
 br (Bool.not (iQ x0.1 (0:Int)))
 (
  some (([],([],())),(x0.1,())))
 (
  ar (F3 (a0,())) fun x1=>
  br (iL (64:Int) x1.1)
  (
   some (([],([],())),((17:Int),())))
  (
   ai (room 1 (List.length (ap [] a1.1)))<|
   ar (L8 ((0:Int),(a0.1,(a0.2.1,(a0.2.2.1,(a0.2.2.2.1,(a0.2.2.2.2.1,(a0.2.2.2.2.2.1,(a0.2.2.2.2.2.2.1,(a0.2.2.2.2.2.2.2.1,(a1.1,(a1.2.1,((ap [] a1.1),()))))))))))))) fun x2=>
   some ((x2.1,([],())),((0:Int),()))))
def aaB(c0:AK)(c1:AQ)(c2:oO)(c3:tH)(c4:zK)(M8:Em)(M11:xq):Pc:=⟨u2 (aaA c0.F c1.F c2.F c3.F c4.F M8.L M11.L),pD Tryz.func120 60 (kD c0 (kD c1 (kD c2 (kD c3 (kD c4 k0))))) e0 1 (sS (sC M8 l0)) fun d=>by kernel_rfl⟩
def aaC:Pc:=aaB Jy JJ qb xw IH aar OL
def aap:aaD:=aaC.F
abbrev xk:Lay:={ T:=[(2,.ptr 0 0),(4,.ptr 1 0),(7,.ptr 2 0),(8,.fz .bool),(9,.int .i64)],h:=[(0,.cells fL 27),(1,.cells [.bz,.bz] 40),(2,.cells [.hd 3 .bool,.hd 4 (.sl aB)] 40),(3,.arr .bool 4),(4,.arr (.sl aB) 104)],nx:=5 }
abbrev xe:List (Ev.Ex×Lay):=[((.exit 0),{ T:=[(4,.ptr 0 0),(7,.ptr 1 0)],h:=[(0,.cells [.bz,.bz] 40),(1,.cells [.hd 2 .bool,.hd 3 (.sl aB)] 40),(2,.arr .bool 4),(3,.arr (.sl aB) 104)],nx:=4 })]
abbrev OR:=TL xk.σs->Option (Out xe)
abbrev Ec:=Ld 0 104 (bp [0] (aW Tryz.f115)) xk xe
abbrev xl:Lay:={ T:=[(2,.ptr 0 0),(4,.ptr 1 0),(7,.ptr 2 0),(8,.fz .bool),(9,.int .i64),(10,.hd 5 aB),(11,.int .u64)],h:=Zn,nx:=6 }
abbrev xf:List (Ev.Ex×Lay):=[((.exit 2),{ T:=[(2,.ptr 0 0),(4,.ptr 1 0),(7,.ptr 2 0),(8,.fz .bool),(9,.int .i64),(10,.hd 5 aB)],h:=Zn,nx:=6 })]
abbrev Eg:=TL xl.σs->Option (Out xf)
abbrev xr:=Ld 0 104 (bp [0,0] (aW Tryz.f115)) xl xf
def OP(F0:JZ)(F1:qa)(t8:List Bool)(t9 t11 aE:Int)(aD:List Int)(aF:List (Sh.T ae))(aH aJ aK:List Int)(aC:List (Sh.T ab))(aG:List (Sh.T ae))(b3:List Bool)(b4:List (List (Sh.T aB)))(b5:List (Sh.T aB)):Option (TL xl.σs⊕Out xf):=
 ai (aA t9 (List.length aC))<|
 ar (F1 (t11,((gt ab aC t9).1,()))) fun x0=>
 br x0.1
 (
  ai (aA t9 (List.length aC))<|
  ai (both (iE (0:Int) (gt ab aC t9).2.1) (iE (gt ab aC t9).2.1 (Int.ofNat (List.length t8))))<|
  ar (F0 ((List.take (Int.toNat (gt ab aC t9).2.1) t8),())) fun x1=>
  ai (aA t9 (List.length aC))<|
  ai (both (iE (0:Int) (gt ab aC t9).2.1) (iE (gt ab aC t9).2.1 (Int.ofNat (List.length t8))))<|
  br (Bool.not (iQ x1.1 (0:Int)))
  (
   ai (room 16 (List.length (ap b5 ((t11,(x1.1,()))::[]))))<|
   some (.inl ((List.drop (Int.toNat (gt ab aC t9).2.1) t8),(t9,((IntKind.wrap .u64 (t11+(1:Int))),(aE,(aD,(aF,(aH,(aJ,(aK,(aC,(aG,(b3,(b4,((ap b5 ((t11,(x1.1,()))::[])),()))))))))))))))))
  (
   some (.inl ((List.drop (Int.toNat (gt ab aC t9).2.1) t8),(t9,((IntKind.wrap .u64 (t11+(1:Int))),(aE,(aD,(aF,(aH,(aJ,(aK,(aC,(aG,(b3,(b4,(b5,())))))))))))))))))
 (
  some (.inr (t8,(t9,(aE,(aD,(aF,(aH,(aJ,(aK,(aC,(aG,(b3,(b4,(b5,())))))))))))))))
def aak(c0:AX)(c1:oO) :xr:=bw (gN (OP c0.F c1.F)) (pL (kD c0 (kD c1 k0)) e0 1 l0 fun d=>by kernel_rfl)
def OQ:xr:=aak J0 qb
def Ef:Eg:=aQ (gN (OP JX qA)) NN
def OO(L15:Eg)(t8:List Bool)(t9 aE:Int)(aD:List Int)(aF:List (Sh.T ae))(aH aJ aK:List Int)(aC:List (Sh.T ab))(aG:List (Sh.T ae))(b3:List Bool)(b4:List (List (Sh.T aB))):Option (TL xk.σs⊕Out xe):=
 br (iL t9 (Int.ofNat (List.length aC)))
 (
  ar (L15 (t8,(t9,((0:Int),(aE,(aD,(aF,(aH,(aJ,(aK,(aC,(aG,(b3,(b4,([],()))))))))))))))) fun x0=>
  ai (room 24 (List.length (ap x0.2.2.2.2.2.2.2.2.2.2.2.1 (x0.2.2.2.2.2.2.2.2.2.2.2.2.1::[]))))<|
  some (.inl (x0.1,((IntKind.wrap .i64 (@HAdd.hAdd (Int) (Int) (Int) _ x0.2.1 (1:Int))),(x0.2.2.1,(x0.2.2.2.1,(x0.2.2.2.2.1,(x0.2.2.2.2.2.1,(x0.2.2.2.2.2.2.1,(x0.2.2.2.2.2.2.2.1,(x0.2.2.2.2.2.2.2.2.1,(x0.2.2.2.2.2.2.2.2.2.1,(x0.2.2.2.2.2.2.2.2.2.2.1,((ap x0.2.2.2.2.2.2.2.2.2.2.2.1 (x0.2.2.2.2.2.2.2.2.2.2.2.2.1::[])),()))))))))))))))
 (
  some (.inr (b3,(b4,()))))
def aaj(M15:xr):Ec:=bw (jW (OO M15.L)) (pL k0 e0 1 (sC M15 l0) fun d=>by kernel_rfl)
def aal:Ec:=aaj  OQ
def Ee:OR:=aQ (jW (OO Ef)) NN
abbrev Pb:List Sh:=[bf,cF]
abbrev Ey:List Sh:=[cF,(.int .i64)]
abbrev aaP:=TL Pb->Option (TL Ey)
abbrev Pk:=Kd 115 Pb Ey
def aaM(F0:JZ)(F1:qa)(F2:xy)(F3:uS)(L11:OR)(L15:Eg)(a0:Sh.T bf)(a1:Sh.T cF):Option (TL Ey):=
 ar (F3 (a0,())) fun x0=>
 br (Bool.not (iQ x0.1 (0:Int)))
 (
  some (([],([],())),(x0.1,())))
 (
  ar (F2 (a0,())) fun x1=>
  br (iL (64:Int) x1.1)
  (
   some (([],([],())),((17:Int),())))
  (
   ar (F2 (a0,())) fun x2=>
   br (Bool.not (iQ (Int.ofNat (List.length a1.1)) (IntKind.wrap .i64 (@HAdd.hAdd (Int) (Int) (Int) _ (Int.ofNat (List.length a0.2.2.1)) x2.1))))
   (
    some (([],([],())),((14:Int),())))
   (
    br (aR false true (Bool.not (iQ (Int.ofNat (List.length a1.2.1)) (0:Int))))
    (
     some (([],([],())),((14:Int),())))
    (
     ai (both (iE (0:Int) (Int.ofNat (List.length a0.2.2.1))) (iE (Int.ofNat (List.length a0.2.2.1)) (Int.ofNat (List.length a1.1))))<|
     ai (room 1 (List.length (ap [] (List.take (Int.toNat (Int.ofNat (List.length a0.2.2.1))) a1.1))))<|
     ai (both (iE (0:Int) (Int.ofNat (List.length a0.2.2.1))) (iE (Int.ofNat (List.length a0.2.2.1)) (Int.ofNat (List.length a1.1))))<|
     ar (L11 ((List.drop (Int.toNat (Int.ofNat (List.length a0.2.2.1))) a1.1),((0:Int),(a0.1,(a0.2.1,(a0.2.2.1,(a0.2.2.2.1,(a0.2.2.2.2.1,(a0.2.2.2.2.2.1,(a0.2.2.2.2.2.2.1,(a0.2.2.2.2.2.2.2.1,((ap [] (List.take (Int.toNat (Int.ofNat (List.length a0.2.2.1))) a1.1)),([],()))))))))))))) fun x3=>
     some (x3,((0:Int),()))))))
def aaN(c0:AX)(c1:oO)(c2:tH)(c3:rQ)(M11:Ec)(M15:xr):Pk:=⟨u2 (aaM c0.F c1.F c2.F c3.F M11.L M15.L),pD Tryz.func115 104 (kD c0 (kD c1 (kD c2 (kD c3 k0)))) e0 1 (sS (sC M11 l0)) fun d=>by kernel_rfl⟩
def aaO:Pk:=aaN J0 qb xw uT aal OQ
def Pa:aaP:=aaO.F
open Go.Proofs.YtkcpdpplobhpaaaGreat.Pl
def iX(x:Int):Int:=if 1000<x then 1000 else x
def tP(m:bB):Int:=if 10<=m.addr then 1000 else m.word*2^m.addr.toNat
def dy(w:Int):Nat->Int
 |0=>w|k+1=>if dy w k<1000 then 2*dy w k else dy w k
def dW(l:List bB):Int:=l.foldl (fun a m=>a+tP m) 0
def lf(l:List bB):Int:=l.foldl (fun a m=>a+dy m.word m.addr.toNat) 0
def pX(t u:Int):Prop:=t=u\/(1000<=t/\1000<=u)
theorem acy{t u:Int}(h:pX t u):iX t=iX u:=by
 unfold iX;rcases h with rfl|⟨h1,h2⟩
 .rfl
 .split<;>split<;>omega
theorem ac4(k:Nat):(1:Int)<=2^k:=by have:=Int.pow_pos (n:=(2:Int)) (m:=k) (by decide);omega
theorem yj{w a b:Int}(hw:0<=w)(h:a<=b):w*a<=w*b:=Int.mul_le_mul_of_nonneg_left h hw
theorem adA{w:Int}(hw:1<=w):∀k,dy w k=w*2^k\/(1000<=dy w k/\1000<=w*2^k):=by
 intro k
 induction k with
 |zero=>left;rw[dy];simp|succ k ih=>
  have e:w*2^(k+1)=2*(w*2^k):=by rw[Int.pow_succ];rw[<-Int.mul_assoc,Int.mul_comm]
  rw[dy,e];split
  .rename_i q;rcases ih with h|⟨h1,h2⟩
   .left;rw[h]
   .omega
  .rename_i q;right;rcases ih with h|⟨h1,h2⟩<;>omega
theorem yo{w:Int}(hw:1<=w):∀k,w<=dy w k:=by
 intro k
 induction k with|zero=>rw[dy];omega|succ k ih=>rw[dy];split<;>omega
theorem FJ{w:Int}(hw:w<=64):∀k,dy w k<=2000:=by
 intro k
 induction k with|zero=>rw[dy];omega|succ k ih=>rw[dy];split<;>omega
theorem acC{w:Int}{k:Nat}(h:1000<=dy w k):∀j,dy w (k+j)=dy w k:=by
 intro j
 induction j with|zero=>rfl|succ j ih=>rw[show k+(j+1)=k+j+1 by omega,dy,ih,if_neg (by omega)]
theorem acY{m:bB}(h1:1<=m.addr)(h2:1<=m.word):pX (tP m) (dy m.word m.addr.toNat):=by
 have r:=adA h2 m.addr.toNat;unfold tP;split
 .rename_i q;right;have p:(2:Int)^10<=2^m.addr.toNat:=by
   have:=Nat.pow_le_pow_right (n:=2) (by decide) (show 10<=m.addr.toNat by omega)
   exact_mod_cast this
  have p2:(2:Int)^10=1024:=by decide
  have p3:=yj (w:=m.word) (by omega) p;have p4:=yj (w:=1024) (a:=1) (b:=m.word) (by omega) h2;rw[p2]at p3;have p5:m.word*1024=1024*m.word:=Int.mul_comm ..;rcases r with h|⟨a,b⟩<;>omega
 .rcases r with h|⟨a,b⟩
  .left;exact h.symm
  .right;exact⟨b,a⟩
theorem yy{m:bB}(h1:1<=m.addr)(h2:1<=m.word)(h3:m.word<=64):0<=tP m/\tP m<=40000:=by
 unfold tP;split
 .omega
 .have p:(2:Int)^m.addr.toNat<=2^9:=by
   have:=Nat.pow_le_pow_right (n:=2) (by decide) (show m.addr.toNat<=9 by omega)
   exact_mod_cast this
  have p2:(2:Int)^9=512:=by decide
  have p3:=yj (w:=m.word) (by omega) p;have p4:=yj (w:=m.word) (by omega) (ac4 m.addr.toNat);rw[p2]at p3;omega
theorem acX{a b c d:Int}(h1:pX a b)(h2:pX c d)(ha:0<=a)(hb:0<=b)(hc:0<=c)(hd:0<=d):pX (a+c) (b+d):=by
 rcases h1 with h1|h1<;>rcases h2 with h2|h2
 .left;omega
 .right;omega
 .right;omega
 .right;omega
theorem adj:∀(l:List bB) (a b:Int),(∀m∈l,1<=m.addr/\1<=m.word/\m.word<=64)->pX a b->0<=a->0<=b->pX (l.foldl (fun a m=>a+tP m) a) (l.foldl (fun a m=>a+dy m.word m.addr.toNat) b):=by
 intro l
 induction l with|nil=>intro a b _ h _ _;exact h|cons m l ih=>intro a b hl h ha hb;obtain⟨h1,h2,h3⟩:=hl m (by simp);have t:=yy h1 h2 h3;have u:=yo h2 m.addr.toNat;exact ih _ _ (fun x hx=>hl x (by simp[hx])) (acX h (acY h1 h2) ha hb t.1 (by omega)) (show 0<=a+tP m by omega) (show 0<=b+dy m.word m.addr.toNat by omega)
theorem yl:∀(l:List bB) (a:Int),(∀m∈l,1<=m.addr/\1<=m.word/\m.word<=64)->a<=l.foldl (fun a m=>a+tP m) a/\l.foldl (fun a m=>a+tP m) a<=a+40000*(l.length:Int):=by
 intro l
 induction l with|nil=>intro a _;exact⟨Int.le_refl _,by simp⟩|cons m l ih=>intro a hl;obtain⟨h1,h2,h3⟩:=hl m (by simp);have t:=yy h1 h2 h3;obtain⟨x,y⟩:=ih (a+tP m) (fun x hx=>hl x (by simp[hx]));rw[List.foldl_cons,List.length_cons];omega
theorem adi:∀(l:List bB) (a:Int),(∀m∈l,1<=m.addr/\1<=m.word/\m.word<=64)->a<=l.foldl (fun a m=>a+dy m.word m.addr.toNat) a/\l.foldl (fun a m=>a+dy m.word m.addr.toNat) a<=a+2000*(l.length:Int):=by
 intro l
 induction l with|nil=>intro a _;exact⟨Int.le_refl _,by simp⟩|cons m l ih=>intro a hl;obtain⟨h1,h2,h3⟩:=hl m (by simp);have t:=yo h2 m.addr.toNat;have t2:=FJ h3 m.addr.toNat;obtain⟨x,y⟩:=ih (a+dy m.word m.addr.toNat) (fun x hx=>hl x (by simp[hx]));rw[List.foldl_cons,List.length_cons];omega
def dE(n:av):Int:=if Pl.cK n≠0 then 0 else iX (dW n.aa)
section
variable{n:av}{V:Nat}(hs:cj n V)
include hs
theorem mG:∀m∈n.aa,1<=m.addr/\1<=m.word/\m.word<=64:=fun m hm=>by obtain⟨m1,m2,m3,m4,_⟩:=hs.aa m hm;exact⟨m1,m3,m4⟩
end
section
variable{n:av}{V:Nat}
theorem FH(x:Int):cN (iL (1000:Int) x) (1000:Int) x=iX x:=by
 unfold iX cN;by_cases q:1000<x
 .rw[if_pos q,show iL (1000:Int) x=true from aj q]
 .rw[if_neg q,show iL (1000:Int) x=false from au q]
end
section
variable{n:av}{V:Nat}(hs:cj n V)
include hs
theorem aep:abA ((0:Int),([],([],([],([],([],(n.aa.map aq,([],()))))))))=some (dW n.aa,()):=by
 have hM:=hs.lens.2.2.2.2;have hL:((n.aa.map aq).length:Int)=(n.aa.length:Int):=by rw[List.length_map]
 have e2:Qe ((0:Int),(n.aa.map aq,(((n.aa.map aq).length:Int),((0:Int),()))))=some (dW n.aa,()):=by
  unfold Qe;delta u4;refine cP (fun k:Nat=>(dW (n.aa.take k),(n.aa.map aq,(((n.aa.map aq).length:Int),((k:Int),()))))) n.aa.length rfl ?_ ?_ (bt (by omega))
  .intro k hk;have hx:=List.getElem?_eq_getElem hk;obtain⟨h1,h2,h3⟩:=mG hs _ (List.getElem_mem hk);have t:=yy h1 h2 h3;have hx':(n.aa.map aq)[k]?=some (aq n.aa[k]):=by rw[List.getElem?_map,hx];rfl
   have g:gt ab (n.aa.map aq) (k:Int)=aq n.aa[k]:=bn (σ:=ab) hx';have eb:E9 (aq n.aa[k],())=some (tP n.aa[k],()):=by
    show Fi (aq n.aa[k])=_;unfold Fi tP;by_cases q:10<=n.aa[k].addr
    .rw[if_pos q];exact ao (aj q) rfl
    .rw[if_neg q];have e:∀p q:Int,p=q->(some (p,()):Option (TL xZ))=some (q,()):=by rintro _ _ rfl;rfl
     refine af (au q) (ak (aj (show(0:Int)<=n.aa[k].addr by omega)) (e _ _ ?_));show IntKind.wrap .i64 (n.aa[k].word*2^min (Int.toNat n.aa[k].addr) 64)=_;rw[Nat.min_eq_left (by omega)];unfold tP at t;rw[if_neg q]at t;exact bJ (by omega)
   have eb':E9 (((gt ab (n.aa.map aq) (k:Int)).1,((gt ab (n.aa.map aq) (k:Int)).2.1,((gt ab (n.aa.map aq) (k:Int)).2.2.1,((gt ab (n.aa.map aq) (k:Int)).2.2.2.1,((gt ab (n.aa.map aq) (k:Int)).2.2.2.2.1,()))))),())=some (tP n.aa[k],()):=by rw[g];exact eb
   have hr:=yl (n.aa.take k) 0 (fun m hm=>mG hs m (List.mem_of_mem_take hm));have hl:(n.aa.take k).length<=4:=by rw[List.length_take];omega
   have hst:dW (n.aa.take (k+1))=dW (n.aa.take k)+tP n.aa[k]:=by unfold dW;rw[Pl.df hx,List.foldl_append];rfl
   have e:∀(a b p q:Int),a=b->p=q->(some (.inl (a,(n.aa.map aq,(((n.aa.map aq).length:Int),(p,()))))):Option (TL tU.σs⊕Out tO))=some (.inl (b,(n.aa.map aq,(((n.aa.map aq).length:Int),(q,()))))):=by rintro _ _ _ _ rfl rfl;rfl
   have hr:0<=dW (n.aa.take k)/\dW (n.aa.take k)<=0+40000*((n.aa.take k).length:Int):=hr;refine ao (aj (show(k:Int)<((n.aa.map aq).length:Int) by omega)) (ak (show aA (k:Int) (List.length (n.aa.map aq))=true from aN ⟨by omega,by omega⟩) (ag eb' (e _ _ _ _ ?_ (bF (show(k:Int)+1=((k+1:Nat):Int) by omega) (by omega)))));rw[hst];exact bJ (by omega)
  .have e:∀(a b:Int),a=b->(some (.inr (a,())):Option (TL tU.σs⊕Out tO))=some (.inr (b,())):=by rintro _ _ rfl;rfl
   rw[List.take_length];exact af (au (show ¬(n.aa.length:Int)<((n.aa.map aq).length:Int) by omega)) rfl
 exact ag e2 rfl
theorem acu:abz (((0:Int),([],([],([],([],([],(n.aa.map aq,([],())))))))),())=some (iX (dW n.aa),()):=by
 have hM:=hs.lens.2.2.2.2;have e1:=aep hs;have hr:=yl n.aa 0 (mG hs);have hr:0<=dW n.aa/\dW n.aa<=0+40000*(n.aa.length:Int):=hr;have w:IntKind.wrap .i64 (((0:Nat):Int)+dW n.aa)=dW n.aa:=by rw[show((0:Nat):Int)+dW n.aa=dW n.aa by omega];exact bJ (by omega)
 have e:∀(a b:Int),a=b->(some (a,()):Option (TL ye))=some (b,()):=by rintro _ _ rfl;rfl
 refine ag e1 (e _ _ ?_);show cN (iL (1000:Int) (IntKind.wrap .i64 (((0:Nat):Int)+dW n.aa))) (1000:Int) (IntKind.wrap .i64 (((0:Nat):Int)+dW n.aa))=_;rw[w];exact FH _
theorem afb{k:Nat}{m:bB}(hm:n.aa[k]?=some m)(acc:Int) :
  Ek (acc,((k:Int),(m.word,((0:Int),nt n ()))))=some (acc,((k:Int),(dy m.word m.addr.toNat,nt n ()))):=by
 obtain⟨h1,h2,h3⟩:=mG hs m (List.mem_of_getElem? hm);obtain⟨_,h4,_⟩:=hs.aa m (List.mem_of_getElem? hm);have hk:=dr hm;have hL:((n.aa.map aq).length:Int)=(n.aa.length:Int):=by rw[List.length_map]
 have hM:=hs.lens.2.2.2.2;have hx':(n.aa.map aq)[k]?=some (aq m):=by rw[List.getElem?_map,hm];rfl
 have g:gt ab (n.aa.map aq) (k:Int)=aq m:=bn (σ:=ab) hx';have aT:aA (k:Int) (List.length (n.aa.map aq))=true:=aN ⟨by omega,by omega⟩;have hq:=lZ (B:=fun d=>Eh d.1 d.2.1 d.2.2.1 d.2.2.2.1 d.2.2.2.2.1 d.2.2.2.2.2.1 d.2.2.2.2.2.2.1 d.2.2.2.2.2.2.2.1 d.2.2.2.2.2.2.2.2.1 d.2.2.2.2.2.2.2.2.2.1 d.2.2.2.2.2.2.2.2.2.2.1 d.2.2.2.2.2.2.2.2.2.2.2.1)
  (I:=fun d:TL qY.σs=>∃j:Nat,j<=m.addr.toNat/\d=(acc,((k:Int),(dy m.word j,((j:Int),nt n ())))))
  (Q:=fun o:Out tD=>o=(acc,((k:Int),(dy m.word m.addr.toNat,nt n ()))))
  (fun d:TL qY.σs=>m.addr.toNat-Int.toNat d.2.2.2.1) ?_ NN (acc,((k:Int),(m.word,((0:Int),nt n ())))) ⟨0,by omega,rfl⟩ (bt (by show m.addr.toNat-_<=_;omega))
 .obtain⟨o,ho,rfl⟩:=hq;exact ho
 .rintro d ⟨j,hj,rfl⟩;have e0:(gt ab (n.aa.map aq) (k:Int)).1=m.addr:=by rw[g];rfl
  by_cases q:j<m.addr.toNat
  .have c0:iL (j:Int) (gt ab (n.aa.map aq) (k:Int)).1=true:=aj (by rw[e0];omega);have lo:=yo h2 j;have up:=FJ h3 j;by_cases r:dy m.word j<1000
   .refine .inr ⟨(acc,((k:Int),(dy m.word (j+1),(((j+1:Nat):Int),nt n ())))),?_,⟨j+1,by omega,rfl⟩,by show m.addr.toNat-Int.toNat ((j+1:Nat):Int)<m.addr.toNat-Int.toNat (j:Int);omega⟩;have e:∀(a b p q:Int),a=b->p=q->(some (.inl (acc,((k:Int),(a,(p,nt n ()))))):Option (TL qY.σs⊕Out tD))=some (.inl (acc,((k:Int),(b,(q,nt n ()))))):=by rintro _ _ _ _ rfl rfl;rfl
    refine ak aT (ao c0 (ao (show aR true (iL (dy m.word j) (1000:Int)) false=true from aj r) (e _ _ _ _ ?_ (bF (show(j:Int)+1=((j+1:Nat):Int) by omega) (by omega)))));rw[dy,if_pos r];exact bJ (x:=2*dy m.word j) (by omega)
   .refine .inl ⟨_,ak aT (ao c0 (af (show aR true (iL (dy m.word j) (1000:Int)) false=false from au r) rfl)),?_⟩;have:=acC (w:=m.word) (k:=j) (by omega) (m.addr.toNat-j);rw[show j+(m.addr.toNat-j)=m.addr.toNat by omega]at this;rw[this];rfl
  .obtain rfl:j=m.addr.toNat:=by omega
   exact .inl ⟨_,ak aT (af (au (show ¬((m.addr.toNat:Nat):Int)<(gt ab (n.aa.map aq) (k:Int)).1 by rw[e0];omega)) rfl),rfl⟩
theorem afa:OT ((0:Int),((0:Int),nt n ()))=some (lf n.aa,()):=by
 have hM:=hs.lens.2.2.2.2;have hL:((n.aa.map aq).length:Int)=(n.aa.length:Int):=by rw[List.length_map]
 unfold OT;delta lM;refine cP (fun k:Nat=>(lf (n.aa.take k),((k:Int),nt n ()))) n.aa.length rfl ?_ ?_ (bt (by omega))
 .intro k hk;have hx:=List.getElem?_eq_getElem hk;have hx':(n.aa.map aq)[k]?=some (aq n.aa[k]):=by rw[List.getElem?_map,hx];rfl
  have g:gt ab (n.aa.map aq) (k:Int)=aq n.aa[k]:=bn (σ:=ab) hx';obtain⟨h1,h2,h3⟩:=mG hs _ (List.getElem_mem hk);have lo:=yo h2 n.aa[k].addr.toNat;have up:=FJ h3 n.aa[k].addr.toNat;have e9:Ek (lf (n.aa.take k),((k:Int),((gt ab (n.aa.map aq) (k:Int)).2.1,((0:Int),nt n ()))))=some (lf (n.aa.take k),((k:Int),(dy n.aa[k].word n.aa[k].addr.toNat,nt n ()))):=by rw[g];exact afb hs hx _
  have hr:0<=lf (n.aa.take k)/\lf (n.aa.take k)<=0+2000*((n.aa.take k).length:Int):=adi (n.aa.take k) 0 (fun m hm=>mG hs m (List.mem_of_mem_take hm));have hl:(n.aa.take k).length<=4:=by rw[List.length_take];omega
  have hst:lf (n.aa.take (k+1))=lf (n.aa.take k)+dy n.aa[k].word n.aa[k].addr.toNat:=by unfold lf;rw[Pl.df hx,List.foldl_append];rfl
  have e:∀(a b p q:Int),a=b->p=q->(some (.inl (a,(p,nt n ()))):Option (TL xm.σs⊕Out xg))=some (.inl (b,(q,nt n ()))):=by rintro _ _ _ _ rfl rfl;rfl
  refine ao (aj (show(k:Int)<((n.aa.map aq).length:Int) by omega)) (ak (show aA (k:Int) (List.length (n.aa.map aq))=true from aN ⟨by omega,by omega⟩) (ag e9 (e _ _ _ _ ?_ (bF (show(k:Int)+1=((k+1:Nat):Int) by omega) (by omega)))));rw[hst];exact bJ (x:=lf (n.aa.take k)+dy n.aa[k].word n.aa[k].addr.toNat) (by omega)
 .rw[List.take_length];exact af (au (show ¬(n.aa.length:Int)<((n.aa.map aq).length:Int) by omega)) rfl
end
section
variable{n:av}(ft:Fit n)
include ft
theorem tX:aa2 (ba n,())=some (dE n,()):=by
 have ec:=pf ft;unfold dE;by_cases hc:Pl.cK n=0
 .rw[if_neg (fun q=>q hc)];unfold Pl.cK at hc;have h0:dt n=0:=by
   by_cases q:dt n=0
   .exact q
   .rw[if_pos q]at hc;exact absurd hc q
  obtain⟨V,hs⟩:=oM h0;have eb:=acu hs;have hc':Pl.cK n=0:=by unfold Pl.cK;exact hc
  have e:∀(a b:Int),a=b->(some (a,()):Option (TL xT))=some (b,()):=by rintro _ _ rfl;rfl
  refine ag ec (af (dn (aj hc')) (ag eb (e _ _ ?_)));show cN (iL (1000:Int) (iX (dW n.aa))) (1000:Int) (iX (dW n.aa))=_;rw[FH];unfold iX;split
  .rfl
  .rfl
 .rw[if_pos hc];exact ag ec (ao (fg (au hc)) rfl)
theorem Fp:aam (ba n,())=some (dE n,()):=by
 have ec:=DN ft;unfold dE;by_cases hc:Pl.cK n=0
 .rw[if_neg (fun q=>q hc)];have hc':=hc;unfold Pl.cK at hc;have h0:dt n=0:=by
   by_cases q:dt n=0
   .exact q
   .rw[if_pos q]at hc;exact absurd hc q
  obtain⟨V,hs⟩:=oM h0;have e5:=afa hs;have e:∀(a b:Int),a=b->(some (a,()):Option (TL xt))=some (b,()):=by rintro _ _ rfl;rfl
  refine ag ec (af (dn (aj hc')) (ag e5 (e _ _ ?_)));show cN (iL (1000:Int) (lf n.aa)) (1000:Int) (lf n.aa)=_;rw[FH];exact(acy (adj n.aa 0 0 (mG hs) (.inl rfl) (by omega) (by omega))).symm
 .rw[if_pos hc];exact ag ec (ao (fg (au hc)) rfl)
end
def jJ(m:bB)(c:List aO)(a:Nat):List Bool:=cX (rd c ((a:Nat):Int)).toNat m.word.toNat
def fN(m:bB)(c:List aO)(k:Nat):List Bool:=(List.range k).flatMap (jJ m c)
theorem yw(L:List Bool)(h:L.length<=100000):room 1 (List.length ([]++L))=true:=by rw[List.nil_append];exact kh (by omega) (by omega)
def mz:bB:=⟨0,0,false,[],[]⟩
def fE(n:av)(ls:List Bool)(cs:List (List aO))(k:Nat):List Bool:=ls++(List.range k).flatMap fun i=>fN (n.aa.getD i mz) (cs.getD i []) (2^(n.aa.getD i mz).addr.toNat)
theorem yg(m:bB)(c:List aO)(k:Nat):fN m c (k+1)=fN m c k++jJ m c k:=by unfold fN;rw[List.range_succ,List.flatMap_append];simp
theorem tY(m:bB)(c:List aO):∀k,(fN m c k).length=k*m.word.toNat:=by
 intro k
 induction k with|zero=>simp[fN]|succ k ih=>rw[yg,List.length_append,ih,Nat.succ_mul];unfold jJ;rw[kX]
theorem ua(n:av)(ls:List Bool)(cs:List (List aO)){k:Nat}{m:bB}{c:List aO}(hm:n.aa[k]?=some m)(hc:cs[k]?=some c):fE n ls cs (k+1)=fE n ls cs k++fN m c (2^m.addr.toNat):=by unfold fE;rw[List.range_succ,List.flatMap_append,<-List.append_assoc];congr 1;simp only[List.flatMap_cons,List.flatMap_nil,List.append_nil];rw[List.getD_eq_getElem?_getD,List.getD_eq_getElem?_getD,hm,hc];rfl
theorem afN(c:List aO)(a:Int):rd c a=0\/∃p∈c,rd c a=p.2.1:=by
 induction c with
 |nil=>exact .inl rfl|cons p c ih=>
  rw[KX];by_cases q:p.1=a
  .rw[if_pos q];exact .inr ⟨p,by simp,rfl⟩
  .rw[if_neg q];rcases ih with h|⟨r,hr,h⟩
   .exact .inl h
   .exact .inr ⟨r,by simp[hr],h⟩
theorem QE{c:List aO}{i:Nat}{p:aO}(h:c[i]?=some p):dD c (i:Int)=p.1/\gD c (i:Int)=p.2.1:=by have g:gt aB c (i:Int)=p:=bn (σ:=aB) h;unfold dD gD;rw[g];exact⟨rfl,rfl⟩
theorem RK{c:List aO}(h:ou c)(a:Int):0<=rd c a/\rd c a<=18446744073709551615:=by
 rcases afN c a with e|⟨p,hp,e⟩
 .omega
 .obtain⟨i,hi⟩:=List.getElem?_of_mem hp;have hw:=(h i (dr hi)).2;rw[(QE hi).2]at hw;omega
structure Small(m:bB):Prop where
 a1:1<=m.addr
 a2:m.addr<10
 w1:1<=m.word
 w2:m.word<=64
 sz:m.word*2^m.addr.toNat<=64
theorem Small.nat{m:bB}(h:Small m):2^m.addr.toNat*m.word.toNat<=64/\1<=2^m.addr.toNat:=by
 have hp:(1:Nat)<=2^m.addr.toNat:=Nat.pos_of_ne_zero (by simp);refine⟨?_,hp⟩;have e:((2^m.addr.toNat*m.word.toNat:Nat):Int)=m.word*2^m.addr.toNat:=by
  push_cast
  rw[show((m.word.toNat:Nat):Int)=m.word by have:=h.w1;omega,Int.mul_comm]
 have:=h.sz;omega
theorem Small.iK{m:bB}(h:Small m):2^m.addr.toNat<=64:=by have h1:=h.nat.1;have h2:2^m.addr.toNat*1<=2^m.addr.toNat*m.word.toNat:=Nat.mul_le_mul_left _ (by have:=h.w1;omega);omega
theorem acK:∀(l:List bB) (a:Int),(∀m∈l,1<=m.addr/\1<=m.word/\m.word<=64)->∀m∈l,a+tP m<=l.foldl (fun a m=>a+tP m) a:=by
 intro l
 induction l with
 |nil=>intro a _ m hm;cases hm
 |cons x l ih=>
  intro a hl m hm;obtain⟨h1,h2,h3⟩:=hl x (by simp);have t:=yy h1 h2 h3;have hl':∀m∈l,1<=m.addr/\1<=m.word/\m.word<=64:=fun y hy=>hl y (by simp[hy]);rw[List.foldl_cons];rcases List.mem_cons.1 hm with rfl|hm
  .exact(yl l (a+tP m) hl').1
  .have:=ih (a+tP x) hl' m hm;omega
section
variable{n:av}{V:Nat}(hs:cj n V)
include hs
theorem FE(h:iX (dW n.aa)<=64):∀m∈n.aa,Small m:=by
 intro m hm;have h2:dW n.aa<=64:=by unfold iX at h;split at h<;>omega
 have h3:=acK n.aa 0 (mG hs) m hm;have h3:0+tP m<=dW n.aa:=h3;obtain⟨m1,m2,m3⟩:=mG hs m hm;unfold tP at h3;by_cases q:10<=m.addr
 .rw[if_pos q]at h3;omega
 .rw[if_neg q]at h3;exact⟨m1,by omega,m2,m3,by omega⟩
end
section
variable{n:av}{V:Nat}
theorem Rc(ls:List Bool)(cs:List (List aO))(hsm:∀m∈n.aa,Small m):∀k,k<=n.aa.length->k<=cs.length->(fE n ls cs k).length<=ls.length+64*k:=by
 intro k
 induction k with|zero=>intro _ _;simp[fE]|succ k ih=>intro hk hc;have hx:=List.getElem?_eq_getElem (l:=n.aa) (i:=k) (by omega);have hy:=List.getElem?_eq_getElem (l:=cs) (i:=k) (by omega);rw[ua n ls cs hx hy,List.length_append,tY];have:=(hsm _ (List.getElem_mem (show k<n.aa.length by omega))).nat.1;have:=ih (by omega) (by omega);omega
end
section
variable{n:av}{V:Nat}
theorem QB{m:bB}(h:Small m):IntKind.wrap .u64 ((1:Int)*(HPow.hPow (2:Int) (Min.min (Int.toNat m.addr) 64)))=((2^m.addr.toNat:Nat):Int):=by
 have h1:=h.a2;have h2:=h.a1;rw[Nat.min_eq_left (by omega),Int.one_mul];have hc:=h.iK;have e:((2^m.addr.toNat:Nat):Int)=(2:Int)^m.addr.toNat:=by push_cast;rfl
 have hp:(0:Int)<=(2:Int)^m.addr.toNat:=Int.le_of_lt (Int.pow_pos (by decide));have hc':(2:Int)^m.addr.toNat<=64:=by exact_mod_cast hc
 rw[e];exact j4 ⟨hp,by omega⟩
end
section
variable{n:av}{V:Nat}
theorem afV{k:Nat}{m:bB}{c:List aO}(hm:Small m)(hc:ou c)(L:Int)(ls:List Bool)(cs:List (List aO))(acc:List Bool)(hacc:acc.length<=1000000)(ra:Int) :
  tJ (n.aa.map aq,(L,((k:Int),(((2^m.addr.toNat:Nat):Int),((0:Int),(ls,(cs,(acc,(m.addr,(m.word,(m.any,(m.reads.map dv,(m.writes.map dI,(ra,(m.word,(c,())))))))))))))))) =
   some (n.aa.map aq,(L,((k:Int),(ls,(cs,(acc++fN m c (2^m.addr.toNat),())))))):=by
 have hn:=hm.nat;have hcn:=hm.iK;unfold tJ;delta u16;refine cP (fun j:Nat=>(n.aa.map aq,(L,((k:Int),(((2^m.addr.toNat:Nat):Int),((j:Int),(ls,(cs,(acc++fN m c j,(m.addr,(m.word,(m.any,(m.reads.map dv,(m.writes.map dI,(ra,(m.word,(c,()))))))))))))))))) (2^m.addr.toNat) (by have h:acc++fN m c 0=acc:=List.append_nil acc;dsimp only;rw[h];try rfl) ?_ ?_ (bt (by omega))
 .intro j hj;have hr:=RK hc (j:Int);have e1:tc ((j:Int),(ra,(m.word,(c,()))))=some (rd c (j:Int),(ra,(m.word,(c,())))):=by
   have e:∀p q:Int,p=q->(some (p,(ra,(m.word,(c,())))):Option (Out wg))=some (q,(ra,(m.word,(c,())))):=by rintro _ _ rfl;rfl
   exact e _ _ (uc c (j:Int))
  have hw1:=hm.w1;have hw2:=hm.w2;have e2:l9 (rd c (j:Int),(m.word,()))=some (jJ m c j,()):=by have:=tW (rd c (j:Int)).toNat m.word.toNat (by omega) (by omega);rw[show(((rd c (j:Int)).toNat:Nat):Int)=rd c (j:Int) by omega,show((m.word.toNat:Nat):Int)=m.word by omega]at this;exact this
  have hl:(fN m c j).length<=64:=by rw[tY];have:j*m.word.toNat<=2^m.addr.toNat*m.word.toNat:=Nat.mul_le_mul_right _ (by omega);omega
  have hwl:(jJ m c j).length<=64:=by unfold jJ;rw[kX];omega
  have hroom:room 1 (List.length ((acc++fN m c j)++jJ m c j))=true:=by rw[List.length_append,List.length_append];exact kh (by omega) (by omega)
  have ht:(acc++fN m c j)++jJ m c j=acc++fN m c (j+1):=by rw[yg,List.append_assoc]
  have e:∀(a b:List Bool) (p q:Int),a=b->p=q->(some (.inl (n.aa.map aq,(L,((k:Int),(((2^m.addr.toNat:Nat):Int),(p,(ls,(cs,(a,(m.addr,(m.word,(m.any,(m.reads.map dv,(m.writes.map dI,(ra,(m.word,(c,())))))))))))))))) ):Option (TL xH.σs⊕Out xD))=some (.inl (n.aa.map aq,(L,((k:Int),(((2^m.addr.toNat:Nat):Int),(q,(ls,(cs,(b,(m.addr,(m.word,(m.any,(m.reads.map dv,(m.writes.map dI,(ra,(m.word,(c,())))))))))))))))) ):=by rintro _ _ _ _ rfl rfl;rfl
  exact ao (aj (show(j:Int)<((2^m.addr.toNat:Nat):Int) by omega)) (ag e1 (ak (aj rfl) (ag e2 (ak hroom (e _ _ _ _ ht (j4 (x:=(j:Int)+1) (by omega)))))))
 .exact af (au (show ¬((2^m.addr.toNat:Nat):Int)<((2^m.addr.toNat:Nat):Int) by omega)) rfl
end
section
variable{n:av}{V:Nat}(hs:cj n V)
include hs
theorem alK(ls:List Bool)(cs:List (List aO))(hsm:∀m∈n.aa,Small m)(hok:lJ cs)(hf:dV (ba n) (ls,(cs,()))=true)(hl:ls.length<=100000) :
  PF (n.aa.map aq,(((n.aa.map aq).length:Int),((0:Int),(ls,(cs,(ls,()))))))=some (fE n ls cs n.aa.length,()):=by
 have hM:=hs.lens.2.2.2.2;have hL:((n.aa.map aq).length:Int)=(n.aa.length:Int):=by rw[List.length_map]
 unfold dV at hf;simp only[Bool.and_eq_true,decide_eq_true_eq]at hf;obtain⟨⟨f1,f2⟩,f3⟩:=hf;have f2:cs.length=n.aa.length:=f2.trans (List.length_map ..);have f3:(List.range (n.aa.map aq).length).all (jo (n.aa.map aq) cs)=true:=f3;unfold PF;delta u6;refine cP (fun k:Nat=>(n.aa.map aq,(((n.aa.map aq).length:Int),((k:Int),(ls,(cs,(fE n ls cs k,()))))))) n.aa.length (by have h:fE n ls cs 0=ls:=List.append_nil ls;dsimp only;rw[h];try rfl) ?_ ?_ (bt (by omega))
 .intro k hk;obtain⟨m,hm⟩:∃m,n.aa[k]?=some m:=⟨_,List.getElem?_eq_getElem hk⟩;obtain⟨c,hc⟩:∃c,cs[k]?=some c:=⟨_,List.getElem?_eq_getElem (by omega)⟩;have hmm:=List.mem_of_getElem? hm;have sm:=hsm m hmm;have hm':(n.aa.map aq)[k]?=some (aq m):=by rw[List.getElem?_map,hm];rfl
  have g1:gt ab (n.aa.map aq) (k:Int)=aq m:=bn (σ:=ab) hm';have g2:gt (.sl aB) cs (k:Int)=c:=bn (σ:=.sl aB) hc;have hp:=(List.all_eq_true.1 f3) k (List.mem_range.2 (by rw[List.length_map];exact hk));unfold jo at hp;rw[g1,g2]at hp;have hp:ir m.addr m.word c=true:=hp;have e4:=Oh m.addr m.word c;rw[hp]at e4;have e4':wi ((gt ab (n.aa.map aq) (k:Int)).1,((gt ab (n.aa.map aq) (k:Int)).2.1,(gt (.sl aB) cs (k:Int),())))=some (.inr ((0:Int),(m.addr,(m.word,(c,()))))):=by rw[g1,g2];exact e4
  have hsl:=Rc ls cs hsm k (by omega) (by omega);have e13:=afV (n:=n) (k:=k) sm (hok c (List.mem_of_getElem? hc)) ((n.aa.map aq).length:Int) ls cs (fE n ls cs k) (by omega) m.addr;have e13':tJ (n.aa.map aq,(((n.aa.map aq).length:Int),((k:Int),((IntKind.wrap .u64 ((1:Int)*(HPow.hPow (2:Int) (Min.min (Int.toNat (gt ab (n.aa.map aq) (k:Int)).1) 64)))),((0:Int),(ls,(cs,(fE n ls cs k,((gt ab (n.aa.map aq) (k:Int)).1,((gt ab (n.aa.map aq) (k:Int)).2.1,((gt ab (n.aa.map aq) (k:Int)).2.2.1,((gt ab (n.aa.map aq) (k:Int)).2.2.2.1,((gt ab (n.aa.map aq) (k:Int)).2.2.2.2.1,(m.addr,(m.word,(c,())))))))))))))))) =
   some (n.aa.map aq,(((n.aa.map aq).length:Int),((k:Int),(ls,(cs,(fE n ls cs k++fN m c (2^m.addr.toNat),())))))):=by
   rw[g1];have:=QB sm;show tJ (n.aa.map aq,(((n.aa.map aq).length:Int),((k:Int),((IntKind.wrap .u64 ((1:Int)*(HPow.hPow (2:Int) (Min.min (Int.toNat m.addr) 64)))),_))))=_;rw[this];exact e13
  have hc0:iE (0:Int) (gt ab (n.aa.map aq) (k:Int)).1=true:=aj (by rw[g1];have:=sm.a1;show(0:Int)<=m.addr;omega);have e:∀(a b:List Bool) (p q:Int),a=b->p=q->(some (.inl (n.aa.map aq,(((n.aa.map aq).length:Int),(p,(ls,(cs,(a,()))))))):Option (TL xM.σs⊕Out xI))=some (.inl (n.aa.map aq,(((n.aa.map aq).length:Int),(q,(ls,(cs,(b,()))))))):=by rintro _ _ _ _ rfl rfl;rfl
  exact ao (aj (show(k:Int)<((n.aa.map aq).length:Int) by omega)) (ak (show aA (k:Int) (List.length (n.aa.map aq))=true from aN ⟨by omega,by omega⟩) (ak (show aA (k:Int) (List.length cs)=true from aN ⟨by omega,by omega⟩) (ag e4' (ak hc0 (ag e13' (e _ _ _ _ (ua n ls cs hm hc).symm (bF (show(k:Int)+1=((k+1:Nat):Int) by omega) (by omega))))))))
 .exact af (au (show ¬(n.aa.length:Int)<((n.aa.map aq).length:Int) by omega)) rfl
theorem afR{k:Nat}{m:bB}{c:List aO}(hmk:n.aa[k]?=some m)(hck:∀cs:List (List aO),cs[k]?=some c->True)(hm:Small m)(hc:ou c)(hcl:c.length<=100000)(ls:List Bool)(cs:List (List aO))(hcs:cs[k]?=some c)(acc:List Bool)(hacc:acc.length<=1000000) :
  D8 ((k:Int),((0:Int),nt n (ls,(cs,(acc,())))))=some ((k:Int),nt n (ls,(cs,(acc++fN m c (2^m.addr.toNat),())))):=by
 have hn:=hm.nat;have hcn:=hm.iK;have hk:=dr hmk;have hM:=hs.lens.2.2.2.2;have hm':(n.aa.map aq)[k]?=some (aq m):=by rw[List.getElem?_map,hmk];rfl
 have g1:gt ab (n.aa.map aq) (k:Int)=aq m:=bn (σ:=ab) hm';have g2:gt (.sl aB) cs (k:Int)=c:=bn (σ:=.sl aB) hcs;have aT:aA (k:Int) (List.length (n.aa.map aq))=true:=aN ⟨by omega,by rw[List.length_map];omega⟩;have hin2:aA (k:Int) (List.length cs)=true:=aN ⟨by omega,by have:k<List.length (α:=List aO) cs:=dr hcs;omega⟩;have a1:=hm.a1;have a2:=hm.a2;have hfit:∀j:Nat,j<=2^m.addr.toNat->qA ((j:Int),((gt ab (n.aa.map aq) (k:Int)).1,()))=some (decide (j<2^m.addr.toNat),()):=by
  intro j hj;rw[g1];have:=tj (v:=(j:Int)) (w:=m.addr) ⟨by omega,by omega⟩ ⟨by omega,by omega⟩;refine this.trans ?_;have e:∀p q:Bool,p=q->(some (p,()):Option (TL wc))=some (q,()):=by rintro _ _ rfl;rfl
  refine e _ _ ?_;unfold iw;have hp:((2^m.addr.toNat:Nat):Int)=(2:Int)^m.addr.toNat:=by push_cast;rfl
  by_cases q:j<2^m.addr.toNat
  .rw[decide_eq_true q,decide_eq_true];exact Int.ediv_eq_zero_of_lt (by omega) (by omega)
  .obtain rfl:j=2^m.addr.toNat:=by omega
   rw[decide_eq_false q,hp,decide_eq_false];rw[Int.ediv_self (by omega)];omega
 unfold D8;delta nC;refine cP (fun j:Nat=>((k:Int),((j:Int),nt n (ls,(cs,(acc++fN m c j,())))))) (2^m.addr.toNat) (by have h:acc++fN m c 0=acc:=List.append_nil acc;dsimp only;rw[h];try rfl) ?_ ?_ (bt (by omega))
 .intro j hj;have e0:=hfit j (by omega);rw[decide_eq_true hj]at e0;have hr:=RK hc (j:Int);have hw1:=hm.w1;have hw2:=hm.w2;have e1:IU (gt (.sl aB) cs (k:Int),((j:Int),()))=some (rd c (j:Int),()):=by rw[g2];exact alo c (j:Int) hcl
  have e2:IL (rd c (j:Int),((gt ab (n.aa.map aq) (k:Int)).2.1,()))=some (jJ m c j,()):=by rw[g1];have:=ale (rd c (j:Int)).toNat m.word.toNat (by omega) (by omega);rw[show(((rd c (j:Int)).toNat:Nat):Int)=rd c (j:Int) by omega,show((m.word.toNat:Nat):Int)=m.word by omega]at this;exact this
  have hl:(fN m c j).length<=64:=by rw[tY];have:j*m.word.toNat<=2^m.addr.toNat*m.word.toNat:=Nat.mul_le_mul_right _ (by omega);omega
  have hwl:(jJ m c j).length<=64:=by unfold jJ;rw[kX];omega
  have hroom:room 1 (List.length ((acc++fN m c j)++jJ m c j))=true:=by rw[List.length_append,List.length_append];exact kh (by omega) (by omega)
  have ht:(acc++fN m c j)++jJ m c j=acc++fN m c (j+1):=by rw[yg,List.append_assoc]
  have e:∀(a b:List Bool) (p q:Int),a=b->p=q->(some (.inl ((k:Int),(p,nt n (ls,(cs,(a,())))))):Option (TL xh.σs⊕Out xc))=some (.inl ((k:Int),(q,nt n (ls,(cs,(b,())))))):=by rintro _ _ _ _ rfl rfl;rfl
  exact ak aT (ag e0 (ao rfl (ak hin2 (ak aT (ag e1 (ag e2 (ak hroom (e _ _ _ _ ht (j4 (x:=(j:Int)+1) (by omega))))))))))
 .have e0:=hfit (2^m.addr.toNat) (Nat.le_refl _);rw[decide_eq_false (by omega)]at e0;exact ak aT (ag e0 (af rfl rfl))
theorem alJ(ls:List Bool)(cs:List (List aO))(hsm:∀m∈n.aa,Small m)(hok:lJ cs)(hcs:cs.length=n.aa.length)(hcl:∀c∈cs,c.length<=100000)(hl:ls.length<=100000) :
  OY ((0:Int),nt n (ls,(cs,(ls,()))))=some (fE n ls cs n.aa.length,()):=by
 have hM:=hs.lens.2.2.2.2;have hL:((n.aa.map aq).length:Int)=(n.aa.length:Int):=by rw[List.length_map]
 unfold OY;delta jW;refine cP (fun k:Nat=>((k:Int),nt n (ls,(cs,(fE n ls cs k,()))))) n.aa.length (by have h:fE n ls cs 0=ls:=List.append_nil ls;dsimp only;rw[h];try rfl) ?_ ?_ (bt (by omega))
 .intro k hk;obtain⟨m,hm⟩:∃m,n.aa[k]?=some m:=⟨_,List.getElem?_eq_getElem hk⟩;obtain⟨c,hc⟩:∃c,cs[k]?=some c:=⟨_,List.getElem?_eq_getElem (by omega)⟩;have sm:=hsm m (List.mem_of_getElem? hm);have hsl:=Rc ls cs hsm k (by omega) (by omega);have e11:=afR hs hm (fun _ _=>trivial) sm (hok c (List.mem_of_getElem? hc)) (hcl c (List.mem_of_getElem? hc)) ls cs hc (fE n ls cs k) (by omega);have e:∀(a b:List Bool) (p q:Int),a=b->p=q->(some (.inl (p,nt n (ls,(cs,(a,()))))):Option (TL xn.σs⊕Out xj))=some (.inl (q,nt n (ls,(cs,(b,()))))):=by rintro _ _ _ _ rfl rfl;rfl
  exact ao (aj (show(k:Int)<((n.aa.map aq).length:Int) by omega)) (ag e11 (e _ _ _ _ (ua n ls cs hm hc).symm (bF (show(k:Int)+1=((k+1:Nat):Int) by omega) (by omega))))
 .exact af (au (show ¬(n.aa.length:Int)<((n.aa.map aq).length:Int) by omega)) rfl
end
def fx(n:av)(ls:List Bool)(cs:List (List aO)):Int×List Bool:=if gU (ba n) (ls,(cs,()))≠0 then(gU (ba n) (ls,(cs,())),[])else if 64<dE n then(17,[])else(0,fE n ls cs n.aa.length)
section
variable{n:av}
theorem FW{ls:List Bool}{cs:List (List aO)}(h:gU (ba n) (ls,(cs,()))=0):Pl.cK n=0/\dV (ba n) (ls,(cs,()))=true:=by
 unfold gU at h;rw[lG]at h;by_cases q:Pl.cK n=0
 .rw[if_neg (fun w=>w q)]at h;refine⟨q,?_⟩;cases hf:dV (ba n) (ls,(cs,()))with|true=>rfl|false=>rw[hf]at h;simp at h
 .rw[if_pos q]at h;exact absurd h q
end
section
variable{n:av}
theorem Su(h:Pl.cK n=0):∃V,cj n V/\dE n=iX (dW n.aa):=by
 have hc:=h;unfold Pl.cK at hc;have h0:dt n=0:=by
  by_cases q:dt n=0
  .exact q
  .rw[if_pos q]at hc;exact absurd hc q
 obtain⟨V,hs⟩:=oM h0;exact⟨V,hs,by unfold dE;rw[if_neg (fun q=>q h)]⟩
end
section
variable{n:av}(ft:Fit n)
include ft
theorem Qp(ls:List Bool)(cs:List (List aO))(hok:lJ cs)(hl:ls.length<=100000)(hcl:∀c∈cs,c.length<=100000) :
  xU (nt n (ls,(cs,())))=some ((fx n ls cs).1,((fx n ls cs).2,())) /\
  aap (ba n,((ls,(cs,())),()))=some (((fx n ls cs).2,([],())),((fx n ls cs).1,())):=by
 have oq:Fit (dO (ba n)):=by rw[lG];exact ft
 have hT:List.length (ba n).2.2.2.2.2.2.1<=100000:=by show(n.aa.map aq).length<=_;rw[List.length_map];have:=ft.aa.1;omega
 have e1:=Zy6 (ba n) (ls,(cs,())) oq hT;have e2:=Zya (ba n) (ls,(cs,())) oq hT hok;have c1:=tX ft;have c2:=Fp ft;unfold fx;by_cases h0:gU (ba n) (ls,(cs,()))=0
 .rw[if_neg (fun q=>q h0)];obtain⟨hc,hf⟩:=FW h0;obtain⟨V,hs,hcl2⟩:=Su hc;by_cases h1:64<dE n
  .rw[if_pos h1];exact⟨ag e1 (af (dn (aj h0)) (ag c1 (ao (aj h1) rfl))),ag e2 (af (dn (aj h0)) (ag c2 (ao (aj h1) rfl)))⟩
  .rw[if_neg h1];have hsm:=FE hs (by rw[<-hcl2];omega);have e8:=alK hs ls cs hsm hok hf hl;have hcs:cs.length=n.aa.length:=by unfold dV at hf;simp only[Bool.and_eq_true,decide_eq_true_eq]at hf;exact hf.1.2.trans (List.length_map ..)
   have r8:=alJ hs ls cs hsm hok hcs hcl hl;have hcb:IK (ls,())=some (ls,()):=ak (yw ls hl) rfl;refine⟨ag e1 (af (dn (aj h0)) (ag c1 (af (au h1) (ag hcb (ag e8 rfl))))),ag e2 (af (dn (aj h0)) (ag c2 (af (au h1) (ak (yw ls hl) (ag r8 rfl)))))⟩
 .rw[if_pos h0];exact⟨ag e1 (ao (fg (au h0)) rfl),ag e2 (ao (fg (au h0)) rfl)⟩
end
theorem yD{a b:Bool}(h1:a=true)(h2:b=true):both a b=true:=by subst h1;subst h2;rfl
theorem Rg{l:List Bool}{k n:Nat}(h:k<=n):(l.take k).length<=n:=by rw[List.length_take];omega
theorem Fg(l:List Bool)(hl:l.length<=64):tV (l,())=some ((bG l:Int),()):=by
 have s:cN (iL (64:Int) (Int.ofNat (List.length l))) (64:Int) (Int.ofNat (List.length l))=Int.ofNat (List.length l):=by
  unfold cN;rw[show iL (64:Int) (Int.ofNat (List.length l))=false from au (show ¬(64:Int)<((l.length:Nat):Int) by omega)]
  try rfl
 have ht:List.take (Int.toNat (Int.ofNat (List.length l))) l=l:=by show List.take l.length l=l;exact List.take_length
 have eL:yb ((0:Int),(l,(((l.length:Nat):Int),((0:Int),()))))=some ((bG l:Int),()):=by
  unfold yb;delta u4;refine cP (fun k:Nat=>((bG (l.take k):Int),(l,(((l.length:Nat):Int),((k:Int),()))))) l.length rfl ?_ ?_ (bt (by omega))
  .intro k hk;have hx:=List.getElem?_eq_getElem hk;have ht:l.take (k+1)=l.take k++[l[k]]:=Pl.df hx;have hk2:(l.take k).length=k:=by rw[List.length_take];omega
   have hw:=kZ (l.take k);rw[hk2]at hw;have e:∀(a b p q:Int),a=b->p=q->(some (.inl (a,(l,(((l.length:Nat):Int),(p,()))))):Option (TL xW.σs⊕Out xR))=some (.inl (b,(l,(((l.length:Nat):Int),(q,()))))):=by rintro _ _ _ _ rfl rfl;rfl
   refine ao (aj (show(k:Int)<((l.length:Nat):Int) by omega)) (ak (show aA (k:Int) (List.length l)=true from aN ⟨by omega,by omega⟩) ?_);have g:gt .bool l (k:Int)=l[k]:=bn (σ:=.bool) hx;have hz:=QX (i:=k) (w:=bG (l.take k)) (by omega) hw;have hs:(bG (l.take (k+1)):Int)=((bG (l.take k)+(if l[k]then 2^k else 0):Nat):Int):=by rw[ht,KK,hk2]
   cases hb:l[k]
   .rw[hb]at g hs;exact af g (e _ _ _ _ hs.symm (bF (show(k:Int)+1=((k+1:Nat):Int) by omega) (by omega)))
   .rw[hb]at g hs;exact ao g (ak (aj (show(0:Int)<=(k:Int) by omega)) (e _ _ _ _ (hz.trans hs.symm) (bF (show(k:Int)+1=((k+1:Nat):Int) by omega) (by omega))))
  .rw[List.take_length];exact af (au (show ¬((l.length:Nat):Int)<((l.length:Nat):Int) by omega)) rfl
 have eL':∀l':List Bool,l'=l->yb ((0:Int),(l',(((List.length l':Nat):Int),((0:Int),()))))=some ((bG l:Int),()):=by rintro _ rfl;exact eL
 show Fl yb l=_;unfold Fl;rw[s];refine ak (yD (aj (show(0:Int)<=((l.length:Nat):Int) by omega)) (aj (show((l.length:Nat):Int)<=((l.length:Nat):Int) by omega))) (ag (eL' _ ht) rfl)
def cellAt(w:Nat)(l:List Bool)(a:Nat):Nat:=bG ((l.drop (a*w)).take w)
def fT(w:Nat)(l:List Bool)(k:Nat):List aO:=(List.range k).flatMap (fun a=>if cellAt w l a=0 then[]else[((a:Int),((cellAt w l a:Int),()))])
def fU(m:bB):Nat:=2^m.addr.toNat*m.word.toNat
def j3(L:List bB):Nat:=L.foldl (fun a m=>a+fU m) 0
def cz(n:av)(k:Nat):Nat:=j3 (n.aa.take k)
def eF(n:av)(l:List Bool)(k:Nat):List (List aO):=(List.range k).map fun i=>fT (n.aa.getD i mz).word.toNat (l.drop (cz n i)) (2^(n.aa.getD i mz).addr.toNat)
theorem yh(w:Nat)(l:List Bool)(k:Nat):fT w l (k+1)=fT w l k++(if cellAt w l k=0 then[]else[((k:Int),((cellAt w l k:Int),()))]):=by unfold fT;rw[List.range_succ,List.flatMap_append];simp
theorem FF(w:Nat)(l:List Bool):∀k,(fT w l k).length<=k:=by
 intro k
 induction k with|zero=>simp[fT]|succ k ih=>rw[yh,List.length_append];split<;>simp<;>omega
theorem FG(n:av)(l:List Bool)(k:Nat):(eF n l k).length=k:=by simp[eF]
theorem QD(n:av)(l:List Bool){k:Nat}{m:bB}(hm:n.aa[k]?=some m):eF n l (k+1)=eF n l k++[fT m.word.toNat (l.drop (cz n k)) (2^m.addr.toNat)]:=by unfold eF;rw[List.range_succ,List.map_append];congr 1;simp only[List.map_cons,List.map_nil];rw[List.getD_eq_getElem?_getD,hm];rfl
theorem rn(n:av){k:Nat}{m:bB}(hm:n.aa[k]?=some m):cz n (k+1)=cz n k+fU m:=by unfold cz j3;rw[Pl.df hm,List.foldl_append];rfl
theorem afh{m:bB}(h:Small m):(fU m:Int)=tP m:=by
 unfold fU tP;rw[if_neg (by have:=h.a2;omega)]
 push_cast
 rw[show((m.word.toNat:Nat):Int)=m.word by have:=h.w1;omega,Int.mul_comm]
theorem QO:∀(L:List bB) (a:Nat),(∀m∈L,Small m)->((L.foldl (fun a m=>a+fU m) a:Nat):Int)=L.foldl (fun a m=>a+tP m) (a:Int):=by
 intro L
 induction L with
 |nil=>intro a _;rfl|cons m L ih=>
  intro a h;have e:=afh (h m (by simp));rw[List.foldl_cons,List.foldl_cons,ih _ (fun x hx=>h x (by simp[hx]))];congr 1
  push_cast
  rw[e]
theorem acb:∀(L:List bB) (a:Nat),a<=L.foldl (fun a m=>a+fU m) a:=by
 intro L
 induction L with|nil=>intro a;exact Nat.le_refl _|cons m L ih=>intro a;rw[List.foldl_cons];exact Nat.le_trans (Nat.le_add_right ..) (ih _)
theorem Q9(n:av)(k:Nat):cz n k<=j3 n.aa:=by
 unfold cz j3
 conv=>rhs;rw[<-List.take_append_drop k n.aa,List.foldl_append]
 exact acb _ _
theorem yf(l:List Bool)(i w:Nat):(l.drop i).drop w=l.drop (i+w):=by rw[List.drop_drop]
theorem Rk{w a N:Nat}{l:List Bool}(ha:a<N)(h:N*w<=l.length):w<=(l.drop (a*w)).length:=by have:(a+1)*w<=N*w:=Nat.mul_le_mul_right _ (by omega);rw[Nat.succ_mul]at this;rw[List.length_drop];omega
theorem Qm(c:List aO)(d:aO)(h:c.length<=1000):room 16 (List.length (c++[d]))=true:=by rw[List.length_append,List.length_cons,List.length_nil];exact kh (by omega) (by omega)
theorem Qx(c:List (List aO))(d:List aO)(h:c.length<=1000):room 24 (List.length (c++[d]))=true:=by rw[List.length_append,List.length_cons,List.length_nil];exact kh (by omega) (by omega)
theorem afw{m:bB}(hm:Small m)(T:List (Sh.T ab))(L K:Int)(b1:List Bool)(b2:List (List aO))(an:Bool)(rs:List (Sh.T bL))(ws:List (Sh.T bD))(rest:List Bool)(hr:fU m<=rest.length) :
  tK (rest,(T,(L,(K,(((2^m.addr.toNat:Nat):Int),((0:Int),(b1,(b2,(m.addr,(m.word,(an,(rs,(ws,([],())))))))))))))) =
   some (rest.drop (fU m),(T,(L,(K,(b1,(b2,(fT m.word.toNat rest (2^m.addr.toNat),()))))))):=by
 have hcn:=hm.iK;have hw1:=hm.w1;have hw2:=hm.w2;unfold fU at hr;unfold tK;delta gN;refine cP (fun a:Nat=>(rest.drop (a*m.word.toNat),(T,(L,(K,(((2^m.addr.toNat:Nat):Int),((a:Int),(b1,(b2,(m.addr,(m.word,(an,(rs,(ws,(fT m.word.toNat rest a,()))))))))))))))) (2^m.addr.toNat) (by(have h:rest.drop (0*m.word.toNat)=rest:=by rw[Nat.zero_mul];rfl);dsimp only;rw[h];try rfl) ?_ ?_ (bt (by omega))
 .intro a ha;have hlen:=Rk (w:=m.word.toNat) ha hr;have e1:tV (List.take (Int.toNat m.word) (rest.drop (a*m.word.toNat)),())=some ((cellAt m.word.toNat rest a:Int),()):=Fg _ (Rg (by omega));have hb:both (iE (0:Int) m.word) (iE m.word (Int.ofNat (List.length (rest.drop (a*m.word.toNat)))))=true:=yD (aj (by omega)) (aj (show m.word<=((List.length (rest.drop (a*m.word.toNat)):Nat):Int) by omega));have hd:List.drop (Int.toNat m.word) (rest.drop (a*m.word.toNat))=rest.drop ((a+1)*m.word.toNat):=by rw[yf,Nat.succ_mul]
  have hl:=FF m.word.toNat rest a;have hst:=yh m.word.toNat rest a;have e:∀(r r':List Bool) (p q:Int) (c c':List aO),r=r'->p=q->c=c'->(some (.inl (r,(T,(L,(K,(((2^m.addr.toNat:Nat):Int),(p,(b1,(b2,(m.addr,(m.word,(an,(rs,(ws,(c,()))))))))))))))):Option (TL xL.σs⊕Out xG))=some (.inl (r',(T,(L,(K,(((2^m.addr.toNat:Nat):Int),(q,(b1,(b2,(m.addr,(m.word,(an,(rs,(ws,(c',()))))))))))))))):=by rintro _ _ _ _ _ _ rfl rfl rfl;rfl
  have hu:IntKind.wrap .u64 ((a:Int)+1)=((a+1:Nat):Int):=j4 (x:=(a:Int)+1) (by omega);by_cases q:cellAt m.word.toNat rest a=0
  .rw[if_pos q,List.append_nil]at hst;exact ao (aj (show(a:Int)<((2^m.addr.toNat:Nat):Int) by omega)) (ak hb (ag e1 (af (dn (aj (show((cellAt m.word.toNat rest a:Nat):Int)=0 by omega))) (ak hb (e _ _ _ _ _ _ hd hu hst.symm)))))
  .rw[if_neg q]at hst;exact ao (aj (show(a:Int)<((2^m.addr.toNat:Nat):Int) by omega)) (ak hb (ag e1 (ao (fg (au (show ¬((cellAt m.word.toNat rest a:Nat):Int)=0 by omega))) (ak (show room 16 (List.length (fT m.word.toNat rest a++[((a:Int),((cellAt m.word.toNat rest a:Int),()))]))=true from Qm _ _ (by omega)) (ak hb (e _ _ _ _ _ _ hd hu hst.symm))))))
 .exact af (au (show ¬((2^m.addr.toNat:Nat):Int)<((2^m.addr.toNat:Nat):Int) by omega)) rfl
section
variable{n:av}{V:Nat}(hs:cj n V)
include hs
theorem afv(hsm:∀m∈n.aa,Small m)(ax:List Bool)(rest:List Bool)(hr:j3 n.aa<=rest.length) :
  EO (rest,(n.aa.map aq,(((n.aa.map aq).length:Int),((0:Int),(ax,([],()))))))=some (ax,(eF n rest n.aa.length,())):=by
 have hM:=hs.lens.2.2.2.2;have hL:((n.aa.map aq).length:Int)=(n.aa.length:Int):=by rw[List.length_map]
 unfold EO;delta u6;refine cP (fun k:Nat=>(rest.drop (cz n k),(n.aa.map aq,(((n.aa.map aq).length:Int),((k:Int),(ax,(eF n rest k,()))))))) n.aa.length (by(have h:rest.drop (cz n 0)=rest:=rfl);dsimp only;(try rw[h]);try rfl) ?_ ?_ (bt (by omega))
 .intro k hk;obtain⟨m,hm⟩:∃m,n.aa[k]?=some m:=⟨_,List.getElem?_eq_getElem hk⟩;have sm:=hsm m (List.mem_of_getElem? hm);have hm':(n.aa.map aq)[k]?=some (aq m):=by rw[List.getElem?_map,hm];rfl
  have g1:gt ab (n.aa.map aq) (k:Int)=aq m:=bn (σ:=ab) hm';have ho:=rn n hm;have ho2:=Q9 n (k+1);have e16:=afw sm (n.aa.map aq) ((n.aa.map aq).length:Int) (k:Int) ax (eF n rest k) m.any (m.reads.map dv) (m.writes.map dI) (rest.drop (cz n k)) (by rw[List.length_drop];omega);have e16':tK (rest.drop (cz n k),(n.aa.map aq,(((n.aa.map aq).length:Int),((k:Int),((IntKind.wrap .u64 ((1:Int)*(HPow.hPow (2:Int) (Min.min (Int.toNat (gt ab (n.aa.map aq) (k:Int)).1) 64)))),((0:Int),(ax,(eF n rest k,((gt ab (n.aa.map aq) (k:Int)).1,((gt ab (n.aa.map aq) (k:Int)).2.1,((gt ab (n.aa.map aq) (k:Int)).2.2.1,((gt ab (n.aa.map aq) (k:Int)).2.2.2.1,((gt ab (n.aa.map aq) (k:Int)).2.2.2.2.1,([],())))))))))))))) =
    some ((rest.drop (cz n k)).drop (fU m),(n.aa.map aq,(((n.aa.map aq).length:Int),((k:Int),(ax,(eF n rest k,(fT m.word.toNat (rest.drop (cz n k)) (2^m.addr.toNat),()))))))):=by
   rw[g1];have:=QB sm;show tK (rest.drop (cz n k),(n.aa.map aq,(((n.aa.map aq).length:Int),((k:Int),((IntKind.wrap .u64 ((1:Int)*(HPow.hPow (2:Int) (Min.min (Int.toNat m.addr) 64)))),_)))))=_;rw[this];exact e16
  have hc0:iE (0:Int) (gt ab (n.aa.map aq) (k:Int)).1=true:=aj (by rw[g1];have:=sm.a1;show(0:Int)<=m.addr;omega);have hd:(rest.drop (cz n k)).drop (fU m)=rest.drop (cz n (k+1)):=by rw[yf,ho]
  have hroom:=Qx (eF n rest k) (fT m.word.toNat (rest.drop (cz n k)) (2^m.addr.toNat)) (by rw[FG];omega);have e:∀(r r':List Bool) (p q:Int) (c c':List (List aO)),r=r'->p=q->c=c'->(some (.inl (r,(n.aa.map aq,(((n.aa.map aq).length:Int),(p,(ax,(c,()))))))):Option (TL xK.σs⊕Out xF))=some (.inl (r',(n.aa.map aq,(((n.aa.map aq).length:Int),(q,(ax,(c',()))))))):=by rintro _ _ _ _ _ _ rfl rfl rfl;rfl
  exact ao (aj (show(k:Int)<((n.aa.map aq).length:Int) by omega)) (ak (show aA (k:Int) (List.length (n.aa.map aq))=true from aN ⟨by omega,by omega⟩) (ak hc0 (ag e16' (ak hroom (e _ _ _ _ _ _ hd (bF (show(k:Int)+1=((k+1:Nat):Int) by omega) (by omega)) (QD n rest hm).symm)))))
 .exact af (au (show ¬(n.aa.length:Int)<((n.aa.map aq).length:Int) by omega)) rfl
theorem afM{k:Nat}{m:bB}(hmk:n.aa[k]?=some m)(hm:Small m)(b3:List Bool)(b4:List (List aO))(rest:List Bool)(hr:fU m<=rest.length) :
  Ef (rest,((k:Int),((0:Int),nt n (b3,(b4,([],()))))))=some (rest.drop (fU m),((k:Int),nt n (b3,(b4,(fT m.word.toNat rest (2^m.addr.toNat),()))))):=by
 have hcn:=hm.iK;have hw1:=hm.w1;have hw2:=hm.w2;have hk:=dr hmk;have hM:=hs.lens.2.2.2.2;have hm':(n.aa.map aq)[k]?=some (aq m):=by rw[List.getElem?_map,hmk];rfl
 have g1:gt ab (n.aa.map aq) (k:Int)=aq m:=bn (σ:=ab) hm';have gw:(gt ab (n.aa.map aq) (k:Int)).2.1=m.word:=by rw[g1];rfl
 have aT:aA (k:Int) (List.length (n.aa.map aq))=true:=aN ⟨by omega,by rw[List.length_map];omega⟩;have a1:=hm.a1;have a2:=hm.a2;have hfit:∀j:Nat,j<=2^m.addr.toNat->qA ((j:Int),((gt ab (n.aa.map aq) (k:Int)).1,()))=some (decide (j<2^m.addr.toNat),()):=by
  intro j hj;rw[g1];have:=tj (v:=(j:Int)) (w:=m.addr) ⟨by omega,by omega⟩ ⟨by omega,by omega⟩;refine this.trans ?_;have e:∀p q:Bool,p=q->(some (p,()):Option (TL wc))=some (q,()):=by rintro _ _ rfl;rfl
  refine e _ _ ?_;unfold iw;have hp:((2^m.addr.toNat:Nat):Int)=(2:Int)^m.addr.toNat:=by push_cast;rfl
  by_cases q:j<2^m.addr.toNat
  .rw[decide_eq_true q,decide_eq_true];exact Int.ediv_eq_zero_of_lt (by omega) (by omega)
  .obtain rfl:j=2^m.addr.toNat:=by omega
   rw[decide_eq_false q,hp,decide_eq_false];have h2:(2:Int)^m.addr.toNat≠0:=by have:=hm.nat.2;rw[<-hp];omega
   rw[Int.ediv_self h2];omega
 unfold fU at hr;unfold Ef;delta gN;refine cP (fun a:Nat=>(rest.drop (a*m.word.toNat),((k:Int),((a:Int),nt n (b3,(b4,(fT m.word.toNat rest a,()))))))) (2^m.addr.toNat) (by(have h:rest.drop (0*m.word.toNat)=rest:=by rw[Nat.zero_mul];rfl);dsimp only;rw[h];try rfl) ?_ ?_ (bt (by omega))
 .intro a ha;have e0:=hfit a (by omega);rw[decide_eq_true ha]at e0;have hlen:=Rk (w:=m.word.toNat) ha hr;have e1:JX (List.take (Int.toNat (gt ab (n.aa.map aq) (k:Int)).2.1) (rest.drop (a*m.word.toNat)),())=some ((cellAt m.word.toNat rest a:Int),()):=by rw[gw];exact alg _ (Rg (by omega))
  have hb:both (iE (0:Int) (gt ab (n.aa.map aq) (k:Int)).2.1) (iE (gt ab (n.aa.map aq) (k:Int)).2.1 (Int.ofNat (List.length (rest.drop (a*m.word.toNat)))))=true:=by rw[gw];exact yD (aj (by omega)) (aj (show m.word<=((List.length (rest.drop (a*m.word.toNat)):Nat):Int) by omega))
  have hd:List.drop (Int.toNat (gt ab (n.aa.map aq) (k:Int)).2.1) (rest.drop (a*m.word.toNat))=rest.drop ((a+1)*m.word.toNat):=by rw[gw,yf,Nat.succ_mul]
  have hl:=FF m.word.toNat rest a;have hst:=yh m.word.toNat rest a;have e:∀(r r':List Bool) (p q:Int) (c c':List aO),r=r'->p=q->c=c'->(some (.inl (r,((k:Int),(p,nt n (b3,(b4,(c,()))))))):Option (TL xl.σs⊕Out xf))=some (.inl (r',((k:Int),(q,nt n (b3,(b4,(c',()))))))):=by rintro _ _ _ _ _ _ rfl rfl rfl;rfl
  have hu:IntKind.wrap .u64 ((a:Int)+1)=((a+1:Nat):Int):=j4 (x:=(a:Int)+1) (by omega);by_cases q:cellAt m.word.toNat rest a=0
  .rw[if_pos q,List.append_nil]at hst;exact ak aT (ag e0 (ao rfl (ak aT (ak hb (ag e1 (ak aT (ak hb (af (dn (aj (show((cellAt m.word.toNat rest a:Nat):Int)=0 by omega))) (e _ _ _ _ _ _ hd hu hst.symm)))))))))
  .rw[if_neg q]at hst;exact ak aT (ag e0 (ao rfl (ak aT (ak hb (ag e1 (ak aT (ak hb (ao (fg (au (show ¬((cellAt m.word.toNat rest a:Nat):Int)=0 by omega))) (ak (show room 16 (List.length (fT m.word.toNat rest a++[((a:Int),((cellAt m.word.toNat rest a:Int),()))]))=true from Qm _ _ (by omega)) (e _ _ _ _ _ _ hd hu hst.symm))))))))))
 .have e0:=hfit (2^m.addr.toNat) (Nat.le_refl _);rw[decide_eq_false (by omega)]at e0;exact ak aT (ag e0 (af rfl rfl))
theorem afL(hsm:∀m∈n.aa,Small m)(ax:List Bool)(rest:List Bool)(hr:j3 n.aa<=rest.length) :
  Ee (rest,((0:Int),nt n (ax,([],()))))=some (ax,(eF n rest n.aa.length,())):=by
 have hM:=hs.lens.2.2.2.2;have hL:((n.aa.map aq).length:Int)=(n.aa.length:Int):=by rw[List.length_map]
 unfold Ee;delta jW;refine cP (fun k:Nat=>(rest.drop (cz n k),((k:Int),nt n (ax,(eF n rest k,()))))) n.aa.length (by(have h:rest.drop (cz n 0)=rest:=rfl);dsimp only;(try rw[h]);try rfl) ?_ ?_ (bt (by omega))
 .intro k hk;obtain⟨m,hm⟩:∃m,n.aa[k]?=some m:=⟨_,List.getElem?_eq_getElem hk⟩;have sm:=hsm m (List.mem_of_getElem? hm);have ho:=rn n hm;have ho2:=Q9 n (k+1);have e15:=afM hs hm sm ax (eF n rest k) (rest.drop (cz n k)) (by rw[List.length_drop];omega);have hd:(rest.drop (cz n k)).drop (fU m)=rest.drop (cz n (k+1)):=by rw[yf,ho]
  have hroom:=Qx (eF n rest k) (fT m.word.toNat (rest.drop (cz n k)) (2^m.addr.toNat)) (by rw[FG];omega);have e:∀(r r':List Bool) (p q:Int) (c c':List (List aO)),r=r'->p=q->c=c'->(some (.inl (r,(p,nt n (ax,(c,()))))):Option (TL xk.σs⊕Out xe))=some (.inl (r',(q,nt n (ax,(c',()))))):=by rintro _ _ _ _ _ _ rfl rfl rfl;rfl
  exact ao (aj (show(k:Int)<((n.aa.map aq).length:Int) by omega)) (ag e15 (ak hroom (e _ _ _ _ _ _ hd (bF (show(k:Int)+1=((k+1:Nat):Int) by omega) (by omega)) (QD n rest hm).symm)))
 .exact af (au (show ¬(n.aa.length:Int)<((n.aa.map aq).length:Int) by omega)) rfl
end
def my(n:av)(ls:List Bool)(cs:List (List aO)):Int×(List Bool×List (List aO)):=
 if Pl.cK n≠0 then(Pl.cK n,([],[]))else if 64<dE n then(17,([],[]))else
 if(ls.length:Int)=(n.aw.length:Int)+dE n/\cs.length=0 then(0,(ls.take n.aw.length,eF n (ls.drop n.aw.length) n.aa.length))else(14,([],[]))
section
variable{n:av}(ft:Fit n)
include ft
theorem ab2(ls:List Bool)(cs:List (List aO))(hl:ls.length<=100000) :
  xX (ba n,((ls,(cs,())),()))=some (((my n ls cs).2.1,((my n ls cs).2.2,())),((my n ls cs).1,())) /\
  Pa (ba n,((ls,(cs,())),()))=some (((my n ls cs).2.1,((my n ls cs).2.2,())),((my n ls cs).1,())):=by
 have c1:=pf ft;have c2:=DN ft;have d1:=tX ft;have d2:=Fp ft;have hla:=ft.ax.1;have hL:((n.aw.map bK).length:Int)=(n.aw.length:Int):=by rw[List.length_map]
 unfold my;by_cases hc:Pl.cK n=0
 .rw[if_neg (fun q=>q hc)];by_cases h1:64<dE n
  .rw[if_pos h1];exact⟨ag c1 (af (dn (aj hc)) (ag d1 (ao (aj h1) rfl))),ag c2 (af (dn (aj hc)) (ag d2 (ao (aj h1) rfl)))⟩
  .rw[if_neg h1];obtain⟨V,hs,hcl2⟩:=Su hc;have hsm:=FE hs (by rw[<-hcl2];omega);have hsum:((j3 n.aa:Nat):Int)=dW n.aa:=QO n.aa 0 hsm;have hcells:dE n=dW n.aa:=by
    rw[hcl2];unfold iX;rw[hcl2]at h1;unfold iX at h1;split at h1
    .omega
    .rename_i q;rw[if_neg q]
   have hw:IntKind.wrap .i64 (((n.aw.map bK).length:Int)+dE n)=(n.aw.length:Int)+dE n:=by rw[hL];exact bJ (by omega)
   by_cases h2:(ls.length:Int)=(n.aw.length:Int)+dE n
   .by_cases h3:cs.length=0
    .rw[if_pos ⟨h2,h3⟩];have hdl:j3 n.aa<=(ls.drop n.aw.length).length:=by rw[List.length_drop];omega
     have f1:=afv hs hsm (ls.take n.aw.length) (ls.drop n.aw.length) hdl;have f2:=afL hs hsm (ls.take n.aw.length) (ls.drop n.aw.length) hdl;have tn:Int.toNat (Int.ofNat (List.length (n.aw.map bK)))=n.aw.length:=by show(n.aw.map bK).length=_;rw[List.length_map]
     have b2:not (iQ (Int.ofNat (List.length ls)) (IntKind.wrap .i64 (((n.aw.map bK).length:Int)+dE n)))=false:=dn (aj (by rw[hw];exact h2));have b3:aR false true (iL (0:Int) (Int.ofNat (List.length cs)))=false:=au (show ¬(0:Int)<((cs.length:Nat):Int) by omega);have b4:aR false true (not (iQ (Int.ofNat (List.length cs)) (0:Int)))=false:=dn (aj (show((cs.length:Nat):Int)=0 by omega));have b5:both (iE (0:Int) (Int.ofNat (List.length (n.aw.map bK)))) (iE (Int.ofNat (List.length (n.aw.map bK))) (Int.ofNat (List.length ls)))=true:=yD (aj (show(0:Int)<=(((n.aw.map bK).length:Nat):Int) by omega)) (aj (show(((n.aw.map bK).length:Nat):Int)<=((ls.length:Nat):Int) by omega));have tk:(ls.take n.aw.length).length<=100000:=by rw[List.length_take];omega
     have hcb:IK (List.take (Int.toNat (Int.ofNat (List.length (n.aw.map bK)))) ls,())=some (ls.take n.aw.length,()):=by rw[tn];exact ak (yw _ tk) rfl
     have f1':EO (List.drop (Int.toNat (Int.ofNat (List.length (n.aw.map bK)))) ls,(n.aa.map aq,(((n.aa.map aq).length:Int),((0:Int),(ls.take n.aw.length,([],()))))))=some (ls.take n.aw.length,(eF n (ls.drop n.aw.length) n.aa.length,())):=by rw[tn];exact f1
     have f2':Ee (List.drop (Int.toNat (Int.ofNat (List.length (n.aw.map bK)))) ls,((0:Int),nt n ([]++List.take (Int.toNat (Int.ofNat (List.length (n.aw.map bK)))) ls,([],()))))=some (ls.take n.aw.length,(eF n (ls.drop n.aw.length) n.aa.length,())):=by rw[tn];exact f2
     have hroom:room 1 (List.length ([]++List.take (Int.toNat (Int.ofNat (List.length (n.aw.map bK)))) ls))=true:=by rw[tn];exact yw _ tk
     exact⟨ag c1 (af (dn (aj hc)) (ag d1 (af (au h1) (af b2 (af b3 (ak b5 (ag hcb (ak b5 (ag f1' rfl))))))))),
      ag c2 (af (dn (aj hc)) (ag d2 (af (au h1) (ag d2 (af b2 (af b4 (ak b5 (ak hroom (ak b5 (ag f2' rfl))))))))))⟩
    .rw[if_neg (fun q=>h3 q.2)];have b2:not (iQ (Int.ofNat (List.length ls)) (IntKind.wrap .i64 (((n.aw.map bK).length:Int)+dE n)))=false:=dn (aj (by rw[hw];exact h2));have b3:aR false true (iL (0:Int) (Int.ofNat (List.length cs)))=true:=aj (show(0:Int)<((cs.length:Nat):Int) by omega);have b4:aR false true (not (iQ (Int.ofNat (List.length cs)) (0:Int)))=true:=fg (au (show ¬((cs.length:Nat):Int)=0 by omega));exact⟨ag c1 (af (dn (aj hc)) (ag d1 (af (au h1) (af b2 (ao b3 rfl))))),
      ag c2 (af (dn (aj hc)) (ag d2 (af (au h1) (ag d2 (af b2 (ao b4 rfl))))))⟩
   .rw[if_neg (fun q=>h2 q.1)];have b2:not (iQ (Int.ofNat (List.length ls)) (IntKind.wrap .i64 (((n.aw.map bK).length:Int)+dE n)))=true:=fg (au (by rw[hw];exact h2));exact⟨ag c1 (af (dn (aj hc)) (ag d1 (af (au h1) (ao b2 rfl)))),
     ag c2 (af (dn (aj hc)) (ag d2 (af (au h1) (ag d2 (ao b2 rfl)))))⟩
 .rw[if_pos hc];exact⟨ag c1 (ao (fg (au hc)) rfl),ag c2 (ao (fg (au hc)) rfl)⟩
end
set_option maxRecDepth 10000
theorem Qh{n:av}(h:Pl.cK n=0):∃V,cj n V/\dt n=0/\eI (aV n) V=true:=by
 unfold Pl.cK at h;by_cases h0:dt n≠0
 .rw[if_pos h0]at h;exact absurd h h0
 rw[if_neg h0]at h;have h0:dt n=0:=by omega
 obtain⟨V,hs⟩:=oM h0;refine⟨V,hs,h0,?_⟩;rw[hs.vars,Int.toNat_natCast]at h;by_cases q:eI (aV n) V=true
 .exact q
 .rw[if_neg q]at h;omega
