import Derived.Test.YtkcpdpplobhpaaaGreatKRc
set_option linter.unusedVariables false
set_option linter.unusedSimpArgs false
set_option linter.unnecessarySimpa false
section
namespace Go.Proofs.YtkcpdpplobhpaaaGreat.V
open Go Go.RowKit
set_option maxRecDepth 1000000
abbrev T5:List Sh:=[ab]
abbrev zs:List Sh:=[(.int .i64)]
abbrev Iq:=TL T5->Option (TL zs)
abbrev zv:=Kd 186 T5 zs
def Io(a0:Sh.T ab):Option (TL zs):=
 br (iE (10:Int) a0.1)
 (
  some ((1000:Int),()))
 (
  ah (iE (0:Int) a0.1)<|
  some ((IntKind.wrap .i64 (@HMul.hMul (Int) (Int) (Int) _ a0.2.1 (HPow.hPow (2:Int) (Min.min (Int.toNat a0.1) 64)))),()))
def ae7  :zv:=⟨u1 Io,pD Tryz.func186 11 k0 e0 1 (sS l0) fun d=>by kernel_rfl⟩
def Ip:zv:=ae7
def Ie:Iq:=Ip.F
abbrev TV:List Sh:=[ab]
abbrev H5:List Sh:=[(.int .i64)]
abbrev T7:=TL TV->Option (TL H5)
abbrev zt:=Kd 130 TV H5
def aeY(a0:Sh.T ab):Option (TL H5):=some ((IntKind.wrap .i64 ((Int.ofNat (List.length (cQ a0)))+(Int.ofNat (List.length (cR a0))))),())
def aeZ  :zt:=⟨u1 aeY,pD Tryz.func130 10 k0 e0 1 (sS l0) fun d=>by kernel_rfl⟩
def T6:zt:=aeZ
abbrev Ug:Lay:={ T:=[(0,.agg ej),(1,.func 186 [] [])],h:=[],nx:=0 }
abbrev Ig:List (Ev.Ex×Lay):=[(.ret,{ T:=[(0,.int .i64)],h:=[],nx:=0 })]
abbrev Ut:=TL Ug.σs->Option (Out Ig)
abbrev Iv:=Kb 129 2 Ug 1 Ig
abbrev vg:Lay:={ T:=[(1,.func 186 [] []),(4,.int .i64),(8,.fz ab),(9,.int .i64),(10,.int .i64)],h:=[],nx:=0 }
abbrev vd:List (Ev.Ex×Lay):=[((.exit 0),{ T:=[(4,.int .i64)],h:=[],nx:=0 })]
abbrev Ul:=TL vg.σs->Option (Out vd)
abbrev Is:=Ld 0 21 (bp [0] (aU Tryz.f129)) vg vd
def Uj(F0:Iq)(t4:Int)(t8:List (Sh.T ab))(t9 t10:Int):Option (TL vg.σs⊕Out vd):=
 br (iL t10 t9)
 (
  ah (aq t10 (List.length t8))<|
  aj (F0 (((gt ab t8 t10).1,((gt ab t8 t10).2.1,((gt ab t8 t10).2.2.1,((gt ab t8 t10).2.2.2.1,((gt ab t8 t10).2.2.2.2.1,()))))),())) fun x0=>
  some (.inl ((IntKind.wrap .i64 (@HAdd.hAdd (Int) (Int) (Int) _ t4 x0.1)),(t8,(t9,((IntKind.wrap .i64 (t10+(1:Int))),()))))))
 (
  some (.inr (t4,())))
def afd(c0:zv) :Is:=bu (u4 (Uj c0.F)) (pL (kD c0 k0) e0 1 l0 fun d=>by kernel_rfl)
def afe:Is:=afd Ip
def Uk:Ul:=aQ (u4 (Uj Ie)) NN
def afo(F0:Iq)(L2:Ul)(dK:Int)(gB:List Int)(fV:List (Sh.T ae))(ig ij ik:List Int)(eO:List (Sh.T ab))(gO:List (Sh.T ae)):Option (Out Ig):=
 aj (L2 ((0:Int),(eO,((Int.ofNat (List.length eO)),((0:Int),()))))) fun x0=>
 some (x0.1,())
def afp(c0:zv)(M2:Is):Iv:=⟨u8 (afo c0.F M2.L),pB Tryz.func129 21 (kD c0 k0) e0 1 (sS (sC M2 l0)) fun d=>by kernel_rfl⟩
def Us:Iv:=afp Ip afe
def afc:Ut:=Us.F
abbrev Uh:Lay:={ T:=[(0,.agg ej),(1,.func 130 [] [])],h:=[],nx:=0 }
abbrev Ii:List (Ev.Ex×Lay):=[(.ret,{ T:=[(0,.int .i64)],h:=[],nx:=0 })]
abbrev aft:=TL Uh.σs->Option (Out Ii)
abbrev Iw:=Kb 129 2 Uh 1 Ii
abbrev Ih:Lay:={ T:=[(1,.func 130 [] []),(4,.int .i64),(8,.fz ab),(9,.int .i64),(10,.int .i64)],h:=[],nx:=0 }
abbrev H6:List (Ev.Ex×Lay):=[((.exit 0),{ T:=[(4,.int .i64)],h:=[],nx:=0 })]
abbrev afi:=TL Ih.σs->Option (Out H6)
abbrev It:=Ld 0 21 (bp [0] (aU Tryz.f129)) Ih H6
def aff(F0:T7)(t4:Int)(t8:List (Sh.T ab))(t9 t10:Int):Option (TL Ih.σs⊕Out H6):=
 br (iL t10 t9)
 (
  ah (aq t10 (List.length t8))<|
  aj (F0 (((gt ab t8 t10).1,((gt ab t8 t10).2.1,((gt ab t8 t10).2.2.1,((gt ab t8 t10).2.2.2.1,((gt ab t8 t10).2.2.2.2.1,()))))),())) fun x0=>
  some (.inl ((IntKind.wrap .i64 (@HAdd.hAdd (Int) (Int) (Int) _ t4 x0.1)),(t8,(t9,((IntKind.wrap .i64 (t10+(1:Int))),()))))))
 (
  some (.inr (t4,())))
def afg(c0:zt) :It:=bu (u4 (aff c0.F)) (pL (kD c0 k0) e0 1 l0 fun d=>by kernel_rfl)
def afh:It:=afg T6
def afq(F0:T7)(L2:afi)(dK:Int)(gB:List Int)(fV:List (Sh.T ae))(ig ij ik:List Int)(eO:List (Sh.T ab))(gO:List (Sh.T ae)):Option (Out Ii):=
 aj (L2 ((0:Int),(eO,((Int.ofNat (List.length eO)),((0:Int),()))))) fun x0=>
 some (x0.1,())
def afr(c0:zt)(M2:It):Iw:=⟨u8 (afq c0.F M2.L),pB Tryz.func129 21 (kD c0 k0) e0 1 (sS (sC M2 l0)) fun d=>by kernel_rfl⟩
def afs:Iw:=afr T6 afh
abbrev Ui:List Sh:=[ba]
abbrev zw:List Sh:=[(.int .i64)]
abbrev Ur:=TL Ui->Option (TL zw)
abbrev Iu:=Kd 114 Ui zw
def afm(F0:aft)(F1:Ut)(a0:Sh.T ba):Option (TL zw):=
 aj (F1 a0) fun x0=>
 some ((dj (iL (1000:Int) (IntKind.wrap .i64 (@HAdd.hAdd (Int) (Int) (Int) _ (Int.ofNat (List.length a0.2.2.1)) x0.1))) (1000:Int) (IntKind.wrap .i64 (@HAdd.hAdd (Int) (Int) (Int) _ (Int.ofNat (List.length a0.2.2.1)) x0.1))),())
def afn(c0:Iw)(c1:Iv) :Iu:=⟨u1 (afm c0.F c1.F),pD Tryz.func114 12 (kB c0 (kB c1 k0)) e0 1 (sS l0) fun d=>by kernel_rfl⟩
def Uq:Iu:=afn afs Us
def afb:Ur:=Uq.F
abbrev TJ:List Sh:=[ba]
abbrev zl:List Sh:=[(.int .i64)]
abbrev sE:=TL TJ->Option (TL zl)
abbrev qH:=Kd 52 TJ zl
def aeL(F0:Ur)(F1:rm)(a0:Sh.T ba):Option (TL zl):=
 aj (F1 (a0,())) fun x0=>
 br (Bool.not (iQ x0.1 (0:Int)))
 (
  some ((0:Int),()))
 (
  aj (F0 (((0:Int),([],([],([],([],([],(cT a0,([],())))))))),())) fun x1=>
  some ((dj (iL (1000:Int) x1.1) (1000:Int) x1.1),()))
def aeM(c0:Iu)(c1:pW) :qH:=⟨u1 (aeL c0.F c1.F),pD Tryz.func52 11 (kD c0 (kD c1 k0)) e0 1 (sS l0) fun d=>by kernel_rfl⟩
def sD:qH:=aeM Uq rn
def aeF:sE:=sD.F
abbrev zo:Lay:={ T:=[(2,.int .u64),(9,.fz .bool),(10,.int .i64),(11,.int .i64)],h:=[],nx:=0 }
abbrev zj:List (Ev.Ex×Lay):=[((.exit 0),{ T:=[(2,.int .u64)],h:=[],nx:=0 })]
abbrev Ue:=TL zo.σs->Option (Out zj)
abbrev Ud:=Ld 0 23 (bp [0] (aU Tryz.f76)) zo zj
def Uc(t2:Int)(t9:List Bool)(t10 t11:Int):Option (TL zo.σs⊕Out zj):=
 br (iL t11 t10)
 (
  ah (aq t11 (List.length t9))<|
  br (gt .bool t9 t11)
  (
   ah (iE (0:Int) t11)<|
   some (.inl ((tI .u64 t2 (IntKind.wrap .u64 ((1:Int)*(HPow.hPow (2:Int) (Min.min (Int.toNat t11) 64))))),(t9,(t10,((IntKind.wrap .i64 (t11+(1:Int))),()))))))
  (
   some (.inl (t2,(t9,(t10,((IntKind.wrap .i64 (t11+(1:Int))),())))))))
 (
  some (.inr (t2,())))
def ae5  :Ud:=bu (u4 Uc) (pL k0 e0 1 l0 fun d=>by kernel_rfl)
def zu:Ue:=aQ (u4 Uc) NN
abbrev Uf:List Sh:=[(.sl .bool)]
abbrev Im:List Sh:=[(.int .u64)]
abbrev qJ:=TL Uf->Option (TL Im)
abbrev pz:=Kd 76 Uf Im
def Ir(L2:Ue)(a0:List Bool):Option (TL Im):=
 ah (both (iE (0:Int) (dj (iL (64:Int) (Int.ofNat (List.length a0))) (64:Int) (Int.ofNat (List.length a0)))) (iE (dj (iL (64:Int) (Int.ofNat (List.length a0))) (64:Int) (Int.ofNat (List.length a0))) (Int.ofNat (List.length a0))))<|
 aj (L2 ((0:Int),((List.take (Int.toNat (dj (iL (64:Int) (Int.ofNat (List.length a0))) (64:Int) (Int.ofNat (List.length a0)))) a0),((Int.ofNat (List.length (List.take (Int.toNat (dj (iL (64:Int) (Int.ofNat (List.length a0))) (64:Int) (Int.ofNat (List.length a0)))) a0))),((0:Int),()))))) fun x0=>
 some (x0.1,())
def ae8(M2:Ud):pz:=⟨u1 (Ir M2.L),pD Tryz.func76 23 k0 e0 1 (sS (sC M2 l0)) fun d=>by kernel_rfl⟩
def qI:pz:=ae8  ae5
def vh:qJ:=qI.F
abbrev TE:Lay:={ T:=[(0,.agg ej),(1,.agg [.fz .bool,.fz (.sl ar)])],h:=[],nx:=0 }
abbrev Hx:List (Ev.Ex×Lay):=[(.ret,{ T:=[(0,.agg [.hd 0 .bool,.bJ]),(1,.int .i64)],h:=[(0,.arr .bool 4)],nx:=1 })]
abbrev vc:=TL TE.σs->Option (Out Hx)
abbrev sF:=Kb 29 2 TE 2 Hx
abbrev ads:Lay:={ T:=[(2,.ptr 0 0),(3,.ptr 1 0),(4,.ptr 2 0),(7,.hd 3 .bool),(8,.int .i64)],h:=[(0,.cells ej 27),(1,.cells [.fz .bool,.fz (.sl ar)] 40),(2,.cells [.bJ,.bJ] 40),(3,.arr .bool 4)],nx:=4 }
abbrev adt:Lay:={ T:=[(3,.ptr 0 0),(4,.ptr 1 0),(29,.fz ab),(30,.int .i64),(31,.int .i64)],h:=[(0,.cells [.fz .bool,.fz (.sl ar)] 40),(1,.cells [.hd 2 .bool,.bJ] 40),(2,.arr .bool 4)],nx:=3 }
abbrev adu:List (Nat×LO):=[(0,.cells ej 27),(1,.cells [.bJ,.bJ] 40),(2,.cells [.hd 3 .bool,.hd 4 (.sl ar)] 40),(3,.arr .bool 4),(4,.arr (.sl ar) 104),(5,.arr ar 137)]
abbrev ze:Lay:=adt
abbrev y9:List (Ev.Ex×Lay):=[((.exit 0),{ T:=[(4,.ptr 0 0)],h:=[(0,.cells [.hd 1 .bool,.bJ] 40),(1,.arr .bool 4)],nx:=2 })]
abbrev TN:=TL ze.σs->Option (Out y9)
abbrev HT:=Ld 0 70 (bp [0] (aU Tryz.f29)) ze y9
abbrev y8:Lay:={ T:=[(3,.ptr 0 0),(4,.ptr 1 0),(8,.ptr 3 0),(11,.func 75 [.ptr 4 0] []),(29,.fz ab),(30,.int .i64),(31,.int .i64),(53,.int .u64),(54,.int .u64)],h:=[(0,.cells [.fz .bool,.fz (.sl ar)] 40),(1,.cells [.hd 2 .bool,.bJ] 40),(2,.arr .bool 4),(3,.cells [.int .i64,.int .i64,.bool,.fz cj,.fz bI] 116),(4,.cells [.int .i64,.int .i64,.mp 5] 220),(5,.map .u64 (.int .u64))],nx:=6 }
abbrev y4:List (Ev.Ex×Lay):=[((.exit 2),adt)]
abbrev Hz:=TL y8.σs->Option (Out y4)
abbrev zh:=Ld 0 70 (bp [0,0] (aU Tryz.f29)) y8 y4
def TC(F0:oQ)(F3:wG)(t29:List (Sh.T ab))(t30 t31 t53 t54:Int)(aC:List Bool)(aB:List (List (Sh.T ar)))(b2:List Bool)(iG dq:Int)(iH:Bool)(iI:List (Sh.T cj))(gL:List (Sh.T bI))(rz apC:Int)(b5:List (Sh.T ar)):Option (TL y8.σs⊕Out y4):=
 br (iL t54 t53)
 (
  aj (F3 (t54,(rz,(apC,(b5,()))))) fun x0=>
  ah (iQ dq dq)<|
  aj (F0 (x0.1,(dq,()))) fun x1=>
  ah (room 1 (List.length (ap b2 x1.1)))<|
  some (.inl (t29,(t30,(t31,(t53,((IntKind.wrap .u64 (t54+(1:Int))),(aC,(aB,((ap b2 x1.1),(iG,(dq,(iH,(iI,(gL,x0.2)))))))))))))))
 (
  some (.inr (t29,(t30,(t31,(aC,(aB,(b2,()))))))))
def aeA(c0:nU)(c3:tB) :zh:=bu (u16 (TC c0.F c3.F)) (pL (kD c0 (kB c3 k0)) e0 1 l0 fun d=>by kernel_rfl)
def TD:zh:=aeA oR wH
def uZ:Hz:=aQ (u16 (TC mV uy)) NN
def TK(F4:wE)(L13:Hz)(t29:List (Sh.T ab))(t30 t31:Int)(aC:List Bool)(aB:List (List (Sh.T ar)))(b2:List Bool):Option (TL ze.σs⊕Out y9):=
 br (iL t31 t30)
 (
  ah (aq t31 (List.length t29))<|
  ah (aq t31 (List.length aB))<|
  aj (F4 ((gt ab t29 t31).1,((gt ab t29 t31).2.1,((gt (.sl ar) aB t31),())))) fun x0=>
  (match x0 with
  |.inl x1=>
   ah (iE (0:Int) (gt ab t29 t31).1)<|
   none
  |.inr x1=>
   ah (iE (0:Int) (gt ab t29 t31).1)<|
   aj (L13 (t29,(t30,(t31,((IntKind.wrap .u64 ((1:Int)*(HPow.hPow (2:Int) (Min.min (Int.toNat (gt ab t29 t31).1) 64)))),((0:Int),(aC,(aB,(b2,((gt ab t29 t31).1,((gt ab t29 t31).2.1,((gt ab t29 t31).2.2.1,((gt ab t29 t31).2.2.2.1,((gt ab t29 t31).2.2.2.2.1,x1.2)))))))))))))) fun x2=>
   some (.inl (x2.1,(x2.2.1,((IntKind.wrap .i64 (@HAdd.hAdd (Int) (Int) (Int) _ x2.2.2.1 (1:Int))),sd x2))))
  ))
 (
  some (.inr (b2,())))
def aeG(c4:tz)(M13:zh):HT:=bu (u6 (TK c4.F M13.L)) (pL (kB c4 k0) e0 1 (sC M13 l0) fun d=>by kernel_rfl)
def aeH:HT:=aeG wF TD
def TM:TN:=aQ (u6 (TK xL uZ)) NN
def aeN(F0:oQ)(F1:sE)(F2:NJ)(F3:wG)(F4:wE)(F5:tp)(F6:ti)(L8:TN)(L13:Hz)(dK:Int)(gB:List Int)(fV:List (Sh.T ae))(ig ij ik:List Int)(eO:List (Sh.T ab))(gO:List (Sh.T ae))(iM:List Bool)(gD:List (List (Sh.T ar))):Option (Out Hx):=
 aj (F2 ((dK,(gB,(fV,(ig,(ij,(ik,(eO,(gO,())))))))),((iM,(gD,())),()))) fun x0=>
 br (Bool.not (iQ x0.1 (0:Int)))
 (
  some (x0.1,([],())))
 (
  aj (F1 ((dK,(gB,(fV,(ig,(ij,(ik,(eO,(gO,())))))))),())) fun x1=>
  br (iL (64:Int) x1.1)
  (
   some ((17:Int),([],())))
  (
   aj (F6 (iM,())) fun x2=>
   aj (L8 (eO,((Int.ofNat (List.length eO)),((0:Int),(iM,(gD,(x2.1,()))))))) fun x3=>
   some ((0:Int),(x3.1,()))))
def aeO(c0:nU)(c1:qH)(c2:Dk)(c3:tB)(c4:tz)(c5:tt)(c6:tj)(M8:HT)(M13:zh):sF:=⟨jO (aeN c0.F c1.F c2.F c3.F c4.F c5.F c6.F M8.L M13.L),pB Tryz.func29 70 (kD c0 (kD c1 (kD c2 (kB c3 (kB c4 (kB c5 (kB c6 k0))))))) e0 1 (sS (sC M8 l0)) fun d=>by kernel_rfl⟩
def vb:sF:=aeO oR sD NK wH wF tq rh aeH TD
def zm:vc:=vb.F
abbrev zb:Lay:={ T:=[(4,.ptr 0 0),(8,.fz .bool),(58,.fz ab),(59,.int .i64),(60,.int .i64)],h:=[(0,.cells [.hd 1 .bool,.hd 2 (.sl ar)] 40),(1,.arr .bool 4),(2,.arr (.sl ar) 104)],nx:=3 }
abbrev y6:List (Ev.Ex×Lay):=[((.exit 1),{ T:=[(4,.ptr 0 0)],h:=[(0,.cells [.hd 1 .bool,.hd 2 (.sl ar)] 40),(1,.arr .bool 4),(2,.arr (.sl ar) 104)],nx:=3 })]
abbrev TI:=TL zb.σs->Option (Out y6)
abbrev HH:=Ld 0 96 (bp [0] (aU Tryz.f30)) zb y6
abbrev zd:Lay:={ T:=[(4,.ptr 0 0),(8,.fz .bool),(10,.ptr 3 0),(11,.hd 4 ar),(58,.fz ab),(59,.int .i64),(60,.int .i64),(66,.int .u64),(67,.int .u64)],h:=[(0,.cells [.hd 1 .bool,.hd 2 (.sl ar)] 40),(1,.arr .bool 4),(2,.arr (.sl ar) 104),(3,.cells [.int .i64,.int .i64,.bool,.fz cj,.fz bI] 116),(4,.arr ar 137)],nx:=5 }
abbrev y7:List (Ev.Ex×Lay):=[((.exit 3),{ T:=[(4,.ptr 0 0),(8,.fz .bool),(11,.hd 3 ar),(58,.fz ab),(59,.int .i64),(60,.int .i64)],h:=[(0,.cells [.hd 1 .bool,.hd 2 (.sl ar)] 40),(1,.arr .bool 4),(2,.arr (.sl ar) 104),(3,.arr ar 137)],nx:=4 })]
abbrev HQ:=TL zd.σs->Option (Out y7)
abbrev zk:=Ld 0 96 (bp [0,0] (aU Tryz.f30)) zd y7
def TG(F0:qJ)(t8:List Bool)(t58:List (Sh.T ab))(t59 t60 t66 t67:Int)(b1:List Bool)(b2:List (List (Sh.T ar)))(iG dq:Int)(iH:Bool)(iI:List (Sh.T cj))(gL:List (Sh.T bI))(b4:List (Sh.T ar)):Option (TL zd.σs⊕Out y7):=
 br (iL t67 t66)
 (
  ah (both (iE (0:Int) dq) (iE dq (Int.ofNat (List.length t8))))<|
  aj (F0 ((List.take (Int.toNat dq) t8),())) fun x0=>
  br (Bool.not (iQ x0.1 (0:Int)))
  (
   ah (room 16 (List.length (ap b4 ((t67,(x0.1,()))::[]))))<|
   ah (both (iE (0:Int) dq) (iE dq (Int.ofNat (List.length t8))))<|
   some (.inl ((List.drop (Int.toNat dq) t8),(t58,(t59,(t60,(t66,((IntKind.wrap .u64 (t67+(1:Int))),(b1,(b2,(iG,(dq,(iH,(iI,(gL,((ap b4 ((t67,(x0.1,()))::[])),()))))))))))))))))
  (
   ah (both (iE (0:Int) dq) (iE dq (Int.ofNat (List.length t8))))<|
   some (.inl ((List.drop (Int.toNat dq) t8),(t58,(t59,(t60,(t66,((IntKind.wrap .u64 (t67+(1:Int))),(b1,(b2,(iG,(dq,(iH,(iI,(gL,(b4,())))))))))))))))))
 (
  some (.inr (t8,(t58,(t59,(t60,(b1,(b2,(b4,())))))))))
def aeD(c0:pz) :zk:=bu (iu (TG c0.F)) (pL (kD c0 k0) e0 1 l0 fun d=>by kernel_rfl)
def TH:zk:=aeD qI
def va:HQ:=aQ (iu (TG vh)) NN
def TF(L16:HQ)(t8:List Bool)(t58:List (Sh.T ab))(t59 t60:Int)(b1:List Bool)(b2:List (List (Sh.T ar))):Option (TL zb.σs⊕Out y6):=
 br (iL t60 t59)
 (
  ah (aq t60 (List.length t58))<|
  ah (iE (0:Int) (gt ab t58 t60).1)<|
  aj (L16 (t8,(t58,(t59,(t60,((IntKind.wrap .u64 ((1:Int)*(HPow.hPow (2:Int) (Min.min (Int.toNat (gt ab t58 t60).1) 64)))),((0:Int),(b1,(b2,((gt ab t58 t60).1,((gt ab t58 t60).2.1,((gt ab t58 t60).2.2.1,((gt ab t58 t60).2.2.2.1,((gt ab t58 t60).2.2.2.2.1,([],()))))))))))))))) fun x0=>
  ah (room 24 (List.length (ap (cX x0) ((cT x0)::[]))))<|
  some (.inl (x0.1,(x0.2.1,(x0.2.2.1,((IntKind.wrap .i64 (@HAdd.hAdd (Int) (Int) (Int) _ (cQ x0) (1:Int))),(cR x0,((ap (cX x0) ((cT x0)::[])),()))))))))
 (
  some (.inr (b1,(b2,()))))
def aeC(M16:zk):HH:=bu (u6 (TF M16.L)) (pL k0 e0 1 (sC M16 l0) fun d=>by kernel_rfl)
def aeE:HH:=aeC  TH
def HK:TI:=aQ (u6 (TF va)) NN
abbrev TU:List Sh:=[ba,cr]
abbrev H4:List Sh:=[cr,(.int .i64)]
abbrev vf:=TL TU->Option (TL H4)
abbrev sG:=Kd 30 TU H4
def aeW(F0:qJ)(F1:sE)(F2:rm)(F3:tp)(F4:ti)(L12:TI)(L16:HQ)(a0:Sh.T ba)(a1:Sh.T cr):Option (TL H4):=
 aj (F2 (a0,())) fun x0=>
 br (Bool.not (iQ x0.1 (0:Int)))
 (
  some (([],([],())),(x0.1,())))
 (
  aj (F1 (a0,())) fun x1=>
  br (iL (64:Int) x1.1)
  (
   some (([],([],())),((17:Int),())))
  (
   br (Bool.not (iQ (Int.ofNat (List.length a1.1)) (IntKind.wrap .i64 (@HAdd.hAdd (Int) (Int) (Int) _ (Int.ofNat (List.length a0.2.2.1)) x1.1))))
   (
    some (([],([],())),((14:Int),())))
   (
    br (aV false true (iL (0:Int) (Int.ofNat (List.length a1.2.1))))
    (
     some (([],([],())),((14:Int),())))
    (
     ah (both (iE (0:Int) (Int.ofNat (List.length a0.2.2.1))) (iE (Int.ofNat (List.length a0.2.2.1)) (Int.ofNat (List.length a1.1))))<|
     aj (F4 ((List.take (Int.toNat (Int.ofNat (List.length a0.2.2.1))) a1.1),())) fun x2=>
     ah (both (iE (0:Int) (Int.ofNat (List.length a0.2.2.1))) (iE (Int.ofNat (List.length a0.2.2.1)) (Int.ofNat (List.length a1.1))))<|
     aj (L12 ((List.drop (Int.toNat (Int.ofNat (List.length a0.2.2.1))) a1.1),(cT a0,((Int.ofNat (List.length (cT a0))),((0:Int),(x2.1,([],()))))))) fun x3=>
     some (x3,((0:Int),()))))))
def aeX(c0:pz)(c1:qH)(c2:pW)(c3:tt)(c4:tj)(M12:HH)(M16:zk):sG:=⟨u2 (aeW c0.F c1.F c2.F c3.F c4.F M12.L M16.L),pD Tryz.func30 96 (kD c0 (kD c1 (kD c2 (kB c3 (kB c4 k0))))) e0 1 (sS (sC M12 l0)) fun d=>by kernel_rfl⟩
def ve:sG:=aeX qI sD rn tq rh aeE TH
def zp:vf:=ve.F
abbrev yL:Lay:={ T:=[(1,.ptr 0 0),(3,.int .i64),(4,.int .i64)],h:=[(0,.cells ej 27)],nx:=1 }
abbrev yB:List (Ev.Ex×Lay):=[((.exit 0),{ T:=[(3,.int .i64)],h:=[],nx:=0 })]
abbrev SL:=TL yL.σs->Option (Out yB)
abbrev GN:=Ld 0 44 (bp [0] (aU Tryz.f55)) yL yB
abbrev sk:Lay:={ T:=[(1,.ptr 0 0),(3,.int .i64),(4,.int .i64),(5,.int .i64),(6,.int .i64)],h:=[(0,.cells ej 27)],nx:=1 }
abbrev uP:List (Ev.Ex×Lay):=[((.exit 2),{ T:=[(1,.ptr 0 0),(3,.int .i64),(4,.int .i64),(5,.int .i64)],h:=[(0,.cells ej 27)],nx:=1 })]
abbrev GQ:=TL sk.σs->Option (Out uP)
abbrev GO:=Ld 0 44 (bp [0,0] (aU Tryz.f55)) sk uP
def GM(t3 t4 t5 t6 aC:Int)(aB:List Int)(aG:List (Sh.T ae))(aH aI aJ:List Int)(aw:List (Sh.T ab))(aE:List (Sh.T ae)):Option (TL sk.σs⊕Out uP):=
 ah (aq t4 (List.length aw))<|
 br (iL t6 (gt ab aw t4).1)
 (
  br (aV true (iL t5 (1000:Int)) false)
  (
   some (.inl (t3,(t4,((IntKind.wrap .i64 ((2:Int)*t5)),((IntKind.wrap .i64 (t6+(1:Int))),(aC,(aB,(aG,(aH,(aI,(aJ,(aw,(aE,()))))))))))))))
  (
   some (.inr (t3,(t4,(t5,(aC,(aB,(aG,(aH,(aI,(aJ,(aw,(aE,()))))))))))))))
 (
  some (.inr (t3,(t4,(t5,(aC,(aB,(aG,(aH,(aI,(aJ,(aw,(aE,())))))))))))))
def SK  :GO:=bu (iZ GM) (pL k0 e0 1 l0 fun d=>by kernel_rfl)
def GP:GQ:=aQ (iZ GM) NN
def SI(L9:GQ)(t3 t4 aC:Int)(aB:List Int)(aG:List (Sh.T ae))(aH aI aJ:List Int)(aw:List (Sh.T ab))(aE:List (Sh.T ae)):Option (TL yL.σs⊕Out yB):=
 br (iL t4 (Int.ofNat (List.length aw)))
 (
  ah (aq t4 (List.length aw))<|
  aj (L9 (t3,(t4,((gt ab aw t4).2.1,((0:Int),(aC,(aB,(aG,(aH,(aI,(aJ,(aw,(aE,()))))))))))))) fun x0=>
  some (.inl ((IntKind.wrap .i64 (@HAdd.hAdd (Int) (Int) (Int) _ x0.1 x0.2.2.1)),((IntKind.wrap .i64 (@HAdd.hAdd (Int) (Int) (Int) _ x0.2.1 (1:Int))),sd x0))))
 (
  some (.inr (t3,())))
def adR(M9:GO):GN:=bu (jO (SI M9.L)) (pL k0 e0 1 (sC M9 l0) fun d=>by kernel_rfl)
def adS:GN:=adR  SK
def SJ:SL:=aQ (jO (SI GP)) NN
abbrev SM:List Sh:=[ba]
abbrev yW:List Sh:=[(.int .i64)]
abbrev sx:=TL SM->Option (TL yW)
abbrev qG:=Kd 55 SM yW
def aea(F0:wc)(L5:SL)(L9:GQ)(a0:Sh.T ba):Option (TL yW):=
 aj (F0 (a0,())) fun x0=>
 br (Bool.not (iQ x0.1 (0:Int)))
 (
  some ((0:Int),()))
 (
  aj (L5 ((0:Int),((0:Int),a0))) fun x1=>
  some ((dj (iL (1000:Int) x1.1) (1000:Int) x1.1),()))
def aeb(c0:tg)(M5:GN)(M9:GO):qG:=⟨u1 (aea c0.F M5.L M9.L),pD Tryz.func55 44 (kD c0 k0) e0 1 (sS (sC M5 l0)) fun d=>by kernel_rfl⟩
def sw:qG:=aeb we adS SK
def adQ:sx:=sw.F
abbrev yM:Lay:=ads
abbrev yD:List (Ev.Ex×Lay):=[((.exit 0),{ T:=[(4,.ptr 0 0),(7,.hd 1 .bool)],h:=[(0,.cells [.bJ,.bJ] 40),(1,.arr .bool 4)],nx:=2 })]
abbrev SP:=TL yM.σs->Option (Out yD)
abbrev GR:=Ld 0 60 (bp [0] (aU Tryz.f120)) yM yD
abbrev yC:Lay:={ T:=[(2,.ptr 0 0),(3,.ptr 1 0),(4,.ptr 2 0),(7,.hd 3 .bool),(8,.int .i64),(9,.int .u64)],h:=[(0,.cells ej 27),(1,.cells [.fz .bool,.fz (.sl ar)] 40),(2,.cells [.bJ,.bJ] 40),(3,.arr .bool 4)],nx:=4 }
abbrev yu:List (Ev.Ex×Lay):=[((.exit 2),ads)]
abbrev Gx:=TL yC.σs->Option (Out yu)
abbrev yT:=Ld 0 60 (bp [0,0] (aU Tryz.f120)) yC yu
def Sk(F0:pX)(F1:wz)(F2:ri)(t8 t9 aC:Int)(aB:List Int)(aG:List (Sh.T ae))(aH aI aJ:List Int)(aw:List (Sh.T ab))(aE:List (Sh.T ae))(bO:List Bool)(bL:List (List (Sh.T ar)))(b3:List Bool):Option (TL yC.σs⊕Out yu):=
 ah (aq t8 (List.length aw))<|
 aj (F2 (t9,((gt ab aw t8).1,()))) fun x0=>
 br x0.1
 (
  ah (aq t8 (List.length bL))<|
  ah (aq t8 (List.length aw))<|
  aj (F1 ((gt (.sl ar) bL t8),(t9,()))) fun x1=>
  aj (F0 (x1.1,((gt ab aw t8).2.1,()))) fun x2=>
  ah (room 1 (List.length (ap b3 x2.1)))<|
  some (.inl (t8,((IntKind.wrap .u64 (t9+(1:Int))),(aC,(aB,(aG,(aH,(aI,(aJ,(aw,(aE,(bO,(bL,((ap b3 x2.1),())))))))))))))))
 (
  some (.inr (t8,(aC,(aB,(aG,(aH,(aI,(aJ,(aw,(aE,(bO,(bL,(b3,()))))))))))))))
def adE(c0:oP)(c1:tv)(c2:pU) :yT:=bu (gZ (Sk c0.F c1.F c2.F)) (pL (kD c0 (kD c1 (kD c2 k0))) e0 1 l0 fun d=>by kernel_rfl)
def Sm:yT:=adE pY wA rj
def Gw:Gx:=aQ (gZ (Sk oO tu rM)) NN
def SN(L11:Gx)(t8 aC:Int)(aB:List Int)(aG:List (Sh.T ae))(aH aI aJ:List Int)(aw:List (Sh.T ab))(aE:List (Sh.T ae))(bO:List Bool)(bL:List (List (Sh.T ar)))(b3:List Bool):Option (TL yM.σs⊕Out yD):=
 br (iL t8 (Int.ofNat (List.length aw)))
 (
  aj (L11 (t8,((0:Int),(aC,(aB,(aG,(aH,(aI,(aJ,(aw,(aE,(bO,(bL,(b3,())))))))))))))) fun x0=>
  some (.inl ((IntKind.wrap .i64 (@HAdd.hAdd (Int) (Int) (Int) _ x0.1 (1:Int))),x0.2)))
 (
  some (.inr (b3,())))
def adU(M11:yT):GR:=bu (iZ (SN M11.L)) (pL k0 e0 1 (sC M11 l0) fun d=>by kernel_rfl)
def adV:GR:=adU  Sm
def SO:SP:=aQ (iZ (SN Gw)) NN
abbrev SQ:List Sh:=[ba,cr]
abbrev GS:List Sh:=[cr,(.int .i64)]
abbrev Th:=TL SQ->Option (TL GS)
abbrev Hc:=Kd 120 SQ GS
def aec(F0:pX)(F1:wz)(F2:ri)(F3:sx)(F4:Lc)(L8:SP)(L11:Gx)(a0:Sh.T ba)(a1:Sh.T cr):Option (TL GS):=
 aj (F4 (a0,(a1,()))) fun x0=>
 br (Bool.not (iQ x0.1 (0:Int)))
 (
  some (([],([],())),(x0.1,())))
 (
  aj (F3 (a0,())) fun x1=>
  br (iL (64:Int) x1.1)
  (
   some (([],([],())),((17:Int),())))
  (
   ah (room 1 (List.length (ap [] a1.1)))<|
   aj (L8 ((0:Int),(a0.1,(a0.2.1,(a0.2.2.1,(cQ a0,(cR a0,(cX a0,(cT a0,(dc a0,(a1.1,(a1.2.1,((ap [] a1.1),()))))))))))))) fun x2=>
   some ((x2.1,([],())),((0:Int),()))))
def aed(c0:oP)(c1:tv)(c2:pU)(c3:qG)(c4:Bo)(M8:GR)(M11:yT):Hc:=⟨u2 (aec c0.F c1.F c2.F c3.F c4.F M8.L M11.L),pD Tryz.func120 60 (kD c0 (kD c1 (kD c2 (kD c3 (kD c4 k0))))) e0 1 (sS (sC M8 l0)) fun d=>by kernel_rfl⟩
def Tg:Hc:=aed pY wA rj sw Le adV Sm
def adT:Th:=Tg.F
abbrev yJ:Lay:={ T:=[(2,.ptr 0 0),(4,.ptr 1 0),(7,.ptr 2 0),(8,.fz .bool),(9,.int .i64)],h:=[(0,.cells ej 27),(1,.cells [.bJ,.bJ] 40),(2,.cells [.hd 3 .bool,.hd 4 (.sl ar)] 40),(3,.arr .bool 4),(4,.arr (.sl ar) 104)],nx:=5 }
abbrev yz:List (Ev.Ex×Lay):=[((.exit 0),{ T:=[(4,.ptr 0 0),(7,.ptr 1 0)],h:=[(0,.cells [.bJ,.bJ] 40),(1,.cells [.hd 2 .bool,.hd 3 (.sl ar)] 40),(2,.arr .bool 4),(3,.arr (.sl ar) 104)],nx:=4 })]
abbrev SH:=TL yJ.σs->Option (Out yz)
abbrev GH:=Ld 0 104 (bp [0] (aU Tryz.f115)) yJ yz
abbrev yK:Lay:={ T:=[(2,.ptr 0 0),(4,.ptr 1 0),(7,.ptr 2 0),(8,.fz .bool),(9,.int .i64),(10,.hd 5 ar),(11,.int .u64)],h:=adu,nx:=6 }
abbrev yA:List (Ev.Ex×Lay):=[((.exit 2),{ T:=[(2,.ptr 0 0),(4,.ptr 1 0),(7,.ptr 2 0),(8,.fz .bool),(9,.int .i64),(10,.hd 5 ar)],h:=adu,nx:=6 })]
abbrev GK:=TL yK.σs->Option (Out yA)
abbrev yV:=Ld 0 104 (bp [0,0] (aU Tryz.f115)) yK yA
def SF(F0:wI)(F1:ri)(t8:List Bool)(t9 t11 aC:Int)(aB:List Int)(aG:List (Sh.T ae))(aH aI aJ:List Int)(aw:List (Sh.T ab))(aE:List (Sh.T ae))(b3:List Bool)(b4:List (List (Sh.T ar)))(b5:List (Sh.T ar)):Option (TL yK.σs⊕Out yA):=
 ah (aq t9 (List.length aw))<|
 aj (F1 (t11,((gt ab aw t9).1,()))) fun x0=>
 br x0.1
 (
  ah (aq t9 (List.length aw))<|
  ah (both (iE (0:Int) (gt ab aw t9).2.1) (iE (gt ab aw t9).2.1 (Int.ofNat (List.length t8))))<|
  aj (F0 ((List.take (Int.toNat (gt ab aw t9).2.1) t8),())) fun x1=>
  ah (aq t9 (List.length aw))<|
  ah (both (iE (0:Int) (gt ab aw t9).2.1) (iE (gt ab aw t9).2.1 (Int.ofNat (List.length t8))))<|
  br (Bool.not (iQ x1.1 (0:Int)))
  (
   ah (room 16 (List.length (ap b5 ((t11,(x1.1,()))::[]))))<|
   some (.inl ((List.drop (Int.toNat (gt ab aw t9).2.1) t8),(t9,((IntKind.wrap .u64 (t11+(1:Int))),(aC,(aB,(aG,(aH,(aI,(aJ,(aw,(aE,(b3,(b4,((ap b5 ((t11,(x1.1,()))::[])),()))))))))))))))))
  (
   some (.inl ((List.drop (Int.toNat (gt ab aw t9).2.1) t8),(t9,((IntKind.wrap .u64 (t11+(1:Int))),(aC,(aB,(aG,(aH,(aI,(aJ,(aw,(aE,(b3,(b4,(b5,())))))))))))))))))
 (
  some (.inr (t8,(t9,(aC,(aB,(aG,(aH,(aI,(aJ,(aw,(aE,(b3,(b4,(b5,())))))))))))))))
def adO(c0:tw)(c1:pU) :yV:=bu (iu (SF c0.F c1.F)) (pL (kD c0 (kD c1 k0)) e0 1 l0 fun d=>by kernel_rfl)
def SG:yV:=adO wJ rj
def GJ:GK:=aQ (iu (SF Di rM)) NN
def SE(L15:GK)(t8:List Bool)(t9 aC:Int)(aB:List Int)(aG:List (Sh.T ae))(aH aI aJ:List Int)(aw:List (Sh.T ab))(aE:List (Sh.T ae))(b3:List Bool)(b4:List (List (Sh.T ar))):Option (TL yJ.σs⊕Out yz):=
 br (iL t9 (Int.ofNat (List.length aw)))
 (
  aj (L15 (t8,(t9,((0:Int),(aC,(aB,(aG,(aH,(aI,(aJ,(aw,(aE,(b3,(b4,([],()))))))))))))))) fun x0=>
  ah (room 24 (List.length (ap (fO x0) ((fm x0)::[]))))<|
  some (.inl (x0.1,((IntKind.wrap .i64 (@HAdd.hAdd (Int) (Int) (Int) _ x0.2.1 (1:Int))),(x0.2.2.1,(cQ x0,(cR x0,(cX x0,(cT x0,(dc x0,(dG x0,(dN x0,(cY x0,((ap (fO x0) ((fm x0)::[])),()))))))))))))))
 (
  some (.inr (b3,(b4,()))))
def adN(M15:yV):GH:=bu (iZ (SE M15.L)) (pL k0 e0 1 (sC M15 l0) fun d=>by kernel_rfl)
def adP:GH:=adN  SG
def GI:SH:=aQ (iZ (SE GJ)) NN
abbrev Tf:List Sh:=[ba,cr]
abbrev Hb:List Sh:=[cr,(.int .i64)]
abbrev Tt:=TL Tf->Option (TL Hb)
abbrev Hm:=Kd 115 Tf Hb
def aeo(F0:wI)(F1:ri)(F2:sx)(F3:wc)(L11:SH)(L15:GK)(a0:Sh.T ba)(a1:Sh.T cr):Option (TL Hb):=
 aj (F3 (a0,())) fun x0=>
 br (Bool.not (iQ x0.1 (0:Int)))
 (
  some (([],([],())),(x0.1,())))
 (
  aj (F2 (a0,())) fun x1=>
  br (iL (64:Int) x1.1)
  (
   some (([],([],())),((17:Int),())))
  (
   aj (F2 (a0,())) fun x2=>
   br (Bool.not (iQ (Int.ofNat (List.length a1.1)) (IntKind.wrap .i64 (@HAdd.hAdd (Int) (Int) (Int) _ (Int.ofNat (List.length a0.2.2.1)) x2.1))))
   (
    some (([],([],())),((14:Int),())))
   (
    br (aV false true (Bool.not (iQ (Int.ofNat (List.length a1.2.1)) (0:Int))))
    (
     some (([],([],())),((14:Int),())))
    (
     ah (both (iE (0:Int) (Int.ofNat (List.length a0.2.2.1))) (iE (Int.ofNat (List.length a0.2.2.1)) (Int.ofNat (List.length a1.1))))<|
     ah (room 1 (List.length (ap [] (List.take (Int.toNat (Int.ofNat (List.length a0.2.2.1))) a1.1))))<|
     ah (both (iE (0:Int) (Int.ofNat (List.length a0.2.2.1))) (iE (Int.ofNat (List.length a0.2.2.1)) (Int.ofNat (List.length a1.1))))<|
     aj (L11 ((List.drop (Int.toNat (Int.ofNat (List.length a0.2.2.1))) a1.1),((0:Int),(a0.1,(a0.2.1,(a0.2.2.1,(cQ a0,(cR a0,(cX a0,(cT a0,(dc a0,((ap [] (List.take (Int.toNat (Int.ofNat (List.length a0.2.2.1))) a1.1)),([],()))))))))))))) fun x3=>
     some (x3,((0:Int),()))))))
def aep(c0:tw)(c1:pU)(c2:qG)(c3:tg)(M11:GH)(M15:yV):Hm:=⟨u2 (aeo c0.F c1.F c2.F c3.F M11.L M15.L),pD Tryz.func115 104 (kD c0 (kD c1 (kD c2 (kD c3 k0)))) e0 1 (sS (sC M11 l0)) fun d=>by kernel_rfl⟩
def Ts:Hm:=aep wJ rj sw we adP SG
def Te:Tt:=Ts.F
open Go.Proofs.YtkcpdpplobhpaaaGreat.Pl
def jI(x:Int):Int:=if 1000<x then 1000 else x
def tP(m:bP):Int:=if 10<=m.addr then 1000 else m.word*2^m.addr.toNat
def ed(w:Int):Nat->Int
 |0=>w|k+1=>if ed w k<1000 then 2*ed w k else ed w k
def fA(l:List bP):Int:=l.foldl (fun a m=>a+tP m) 0
def mj(l:List bP):Int:=l.foldl (fun a m=>a+ed m.word m.addr.toNat) 0
def qY(t u:Int):Prop:=t=u\/(1000<=t/\1000<=u)
theorem af0{t u:Int}(h:qY t u):jI t=jI u:=by
 unfold jI;rcases h with rfl|⟨h1,h2⟩
 .rfl
 .split<;>split<;>omega
theorem agA(k:Nat):(1:Int)<=2^k:=by have:=Int.pow_pos (n:=(2:Int)) (m:=k) (by decide);omega
theorem zC{w a b:Int}(hw:0<=w)(h:a<=b):w*a<=w*b:=Int.mul_le_mul_of_nonneg_left h hw
theorem aha{w:Int}(hw:1<=w):∀k,ed w k=w*2^k\/(1000<=ed w k/\1000<=w*2^k):=by
 intro k
 induction k with
 |zero=>left;rw[ed];simp|succ k ih=>
  have e:w*2^(k+1)=2*(w*2^k):=by rw[Int.pow_succ];rw[<-Int.mul_assoc,Int.mul_comm]
  rw[ed,e];split
  .rename_i q;rcases ih with h|⟨h1,h2⟩
   .left;rw[h]
   .omega
  .rename_i q;right;rcases ih with h|⟨h1,h2⟩<;>omega
theorem zJ{w:Int}(hw:1<=w):∀k,w<=ed w k:=by
 intro k
 induction k with|zero=>rw[ed];omega|succ k ih=>rw[ed];split<;>omega
theorem IV{w:Int}(hw:w<=64):∀k,ed w k<=2000:=by
 intro k
 induction k with|zero=>rw[ed];omega|succ k ih=>rw[ed];split<;>omega
theorem af4{w:Int}{k:Nat}(h:1000<=ed w k):∀j,ed w (k+j)=ed w k:=by
 intro j
 induction j with|zero=>rfl|succ j ih=>rw[show k+(j+1)=k+j+1 by omega,ed,ih,if_neg (by omega)]
theorem ags{m:bP}(h1:1<=m.addr)(h2:1<=m.word):qY (tP m) (ed m.word m.addr.toNat):=by
 have r:=aha h2 m.addr.toNat;unfold tP;split
 .rename_i q;right;have p:(2:Int)^10<=2^m.addr.toNat:=by
   have:=Nat.pow_le_pow_right (n:=2) (by decide) (show 10<=m.addr.toNat by omega)
   exact_mod_cast this
  have p2:(2:Int)^10=1024:=by decide
  have p3:=zC (w:=m.word) (by omega) p;have p4:=zC (w:=1024) (a:=1) (b:=m.word) (by omega) h2;rw[p2]at p3;have p5:m.word*1024=1024*m.word:=Int.mul_comm ..;rcases r with h|⟨a,b⟩<;>omega
 .rcases r with h|⟨a,b⟩
  .left;exact h.symm
  .right;exact⟨b,a⟩
theorem zN{m:bP}(h1:1<=m.addr)(h2:1<=m.word)(h3:m.word<=64):0<=tP m/\tP m<=40000:=by
 unfold tP;split
 .omega
 .have p:(2:Int)^m.addr.toNat<=2^9:=by
   have:=Nat.pow_le_pow_right (n:=2) (by decide) (show m.addr.toNat<=9 by omega)
   exact_mod_cast this
  have p2:(2:Int)^9=512:=by decide
  have p3:=zC (w:=m.word) (by omega) p;have p4:=zC (w:=m.word) (by omega) (agA m.addr.toNat);rw[p2]at p3;omega
theorem agr{a b c d:Int}(h1:qY a b)(h2:qY c d)(ha:0<=a)(hb:0<=b)(hc:0<=c)(hd:0<=d):qY (a+c) (b+d):=by
 rcases h1 with h1|h1<;>rcases h2 with h2|h2
 .left;omega
 .right;omega
 .right;omega
 .right;omega
theorem agQ:∀(l:List bP) (a b:Int),(∀m∈l,1<=m.addr/\1<=m.word/\m.word<=64)->qY a b->0<=a->0<=b->qY (l.foldl (fun a m=>a+tP m) a) (l.foldl (fun a m=>a+ed m.word m.addr.toNat) b):=by
 intro l
 induction l with|nil=>intro a b _ h _ _;exact h|cons m l ih=>intro a b hl h ha hb;obtain⟨h1,h2,h3⟩:=hl m (by simp);have t:=zN h1 h2 h3;have u:=zJ h2 m.addr.toNat;exact ih _ _ (fun x hx=>hl x (by simp[hx])) (agr h (ags h1 h2) ha hb t.1 (by omega)) (show 0<=a+tP m by omega) (show 0<=b+ed m.word m.addr.toNat by omega)
theorem zE:∀(l:List bP) (a:Int),(∀m∈l,1<=m.addr/\1<=m.word/\m.word<=64)->a<=l.foldl (fun a m=>a+tP m) a/\l.foldl (fun a m=>a+tP m) a<=a+40000*(l.length:Int):=by
 intro l
 induction l with|nil=>intro a _;exact⟨Int.le_refl _,by simp⟩|cons m l ih=>intro a hl;obtain⟨h1,h2,h3⟩:=hl m (by simp);have t:=zN h1 h2 h3;obtain⟨x,y⟩:=ih (a+tP m) (fun x hx=>hl x (by simp[hx]));rw[List.foldl_cons,ca];omega
theorem agP:∀(l:List bP) (a:Int),(∀m∈l,1<=m.addr/\1<=m.word/\m.word<=64)->a<=l.foldl (fun a m=>a+ed m.word m.addr.toNat) a/\l.foldl (fun a m=>a+ed m.word m.addr.toNat) a<=a+2000*(l.length:Int):=by
 intro l
 induction l with|nil=>intro a _;exact⟨Int.le_refl _,by simp⟩|cons m l ih=>intro a hl;obtain⟨h1,h2,h3⟩:=hl m (by simp);have t:=zJ h2 m.addr.toNat;have t2:=IV h3 m.addr.toNat;obtain⟨x,y⟩:=ih (a+ed m.word m.addr.toNat) (fun x hx=>hl x (by simp[hx]));rw[List.foldl_cons,ca];omega
def dT(n:aD):Int:=if Pl.dD n≠0 then 0 else jI (fA n.aa)
section
variable{n:aD}{V:Nat}(hs:cO n V)
include hs
theorem nJ:∀m∈n.aa,1<=m.addr/\1<=m.word/\m.word<=64:=fun m hm=>by obtain⟨m1,m2,m3,m4,_⟩:=hs.aa m hm;exact⟨m1,m3,m4⟩
end
section
variable{n:aD}{V:Nat}
theorem IM(x:Int):dj (iL (1000:Int) x) (1000:Int) x=jI x:=by
 unfold jI dj;by_cases q:1000<x
 .rw[if_pos q,show iL (1000:Int) x=true from ak q]
 .rw[if_neg q,show iL (1000:Int) x=false from aA q]
end
section
variable{n:aD}{V:Nat}(hs:cO n V)
include hs
theorem ahZ:afc ((0:Int),([],([],([],([],([],(n.aa.map av,([],()))))))))=some (fA n.aa,()):=by
 have hM:=hs.lens.2.2.2.2;have hL:((n.aa.map av).length:Int)=(n.aa.length:Int):=by rw[aO]
 have e2:Uk ((0:Int),(n.aa.map av,(((n.aa.map av).length:Int),((0:Int),()))))=some (fA n.aa,()):=by
  unfold Uk;delta u4;refine cu (fun k:Nat=>(fA (n.aa.take k),(n.aa.map av,(((n.aa.map av).length:Int),((k:Int),()))))) n.aa.length rfl ?_ ?_ (bt (by omega))
  .intro k hk;have hx:=aT hk;obtain⟨h1,h2,h3⟩:=nJ hs _ (List.getElem_mem hk);have t:=zN h1 h2 h3;have hx':(n.aa.map av)[k]?=some (av n.aa[k]):=by rw[cg,hx];rfl
   have g:gt ab (n.aa.map av) (k:Int)=av n.aa[k]:=aZ (σ:=ab) hx';have eb:Ie (av n.aa[k],())=some (tP n.aa[k],()):=by
    show Io (av n.aa[k])=_;unfold Io tP;by_cases q:10<=n.aa[k].addr
    .rw[if_pos q];exact ao (ak q) rfl
    .rw[if_neg q];have e:∀p q:Int,p=q->(some (p,()):Option (TL zs))=some (q,()):=by rintro _ _ rfl;rfl
     refine ag (aA q) (ai (ak (show(0:Int)<=n.aa[k].addr by omega)) (e _ _ ?_));show IntKind.wrap .i64 (n.aa[k].word*2^min (Int.toNat n.aa[k].addr) 64)=_;rw[Nat.min_eq_left (by omega)];unfold tP at t;rw[if_neg q]at t;exact bZ (by omega)
   have eb':Ie (((gt ab (n.aa.map av) (k:Int)).1,((gt ab (n.aa.map av) (k:Int)).2.1,((gt ab (n.aa.map av) (k:Int)).2.2.1,((gt ab (n.aa.map av) (k:Int)).2.2.2.1,((gt ab (n.aa.map av) (k:Int)).2.2.2.2.1,()))))),())=some (tP n.aa[k],()):=by rw[g];exact eb
   have hr:=zE (n.aa.take k) 0 (fun m hm=>nJ hs m (List.mem_of_mem_take hm));have hl:(n.aa.take k).length<=4:=by rw[da];omega
   have hst:fA (n.aa.take (k+1))=fA (n.aa.take k)+tP n.aa[k]:=by unfold fA;rw[Pl.cW hx,List.foldl_append];rfl
   have e:∀(a b p q:Int),a=b->p=q->(some (.inl (a,(n.aa.map av,(((n.aa.map av).length:Int),(p,()))))):Option (TL vg.σs⊕Out vd))=some (.inl (b,(n.aa.map av,(((n.aa.map av).length:Int),(q,()))))):=by rintro _ _ _ _ rfl rfl;rfl
   have hr:0<=fA (n.aa.take k)/\fA (n.aa.take k)<=0+40000*((n.aa.take k).length:Int):=hr;refine ao (ak (show(k:Int)<((n.aa.map av).length:Int) by omega)) (ai (show aq (k:Int) (List.length (n.aa.map av))=true from aK ⟨by omega,by omega⟩) (af eb' (e _ _ _ _ ?_ (bG (show(k:Int)+1=((k+1:Nat):Int) by omega) (by omega)))));rw[hst];exact bZ (by omega)
  .have e:∀(a b:Int),a=b->(some (.inr (a,())):Option (TL vg.σs⊕Out vd))=some (.inr (b,())):=by rintro _ _ rfl;rfl
   rw[dt];exact ag (aA (show ¬(n.aa.length:Int)<((n.aa.map av).length:Int) by omega)) rfl
 exact af e2 rfl
theorem afX:afb (((0:Int),([],([],([],([],([],(n.aa.map av,([],())))))))),())=some (jI (fA n.aa),()):=by
 have hM:=hs.lens.2.2.2.2;have e1:=ahZ hs;have hr:=zE n.aa 0 (nJ hs);have hr:0<=fA n.aa/\fA n.aa<=0+40000*(n.aa.length:Int):=hr;have w:IntKind.wrap .i64 (((0:Nat):Int)+fA n.aa)=fA n.aa:=by rw[show((0:Nat):Int)+fA n.aa=fA n.aa by omega];exact bZ (by omega)
 have e:∀(a b:Int),a=b->(some (a,()):Option (TL zw))=some (b,()):=by rintro _ _ rfl;rfl
 refine af e1 (e _ _ ?_);show dj (iL (1000:Int) (IntKind.wrap .i64 (((0:Nat):Int)+fA n.aa))) (1000:Int) (IntKind.wrap .i64 (((0:Nat):Int)+fA n.aa))=_;rw[w];exact IM _
theorem aiI{k:Nat}{m:bP}(hm:n.aa[k]?=some m)(acc:Int) :
  GP (acc,((k:Int),(m.word,((0:Int),nt n ()))))=some (acc,((k:Int),(ed m.word m.addr.toNat,nt n ()))):=by
 obtain⟨h1,h2,h3⟩:=nJ hs m (dn hm);obtain⟨_,h4,_⟩:=hs.aa m (dn hm);have hk:=dL hm;have hL:((n.aa.map av).length:Int)=(n.aa.length:Int):=by rw[aO]
 have hM:=hs.lens.2.2.2.2;have hx':(n.aa.map av)[k]?=some (av m):=by rw[cg,hm];rfl
 have g:gt ab (n.aa.map av) (k:Int)=av m:=aZ (σ:=ab) hx';have aY:aq (k:Int) (List.length (n.aa.map av))=true:=aK ⟨by omega,by omega⟩;have hq:=mR (B:=fun d=>GM d.1 d.2.1 d.2.2.1 d.2.2.2.1 d.2.2.2.2.1 d.2.2.2.2.2.1 d.2.2.2.2.2.2.1 d.2.2.2.2.2.2.2.1 d.2.2.2.2.2.2.2.2.1 d.2.2.2.2.2.2.2.2.2.1 d.2.2.2.2.2.2.2.2.2.2.1 d.2.2.2.2.2.2.2.2.2.2.2.1)
  (I:=fun d:TL sk.σs=>∃j:Nat,j<=m.addr.toNat/\d=(acc,((k:Int),(ed m.word j,((j:Int),nt n ())))))
  (Q:=fun o:Out uP=>o=(acc,((k:Int),(ed m.word m.addr.toNat,nt n ()))))
  (fun d:TL sk.σs=>m.addr.toNat-Int.toNat d.2.2.2.1) ?_ NN (acc,((k:Int),(m.word,((0:Int),nt n ())))) ⟨0,by omega,rfl⟩ (bt (by show m.addr.toNat-_<=_;omega))
 .obtain⟨o,ho,rfl⟩:=hq;exact ho
 .rintro d ⟨j,hj,rfl⟩;have e0:(gt ab (n.aa.map av) (k:Int)).1=m.addr:=by rw[g];rfl
  by_cases q:j<m.addr.toNat
  .have c0:iL (j:Int) (gt ab (n.aa.map av) (k:Int)).1=true:=ak (by rw[e0];omega);have lo:=zJ h2 j;have up:=IV h3 j;by_cases r:ed m.word j<1000
   .refine .inr ⟨(acc,((k:Int),(ed m.word (j+1),(((j+1:Nat):Int),nt n ())))),?_,⟨j+1,by omega,rfl⟩,by show m.addr.toNat-Int.toNat ((j+1:Nat):Int)<m.addr.toNat-Int.toNat (j:Int);omega⟩;have e:∀(a b p q:Int),a=b->p=q->(some (.inl (acc,((k:Int),(a,(p,nt n ()))))):Option (TL sk.σs⊕Out uP))=some (.inl (acc,((k:Int),(b,(q,nt n ()))))):=by rintro _ _ _ _ rfl rfl;rfl
    refine ai aY (ao c0 (ao (show aV true (iL (ed m.word j) (1000:Int)) false=true from ak r) (e _ _ _ _ ?_ (bG (show(j:Int)+1=((j+1:Nat):Int) by omega) (by omega)))));rw[ed,if_pos r];exact bZ (x:=2*ed m.word j) (by omega)
   .refine .inl ⟨_,ai aY (ao c0 (ag (show aV true (iL (ed m.word j) (1000:Int)) false=false from aA r) rfl)),?_⟩;have:=af4 (w:=m.word) (k:=j) (by omega) (m.addr.toNat-j);rw[show j+(m.addr.toNat-j)=m.addr.toNat by omega]at this;rw[this];rfl
  .obtain rfl:j=m.addr.toNat:=by omega
   exact .inl ⟨_,ai aY (ag (aA (show ¬((m.addr.toNat:Nat):Int)<(gt ab (n.aa.map av) (k:Int)).1 by rw[e0];omega)) rfl),rfl⟩
theorem aiH:SJ ((0:Int),((0:Int),nt n ()))=some (mj n.aa,()):=by
 have hM:=hs.lens.2.2.2.2;have hL:((n.aa.map av).length:Int)=(n.aa.length:Int):=by rw[aO]
 unfold SJ;delta jO;refine cu (fun k:Nat=>(mj (n.aa.take k),((k:Int),nt n ()))) n.aa.length rfl ?_ ?_ (bt (by omega))
 .intro k hk;have hx:=aT hk;have hx':(n.aa.map av)[k]?=some (av n.aa[k]):=by rw[cg,hx];rfl
  have g:gt ab (n.aa.map av) (k:Int)=av n.aa[k]:=aZ (σ:=ab) hx';obtain⟨h1,h2,h3⟩:=nJ hs _ (List.getElem_mem hk);have lo:=zJ h2 n.aa[k].addr.toNat;have up:=IV h3 n.aa[k].addr.toNat;have e9:GP (mj (n.aa.take k),((k:Int),((gt ab (n.aa.map av) (k:Int)).2.1,((0:Int),nt n ()))))=some (mj (n.aa.take k),((k:Int),(ed n.aa[k].word n.aa[k].addr.toNat,nt n ()))):=by rw[g];exact aiI hs hx _
  have hr:0<=mj (n.aa.take k)/\mj (n.aa.take k)<=0+2000*((n.aa.take k).length:Int):=agP (n.aa.take k) 0 (fun m hm=>nJ hs m (List.mem_of_mem_take hm));have hl:(n.aa.take k).length<=4:=by rw[da];omega
  have hst:mj (n.aa.take (k+1))=mj (n.aa.take k)+ed n.aa[k].word n.aa[k].addr.toNat:=by unfold mj;rw[Pl.cW hx,List.foldl_append];rfl
  have e:∀(a b p q:Int),a=b->p=q->(some (.inl (a,(p,nt n ()))):Option (TL yL.σs⊕Out yB))=some (.inl (b,(q,nt n ()))):=by rintro _ _ _ _ rfl rfl;rfl
  refine ao (ak (show(k:Int)<((n.aa.map av).length:Int) by omega)) (ai (show aq (k:Int) (List.length (n.aa.map av))=true from aK ⟨by omega,by omega⟩) (af e9 (e _ _ _ _ ?_ (bG (show(k:Int)+1=((k+1:Nat):Int) by omega) (by omega)))));rw[hst];exact bZ (x:=mj (n.aa.take k)+ed n.aa[k].word n.aa[k].addr.toNat) (by omega)
 .rw[dt];exact ag (aA (show ¬(n.aa.length:Int)<((n.aa.map av).length:Int) by omega)) rfl
end
section
variable{n:aD}(ft:Fit n)
include ft
theorem vl:aeF (bz n,())=some (dT n,()):=by
 have ec:=ur ft;unfold dT;by_cases hc:Pl.dD n=0
 .rw[if_neg (fun q=>q hc)];unfold Pl.dD at hc;have h0:dM n=0:=by
   by_cases q:dM n=0
   .exact q
   .rw[if_pos q]at hc;exact absurd hc q
  obtain⟨V,hs⟩:=pS h0;have eb:=afX hs;have hc':Pl.dD n=0:=by unfold Pl.dD;exact hc
  have e:∀(a b:Int),a=b->(some (a,()):Option (TL zl))=some (b,()):=by rintro _ _ rfl;rfl
  refine af ec (ag (dH (ak hc')) (af eb (e _ _ ?_)));show dj (iL (1000:Int) (jI (fA n.aa))) (1000:Int) (jI (fA n.aa))=_;rw[IM];unfold jI;split
  .rfl
  .rfl
 .rw[if_pos hc];exact af ec (ao (fZ (aA hc)) rfl)
theorem vi:adQ (bz n,())=some (dT n,()):=by
 have ec:=Ge ft;unfold dT;by_cases hc:Pl.dD n=0
 .rw[if_neg (fun q=>q hc)];have hc':=hc;unfold Pl.dD at hc;have h0:dM n=0:=by
   by_cases q:dM n=0
   .exact q
   .rw[if_pos q]at hc;exact absurd hc q
  obtain⟨V,hs⟩:=pS h0;have e5:=aiH hs;have e:∀(a b:Int),a=b->(some (a,()):Option (TL yW))=some (b,()):=by rintro _ _ rfl;rfl
  refine af ec (ag (dH (ak hc')) (af e5 (e _ _ ?_)));show dj (iL (1000:Int) (mj n.aa)) (1000:Int) (mj n.aa)=_;rw[IM];exact(af0 (agQ n.aa 0 0 (nJ hs) (.inl rfl) (by omega) (by omega))).symm
 .rw[if_pos hc];exact af ec (ao (fZ (aA hc)) rfl)
end
def lu(m:bP)(c:List aN)(a:Nat):List Bool:=di (rd c ((a:Nat):Int)).toNat m.word.toNat
def iJ(m:bP)(c:List aN)(k:Nat):List Bool:=(List.range k).flatMap (lu m c)
theorem zM(L:List Bool)(h:L.length<=100000):room 1 (List.length ([]++L))=true:=by rw[List.nil_append];exact ks (by omega) (by omega)
def mz:bP:=⟨0,0,false,[],[]⟩
def jk(n:aD)(ls:List Bool)(cs:List (List aN))(k:Nat):List Bool:=ls++(List.range k).flatMap fun i=>iJ (n.aa.getD i mz) (cs.getD i []) (2^(n.aa.getD i mz).addr.toNat)
theorem IC(m:bP)(c:List aN)(k:Nat):iJ m c (k+1)=iJ m c k++lu m c k:=by unfold iJ;rw[List.range_succ,List.flatMap_append];simp
theorem zB(m:bP)(c:List aN):∀k,(iJ m c k).length=k*m.word.toNat:=by
 intro k
 induction k with|zero=>simp[iJ]|succ k ih=>rw[IC,aW,ih,Nat.succ_mul];unfold lu;rw[kS]
theorem zD(n:aD)(ls:List Bool)(cs:List (List aN)){k:Nat}{m:bP}{c:List aN}(hm:n.aa[k]?=some m)(hc:cs[k]?=some c):jk n ls cs (k+1)=jk n ls cs k++iJ m c (2^m.addr.toNat):=by unfold jk;rw[List.range_succ,List.flatMap_append,<-cN];congr 1;simp only[List.flatMap_cons,List.flatMap_nil,dF];rw[dC,dC,hm,hc];rfl
theorem ajl(c:List aN)(a:Int):rd c a=0\/∃p∈c,rd c a=p.2.1:=by
 induction c with
 |nil=>exact .inl rfl|cons p c ih=>
  rw[OI];by_cases q:p.1=a
  .rw[if_pos q];exact .inr ⟨p,by simp,rfl⟩
  .rw[if_neg q];rcases ih with h|⟨r,hr,h⟩
   .exact .inl h
   .exact .inr ⟨r,by simp[hr],h⟩
theorem UE{c:List aN}{i:Nat}{p:aN}(h:c[i]?=some p):eJ c (i:Int)=p.1/\i7 c (i:Int)=p.2.1:=by have g:gt ar c (i:Int)=p:=aZ (σ:=ar) h;unfold eJ i7;rw[g];exact⟨rfl,rfl⟩
theorem VC{c:List aN}(h:qz c)(a:Int):0<=rd c a/\rd c a<=18446744073709551615:=by
 rcases ajl c a with e|⟨p,hp,e⟩
 .omega
 .obtain⟨i,hi⟩:=List.getElem?_of_mem hp;have hw:=(h i (dL hi)).2;rw[(UE hi).2]at hw;omega
structure Small(m:bP):Prop where
 a1:1<=m.addr
 a2:m.addr<10
 w1:1<=m.word
 w2:m.word<=64
 sz:m.word*2^m.addr.toNat<=64
theorem Small.nat{m:bP}(h:Small m):2^m.addr.toNat*m.word.toNat<=64/\1<=2^m.addr.toNat:=by
 have hp:(1:Nat)<=2^m.addr.toNat:=Nat.pos_of_ne_zero (by simp);refine⟨?_,hp⟩;have e:((2^m.addr.toNat*m.word.toNat:Nat):Int)=m.word*2^m.addr.toNat:=by
  push_cast
  rw[show((m.word.toNat:Nat):Int)=m.word by have:=h.w1;omega,Int.mul_comm]
 have:=h.sz;omega
theorem Small.jw{m:bP}(h:Small m):2^m.addr.toNat<=64:=by have h1:=h.nat.1;have h2:2^m.addr.toNat*1<=2^m.addr.toNat*m.word.toNat:=Nat.mul_le_mul_left _ (by have:=h.w1;omega);omega
theorem agc:∀(l:List bP) (a:Int),(∀m∈l,1<=m.addr/\1<=m.word/\m.word<=64)->∀m∈l,a+tP m<=l.foldl (fun a m=>a+tP m) a:=by
 intro l
 induction l with
 |nil=>intro a _ m hm;cases hm
 |cons x l ih=>
  intro a hl m hm;obtain⟨h1,h2,h3⟩:=hl x (by simp);have t:=zN h1 h2 h3;have hl':∀m∈l,1<=m.addr/\1<=m.word/\m.word<=64:=fun y hy=>hl y (by simp[hy]);rw[List.foldl_cons];rcases List.mem_cons.1 hm with rfl|hm
  .exact(zE l (a+tP m) hl').1
  .have:=ih (a+tP x) hl' m hm;omega
section
variable{n:aD}{V:Nat}(hs:cO n V)
include hs
theorem II(h:jI (fA n.aa)<=64):∀m∈n.aa,Small m:=by
 intro m hm;have h2:fA n.aa<=64:=by unfold jI at h;split at h<;>omega
 have h3:=agc n.aa 0 (nJ hs) m hm;have h3:0+tP m<=fA n.aa:=h3;obtain⟨m1,m2,m3⟩:=nJ hs m hm;unfold tP at h3;by_cases q:10<=m.addr
 .rw[if_pos q]at h3;omega
 .rw[if_neg q]at h3;exact⟨m1,by omega,m2,m3,by omega⟩
end
section
variable{n:aD}{V:Nat}
theorem Vb(ls:List Bool)(cs:List (List aN))(hsm:∀m∈n.aa,Small m):∀k,k<=n.aa.length->k<=cs.length->(jk n ls cs k).length<=ls.length+64*k:=by
 intro k
 induction k with|zero=>intro _ _;simp[jk]|succ k ih=>intro hk hc;have hx:=List.getElem?_eq_getElem (l:=n.aa) (i:=k) (by omega);have hy:=List.getElem?_eq_getElem (l:=cs) (i:=k) (by omega);rw[zD n ls cs hx hy,aW,zB];have:=(hsm _ (List.getElem_mem (show k<n.aa.length by omega))).nat.1;have:=ih (by omega) (by omega);omega
end
section
variable{n:aD}{V:Nat}
theorem UB{m:bP}(h:Small m):IntKind.wrap .u64 ((1:Int)*(HPow.hPow (2:Int) (Min.min (Int.toNat m.addr) 64)))=((2^m.addr.toNat:Nat):Int):=by
 have h1:=h.a2;have h2:=h.a1;rw[Nat.min_eq_left (by omega),Int.one_mul];have hc:=h.jw;have e:((2^m.addr.toNat:Nat):Int)=(2:Int)^m.addr.toNat:=by push_cast;rfl
 have hp:(0:Int)<=(2:Int)^m.addr.toNat:=Int.le_of_lt (Int.pow_pos (by decide));have hc':(2:Int)^m.addr.toNat<=64:=by exact_mod_cast hc
 rw[e];exact jU ⟨hp,by omega⟩
end
section
variable{n:aD}{V:Nat}
theorem aju{k:Nat}{m:bP}{c:List aN}(hm:Small m)(hc:qz c)(L:Int)(ls:List Bool)(cs:List (List aN))(acc:List Bool)(hacc:acc.length<=1000000)(ra:Int) :
  uZ (n.aa.map av,(L,((k:Int),(((2^m.addr.toNat:Nat):Int),((0:Int),(ls,(cs,(acc,(m.addr,(m.word,(m.any,(m.reads.map dU,(m.writes.map dZ,(ra,(m.word,(c,())))))))))))))))) =
   some (n.aa.map av,(L,((k:Int),(ls,(cs,(acc++iJ m c (2^m.addr.toNat),())))))):=by
 have hn:=hm.nat;have hcn:=hm.jw;unfold uZ;delta u16;refine cu (fun j:Nat=>(n.aa.map av,(L,((k:Int),(((2^m.addr.toNat:Nat):Int),((j:Int),(ls,(cs,(acc++iJ m c j,(m.addr,(m.word,(m.any,(m.reads.map dU,(m.writes.map dZ,(ra,(m.word,(c,()))))))))))))))))) (2^m.addr.toNat) (by have h:acc++iJ m c 0=acc:=dF acc;dsimp only;rw[h];try rfl) ?_ ?_ (bt (by omega))
 .intro j hj;have hr:=VC hc (j:Int);have e1:uy ((j:Int),(ra,(m.word,(c,()))))=some (rd c (j:Int),(ra,(m.word,(c,())))):=by
   have e:∀p q:Int,p=q->(some (p,(ra,(m.word,(c,())))):Option (Out xJ))=some (q,(ra,(m.word,(c,())))):=by rintro _ _ rfl;rfl
   exact e _ _ (IZ c (j:Int))
  have hw1:=hm.w1;have hw2:=hm.w2;have e2:mV (rd c (j:Int),(m.word,()))=some (lu m c j,()):=by have:=vk (rd c (j:Int)).toNat m.word.toNat (by omega) (by omega);rw[show(((rd c (j:Int)).toNat:Nat):Int)=rd c (j:Int) by omega,show((m.word.toNat:Nat):Int)=m.word by omega]at this;exact this
  have hl:(iJ m c j).length<=64:=by rw[zB];have:j*m.word.toNat<=2^m.addr.toNat*m.word.toNat:=Nat.mul_le_mul_right _ (by omega);omega
  have hwl:(lu m c j).length<=64:=by unfold lu;rw[kS];omega
  have hroom:room 1 (List.length ((acc++iJ m c j)++lu m c j))=true:=by rw[aW,aW];exact ks (by omega) (by omega)
  have ht:(acc++iJ m c j)++lu m c j=acc++iJ m c (j+1):=by rw[IC,cN]
  have e:∀(a b:List Bool) (p q:Int),a=b->p=q->(some (.inl (n.aa.map av,(L,((k:Int),(((2^m.addr.toNat:Nat):Int),(p,(ls,(cs,(a,(m.addr,(m.word,(m.any,(m.reads.map dU,(m.writes.map dZ,(ra,(m.word,(c,())))))))))))))))) ):Option (TL y8.σs⊕Out y4))=some (.inl (n.aa.map av,(L,((k:Int),(((2^m.addr.toNat:Nat):Int),(q,(ls,(cs,(b,(m.addr,(m.word,(m.any,(m.reads.map dU,(m.writes.map dZ,(ra,(m.word,(c,())))))))))))))))) ):=by rintro _ _ _ _ rfl rfl;rfl
  exact ao (ak (show(j:Int)<((2^m.addr.toNat:Nat):Int) by omega)) (af e1 (ai (ak rfl) (af e2 (ai hroom (e _ _ _ _ ht (jU (x:=(j:Int)+1) (by omega)))))))
 .exact ag (aA (show ¬((2^m.addr.toNat:Nat):Int)<((2^m.addr.toNat:Nat):Int) by omega)) rfl
end
section
variable{n:aD}{V:Nat}(hs:cO n V)
include hs
theorem apP(ls:List Bool)(cs:List (List aN))(hsm:∀m∈n.aa,Small m)(hok:px cs)(hf:gk (bz n) (ls,(cs,()))=true)(hl:ls.length<=100000) :
  TM (n.aa.map av,(((n.aa.map av).length:Int),((0:Int),(ls,(cs,(ls,()))))))=some (jk n ls cs n.aa.length,()):=by
 have hM:=hs.lens.2.2.2.2;have hL:((n.aa.map av).length:Int)=(n.aa.length:Int):=by rw[aO]
 unfold gk at hf;simp only[Bool.and_eq_true,decide_eq_true_eq]at hf;obtain⟨⟨f1,f2⟩,f3⟩:=hf;have f2:cs.length=n.aa.length:=f2.trans (aO ..);have f3:(List.range (n.aa.map av).length).all (j6 (n.aa.map av) cs)=true:=f3;unfold TM;delta u6;refine cu (fun k:Nat=>(n.aa.map av,(((n.aa.map av).length:Int),((k:Int),(ls,(cs,(jk n ls cs k,()))))))) n.aa.length (by have h:jk n ls cs 0=ls:=dF ls;dsimp only;rw[h];try rfl) ?_ ?_ (bt (by omega))
 .intro k hk;obtain⟨m,hm⟩:∃m,n.aa[k]?=some m:=⟨_,aT hk⟩;obtain⟨c,hc⟩:∃c,cs[k]?=some c:=⟨_,aT (by omega)⟩;have hmm:=dn hm;have sm:=hsm m hmm;have hm':(n.aa.map av)[k]?=some (av m):=by rw[cg,hm];rfl
  have g1:gt ab (n.aa.map av) (k:Int)=av m:=aZ (σ:=ab) hm';have g2:gt (.sl ar) cs (k:Int)=c:=aZ (σ:=.sl ar) hc;have hp:=(List.all_eq_true.1 f3) k (List.mem_range.2 (by rw[aO];exact hk));unfold j6 at hp;rw[g1,g2]at hp;have hp:jj m.addr m.word c=true:=hp;have e4:=RH m.addr m.word c;rw[hp]at e4;have e4':xL ((gt ab (n.aa.map av) (k:Int)).1,((gt ab (n.aa.map av) (k:Int)).2.1,(gt (.sl ar) cs (k:Int),())))=some (.inr ((0:Int),(m.addr,(m.word,(c,()))))):=by rw[g1,g2];exact e4
  have hsl:=Vb ls cs hsm k (by omega) (by omega);have e13:=aju (n:=n) (k:=k) sm (hok c (dn hc)) ((n.aa.map av).length:Int) ls cs (jk n ls cs k) (by omega) m.addr;have e13':uZ (n.aa.map av,(((n.aa.map av).length:Int),((k:Int),((IntKind.wrap .u64 ((1:Int)*(HPow.hPow (2:Int) (Min.min (Int.toNat (gt ab (n.aa.map av) (k:Int)).1) 64)))),((0:Int),(ls,(cs,(jk n ls cs k,((gt ab (n.aa.map av) (k:Int)).1,((gt ab (n.aa.map av) (k:Int)).2.1,((gt ab (n.aa.map av) (k:Int)).2.2.1,((gt ab (n.aa.map av) (k:Int)).2.2.2.1,((gt ab (n.aa.map av) (k:Int)).2.2.2.2.1,(m.addr,(m.word,(c,())))))))))))))))) =
   some (n.aa.map av,(((n.aa.map av).length:Int),((k:Int),(ls,(cs,(jk n ls cs k++iJ m c (2^m.addr.toNat),())))))):=by
   rw[g1];have:=UB sm;show uZ (n.aa.map av,(((n.aa.map av).length:Int),((k:Int),((IntKind.wrap .u64 ((1:Int)*(HPow.hPow (2:Int) (Min.min (Int.toNat m.addr) 64)))),_))))=_;rw[this];exact e13
  have hc0:iE (0:Int) (gt ab (n.aa.map av) (k:Int)).1=true:=ak (by rw[g1];have:=sm.a1;show(0:Int)<=m.addr;omega);have e:∀(a b:List Bool) (p q:Int),a=b->p=q->(some (.inl (n.aa.map av,(((n.aa.map av).length:Int),(p,(ls,(cs,(a,()))))))):Option (TL ze.σs⊕Out y9))=some (.inl (n.aa.map av,(((n.aa.map av).length:Int),(q,(ls,(cs,(b,()))))))):=by rintro _ _ _ _ rfl rfl;rfl
  exact ao (ak (show(k:Int)<((n.aa.map av).length:Int) by omega)) (ai (show aq (k:Int) (List.length (n.aa.map av))=true from aK ⟨by omega,by omega⟩) (ai (show aq (k:Int) (List.length cs)=true from aK ⟨by omega,by omega⟩) (af e4' (ai hc0 (af e13' (e _ _ _ _ (zD n ls cs hm hc).symm (bG (show(k:Int)+1=((k+1:Nat):Int) by omega) (by omega))))))))
 .exact ag (aA (show ¬(n.aa.length:Int)<((n.aa.map av).length:Int) by omega)) rfl
theorem ajp{k:Nat}{m:bP}{c:List aN}(hmk:n.aa[k]?=some m)(hck:∀cs:List (List aN),cs[k]?=some c->True)(hm:Small m)(hc:qz c)(hcl:c.length<=100000)(ls:List Bool)(cs:List (List aN))(hcs:cs[k]?=some c)(acc:List Bool)(hacc:acc.length<=1000000) :
  Gw ((k:Int),((0:Int),nt n (ls,(cs,(acc,())))))=some ((k:Int),nt n (ls,(cs,(acc++iJ m c (2^m.addr.toNat),())))):=by
 have hn:=hm.nat;have hcn:=hm.jw;have hk:=dL hmk;have hM:=hs.lens.2.2.2.2;have hm':(n.aa.map av)[k]?=some (av m):=by rw[cg,hmk];rfl
 have g1:gt ab (n.aa.map av) (k:Int)=av m:=aZ (σ:=ab) hm';have g2:gt (.sl ar) cs (k:Int)=c:=aZ (σ:=.sl ar) hcs;have aY:aq (k:Int) (List.length (n.aa.map av))=true:=aK ⟨by omega,by rw[aO];omega⟩;have hin2:aq (k:Int) (List.length cs)=true:=aK ⟨by omega,by have:k<List.length (α:=List aN) cs:=dL hcs;omega⟩;have a1:=hm.a1;have a2:=hm.a2;have hfit:∀j:Nat,j<=2^m.addr.toNat->rM ((j:Int),((gt ab (n.aa.map av) (k:Int)).1,()))=some (decide (j<2^m.addr.toNat),()):=by
  intro j hj;rw[g1];have:=uD (v:=(j:Int)) (w:=m.addr) ⟨by omega,by omega⟩ ⟨by omega,by omega⟩;refine this.trans ?_;have e:∀p q:Bool,p=q->(some (p,()):Option (TL xG))=some (q,()):=by rintro _ _ rfl;rfl
  refine e _ _ ?_;unfold jn;have hp:((2^m.addr.toNat:Nat):Int)=(2:Int)^m.addr.toNat:=by push_cast;rfl
  by_cases q:j<2^m.addr.toNat
  .rw[bg q,bg];exact Int.ediv_eq_zero_of_lt (by omega) (by omega)
  .obtain rfl:j=2^m.addr.toNat:=by omega
   rw[bU q,hp,bU];rw[Int.ediv_self (by omega)];omega
 unfold Gw;delta gZ;refine cu (fun j:Nat=>((k:Int),((j:Int),nt n (ls,(cs,(acc++iJ m c j,())))))) (2^m.addr.toNat) (by have h:acc++iJ m c 0=acc:=dF acc;dsimp only;rw[h];try rfl) ?_ ?_ (bt (by omega))
 .intro j hj;have e0:=hfit j (by omega);rw[bg hj]at e0;have hr:=VC hc (j:Int);have hw1:=hm.w1;have hw2:=hm.w2;have e1:tu (gt (.sl ar) cs (k:Int),((j:Int),()))=some (rd c (j:Int),()):=by rw[g2];exact acP c (j:Int) hcl
  have e2:oO (rd c (j:Int),((gt ab (n.aa.map av) (k:Int)).2.1,()))=some (lu m c j,()):=by rw[g1];have:=DI (rd c (j:Int)).toNat m.word.toNat (by omega) (by omega);rw[show(((rd c (j:Int)).toNat:Nat):Int)=rd c (j:Int) by omega,show((m.word.toNat:Nat):Int)=m.word by omega]at this;exact this
  have hl:(iJ m c j).length<=64:=by rw[zB];have:j*m.word.toNat<=2^m.addr.toNat*m.word.toNat:=Nat.mul_le_mul_right _ (by omega);omega
  have hwl:(lu m c j).length<=64:=by unfold lu;rw[kS];omega
  have hroom:room 1 (List.length ((acc++iJ m c j)++lu m c j))=true:=by rw[aW,aW];exact ks (by omega) (by omega)
  have ht:(acc++iJ m c j)++lu m c j=acc++iJ m c (j+1):=by rw[IC,cN]
  have e:∀(a b:List Bool) (p q:Int),a=b->p=q->(some (.inl ((k:Int),(p,nt n (ls,(cs,(a,())))))):Option (TL yC.σs⊕Out yu))=some (.inl ((k:Int),(q,nt n (ls,(cs,(b,())))))):=by rintro _ _ _ _ rfl rfl;rfl
  exact ai aY (af e0 (ao rfl (ai hin2 (ai aY (af e1 (af e2 (ai hroom (e _ _ _ _ ht (jU (x:=(j:Int)+1) (by omega))))))))))
 .have e0:=hfit (2^m.addr.toNat) (Nat.le_refl _);rw[bU (by omega)]at e0;exact ai aY (af e0 (ag rfl rfl))
theorem apO(ls:List Bool)(cs:List (List aN))(hsm:∀m∈n.aa,Small m)(hok:px cs)(hcs:cs.length=n.aa.length)(hcl:∀c∈cs,c.length<=100000)(hl:ls.length<=100000) :
  SO ((0:Int),nt n (ls,(cs,(ls,()))))=some (jk n ls cs n.aa.length,()):=by
 have hM:=hs.lens.2.2.2.2;have hL:((n.aa.map av).length:Int)=(n.aa.length:Int):=by rw[aO]
 unfold SO;delta iZ;refine cu (fun k:Nat=>((k:Int),nt n (ls,(cs,(jk n ls cs k,()))))) n.aa.length (by have h:jk n ls cs 0=ls:=dF ls;dsimp only;rw[h];try rfl) ?_ ?_ (bt (by omega))
 .intro k hk;obtain⟨m,hm⟩:∃m,n.aa[k]?=some m:=⟨_,aT hk⟩;obtain⟨c,hc⟩:∃c,cs[k]?=some c:=⟨_,aT (by omega)⟩;have sm:=hsm m (dn hm);have hsl:=Vb ls cs hsm k (by omega) (by omega);have e11:=ajp hs hm (fun _ _=>trivial) sm (hok c (dn hc)) (hcl c (dn hc)) ls cs hc (jk n ls cs k) (by omega);have e:∀(a b:List Bool) (p q:Int),a=b->p=q->(some (.inl (p,nt n (ls,(cs,(a,()))))):Option (TL yM.σs⊕Out yD))=some (.inl (q,nt n (ls,(cs,(b,()))))):=by rintro _ _ _ _ rfl rfl;rfl
  exact ao (ak (show(k:Int)<((n.aa.map av).length:Int) by omega)) (af e11 (e _ _ _ _ (zD n ls cs hm hc).symm (bG (show(k:Int)+1=((k+1:Nat):Int) by omega) (by omega))))
 .exact ag (aA (show ¬(n.aa.length:Int)<((n.aa.map av).length:Int) by omega)) rfl
end
def iC(n:aD)(ls:List Bool)(cs:List (List aN)):Int×List Bool:=if j5 (bz n) (ls,(cs,()))≠0 then(j5 (bz n) (ls,(cs,())),[])else if 64<dT n then(17,[])else(0,jk n ls cs n.aa.length)
section
variable{n:aD}
theorem VX{ls:List Bool}{cs:List (List aN)}(h:j5 (bz n) (ls,(cs,()))=0):Pl.dD n=0/\gk (bz n) (ls,(cs,()))=true:=by
 unfold j5 at h;rw[oq]at h;by_cases q:Pl.dD n=0
 .rw[if_neg (fun w=>w q)]at h;refine⟨q,?_⟩;cases hf:gk (bz n) (ls,(cs,()))with|true=>rfl|false=>rw[hf]at h;simp at h
 .rw[if_pos q]at h;exact absurd h q
end
section
variable{n:aD}
theorem Wf(h:Pl.dD n=0):∃V,cO n V/\dT n=jI (fA n.aa):=by
 have hc:=h;unfold Pl.dD at hc;have h0:dM n=0:=by
  by_cases q:dM n=0
  .exact q
  .rw[if_pos q]at hc;exact absurd hc q
 obtain⟨V,hs⟩:=pS h0;exact⟨V,hs,by unfold dT;rw[if_neg (fun q=>q h)]⟩
end
section
variable{n:aD}(ft:Fit n)
include ft
theorem Iy(ls:List Bool)(cs:List (List aN))(hok:px cs)(hl:ls.length<=100000)(hcl:∀c∈cs,c.length<=100000) :
  zm (nt n (ls,(cs,())))=some ((iC n ls cs).1,((iC n ls cs).2,())) /\
  adT (bz n,((ls,(cs,())),()))=some (((iC n ls cs).2,([],())),((iC n ls cs).1,())):=by
 have ft':Fit (fx (bz n)):=by rw[oq];exact ft
 have hT:List.length (bz n).2.2.2.2.2.2.1<=100000:=by show(n.aa.map av).length<=_;rw[aO];have:=ft.aa.1;omega
 have e1:=Zy6 (bz n) (ls,(cs,())) ft' hT;have e2:=Zya (bz n) (ls,(cs,())) ft' hT hok;have c1:=vl ft;have c2:=vi ft;unfold iC;by_cases h0:j5 (bz n) (ls,(cs,()))=0
 .rw[if_neg (fun q=>q h0)];obtain⟨hc,hf⟩:=VX h0;obtain⟨V,hs,hcl2⟩:=Wf hc;by_cases h1:64<dT n
  .rw[if_pos h1];exact⟨af e1 (ag (dH (ak h0)) (af c1 (ao (ak h1) rfl))),af e2 (ag (dH (ak h0)) (af c2 (ao (ak h1) rfl)))⟩
  .rw[if_neg h1];have hsm:=II hs (by rw[<-hcl2];omega);have e8:=apP hs ls cs hsm hok hf hl;have hcs:cs.length=n.aa.length:=by unfold gk at hf;simp only[Bool.and_eq_true,decide_eq_true_eq]at hf;exact hf.1.2.trans (aO ..)
   have r8:=apO hs ls cs hsm hok hcs hcl hl;have hcb:Lh (ls,())=some (ls,()):=ai (zM ls hl) rfl;refine⟨af e1 (ag (dH (ak h0)) (af c1 (ag (aA h1) (af hcb (af e8 rfl))))),af e2 (ag (dH (ak h0)) (af c2 (ag (aA h1) (ai (zM ls hl) (af r8 rfl)))))⟩
 .rw[if_pos h0];exact⟨af e1 (ao (fZ (aA h0)) rfl),af e2 (ao (fZ (aA h0)) rfl)⟩
end
theorem pH{a b:Bool}(h1:a=true)(h2:b=true):both a b=true:=by subst h1;subst h2;rfl
theorem Vd{l:List Bool}{k n:Nat}(h:k<=n):(l.take k).length<=n:=by rw[da];omega
theorem Il(l:List Bool)(hl:l.length<=64):vh (l,())=some ((cF l:Int),()):=by
 have s:dj (iL (64:Int) (Int.ofNat (List.length l))) (64:Int) (Int.ofNat (List.length l))=Int.ofNat (List.length l):=by
  unfold dj;rw[show iL (64:Int) (Int.ofNat (List.length l))=false from aA (show ¬(64:Int)<((l.length:Nat):Int) by omega)]
  try rfl
 have ht:List.take (Int.toNat (Int.ofNat (List.length l))) l=l:=by show List.take l.length l=l;exact dt
 have eL:zu ((0:Int),(l,(((l.length:Nat):Int),((0:Int),()))))=some ((cF l:Int),()):=by
  unfold zu;delta u4;refine cu (fun k:Nat=>((cF (l.take k):Int),(l,(((l.length:Nat):Int),((k:Int),()))))) l.length rfl ?_ ?_ (bt (by omega))
  .intro k hk;have hx:=aT hk;have ht:l.take (k+1)=l.take k++[l[k]]:=Pl.cW hx;have hk2:(l.take k).length=k:=by rw[da];omega
   have hw:=mg (l.take k);rw[hk2]at hw;have e:∀(a b p q:Int),a=b->p=q->(some (.inl (a,(l,(((l.length:Nat):Int),(p,()))))):Option (TL zo.σs⊕Out zj))=some (.inl (b,(l,(((l.length:Nat):Int),(q,()))))):=by rintro _ _ _ _ rfl rfl;rfl
   refine ao (ak (show(k:Int)<((l.length:Nat):Int) by omega)) (ai (show aq (k:Int) (List.length l)=true from aK ⟨by omega,by omega⟩) ?_);have g:gt .bool l (k:Int)=l[k]:=aZ (σ:=.bool) hx;have hz:=UY (i:=k) (w:=cF (l.take k)) (by omega) hw;have hs:(cF (l.take (k+1)):Int)=((cF (l.take k)+(if l[k]then 2^k else 0):Nat):Int):=by rw[ht,Oq,hk2]
   cases hb:l[k]
   .rw[hb]at g hs;exact ag g (e _ _ _ _ hs.symm (bG (show(k:Int)+1=((k+1:Nat):Int) by omega) (by omega)))
   .rw[hb]at g hs;exact ao g (ai (ak (show(0:Int)<=(k:Int) by omega)) (e _ _ _ _ (hz.trans hs.symm) (bG (show(k:Int)+1=((k+1:Nat):Int) by omega) (by omega))))
  .rw[dt];exact ag (aA (show ¬((l.length:Nat):Int)<((l.length:Nat):Int) by omega)) rfl
 have eL':∀l':List Bool,l'=l->zu ((0:Int),(l',(((List.length l':Nat):Int),((0:Int),()))))=some ((cF l:Int),()):=by rintro _ rfl;exact eL
 show Ir zu l=_;unfold Ir;rw[s];refine ai (pH (ak (show(0:Int)<=((l.length:Nat):Int) by omega)) (ak (show((l.length:Nat):Int)<=((l.length:Nat):Int) by omega))) (af (eL' _ ht) rfl)
def cellAt(w:Nat)(l:List Bool)(a:Nat):Nat:=cF ((l.drop (a*w)).take w)
def iW(w:Nat)(l:List Bool)(k:Nat):List aN:=(List.range k).flatMap (fun a=>if cellAt w l a=0 then[]else[((a:Int),((cellAt w l a:Int),()))])
def iY(m:bP):Nat:=2^m.addr.toNat*m.word.toNat
def na(L:List bP):Nat:=L.foldl (fun a m=>a+iY m) 0
def ez(n:aD)(k:Nat):Nat:=na (n.aa.take k)
def gY(n:aD)(l:List Bool)(k:Nat):List (List aN):=(List.range k).map fun i=>iW (n.aa.getD i mz).word.toNat (l.drop (ez n i)) (2^(n.aa.getD i mz).addr.toNat)
theorem zy(w:Nat)(l:List Bool)(k:Nat):iW w l (k+1)=iW w l k++(if cellAt w l k=0 then[]else[((k:Int),((cellAt w l k:Int),()))]):=by unfold iW;rw[List.range_succ,List.flatMap_append];simp
theorem IJ(w:Nat)(l:List Bool):∀k,(iW w l k).length<=k:=by
 intro k
 induction k with|zero=>simp[iW]|succ k ih=>rw[zy,aW];split<;>simp<;>omega
theorem IL(n:aD)(l:List Bool)(k:Nat):(gY n l k).length=k:=by simp[gY]
theorem UD(n:aD)(l:List Bool){k:Nat}{m:bP}(hm:n.aa[k]?=some m):gY n l (k+1)=gY n l k++[iW m.word.toNat (l.drop (ez n k)) (2^m.addr.toNat)]:=by unfold gY;rw[List.range_succ,dV];congr 1;simp only[List.map_cons,List.map_nil];rw[dC,hm];rfl
theorem IF(n:aD){k:Nat}{m:bP}(hm:n.aa[k]?=some m):ez n (k+1)=ez n k+iY m:=by unfold ez na;rw[Pl.cW hm,List.foldl_append];rfl
theorem aiN{m:bP}(h:Small m):(iY m:Int)=tP m:=by
 unfold iY tP;rw[if_neg (by have:=h.a2;omega)]
 push_cast
 rw[show((m.word.toNat:Nat):Int)=m.word by have:=h.w1;omega,Int.mul_comm]
theorem UQ:∀(L:List bP) (a:Nat),(∀m∈L,Small m)->((L.foldl (fun a m=>a+iY m) a:Nat):Int)=L.foldl (fun a m=>a+tP m) (a:Int):=by
 intro L
 induction L with
 |nil=>intro a _;rfl|cons m L ih=>
  intro a h;have e:=aiN (h m (by simp));rw[List.foldl_cons,List.foldl_cons,ih _ (fun x hx=>h x (by simp[hx]))];congr 1
  push_cast
  rw[e]
theorem afJ:∀(L:List bP) (a:Nat),a<=L.foldl (fun a m=>a+iY m) a:=by
 intro L
 induction L with|nil=>intro a;exact Nat.le_refl _|cons m L ih=>intro a;rw[List.foldl_cons];exact Nat.le_trans (Nat.le_add_right ..) (ih _)
theorem U7(n:aD)(k:Nat):ez n k<=na n.aa:=by
 unfold ez na
 conv=>rhs;rw[<-List.take_append_drop k n.aa,List.foldl_append]
 exact afJ _ _
theorem zx(l:List Bool)(i w:Nat):(l.drop i).drop w=l.drop (i+w):=by rw[List.drop_drop]
theorem Vg{w a N:Nat}{l:List Bool}(ha:a<N)(h:N*w<=l.length):w<=(l.drop (a*w)).length:=by have:(a+1)*w<=N*w:=Nat.mul_le_mul_right _ (by omega);rw[Nat.succ_mul]at this;rw[List.length_drop];omega
theorem Uu(c:List aN)(d:aN)(h:c.length<=1000):room 16 (List.length (c++[d]))=true:=by rw[aW,ca,List.length_nil];exact ks (by omega) (by omega)
theorem UA(c:List (List aN))(d:List aN)(h:c.length<=1000):room 24 (List.length (c++[d]))=true:=by rw[aW,ca,List.length_nil];exact ks (by omega) (by omega)
theorem ai3{m:bP}(hm:Small m)(T:List (Sh.T ab))(L K:Int)(b1:List Bool)(b2:List (List aN))(an:Bool)(rs:List (Sh.T cj))(ws:List (Sh.T bI))(rest:List Bool)(hr:iY m<=rest.length) :
  va (rest,(T,(L,(K,(((2^m.addr.toNat:Nat):Int),((0:Int),(b1,(b2,(m.addr,(m.word,(an,(rs,(ws,([],())))))))))))))) =
   some (rest.drop (iY m),(T,(L,(K,(b1,(b2,(iW m.word.toNat rest (2^m.addr.toNat),()))))))):=by
 have hcn:=hm.jw;have hw1:=hm.w1;have hw2:=hm.w2;unfold iY at hr;unfold va;delta iu;refine cu (fun a:Nat=>(rest.drop (a*m.word.toNat),(T,(L,(K,(((2^m.addr.toNat:Nat):Int),((a:Int),(b1,(b2,(m.addr,(m.word,(an,(rs,(ws,(iW m.word.toNat rest a,()))))))))))))))) (2^m.addr.toNat) (by(have h:rest.drop (0*m.word.toNat)=rest:=by rw[Nat.zero_mul];rfl);dsimp only;rw[h];try rfl) ?_ ?_ (bt (by omega))
 .intro a ha;have hlen:=Vg (w:=m.word.toNat) ha hr;have e1:vh (List.take (Int.toNat m.word) (rest.drop (a*m.word.toNat)),())=some ((cellAt m.word.toNat rest a:Int),()):=Il _ (Vd (by omega));have hb:both (iE (0:Int) m.word) (iE m.word (Int.ofNat (List.length (rest.drop (a*m.word.toNat)))))=true:=pH (ak (by omega)) (ak (show m.word<=((List.length (rest.drop (a*m.word.toNat)):Nat):Int) by omega));have hd:List.drop (Int.toNat m.word) (rest.drop (a*m.word.toNat))=rest.drop ((a+1)*m.word.toNat):=by rw[zx,Nat.succ_mul]
  have hl:=IJ m.word.toNat rest a;have hst:=zy m.word.toNat rest a;have e:∀(r r':List Bool) (p q:Int) (c c':List aN),r=r'->p=q->c=c'->(some (.inl (r,(T,(L,(K,(((2^m.addr.toNat:Nat):Int),(p,(b1,(b2,(m.addr,(m.word,(an,(rs,(ws,(c,()))))))))))))))):Option (TL zd.σs⊕Out y7))=some (.inl (r',(T,(L,(K,(((2^m.addr.toNat:Nat):Int),(q,(b1,(b2,(m.addr,(m.word,(an,(rs,(ws,(c',()))))))))))))))):=by rintro _ _ _ _ _ _ rfl rfl rfl;rfl
  have hu:IntKind.wrap .u64 ((a:Int)+1)=((a+1:Nat):Int):=jU (x:=(a:Int)+1) (by omega);by_cases q:cellAt m.word.toNat rest a=0
  .rw[if_pos q,dF]at hst;exact ao (ak (show(a:Int)<((2^m.addr.toNat:Nat):Int) by omega)) (ai hb (af e1 (ag (dH (ak (show((cellAt m.word.toNat rest a:Nat):Int)=0 by omega))) (ai hb (e _ _ _ _ _ _ hd hu hst.symm)))))
  .rw[if_neg q]at hst;exact ao (ak (show(a:Int)<((2^m.addr.toNat:Nat):Int) by omega)) (ai hb (af e1 (ao (fZ (aA (show ¬((cellAt m.word.toNat rest a:Nat):Int)=0 by omega))) (ai (show room 16 (List.length (iW m.word.toNat rest a++[((a:Int),((cellAt m.word.toNat rest a:Int),()))]))=true from Uu _ _ (by omega)) (ai hb (e _ _ _ _ _ _ hd hu hst.symm))))))
 .exact ag (aA (show ¬((2^m.addr.toNat:Nat):Int)<((2^m.addr.toNat:Nat):Int) by omega)) rfl
section
variable{n:aD}{V:Nat}(hs:cO n V)
include hs
theorem ai2(hsm:∀m∈n.aa,Small m)(aF:List Bool)(rest:List Bool)(hr:na n.aa<=rest.length) :
  HK (rest,(n.aa.map av,(((n.aa.map av).length:Int),((0:Int),(aF,([],()))))))=some (aF,(gY n rest n.aa.length,())):=by
 have hM:=hs.lens.2.2.2.2;have hL:((n.aa.map av).length:Int)=(n.aa.length:Int):=by rw[aO]
 unfold HK;delta u6;refine cu (fun k:Nat=>(rest.drop (ez n k),(n.aa.map av,(((n.aa.map av).length:Int),((k:Int),(aF,(gY n rest k,()))))))) n.aa.length (by(have h:rest.drop (ez n 0)=rest:=rfl);dsimp only;(try rw[h]);try rfl) ?_ ?_ (bt (by omega))
 .intro k hk;obtain⟨m,hm⟩:∃m,n.aa[k]?=some m:=⟨_,aT hk⟩;have sm:=hsm m (dn hm);have hm':(n.aa.map av)[k]?=some (av m):=by rw[cg,hm];rfl
  have g1:gt ab (n.aa.map av) (k:Int)=av m:=aZ (σ:=ab) hm';have ho:=IF n hm;have ho2:=U7 n (k+1);have e16:=ai3 sm (n.aa.map av) ((n.aa.map av).length:Int) (k:Int) aF (gY n rest k) m.any (m.reads.map dU) (m.writes.map dZ) (rest.drop (ez n k)) (by rw[List.length_drop];omega);have e16':va (rest.drop (ez n k),(n.aa.map av,(((n.aa.map av).length:Int),((k:Int),((IntKind.wrap .u64 ((1:Int)*(HPow.hPow (2:Int) (Min.min (Int.toNat (gt ab (n.aa.map av) (k:Int)).1) 64)))),((0:Int),(aF,(gY n rest k,((gt ab (n.aa.map av) (k:Int)).1,((gt ab (n.aa.map av) (k:Int)).2.1,((gt ab (n.aa.map av) (k:Int)).2.2.1,((gt ab (n.aa.map av) (k:Int)).2.2.2.1,((gt ab (n.aa.map av) (k:Int)).2.2.2.2.1,([],())))))))))))))) =
    some ((rest.drop (ez n k)).drop (iY m),(n.aa.map av,(((n.aa.map av).length:Int),((k:Int),(aF,(gY n rest k,(iW m.word.toNat (rest.drop (ez n k)) (2^m.addr.toNat),()))))))):=by
   rw[g1];have:=UB sm;show va (rest.drop (ez n k),(n.aa.map av,(((n.aa.map av).length:Int),((k:Int),((IntKind.wrap .u64 ((1:Int)*(HPow.hPow (2:Int) (Min.min (Int.toNat m.addr) 64)))),_)))))=_;rw[this];exact e16
  have hc0:iE (0:Int) (gt ab (n.aa.map av) (k:Int)).1=true:=ak (by rw[g1];have:=sm.a1;show(0:Int)<=m.addr;omega);have hd:(rest.drop (ez n k)).drop (iY m)=rest.drop (ez n (k+1)):=by rw[zx,ho]
  have hroom:=UA (gY n rest k) (iW m.word.toNat (rest.drop (ez n k)) (2^m.addr.toNat)) (by rw[IL];omega);have e:∀(r r':List Bool) (p q:Int) (c c':List (List aN)),r=r'->p=q->c=c'->(some (.inl (r,(n.aa.map av,(((n.aa.map av).length:Int),(p,(aF,(c,()))))))):Option (TL zb.σs⊕Out y6))=some (.inl (r',(n.aa.map av,(((n.aa.map av).length:Int),(q,(aF,(c',()))))))):=by rintro _ _ _ _ _ _ rfl rfl rfl;rfl
  exact ao (ak (show(k:Int)<((n.aa.map av).length:Int) by omega)) (ai (show aq (k:Int) (List.length (n.aa.map av))=true from aK ⟨by omega,by omega⟩) (ai hc0 (af e16' (ai hroom (e _ _ _ _ _ _ hd (bG (show(k:Int)+1=((k+1:Nat):Int) by omega) (by omega)) (UD n rest hm).symm)))))
 .exact ag (aA (show ¬(n.aa.length:Int)<((n.aa.map av).length:Int) by omega)) rfl
theorem ajk{k:Nat}{m:bP}(hmk:n.aa[k]?=some m)(hm:Small m)(b3:List Bool)(b4:List (List aN))(rest:List Bool)(hr:iY m<=rest.length) :
  GJ (rest,((k:Int),((0:Int),nt n (b3,(b4,([],()))))))=some (rest.drop (iY m),((k:Int),nt n (b3,(b4,(iW m.word.toNat rest (2^m.addr.toNat),()))))):=by
 have hcn:=hm.jw;have hw1:=hm.w1;have hw2:=hm.w2;have hk:=dL hmk;have hM:=hs.lens.2.2.2.2;have hm':(n.aa.map av)[k]?=some (av m):=by rw[cg,hmk];rfl
 have g1:gt ab (n.aa.map av) (k:Int)=av m:=aZ (σ:=ab) hm';have gw:(gt ab (n.aa.map av) (k:Int)).2.1=m.word:=by rw[g1];rfl
 have aY:aq (k:Int) (List.length (n.aa.map av))=true:=aK ⟨by omega,by rw[aO];omega⟩;have a1:=hm.a1;have a2:=hm.a2;have hfit:∀j:Nat,j<=2^m.addr.toNat->rM ((j:Int),((gt ab (n.aa.map av) (k:Int)).1,()))=some (decide (j<2^m.addr.toNat),()):=by
  intro j hj;rw[g1];have:=uD (v:=(j:Int)) (w:=m.addr) ⟨by omega,by omega⟩ ⟨by omega,by omega⟩;refine this.trans ?_;have e:∀p q:Bool,p=q->(some (p,()):Option (TL xG))=some (q,()):=by rintro _ _ rfl;rfl
  refine e _ _ ?_;unfold jn;have hp:((2^m.addr.toNat:Nat):Int)=(2:Int)^m.addr.toNat:=by push_cast;rfl
  by_cases q:j<2^m.addr.toNat
  .rw[bg q,bg];exact Int.ediv_eq_zero_of_lt (by omega) (by omega)
  .obtain rfl:j=2^m.addr.toNat:=by omega
   rw[bU q,hp,bU];have h2:(2:Int)^m.addr.toNat≠0:=by have:=hm.nat.2;rw[<-hp];omega
   rw[Int.ediv_self h2];omega
 unfold iY at hr;unfold GJ;delta iu;refine cu (fun a:Nat=>(rest.drop (a*m.word.toNat),((k:Int),((a:Int),nt n (b3,(b4,(iW m.word.toNat rest a,()))))))) (2^m.addr.toNat) (by(have h:rest.drop (0*m.word.toNat)=rest:=by rw[Nat.zero_mul];rfl);dsimp only;rw[h];try rfl) ?_ ?_ (bt (by omega))
 .intro a ha;have e0:=hfit a (by omega);rw[bg ha]at e0;have hlen:=Vg (w:=m.word.toNat) ha hr;have e1:Di (List.take (Int.toNat (gt ab (n.aa.map av) (k:Int)).2.1) (rest.drop (a*m.word.toNat)),())=some ((cellAt m.word.toNat rest a:Int),()):=by rw[gw];exact OE _ (Vd (by omega))
  have hb:both (iE (0:Int) (gt ab (n.aa.map av) (k:Int)).2.1) (iE (gt ab (n.aa.map av) (k:Int)).2.1 (Int.ofNat (List.length (rest.drop (a*m.word.toNat)))))=true:=by rw[gw];exact pH (ak (by omega)) (ak (show m.word<=((List.length (rest.drop (a*m.word.toNat)):Nat):Int) by omega))
  have hd:List.drop (Int.toNat (gt ab (n.aa.map av) (k:Int)).2.1) (rest.drop (a*m.word.toNat))=rest.drop ((a+1)*m.word.toNat):=by rw[gw,zx,Nat.succ_mul]
  have hl:=IJ m.word.toNat rest a;have hst:=zy m.word.toNat rest a;have e:∀(r r':List Bool) (p q:Int) (c c':List aN),r=r'->p=q->c=c'->(some (.inl (r,((k:Int),(p,nt n (b3,(b4,(c,()))))))):Option (TL yK.σs⊕Out yA))=some (.inl (r',((k:Int),(q,nt n (b3,(b4,(c',()))))))):=by rintro _ _ _ _ _ _ rfl rfl rfl;rfl
  have hu:IntKind.wrap .u64 ((a:Int)+1)=((a+1:Nat):Int):=jU (x:=(a:Int)+1) (by omega);by_cases q:cellAt m.word.toNat rest a=0
  .rw[if_pos q,dF]at hst;exact ai aY (af e0 (ao rfl (ai aY (ai hb (af e1 (ai aY (ai hb (ag (dH (ak (show((cellAt m.word.toNat rest a:Nat):Int)=0 by omega))) (e _ _ _ _ _ _ hd hu hst.symm)))))))))
  .rw[if_neg q]at hst;exact ai aY (af e0 (ao rfl (ai aY (ai hb (af e1 (ai aY (ai hb (ao (fZ (aA (show ¬((cellAt m.word.toNat rest a:Nat):Int)=0 by omega))) (ai (show room 16 (List.length (iW m.word.toNat rest a++[((a:Int),((cellAt m.word.toNat rest a:Int),()))]))=true from Uu _ _ (by omega)) (e _ _ _ _ _ _ hd hu hst.symm))))))))))
 .have e0:=hfit (2^m.addr.toNat) (Nat.le_refl _);rw[bU (by omega)]at e0;exact ai aY (af e0 (ag rfl rfl))
theorem ajj(hsm:∀m∈n.aa,Small m)(aF:List Bool)(rest:List Bool)(hr:na n.aa<=rest.length) :
  GI (rest,((0:Int),nt n (aF,([],()))))=some (aF,(gY n rest n.aa.length,())):=by
 have hM:=hs.lens.2.2.2.2;have hL:((n.aa.map av).length:Int)=(n.aa.length:Int):=by rw[aO]
 unfold GI;delta iZ;refine cu (fun k:Nat=>(rest.drop (ez n k),((k:Int),nt n (aF,(gY n rest k,()))))) n.aa.length (by(have h:rest.drop (ez n 0)=rest:=rfl);dsimp only;(try rw[h]);try rfl) ?_ ?_ (bt (by omega))
 .intro k hk;obtain⟨m,hm⟩:∃m,n.aa[k]?=some m:=⟨_,aT hk⟩;have sm:=hsm m (dn hm);have ho:=IF n hm;have ho2:=U7 n (k+1);have e15:=ajk hs hm sm aF (gY n rest k) (rest.drop (ez n k)) (by rw[List.length_drop];omega);have hd:(rest.drop (ez n k)).drop (iY m)=rest.drop (ez n (k+1)):=by rw[zx,ho]
  have hroom:=UA (gY n rest k) (iW m.word.toNat (rest.drop (ez n k)) (2^m.addr.toNat)) (by rw[IL];omega);have e:∀(r r':List Bool) (p q:Int) (c c':List (List aN)),r=r'->p=q->c=c'->(some (.inl (r,(p,nt n (aF,(c,()))))):Option (TL yJ.σs⊕Out yz))=some (.inl (r',(q,nt n (aF,(c',()))))):=by rintro _ _ _ _ _ _ rfl rfl rfl;rfl
  exact ao (ak (show(k:Int)<((n.aa.map av).length:Int) by omega)) (af e15 (ai hroom (e _ _ _ _ _ _ hd (bG (show(k:Int)+1=((k+1:Nat):Int) by omega) (by omega)) (UD n rest hm).symm)))
 .exact ag (aA (show ¬(n.aa.length:Int)<((n.aa.map av).length:Int) by omega)) rfl
end
def nB(n:aD)(ls:List Bool)(cs:List (List aN)):Int×(List Bool×List (List aN)):=
 if Pl.dD n≠0 then(Pl.dD n,([],[]))else if 64<dT n then(17,([],[]))else
 if(ls.length:Int)=(n.ax.length:Int)+dT n/\cs.length=0 then(0,(ls.take n.ax.length,gY n (ls.drop n.ax.length) n.aa.length))else(14,([],[]))
section
variable{n:aD}(ft:Fit n)
include ft
theorem afy(ls:List Bool)(cs:List (List aN))(hl:ls.length<=100000) :
  zp (bz n,((ls,(cs,())),()))=some (((nB n ls cs).2.1,((nB n ls cs).2.2,())),((nB n ls cs).1,())) /\
  Te (bz n,((ls,(cs,())),()))=some (((nB n ls cs).2.1,((nB n ls cs).2.2,())),((nB n ls cs).1,())):=by
 have c1:=ur ft;have c2:=Ge ft;have d1:=vl ft;have d2:=vi ft;have hla:=ft.aF.1;have hL:((n.ax.map bM).length:Int)=(n.ax.length:Int):=by rw[aO]
 unfold nB;by_cases hc:Pl.dD n=0
 .rw[if_neg (fun q=>q hc)];by_cases h1:64<dT n
  .rw[if_pos h1];exact⟨af c1 (ag (dH (ak hc)) (af d1 (ao (ak h1) rfl))),af c2 (ag (dH (ak hc)) (af d2 (ao (ak h1) rfl)))⟩
  .rw[if_neg h1];obtain⟨V,hs,hcl2⟩:=Wf hc;have hsm:=II hs (by rw[<-hcl2];omega);have hsum:((na n.aa:Nat):Int)=fA n.aa:=UQ n.aa 0 hsm;have hcells:dT n=fA n.aa:=by
    rw[hcl2];unfold jI;rw[hcl2]at h1;unfold jI at h1;split at h1
    .omega
    .rename_i q;rw[if_neg q]
   have hw:IntKind.wrap .i64 (((n.ax.map bM).length:Int)+dT n)=(n.ax.length:Int)+dT n:=by rw[hL];exact bZ (by omega)
   by_cases h2:(ls.length:Int)=(n.ax.length:Int)+dT n
   .by_cases h3:cs.length=0
    .rw[if_pos ⟨h2,h3⟩];have hdl:na n.aa<=(ls.drop n.ax.length).length:=by rw[List.length_drop];omega
     have f1:=ai2 hs hsm (ls.take n.ax.length) (ls.drop n.ax.length) hdl;have f2:=ajj hs hsm (ls.take n.ax.length) (ls.drop n.ax.length) hdl;have tn:Int.toNat (Int.ofNat (List.length (n.ax.map bM)))=n.ax.length:=by show(n.ax.map bM).length=_;rw[aO]
     have b2:not (iQ (Int.ofNat (List.length ls)) (IntKind.wrap .i64 (((n.ax.map bM).length:Int)+dT n)))=false:=dH (ak (by rw[hw];exact h2));have b3:aV false true (iL (0:Int) (Int.ofNat (List.length cs)))=false:=aA (show ¬(0:Int)<((cs.length:Nat):Int) by omega);have b4:aV false true (not (iQ (Int.ofNat (List.length cs)) (0:Int)))=false:=dH (ak (show((cs.length:Nat):Int)=0 by omega));have b5:both (iE (0:Int) (Int.ofNat (List.length (n.ax.map bM)))) (iE (Int.ofNat (List.length (n.ax.map bM))) (Int.ofNat (List.length ls)))=true:=pH (ak (show(0:Int)<=(((n.ax.map bM).length:Nat):Int) by omega)) (ak (show(((n.ax.map bM).length:Nat):Int)<=((ls.length:Nat):Int) by omega));have tk:(ls.take n.ax.length).length<=100000:=by rw[da];omega
     have hcb:Lh (List.take (Int.toNat (Int.ofNat (List.length (n.ax.map bM)))) ls,())=some (ls.take n.ax.length,()):=by rw[tn];exact ai (zM _ tk) rfl
     have f1':HK (List.drop (Int.toNat (Int.ofNat (List.length (n.ax.map bM)))) ls,(n.aa.map av,(((n.aa.map av).length:Int),((0:Int),(ls.take n.ax.length,([],()))))))=some (ls.take n.ax.length,(gY n (ls.drop n.ax.length) n.aa.length,())):=by rw[tn];exact f1
     have f2':GI (List.drop (Int.toNat (Int.ofNat (List.length (n.ax.map bM)))) ls,((0:Int),nt n ([]++List.take (Int.toNat (Int.ofNat (List.length (n.ax.map bM)))) ls,([],()))))=some (ls.take n.ax.length,(gY n (ls.drop n.ax.length) n.aa.length,())):=by rw[tn];exact f2
     have hroom:room 1 (List.length ([]++List.take (Int.toNat (Int.ofNat (List.length (n.ax.map bM)))) ls))=true:=by rw[tn];exact zM _ tk
     exact⟨af c1 (ag (dH (ak hc)) (af d1 (ag (aA h1) (ag b2 (ag b3 (ai b5 (af hcb (ai b5 (af f1' rfl))))))))),
      af c2 (ag (dH (ak hc)) (af d2 (ag (aA h1) (af d2 (ag b2 (ag b4 (ai b5 (ai hroom (ai b5 (af f2' rfl))))))))))⟩
    .rw[if_neg (fun q=>h3 q.2)];have b2:not (iQ (Int.ofNat (List.length ls)) (IntKind.wrap .i64 (((n.ax.map bM).length:Int)+dT n)))=false:=dH (ak (by rw[hw];exact h2));have b3:aV false true (iL (0:Int) (Int.ofNat (List.length cs)))=true:=ak (show(0:Int)<((cs.length:Nat):Int) by omega);have b4:aV false true (not (iQ (Int.ofNat (List.length cs)) (0:Int)))=true:=fZ (aA (show ¬((cs.length:Nat):Int)=0 by omega));exact⟨af c1 (ag (dH (ak hc)) (af d1 (ag (aA h1) (ag b2 (ao b3 rfl))))),
      af c2 (ag (dH (ak hc)) (af d2 (ag (aA h1) (af d2 (ag b2 (ao b4 rfl))))))⟩
   .rw[if_neg (fun q=>h2 q.1)];have b2:not (iQ (Int.ofNat (List.length ls)) (IntKind.wrap .i64 (((n.ax.map bM).length:Int)+dT n)))=true:=fZ (aA (by rw[hw];exact h2));exact⟨af c1 (ag (dH (ak hc)) (af d1 (ag (aA h1) (ao b2 rfl)))),
     af c2 (ag (dH (ak hc)) (af d2 (ag (aA h1) (af d2 (ao b2 rfl)))))⟩
 .rw[if_pos hc];exact⟨af c1 (ao (fZ (aA hc)) rfl),af c2 (ao (fZ (aA hc)) rfl)⟩
end
set_option maxRecDepth 10000
theorem Uo{n:aD}(h:Pl.dD n=0):∃V,cO n V/\dM n=0/\fh (bc n) V=true:=by
 unfold Pl.dD at h;by_cases h0:dM n≠0
 .rw[if_pos h0]at h;exact absurd h h0
 rw[if_neg h0]at h;have h0:dM n=0:=by omega
 obtain⟨V,hs⟩:=pS h0;refine⟨V,hs,h0,?_⟩;rw[hs.vars,Int.toNat_natCast]at h;by_cases q:fh (bc n) V=true
 .exact q
 .rw[if_neg q]at h;omega
