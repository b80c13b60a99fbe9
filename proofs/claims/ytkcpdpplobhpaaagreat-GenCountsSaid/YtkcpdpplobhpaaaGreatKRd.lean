import Derived.Test.YtkcpdpplobhpaaaGreatKRc
set_option linter.unusedVariables false
set_option linter.unusedSimpArgs false
set_option linter.unnecessarySimpa false
section
namespace Go.Proofs.YtkcpdpplobhpaaaGreat.V
open Go Go.RowKit
set_option maxRecDepth 1000000
abbrev OM:List Sh:=[ab]
abbrev vh:List Sh:=[(.int .i64)]
abbrev Du:=TL OM->Option (TL vh)
abbrev vk:=Kd 186 OM vh
def Ds(a0:Sh.T ab):Option (TL vh):=
 br (iE (10:Int) a0.1)
 (
  some ((1000:Int),()))
 (
  ah (iE (0:Int) a0.1)<|
  some ((IntKind.wrap .i64 (@HMul.hMul (Int) (Int) (Int) _ a0.2.1 (HPow.hPow (2:Int) (Min.min (Int.toNat a0.1) 64)))),()))
def abX  :vk:=⟨u1 Ds,pD Tryz.func186 11 k0 e0 1 (sS l0) fun d=>by kernel_rfl⟩
def Dt:vk:=abX
def Dh:Du:=Dt.F
abbrev OE:List Sh:=[ab]
abbrev C7:List Sh:=[(.int .i64)]
abbrev OO:=TL OE->Option (TL C7)
abbrev vi:=Kd 130 OE C7
def abN(a0:Sh.T ab):Option (TL C7):=some ((IntKind.wrap .i64 ((Int.ofNat (List.length a0.2.2.2.1))+(Int.ofNat (List.length a0.2.2.2.2.1)))),())
def abO  :vi:=⟨u1 abN,pD Tryz.func130 10 k0 e0 1 (sS l0) fun d=>by kernel_rfl⟩
def ON:vi:=abO
abbrev OZ:ae:={ T:=[(0,.agg ep),(1,.func 186 [] [])],h:=[],nx:=0 }
abbrev Di:List (Ev.Ex×ae):=[(.ret,{ T:=[(0,.int .i64)],h:=[],nx:=0 })]
abbrev Pc:=TL OZ.σs->Option (Out Di)
abbrev DF:=Kb 129 2 OZ 1 Di
abbrev qz:ae:={ T:=[(1,.func 186 [] []),(4,.int .i64),(8,.fz ab),(9,.int .i64),(10,.int .i64)],h:=[],nx:=0 }
abbrev qw:List (Ev.Ex×ae):=[((.exit 0),{ T:=[(4,.int .i64)],h:=[],nx:=0 })]
abbrev O6:=TL qz.σs->Option (Out qw)
abbrev Dy:=Ld 0 21 (aT [0] (aG Tryz.f129)) qz qw
def O4(F0:Du)(t4:Int)(t8:List (Sh.T ab))(t9 t10:Int):Option (TL qz.σs⊕Out qw):=
 br (iL t10 t9)
 (
  ah (ar t10 (List.length t8))<|
  ai (F0 (((gt ab t8 t10).1,((gt ab t8 t10).2.1,((gt ab t8 t10).2.2.1,((gt ab t8 t10).2.2.2.1,((gt ab t8 t10).2.2.2.2.1,()))))),())) fun x0=>
  some (.inl ((IntKind.wrap .i64 (@HAdd.hAdd (Int) (Int) (Int) _ t4 x0.1)),(t8,(t9,((IntKind.wrap .i64 (t10+(1:Int))),()))))))
 (
  some (.inr (t4,())))
def ab6(c0:vk) :Dy:=aU (u4 (O4 c0.F)) (pL (kD c0 k0) e0 1 l0 fun d=>by kernel_rfl)
def ab7:Dy:=ab6 Dt
def O5:O6:=aE (u4 (O4 Dh)) NN
def acm(F0:Du)(L2:O6)(t0_0:Int)(t0_1:List Int)(t0_2:List (Sh.T aa))(t0_3 t0_4 t0_5:List Int)(t0_6:List (Sh.T ab))(t0_7:List (Sh.T aa)):Option (Out Di):=
 ai (L2 ((0:Int),(t0_6,((Int.ofNat (List.length t0_6)),((0:Int),()))))) fun x0=>
 some (x0.1,())
def acn(c0:vk)(M2:Dy):DF:=⟨u8 (acm c0.F M2.L),pB Tryz.func129 21 (kD c0 k0) e0 1 (sS (sC M2 l0)) fun d=>by kernel_rfl⟩
def Pb:DF:=acn Dt ab7
def ab5:Pc:=Pb.F
abbrev O0:ae:={ T:=[(0,.agg ep),(1,.func 130 [] [])],h:=[],nx:=0 }
abbrev Dk:List (Ev.Ex×ae):=[(.ret,{ T:=[(0,.int .i64)],h:=[],nx:=0 })]
abbrev acr:=TL O0.σs->Option (Out Dk)
abbrev DG:=Kb 129 2 O0 1 Dk
abbrev Dj:ae:={ T:=[(1,.func 130 [] []),(4,.int .i64),(8,.fz ab),(9,.int .i64),(10,.int .i64)],h:=[],nx:=0 }
abbrev C8:List (Ev.Ex×ae):=[((.exit 0),{ T:=[(4,.int .i64)],h:=[],nx:=0 })]
abbrev acb:=TL Dj.σs->Option (Out C8)
abbrev Dz:=Ld 0 21 (aT [0] (aG Tryz.f129)) Dj C8
def ab8(F0:OO)(t4:Int)(t8:List (Sh.T ab))(t9 t10:Int):Option (TL Dj.σs⊕Out C8):=
 br (iL t10 t9)
 (
  ah (ar t10 (List.length t8))<|
  ai (F0 (((gt ab t8 t10).1,((gt ab t8 t10).2.1,((gt ab t8 t10).2.2.1,((gt ab t8 t10).2.2.2.1,((gt ab t8 t10).2.2.2.2.1,()))))),())) fun x0=>
  some (.inl ((IntKind.wrap .i64 (@HAdd.hAdd (Int) (Int) (Int) _ t4 x0.1)),(t8,(t9,((IntKind.wrap .i64 (t10+(1:Int))),()))))))
 (
  some (.inr (t4,())))
def ab9(c0:vi) :Dz:=aU (u4 (ab8 c0.F)) (pL (kD c0 k0) e0 1 l0 fun d=>by kernel_rfl)
def aca:Dz:=ab9 ON
def aco(F0:OO)(L2:acb)(t0_0:Int)(t0_1:List Int)(t0_2:List (Sh.T aa))(t0_3 t0_4 t0_5:List Int)(t0_6:List (Sh.T ab))(t0_7:List (Sh.T aa)):Option (Out Dk):=
 ai (L2 ((0:Int),(t0_6,((Int.ofNat (List.length t0_6)),((0:Int),()))))) fun x0=>
 some (x0.1,())
def acp(c0:vi)(M2:Dz):DG:=⟨u8 (aco c0.F M2.L),pB Tryz.func129 21 (kD c0 k0) e0 1 (sS (sC M2 l0)) fun d=>by kernel_rfl⟩
def acq:DG:=acp ON aca
abbrev O3:List Sh:=[ba]
abbrev vm:List Sh:=[(.int .i64)]
abbrev Pa:=TL O3->Option (TL vm)
abbrev DE:=Kd 114 O3 vm
def acj(F0:acr)(F1:Pc)(a0:Sh.T ba):Option (TL vm):=
 ai (F1 a0) fun x0=>
 some ((bO (iL (1000:Int) (IntKind.wrap .i64 (@HAdd.hAdd (Int) (Int) (Int) _ (Int.ofNat (List.length a0.2.2.1)) x0.1))) (1000:Int) (IntKind.wrap .i64 (@HAdd.hAdd (Int) (Int) (Int) _ (Int.ofNat (List.length a0.2.2.1)) x0.1))),())
def ack(c0:DG)(c1:DF) :DE:=⟨u1 (acj c0.F c1.F),pD Tryz.func114 12 (kB c0 (kB c1 k0)) e0 1 (sS l0) fun d=>by kernel_rfl⟩
def O9:DE:=ack acq Pb
def ab4:Pa:=O9.F
abbrev Oo:List Sh:=[ba]
abbrev va:List Sh:=[(.int .i64)]
abbrev n7:=TL Oo->Option (TL va)
abbrev mR:=Kd 52 Oo va
def abu(F0:Pa)(F1:nq)(a0:Sh.T ba):Option (TL va):=
 ai (F1 (a0,())) fun x0=>
 br (Bool.not (iQ x0.1 (0:Int)))
 (
  some ((0:Int),()))
 (
  ai (F0 (((0:Int),([],([],([],([],([],(a0.2.2.2.2.2.2.1,([],())))))))),())) fun x1=>
  some ((bO (iL (1000:Int) x1.1) (1000:Int) x1.1),()))
def abv(c0:DE)(c1:ma) :mR:=⟨u1 (abu c0.F c1.F),pD Tryz.func52 11 (kD c0 (kD c1 k0)) e0 1 (sS l0) fun d=>by kernel_rfl⟩
def n5:mR:=abv O9 ns
def abm:n7:=n5.F
abbrev vc:ae:={ T:=[(2,.int .u64),(9,.fz .bool),(10,.int .i64),(11,.int .i64)],h:=[],nx:=0 }
abbrev uY:List (Ev.Ex×ae):=[((.exit 0),{ T:=[(2,.int .u64)],h:=[],nx:=0 })]
abbrev OV:=TL vc.σs->Option (Out uY)
abbrev OU:=Ld 0 23 (aT [0] (aG Tryz.f76)) vc uY
def OT(t2:Int)(t9:List Bool)(t10 t11:Int):Option (TL vc.σs⊕Out uY):=
 br (iL t11 t10)
 (
  ah (ar t11 (List.length t9))<|
  br (gt .bool t9 t11)
  (
   ah (iE (0:Int) t11)<|
   some (.inl ((o7 .u64 t2 (IntKind.wrap .u64 ((1:Int)*(HPow.hPow (2:Int) (Min.min (Int.toNat t11) 64))))),(t9,(t10,((IntKind.wrap .i64 (t11+(1:Int))),()))))))
  (
   some (.inl (t2,(t9,(t10,((IntKind.wrap .i64 (t11+(1:Int))),())))))))
 (
  some (.inr (t2,())))
def abU  :OU:=aU (u4 OT) (pL k0 e0 1 l0 fun d=>by kernel_rfl)
def vj:OV:=aE (u4 OT) NN
abbrev OW:List Sh:=[(.sl .bool)]
abbrev Dq:List Sh:=[(.int .u64)]
abbrev mT:=TL OW->Option (TL Dq)
abbrev lJ:=Kd 76 OW Dq
def Dv(L2:OV)(a0:List Bool):Option (TL Dq):=
 ah (both (iE (0:Int) (bO (iL (64:Int) (Int.ofNat (List.length a0))) (64:Int) (Int.ofNat (List.length a0)))) (iE (bO (iL (64:Int) (Int.ofNat (List.length a0))) (64:Int) (Int.ofNat (List.length a0))) (Int.ofNat (List.length a0))))<|
 ai (L2 ((0:Int),((List.take (Int.toNat (bO (iL (64:Int) (Int.ofNat (List.length a0))) (64:Int) (Int.ofNat (List.length a0)))) a0),((Int.ofNat (List.length (List.take (Int.toNat (bO (iL (64:Int) (Int.ofNat (List.length a0))) (64:Int) (Int.ofNat (List.length a0)))) a0))),((0:Int),()))))) fun x0=>
 some (x0.1,())
def abY(M2:OU):lJ:=⟨u1 (Dv M2.L),pD Tryz.func76 23 k0 e0 1 (sS (sC M2 l0)) fun d=>by kernel_rfl⟩
def mS:lJ:=abY  abU
def qA:mT:=mS.F
abbrev Oh:ae:={ T:=[(0,.agg ep),(1,.agg [.fz .bool,.fz (.sl aq)])],h:=[],nx:=0 }
abbrev CP:List (Ev.Ex×ae):=[(.ret,{ T:=[(0,.agg [.hd 0 .bool,.nils]),(1,.int .i64)],h:=[(0,.arr .bool 4)],nx:=1 })]
abbrev qv:=TL Oh.σs->Option (Out CP)
abbrev n8:=Kb 29 2 Oh 2 CP
abbrev XR:ae:={ T:=[(2,.ptr 0 0),(3,.ptr 1 0),(4,.ptr 2 0),(7,.hd 3 .bool),(8,.int .i64)],h:=[(0,.cells ep 27),(1,.cells [.fz .bool,.fz (.sl aq)] 40),(2,.cells [.nils,.nils] 40),(3,.arr .bool 4)],nx:=4 }
abbrev XS:ae:={ T:=[(3,.ptr 0 0),(4,.ptr 1 0),(29,.fz ab),(30,.int .i64),(31,.int .i64)],h:=[(0,.cells [.fz .bool,.fz (.sl aq)] 40),(1,.cells [.hd 2 .bool,.nils] 40),(2,.arr .bool 4)],nx:=3 }
abbrev XT:List (Nat×LO):=[(0,.cells ep 27),(1,.cells [.nils,.nils] 40),(2,.cells [.hd 3 .bool,.hd 4 (.sl aq)] 40),(3,.arr .bool 4),(4,.arr (.sl aq) 104),(5,.arr aq 137)]
abbrev uT:ae:=XS
abbrev uP:List (Ev.Ex×ae):=[((.exit 0),{ T:=[(4,.ptr 0 0)],h:=[(0,.cells [.hd 1 .bool,.nils] 40),(1,.arr .bool 4)],nx:=2 })]
abbrev Ou:=TL uT.σs->Option (Out uP)
abbrev CZ:=Ld 0 70 (aT [0] (aG Tryz.f29)) uT uP
abbrev uO:ae:={ T:=[(3,.ptr 0 0),(4,.ptr 1 0),(8,.ptr 3 0),(11,.func 75 [.ptr 4 0] []),(29,.fz ab),(30,.int .i64),(31,.int .i64),(53,.int .u64),(54,.int .u64)],h:=[(0,.cells [.fz .bool,.fz (.sl aq)] 40),(1,.cells [.hd 2 .bool,.nils] 40),(2,.arr .bool 4),(3,.cells [.int .i64,.int .i64,.bool,.fz bJ,.fz bj] 116),(4,.cells [.int .i64,.int .i64,.mp 5] 220),(5,.map .u64 (.int .u64))],nx:=6 }
abbrev uK:List (Ev.Ex×ae):=[((.exit 2),XS)]
abbrev CS:=TL uO.σs->Option (Out uK)
abbrev uW:=Ld 0 70 (aT [0,0] (aG Tryz.f29)) uO uK
def Of(F0:kU)(F3:rX)(t29:List (Sh.T ab))(t30 t31 t53 t54:Int)(b0_0:List Bool)(b0_1:List (List (Sh.T aq)))(b2:List Bool)(b3_0 b3_1:Int)(b3_2:Bool)(b3_3:List (Sh.T bJ))(b3_4:List (Sh.T bj))(b4_0 b4_1:Int)(b5:List (Sh.T aq)):Option (TL uO.σs⊕Out uK):=
 br (iL t54 t53)
 (
  ai (F3 (t54,(b4_0,(b4_1,(b5,()))))) fun x0=>
  ah (iQ b3_1 b3_1)<|
  ai (F0 (x0.1,(b3_1,()))) fun x1=>
  ah (room 1 (List.length (ap b2 x1.1)))<|
  some (.inl (t29,(t30,(t31,(t53,((IntKind.wrap .u64 (t54+(1:Int))),(b0_0,(b0_1,((ap b2 x1.1),(b3_0,(b3_1,(b3_2,(b3_3,(b3_4,x0.2)))))))))))))))
 (
  some (.inr (t29,(t30,(t31,(b0_0,(b0_1,(b2,()))))))))
def abh(c0:ke)(c3:oX) :uW:=aU (u16 (Of c0.F c3.F)) (pL (kD c0 (kB c3 k0)) e0 1 l0 fun d=>by kernel_rfl)
def Og:uW:=abh kV rY
def qo:CS:=aE (u16 (Of jw pS)) NN
def Oq(F4:rV)(L13:CS)(t29:List (Sh.T ab))(t30 t31:Int)(b0_0:List Bool)(b0_1:List (List (Sh.T aq)))(b2:List Bool):Option (TL uT.σs⊕Out uP):=
 br (iL t31 t30)
 (
  ah (ar t31 (List.length t29))<|
  ah (ar t31 (List.length b0_1))<|
  ai (F4 ((gt ab t29 t31).1,((gt ab t29 t31).2.1,((gt (.sl aq) b0_1 t31),())))) fun x0=>
  (match x0 with
  |.inl x1=>
   ah (iE (0:Int) (gt ab t29 t31).1)<|
   none
  |.inr x1=>
   ah (iE (0:Int) (gt ab t29 t31).1)<|
   ai (L13 (t29,(t30,(t31,((IntKind.wrap .u64 ((1:Int)*(HPow.hPow (2:Int) (Min.min (Int.toNat (gt ab t29 t31).1) 64)))),((0:Int),(b0_0,(b0_1,(b2,((gt ab t29 t31).1,((gt ab t29 t31).2.1,((gt ab t29 t31).2.2.1,((gt ab t29 t31).2.2.2.1,((gt ab t29 t31).2.2.2.2.1,x1.2)))))))))))))) fun x2=>
   some (.inl (x2.1,(x2.2.1,((IntKind.wrap .i64 (@HAdd.hAdd (Int) (Int) (Int) _ x2.2.2.1 (1:Int))),x2.2.2.2))))
  ))
 (
  some (.inr (b2,())))
def abn(c4:oV)(M13:uW):CZ:=aU (u6 (Oq c4.F M13.L)) (pL (kB c4 k0) e0 1 (sC M13 l0) fun d=>by kernel_rfl)
def abo:CZ:=abn rW Og
def Ot:Ou:=aE (u6 (Oq th qo)) NN
def abw(F0:kU)(F1:n7)(F2:Iy)(F3:rX)(F4:rV)(F5:oS)(F6:oP)(L8:Ou)(L13:CS)(t0_0:Int)(t0_1:List Int)(t0_2:List (Sh.T aa))(t0_3 t0_4 t0_5:List Int)(t0_6:List (Sh.T ab))(t0_7:List (Sh.T aa))(t1_0:List Bool)(t1_1:List (List (Sh.T aq))):Option (Out CP):=
 ai (F2 ((t0_0,(t0_1,(t0_2,(t0_3,(t0_4,(t0_5,(t0_6,(t0_7,())))))))),((t1_0,(t1_1,())),()))) fun x0=>
 br (Bool.not (iQ x0.1 (0:Int)))
 (
  some (x0.1,([],())))
 (
  ai (F1 ((t0_0,(t0_1,(t0_2,(t0_3,(t0_4,(t0_5,(t0_6,(t0_7,())))))))),())) fun x1=>
  br (iL (64:Int) x1.1)
  (
   some ((17:Int),([],())))
  (
   ai (F6 (t1_0,())) fun x2=>
   ai (L8 (t0_6,((Int.ofNat (List.length t0_6)),((0:Int),(t1_0,(t1_1,(x2.1,()))))))) fun x3=>
   some ((0:Int),(x3.1,()))))
def abx(c0:ke)(c1:mR)(c2:yH)(c3:oX)(c4:oV)(c5:oU)(c6:oQ)(M8:CZ)(M13:uW):n8:=⟨gG (abw c0.F c1.F c2.F c3.F c4.F c5.F c6.F M8.L M13.L),pB Tryz.func29 70 (kD c0 (kD c1 (kD c2 (kB c3 (kB c4 (kB c5 (kB c6 k0))))))) e0 1 (sS (sC M8 l0)) fun d=>by kernel_rfl⟩
def qu:n8:=abx kV n5 Iz rY rW oT nh abo Og
def vb:qv:=qu.F
abbrev uR:ae:={ T:=[(4,.ptr 0 0),(8,.fz .bool),(58,.fz ab),(59,.int .i64),(60,.int .i64)],h:=[(0,.cells [.hd 1 .bool,.hd 2 (.sl aq)] 40),(1,.arr .bool 4),(2,.arr (.sl aq) 104)],nx:=3 }
abbrev uM:List (Ev.Ex×ae):=[((.exit 1),{ T:=[(4,.ptr 0 0)],h:=[(0,.cells [.hd 1 .bool,.hd 2 (.sl aq)] 40),(1,.arr .bool 4),(2,.arr (.sl aq) 104)],nx:=3 })]
abbrev On:=TL uR.σs->Option (Out uM)
abbrev CW:=Ld 0 96 (aT [0] (aG Tryz.f30)) uR uM
abbrev uS:ae:={ T:=[(4,.ptr 0 0),(8,.fz .bool),(10,.ptr 3 0),(11,.hd 4 aq),(58,.fz ab),(59,.int .i64),(60,.int .i64),(66,.int .u64),(67,.int .u64)],h:=[(0,.cells [.hd 1 .bool,.hd 2 (.sl aq)] 40),(1,.arr .bool 4),(2,.arr (.sl aq) 104),(3,.cells [.int .i64,.int .i64,.bool,.fz bJ,.fz bj] 116),(4,.arr aq 137)],nx:=5 }
abbrev uN:List (Ev.Ex×ae):=[((.exit 3),{ T:=[(4,.ptr 0 0),(8,.fz .bool),(11,.hd 3 aq),(58,.fz ab),(59,.int .i64),(60,.int .i64)],h:=[(0,.cells [.hd 1 .bool,.hd 2 (.sl aq)] 40),(1,.arr .bool 4),(2,.arr (.sl aq) 104),(3,.arr aq 137)],nx:=4 })]
abbrev CY:=TL uS.σs->Option (Out uN)
abbrev uZ:=Ld 0 96 (aT [0,0] (aG Tryz.f30)) uS uN
def Ol(F0:mT)(t8:List Bool)(t58:List (Sh.T ab))(t59 t60 t66 t67:Int)(b1:List Bool)(b2:List (List (Sh.T aq)))(b3_0 b3_1:Int)(b3_2:Bool)(b3_3:List (Sh.T bJ))(b3_4:List (Sh.T bj))(b4:List (Sh.T aq)):Option (TL uS.σs⊕Out uN):=
 br (iL t67 t66)
 (
  ah (both (iE (0:Int) b3_1) (iE b3_1 (Int.ofNat (List.length t8))))<|
  ai (F0 ((List.take (Int.toNat b3_1) t8),())) fun x0=>
  br (Bool.not (iQ x0.1 (0:Int)))
  (
   ah (room 16 (List.length (ap b4 ((t67,(x0.1,()))::[]))))<|
   ah (both (iE (0:Int) b3_1) (iE b3_1 (Int.ofNat (List.length t8))))<|
   some (.inl ((List.drop (Int.toNat b3_1) t8),(t58,(t59,(t60,(t66,((IntKind.wrap .u64 (t67+(1:Int))),(b1,(b2,(b3_0,(b3_1,(b3_2,(b3_3,(b3_4,((ap b4 ((t67,(x0.1,()))::[])),()))))))))))))))))
  (
   ah (both (iE (0:Int) b3_1) (iE b3_1 (Int.ofNat (List.length t8))))<|
   some (.inl ((List.drop (Int.toNat b3_1) t8),(t58,(t59,(t60,(t66,((IntKind.wrap .u64 (t67+(1:Int))),(b1,(b2,(b3_0,(b3_1,(b3_2,(b3_3,(b3_4,(b4,())))))))))))))))))
 (
  some (.inr (t8,(t58,(t59,(t60,(b1,(b2,(b4,())))))))))
def abk(c0:lJ) :uZ:=aU (eJ (Ol c0.F)) (pL (kD c0 k0) e0 1 l0 fun d=>by kernel_rfl)
def Om:uZ:=abk mS
def qq:CY:=aE (eJ (Ol qA)) NN
def Ok(L16:CY)(t8:List Bool)(t58:List (Sh.T ab))(t59 t60:Int)(b1:List Bool)(b2:List (List (Sh.T aq))):Option (TL uR.σs⊕Out uM):=
 br (iL t60 t59)
 (
  ah (ar t60 (List.length t58))<|
  ah (iE (0:Int) (gt ab t58 t60).1)<|
  ai (L16 (t8,(t58,(t59,(t60,((IntKind.wrap .u64 ((1:Int)*(HPow.hPow (2:Int) (Min.min (Int.toNat (gt ab t58 t60).1) 64)))),((0:Int),(b1,(b2,((gt ab t58 t60).1,((gt ab t58 t60).2.1,((gt ab t58 t60).2.2.1,((gt ab t58 t60).2.2.2.1,((gt ab t58 t60).2.2.2.2.1,([],()))))))))))))))) fun x0=>
  ah (room 24 (List.length (ap x0.2.2.2.2.2.1 (x0.2.2.2.2.2.2.1::[]))))<|
  some (.inl (x0.1,(x0.2.1,(x0.2.2.1,((IntKind.wrap .i64 (@HAdd.hAdd (Int) (Int) (Int) _ x0.2.2.2.1 (1:Int))),(x0.2.2.2.2.1,((ap x0.2.2.2.2.2.1 (x0.2.2.2.2.2.2.1::[])),()))))))))
 (
  some (.inr (b1,(b2,()))))
def abj(M16:uZ):CW:=aU (u6 (Ok M16.L)) (pL k0 e0 1 (sC M16 l0) fun d=>by kernel_rfl)
def abl:CW:=abj  Om
def CX:On:=aE (u6 (Ok qq)) NN
abbrev OB:List Sh:=[ba,bZ]
abbrev C3:List Sh:=[bZ,(.int .i64)]
abbrev qy:=TL OB->Option (TL C3)
abbrev n9:=Kd 30 OB C3
def abJ(F0:mT)(F1:n7)(F2:nq)(F3:oS)(F4:oP)(L12:On)(L16:CY)(a0:Sh.T ba)(a1:Sh.T bZ):Option (TL C3):=
 ai (F2 (a0,())) fun x0=>
 br (Bool.not (iQ x0.1 (0:Int)))
 (
  some (([],([],())),(x0.1,())))
 (
  ai (F1 (a0,())) fun x1=>
  br (iL (64:Int) x1.1)
  (
   some (([],([],())),((17:Int),())))
  (
   br (Bool.not (iQ (Int.ofNat (List.length a1.1)) (IntKind.wrap .i64 (@HAdd.hAdd (Int) (Int) (Int) _ (Int.ofNat (List.length a0.2.2.1)) x1.1))))
   (
    some (([],([],())),((14:Int),())))
   (
    br (aR false true (iL (0:Int) (Int.ofNat (List.length a1.2.1))))
    (
     some (([],([],())),((14:Int),())))
    (
     ah (both (iE (0:Int) (Int.ofNat (List.length a0.2.2.1))) (iE (Int.ofNat (List.length a0.2.2.1)) (Int.ofNat (List.length a1.1))))<|
     ai (F4 ((List.take (Int.toNat (Int.ofNat (List.length a0.2.2.1))) a1.1),())) fun x2=>
     ah (both (iE (0:Int) (Int.ofNat (List.length a0.2.2.1))) (iE (Int.ofNat (List.length a0.2.2.1)) (Int.ofNat (List.length a1.1))))<|
     ai (L12 ((List.drop (Int.toNat (Int.ofNat (List.length a0.2.2.1))) a1.1),(a0.2.2.2.2.2.2.1,((Int.ofNat (List.length a0.2.2.2.2.2.2.1)),((0:Int),(x2.1,([],()))))))) fun x3=>
     some (x3,((0:Int),()))))))
def abK(c0:lJ)(c1:mR)(c2:ma)(c3:oU)(c4:oQ)(M12:CW)(M16:uZ):n9:=⟨u2 (abJ c0.F c1.F c2.F c3.F c4.F M12.L M16.L),pD Tryz.func30 96 (kD c0 (kD c1 (kD c2 (kB c3 (kB c4 k0))))) e0 1 (sS (sC M12 l0)) fun d=>by kernel_rfl⟩
def qx:n9:=abK mS n5 ns oT nh abl Om
def vd:qy:=qx.F
abbrev ug:ae:={ T:=[(1,.ptr 0 0),(3,.int .i64),(4,.int .i64)],h:=[(0,.cells ep 27)],nx:=1 }
abbrev ub:List (Ev.Ex×ae):=[((.exit 0),{ T:=[(3,.int .i64)],h:=[],nx:=0 })]
abbrev MU:=TL ug.σs->Option (Out ub)
abbrev BU:=Ld 0 44 (aT [0] (aG Tryz.f55)) ug ub
abbrev n0:ae:={ T:=[(1,.ptr 0 0),(3,.int .i64),(4,.int .i64),(5,.int .i64),(6,.int .i64)],h:=[(0,.cells ep 27)],nx:=1 }
abbrev qi:List (Ev.Ex×ae):=[((.exit 2),{ T:=[(1,.ptr 0 0),(3,.int .i64),(4,.int .i64),(5,.int .i64)],h:=[(0,.cells ep 27)],nx:=1 })]
abbrev BX:=TL n0.σs->Option (Out qi)
abbrev BV:=Ld 0 44 (aT [0,0] (aG Tryz.f55)) n0 qi
def BT(t3 t4 t5 t6 b0_0:Int)(b0_1:List Int)(b0_2:List (Sh.T aa))(b0_3 b0_4 b0_5:List Int)(b0_6:List (Sh.T ab))(b0_7:List (Sh.T aa)):Option (TL n0.σs⊕Out qi):=
 ah (ar t4 (List.length b0_6))<|
 br (iL t6 (gt ab b0_6 t4).1)
 (
  br (aR true (iL t5 (1000:Int)) false)
  (
   some (.inl (t3,(t4,((IntKind.wrap .i64 ((2:Int)*t5)),((IntKind.wrap .i64 (t6+(1:Int))),(b0_0,(b0_1,(b0_2,(b0_3,(b0_4,(b0_5,(b0_6,(b0_7,()))))))))))))))
  (
   some (.inr (t3,(t4,(t5,(b0_0,(b0_1,(b0_2,(b0_3,(b0_4,(b0_5,(b0_6,(b0_7,()))))))))))))))
 (
  some (.inr (t3,(t4,(t5,(b0_0,(b0_1,(b0_2,(b0_3,(b0_4,(b0_5,(b0_6,(b0_7,())))))))))))))
def MT  :BV:=aU (eI BT) (pL k0 e0 1 l0 fun d=>by kernel_rfl)
def BW:BX:=aE (eI BT) NN
def MR(L9:BX)(t3 t4 b0_0:Int)(b0_1:List Int)(b0_2:List (Sh.T aa))(b0_3 b0_4 b0_5:List Int)(b0_6:List (Sh.T ab))(b0_7:List (Sh.T aa)):Option (TL ug.σs⊕Out ub):=
 br (iL t4 (Int.ofNat (List.length b0_6)))
 (
  ah (ar t4 (List.length b0_6))<|
  ai (L9 (t3,(t4,((gt ab b0_6 t4).2.1,((0:Int),(b0_0,(b0_1,(b0_2,(b0_3,(b0_4,(b0_5,(b0_6,(b0_7,()))))))))))))) fun x0=>
  some (.inl ((IntKind.wrap .i64 (@HAdd.hAdd (Int) (Int) (Int) _ x0.1 x0.2.2.1)),((IntKind.wrap .i64 (@HAdd.hAdd (Int) (Int) (Int) _ x0.2.1 (1:Int))),x0.2.2.2))))
 (
  some (.inr (t3,())))
def Z2(M9:BV):BU:=aU (gG (MR M9.L)) (pL k0 e0 1 (sC M9 l0) fun d=>by kernel_rfl)
def Z3:BU:=Z2  MT
def MS:MU:=aE (gG (MR BW)) NN
abbrev MV:List Sh:=[ba]
abbrev uu:List Sh:=[(.int .i64)]
abbrev uA:=TL MV->Option (TL uu)
abbrev qm:=Kd 55 MV uu
def aad(F0:rK)(L5:MU)(L9:BX)(a0:Sh.T ba):Option (TL uu):=
 ai (F0 (a0,())) fun x0=>
 br (Bool.not (iQ x0.1 (0:Int)))
 (
  some ((0:Int),()))
 (
  ai (L5 ((0:Int),((0:Int),a0))) fun x1=>
  some ((bO (iL (1000:Int) x1.1) (1000:Int) x1.1),()))
def aae(c0:oO)(M5:BU)(M9:BV):qm:=⟨u1 (aad c0.F M5.L M9.L),pD Tryz.func55 44 (kD c0 k0) e0 1 (sS (sC M5 l0)) fun d=>by kernel_rfl⟩
def uz:qm:=aae rL Z3 MT
def Z1:uA:=uz.F
abbrev uh:ae:=XR
abbrev ud:List (Ev.Ex×ae):=[((.exit 0),{ T:=[(4,.ptr 0 0),(7,.hd 1 .bool)],h:=[(0,.cells [.nils,.nils] 40),(1,.arr .bool 4)],nx:=2 })]
abbrev MY:=TL uh.σs->Option (Out ud)
abbrev BZ:=Ld 0 60 (aT [0] (aG Tryz.f120)) uh ud
abbrev uc:ae:={ T:=[(2,.ptr 0 0),(3,.ptr 1 0),(4,.ptr 2 0),(7,.hd 3 .bool),(8,.int .i64),(9,.int .u64)],h:=[(0,.cells ep 27),(1,.cells [.fz .bool,.fz (.sl aq)] 40),(2,.cells [.nils,.nils] 40),(3,.arr .bool 4)],nx:=4 }
abbrev tX:List (Ev.Ex×ae):=[((.exit 2),XR)]
abbrev BI:=TL uc.σs->Option (Out tX)
abbrev um:=Ld 0 60 (aT [0,0] (aG Tryz.f120)) uc tX
def MJ(F0:Hx)(F1:H4)(F2:ni)(t8 t9 b0_0:Int)(b0_1:List Int)(b0_2:List (Sh.T aa))(b0_3 b0_4 b0_5:List Int)(b0_6:List (Sh.T ab))(b0_7:List (Sh.T aa))(b1_0:List Bool)(b1_1:List (List (Sh.T aq)))(b3:List Bool):Option (TL uc.σs⊕Out tX):=
 ah (ar t8 (List.length b0_6))<|
 ai (F2 (t9,((gt ab b0_6 t8).1,()))) fun x0=>
 br x0.1
 (
  ah (ar t8 (List.length b1_1))<|
  ah (ar t8 (List.length b0_6))<|
  ai (F1 ((gt (.sl aq) b1_1 t8),(t9,()))) fun x1=>
  ai (F0 (x1.1,((gt ab b0_6 t8).2.1,()))) fun x2=>
  ah (room 1 (List.length (ap b3 x2.1)))<|
  some (.inl (t8,((IntKind.wrap .u64 (t9+(1:Int))),(b0_0,(b0_1,(b0_2,(b0_3,(b0_4,(b0_5,(b0_6,(b0_7,(b1_0,(b1_1,((ap b3 x2.1),())))))))))))))))
 (
  some (.inr (t8,(b0_0,(b0_1,(b0_2,(b0_3,(b0_4,(b0_5,(b0_6,(b0_7,(b1_0,(b1_1,(b3,()))))))))))))))
def ZW(c0:yh)(c1:yn)(c2:l8) :um:=aU (fC (MJ c0.F c1.F c2.F)) (pL (kD c0 (kD c1 (kD c2 k0))) e0 1 l0 fun d=>by kernel_rfl)
def MK:um:=ZW Hy H5 nj
def BH:BI:=aE (fC (MJ GF GK nH)) NN
def MW(L11:BI)(t8 b0_0:Int)(b0_1:List Int)(b0_2:List (Sh.T aa))(b0_3 b0_4 b0_5:List Int)(b0_6:List (Sh.T ab))(b0_7:List (Sh.T aa))(b1_0:List Bool)(b1_1:List (List (Sh.T aq)))(b3:List Bool):Option (TL uh.σs⊕Out ud):=
 br (iL t8 (Int.ofNat (List.length b0_6)))
 (
  ai (L11 (t8,((0:Int),(b0_0,(b0_1,(b0_2,(b0_3,(b0_4,(b0_5,(b0_6,(b0_7,(b1_0,(b1_1,(b3,())))))))))))))) fun x0=>
  some (.inl ((IntKind.wrap .i64 (@HAdd.hAdd (Int) (Int) (Int) _ x0.1 (1:Int))),x0.2)))
 (
  some (.inr (b3,())))
def Z5(M11:um):BZ:=aU (eI (MW M11.L)) (pL k0 e0 1 (sC M11 l0) fun d=>by kernel_rfl)
def Z6:BZ:=Z5  MK
def MX:MY:=aE (eI (MW BH)) NN
abbrev MZ:List Sh:=[ba,bZ]
abbrev B0:List Sh:=[bZ,(.int .i64)]
abbrev aai:=TL MZ->Option (TL B0)
abbrev Nn:=Kd 120 MZ B0
def aaf(F0:Hx)(F1:H4)(F2:ni)(F3:uA)(F4:Gz)(L8:MY)(L11:BI)(a0:Sh.T ba)(a1:Sh.T bZ):Option (TL B0):=
 ai (F4 (a0,(a1,()))) fun x0=>
 br (Bool.not (iQ x0.1 (0:Int)))
 (
  some (([],([],())),(x0.1,())))
 (
  ai (F3 (a0,())) fun x1=>
  br (iL (64:Int) x1.1)
  (
   some (([],([],())),((17:Int),())))
  (
   ah (room 1 (List.length (ap [] a1.1)))<|
   ai (L8 ((0:Int),(a0.1,(a0.2.1,(a0.2.2.1,(a0.2.2.2.1,(a0.2.2.2.2.1,(a0.2.2.2.2.2.1,(a0.2.2.2.2.2.2.1,(a0.2.2.2.2.2.2.2.1,(a1.1,(a1.2.1,((ap [] a1.1),()))))))))))))) fun x2=>
   some ((x2.1,([],())),((0:Int),()))))
def aag(c0:yh)(c1:yn)(c2:l8)(c3:qm)(c4:xq)(M8:BZ)(M11:um):Nn:=⟨u2 (aaf c0.F c1.F c2.F c3.F c4.F M8.L M11.L),pD Tryz.func120 60 (kD c0 (kD c1 (kD c2 (kD c3 (kD c4 k0))))) e0 1 (sS (sC M8 l0)) fun d=>by kernel_rfl⟩
def aah:Nn:=aag Hy H5 nj uz GA Z6 MK
def Z4:aai:=aah.F
abbrev ue:ae:={ T:=[(2,.ptr 0 0),(4,.ptr 1 0),(7,.ptr 2 0),(8,.fz .bool),(9,.int .i64)],h:=[(0,.cells ep 27),(1,.cells [.nils,.nils] 40),(2,.cells [.hd 3 .bool,.hd 4 (.sl aq)] 40),(3,.arr .bool 4),(4,.arr (.sl aq) 104)],nx:=5 }
abbrev tY:List (Ev.Ex×ae):=[((.exit 0),{ T:=[(4,.ptr 0 0),(7,.ptr 1 0)],h:=[(0,.cells [.nils,.nils] 40),(1,.cells [.hd 2 .bool,.hd 3 (.sl aq)] 40),(2,.arr .bool 4),(3,.arr (.sl aq) 104)],nx:=4 })]
abbrev MQ:=TL ue.σs->Option (Out tY)
abbrev BP:=Ld 0 104 (aT [0] (aG Tryz.f115)) ue tY
abbrev uf:ae:={ T:=[(2,.ptr 0 0),(4,.ptr 1 0),(7,.ptr 2 0),(8,.fz .bool),(9,.int .i64),(10,.hd 5 aq),(11,.int .u64)],h:=XT,nx:=6 }
abbrev tZ:List (Ev.Ex×ae):=[((.exit 2),{ T:=[(2,.ptr 0 0),(4,.ptr 1 0),(7,.ptr 2 0),(8,.fz .bool),(9,.int .i64),(10,.hd 5 aq)],h:=XT,nx:=6 })]
abbrev BS:=TL uf.σs->Option (Out tZ)
abbrev ur:=Ld 0 104 (aT [0,0] (aG Tryz.f115)) uf tZ
def MO(F0:Iq)(F1:ni)(t8:List Bool)(t9 t11 b0_0:Int)(b0_1:List Int)(b0_2:List (Sh.T aa))(b0_3 b0_4 b0_5:List Int)(b0_6:List (Sh.T ab))(b0_7:List (Sh.T aa))(b3:List Bool)(b4:List (List (Sh.T aq)))(b5:List (Sh.T aq)):Option (TL uf.σs⊕Out tZ):=
 ah (ar t9 (List.length b0_6))<|
 ai (F1 (t11,((gt ab b0_6 t9).1,()))) fun x0=>
 br x0.1
 (
  ah (ar t9 (List.length b0_6))<|
  ah (both (iE (0:Int) (gt ab b0_6 t9).2.1) (iE (gt ab b0_6 t9).2.1 (Int.ofNat (List.length t8))))<|
  ai (F0 ((List.take (Int.toNat (gt ab b0_6 t9).2.1) t8),())) fun x1=>
  ah (ar t9 (List.length b0_6))<|
  ah (both (iE (0:Int) (gt ab b0_6 t9).2.1) (iE (gt ab b0_6 t9).2.1 (Int.ofNat (List.length t8))))<|
  br (Bool.not (iQ x1.1 (0:Int)))
  (
   ah (room 16 (List.length (ap b5 ((t11,(x1.1,()))::[]))))<|
   some (.inl ((List.drop (Int.toNat (gt ab b0_6 t9).2.1) t8),(t9,((IntKind.wrap .u64 (t11+(1:Int))),(b0_0,(b0_1,(b0_2,(b0_3,(b0_4,(b0_5,(b0_6,(b0_7,(b3,(b4,((ap b5 ((t11,(x1.1,()))::[])),()))))))))))))))))
  (
   some (.inl ((List.drop (Int.toNat (gt ab b0_6 t9).2.1) t8),(t9,((IntKind.wrap .u64 (t11+(1:Int))),(b0_0,(b0_1,(b0_2,(b0_3,(b0_4,(b0_5,(b0_6,(b0_7,(b3,(b4,(b5,())))))))))))))))))
 (
  some (.inr (t8,(t9,(b0_0,(b0_1,(b0_2,(b0_3,(b0_4,(b0_5,(b0_6,(b0_7,(b3,(b4,(b5,())))))))))))))))
def ZZ(c0:yv)(c1:l8) :ur:=aU (eJ (MO c0.F c1.F)) (pL (kD c0 (kD c1 k0)) e0 1 l0 fun d=>by kernel_rfl)
def MP:ur:=ZZ Ir nj
def BR:BS:=aE (eJ (MO Io nH)) NN
def MN(L15:BS)(t8:List Bool)(t9 b0_0:Int)(b0_1:List Int)(b0_2:List (Sh.T aa))(b0_3 b0_4 b0_5:List Int)(b0_6:List (Sh.T ab))(b0_7:List (Sh.T aa))(b3:List Bool)(b4:List (List (Sh.T aq))):Option (TL ue.σs⊕Out tY):=
 br (iL t9 (Int.ofNat (List.length b0_6)))
 (
  ai (L15 (t8,(t9,((0:Int),(b0_0,(b0_1,(b0_2,(b0_3,(b0_4,(b0_5,(b0_6,(b0_7,(b3,(b4,([],()))))))))))))))) fun x0=>
  ah (room 24 (List.length (ap x0.2.2.2.2.2.2.2.2.2.2.2.1 (x0.2.2.2.2.2.2.2.2.2.2.2.2.1::[]))))<|
  some (.inl (x0.1,((IntKind.wrap .i64 (@HAdd.hAdd (Int) (Int) (Int) _ x0.2.1 (1:Int))),(x0.2.2.1,(x0.2.2.2.1,(x0.2.2.2.2.1,(x0.2.2.2.2.2.1,(x0.2.2.2.2.2.2.1,(x0.2.2.2.2.2.2.2.1,(x0.2.2.2.2.2.2.2.2.1,(x0.2.2.2.2.2.2.2.2.2.1,(x0.2.2.2.2.2.2.2.2.2.2.1,((ap x0.2.2.2.2.2.2.2.2.2.2.2.1 (x0.2.2.2.2.2.2.2.2.2.2.2.2.1::[])),()))))))))))))))
 (
  some (.inr (b3,(b4,()))))
def ZY(M15:ur):BP:=aU (eI (MN M15.L)) (pL k0 e0 1 (sC M15 l0) fun d=>by kernel_rfl)
def Z0:BP:=ZY  MP
def BQ:MQ:=aE (eI (MN BR)) NN
abbrev Nm:List Sh:=[ba,bZ]
abbrev Cg:List Sh:=[bZ,(.int .i64)]
abbrev aav:=TL Nm->Option (TL Cg)
abbrev NB:=Kd 115 Nm Cg
def aas(F0:Iq)(F1:ni)(F2:uA)(F3:rK)(L11:MQ)(L15:BS)(a0:Sh.T ba)(a1:Sh.T bZ):Option (TL Cg):=
 ai (F3 (a0,())) fun x0=>
 br (Bool.not (iQ x0.1 (0:Int)))
 (
  some (([],([],())),(x0.1,())))
 (
  ai (F2 (a0,())) fun x1=>
  br (iL (64:Int) x1.1)
  (
   some (([],([],())),((17:Int),())))
  (
   ai (F2 (a0,())) fun x2=>
   br (Bool.not (iQ (Int.ofNat (List.length a1.1)) (IntKind.wrap .i64 (@HAdd.hAdd (Int) (Int) (Int) _ (Int.ofNat (List.length a0.2.2.1)) x2.1))))
   (
    some (([],([],())),((14:Int),())))
   (
    br (aR false true (Bool.not (iQ (Int.ofNat (List.length a1.2.1)) (0:Int))))
    (
     some (([],([],())),((14:Int),())))
    (
     ah (both (iE (0:Int) (Int.ofNat (List.length a0.2.2.1))) (iE (Int.ofNat (List.length a0.2.2.1)) (Int.ofNat (List.length a1.1))))<|
     ah (room 1 (List.length (ap [] (List.take (Int.toNat (Int.ofNat (List.length a0.2.2.1))) a1.1))))<|
     ah (both (iE (0:Int) (Int.ofNat (List.length a0.2.2.1))) (iE (Int.ofNat (List.length a0.2.2.1)) (Int.ofNat (List.length a1.1))))<|
     ai (L11 ((List.drop (Int.toNat (Int.ofNat (List.length a0.2.2.1))) a1.1),((0:Int),(a0.1,(a0.2.1,(a0.2.2.1,(a0.2.2.2.1,(a0.2.2.2.2.1,(a0.2.2.2.2.2.1,(a0.2.2.2.2.2.2.1,(a0.2.2.2.2.2.2.2.1,((ap [] (List.take (Int.toNat (Int.ofNat (List.length a0.2.2.1))) a1.1)),([],()))))))))))))) fun x3=>
     some (x3,((0:Int),()))))))
def aat(c0:yv)(c1:l8)(c2:qm)(c3:oO)(M11:BP)(M15:ur):NB:=⟨u2 (aas c0.F c1.F c2.F c3.F M11.L M15.L),pD Tryz.func115 104 (kD c0 (kD c1 (kD c2 (kD c3 k0)))) e0 1 (sS (sC M11 l0)) fun d=>by kernel_rfl⟩
def aau:NB:=aat Ir nj uz rL Z0 MP
def Nl:aav:=aau.F
open Go.Proofs.YtkcpdpplobhpaaaGreat.Pl
def fK(x:Int):Int:=if 1000<x then 1000 else x
def tP(m:aX):Int:=if 10<=m.addr then 1000 else m.word*2^m.addr.toNat
def cz(w:Int):Nat->Int
 |0=>w|k+1=>if cz w k<1000 then 2*cz w k else cz w k
def cT(l:List aX):Int:=l.foldl (fun a m=>a+tP m) 0
def i7(l:List aX):Int:=l.foldl (fun a m=>a+cz m.word m.addr.toNat) 0
def nf(t u:Int):Prop:=t=u\/(1000<=t/\1000<=u)
theorem ac7{t u:Int}(h:nf t u):fK t=fK u:=by
 unfold fK;rcases h with rfl|⟨h1,h2⟩
 .rfl
 .split<;>split<;>omega
theorem adJ(k:Nat):(1:Int)<=2^k:=by have:=Int.pow_pos (n:=(2:Int)) (m:=k) (by decide);omega
theorem vA{w a b:Int}(hw:0<=w)(h:a<=b):w*a<=w*b:=Int.mul_le_mul_of_nonneg_left h hw
theorem aek{w:Int}(hw:1<=w):∀k,cz w k=w*2^k\/(1000<=cz w k/\1000<=w*2^k):=by
 intro k
 induction k with
 |zero=>left;rw[cz];simp|succ k ih=>
  have e:w*2^(k+1)=2*(w*2^k):=by rw[Int.pow_succ];rw[<-Int.mul_assoc,Int.mul_comm]
  rw[cz,e];split
  .rename_i q;rcases ih with h|⟨h1,h2⟩
   .left;rw[h]
   .omega
  .rename_i q;right;rcases ih with h|⟨h1,h2⟩<;>omega
theorem vE{w:Int}(hw:1<=w):∀k,w<=cz w k:=by
 intro k
 induction k with|zero=>rw[cz];omega|succ k ih=>rw[cz];split<;>omega
theorem DY{w:Int}(hw:w<=64):∀k,cz w k<=2000:=by
 intro k
 induction k with|zero=>rw[cz];omega|succ k ih=>rw[cz];split<;>omega
theorem adb{w:Int}{k:Nat}(h:1000<=cz w k):∀j,cz w (k+j)=cz w k:=by
 intro j
 induction j with|zero=>rfl|succ j ih=>rw[show k+(j+1)=k+j+1 by omega,cz,ih,if_neg (by omega)]
theorem adB{m:aX}(h1:1<=m.addr)(h2:1<=m.word):nf (tP m) (cz m.word m.addr.toNat):=by
 have r:=aek h2 m.addr.toNat;unfold tP;split
 .rename_i q;right;have p:(2:Int)^10<=2^m.addr.toNat:=by
   have:=Nat.pow_le_pow_right (n:=2) (by decide) (show 10<=m.addr.toNat by omega)
   exact_mod_cast this
  have p2:(2:Int)^10=1024:=by decide
  have p3:=vA (w:=m.word) (by omega) p;have p4:=vA (w:=1024) (a:=1) (b:=m.word) (by omega) h2;rw[p2]at p3;have p5:m.word*1024=1024*m.word:=Int.mul_comm ..;rcases r with h|⟨a,b⟩<;>omega
 .rcases r with h|⟨a,b⟩
  .left;exact h.symm
  .right;exact⟨b,a⟩
theorem vL{m:aX}(h1:1<=m.addr)(h2:1<=m.word)(h3:m.word<=64):0<=tP m/\tP m<=40000:=by
 unfold tP;split
 .omega
 .have p:(2:Int)^m.addr.toNat<=2^9:=by
   have:=Nat.pow_le_pow_right (n:=2) (by decide) (show m.addr.toNat<=9 by omega)
   exact_mod_cast this
  have p2:(2:Int)^9=512:=by decide
  have p3:=vA (w:=m.word) (by omega) p;have p4:=vA (w:=m.word) (by omega) (adJ m.addr.toNat);rw[p2]at p3;omega
theorem adA{a b c d:Int}(h1:nf a b)(h2:nf c d)(ha:0<=a)(hb:0<=b)(hc:0<=c)(hd:0<=d):nf (a+c) (b+d):=by
 rcases h1 with h1|h1<;>rcases h2 with h2|h2
 .left;omega
 .right;omega
 .right;omega
 .right;omega
theorem adZ:∀(l:List aX) (a b:Int),(∀m∈l,1<=m.addr/\1<=m.word/\m.word<=64)->nf a b->0<=a->0<=b->nf (l.foldl (fun a m=>a+tP m) a) (l.foldl (fun a m=>a+cz m.word m.addr.toNat) b):=by
 intro l
 induction l with|nil=>intro a b _ h _ _;exact h|cons m l ih=>intro a b hl h ha hb;obtain⟨h1,h2,h3⟩:=hl m (by simp);have t:=vL h1 h2 h3;have u:=vE h2 m.addr.toNat;exact ih _ _ (fun x hx=>hl x (by simp[hx])) (adA h (adB h1 h2) ha hb t.1 (by omega)) (show 0<=a+tP m by omega) (show 0<=b+cz m.word m.addr.toNat by omega)
theorem vC:∀(l:List aX) (a:Int),(∀m∈l,1<=m.addr/\1<=m.word/\m.word<=64)->a<=l.foldl (fun a m=>a+tP m) a/\l.foldl (fun a m=>a+tP m) a<=a+40000*(l.length:Int):=by
 intro l
 induction l with|nil=>intro a _;exact⟨Int.le_refl _,by simp⟩|cons m l ih=>intro a hl;obtain⟨h1,h2,h3⟩:=hl m (by simp);have t:=vL h1 h2 h3;obtain⟨x,y⟩:=ih (a+tP m) (fun x hx=>hl x (by simp[hx]));rw[List.foldl_cons,List.length_cons];omega
theorem adY:∀(l:List aX) (a:Int),(∀m∈l,1<=m.addr/\1<=m.word/\m.word<=64)->a<=l.foldl (fun a m=>a+cz m.word m.addr.toNat) a/\l.foldl (fun a m=>a+cz m.word m.addr.toNat) a<=a+2000*(l.length:Int):=by
 intro l
 induction l with|nil=>intro a _;exact⟨Int.le_refl _,by simp⟩|cons m l ih=>intro a hl;obtain⟨h1,h2,h3⟩:=hl m (by simp);have t:=vE h2 m.addr.toNat;have t2:=DY h3 m.addr.toNat;obtain⟨x,y⟩:=ih (a+cz m.word m.addr.toNat) (fun x hx=>hl x (by simp[hx]));rw[List.foldl_cons,List.length_cons];omega
def cw(n:au):Int:=if Pl.bP n≠0 then 0 else fK (cT n.mems)
section
variable{n:au}{V:Nat}(hs:bo n V)
include hs
theorem jZ:∀m∈n.mems,1<=m.addr/\1<=m.word/\m.word<=64:=fun m hm=>by obtain⟨m1,m2,m3,m4,_⟩:=hs.mems m hm;exact⟨m1,m3,m4⟩
end
section
variable{n:au}{V:Nat}
theorem DW(x:Int):bO (iL (1000:Int) x) (1000:Int) x=fK x:=by
 unfold fK bO;by_cases q:1000<x
 .rw[if_pos q,show iL (1000:Int) x=true from al q]
 .rw[if_neg q,show iL (1000:Int) x=false from aw q]
end
section
variable{n:au}{V:Nat}(hs:bo n V)
include hs
theorem ae9:ab5 ((0:Int),([],([],([],([],([],(n.mems.map ak,([],()))))))))=some (cT n.mems,()):=by
 have hM:=hs.lens.2.2.2.2;have hL:((n.mems.map ak).length:Int)=(n.mems.length:Int):=by rw[List.length_map]
 have e2:O5 ((0:Int),(n.mems.map ak,(((n.mems.map ak).length:Int),((0:Int),()))))=some (cT n.mems,()):=by
  unfold O5;delta u4;refine bN (fun k:Nat=>(cT (n.mems.take k),(n.mems.map ak,(((n.mems.map ak).length:Int),((k:Int),()))))) n.mems.length rfl ?_ ?_ (aW (by omega))
  .intro k hk;have hx:=List.getElem?_eq_getElem hk;obtain⟨h1,h2,h3⟩:=jZ hs _ (List.getElem_mem hk);have t:=vL h1 h2 h3;have hx':(n.mems.map ak)[k]?=some (ak n.mems[k]):=by rw[List.getElem?_map,hx];rfl
   have g:gt ab (n.mems.map ak) (k:Int)=ak n.mems[k]:=aS (σ:=ab) hx';have eb:Dh (ak n.mems[k],())=some (tP n.mems[k],()):=by
    show Ds (ak n.mems[k])=_;unfold Ds tP;by_cases q:10<=n.mems[k].addr
    .rw[if_pos q];exact av (al q) rfl
    .rw[if_neg q];have e:∀p q:Int,p=q->(some (p,()):Option (TL vh))=some (q,()):=by rintro _ _ rfl;rfl
     refine ao (aw q) (aj (al (show(0:Int)<=n.mems[k].addr by omega)) (e _ _ ?_));show IntKind.wrap .i64 (n.mems[k].word*2^min (Int.toNat n.mems[k].addr) 64)=_;rw[Nat.min_eq_left (by omega)];unfold tP at t;rw[if_neg q]at t;exact bf (by omega)
   have eb':Dh (((gt ab (n.mems.map ak) (k:Int)).1,((gt ab (n.mems.map ak) (k:Int)).2.1,((gt ab (n.mems.map ak) (k:Int)).2.2.1,((gt ab (n.mems.map ak) (k:Int)).2.2.2.1,((gt ab (n.mems.map ak) (k:Int)).2.2.2.2.1,()))))),())=some (tP n.mems[k],()):=by rw[g];exact eb
   have hr:=vC (n.mems.take k) 0 (fun m hm=>jZ hs m (List.mem_of_mem_take hm));have hl:(n.mems.take k).length<=4:=by rw[List.length_take];omega
   have hst:cT (n.mems.take (k+1))=cT (n.mems.take k)+tP n.mems[k]:=by unfold cT;rw[Pl.cg hx,List.foldl_append];rfl
   have e:∀(a b p q:Int),a=b->p=q->(some (.inl (a,(n.mems.map ak,(((n.mems.map ak).length:Int),(p,()))))):Option (TL qz.σs⊕Out qw))=some (.inl (b,(n.mems.map ak,(((n.mems.map ak).length:Int),(q,()))))):=by rintro _ _ _ _ rfl rfl;rfl
   have hr:0<=cT (n.mems.take k)/\cT (n.mems.take k)<=0+40000*((n.mems.take k).length:Int):=hr;refine av (al (show(k:Int)<((n.mems.map ak).length:Int) by omega)) (aj (show ar (k:Int) (List.length (n.mems.map ak))=true from aA ⟨by omega,by omega⟩) (af eb' (e _ _ _ _ ?_ (aZ (show(k:Int)+1=((k+1:Nat):Int) by omega) (by omega)))));rw[hst];exact bf (by omega)
  .have e:∀(a b:Int),a=b->(some (.inr (a,())):Option (TL qz.σs⊕Out qw))=some (.inr (b,())):=by rintro _ _ rfl;rfl
   rw[List.take_length];exact ao (aw (show ¬(n.mems.length:Int)<((n.mems.map ak).length:Int) by omega)) rfl
 exact af e2 rfl
theorem acZ:ab4 (((0:Int),([],([],([],([],([],(n.mems.map ak,([],())))))))),())=some (fK (cT n.mems),()):=by
 have hM:=hs.lens.2.2.2.2;have e1:=ae9 hs;have hr:=vC n.mems 0 (jZ hs);have hr:0<=cT n.mems/\cT n.mems<=0+40000*(n.mems.length:Int):=hr;have w:IntKind.wrap .i64 (((0:Nat):Int)+cT n.mems)=cT n.mems:=by rw[show((0:Nat):Int)+cT n.mems=cT n.mems by omega];exact bf (by omega)
 have e:∀(a b:Int),a=b->(some (a,()):Option (TL vm))=some (b,()):=by rintro _ _ rfl;rfl
 refine af e1 (e _ _ ?_);show bO (iL (1000:Int) (IntKind.wrap .i64 (((0:Nat):Int)+cT n.mems))) (1000:Int) (IntKind.wrap .i64 (((0:Nat):Int)+cT n.mems))=_;rw[w];exact DW _
theorem afR{k:Nat}{m:aX}(hm:n.mems[k]?=some m)(acc:Int) :
  BW (acc,((k:Int),(m.word,((0:Int),nt n ()))))=some (acc,((k:Int),(cz m.word m.addr.toNat,nt n ()))):=by
 obtain⟨h1,h2,h3⟩:=jZ hs m (List.mem_of_getElem? hm);obtain⟨_,h4,_⟩:=hs.mems m (List.mem_of_getElem? hm);have hk:=cr hm;have hL:((n.mems.map ak).length:Int)=(n.mems.length:Int):=by rw[List.length_map]
 have hM:=hs.lens.2.2.2.2;have hx':(n.mems.map ak)[k]?=some (ak m):=by rw[List.getElem?_map,hm];rfl
 have g:gt ab (n.mems.map ak) (k:Int)=ak m:=aS (σ:=ab) hx';have hin:ar (k:Int) (List.length (n.mems.map ak))=true:=aA ⟨by omega,by omega⟩;have hq:=jt (B:=fun d=>BT d.1 d.2.1 d.2.2.1 d.2.2.2.1 d.2.2.2.2.1 d.2.2.2.2.2.1 d.2.2.2.2.2.2.1 d.2.2.2.2.2.2.2.1 d.2.2.2.2.2.2.2.2.1 d.2.2.2.2.2.2.2.2.2.1 d.2.2.2.2.2.2.2.2.2.2.1 d.2.2.2.2.2.2.2.2.2.2.2.1)
  (I:=fun d:TL n0.σs=>∃j:Nat,j<=m.addr.toNat/\d=(acc,((k:Int),(cz m.word j,((j:Int),nt n ())))))
  (Q:=fun o:Out qi=>o=(acc,((k:Int),(cz m.word m.addr.toNat,nt n ()))))
  (fun d:TL n0.σs=>m.addr.toNat-Int.toNat d.2.2.2.1) ?_ NN (acc,((k:Int),(m.word,((0:Int),nt n ())))) ⟨0,by omega,rfl⟩ (aW (by show m.addr.toNat-_<=_;omega))
 .obtain⟨o,ho,rfl⟩:=hq;exact ho
 .rintro d ⟨j,hj,rfl⟩;have e0:(gt ab (n.mems.map ak) (k:Int)).1=m.addr:=by rw[g];rfl
  by_cases q:j<m.addr.toNat
  .have c0:iL (j:Int) (gt ab (n.mems.map ak) (k:Int)).1=true:=al (by rw[e0];omega);have lo:=vE h2 j;have up:=DY h3 j;by_cases r:cz m.word j<1000
   .refine .inr ⟨(acc,((k:Int),(cz m.word (j+1),(((j+1:Nat):Int),nt n ())))),?_,⟨j+1,by omega,rfl⟩,by show m.addr.toNat-Int.toNat ((j+1:Nat):Int)<m.addr.toNat-Int.toNat (j:Int);omega⟩;have e:∀(a b p q:Int),a=b->p=q->(some (.inl (acc,((k:Int),(a,(p,nt n ()))))):Option (TL n0.σs⊕Out qi))=some (.inl (acc,((k:Int),(b,(q,nt n ()))))):=by rintro _ _ _ _ rfl rfl;rfl
    refine aj hin (av c0 (av (show aR true (iL (cz m.word j) (1000:Int)) false=true from al r) (e _ _ _ _ ?_ (aZ (show(j:Int)+1=((j+1:Nat):Int) by omega) (by omega)))));rw[cz,if_pos r];exact bf (x:=2*cz m.word j) (by omega)
   .refine .inl ⟨_,aj hin (av c0 (ao (show aR true (iL (cz m.word j) (1000:Int)) false=false from aw r) rfl)),?_⟩;have:=adb (w:=m.word) (k:=j) (by omega) (m.addr.toNat-j);rw[show j+(m.addr.toNat-j)=m.addr.toNat by omega]at this;rw[this];rfl
  .obtain rfl:j=m.addr.toNat:=by omega
   exact .inl ⟨_,aj hin (ao (aw (show ¬((m.addr.toNat:Nat):Int)<(gt ab (n.mems.map ak) (k:Int)).1 by rw[e0];omega)) rfl),rfl⟩
theorem afQ:MS ((0:Int),((0:Int),nt n ()))=some (i7 n.mems,()):=by
 have hM:=hs.lens.2.2.2.2;have hL:((n.mems.map ak).length:Int)=(n.mems.length:Int):=by rw[List.length_map]
 unfold MS;delta gG;refine bN (fun k:Nat=>(i7 (n.mems.take k),((k:Int),nt n ()))) n.mems.length rfl ?_ ?_ (aW (by omega))
 .intro k hk;have hx:=List.getElem?_eq_getElem hk;have hx':(n.mems.map ak)[k]?=some (ak n.mems[k]):=by rw[List.getElem?_map,hx];rfl
  have g:gt ab (n.mems.map ak) (k:Int)=ak n.mems[k]:=aS (σ:=ab) hx';obtain⟨h1,h2,h3⟩:=jZ hs _ (List.getElem_mem hk);have lo:=vE h2 n.mems[k].addr.toNat;have up:=DY h3 n.mems[k].addr.toNat;have e9:BW (i7 (n.mems.take k),((k:Int),((gt ab (n.mems.map ak) (k:Int)).2.1,((0:Int),nt n ()))))=some (i7 (n.mems.take k),((k:Int),(cz n.mems[k].word n.mems[k].addr.toNat,nt n ()))):=by rw[g];exact afR hs hx _
  have hr:0<=i7 (n.mems.take k)/\i7 (n.mems.take k)<=0+2000*((n.mems.take k).length:Int):=adY (n.mems.take k) 0 (fun m hm=>jZ hs m (List.mem_of_mem_take hm));have hl:(n.mems.take k).length<=4:=by rw[List.length_take];omega
  have hst:i7 (n.mems.take (k+1))=i7 (n.mems.take k)+cz n.mems[k].word n.mems[k].addr.toNat:=by unfold i7;rw[Pl.cg hx,List.foldl_append];rfl
  have e:∀(a b p q:Int),a=b->p=q->(some (.inl (a,(p,nt n ()))):Option (TL ug.σs⊕Out ub))=some (.inl (b,(q,nt n ()))):=by rintro _ _ _ _ rfl rfl;rfl
  refine av (al (show(k:Int)<((n.mems.map ak).length:Int) by omega)) (aj (show ar (k:Int) (List.length (n.mems.map ak))=true from aA ⟨by omega,by omega⟩) (af e9 (e _ _ _ _ ?_ (aZ (show(k:Int)+1=((k+1:Nat):Int) by omega) (by omega)))));rw[hst];exact bf (x:=i7 (n.mems.take k)+cz n.mems[k].word n.mems[k].addr.toNat) (by omega)
 .rw[List.take_length];exact ao (aw (show ¬(n.mems.length:Int)<((n.mems.map ak).length:Int) by omega)) rfl
end
section
variable{n:au}(ft:Fit n)
include ft
theorem qJ:abm (aQ n,())=some (cw n,()):=by
 have ec:=pN ft;unfold cw;by_cases hc:Pl.bP n=0
 .rw[if_neg (fun q=>q hc)];unfold Pl.bP at hc;have h0:ca n=0:=by
   by_cases q:ca n=0
   .exact q
   .rw[if_pos q]at hc;exact absurd hc q
  obtain⟨V,hs⟩:=lZ h0;have eb:=acZ hs;have hc':Pl.bP n=0:=by unfold Pl.bP;exact hc
  have e:∀(a b:Int),a=b->(some (a,()):Option (TL va))=some (b,()):=by rintro _ _ rfl;rfl
  refine af ec (ao (cI (al hc')) (af eb (e _ _ ?_)));show bO (iL (1000:Int) (fK (cT n.mems))) (1000:Int) (fK (cT n.mems))=_;rw[DW];unfold fK;split
  .rfl
  .rfl
 .rw[if_pos hc];exact af ec (av (fg (aw hc)) rfl)
theorem DD:Z1 (aQ n,())=some (cw n,()):=by
 have ec:=Br ft;unfold cw;by_cases hc:Pl.bP n=0
 .rw[if_neg (fun q=>q hc)];have hc':=hc;unfold Pl.bP at hc;have h0:ca n=0:=by
   by_cases q:ca n=0
   .exact q
   .rw[if_pos q]at hc;exact absurd hc q
  obtain⟨V,hs⟩:=lZ h0;have e5:=afQ hs;have e:∀(a b:Int),a=b->(some (a,()):Option (TL uu))=some (b,()):=by rintro _ _ rfl;rfl
  refine af ec (ao (cI (al hc')) (af e5 (e _ _ ?_)));show bO (iL (1000:Int) (i7 n.mems)) (1000:Int) (i7 n.mems)=_;rw[DW];exact(ac7 (adZ n.mems 0 0 (jZ hs) (.inl rfl) (by omega) (by omega))).symm
 .rw[if_pos hc];exact af ec (av (fg (aw hc)) rfl)
end
def iD(m:aX)(c:List aD)(a:Nat):List Bool:=bh (rd c ((a:Nat):Int)).toNat m.word.toNat
def dZ(m:aX)(c:List aD)(k:Nat):List Bool:=(List.range k).flatMap (iD m c)
theorem vK(L:List Bool)(h:L.length<=100000):room 1 (List.length ([]++L))=true:=by rw[List.nil_append];exact iX (by omega) (by omega)
def mz:aX:=⟨0,0,false,[],[]⟩
def fe(n:au)(ls:List Bool)(cs:List (List aD))(k:Nat):List Bool:=ls++(List.range k).flatMap fun i=>dZ (n.mems.getD i mz) (cs.getD i []) (2^(n.mems.getD i mz).addr.toNat)
theorem DK(m:aX)(c:List aD)(k:Nat):dZ m c (k+1)=dZ m c k++iD m c k:=by unfold dZ;rw[List.range_succ,List.flatMap_append];simp
theorem vz(m:aX)(c:List aD):∀k,(dZ m c k).length=k*m.word.toNat:=by
 intro k
 induction k with|zero=>simp[dZ]|succ k ih=>rw[DK,List.length_append,ih,Nat.succ_mul];unfold iD;rw[eZ]
theorem vB(n:au)(ls:List Bool)(cs:List (List aD)){k:Nat}{m:aX}{c:List aD}(hm:n.mems[k]?=some m)(hc:cs[k]?=some c):fe n ls cs (k+1)=fe n ls cs k++dZ m c (2^m.addr.toNat):=by unfold fe;rw[List.range_succ,List.flatMap_append,<-List.append_assoc];congr 1;simp only[List.flatMap_cons,List.flatMap_nil,List.append_nil];rw[List.getD_eq_getElem?_getD,List.getD_eq_getElem?_getD,hm,hc];rfl
theorem agq(c:List aD)(a:Int):rd c a=0\/∃p∈c,rd c a=p.2.1:=by
 induction c with
 |nil=>exact .inl rfl|cons p c ih=>
  rw[Jn];by_cases q:p.1=a
  .rw[if_pos q];exact .inr ⟨p,by simp,rfl⟩
  .rw[if_neg q];rcases ih with h|⟨r,hr,h⟩
   .exact .inl h
   .exact .inr ⟨r,by simp[hr],h⟩
theorem PA{c:List aD}{i:Nat}{p:aD}(h:c[i]?=some p):cR c (i:Int)=p.1/\fD c (i:Int)=p.2.1:=by have g:gt aq c (i:Int)=p:=aS (σ:=aq) h;unfold cR fD;rw[g];exact⟨rfl,rfl⟩
theorem QE{c:List aD}(h:mM c)(a:Int):0<=rd c a/\rd c a<=18446744073709551615:=by
 rcases agq c a with e|⟨p,hp,e⟩
 .omega
 .obtain⟨i,hi⟩:=List.getElem?_of_mem hp;have hw:=(h i (cr hi)).2;rw[(PA hi).2]at hw;omega
structure Small(m:aX):Prop where
 a1:1<=m.addr
 a2:m.addr<10
 w1:1<=m.word
 w2:m.word<=64
 sz:m.word*2^m.addr.toNat<=64
theorem Small.nat{m:aX}(h:Small m):2^m.addr.toNat*m.word.toNat<=64/\1<=2^m.addr.toNat:=by
 have hp:(1:Nat)<=2^m.addr.toNat:=Nat.pos_of_ne_zero (by simp);refine⟨?_,hp⟩;have e:((2^m.addr.toNat*m.word.toNat:Nat):Int)=m.word*2^m.addr.toNat:=by
  push_cast
  rw[show((m.word.toNat:Nat):Int)=m.word by have:=h.w1;omega,Int.mul_comm]
 have:=h.sz;omega
theorem Small.cnt{m:aX}(h:Small m):2^m.addr.toNat<=64:=by have h1:=h.nat.1;have h2:2^m.addr.toNat*1<=2^m.addr.toNat*m.word.toNat:=Nat.mul_le_mul_left _ (by have:=h.w1;omega);omega
theorem adl:∀(l:List aX) (a:Int),(∀m∈l,1<=m.addr/\1<=m.word/\m.word<=64)->∀m∈l,a+tP m<=l.foldl (fun a m=>a+tP m) a:=by
 intro l
 induction l with
 |nil=>intro a _ m hm;cases hm
 |cons x l ih=>
  intro a hl m hm;obtain⟨h1,h2,h3⟩:=hl x (by simp);have t:=vL h1 h2 h3;have hl':∀m∈l,1<=m.addr/\1<=m.word/\m.word<=64:=fun y hy=>hl y (by simp[hy]);rw[List.foldl_cons];rcases List.mem_cons.1 hm with rfl|hm
  .exact(vC l (a+tP m) hl').1
  .have:=ih (a+tP x) hl' m hm;omega
section
variable{n:au}{V:Nat}(hs:bo n V)
include hs
theorem DT(h:fK (cT n.mems)<=64):∀m∈n.mems,Small m:=by
 intro m hm;have h2:cT n.mems<=64:=by unfold fK at h;split at h<;>omega
 have h3:=adl n.mems 0 (jZ hs) m hm;have h3:0+tP m<=cT n.mems:=h3;obtain⟨m1,m2,m3⟩:=jZ hs m hm;unfold tP at h3;by_cases q:10<=m.addr
 .rw[if_pos q]at h3;omega
 .rw[if_neg q]at h3;exact⟨m1,by omega,m2,m3,by omega⟩
end
section
variable{n:au}{V:Nat}
theorem Qd(ls:List Bool)(cs:List (List aD))(hsm:∀m∈n.mems,Small m):∀k,k<=n.mems.length->k<=cs.length->(fe n ls cs k).length<=ls.length+64*k:=by
 intro k
 induction k with|zero=>intro _ _;simp[fe]|succ k ih=>intro hk hc;have hx:=List.getElem?_eq_getElem (l:=n.mems) (i:=k) (by omega);have hy:=List.getElem?_eq_getElem (l:=cs) (i:=k) (by omega);rw[vB n ls cs hx hy,List.length_append,vz];have:=(hsm _ (List.getElem_mem (show k<n.mems.length by omega))).nat.1;have:=ih (by omega) (by omega);omega
end
section
variable{n:au}{V:Nat}
theorem Px{m:aX}(h:Small m):IntKind.wrap .u64 ((1:Int)*(HPow.hPow (2:Int) (Min.min (Int.toNat m.addr) 64)))=((2^m.addr.toNat:Nat):Int):=by
 have h1:=h.a2;have h2:=h.a1;rw[Nat.min_eq_left (by omega),Int.one_mul];have hc:=h.cnt;have e:((2^m.addr.toNat:Nat):Int)=(2:Int)^m.addr.toNat:=by push_cast;rfl
 have hp:(0:Int)<=(2:Int)^m.addr.toNat:=Int.le_of_lt (Int.pow_pos (by decide));have hc':(2:Int)^m.addr.toNat<=64:=by exact_mod_cast hc
 rw[e];exact f8 ⟨hp,by omega⟩
end
section
variable{n:au}{V:Nat}
theorem agw{k:Nat}{m:aX}{c:List aD}(hm:Small m)(hc:mM c)(L:Int)(ls:List Bool)(cs:List (List aD))(acc:List Bool)(hacc:acc.length<=1000000)(ra:Int) :
  qo (n.mems.map ak,(L,((k:Int),(((2^m.addr.toNat:Nat):Int),((0:Int),(ls,(cs,(acc,(m.addr,(m.word,(m.any,(m.reads.map cq,(m.writes.map cK,(ra,(m.word,(c,())))))))))))))))) =
   some (n.mems.map ak,(L,((k:Int),(ls,(cs,(acc++dZ m c (2^m.addr.toNat),())))))):=by
 have hn:=hm.nat;have hcn:=hm.cnt;unfold qo;delta u16;refine bN (fun j:Nat=>(n.mems.map ak,(L,((k:Int),(((2^m.addr.toNat:Nat):Int),((j:Int),(ls,(cs,(acc++dZ m c j,(m.addr,(m.word,(m.any,(m.reads.map cq,(m.writes.map cK,(ra,(m.word,(c,()))))))))))))))))) (2^m.addr.toNat) (by have h:acc++dZ m c 0=acc:=List.append_nil acc;dsimp only;rw[h];try rfl) ?_ ?_ (aW (by omega))
 .intro j hj;have hr:=QE hc (j:Int);have e1:pS ((j:Int),(ra,(m.word,(c,()))))=some (rd c (j:Int),(ra,(m.word,(c,())))):=by
   have e:∀p q:Int,p=q->(some (p,(ra,(m.word,(c,())))):Option (Out tf))=some (q,(ra,(m.word,(c,())))):=by rintro _ _ rfl;rfl
   exact e _ _ (D7 c (j:Int))
  have hw1:=hm.w1;have hw2:=hm.w2;have e2:jw (rd c (j:Int),(m.word,()))=some (iD m c j,()):=by have:=qI (rd c (j:Int)).toNat m.word.toNat (by omega) (by omega);rw[show(((rd c (j:Int)).toNat:Nat):Int)=rd c (j:Int) by omega,show((m.word.toNat:Nat):Int)=m.word by omega]at this;exact this
  have hl:(dZ m c j).length<=64:=by rw[vz];have:j*m.word.toNat<=2^m.addr.toNat*m.word.toNat:=Nat.mul_le_mul_right _ (by omega);omega
  have hwl:(iD m c j).length<=64:=by unfold iD;rw[eZ];omega
  have hroom:room 1 (List.length ((acc++dZ m c j)++iD m c j))=true:=by rw[List.length_append,List.length_append];exact iX (by omega) (by omega)
  have ht:(acc++dZ m c j)++iD m c j=acc++dZ m c (j+1):=by rw[DK,List.append_assoc]
  have e:∀(a b:List Bool) (p q:Int),a=b->p=q->(some (.inl (n.mems.map ak,(L,((k:Int),(((2^m.addr.toNat:Nat):Int),(p,(ls,(cs,(a,(m.addr,(m.word,(m.any,(m.reads.map cq,(m.writes.map cK,(ra,(m.word,(c,())))))))))))))))) ):Option (TL uO.σs⊕Out uK))=some (.inl (n.mems.map ak,(L,((k:Int),(((2^m.addr.toNat:Nat):Int),(q,(ls,(cs,(b,(m.addr,(m.word,(m.any,(m.reads.map cq,(m.writes.map cK,(ra,(m.word,(c,())))))))))))))))) ):=by rintro _ _ _ _ rfl rfl;rfl
  exact av (al (show(j:Int)<((2^m.addr.toNat:Nat):Int) by omega)) (af e1 (aj (al rfl) (af e2 (aj hroom (e _ _ _ _ ht (f8 (x:=(j:Int)+1) (by omega)))))))
 .exact ao (aw (show ¬((2^m.addr.toNat:Nat):Int)<((2^m.addr.toNat:Nat):Int) by omega)) rfl
end
section
variable{n:au}{V:Nat}(hs:bo n V)
include hs
theorem amk(ls:List Bool)(cs:List (List aD))(hsm:∀m∈n.mems,Small m)(hok:lG cs)(hf:db (aQ n) (ls,(cs,()))=true)(hl:ls.length<=100000) :
  Ot (n.mems.map ak,(((n.mems.map ak).length:Int),((0:Int),(ls,(cs,(ls,()))))))=some (fe n ls cs n.mems.length,()):=by
 have hM:=hs.lens.2.2.2.2;have hL:((n.mems.map ak).length:Int)=(n.mems.length:Int):=by rw[List.length_map]
 unfold db at hf;simp only[Bool.and_eq_true,decide_eq_true_eq]at hf;obtain⟨⟨f1,f2⟩,f3⟩:=hf;have f2:cs.length=n.mems.length:=f2.trans (List.length_map ..);have f3:(List.range (n.mems.map ak).length).all (ig (n.mems.map ak) cs)=true:=f3;unfold Ot;delta u6;refine bN (fun k:Nat=>(n.mems.map ak,(((n.mems.map ak).length:Int),((k:Int),(ls,(cs,(fe n ls cs k,()))))))) n.mems.length (by have h:fe n ls cs 0=ls:=List.append_nil ls;dsimp only;rw[h];try rfl) ?_ ?_ (aW (by omega))
 .intro k hk;obtain⟨m,hm⟩:∃m,n.mems[k]?=some m:=⟨_,List.getElem?_eq_getElem hk⟩;obtain⟨c,hc⟩:∃c,cs[k]?=some c:=⟨_,List.getElem?_eq_getElem (by omega)⟩;have hmm:=List.mem_of_getElem? hm;have sm:=hsm m hmm;have hm':(n.mems.map ak)[k]?=some (ak m):=by rw[List.getElem?_map,hm];rfl
  have g1:gt ab (n.mems.map ak) (k:Int)=ak m:=aS (σ:=ab) hm';have g2:gt (.sl aq) cs (k:Int)=c:=aS (σ:=.sl aq) hc;have hp:=(List.all_eq_true.1 f3) k (List.mem_range.2 (by rw[List.length_map];exact hk));unfold ig at hp;rw[g1,g2]at hp;have hp:gj m.addr m.word c=true:=hp;have e4:=Mq m.addr m.word c;rw[hp]at e4;have e4':th ((gt ab (n.mems.map ak) (k:Int)).1,((gt ab (n.mems.map ak) (k:Int)).2.1,(gt (.sl aq) cs (k:Int),())))=some (.inr ((0:Int),(m.addr,(m.word,(c,()))))):=by rw[g1,g2];exact e4
  have hsl:=Qd ls cs hsm k (by omega) (by omega);have e13:=agw (n:=n) (k:=k) sm (hok c (List.mem_of_getElem? hc)) ((n.mems.map ak).length:Int) ls cs (fe n ls cs k) (by omega) m.addr;have e13':qo (n.mems.map ak,(((n.mems.map ak).length:Int),((k:Int),((IntKind.wrap .u64 ((1:Int)*(HPow.hPow (2:Int) (Min.min (Int.toNat (gt ab (n.mems.map ak) (k:Int)).1) 64)))),((0:Int),(ls,(cs,(fe n ls cs k,((gt ab (n.mems.map ak) (k:Int)).1,((gt ab (n.mems.map ak) (k:Int)).2.1,((gt ab (n.mems.map ak) (k:Int)).2.2.1,((gt ab (n.mems.map ak) (k:Int)).2.2.2.1,((gt ab (n.mems.map ak) (k:Int)).2.2.2.2.1,(m.addr,(m.word,(c,())))))))))))))))) =
   some (n.mems.map ak,(((n.mems.map ak).length:Int),((k:Int),(ls,(cs,(fe n ls cs k++dZ m c (2^m.addr.toNat),())))))):=by
   rw[g1];have:=Px sm;show qo (n.mems.map ak,(((n.mems.map ak).length:Int),((k:Int),((IntKind.wrap .u64 ((1:Int)*(HPow.hPow (2:Int) (Min.min (Int.toNat m.addr) 64)))),_))))=_;rw[this];exact e13
  have hc0:iE (0:Int) (gt ab (n.mems.map ak) (k:Int)).1=true:=al (by rw[g1];have:=sm.a1;show(0:Int)<=m.addr;omega);have e:∀(a b:List Bool) (p q:Int),a=b->p=q->(some (.inl (n.mems.map ak,(((n.mems.map ak).length:Int),(p,(ls,(cs,(a,()))))))):Option (TL uT.σs⊕Out uP))=some (.inl (n.mems.map ak,(((n.mems.map ak).length:Int),(q,(ls,(cs,(b,()))))))):=by rintro _ _ _ _ rfl rfl;rfl
  exact av (al (show(k:Int)<((n.mems.map ak).length:Int) by omega)) (aj (show ar (k:Int) (List.length (n.mems.map ak))=true from aA ⟨by omega,by omega⟩) (aj (show ar (k:Int) (List.length cs)=true from aA ⟨by omega,by omega⟩) (af e4' (aj hc0 (af e13' (e _ _ _ _ (vB n ls cs hm hc).symm (aZ (show(k:Int)+1=((k+1:Nat):Int) by omega) (by omega))))))))
 .exact ao (aw (show ¬(n.mems.length:Int)<((n.mems.map ak).length:Int) by omega)) rfl
theorem agt{k:Nat}{m:aX}{c:List aD}(hmk:n.mems[k]?=some m)(hck:∀cs:List (List aD),cs[k]?=some c->True)(hm:Small m)(hc:mM c)(hcl:c.length<=100000)(ls:List Bool)(cs:List (List aD))(hcs:cs[k]?=some c)(acc:List Bool)(hacc:acc.length<=1000000) :
  BH ((k:Int),((0:Int),nt n (ls,(cs,(acc,())))))=some ((k:Int),nt n (ls,(cs,(acc++dZ m c (2^m.addr.toNat),())))):=by
 have hn:=hm.nat;have hcn:=hm.cnt;have hk:=cr hmk;have hM:=hs.lens.2.2.2.2;have hm':(n.mems.map ak)[k]?=some (ak m):=by rw[List.getElem?_map,hmk];rfl
 have g1:gt ab (n.mems.map ak) (k:Int)=ak m:=aS (σ:=ab) hm';have g2:gt (.sl aq) cs (k:Int)=c:=aS (σ:=.sl aq) hcs;have hin:ar (k:Int) (List.length (n.mems.map ak))=true:=aA ⟨by omega,by rw[List.length_map];omega⟩;have hin2:ar (k:Int) (List.length cs)=true:=aA ⟨by omega,by have:k<List.length (α:=List aD) cs:=cr hcs;omega⟩;have a1:=hm.a1;have a2:=hm.a2;have hfit:∀j:Nat,j<=2^m.addr.toNat->nH ((j:Int),((gt ab (n.mems.map ak) (k:Int)).1,()))=some (decide (j<2^m.addr.toNat),()):=by
  intro j hj;rw[g1];have:=pW (v:=(j:Int)) (w:=m.addr) ⟨by omega,by omega⟩ ⟨by omega,by omega⟩;refine this.trans ?_;have e:∀p q:Bool,p=q->(some (p,()):Option (TL tc))=some (q,()):=by rintro _ _ rfl;rfl
  refine e _ _ ?_;unfold fV;have hp:((2^m.addr.toNat:Nat):Int)=(2:Int)^m.addr.toNat:=by push_cast;rfl
  by_cases q:j<2^m.addr.toNat
  .rw[decide_eq_true q,decide_eq_true];exact Int.ediv_eq_zero_of_lt (by omega) (by omega)
  .obtain rfl:j=2^m.addr.toNat:=by omega
   rw[decide_eq_false q,hp,decide_eq_false];rw[Int.ediv_self (by omega)];omega
 unfold BH;delta fC;refine bN (fun j:Nat=>((k:Int),((j:Int),nt n (ls,(cs,(acc++dZ m c j,())))))) (2^m.addr.toNat) (by have h:acc++dZ m c 0=acc:=List.append_nil acc;dsimp only;rw[h];try rfl) ?_ ?_ (aW (by omega))
 .intro j hj;have e0:=hfit j (by omega);rw[decide_eq_true hj]at e0;have hr:=QE hc (j:Int);have hw1:=hm.w1;have hw2:=hm.w2;have e1:GK (gt (.sl aq) cs (k:Int),((j:Int),()))=some (rd c (j:Int),()):=by rw[g2];exact alQ c (j:Int) hcl
  have e2:GF (rd c (j:Int),((gt ab (n.mems.map ak) (k:Int)).2.1,()))=some (iD m c j,()):=by rw[g1];have:=alH (rd c (j:Int)).toNat m.word.toNat (by omega) (by omega);rw[show(((rd c (j:Int)).toNat:Nat):Int)=rd c (j:Int) by omega,show((m.word.toNat:Nat):Int)=m.word by omega]at this;exact this
  have hl:(dZ m c j).length<=64:=by rw[vz];have:j*m.word.toNat<=2^m.addr.toNat*m.word.toNat:=Nat.mul_le_mul_right _ (by omega);omega
  have hwl:(iD m c j).length<=64:=by unfold iD;rw[eZ];omega
  have hroom:room 1 (List.length ((acc++dZ m c j)++iD m c j))=true:=by rw[List.length_append,List.length_append];exact iX (by omega) (by omega)
  have ht:(acc++dZ m c j)++iD m c j=acc++dZ m c (j+1):=by rw[DK,List.append_assoc]
  have e:∀(a b:List Bool) (p q:Int),a=b->p=q->(some (.inl ((k:Int),(p,nt n (ls,(cs,(a,())))))):Option (TL uc.σs⊕Out tX))=some (.inl ((k:Int),(q,nt n (ls,(cs,(b,())))))):=by rintro _ _ _ _ rfl rfl;rfl
  exact aj hin (af e0 (av rfl (aj hin2 (aj hin (af e1 (af e2 (aj hroom (e _ _ _ _ ht (f8 (x:=(j:Int)+1) (by omega))))))))))
 .have e0:=hfit (2^m.addr.toNat) (Nat.le_refl _);rw[decide_eq_false (by omega)]at e0;exact aj hin (af e0 (ao rfl rfl))
theorem ami(ls:List Bool)(cs:List (List aD))(hsm:∀m∈n.mems,Small m)(hok:lG cs)(hcs:cs.length=n.mems.length)(hcl:∀c∈cs,c.length<=100000)(hl:ls.length<=100000) :
  MX ((0:Int),nt n (ls,(cs,(ls,()))))=some (fe n ls cs n.mems.length,()):=by
 have hM:=hs.lens.2.2.2.2;have hL:((n.mems.map ak).length:Int)=(n.mems.length:Int):=by rw[List.length_map]
 unfold MX;delta eI;refine bN (fun k:Nat=>((k:Int),nt n (ls,(cs,(fe n ls cs k,()))))) n.mems.length (by have h:fe n ls cs 0=ls:=List.append_nil ls;dsimp only;rw[h];try rfl) ?_ ?_ (aW (by omega))
 .intro k hk;obtain⟨m,hm⟩:∃m,n.mems[k]?=some m:=⟨_,List.getElem?_eq_getElem hk⟩;obtain⟨c,hc⟩:∃c,cs[k]?=some c:=⟨_,List.getElem?_eq_getElem (by omega)⟩;have sm:=hsm m (List.mem_of_getElem? hm);have hsl:=Qd ls cs hsm k (by omega) (by omega);have e11:=agt hs hm (fun _ _=>trivial) sm (hok c (List.mem_of_getElem? hc)) (hcl c (List.mem_of_getElem? hc)) ls cs hc (fe n ls cs k) (by omega);have e:∀(a b:List Bool) (p q:Int),a=b->p=q->(some (.inl (p,nt n (ls,(cs,(a,()))))):Option (TL uh.σs⊕Out ud))=some (.inl (q,nt n (ls,(cs,(b,()))))):=by rintro _ _ _ _ rfl rfl;rfl
  exact av (al (show(k:Int)<((n.mems.map ak).length:Int) by omega)) (af e11 (e _ _ _ _ (vB n ls cs hm hc).symm (aZ (show(k:Int)+1=((k+1:Nat):Int) by omega) (by omega))))
 .exact ao (aw (show ¬(n.mems.length:Int)<((n.mems.map ak).length:Int) by omega)) rfl
end
def dM(n:au)(ls:List Bool)(cs:List (List aD)):Int×List Bool:=if dO (aQ n) (ls,(cs,()))≠0 then(dO (aQ n) (ls,(cs,())),[])else if 64<cw n then(17,[])else(0,fe n ls cs n.mems.length)
section
variable{n:au}
theorem QV{ls:List Bool}{cs:List (List aD)}(h:dO (aQ n) (ls,(cs,()))=0):Pl.bP n=0/\db (aQ n) (ls,(cs,()))=true:=by
 unfold dO at h;rw[jP]at h;by_cases q:Pl.bP n=0
 .rw[if_neg (fun w=>w q)]at h;refine⟨q,?_⟩;cases hf:db (aQ n) (ls,(cs,()))with|true=>rfl|false=>rw[hf]at h;simp at h
 .rw[if_pos q]at h;exact absurd h q
end
section
variable{n:au}
theorem Rb(h:Pl.bP n=0):∃V,bo n V/\cw n=fK (cT n.mems):=by
 have hc:=h;unfold Pl.bP at hc;have h0:ca n=0:=by
  by_cases q:ca n=0
  .exact q
  .rw[if_pos q]at hc;exact absurd hc q
 obtain⟨V,hs⟩:=lZ h0;exact⟨V,hs,by unfold cw;rw[if_neg (fun q=>q h)]⟩
end
section
variable{n:au}(ft:Fit n)
include ft
theorem Pg(ls:List Bool)(cs:List (List aD))(hok:lG cs)(hl:ls.length<=100000)(hcl:∀c∈cs,c.length<=100000) :
  vb (nt n (ls,(cs,())))=some ((dM n ls cs).1,((dM n ls cs).2,())) /\
  Z4 (aQ n,((ls,(cs,())),()))=some (((dM n ls cs).2,([],())),((dM n ls cs).1,())):=by
 have ft':Fit (df (aQ n)):=by rw[jP];exact ft
 have hT:List.length (aQ n).2.2.2.2.2.2.1<=100000:=by show(n.mems.map ak).length<=_;rw[List.length_map];have:=ft.mems.1;omega
 have e1:=Zm (aQ n) (ls,(cs,())) ft' hT;have e2:=Zp (aQ n) (ls,(cs,())) ft' hT hok;have c1:=qJ ft;have c2:=DD ft;unfold dM;by_cases h0:dO (aQ n) (ls,(cs,()))=0
 .rw[if_neg (fun q=>q h0)];obtain⟨hc,hf⟩:=QV h0;obtain⟨V,hs,hcl2⟩:=Rb hc;by_cases h1:64<cw n
  .rw[if_pos h1];exact⟨af e1 (ao (cI (al h0)) (af c1 (av (al h1) rfl))),af e2 (ao (cI (al h0)) (af c2 (av (al h1) rfl)))⟩
  .rw[if_neg h1];have hsm:=DT hs (by rw[<-hcl2];omega);have e8:=amk hs ls cs hsm hok hf hl;have hcs:cs.length=n.mems.length:=by unfold db at hf;simp only[Bool.and_eq_true,decide_eq_true_eq]at hf;exact hf.1.2.trans (List.length_map ..)
   have r8:=ami hs ls cs hsm hok hcs hcl hl;have hcb:GD (ls,())=some (ls,()):=aj (vK ls hl) rfl;refine⟨af e1 (ao (cI (al h0)) (af c1 (ao (aw h1) (af hcb (af e8 rfl))))),af e2 (ao (cI (al h0)) (af c2 (ao (aw h1) (aj (vK ls hl) (af r8 rfl)))))⟩
 .rw[if_pos h0];exact⟨af e1 (av (fg (aw h0)) rfl),af e2 (av (fg (aw h0)) rfl)⟩
end
theorem vR{a b:Bool}(h1:a=true)(h2:b=true):both a b=true:=by subst h1;subst h2;rfl
theorem Qf{l:List Bool}{k n:Nat}(h:k<=n):(l.take k).length<=n:=by rw[List.length_take];omega
theorem Dp(l:List Bool)(hl:l.length<=64):qA (l,())=some ((bF l:Int),()):=by
 have s:bO (iL (64:Int) (Int.ofNat (List.length l))) (64:Int) (Int.ofNat (List.length l))=Int.ofNat (List.length l):=by
  unfold bO;rw[show iL (64:Int) (Int.ofNat (List.length l))=false from aw (show ¬(64:Int)<((l.length:Nat):Int) by omega)]
  try rfl
 have ht:List.take (Int.toNat (Int.ofNat (List.length l))) l=l:=by show List.take l.length l=l;exact List.take_length
 have eL:vj ((0:Int),(l,(((l.length:Nat):Int),((0:Int),()))))=some ((bF l:Int),()):=by
  unfold vj;delta u4;refine bN (fun k:Nat=>((bF (l.take k):Int),(l,(((l.length:Nat):Int),((k:Int),()))))) l.length rfl ?_ ?_ (aW (by omega))
  .intro k hk;have hx:=List.getElem?_eq_getElem hk;have ht:l.take (k+1)=l.take k++[l[k]]:=Pl.cg hx;have hk2:(l.take k).length=k:=by rw[List.length_take];omega
   have hw:=me (l.take k);rw[hk2]at hw;have e:∀(a b p q:Int),a=b->p=q->(some (.inl (a,(l,(((l.length:Nat):Int),(p,()))))):Option (TL vc.σs⊕Out uY))=some (.inl (b,(l,(((l.length:Nat):Int),(q,()))))):=by rintro _ _ _ _ rfl rfl;rfl
   refine av (al (show(k:Int)<((l.length:Nat):Int) by omega)) (aj (show ar (k:Int) (List.length l)=true from aA ⟨by omega,by omega⟩) ?_);have g:gt .bool l (k:Int)=l[k]:=aS (σ:=.bool) hx;have hz:=PZ (i:=k) (w:=bF (l.take k)) (by omega) hw;have hs:(bF (l.take (k+1)):Int)=((bF (l.take k)+(if l[k]then 2^k else 0):Nat):Int):=by rw[ht,y0,hk2]
   cases hb:l[k]
   .rw[hb]at g hs;exact ao g (e _ _ _ _ hs.symm (aZ (show(k:Int)+1=((k+1:Nat):Int) by omega) (by omega)))
   .rw[hb]at g hs;exact av g (aj (al (show(0:Int)<=(k:Int) by omega)) (e _ _ _ _ (hz.trans hs.symm) (aZ (show(k:Int)+1=((k+1:Nat):Int) by omega) (by omega))))
  .rw[List.take_length];exact ao (aw (show ¬((l.length:Nat):Int)<((l.length:Nat):Int) by omega)) rfl
 have eL':∀l':List Bool,l'=l->vj ((0:Int),(l',(((List.length l':Nat):Int),((0:Int),()))))=some ((bF l:Int),()):=by rintro _ rfl;exact eL
 show Dv vj l=_;unfold Dv;rw[s];refine aj (vR (al (show(0:Int)<=((l.length:Nat):Int) by omega)) (al (show((l.length:Nat):Int)<=((l.length:Nat):Int) by omega))) (af (eL' _ ht) rfl)
def cellAt(w:Nat)(l:List Bool)(a:Nat):Nat:=bF ((l.drop (a*w)).take w)
def fS(w:Nat)(l:List Bool)(k:Nat):List aD:=(List.range k).flatMap (fun a=>if cellAt w l a=0 then[]else[((a:Int),((cellAt w l a:Int),()))])
def eE(m:aX):Nat:=2^m.addr.toNat*m.word.toNat
def jC(L:List aX):Nat:=L.foldl (fun a m=>a+eE m) 0
def cF(n:au)(k:Nat):Nat:=jC (n.mems.take k)
def dV(n:au)(l:List Bool)(k:Nat):List (List aD):=(List.range k).map fun i=>fS (n.mems.getD i mz).word.toNat (l.drop (cF n i)) (2^(n.mems.getD i mz).addr.toNat)
theorem DM(w:Nat)(l:List Bool)(k:Nat):fS w l (k+1)=fS w l k++(if cellAt w l k=0 then[]else[((k:Int),((cellAt w l k:Int),()))]):=by unfold fS;rw[List.range_succ,List.flatMap_append];simp
theorem DU(w:Nat)(l:List Bool):∀k,(fS w l k).length<=k:=by
 intro k
 induction k with|zero=>simp[fS]|succ k ih=>rw[DM,List.length_append];split<;>simp<;>omega
theorem DV(n:au)(l:List Bool)(k:Nat):(dV n l k).length=k:=by simp[dV]
theorem Pz(n:au)(l:List Bool){k:Nat}{m:aX}(hm:n.mems[k]?=some m):dV n l (k+1)=dV n l k++[fS m.word.toNat (l.drop (cF n k)) (2^m.addr.toNat)]:=by unfold dV;rw[List.range_succ,List.map_append];congr 1;simp only[List.map_cons,List.map_nil];rw[List.getD_eq_getElem?_getD,hm];rfl
theorem DL(n:au){k:Nat}{m:aX}(hm:n.mems[k]?=some m):cF n (k+1)=cF n k+eE m:=by unfold cF jC;rw[Pl.cg hm,List.foldl_append];rfl
theorem afU{m:aX}(h:Small m):(eE m:Int)=tP m:=by
 unfold eE tP;rw[if_neg (by have:=h.a2;omega)]
 push_cast
 rw[show((m.word.toNat:Nat):Int)=m.word by have:=h.w1;omega,Int.mul_comm]
theorem PR:∀(L:List aX) (a:Nat),(∀m∈L,Small m)->((L.foldl (fun a m=>a+eE m) a:Nat):Int)=L.foldl (fun a m=>a+tP m) (a:Int):=by
 intro L
 induction L with
 |nil=>intro a _;rfl|cons m L ih=>
  intro a h;have e:=afU (h m (by simp));rw[List.foldl_cons,List.foldl_cons,ih _ (fun x hx=>h x (by simp[hx]))];congr 1
  push_cast
  rw[e]
theorem acJ:∀(L:List aX) (a:Nat),a<=L.foldl (fun a m=>a+eE m) a:=by
 intro L
 induction L with|nil=>intro a;exact Nat.le_refl _|cons m L ih=>intro a;rw[List.foldl_cons];exact Nat.le_trans (Nat.le_add_right ..) (ih _)
theorem P8(n:au)(k:Nat):cF n k<=jC n.mems:=by
 unfold cF jC
 conv=>rhs;rw[<-List.take_append_drop k n.mems,List.foldl_append]
 exact acJ _ _
theorem vq(l:List Bool)(i w:Nat):(l.drop i).drop w=l.drop (i+w):=by rw[List.drop_drop]
theorem Qk{w a N:Nat}{l:List Bool}(ha:a<N)(h:N*w<=l.length):w<=(l.drop (a*w)).length:=by have:(a+1)*w<=N*w:=Nat.mul_le_mul_right _ (by omega);rw[Nat.succ_mul]at this;rw[List.length_drop];omega
theorem Pe(c:List aD)(d:aD)(h:c.length<=1000):room 16 (List.length (c++[d]))=true:=by rw[List.length_append,List.length_cons,List.length_nil];exact iX (by omega) (by omega)
theorem Pu(c:List (List aD))(d:List aD)(h:c.length<=1000):room 24 (List.length (c++[d]))=true:=by rw[List.length_append,List.length_cons,List.length_nil];exact iX (by omega) (by omega)
theorem af8{m:aX}(hm:Small m)(T:List (Sh.T ab))(L K:Int)(b1:List Bool)(b2:List (List aD))(an:Bool)(rs:List (Sh.T bJ))(ws:List (Sh.T bj))(rest:List Bool)(hr:eE m<=rest.length) :
  qq (rest,(T,(L,(K,(((2^m.addr.toNat:Nat):Int),((0:Int),(b1,(b2,(m.addr,(m.word,(an,(rs,(ws,([],())))))))))))))) =
   some (rest.drop (eE m),(T,(L,(K,(b1,(b2,(fS m.word.toNat rest (2^m.addr.toNat),()))))))):=by
 have hcn:=hm.cnt;have hw1:=hm.w1;have hw2:=hm.w2;unfold eE at hr;unfold qq;delta eJ;refine bN (fun a:Nat=>(rest.drop (a*m.word.toNat),(T,(L,(K,(((2^m.addr.toNat:Nat):Int),((a:Int),(b1,(b2,(m.addr,(m.word,(an,(rs,(ws,(fS m.word.toNat rest a,()))))))))))))))) (2^m.addr.toNat) (by(have h:rest.drop (0*m.word.toNat)=rest:=by rw[Nat.zero_mul];rfl);dsimp only;rw[h];try rfl) ?_ ?_ (aW (by omega))
 .intro a ha;have hlen:=Qk (w:=m.word.toNat) ha hr;have e1:qA (List.take (Int.toNat m.word) (rest.drop (a*m.word.toNat)),())=some ((cellAt m.word.toNat rest a:Int),()):=Dp _ (Qf (by omega));have hb:both (iE (0:Int) m.word) (iE m.word (Int.ofNat (List.length (rest.drop (a*m.word.toNat)))))=true:=vR (al (by omega)) (al (show m.word<=((List.length (rest.drop (a*m.word.toNat)):Nat):Int) by omega));have hd:List.drop (Int.toNat m.word) (rest.drop (a*m.word.toNat))=rest.drop ((a+1)*m.word.toNat):=by rw[vq,Nat.succ_mul]
  have hl:=DU m.word.toNat rest a;have hst:=DM m.word.toNat rest a;have e:∀(r r':List Bool) (p q:Int) (c c':List aD),r=r'->p=q->c=c'->(some (.inl (r,(T,(L,(K,(((2^m.addr.toNat:Nat):Int),(p,(b1,(b2,(m.addr,(m.word,(an,(rs,(ws,(c,()))))))))))))))):Option (TL uS.σs⊕Out uN))=some (.inl (r',(T,(L,(K,(((2^m.addr.toNat:Nat):Int),(q,(b1,(b2,(m.addr,(m.word,(an,(rs,(ws,(c',()))))))))))))))):=by rintro _ _ _ _ _ _ rfl rfl rfl;rfl
  have hu:IntKind.wrap .u64 ((a:Int)+1)=((a+1:Nat):Int):=f8 (x:=(a:Int)+1) (by omega);by_cases q:cellAt m.word.toNat rest a=0
  .rw[if_pos q,List.append_nil]at hst;exact av (al (show(a:Int)<((2^m.addr.toNat:Nat):Int) by omega)) (aj hb (af e1 (ao (cI (al (show((cellAt m.word.toNat rest a:Nat):Int)=0 by omega))) (aj hb (e _ _ _ _ _ _ hd hu hst.symm)))))
  .rw[if_neg q]at hst;exact av (al (show(a:Int)<((2^m.addr.toNat:Nat):Int) by omega)) (aj hb (af e1 (av (fg (aw (show ¬((cellAt m.word.toNat rest a:Nat):Int)=0 by omega))) (aj (show room 16 (List.length (fS m.word.toNat rest a++[((a:Int),((cellAt m.word.toNat rest a:Int),()))]))=true from Pe _ _ (by omega)) (aj hb (e _ _ _ _ _ _ hd hu hst.symm))))))
 .exact ao (aw (show ¬((2^m.addr.toNat:Nat):Int)<((2^m.addr.toNat:Nat):Int) by omega)) rfl
section
variable{n:au}{V:Nat}(hs:bo n V)
include hs
theorem af7(hsm:∀m∈n.mems,Small m)(lat:List Bool)(rest:List Bool)(hr:jC n.mems<=rest.length) :
  CX (rest,(n.mems.map ak,(((n.mems.map ak).length:Int),((0:Int),(lat,([],()))))))=some (lat,(dV n rest n.mems.length,())):=by
 have hM:=hs.lens.2.2.2.2;have hL:((n.mems.map ak).length:Int)=(n.mems.length:Int):=by rw[List.length_map]
 unfold CX;delta u6;refine bN (fun k:Nat=>(rest.drop (cF n k),(n.mems.map ak,(((n.mems.map ak).length:Int),((k:Int),(lat,(dV n rest k,()))))))) n.mems.length (by(have h:rest.drop (cF n 0)=rest:=rfl);dsimp only;(try rw[h]);try rfl) ?_ ?_ (aW (by omega))
 .intro k hk;obtain⟨m,hm⟩:∃m,n.mems[k]?=some m:=⟨_,List.getElem?_eq_getElem hk⟩;have sm:=hsm m (List.mem_of_getElem? hm);have hm':(n.mems.map ak)[k]?=some (ak m):=by rw[List.getElem?_map,hm];rfl
  have g1:gt ab (n.mems.map ak) (k:Int)=ak m:=aS (σ:=ab) hm';have ho:=DL n hm;have ho2:=P8 n (k+1);have e16:=af8 sm (n.mems.map ak) ((n.mems.map ak).length:Int) (k:Int) lat (dV n rest k) m.any (m.reads.map cq) (m.writes.map cK) (rest.drop (cF n k)) (by rw[List.length_drop];omega);have e16':qq (rest.drop (cF n k),(n.mems.map ak,(((n.mems.map ak).length:Int),((k:Int),((IntKind.wrap .u64 ((1:Int)*(HPow.hPow (2:Int) (Min.min (Int.toNat (gt ab (n.mems.map ak) (k:Int)).1) 64)))),((0:Int),(lat,(dV n rest k,((gt ab (n.mems.map ak) (k:Int)).1,((gt ab (n.mems.map ak) (k:Int)).2.1,((gt ab (n.mems.map ak) (k:Int)).2.2.1,((gt ab (n.mems.map ak) (k:Int)).2.2.2.1,((gt ab (n.mems.map ak) (k:Int)).2.2.2.2.1,([],())))))))))))))) =
    some ((rest.drop (cF n k)).drop (eE m),(n.mems.map ak,(((n.mems.map ak).length:Int),((k:Int),(lat,(dV n rest k,(fS m.word.toNat (rest.drop (cF n k)) (2^m.addr.toNat),()))))))):=by
   rw[g1];have:=Px sm;show qq (rest.drop (cF n k),(n.mems.map ak,(((n.mems.map ak).length:Int),((k:Int),((IntKind.wrap .u64 ((1:Int)*(HPow.hPow (2:Int) (Min.min (Int.toNat m.addr) 64)))),_)))))=_;rw[this];exact e16
  have hc0:iE (0:Int) (gt ab (n.mems.map ak) (k:Int)).1=true:=al (by rw[g1];have:=sm.a1;show(0:Int)<=m.addr;omega);have hd:(rest.drop (cF n k)).drop (eE m)=rest.drop (cF n (k+1)):=by rw[vq,ho]
  have hroom:=Pu (dV n rest k) (fS m.word.toNat (rest.drop (cF n k)) (2^m.addr.toNat)) (by rw[DV];omega);have e:∀(r r':List Bool) (p q:Int) (c c':List (List aD)),r=r'->p=q->c=c'->(some (.inl (r,(n.mems.map ak,(((n.mems.map ak).length:Int),(p,(lat,(c,()))))))):Option (TL uR.σs⊕Out uM))=some (.inl (r',(n.mems.map ak,(((n.mems.map ak).length:Int),(q,(lat,(c',()))))))):=by rintro _ _ _ _ _ _ rfl rfl rfl;rfl
  exact av (al (show(k:Int)<((n.mems.map ak).length:Int) by omega)) (aj (show ar (k:Int) (List.length (n.mems.map ak))=true from aA ⟨by omega,by omega⟩) (aj hc0 (af e16' (aj hroom (e _ _ _ _ _ _ hd (aZ (show(k:Int)+1=((k+1:Nat):Int) by omega) (by omega)) (Pz n rest hm).symm)))))
 .exact ao (aw (show ¬(n.mems.length:Int)<((n.mems.map ak).length:Int) by omega)) rfl
theorem agp{k:Nat}{m:aX}(hmk:n.mems[k]?=some m)(hm:Small m)(b3:List Bool)(b4:List (List aD))(rest:List Bool)(hr:eE m<=rest.length) :
  BR (rest,((k:Int),((0:Int),nt n (b3,(b4,([],()))))))=some (rest.drop (eE m),((k:Int),nt n (b3,(b4,(fS m.word.toNat rest (2^m.addr.toNat),()))))):=by
 have hcn:=hm.cnt;have hw1:=hm.w1;have hw2:=hm.w2;have hk:=cr hmk;have hM:=hs.lens.2.2.2.2;have hm':(n.mems.map ak)[k]?=some (ak m):=by rw[List.getElem?_map,hmk];rfl
 have g1:gt ab (n.mems.map ak) (k:Int)=ak m:=aS (σ:=ab) hm';have gw:(gt ab (n.mems.map ak) (k:Int)).2.1=m.word:=by rw[g1];rfl
 have hin:ar (k:Int) (List.length (n.mems.map ak))=true:=aA ⟨by omega,by rw[List.length_map];omega⟩;have a1:=hm.a1;have a2:=hm.a2;have hfit:∀j:Nat,j<=2^m.addr.toNat->nH ((j:Int),((gt ab (n.mems.map ak) (k:Int)).1,()))=some (decide (j<2^m.addr.toNat),()):=by
  intro j hj;rw[g1];have:=pW (v:=(j:Int)) (w:=m.addr) ⟨by omega,by omega⟩ ⟨by omega,by omega⟩;refine this.trans ?_;have e:∀p q:Bool,p=q->(some (p,()):Option (TL tc))=some (q,()):=by rintro _ _ rfl;rfl
  refine e _ _ ?_;unfold fV;have hp:((2^m.addr.toNat:Nat):Int)=(2:Int)^m.addr.toNat:=by push_cast;rfl
  by_cases q:j<2^m.addr.toNat
  .rw[decide_eq_true q,decide_eq_true];exact Int.ediv_eq_zero_of_lt (by omega) (by omega)
  .obtain rfl:j=2^m.addr.toNat:=by omega
   rw[decide_eq_false q,hp,decide_eq_false];have h2:(2:Int)^m.addr.toNat≠0:=by have:=hm.nat.2;rw[<-hp];omega
   rw[Int.ediv_self h2];omega
 unfold eE at hr;unfold BR;delta eJ;refine bN (fun a:Nat=>(rest.drop (a*m.word.toNat),((k:Int),((a:Int),nt n (b3,(b4,(fS m.word.toNat rest a,()))))))) (2^m.addr.toNat) (by(have h:rest.drop (0*m.word.toNat)=rest:=by rw[Nat.zero_mul];rfl);dsimp only;rw[h];try rfl) ?_ ?_ (aW (by omega))
 .intro a ha;have e0:=hfit a (by omega);rw[decide_eq_true ha]at e0;have hlen:=Qk (w:=m.word.toNat) ha hr;have e1:Io (List.take (Int.toNat (gt ab (n.mems.map ak) (k:Int)).2.1) (rest.drop (a*m.word.toNat)),())=some ((cellAt m.word.toNat rest a:Int),()):=by rw[gw];exact alJ _ (Qf (by omega))
  have hb:both (iE (0:Int) (gt ab (n.mems.map ak) (k:Int)).2.1) (iE (gt ab (n.mems.map ak) (k:Int)).2.1 (Int.ofNat (List.length (rest.drop (a*m.word.toNat)))))=true:=by rw[gw];exact vR (al (by omega)) (al (show m.word<=((List.length (rest.drop (a*m.word.toNat)):Nat):Int) by omega))
  have hd:List.drop (Int.toNat (gt ab (n.mems.map ak) (k:Int)).2.1) (rest.drop (a*m.word.toNat))=rest.drop ((a+1)*m.word.toNat):=by rw[gw,vq,Nat.succ_mul]
  have hl:=DU m.word.toNat rest a;have hst:=DM m.word.toNat rest a;have e:∀(r r':List Bool) (p q:Int) (c c':List aD),r=r'->p=q->c=c'->(some (.inl (r,((k:Int),(p,nt n (b3,(b4,(c,()))))))):Option (TL uf.σs⊕Out tZ))=some (.inl (r',((k:Int),(q,nt n (b3,(b4,(c',()))))))):=by rintro _ _ _ _ _ _ rfl rfl rfl;rfl
  have hu:IntKind.wrap .u64 ((a:Int)+1)=((a+1:Nat):Int):=f8 (x:=(a:Int)+1) (by omega);by_cases q:cellAt m.word.toNat rest a=0
  .rw[if_pos q,List.append_nil]at hst;exact aj hin (af e0 (av rfl (aj hin (aj hb (af e1 (aj hin (aj hb (ao (cI (al (show((cellAt m.word.toNat rest a:Nat):Int)=0 by omega))) (e _ _ _ _ _ _ hd hu hst.symm)))))))))
  .rw[if_neg q]at hst;exact aj hin (af e0 (av rfl (aj hin (aj hb (af e1 (aj hin (aj hb (av (fg (aw (show ¬((cellAt m.word.toNat rest a:Nat):Int)=0 by omega))) (aj (show room 16 (List.length (fS m.word.toNat rest a++[((a:Int),((cellAt m.word.toNat rest a:Int),()))]))=true from Pe _ _ (by omega)) (e _ _ _ _ _ _ hd hu hst.symm))))))))))
 .have e0:=hfit (2^m.addr.toNat) (Nat.le_refl _);rw[decide_eq_false (by omega)]at e0;exact aj hin (af e0 (ao rfl rfl))
theorem ago(hsm:∀m∈n.mems,Small m)(lat:List Bool)(rest:List Bool)(hr:jC n.mems<=rest.length) :
  BQ (rest,((0:Int),nt n (lat,([],()))))=some (lat,(dV n rest n.mems.length,())):=by
 have hM:=hs.lens.2.2.2.2;have hL:((n.mems.map ak).length:Int)=(n.mems.length:Int):=by rw[List.length_map]
 unfold BQ;delta eI;refine bN (fun k:Nat=>(rest.drop (cF n k),((k:Int),nt n (lat,(dV n rest k,()))))) n.mems.length (by(have h:rest.drop (cF n 0)=rest:=rfl);dsimp only;(try rw[h]);try rfl) ?_ ?_ (aW (by omega))
 .intro k hk;obtain⟨m,hm⟩:∃m,n.mems[k]?=some m:=⟨_,List.getElem?_eq_getElem hk⟩;have sm:=hsm m (List.mem_of_getElem? hm);have ho:=DL n hm;have ho2:=P8 n (k+1);have e15:=agp hs hm sm lat (dV n rest k) (rest.drop (cF n k)) (by rw[List.length_drop];omega);have hd:(rest.drop (cF n k)).drop (eE m)=rest.drop (cF n (k+1)):=by rw[vq,ho]
  have hroom:=Pu (dV n rest k) (fS m.word.toNat (rest.drop (cF n k)) (2^m.addr.toNat)) (by rw[DV];omega);have e:∀(r r':List Bool) (p q:Int) (c c':List (List aD)),r=r'->p=q->c=c'->(some (.inl (r,(p,nt n (lat,(c,()))))):Option (TL ue.σs⊕Out tY))=some (.inl (r',(q,nt n (lat,(c',()))))):=by rintro _ _ _ _ _ _ rfl rfl rfl;rfl
  exact av (al (show(k:Int)<((n.mems.map ak).length:Int) by omega)) (af e15 (aj hroom (e _ _ _ _ _ _ hd (aZ (show(k:Int)+1=((k+1:Nat):Int) by omega) (by omega)) (Pz n rest hm).symm)))
 .exact ao (aw (show ¬(n.mems.length:Int)<((n.mems.map ak).length:Int) by omega)) rfl
end
def jS(n:au)(ls:List Bool)(cs:List (List aD)):Int×(List Bool×List (List aD)):=
 if Pl.bP n≠0 then(Pl.bP n,([],[]))else if 64<cw n then(17,([],[]))else
 if(ls.length:Int)=(n.latches.length:Int)+cw n/\cs.length=0 then(0,(ls.take n.latches.length,dV n (ls.drop n.latches.length) n.mems.length))else(14,([],[]))
section
variable{n:au}(ft:Fit n)
include ft
theorem acw(ls:List Bool)(cs:List (List aD))(hl:ls.length<=100000) :
  vd (aQ n,((ls,(cs,())),()))=some (((jS n ls cs).2.1,((jS n ls cs).2.2,())),((jS n ls cs).1,())) /\
  Nl (aQ n,((ls,(cs,())),()))=some (((jS n ls cs).2.1,((jS n ls cs).2.2,())),((jS n ls cs).1,())):=by
 have c1:=pN ft;have c2:=Br ft;have d1:=qJ ft;have d2:=DD ft;have hla:=ft.lat.1;have hL:((n.latches.map aB).length:Int)=(n.latches.length:Int):=by rw[List.length_map]
 unfold jS;by_cases hc:Pl.bP n=0
 .rw[if_neg (fun q=>q hc)];by_cases h1:64<cw n
  .rw[if_pos h1];exact⟨af c1 (ao (cI (al hc)) (af d1 (av (al h1) rfl))),af c2 (ao (cI (al hc)) (af d2 (av (al h1) rfl)))⟩
  .rw[if_neg h1];obtain⟨V,hs,hcl2⟩:=Rb hc;have hsm:=DT hs (by rw[<-hcl2];omega);have hsum:((jC n.mems:Nat):Int)=cT n.mems:=PR n.mems 0 hsm;have hcells:cw n=cT n.mems:=by
    rw[hcl2];unfold fK;rw[hcl2]at h1;unfold fK at h1;split at h1
    .omega
    .rename_i q;rw[if_neg q]
   have hw:IntKind.wrap .i64 (((n.latches.map aB).length:Int)+cw n)=(n.latches.length:Int)+cw n:=by rw[hL];exact bf (by omega)
   by_cases h2:(ls.length:Int)=(n.latches.length:Int)+cw n
   .by_cases h3:cs.length=0
    .rw[if_pos ⟨h2,h3⟩];have hdl:jC n.mems<=(ls.drop n.latches.length).length:=by rw[List.length_drop];omega
     have f1:=af7 hs hsm (ls.take n.latches.length) (ls.drop n.latches.length) hdl;have f2:=ago hs hsm (ls.take n.latches.length) (ls.drop n.latches.length) hdl;have tn:Int.toNat (Int.ofNat (List.length (n.latches.map aB)))=n.latches.length:=by show(n.latches.map aB).length=_;rw[List.length_map]
     have b2:not (iQ (Int.ofNat (List.length ls)) (IntKind.wrap .i64 (((n.latches.map aB).length:Int)+cw n)))=false:=cI (al (by rw[hw];exact h2));have b3:aR false true (iL (0:Int) (Int.ofNat (List.length cs)))=false:=aw (show ¬(0:Int)<((cs.length:Nat):Int) by omega);have b4:aR false true (not (iQ (Int.ofNat (List.length cs)) (0:Int)))=false:=cI (al (show((cs.length:Nat):Int)=0 by omega));have b5:both (iE (0:Int) (Int.ofNat (List.length (n.latches.map aB)))) (iE (Int.ofNat (List.length (n.latches.map aB))) (Int.ofNat (List.length ls)))=true:=vR (al (show(0:Int)<=(((n.latches.map aB).length:Nat):Int) by omega)) (al (show(((n.latches.map aB).length:Nat):Int)<=((ls.length:Nat):Int) by omega));have tk:(ls.take n.latches.length).length<=100000:=by rw[List.length_take];omega
     have hcb:GD (List.take (Int.toNat (Int.ofNat (List.length (n.latches.map aB)))) ls,())=some (ls.take n.latches.length,()):=by rw[tn];exact aj (vK _ tk) rfl
     have f1':CX (List.drop (Int.toNat (Int.ofNat (List.length (n.latches.map aB)))) ls,(n.mems.map ak,(((n.mems.map ak).length:Int),((0:Int),(ls.take n.latches.length,([],()))))))=some (ls.take n.latches.length,(dV n (ls.drop n.latches.length) n.mems.length,())):=by rw[tn];exact f1
     have f2':BQ (List.drop (Int.toNat (Int.ofNat (List.length (n.latches.map aB)))) ls,((0:Int),nt n ([]++List.take (Int.toNat (Int.ofNat (List.length (n.latches.map aB)))) ls,([],()))))=some (ls.take n.latches.length,(dV n (ls.drop n.latches.length) n.mems.length,())):=by rw[tn];exact f2
     have hroom:room 1 (List.length ([]++List.take (Int.toNat (Int.ofNat (List.length (n.latches.map aB)))) ls))=true:=by rw[tn];exact vK _ tk
     exact⟨af c1 (ao (cI (al hc)) (af d1 (ao (aw h1) (ao b2 (ao b3 (aj b5 (af hcb (aj b5 (af f1' rfl))))))))),
      af c2 (ao (cI (al hc)) (af d2 (ao (aw h1) (af d2 (ao b2 (ao b4 (aj b5 (aj hroom (aj b5 (af f2' rfl))))))))))⟩
    .rw[if_neg (fun q=>h3 q.2)];have b2:not (iQ (Int.ofNat (List.length ls)) (IntKind.wrap .i64 (((n.latches.map aB).length:Int)+cw n)))=false:=cI (al (by rw[hw];exact h2));have b3:aR false true (iL (0:Int) (Int.ofNat (List.length cs)))=true:=al (show(0:Int)<((cs.length:Nat):Int) by omega);have b4:aR false true (not (iQ (Int.ofNat (List.length cs)) (0:Int)))=true:=fg (aw (show ¬((cs.length:Nat):Int)=0 by omega));exact⟨af c1 (ao (cI (al hc)) (af d1 (ao (aw h1) (ao b2 (av b3 rfl))))),
      af c2 (ao (cI (al hc)) (af d2 (ao (aw h1) (af d2 (ao b2 (av b4 rfl))))))⟩
   .rw[if_neg (fun q=>h2 q.1)];have b2:not (iQ (Int.ofNat (List.length ls)) (IntKind.wrap .i64 (((n.latches.map aB).length:Int)+cw n)))=true:=fg (aw (by rw[hw];exact h2));exact⟨af c1 (ao (cI (al hc)) (af d1 (ao (aw h1) (av b2 rfl)))),
     af c2 (ao (cI (al hc)) (af d2 (ao (aw h1) (af d2 (av b2 rfl)))))⟩
 .rw[if_pos hc];exact⟨af c1 (av (fg (aw hc)) rfl),af c2 (av (fg (aw hc)) rfl)⟩
end
set_option maxRecDepth 10000
theorem PC{V:Int}:∀(l pre:List Int),(pre++l).Nodup->(∀x∈l,1<=x/\x<=V)->V<=((pre++l).length:Int)->dup V pre l=0
 |[],pre,_,_,h=>by rw[List.append_nil]at h;rw[dup,if_neg (by omega)]|v::l,pre,hn,hr,h=>by
  obtain⟨r1,r2⟩:=hr v (List.mem_cons_self ..);have hc:pre.contains v=false:=by
   cases q:pre.contains v
   .rfl
   .have hv:v∈pre:=by simpa using q
    rw[List.nodup_append]at hn;exact absurd rfl (hn.2.2 v hv v (List.mem_cons_self ..))
  have e:pre++v::l=(pre++[v])++l:=by simp
  rw[dup,if_neg (by omega),if_neg (by rw[hc];simp)];exact PC l (pre++[v]) (by rw[<-e];exact hn) (fun x hx=>hr x (List.mem_cons_of_mem _ hx)) (by rw[<-e];exact h)
theorem oi{α:Type}{p:α->Bool}{l:List α}(h:∀x∈l,p x=false):l.any p=false:=by rw[Bool.eq_false_iff];intro q;obtain⟨x,hx,hp⟩:=List.any_eq_true.1 q;rw[h x hx]at hp;cases hp
theorem adQ{m:au}{V:Nat}(hs:bo m V)(hl:V<=(bp m).length):ca m=0:=by
 have e1:gg m=false:=by unfold gg;rw[oi (p:=d7) (fun x hx=>by unfold d7;obtain⟨_,_,_,_,_,_,h1,h2⟩:=hs.mems x hx;exact decide_eq_false (by omega))];obtain⟨l1,l2,l3,l4,l5⟩:=hs.lens;have:=hs.vars;have:=hs.v2;rw[decide_eq_false (by omega)];rfl
 have e2:m.mems.any dr=false:=oi (fun x hx=>by obtain⟨a1,a2,w1,w2,hr,hw,_,_⟩:=hs.mems x hx;unfold dr;rw[decide_eq_false (by omega),oi (p:=iC x) (fun r h=>by unfold iC;rw[hr r h];simp),oi (p:=gN x) (fun w h=>by obtain⟨h1,h2⟩:=hw w h;unfold gN;rw[h1,h2];simp)];rfl);have e3:m.latches.any eW=false:=oi (fun x hx=>by have:=hs.init x hx;unfold eW;exact decide_eq_false (by omega));have e4:dup m.vars [] (bp m)=0:=by rw[hs.vars];exact PC _ [] (by rw[List.nil_append];exact hs.nodup) hs.rng (by rw[List.nil_append];omega)
 have e5:(bG m).any (gZ m.vars)=false:=oi (fun x hx=>by have:=hs.lits x hx;have hv:=hs.vars;unfold gZ;exact decide_eq_false (by omega));unfold ca;rw[e1,e2,e3,if_neg (by decide),if_neg (by decide),if_neg (by decide),if_neg (by omega),e5];rfl
def Good(N:List Nd)(v:Nat):Prop:=∃k,bC N v k
theorem Pp{N:List Nd}{v:Nat}(h:∀x∈N,v∉x.to):Good N v:=⟨0,.free v h⟩
theorem Pq{N:List Nd}{x:Nd}{v:Nat}(hx:x∈N)(hv:v∈x.to)(h:∀u∈x.frm,Good N u):Good N v:=by
 classical
 exact⟨_,.node x v (fun u=>if q:Good N u then Classical.choose q else 0) hx hv (fun u hu=>by show bC N u (if q:Good N u then Classical.choose q else 0);rw[dif_pos (h u hu)];exact Classical.choose_spec (h u hu))⟩
theorem adr{n:au}{a:cM}(ha:a∈n.ands)(h1:Good (aF n) (a.a / 2).toNat)(h2:Good (aF n) (a.b / 2).toNat):Good (aF n) a.var.toNat:=by
 refine Pq (x:=(fm a).nd) ?_ (by simp[aJ.nd,fm]) ?_
 .unfold aF cP;exact List.mem_map_of_mem (List.mem_append_left _ (List.mem_map_of_mem ha))
 .intro u hu;simp only[aJ.nd,fm,List.map_cons,List.map_nil,List.mem_cons,List.not_mem_nil,or_false]at hu;rcases hu with rfl|rfl
  .exact h1
  .exact h2
section
variable{n:au}{V:Nat}(hs:bo n V)
include hs
theorem acF:Good (aF n) 0:=Pp (fun x hx h=>by obtain⟨y,hy,rfl⟩:=wE hx;obtain⟨v,hv,e⟩:=List.mem_map.1 h;have:=(hs.toRng hy hv).1;omega)
theorem DN{v:Int}(h:v∈n.inputs\/v∈n.latches.map (·.var)):Good (aF n) v.toNat:=by
 refine Pp (fun x hx h2=>?_);obtain⟨y,hy,rfl⟩:=wE hx;obtain⟨u,hu,e⟩:=List.mem_map.1 h2;have hu1:=(hs.toRng hy hu).1;have hu2:u∈n.mems.flatMap gD++n.ands.map (·.var):=by have:u∈(cP n).flatMap aJ.to:=List.mem_flatMap.2 ⟨y,hy,hu⟩;rw[EI]at this;exact List.mem_append.2 (List.mem_append.1 this).symm
 have hn:=hs.nodup;unfold bp at hn;have hn2:((n.inputs++n.latches.map (·.var))++(n.mems.flatMap gD++n.ands.map (·.var))).Nodup:=by simp only[List.append_assoc]at hn |-;exact hn
 have hv:v∈n.inputs++n.latches.map (·.var):=List.mem_append.2 h;have hr:=hs.rng v (by unfold bp;simp only[List.mem_append]at hv |-;exact .inl (.inl hv));rw[List.nodup_append]at hn2;exact hn2.2.2 v hv u hu2 (by omega)
theorem ac1(h0:ca n=0)(h:∀v,v<=V->Good (aF n) v):Pl.bP n=0:=by unfold Pl.bP;rw[if_neg (by omega),hs.vars,Int.toNat_natCast,if_pos ((oG hs.apart V).2 h)]
end
theorem O7{n:au}(h:Pl.bP n=0):∃V,bo n V/\ca n=0/\de (aF n) V=true:=by
 unfold Pl.bP at h;by_cases h0:ca n≠0
 .rw[if_pos h0]at h;exact absurd h h0
 rw[if_neg h0]at h;have h0:ca n=0:=by omega
 obtain⟨V,hs⟩:=lZ h0;refine⟨V,hs,h0,?_⟩;rw[hs.vars,Int.toNat_natCast]at h;by_cases q:de (aF n) V=true
 .exact q
 .rw[if_neg q]at h;omega
end Go.Proofs.YtkcpdpplobhpaaaGreat.V
end
