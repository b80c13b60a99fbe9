import Derived.Test.YtdcnjfbffckblaaGreatKNc
set_option linter.unusedVariables false
set_option linter.unusedSimpArgs false
set_option linter.unnecessarySimpa false
/- the document's topo (printed by VTool.lean). -/
namespace Go.Proofs.YtdcnjfbffckblaaGreat.V
open Go Go.RowKit
set_option maxRecDepth 1000000
abbrev Qm:List Sh:=[(.int .i64)]
abbrev FD:List Sh:=[(.int .i64)]
abbrev vY:=TL Qm->Option (TL FD)
abbrev rn:=Kd 106 Qm FD
def sx(a0:Int):Option (TL FD):=some ((IntKind.wrap .i64 (Int.tdiv a0 (2:Int))),())
def Y6  :rn:=⟨u1 sx,pD Tryz.func106 5 k0 e0 1 (sS l0) fun d=>by kernel_rfl⟩
def vZ:rn:=Y6
def nG:vY:=vZ.F
abbrev ER:Lay:={ T:=[(1,.int .i64),(2,.ptr 0 0),(5,.hd 1 (.int .i64)),(6,.int .i64)],h:=[(0,.cells [.int .i64,.int .i64,.bool,.fz cV,.fz bU] 87),(1,.arr (.int .i64) 3)],nx:=2 }
abbrev ma:List (Nat×LO):=[(0,.arr (.int .i64) 3)]
abbrev rW:List (Nat×LO):=[(0,.cells gR 27),(1,.arr aQ 105)]
abbrev PC:Lay:={ T:=[(4,.hd 0 (.int .i64)),(5,.fz aQ),(8,.int .i64),(9,.int .i64),(10,.int .i64)],h:=ma,nx:=1 }
abbrev PD:Lay:={ T:=[(4,.hd 0 (.int .i64)),(5,.fz aQ),(8,.int .i64),(9,.int .i64)],h:=ma,nx:=1 }
abbrev PF:Lay:={ T:=[(4,.hd 0 (.int .i64)),(5,.fz aQ),(6,.int .i64)],h:=ma,nx:=1 }
abbrev EM:List (Ev.Ex×Lay):=[((.exit 0),{ T:=[(5,.hd 0 (.int .i64))],h:=ma,nx:=1 })]
abbrev NS:=TL ER.σs->Option (Out EM)
abbrev NT:=Ld 0 34 (bL [0] (bw Tryz.f159)) ER EM
def xW(t1 t6 aB aI:Int)(aJ:Bool)(aL:List (Sh.T cV))(aR:List (Sh.T bU))(b1:List Int):Option (TL ER.σs⊕Out EM):=
 br (iL t6 aI)
 (
  ak (ah t1 (List.length aL))<|
  ak (room 8 (List.length (ap b1 ((IntKind.wrap .i64 (@HAdd.hAdd (Int) (Int) (Int) _ (gt cV aL t1).1 t6))::[]))))<|
  some (.inl (t1,((IntKind.wrap .i64 (t6+(1:Int))),(aB,(aI,(aJ,(aL,(aR,((ap b1 ((IntKind.wrap .i64 (@HAdd.hAdd (Int) (Int) (Int) _ (gt cV aL t1).1 t6))::[])),()))))))))))
 (
  some (.inr (b1,())))
def YV  :NT:=bO (u8 xW) (pL k0 e0 1 l0 fun d=>by kernel_rfl)
def E8:NS:=bj (u8 xW) NN
abbrev Ql:List Sh:=[an,(.int .i64)]
abbrev FA:List Sh:=[(.sl (.int .i64))]
abbrev Dm:=TL Ql->Option (TL FA)
abbrev vW:=Kd 159 Ql FA
def FC(L5:NS)(a0:Sh.T an)(a1:Int):Option (TL FA):=
 br (iL a1 (0:Int))
 (
  some ([],()))
 (
  br (bD false true (iE (Int.ofNat (List.length a0.2.2.2.1)) a1))
  (
   some ([],()))
  (
   az (L5 (a1,((0:Int),(a0.1,(a0.2.1,(a0.2.2.1,(a0.2.2.2.1,(a0.2.2.2.2.1,([],()))))))))) fun x0=>
   some (x0.1,())))
def Y2(M5:NT):vW:=⟨u2 (FC M5.L),pD Tryz.func159 34 k0 e0 1 (sS (sC M5 l0)) fun d=>by kernel_rfl⟩
def Dn:vW:=Y2  YV
def PR:Dm:=Dn.F
abbrev xw:Lay:={ T:=[(1,.ptr 0 0),(3,.hd 1 aQ),(6,.int .i64)],h:=rW,nx:=2 }
abbrev xk:List (Ev.Ex×Lay):=[((.exit 2),{ T:=[(3,.hd 0 aQ)],h:=[(0,.arr aQ 105)],nx:=1 })]
abbrev Nv:=TL xw.σs->Option (Out xk)
abbrev CS:=Ld 0 75 (bL [1] (bw Tryz.f128)) xw xk
abbrev EE:Lay:={ T:=[(1,.ptr 0 0),(3,.hd 1 aQ),(6,.int .i64),(7,.int .i64)],h:=rW,nx:=2 }
abbrev ED:List (Ev.Ex×Lay):=[((.exit 4),{ T:=[(1,.ptr 0 0),(3,.hd 1 aQ),(6,.int .i64)],h:=rW,nx:=2 })]
abbrev Cw:=TL EE.σs->Option (Out ED)
abbrev vy:=Ld 0 75 (bL [1,0] (bw Tryz.f128)) EE ED
abbrev EL:Lay:={ T:=[(1,.ptr 0 0),(3,.hd 1 aQ),(4,.int .i64)],h:=rW,nx:=2 }
abbrev EI:List (Ev.Ex×Lay):=[((.exit 0),{ T:=[(1,.ptr 0 0),(3,.hd 1 aQ)],h:=rW,nx:=2 })]
abbrev Nw:=TL EL.σs->Option (Out EI)
abbrev Nx:=Ld 0 75 (bL [0] (bw Tryz.f128)) EL EI
def xR(t4 aB:Int)(aI:List Int)(aJ:List (Sh.T al))(aL aR aZ:List Int)(aq:List (Sh.T an))(aO:List (Sh.T al))(b1:List (Sh.T aQ)):Option (TL EL.σs⊕Out EI):=
 br (iL t4 (Int.ofNat (List.length aO)))
 (
  ak (ah t4 (List.length aO))<|
  ak (room 72 (List.length (ap b1 ((false,((0:Int),(t4,(((gt al aO t4).2.1::((gt al aO t4).2.2.1::[])),(((gt al aO t4).1::[]),())))))::[]))))<|
  some (.inl ((IntKind.wrap .i64 (t4+(1:Int))),(aB,(aI,(aJ,(aL,(aR,(aZ,(aq,(aO,((ap b1 ((false,((0:Int),(t4,(((gt al aO t4).2.1::((gt al aO t4).2.2.1::[])),(((gt al aO t4).1::[]),())))))::[])),()))))))))))))
 (
  some (.inr (aB,(aI,(aJ,(aL,(aR,(aZ,(aq,(aO,(b1,())))))))))))
def YF  :Nx:=bO (pW xR) (pL k0 e0 1 l0 fun d=>by kernel_rfl)
def PX:Nw:=bj (pW xR) NN
def xM(F0:Dm)(t6 t7 aB:Int)(aI:List Int)(aJ:List (Sh.T al))(aL aR aZ:List Int)(aq:List (Sh.T an))(aO:List (Sh.T al))(b1:List (Sh.T aQ)):Option (TL EE.σs⊕Out ED):=
 ak (ah t6 (List.length aq))<|
 br (iL t7 (Int.ofNat (List.length (gt an aq t6).2.2.2.1)))
 (
  ak (ah t6 (List.length aq))<|
  ak (ah t7 (List.length (gt an aq t6).2.2.2.1))<|
  ak (ah t6 (List.length aq))<|
  az (F0 (((gt an aq t6).1,((gt an aq t6).2.1,((gt an aq t6).2.2.1,((gt an aq t6).2.2.2.1,((gt an aq t6).2.2.2.2.1,()))))),(t7,()))) fun x0=>
  ak (room 72 (List.length (ap b1 ((true,(t6,(t7,((gt cV (gt an aq t6).2.2.2.1 t7).2.1,(x0.1,())))))::[]))))<|
  some (.inl (t6,((IntKind.wrap .i64 (t7+(1:Int))),(aB,(aI,(aJ,(aL,(aR,(aZ,(aq,(aO,((ap b1 ((true,(t6,(t7,((gt cV (gt an aq t6).2.2.2.1 t7).2.1,(x0.1,())))))::[])),())))))))))))))
 (
  some (.inr (t6,(aB,(aI,(aJ,(aL,(aR,(aZ,(aq,(aO,(b1,()))))))))))))
def Yn(c0:vW) :vy:=bO (jh (xM c0.F)) (pL (kD c0 k0) e0 1 l0 fun d=>by kernel_rfl)
def MY:vy:=Yn Dn
def EP:Cw:=bj (jh (xM PR)) NN
def xQ(L11:Cw)(t6 aB:Int)(aI:List Int)(aJ:List (Sh.T al))(aL aR aZ:List Int)(aq:List (Sh.T an))(aO:List (Sh.T al))(b1:List (Sh.T aQ)):Option (TL xw.σs⊕Out xk):=
 br (iL t6 (Int.ofNat (List.length aq)))
 (
  az (L11 (t6,((0:Int),(aB,(aI,(aJ,(aL,(aR,(aZ,(aq,(aO,(b1,())))))))))))) fun x0=>
  some (.inl ((IntKind.wrap .i64 (@HAdd.hAdd (Int) (Int) (Int) _ x0.1 (1:Int))),x0.2)))
 (
  some (.inr (b1,())))
def YG(M11:vy):CS:=bO (pW (xQ M11.L)) (pL k0 e0 1 (sC M11 l0) fun d=>by kernel_rfl)
def YE:CS:=YG  MY
def PW:Nv:=bj (pW (xQ EP)) NN
abbrev Qb:List Sh:=[bE]
abbrev Fh:List Sh:=[(.sl aQ)]
abbrev Da:=TL Qb->Option (TL Fh)
abbrev vT:=Kd 128 Qb Fh
def Zl7(F0:Dm)(L3:Nw)(L8:Nv)(L11:Cw)(a0:Sh.T bE):Option (TL Fh):=
 az (L3 ((0:Int),(a0.1,(a0.2.1,(a0.2.2.1,(a0.2.2.2.1,(a0.2.2.2.2.1,(a0.2.2.2.2.2.1,(a0.2.2.2.2.2.2.1,(a0.2.2.2.2.2.2.2.1,([],()))))))))))) fun x0=>
 az (L8 ((0:Int),x0)) fun x1=>
 some (x1.1,())
def YT(c0:vW)(M3:Nx)(M8:CS)(M11:vy):vT:=⟨u1 (Zl7 c0.F M3.L M8.L M11.L),pD Tryz.func128 75 (kD c0 k0) e0 1 (sS (sC M3 (sC M8 l0))) fun d=>by kernel_rfl⟩
def Db:vT:=YT Dn YF YE MY
def PK:Da:=Db.F
abbrev r9:Lay:={ T:=[(1,.fz (.int .i64)),(2,.ptr 0 0),(5,.int .i64),(6,.int .i64)],h:=[(0,.cells [.bool,.int .i64,.int .i64,.fz (.int .i64),.fz (.int .i64)] 105)],nx:=1 }
abbrev rZ:List (Ev.Ex×Lay):=[(.ret,{ T:=[(4,.int .i64)],h:=[],nx:=0 }),((.exit 0),{ T:=[(5,.int .i64)],h:=[],nx:=0 })]
abbrev Nq:=TL r9.σs->Option (Out rZ)
abbrev CP:=Ld 0 31 (bL [0] (bw Tryz.f155)) r9 rZ
def FM(F0:vY)(t1:List Int)(t5 t6:Int)(aB:Bool)(aI aJ:Int)(aL aR:List Int):Option (TL r9.σs⊕Out rZ):=
 br (iL t6 (Int.ofNat (List.length aL)))
 (
  ak (ah t6 (List.length aL))<|
  az (F0 ((gt (.int .i64) aL t6),())) fun x0=>
  ak (ah x0.1 (List.length t1))<|
  br (iL (gt (.int .i64) t1 x0.1) (0:Int))
  (
   some (.inr (.inl ((Int.negSucc 0),()))))
  (
   some (.inl (t1,((fV (iL t5 (gt (.int .i64) t1 x0.1)) (gt (.int .i64) t1 x0.1) t5),((IntKind.wrap .i64 (t6+(1:Int))),(aB,(aI,(aJ,(aL,(aR,())))))))))))
 (
  some (.inr (.inr (t5,()))))
def YB(c0:rn) :CP:=bO (u8 (FM c0.F)) (pL (kD c0 k0) e0 1 l0 fun d=>by kernel_rfl)
def YA:CP:=YB vZ
def Zfs:Nq:=bj (u8 (FM nG)) NN
abbrev Qa:List Sh:=[aQ,(.sl (.int .i64))]
abbrev Fg:List Sh:=[(.int .i64)]
abbrev C7:=TL Qa->Option (TL Fg)
abbrev vS:=Kd 155 Qa Fg
def Zl6(F0:vY)(L3:Nq)(a0:Sh.T aQ)(a1:List Int):Option (TL Fg):=
 az (L3 (a1,((0:Int),((0:Int),a0)))) fun x0=>
 (match x0 with|.inl x1=>some (x1.1,())|.inr x1=>some ((IntKind.wrap .i64 (@HAdd.hAdd (Int) (Int) (Int) _ x1.1 (1:Int))),())
 )
def YQ(c0:rn)(M3:CP):vS:=⟨u2 (Zl6 c0.F M3.L),pD Tryz.func155 31 (kD c0 k0) e0 1 (sS (sC M3 l0)) fun d=>by kernel_rfl⟩
def C8:vS:=YQ vZ YA
def EB:C7:=C8.F
abbrev xg:Lay:=PD
abbrev xe:List (Ev.Ex×Lay):=[((.exit 4),{ T:=[(4,.hd 0 (.int .i64)),(8,.int .i64)],h:=ma,nx:=1 })]
abbrev ML:=TL xg.σs->Option (Out xe)
abbrev Ck:=Ld 0 94 (bL [1] (bw Tryz.f82)) xg xe
abbrev w0:Lay:=PC
abbrev wX:List (Ev.Ex×Lay):=[((.exit 6),PD)]
abbrev Ci:=TL w0.σs->Option (Out wX)
abbrev vm:=Ld 0 94 (bL [1,0] (bw Tryz.f82)) w0 wX
abbrev wV:Lay:={ T:=[(4,.hd 0 (.int .i64)),(5,.fz aQ),(8,.int .i64),(9,.int .i64),(10,.int .i64),(11,.int .i64),(12,.int .i64)],h:=ma,nx:=1 }
abbrev wU:List (Ev.Ex×Lay):=[((.exit 8),PC)]
abbrev Ch:=TL wV.σs->Option (Out wU)
abbrev Cj:=Ld 0 94 (bL [1,0,0] (bw Tryz.f82)) wV wU
abbrev xl:Lay:=PF
abbrev xf:List (Ev.Ex×Lay):=[((.exit 0),{ T:=[(4,.hd 0 (.int .i64)),(5,.fz aQ)],h:=ma,nx:=1 })]
abbrev MZ:=TL xl.σs->Option (Out xf)
abbrev CA:=Ld 0 94 (bL [0] (bw Tryz.f82)) xl xf
abbrev w9:Lay:={ T:=[(4,.hd 0 (.int .i64)),(5,.fz aQ),(6,.int .i64),(7,.int .i64)],h:=ma,nx:=1 }
abbrev wY:List (Ev.Ex×Lay):=[((.exit 2),PF)]
abbrev Cy:=TL w9.σs->Option (Out wY)
abbrev Cz:=Ld 0 94 (bL [0,0] (bw Tryz.f82)) w9 wY
def xN(t5:List (Sh.T aQ))(t6 t7:Int)(b0:List Int):Option (TL w9.σs⊕Out wY):=
 ak (ah t6 (List.length t5))<|
 br (iL t7 (Int.ofNat (List.length (gt aQ t5 t6).2.2.2.2.1)))
 (
  ak (ah t6 (List.length t5))<|
  ak (ah t7 (List.length (gt aQ t5 t6).2.2.2.2.1))<|
  ak (ah (gt (.int .i64) (gt aQ t5 t6).2.2.2.2.1 t7) (List.length b0))<|
  some (.inl (t5,(t6,((IntKind.wrap .i64 (t7+(1:Int))),((List.set b0 (Int.toNat (gt (.int .i64) (gt aQ t5 t6).2.2.2.2.1 t7)) (Int.negSucc 0)),()))))))
 (
  some (.inr (t5,(t6,(b0,())))))
def M0  :Cz:=bO (u4 xN) (pL k0 e0 1 l0 fun d=>by kernel_rfl)
def xG:Cy:=bj (u4 xN) NN
def xO(L9:Cy)(t5:List (Sh.T aQ))(t6:Int)(b0:List Int):Option (TL xl.σs⊕Out xf):=
 br (iL t6 (Int.ofNat (List.length t5)))
 (
  az (L9 (t5,(t6,((0:Int),(b0,()))))) fun x0=>
  some (.inl (x0.1,((IntKind.wrap .i64 (@HAdd.hAdd (Int) (Int) (Int) _ x0.2.1 (1:Int))),(x0.2.2.1,())))))
 (
  some (.inr (t5,(b0,()))))
def Yp(M9:Cz):CA:=bO (u3 (xO M9.L)) (pL k0 e0 1 (sC M9 l0) fun d=>by kernel_rfl)
def Yo:CA:=Yp  M0
def E1:MZ:=bj (u3 (xO xG)) NN
def xI(t5:List (Sh.T aQ))(t8 t9 t10 t11 t12:Int)(b0:List Int):Option (TL wV.σs⊕Out wU):=
 ak (ah t10 (List.length t5))<|
 br (iL t12 (Int.ofNat (List.length (gt aQ t5 t10).2.2.2.2.1)))
 (
  ak (ah t10 (List.length t5))<|
  ak (ah t12 (List.length (gt aQ t5 t10).2.2.2.2.1))<|
  ak (ah (gt (.int .i64) (gt aQ t5 t10).2.2.2.2.1 t12) (List.length b0))<|
  some (.inl (t5,(t8,(t9,(t10,(t11,((IntKind.wrap .i64 (t12+(1:Int))),((List.set b0 (Int.toNat (gt (.int .i64) (gt aQ t5 t10).2.2.2.2.1 t12)) t11),())))))))))
 (
  some (.inr (t5,(t8,(t9,(t10,(b0,())))))))
def MM  :Cj:=bO (u7 xI) (pL k0 e0 1 l0 fun d=>by kernel_rfl)
def xc:Ch:=bj (u7 xI) NN
def xJ(F0:C7)(L24:Ch)(t5:List (Sh.T aQ))(t8 t9 t10:Int)(b0:List Int):Option (TL w0.σs⊕Out wX):=
 br (iL t10 (Int.ofNat (List.length t5)))
 (
  ak (ah t10 (List.length t5))<|
  az (F0 (((gt aQ t5 t10).1,((gt aQ t5 t10).2.1,((gt aQ t5 t10).2.2.1,((gt aQ t5 t10).2.2.2.1,((gt aQ t5 t10).2.2.2.2.1,()))))),(b0,()))) fun x0=>
  br (iL x0.1 (0:Int))
  (
   az (L24 (t5,((IntKind.wrap .i64 (t8+(1:Int))),(t9,(t10,(x0.1,((0:Int),(b0,())))))))) fun x1=>
   some (.inl (x1.1,(x1.2.1,(x1.2.2.1,((IntKind.wrap .i64 (@HAdd.hAdd (Int) (Int) (Int) _ x1.2.2.2.1 (1:Int))),(x1.2.2.2.2.1,())))))))
  (
   az (L24 (t5,(t8,(t9,(t10,(x0.1,((0:Int),(b0,())))))))) fun x1=>
   some (.inl (x1.1,(x1.2.1,(x1.2.2.1,((IntKind.wrap .i64 (@HAdd.hAdd (Int) (Int) (Int) _ x1.2.2.2.1 (1:Int))),(x1.2.2.2.2.1,()))))))))
 (
  some (.inr (t5,(t8,(t9,(b0,()))))))
def Yg(c0:vS)(M24:Cj):vm:=bO (u5 (xJ c0.F M24.L)) (pL (kD c0 k0) e0 1 (sC M24 l0) fun d=>by kernel_rfl)
def MN:vm:=Yg C8 MM
def xy:Ci:=bj (u5 (xJ EB xc)) NN
def xK(L18:Ci)(t5:List (Sh.T aQ))(t8 t9:Int)(b0:List Int):Option (TL xg.σs⊕Out xe):=
 br (iE t9 (Int.ofNat (List.length t5)))
 (
  az (L18 (t5,((0:Int),(t9,((0:Int),(b0,())))))) fun x0=>
  some (.inl (x0.1,(x0.2.1,((IntKind.wrap .i64 (@HAdd.hAdd (Int) (Int) (Int) _ x0.2.2.1 (1:Int))),(x0.2.2.2.1,()))))))
 (
  some (.inr (t8,(b0,()))))
def Yh(M18:vm):Ck:=bO (u4 (xK M18.L)) (pL k0 e0 1 (sC M18 l0) fun d=>by kernel_rfl)
def Yf:Ck:=Yh  MN
def EX:ML:=bj (u4 (xK xy)) NN
abbrev P8:List Sh:=[bE]
abbrev Fb:List Sh:=[(.sl (.int .i64)),.bool]
abbrev CT:=TL P8->Option (TL Fb)
abbrev vH:=Kd 82 P8 Fb
def Fi(F0:C7)(F1:Da)(F2:NQ)(L6:MZ)(L9:Cy)(L14:ML)(L18:Ci)(L24:Ch)(a0:Sh.T bE):Option (TL Fb):=
 az (F2 (a0,())) fun x0=>
 br (Bool.not (iQ x0.1 (0:Int)))
 (
  some ([],(false,())))
 (
  ak (both (iE (0:Int) (IntKind.wrap .i64 (@HAdd.hAdd (Int) (Int) (Int) _ a0.1 (1:Int)))) (both (iE (IntKind.wrap .i64 (@HAdd.hAdd (Int) (Int) (Int) _ a0.1 (1:Int))) (IntKind.wrap .i64 (@HAdd.hAdd (Int) (Int) (Int) _ a0.1 (1:Int)))) (iE ((Int.ofNat 8)*(IntKind.wrap .i64 (@HAdd.hAdd (Int) (Int) (Int) _ a0.1 (1:Int)))) (281474976710656:Int))))<|
  az (F1 (a0,())) fun x1=>
  az (L6 (x1.1,((0:Int),((List.replicate (Int.toNat (IntKind.wrap .i64 (@HAdd.hAdd (Int) (Int) (Int) _ a0.1 (1:Int)))) (Sh.zero (.int .i64))),())))) fun x2=>
  az (L14 (x2.1,((0:Int),((0:Int),(x2.2.1,()))))) fun x3=>
  br (iL (0:Int) x3.1)
  (
   some ([],(false,())))
  (
   some (x3.2.1,(true,()))))
def YH(c0:vS)(c1:vT)(c2:Dc)(M6:CA)(M9:Cz)(M14:Ck)(M18:vm)(M24:Cj):vH:=⟨u1 (Fi c0.F c1.F c2.F M6.L M9.L M14.L M18.L M24.L),pD Tryz.func82 94 (kD c0 (kD c1 (kD c2 k0))) e0 1 (sS (sC M6 (sC M14 l0))) fun d=>by kernel_rfl⟩
def CU:vH:=YH C8 Db NR Yo M0 Yf MN MM
def Zfg:CT:=CU.F
abbrev Qc:List Sh:=[bE]
abbrev Fj:List Sh:=[(.int .i64)]
abbrev Md:=TL Qc->Option (TL Fj)
abbrev B1:=Kd 25 Qc Fj
def Zl8(F0:CT)(F1:NQ)(a0:Sh.T bE):Option (TL Fj):=
 az (F1 (a0,())) fun x0=>
 br (Bool.not (iQ x0.1 (0:Int)))
 (
  some (x0.1,()))
 (
  az (F0 (a0,())) fun x1=>
  br (Bool.not x1.2.1)
  (
   some ((8:Int),()))
  (
   some ((0:Int),())))
def YU(c0:vH)(c1:Dc) :B1:=⟨u1 (Zl8 c0.F c1.F),pD Tryz.func25 18 (kD c0 (kD c1 k0)) e0 1 (sS l0) fun d=>by kernel_rfl⟩
def Me:B1:=YU CU NR
def Zb7:Md:=Me.F
