import Derived.Test.YtkcpdpplobhpaaaGreatKNc
set_option linter.unusedVariables false
set_option linter.unusedSimpArgs false
set_option linter.unnecessarySimpa false
/- the document's topo (printed by VTool.lean). -/
namespace Go.Proofs.YtkcpdpplobhpaaaGreat.V
open Go Go.RowKit
set_option maxRecDepth 1000000
abbrev Yw:List Sh:=[(.int .i64)]
abbrev KP:List Sh:=[(.int .i64)]
abbrev G5:=TL Yw->Option (TL KP)
abbrev x9:=Kd 202 Yw KP
def KW(a0:Int):Option (TL KP):=some ((IntKind.wrap .i64 (Int.tdiv a0 (2:Int))),())
def aky  :x9:=⟨u1 KW,pD Tryz.func202 5 k0 e0 1 (sS l0) fun d=>by kernel_rfl⟩
def G6:x9:=aky
def sX:G5:=G6.F
abbrev Kf:ae:={ T:=[(1,.int .i64),(2,.ptr 0 0),(5,.hd 1 (.int .i64)),(6,.int .i64)],h:=[(0,.cells [.int .i64,.int .i64,.bool,.fz bJ,.fz bj] 116),(1,.arr (.int .i64) 3)],nx:=2 }
abbrev mu:List (Nat×LO):=[(0,.arr (.int .i64) 3)]
abbrev sK:List (Nat×LO):=[(0,.cells ep 27),(1,.arr cp 237)]
abbrev XH:ae:={ T:=[(4,.hd 0 (.int .i64)),(5,.fz cp),(8,.int .i64),(9,.int .i64),(10,.int .i64)],h:=mu,nx:=1 }
abbrev XI:ae:={ T:=[(4,.hd 0 (.int .i64)),(5,.fz cp),(8,.int .i64),(9,.int .i64)],h:=mu,nx:=1 }
abbrev XJ:ae:={ T:=[(4,.hd 0 (.int .i64)),(5,.fz cp),(6,.int .i64)],h:=mu,nx:=1 }
abbrev Ka:List (Ev.Ex×ae):=[((.exit 0),{ T:=[(5,.hd 0 (.int .i64))],h:=mu,nx:=1 })]
abbrev VA:=TL Kf.σs->Option (Out Ka)
abbrev VB:=Ld 0 34 (aT [0] (aG Tryz.f185)) Kf Ka
def AB(t1 t6 b0_0 b0_1:Int)(b0_2:Bool)(b0_3:List (Sh.T bJ))(b0_4:List (Sh.T bj))(b1:List Int):Option (TL Kf.σs⊕Out Ka):=
 br (iL t6 b0_1)
 (
  ah (ar t1 (List.length b0_3))<|
  ah (room 8 (List.length (ap b1 ((IntKind.wrap .i64 (@HAdd.hAdd (Int) (Int) (Int) _ (gt bJ b0_3 t1).1 t6))::[]))))<|
  some (.inl (t1,((IntKind.wrap .i64 (t6+(1:Int))),(b0_0,(b0_1,(b0_2,(b0_3,(b0_4,((ap b1 ((IntKind.wrap .i64 (@HAdd.hAdd (Int) (Int) (Int) _ (gt bJ b0_3 t1).1 t6))::[])),()))))))))))
 (
  some (.inr (b1,())))
def akh  :VB:=aU (u8 AB) (pL k0 e0 1 l0 fun d=>by kernel_rfl)
def Ks:VA:=aE (u8 AB) NN
abbrev Yu:List Sh:=[ab,(.int .i64)]
abbrev KL:List Sh:=[(.sl (.int .i64))]
abbrev H8:=TL Yu->Option (TL KL)
abbrev yo:=Kd 185 Yu KL
def KO(L5:VA)(a0:Sh.T ab)(a1:Int):Option (TL KL):=
 br (iL a1 (0:Int))
 (
  some ([],()))
 (
  br (aR false true (iE (Int.ofNat (List.length a0.2.2.2.1)) a1))
  (
   some ([],()))
  (
   ai (L5 (a1,((0:Int),(a0.1,(a0.2.1,(a0.2.2.1,(a0.2.2.2.1,(a0.2.2.2.2.1,([],()))))))))) fun x0=>
   some (x0.1,())))
def aks(M5:VB):yo:=⟨u2 (KO M5.L),pD Tryz.func185 34 k0 e0 1 (sS (sC M5 l0)) fun d=>by kernel_rfl⟩
def H9:yo:=aks  akh
def X9:H8:=H9.F
abbrev zW:ae:={ T:=[(1,.ptr 0 0),(3,.hd 1 cp),(6,.int .i64)],h:=sK,nx:=2 }
abbrev zP:List (Ev.Ex×ae):=[((.exit 2),{ T:=[(3,.hd 0 cp)],h:=[(0,.arr cp 237)],nx:=1 })]
abbrev Vc:=TL zW.σs->Option (Out zP)
abbrev Hk:=Ld 0 75 (aT [1] (aG Tryz.f162)) zW zP
abbrev J2:ae:={ T:=[(1,.ptr 0 0),(3,.hd 1 cp),(6,.int .i64),(7,.int .i64)],h:=sK,nx:=2 }
abbrev J1:List (Ev.Ex×ae):=[((.exit 4),{ T:=[(1,.ptr 0 0),(3,.hd 1 cp),(6,.int .i64)],h:=sK,nx:=2 })]
abbrev G7:=TL J2.σs->Option (Out J1)
abbrev xX:=Ld 0 75 (aT [1,0] (aG Tryz.f162)) J2 J1
abbrev J9:ae:={ T:=[(1,.ptr 0 0),(3,.hd 1 cp),(4,.int .i64)],h:=sK,nx:=2 }
abbrev J6:List (Ev.Ex×ae):=[((.exit 0),{ T:=[(1,.ptr 0 0),(3,.hd 1 cp)],h:=sK,nx:=2 })]
abbrev Vd:=TL J9.σs->Option (Out J6)
abbrev Ve:=Ld 0 75 (aT [0] (aG Tryz.f162)) J9 J6
def At(t4 b0_0:Int)(b0_1:List Int)(b0_2:List (Sh.T aa))(b0_3 b0_4 b0_5:List Int)(b0_6:List (Sh.T ab))(b0_7:List (Sh.T aa))(b1:List (Sh.T cp)):Option (TL J9.σs⊕Out J6):=
 br (iL t4 (Int.ofNat (List.length b0_7)))
 (
  ah (ar t4 (List.length b0_7))<|
  ah (room 72 (List.length (ap b1 ((false,((0:Int),(t4,(((gt aa b0_7 t4).2.1::((gt aa b0_7 t4).2.2.1::[])),(((gt aa b0_7 t4).1::[]),())))))::[]))))<|
  some (.inl ((IntKind.wrap .i64 (t4+(1:Int))),(b0_0,(b0_1,(b0_2,(b0_3,(b0_4,(b0_5,(b0_6,(b0_7,((ap b1 ((false,((0:Int),(t4,(((gt aa b0_7 t4).2.1::((gt aa b0_7 t4).2.2.1::[])),(((gt aa b0_7 t4).1::[]),())))))::[])),()))))))))))))
 (
  some (.inr (b0_0,(b0_1,(b0_2,(b0_3,(b0_4,(b0_5,(b0_6,(b0_7,(b1,())))))))))))
def ajZ  :Ve:=aU (gG At) (pL k0 e0 1 l0 fun d=>by kernel_rfl)
def Yh:Vd:=aE (gG At) NN
def Aj(F0:H8)(t6 t7 b0_0:Int)(b0_1:List Int)(b0_2:List (Sh.T aa))(b0_3 b0_4 b0_5:List Int)(b0_6:List (Sh.T ab))(b0_7:List (Sh.T aa))(b1:List (Sh.T cp)):Option (TL J2.σs⊕Out J1):=
 ah (ar t6 (List.length b0_6))<|
 br (iL t7 (Int.ofNat (List.length (gt ab b0_6 t6).2.2.2.1)))
 (
  ah (ar t6 (List.length b0_6))<|
  ah (ar t7 (List.length (gt ab b0_6 t6).2.2.2.1))<|
  ah (ar t6 (List.length b0_6))<|
  ai (F0 (((gt ab b0_6 t6).1,((gt ab b0_6 t6).2.1,((gt ab b0_6 t6).2.2.1,((gt ab b0_6 t6).2.2.2.1,((gt ab b0_6 t6).2.2.2.2.1,()))))),(t7,()))) fun x0=>
  ah (room 72 (List.length (ap b1 ((true,(t6,(t7,((gt bJ (gt ab b0_6 t6).2.2.2.1 t7).2.1,(x0.1,())))))::[]))))<|
  some (.inl (t6,((IntKind.wrap .i64 (t7+(1:Int))),(b0_0,(b0_1,(b0_2,(b0_3,(b0_4,(b0_5,(b0_6,(b0_7,((ap b1 ((true,(t6,(t7,((gt bJ (gt ab b0_6 t6).2.2.2.1 t7).2.1,(x0.1,())))))::[])),())))))))))))))
 (
  some (.inr (t6,(b0_0,(b0_1,(b0_2,(b0_3,(b0_4,(b0_5,(b0_6,(b0_7,(b1,()))))))))))))
def ajK(c0:yo) :xX:=aU (eH (Aj c0.F)) (pL (kD c0 k0) e0 1 l0 fun d=>by kernel_rfl)
def UW:xX:=ajK H9
def Ke:G7:=aE (eH (Aj X9)) NN
def Ar(L11:G7)(t6 b0_0:Int)(b0_1:List Int)(b0_2:List (Sh.T aa))(b0_3 b0_4 b0_5:List Int)(b0_6:List (Sh.T ab))(b0_7:List (Sh.T aa))(b1:List (Sh.T cp)):Option (TL zW.σs⊕Out zP):=
 br (iL t6 (Int.ofNat (List.length b0_6)))
 (
  ai (L11 (t6,((0:Int),(b0_0,(b0_1,(b0_2,(b0_3,(b0_4,(b0_5,(b0_6,(b0_7,(b1,())))))))))))) fun x0=>
  some (.inl ((IntKind.wrap .i64 (@HAdd.hAdd (Int) (Int) (Int) _ x0.1 (1:Int))),x0.2)))
 (
  some (.inr (b1,())))
def aj0(M11:xX):Hk:=aU (gG (Ar M11.L)) (pL k0 e0 1 (sC M11 l0) fun d=>by kernel_rfl)
def ajY:Hk:=aj0  UW
def Yg:Vc:=aE (gG (Ar Ke)) NN
abbrev Yq:List Sh:=[ba]
abbrev KD:List Sh:=[(.sl cp)]
abbrev UC:=TL Yq->Option (TL KD)
abbrev GM:=Kd 162 Yq KD
def Zl7(F0:H8)(L3:Vd)(L8:Vc)(L11:G7)(a0:Sh.T ba):Option (TL KD):=
 ai (L3 ((0:Int),(a0.1,(a0.2.1,(a0.2.2.1,(a0.2.2.2.1,(a0.2.2.2.2.1,(a0.2.2.2.2.2.1,(a0.2.2.2.2.2.2.1,(a0.2.2.2.2.2.2.2.1,([],()))))))))))) fun x0=>
 ai (L8 ((0:Int),x0)) fun x1=>
 some (x1.1,())
def akf(c0:yo)(M3:Ve)(M8:Hk)(M11:xX):GM:=⟨u1 (Zl7 c0.F M3.L M8.L M11.L),pD Tryz.func162 75 (kD c0 k0) e0 1 (sS (sC M3 (sC M8 l0))) fun d=>by kernel_rfl⟩
def UD:GM:=akf H9 ajZ ajY UW
def XZ:UC:=UD.F
abbrev sW:ae:={ T:=[(1,.fz (.int .i64)),(2,.ptr 0 0),(5,.int .i64),(6,.int .i64)],h:=[(0,.cells [.bool,.int .i64,.int .i64,.fz (.int .i64),.fz (.int .i64)] 237)],nx:=1 }
abbrev sV:List (Ev.Ex×ae):=[(.ret,{ T:=[(4,.int .i64)],h:=[],nx:=0 }),((.exit 0),{ T:=[(5,.int .i64)],h:=[],nx:=0 })]
abbrev Vb:=TL sW.σs->Option (Out sV)
abbrev Hj:=Ld 0 31 (aT [0] (aG Tryz.f163)) sW sV
def K3(F0:G5)(t1:List Int)(t5 t6:Int)(b0_0:Bool)(b0_1 b0_2:Int)(b0_3 b0_4:List Int):Option (TL sW.σs⊕Out sV):=
 br (iL t6 (Int.ofNat (List.length b0_3)))
 (
  ah (ar t6 (List.length b0_3))<|
  ai (F0 ((gt (.int .i64) b0_3 t6),())) fun x0=>
  ah (ar x0.1 (List.length t1))<|
  br (iL (gt (.int .i64) t1 x0.1) (0:Int))
  (
   some (.inr (.inl ((Int.negSucc 0),()))))
  (
   some (.inl (t1,((bO (iL t5 (gt (.int .i64) t1 x0.1)) (gt (.int .i64) t1 x0.1) t5),((IntKind.wrap .i64 (t6+(1:Int))),(b0_0,(b0_1,(b0_2,(b0_3,(b0_4,())))))))))))
 (
  some (.inr (.inr (t5,()))))
def ajX(c0:x9) :Hj:=aU (u8 (K3 c0.F)) (pL (kD c0 k0) e0 1 l0 fun d=>by kernel_rfl)
def ajW:Hj:=ajX G6
def Zfs:Vb:=aE (u8 (K3 sX)) NN
abbrev Yp:List Sh:=[cp,(.sl (.int .i64))]
abbrev KC:List Sh:=[(.int .i64)]
abbrev HA:=TL Yp->Option (TL KC)
abbrev yi:=Kd 163 Yp KC
def Zl6(F0:G5)(L3:Vb)(a0:Sh.T cp)(a1:List Int):Option (TL KC):=
 ai (L3 (a1,((0:Int),((0:Int),a0)))) fun x0=>
 (match x0 with|.inl x1=>some (x1.1,())|.inr x1=>some ((IntKind.wrap .i64 (@HAdd.hAdd (Int) (Int) (Int) _ x1.1 (1:Int))),())
 )
def ake(c0:x9)(M3:Hj):yi:=⟨u2 (Zl6 c0.F M3.L),pD Tryz.func163 31 (kD c0 k0) e0 1 (sS (sC M3 l0)) fun d=>by kernel_rfl⟩
def HH:yi:=ake G6 ajW
def JZ:HA:=HH.F
abbrev zK:ae:=XI
abbrev zH:List (Ev.Ex×ae):=[((.exit 4),{ T:=[(4,.hd 0 (.int .i64)),(8,.int .i64)],h:=mu,nx:=1 })]
abbrev UM:=TL zK.σs->Option (Out zH)
abbrev GV:=Ld 0 94 (aT [1] (aG Tryz.f86)) zK zH
abbrev zE:ae:=XH
abbrev zC:List (Ev.Ex×ae):=[((.exit 6),XI)]
abbrev GS:=TL zE.σs->Option (Out zC)
abbrev xN:=Ld 0 94 (aT [1,0] (aG Tryz.f86)) zE zC
abbrev zB:ae:={ T:=[(4,.hd 0 (.int .i64)),(5,.fz cp),(8,.int .i64),(9,.int .i64),(10,.int .i64),(11,.int .i64),(12,.int .i64)],h:=mu,nx:=1 }
abbrev zA:List (Ev.Ex×ae):=[((.exit 8),XH)]
abbrev GR:=TL zB.σs->Option (Out zA)
abbrev GU:=Ld 0 94 (aT [1,0,0] (aG Tryz.f86)) zB zA
abbrev zQ:ae:=XJ
abbrev zJ:List (Ev.Ex×ae):=[((.exit 0),{ T:=[(4,.hd 0 (.int .i64)),(5,.fz cp)],h:=mu,nx:=1 })]
abbrev UX:=TL zQ.σs->Option (Out zJ)
abbrev Ha:=Ld 0 94 (aT [0] (aG Tryz.f86)) zQ zJ
abbrev zF:ae:={ T:=[(4,.hd 0 (.int .i64)),(5,.fz cp),(6,.int .i64),(7,.int .i64)],h:=mu,nx:=1 }
abbrev zD:List (Ev.Ex×ae):=[((.exit 2),XJ)]
abbrev G8:=TL zF.σs->Option (Out zD)
abbrev G9:=Ld 0 94 (aT [0,0] (aG Tryz.f86)) zF zD
def Ak(t5:List (Sh.T cp))(t6 t7:Int)(b0:List Int):Option (TL zF.σs⊕Out zD):=
 ah (ar t6 (List.length t5))<|
 br (iL t7 (Int.ofNat (List.length (gt cp t5 t6).2.2.2.2.1)))
 (
  ah (ar t6 (List.length t5))<|
  ah (ar t7 (List.length (gt cp t5 t6).2.2.2.2.1))<|
  ah (ar (gt (.int .i64) (gt cp t5 t6).2.2.2.2.1 t7) (List.length b0))<|
  some (.inl (t5,(t6,((IntKind.wrap .i64 (t7+(1:Int))),((List.set b0 (Int.toNat (gt (.int .i64) (gt cp t5 t6).2.2.2.2.1 t7)) (Int.negSucc 0)),()))))))
 (
  some (.inr (t5,(t6,(b0,())))))
def UY  :G9:=aU (u4 Ak) (pL k0 e0 1 l0 fun d=>by kernel_rfl)
def zZ:G8:=aE (u4 Ak) NN
def Ap(L9:G8)(t5:List (Sh.T cp))(t6:Int)(b0:List Int):Option (TL zQ.σs⊕Out zJ):=
 br (iL t6 (Int.ofNat (List.length t5)))
 (
  ai (L9 (t5,(t6,((0:Int),(b0,()))))) fun x0=>
  some (.inl (x0.1,((IntKind.wrap .i64 (@HAdd.hAdd (Int) (Int) (Int) _ x0.2.1 (1:Int))),(x0.2.2.1,())))))
 (
  some (.inr (t5,(b0,()))))
def ajM(M9:G9):Ha:=aU (u3 (Ap M9.L)) (pL k0 e0 1 (sC M9 l0) fun d=>by kernel_rfl)
def ajL:Ha:=ajM  UY
def Kl:UX:=aE (u3 (Ap zZ)) NN
def z8(t5:List (Sh.T cp))(t8 t9 t10 t11 t12:Int)(b0:List Int):Option (TL zB.σs⊕Out zA):=
 ah (ar t10 (List.length t5))<|
 br (iL t12 (Int.ofNat (List.length (gt cp t5 t10).2.2.2.2.1)))
 (
  ah (ar t10 (List.length t5))<|
  ah (ar t12 (List.length (gt cp t5 t10).2.2.2.2.1))<|
  ah (ar (gt (.int .i64) (gt cp t5 t10).2.2.2.2.1 t12) (List.length b0))<|
  some (.inl (t5,(t8,(t9,(t10,(t11,((IntKind.wrap .i64 (t12+(1:Int))),((List.set b0 (Int.toNat (gt (.int .i64) (gt cp t5 t10).2.2.2.2.1 t12)) t11),())))))))))
 (
  some (.inr (t5,(t8,(t9,(t10,(b0,())))))))
def UN  :GU:=aU (u7 z8) (pL k0 e0 1 l0 fun d=>by kernel_rfl)
def zG:GR:=aE (u7 z8) NN
def Aa(F0:HA)(L24:GR)(t5:List (Sh.T cp))(t8 t9 t10:Int)(b0:List Int):Option (TL zE.σs⊕Out zC):=
 br (iL t10 (Int.ofNat (List.length t5)))
 (
  ah (ar t10 (List.length t5))<|
  ai (F0 (((gt cp t5 t10).1,((gt cp t5 t10).2.1,((gt cp t5 t10).2.2.1,((gt cp t5 t10).2.2.2.1,((gt cp t5 t10).2.2.2.2.1,()))))),(b0,()))) fun x0=>
  br (iL x0.1 (0:Int))
  (
   ai (L24 (t5,((IntKind.wrap .i64 (t8+(1:Int))),(t9,(t10,(x0.1,((0:Int),(b0,())))))))) fun x1=>
   some (.inl (x1.1,(x1.2.1,(x1.2.2.1,((IntKind.wrap .i64 (@HAdd.hAdd (Int) (Int) (Int) _ x1.2.2.2.1 (1:Int))),(x1.2.2.2.2.1,())))))))
  (
   ai (L24 (t5,(t8,(t9,(t10,(x0.1,((0:Int),(b0,())))))))) fun x1=>
   some (.inl (x1.1,(x1.2.1,(x1.2.2.1,((IntKind.wrap .i64 (@HAdd.hAdd (Int) (Int) (Int) _ x1.2.2.2.1 (1:Int))),(x1.2.2.2.2.1,()))))))))
 (
  some (.inr (t5,(t8,(t9,(b0,()))))))
def ajE(c0:yi)(M24:GU):xN:=aU (u5 (Aa c0.F M24.L)) (pL (kD c0 k0) e0 1 (sC M24 l0) fun d=>by kernel_rfl)
def UO:xN:=ajE HH UN
def zX:GS:=aE (u5 (Aa JZ zG)) NN
def Ad(L18:GS)(t5:List (Sh.T cp))(t8 t9:Int)(b0:List Int):Option (TL zK.σs⊕Out zH):=
 br (iE t9 (Int.ofNat (List.length t5)))
 (
  ai (L18 (t5,((0:Int),(t9,((0:Int),(b0,())))))) fun x0=>
  some (.inl (x0.1,(x0.2.1,((IntKind.wrap .i64 (@HAdd.hAdd (Int) (Int) (Int) _ x0.2.2.1 (1:Int))),(x0.2.2.2.1,()))))))
 (
  some (.inr (t8,(b0,()))))
def ajF(M18:xN):GV:=aU (u4 (Ad M18.L)) (pL k0 e0 1 (sC M18 l0) fun d=>by kernel_rfl)
def ajD:GV:=ajF  UO
def Kj:UM:=aE (u4 (Ad zX)) NN
abbrev Ym:List Sh:=[ba]
abbrev Kx:List Sh:=[(.sl (.int .i64)),.bool]
abbrev Uz:=TL Ym->Option (TL Kx)
abbrev GG:=Kd 86 Ym Kx
def KE(F0:HA)(F1:UC)(F2:Vy)(L6:UX)(L9:G8)(L14:UM)(L18:GS)(L24:GR)(a0:Sh.T ba):Option (TL Kx):=
 ai (F2 (a0,())) fun x0=>
 br (Bool.not (iQ x0.1 (0:Int)))
 (
  some ([],(false,())))
 (
  ah (both (iE (0:Int) (IntKind.wrap .i64 (@HAdd.hAdd (Int) (Int) (Int) _ a0.1 (1:Int)))) (both (iE (IntKind.wrap .i64 (@HAdd.hAdd (Int) (Int) (Int) _ a0.1 (1:Int))) (IntKind.wrap .i64 (@HAdd.hAdd (Int) (Int) (Int) _ a0.1 (1:Int)))) (iE ((Int.ofNat 8)*(IntKind.wrap .i64 (@HAdd.hAdd (Int) (Int) (Int) _ a0.1 (1:Int)))) (281474976710656:Int))))<|
  ai (F1 (a0,())) fun x1=>
  ai (L6 (x1.1,((0:Int),((List.replicate (Int.toNat (IntKind.wrap .i64 (@HAdd.hAdd (Int) (Int) (Int) _ a0.1 (1:Int)))) (Sh.zero (.int .i64))),())))) fun x2=>
  ai (L14 (x2.1,((0:Int),((0:Int),(x2.2.1,()))))) fun x3=>
  br (iL (0:Int) x3.1)
  (
   some ([],(false,())))
  (
   some (x3.2.1,(true,()))))
def aj1(c0:yi)(c1:GM)(c2:HK)(M6:Ha)(M9:G9)(M14:GV)(M18:xN)(M24:GU):GG:=⟨u1 (KE c0.F c1.F c2.F M6.L M9.L M14.L M18.L M24.L),pD Tryz.func86 94 (kD c0 (kD c1 (kD c2 k0))) e0 1 (sS (sC M6 (sC M14 l0))) fun d=>by kernel_rfl⟩
def UA:GG:=aj1 HH UD Vz ajL UY ajD UO UN
def Zfg:Uz:=UA.F
abbrev Yr:List Sh:=[ba]
abbrev KF:List Sh:=[(.int .i64)]
abbrev rK:=TL Yr->Option (TL KF)
abbrev oO:=Kd 38 Yr KF
def Zl8(F0:Uz)(F1:Vy)(a0:Sh.T ba):Option (TL KF):=
 ai (F1 (a0,())) fun x0=>
 br (Bool.not (iQ x0.1 (0:Int)))
 (
  some (x0.1,()))
 (
  ai (F0 (a0,())) fun x1=>
  br (Bool.not x1.2.1)
  (
   some ((8:Int),()))
  (
   some ((0:Int),())))
def akg(c0:GG)(c1:HK) :oO:=⟨u1 (Zl8 c0.F c1.F),pD Tryz.func38 18 (kD c0 (kD c1 k0)) e0 1 (sS l0) fun d=>by kernel_rfl⟩
def rL:oO:=akg UA Vz
def Zb7:rK:=rL.F
end Go.Proofs.YtkcpdpplobhpaaaGreat.V
