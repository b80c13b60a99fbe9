import Derived.Test.YtkcpdpplobhpaaaGreatKNc
set_option linter.unusedVariables false
set_option linter.unusedSimpArgs false
set_option linter.unnecessarySimpa false
/- the document's topo (printed by VTool.lean). -/
namespace Go.Proofs.YtkcpdpplobhpaaaGreat.V
open Go Go.RowKit
set_option maxRecDepth 1000000
abbrev Zja:List Sh:=[(.int .i64)]
abbrev Qk:List Sh:=[(.int .i64)]
abbrev C3:=TL Zja->Option (TL Qk)
abbrev wq:=Kd 202 Zja Qk
def xI(a0:Int):Option (TL Qk):=some ((IntKind.wrap .i64 (Int.tdiv a0 (2:Int))),())
def an8  :wq:=⟨u1 xI,pD Tryz.func202 5 k0 e0 1 (sS l0) fun d=>by kernel_rfl⟩
def C4:wq:=an8
def rL:C3:=C4.F
abbrev PB:Lay:={ T:=[(1,.int .i64),(2,.ptr 0 0),(5,.hd 1 (.int .i64)),(6,.int .i64)],h:=[(0,.cells [.int .i64,.int .i64,.bool,.fz cj,.fz bI] 116),(1,.arr (.int .i64) 3)],nx:=2 }
abbrev qg:List (Nat×LO):=[(0,.arr (.int .i64) 3)]
abbrev xm:List (Nat×LO):=[(0,.cells ej 27),(1,.arr bh 237)]
abbrev adh:Lay:={ T:=[(4,.hd 0 (.int .i64)),(5,.fz bh),(8,.int .i64),(9,.int .i64),(10,.int .i64)],h:=qg,nx:=1 }
abbrev adi:Lay:={ T:=[(4,.hd 0 (.int .i64)),(5,.fz bh),(8,.int .i64),(9,.int .i64)],h:=qg,nx:=1 }
abbrev adj:Lay:={ T:=[(4,.hd 0 (.int .i64)),(5,.fz bh),(6,.int .i64)],h:=qg,nx:=1 }
abbrev Py:List (Ev.Ex×Lay):=[((.exit 0),{ T:=[(5,.hd 0 (.int .i64))],h:=qg,nx:=1 })]
abbrev aba:=TL PB.σs->Option (Out Py)
abbrev abb:=Ld 0 34 (bp [0] (aU Tryz.f185)) PB Py
def Fi(t1 t6 aC aB:Int)(aG:Bool)(aH:List (Sh.T cj))(aI:List (Sh.T bI))(b1:List Int):Option (TL PB.σs⊕Out Py):=
 br (iL t6 aB)
 (
  ah (aq t1 (List.length aH))<|
  ah (room 8 (List.length (ap b1 ((IntKind.wrap .i64 (@HAdd.hAdd (Int) (Int) (Int) _ (gt cj aH t1).1 t6))::[]))))<|
  some (.inl (t1,((IntKind.wrap .i64 (t6+(1:Int))),(aC,(aB,(aG,(aH,(aI,((ap b1 ((IntKind.wrap .i64 (@HAdd.hAdd (Int) (Int) (Int) _ (gt cj aH t1).1 t6))::[])),()))))))))))
 (
  some (.inr (b1,())))
def anK  :abb:=bu (u8 Fi) (pL k0 e0 1 l0 fun d=>by kernel_rfl)
def PT:aba:=aQ (u8 Fi) NN
abbrev Ziz:List Sh:=[ab,(.int .i64)]
abbrev Qh:List Sh:=[(.sl (.int .i64))]
abbrev Nj:=TL Ziz->Option (TL Qh)
abbrev C1:=Kd 185 Ziz Qh
def Qj(L5:aba)(a0:Sh.T ab)(a1:Int):Option (TL Qh):=
 br (iL a1 (0:Int))
 (
  some ([],()))
 (
  br (aV false true (iE (Int.ofNat (List.length a0.2.2.2.1)) a1))
  (
   some ([],()))
  (
   aj (L5 (a1,((0:Int),(a0.1,(a0.2.1,(a0.2.2.1,(a0.2.2.2.1,(a0.2.2.2.2.1,([],()))))))))) fun x0=>
   some (x0.1,())))
def an2(M5:abb):C1:=⟨u2 (Qj M5.L),pD Tryz.func185 34 k0 e0 1 (sS (sC M5 l0)) fun d=>by kernel_rfl⟩
def Nk:C1:=an2  anK
def Zbo:Nj:=Nk.F
abbrev EK:Lay:={ T:=[(1,.ptr 0 0),(3,.hd 1 bh),(6,.int .i64)],h:=xm,nx:=2 }
abbrev ED:List (Ev.Ex×Lay):=[((.exit 2),{ T:=[(3,.hd 0 bh)],h:=[(0,.arr bh 237)],nx:=1 })]
abbrev aaz:=TL EK.σs->Option (Out ED)
abbrev Mp:=Ld 0 75 (bp [1] (aU Tryz.f162)) EK ED
abbrev Pq:Lay:={ T:=[(1,.ptr 0 0),(3,.hd 1 bh),(6,.int .i64),(7,.int .i64)],h:=xm,nx:=2 }
abbrev Pp:List (Ev.Ex×Lay):=[((.exit 4),{ T:=[(1,.ptr 0 0),(3,.hd 1 bh),(6,.int .i64)],h:=xm,nx:=2 })]
abbrev LQ:=TL Pq.σs->Option (Out Pp)
abbrev Cw:=Ld 0 75 (bp [1,0] (aU Tryz.f162)) Pq Pp
abbrev Px:Lay:={ T:=[(1,.ptr 0 0),(3,.hd 1 bh),(4,.int .i64)],h:=xm,nx:=2 }
abbrev Pu:List (Ev.Ex×Lay):=[((.exit 0),{ T:=[(1,.ptr 0 0),(3,.hd 1 bh)],h:=xm,nx:=2 })]
abbrev aaA:=TL Px.σs->Option (Out Pu)
abbrev aaB:=Ld 0 75 (bp [0] (aU Tryz.f162)) Px Pu
def Fa(t4 aC:Int)(aB:List Int)(aG:List (Sh.T ae))(aH aI aJ:List Int)(aw:List (Sh.T ab))(aE:List (Sh.T ae))(b1:List (Sh.T bh)):Option (TL Px.σs⊕Out Pu):=
 br (iL t4 (Int.ofNat (List.length aE)))
 (
  ah (aq t4 (List.length aE))<|
  ah (room 72 (List.length (ap b1 ((false,((0:Int),(t4,(((gt ae aE t4).2.1::((gt ae aE t4).2.2.1::[])),(((gt ae aE t4).1::[]),())))))::[]))))<|
  some (.inl ((IntKind.wrap .i64 (t4+(1:Int))),(aC,(aB,(aG,(aH,(aI,(aJ,(aw,(aE,((ap b1 ((false,((0:Int),(t4,(((gt ae aE t4).2.1::((gt ae aE t4).2.2.1::[])),(((gt ae aE t4).1::[]),())))))::[])),()))))))))))))
 (
  some (.inr (aC,(aB,(aG,(aH,(aI,(aJ,(aw,(aE,(b1,())))))))))))
def ang  :aaB:=bu (jO Fa) (pL k0 e0 1 l0 fun d=>by kernel_rfl)
def Zeg:aaA:=aQ (jO Fa) NN
def E5(F0:Nj)(t6 t7 aC:Int)(aB:List Int)(aG:List (Sh.T ae))(aH aI aJ:List Int)(aw:List (Sh.T ab))(aE:List (Sh.T ae))(b1:List (Sh.T bh)):Option (TL Pq.σs⊕Out Pp):=
 ah (aq t6 (List.length aw))<|
 br (iL t7 (Int.ofNat (List.length (gt ab aw t6).2.2.2.1)))
 (
  ah (aq t6 (List.length aw))<|
  ah (aq t7 (List.length (gt ab aw t6).2.2.2.1))<|
  ah (aq t6 (List.length aw))<|
  aj (F0 (((gt ab aw t6).1,((gt ab aw t6).2.1,((gt ab aw t6).2.2.1,((gt ab aw t6).2.2.2.1,((gt ab aw t6).2.2.2.2.1,()))))),(t7,()))) fun x0=>
  ah (room 72 (List.length (ap b1 ((true,(t6,(t7,((gt cj (gt ab aw t6).2.2.2.1 t7).2.1,(x0.1,())))))::[]))))<|
  some (.inl (t6,((IntKind.wrap .i64 (t7+(1:Int))),(aC,(aB,(aG,(aH,(aI,(aJ,(aw,(aE,((ap b1 ((true,(t6,(t7,((gt cj (gt ab aw t6).2.2.2.1 t7).2.1,(x0.1,())))))::[])),())))))))))))))
 (
  some (.inr (t6,(aC,(aB,(aG,(aH,(aI,(aJ,(aw,(aE,(b1,()))))))))))))
def amU(c0:C1) :Cw:=bu (jl (E5 c0.F)) (pL (kD c0 k0) e0 1 l0 fun d=>by kernel_rfl)
def aaa:Cw:=amU Nk
def PA:LQ:=aQ (jl (E5 Zbo)) NN
def E9(L11:LQ)(t6 aC:Int)(aB:List Int)(aG:List (Sh.T ae))(aH aI aJ:List Int)(aw:List (Sh.T ab))(aE:List (Sh.T ae))(b1:List (Sh.T bh)):Option (TL EK.σs⊕Out ED):=
 br (iL t6 (Int.ofNat (List.length aw)))
 (
  aj (L11 (t6,((0:Int),(aC,(aB,(aG,(aH,(aI,(aJ,(aw,(aE,(b1,())))))))))))) fun x0=>
  some (.inl ((IntKind.wrap .i64 (@HAdd.hAdd (Int) (Int) (Int) _ x0.1 (1:Int))),x0.2)))
 (
  some (.inr (b1,())))
def anh(M11:Cw):Mp:=bu (jO (E9 M11.L)) (pL k0 e0 1 (sC M11 l0) fun d=>by kernel_rfl)
def anf:Mp:=anh  aaa
def Zef:aaz:=aQ (jO (E9 PA)) NN
abbrev Zik:List Sh:=[ba]
abbrev P7:List Sh:=[(.sl bh)]
abbrev MR:=TL Zik->Option (TL P7)
abbrev CT:=Kd 162 Zik P7
def Zl7(F0:Nj)(L3:aaA)(L8:aaz)(L11:LQ)(a0:Sh.T ba):Option (TL P7):=
 aj (L3 ((0:Int),(a0.1,(a0.2.1,(a0.2.2.1,(a0.2.2.2.1,(a0.2.2.2.2.1,(a0.2.2.2.2.2.1,(a0.2.2.2.2.2.2.1,(a0.2.2.2.2.2.2.2.1,([],()))))))))))) fun x0=>
 aj (L8 ((0:Int),x0)) fun x1=>
 some (x1.1,())
def anI(c0:C1)(M3:aaB)(M8:Mp)(M11:Cw):CT:=⟨u1 (Zl7 c0.F M3.L M8.L M11.L),pD Tryz.func162 75 (kD c0 k0) e0 1 (sS (sC M3 (sC M8 l0))) fun d=>by kernel_rfl⟩
def MS:CT:=anI Nk ang anf aaa
def Zam:MR:=MS.F
abbrev xy:Lay:={ T:=[(1,.fz (.int .i64)),(2,.ptr 0 0),(5,.int .i64),(6,.int .i64)],h:=[(0,.cells [.bool,.int .i64,.int .i64,.fz (.int .i64),.fz (.int .i64)] 237)],nx:=1 }
abbrev xw:List (Ev.Ex×Lay):=[(.ret,{ T:=[(4,.int .i64)],h:=[],nx:=0 }),((.exit 0),{ T:=[(5,.int .i64)],h:=[],nx:=0 })]
abbrev aau:=TL xy.σs->Option (Out xw)
abbrev Mm:=Ld 0 31 (bp [0] (aU Tryz.f163)) xy xw
def Qv(F0:C3)(t1:List Int)(t5 t6:Int)(aC:Bool)(aB aG:Int)(aH aI:List Int):Option (TL xy.σs⊕Out xw):=
 br (iL t6 (Int.ofNat (List.length aH)))
 (
  ah (aq t6 (List.length aH))<|
  aj (F0 ((gt (.int .i64) aH t6),())) fun x0=>
  ah (aq x0.1 (List.length t1))<|
  br (iL (gt (.int .i64) t1 x0.1) (0:Int))
  (
   some (.inr (.inl ((Int.negSucc 0),()))))
  (
   some (.inl (t1,((dj (iL t5 (gt (.int .i64) t1 x0.1)) (gt (.int .i64) t1 x0.1) t5),((IntKind.wrap .i64 (t6+(1:Int))),(aC,(aB,(aG,(aH,(aI,())))))))))))
 (
  some (.inr (.inr (t5,()))))
def anb(c0:wq) :Mm:=bu (u8 (Qv c0.F)) (pL (kD c0 k0) e0 1 l0 fun d=>by kernel_rfl)
def ana:Mm:=anb C4
def Zfs:aau:=aQ (u8 (Qv rL)) NN
abbrev Zii:List Sh:=[bh,(.sl (.int .i64))]
abbrev P6:List Sh:=[(.int .i64)]
abbrev MO:=TL Zii->Option (TL P6)
abbrev CS:=Kd 163 Zii P6
def Zl6(F0:C3)(L3:aau)(a0:Sh.T bh)(a1:List Int):Option (TL P6):=
 aj (L3 (a1,((0:Int),((0:Int),a0)))) fun x0=>
 (match x0 with|.inl x1=>some (x1.1,())|.inr x1=>some ((IntKind.wrap .i64 (@HAdd.hAdd (Int) (Int) (Int) _ x1.1 (1:Int))),())
 )
def anF(c0:wq)(M3:Mm):CS:=⟨u2 (Zl6 c0.F M3.L),pD Tryz.func163 31 (kD c0 k0) e0 1 (sS (sC M3 l0)) fun d=>by kernel_rfl⟩
def MP:CS:=anF C4 ana
def Pn:MO:=MP.F
abbrev Ey:Lay:=adi
abbrev Et:List (Ev.Ex×Lay):=[((.exit 4),{ T:=[(4,.hd 0 (.int .i64)),(8,.int .i64)],h:=qg,nx:=1 })]
abbrev ZT:=TL Ey.σs->Option (Out Et)
abbrev Lw:=Ld 0 94 (bp [1] (aU Tryz.f86)) Ey Et
abbrev Ek:Lay:=adh
abbrev Ei:List (Ev.Ex×Lay):=[((.exit 6),adi)]
abbrev Lu:=TL Ek.σs->Option (Out Ei)
abbrev Cd:=Ld 0 94 (bp [1,0] (aU Tryz.f86)) Ek Ei
abbrev Eh:Lay:={ T:=[(4,.hd 0 (.int .i64)),(5,.fz bh),(8,.int .i64),(9,.int .i64),(10,.int .i64),(11,.int .i64),(12,.int .i64)],h:=qg,nx:=1 }
abbrev Eg:List (Ev.Ex×Lay):=[((.exit 8),adh)]
abbrev Lt:=TL Eh.σs->Option (Out Eg)
abbrev Lv:=Ld 0 94 (bp [1,0,0] (aU Tryz.f86)) Eh Eg
abbrev EE:Lay:=adj
abbrev Ew:List (Ev.Ex×Lay):=[((.exit 0),{ T:=[(4,.hd 0 (.int .i64)),(5,.fz bh)],h:=qg,nx:=1 })]
abbrev aab:=TL EE.σs->Option (Out Ew)
abbrev LU:=Ld 0 94 (bp [0] (aU Tryz.f86)) EE Ew
abbrev Eo:Lay:={ T:=[(4,.hd 0 (.int .i64)),(5,.fz bh),(6,.int .i64),(7,.int .i64)],h:=qg,nx:=1 }
abbrev Ej:List (Ev.Ex×Lay):=[((.exit 2),adj)]
abbrev LR:=TL Eo.σs->Option (Out Ej)
abbrev LS:=Ld 0 94 (bp [0,0] (aU Tryz.f86)) Eo Ej
def E6(t5:List (Sh.T bh))(t6 t7:Int)(b0:List Int):Option (TL Eo.σs⊕Out Ej):=
 ah (aq t6 (List.length t5))<|
 br (iL t7 (Int.ofNat (List.length (gt bh t5 t6).2.2.2.2.1)))
 (
  ah (aq t6 (List.length t5))<|
  ah (aq t7 (List.length (gt bh t5 t6).2.2.2.2.1))<|
  ah (aq (gt (.int .i64) (gt bh t5 t6).2.2.2.2.1 t7) (List.length b0))<|
  some (.inl (t5,(t6,((IntKind.wrap .i64 (t7+(1:Int))),((List.set b0 (Int.toNat (gt (.int .i64) (gt bh t5 t6).2.2.2.2.1 t7)) (Int.negSucc 0)),()))))))
 (
  some (.inr (t5,(t6,(b0,())))))
def aac  :LS:=bu (u4 E6) (pL k0 e0 1 l0 fun d=>by kernel_rfl)
def EP:LR:=aQ (u4 E6) NN
def E7(L9:LR)(t5:List (Sh.T bh))(t6:Int)(b0:List Int):Option (TL EE.σs⊕Out Ew):=
 br (iL t6 (Int.ofNat (List.length t5)))
 (
  aj (L9 (t5,(t6,((0:Int),(b0,()))))) fun x0=>
  some (.inl (x0.1,((IntKind.wrap .i64 (@HAdd.hAdd (Int) (Int) (Int) _ x0.2.1 (1:Int))),(x0.2.2.1,())))))
 (
  some (.inr (t5,(b0,()))))
def amW(M9:LS):LU:=bu (u3 (E7 M9.L)) (pL k0 e0 1 (sC M9 l0) fun d=>by kernel_rfl)
def amV:LU:=amW  aac
def PK:aab:=aQ (u3 (E7 EP)) NN
def ET(t5:List (Sh.T bh))(t8 t9 t10 t11 t12:Int)(b0:List Int):Option (TL Eh.σs⊕Out Eg):=
 ah (aq t10 (List.length t5))<|
 br (iL t12 (Int.ofNat (List.length (gt bh t5 t10).2.2.2.2.1)))
 (
  ah (aq t10 (List.length t5))<|
  ah (aq t12 (List.length (gt bh t5 t10).2.2.2.2.1))<|
  ah (aq (gt (.int .i64) (gt bh t5 t10).2.2.2.2.1 t12) (List.length b0))<|
  some (.inl (t5,(t8,(t9,(t10,(t11,((IntKind.wrap .i64 (t12+(1:Int))),((List.set b0 (Int.toNat (gt (.int .i64) (gt bh t5 t10).2.2.2.2.1 t12)) t11),())))))))))
 (
  some (.inr (t5,(t8,(t9,(t10,(b0,())))))))
def ZU  :Lv:=bu (u7 ET) (pL k0 e0 1 l0 fun d=>by kernel_rfl)
def Es:Lt:=aQ (u7 ET) NN
def EU(F0:MO)(L24:Lt)(t5:List (Sh.T bh))(t8 t9 t10:Int)(b0:List Int):Option (TL Ek.σs⊕Out Ei):=
 br (iL t10 (Int.ofNat (List.length t5)))
 (
  ah (aq t10 (List.length t5))<|
  aj (F0 (((gt bh t5 t10).1,((gt bh t5 t10).2.1,((gt bh t5 t10).2.2.1,((gt bh t5 t10).2.2.2.1,((gt bh t5 t10).2.2.2.2.1,()))))),(b0,()))) fun x0=>
  br (iL x0.1 (0:Int))
  (
   aj (L24 (t5,((IntKind.wrap .i64 (t8+(1:Int))),(t9,(t10,(x0.1,((0:Int),(b0,())))))))) fun x1=>
   some (.inl (x1.1,(x1.2.1,(x1.2.2.1,((IntKind.wrap .i64 (@HAdd.hAdd (Int) (Int) (Int) _ x1.2.2.2.1 (1:Int))),(x1.2.2.2.2.1,())))))))
  (
   aj (L24 (t5,(t8,(t9,(t10,(x0.1,((0:Int),(b0,())))))))) fun x1=>
   some (.inl (x1.1,(x1.2.1,(x1.2.2.1,((IntKind.wrap .i64 (@HAdd.hAdd (Int) (Int) (Int) _ x1.2.2.2.1 (1:Int))),(x1.2.2.2.2.1,()))))))))
 (
  some (.inr (t5,(t8,(t9,(b0,()))))))
def amK(c0:CS)(M24:Lv):Cd:=bu (u5 (EU c0.F M24.L)) (pL (kD c0 k0) e0 1 (sC M24 l0) fun d=>by kernel_rfl)
def ZV:Cd:=amK MP ZU
def EL:Lu:=aQ (u5 (EU Pn Es)) NN
def EV(L18:Lu)(t5:List (Sh.T bh))(t8 t9:Int)(b0:List Int):Option (TL Ey.σs⊕Out Et):=
 br (iE t9 (Int.ofNat (List.length t5)))
 (
  aj (L18 (t5,((0:Int),(t9,((0:Int),(b0,())))))) fun x0=>
  some (.inl (x0.1,(x0.2.1,((IntKind.wrap .i64 (@HAdd.hAdd (Int) (Int) (Int) _ x0.2.2.1 (1:Int))),(x0.2.2.2.1,()))))))
 (
  some (.inr (t8,(b0,()))))
def amL(M18:Cd):Lw:=bu (u4 (EV M18.L)) (pL k0 e0 1 (sC M18 l0) fun d=>by kernel_rfl)
def amJ:Lw:=amL  ZV
def PI:ZT:=aQ (u4 (EV EL)) NN
abbrev Zi1:List Sh:=[ba]
abbrev PY:List Sh:=[(.sl (.int .i64)),.bool]
abbrev Mq:=TL Zi1->Option (TL PY)
abbrev CG:=Kd 86 Zi1 PY
def P8(F0:MO)(F1:MR)(F2:aa8)(L6:aab)(L9:LR)(L14:ZT)(L18:Lu)(L24:Lt)(a0:Sh.T ba):Option (TL PY):=
 aj (F2 (a0,())) fun x0=>
 br (Bool.not (iQ x0.1 (0:Int)))
 (
  some ([],(false,())))
 (
  ah (both (iE (0:Int) (IntKind.wrap .i64 (@HAdd.hAdd (Int) (Int) (Int) _ a0.1 (1:Int)))) (both (iE (IntKind.wrap .i64 (@HAdd.hAdd (Int) (Int) (Int) _ a0.1 (1:Int))) (IntKind.wrap .i64 (@HAdd.hAdd (Int) (Int) (Int) _ a0.1 (1:Int)))) (iE ((Int.ofNat 8)*(IntKind.wrap .i64 (@HAdd.hAdd (Int) (Int) (Int) _ a0.1 (1:Int)))) (281474976710656:Int))))<|
  aj (F1 (a0,())) fun x1=>
  aj (L6 (x1.1,((0:Int),((List.replicate (Int.toNat (IntKind.wrap .i64 (@HAdd.hAdd (Int) (Int) (Int) _ a0.1 (1:Int)))) (Sh.zero (.int .i64))),())))) fun x2=>
  aj (L14 (x2.1,((0:Int),((0:Int),(x2.2.1,()))))) fun x3=>
  br (iL (0:Int) x3.1)
  (
   some ([],(false,())))
  (
   some (x3.2.1,(true,()))))
def ani(c0:CS)(c1:CT)(c2:MT)(M6:LU)(M9:LS)(M14:Lw)(M18:Cd)(M24:Lv):CG:=⟨u1 (P8 c0.F c1.F c2.F M6.L M9.L M14.L M18.L M24.L),pD Tryz.func86 94 (kD c0 (kD c1 (kD c2 k0))) e0 1 (sS (sC M6 (sC M14 l0))) fun d=>by kernel_rfl⟩
def Mr:CG:=ani MP MS aa9 amV aac amJ ZV ZU
def Zfg:Mq:=Mr.F
abbrev Zil:List Sh:=[ba]
abbrev P9:List Sh:=[(.int .i64)]
abbrev wc:=TL Zil->Option (TL P9)
abbrev tg:=Kd 38 Zil P9
def Zl8(F0:Mq)(F1:aa8)(a0:Sh.T ba):Option (TL P9):=
 aj (F1 (a0,())) fun x0=>
 br (Bool.not (iQ x0.1 (0:Int)))
 (
  some (x0.1,()))
 (
  aj (F0 (a0,())) fun x1=>
  br (Bool.not x1.2.1)
  (
   some ((8:Int),()))
  (
   some ((0:Int),())))
def anJ(c0:CG)(c1:MT) :tg:=⟨u1 (Zl8 c0.F c1.F),pD Tryz.func38 18 (kD c0 (kD c1 k0)) e0 1 (sS l0) fun d=>by kernel_rfl⟩
def we:tg:=anJ Mr aa9
def Zb7:wc:=we.F
