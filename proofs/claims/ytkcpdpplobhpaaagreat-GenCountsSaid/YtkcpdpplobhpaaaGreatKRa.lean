import Derived.Test.YtkcpdpplobhpaaaGreatKSa
set_option linter.unusedVariables false
set_option linter.unusedSimpArgs false
set_option linter.unnecessarySimpa false
section
namespace Go.Proofs.YtkcpdpplobhpaaaGreat.V
open Go Go.RowKit
set_option maxRecDepth 1000000
abbrev VY:List Sh:=[(.int .i64)]
abbrev yw:List Sh:=[.bool]
abbrev V6:=TL VY->Option (TL yw)
abbrev It:=Kd 198 VY yw
def Is(a0:Int):Option (TL yw):=some ((Bool.not (iQ a0 a0)),())
def akQ  :It:=⟨u1 Is,pD Tryz.func198 6 k0 e0 1 (sS l0) fun d=>by kernel_rfl⟩
def V8:It:=akQ
def VZ:V6:=V8.F
abbrev VU:List Sh:=[(.int .i64),(.int .i64)]
abbrev yq:List Sh:=[(.int .i64)]
abbrev VV:=TL VU->Option (TL yq)
abbrev Im:=Kd 147 VU yq
def rR(F0:V6)(a0 a1:Int):Option (TL yq):=
 ai (F0 (a0,())) fun x0=>
 ai (F0 (a1,())) fun x1=>
 br x0.1
 (
  br x1.1
  (
   some ((0:Int),()))
  (
   some ((Int.negSucc 0),())))
 (
  br x1.1
  (
   some ((1:Int),()))
  (
   br (iL a0 a1)
   (
    some ((Int.negSucc 0),()))
   (
    br (iL a1 a0)
    (
     some ((1:Int),()))
    (
     some ((0:Int),())))))
def akI(c0:It) :Im:=⟨u2 (rR c0.F),pD Tryz.func147 20 (kD c0 k0) e0 1 (sS l0) fun d=>by kernel_rfl⟩
def VW:Im:=akI V8
def Il:VV:=VW.F
abbrev eu:List (Nat×LO):=[(0,.arr ag 148),(1,.cells [.ptr 2 0] 198),(2,.cells [.int .i64,.fz (.int .i64),.fz aa,.fz (.int .i64),.fz (.int .i64),.fz (.int .i64),.fz ab,.fz aa,.hd 3 (.int .i64),.hd 0 ag,.hd 4 (.int .u8),.hd 5 (.int .i64)] 224),(3,.arr (.int .i64) 3),(4,.arr (.int .u8) 5),(5,.arr (.int .i64) 3)]
abbrev zs:List (Nat×LO):=[(0,.cells [.int .i64,.fz (.int .i64),.fz aa,.fz (.int .i64),.fz (.int .i64),.fz (.int .i64),.hd 1 ab,.fz aa] 27),(1,.opn ab [.int .i64,.int .i64,.bool,.hd 2 bJ,.hd 3 bj] 116),(2,.arr bJ 152),(3,.arr bj 175),(4,.cells [.int .i64,.nils,.nils,.nils,.nils,.nils,.nils,.nils] 27)]
abbrev XK:List (Nat×LO):=[(0,.cells [.ptr 1 0] 198),(1,.cells [.int .i64,.fz (.int .i64),.fz aa,.fz (.int .i64),.fz (.int .i64),.fz (.int .i64),.fz ab,.fz aa,.hd 2 (.int .i64),.hd 3 ag,.hd 4 (.int .u8),.hd 5 (.int .i64)] 224),(2,.arr (.int .i64) 3),(3,.arr ag 148),(4,.arr (.int .u8) 5),(5,.arr (.int .i64) 3)]
abbrev jH:ae:={ T:=[],h:=eu,nx:=6 }
abbrev JK:ae:={ T:=[(0,.hd 0 ag),(1,.int .i64),(2,.int .i64),(3,.int .i64),(4,.func 146 [] [.ptr 1 0])],h:=eu,nx:=6 }
abbrev XL:List (Nat×LO):=[(0,.cells [.int .i64,.fz (.int .i64),.fz aa,.fz (.int .i64),.fz (.int .i64),.fz (.int .i64),.hd 1 ab,.fz aa] 27),(1,.arr ab 116),(2,.cells [.int .i64,.nils,.nils,.nils,.nils,.nils,.nils,.nils] 27)]
abbrev zt:List (Nat×LO):=[(0,.cells [.int .i64,.int .i64,.mp 1] 220),(1,.map .u64 (.int .u64))]
abbrev XM:ae:={ T:=[(0,.hd 0 ag),(1,.int .i64),(2,.func 146 [] [.ptr 1 0]),(6,.int .i64),(7,.int .i64),(8,.int .i64)],h:=eu,nx:=6 }
abbrev XN:ae:={ T:=[(0,.hd 0 ag),(1,.int .i64),(2,.int .i64),(3,.func 146 [] [.ptr 1 0]),(8,.int .i64)],h:=eu,nx:=6 }
abbrev XO:ae:={ T:=[(0,.hd 0 ag),(1,.int .i64),(2,.func 146 [] [.ptr 1 0]),(6,.int .i64),(7,.int .i64)],h:=eu,nx:=6 }
abbrev V3:ae:={ T:=[(0,.agg [.bool,.int .i64,.int .i64]),(1,.agg [.bool,.int .i64,.int .i64]),(2,.ptr 0 0)],h:=XK,nx:=6 }
abbrev Ip:List (Ev.Ex×ae):=[(.ret,{ T:=[(0,.int .i64)],h:=XK,nx:=6 })]
abbrev iZ:=TL V3.σs->Option (Out Ip)
abbrev iF:=Kb 146 3 V3 1 Ip
def akT(F0:VV)(F1:rP)(t0_0:Bool)(t0_1 t0_2:Int)(t1_0:Bool)(t1_1 t1_2 b1_0:Int)(b1_1:List Int)(b1_2:List (Sh.T aa))(b1_3 b1_4 b1_5:List Int)(b1_6:List (Sh.T ab))(b1_7:List (Sh.T aa))(b2:List Int)(b3:List (Sh.T ag))(b4 b5:List Int):Option (Out Ip):=
 ai (F1 (t0_0,(t0_1,(t0_2,(b1_0,(b1_1,(b1_2,(b1_3,(b1_4,(b1_5,(b1_6,(b1_7,(b2,(b3,(b4,(b5,())))))))))))))))) fun x0=>
 ah (ar (0:Int) (List.length x0.1))<|
 ah (ar (gt (.int .i64) x0.1 (0:Int)) (List.length x0.2.2.2.2.2.2.2.2.2.2.2.2.1))<|
 ah (both (bQ t1_0 t1_0) (both (iQ t1_1 t1_1) (both (iQ t1_2 t1_2) true)))<|
 ai (F1 (t1_0,(t1_1,(t1_2,x0.2)))) fun x1=>
 ah (ar (0:Int) (List.length x1.1))<|
 ah (ar (gt (.int .i64) x1.1 (0:Int)) (List.length x1.2.2.2.2.2.2.2.2.2.2.2.2.1))<|
 ah (ar (0:Int) (List.length x0.1))<|
 ah (Sh.beq (.int .i64) (gt (.int .i64) x0.1 (0:Int)) (gt (.int .i64) x0.1 (0:Int)))<|
 ah (iQ (gt (.int .i64) x0.1 (0:Int)) (gt (.int .i64) x0.1 (0:Int)))<|
 ah (ar (gt (.int .i64) x0.1 (0:Int)) (List.length x1.2.2.2.2.2.2.2.2.2.2.2.2.1))<|
 ah (nQ (Int.toNat (gt (.int .i64) x0.1 (0:Int))) (Int.toNat (gt (.int .i64) x0.1 (0:Int))))<|
 ah (iQ (gt (.int .i64) x0.2.2.2.2.2.2.2.2.2.2.2.2.1 (gt (.int .i64) x0.1 (0:Int))) (gt (.int .i64) x1.2.2.2.2.2.2.2.2.2.2.2.2.1 (gt (.int .i64) x0.1 (0:Int))))<|
 ai (F0 ((gt (.int .i64) x0.2.2.2.2.2.2.2.2.2.2.2.2.1 (gt (.int .i64) x0.1 (0:Int))),((gt (.int .i64) x1.2.2.2.2.2.2.2.2.2.2.2.2.1 (gt (.int .i64) x1.1 (0:Int))),()))) fun x2=>
 some (x2.1,x1.2)
def akS(c0:Im)(c1:oR) :iF:=⟨BE (akT c0.F c1.F),pB Tryz.func146 29 (kD c0 (kB c1 k0)) e0 1 (sS l0) fun d=>by kernel_rfl⟩
def i3:iF:=akS VW rQ
def gp:iZ:=i3.F
abbrev TO:ae:=JK
abbrev FR:List (Ev.Ex×ae):=[(.ret,jH)]
abbrev Gf:=TL TO.σs->Option (Out FR)
abbrev xh:=Kb 265 5 TO 0 FR
abbrev wX:ae:={ T:=[(0,.hd 0 ag),(1,.int .i64),(2,.int .i64),(3,.int .i64),(10,.int .i64)],h:=eu,nx:=6 }
abbrev wN:List (Ev.Ex×ae):=[((.exit 0),jH)]
abbrev T3:=TL wX.σs->Option (Out wN)
abbrev T6:=Ld 6 38 (aT [0] (aG Tryz.f265)) wX wN
def xb(t1 t2 t3 t10:Int)(b0:List (Sh.T ag))(b2_0:Int)(b2_1:List Int)(b2_2:List (Sh.T aa))(b2_3 b2_4 b2_5:List Int)(b2_6:List (Sh.T ab))(b2_7:List (Sh.T aa))(b3 b4 b5:List Int):Option (TL wX.σs⊕Out wN):=
 br (iL t10 t3)
 (
  ah (ar (IntKind.wrap .i64 (t2+t10)) (List.length b0))<|
  ah (ar (IntKind.wrap .i64 (t1+t10)) (List.length b0))<|
  ah (ar (IntKind.wrap .i64 (t1+t10)) (List.length b0))<|
  ah (ar (IntKind.wrap .i64 (t2+t10)) (List.length (List.set b0 (Int.toNat (IntKind.wrap .i64 (t1+t10))) ((gt ag b0 (IntKind.wrap .i64 (t2+t10))).1,((gt ag b0 (IntKind.wrap .i64 (t2+t10))).2.1,((gt ag b0 (IntKind.wrap .i64 (t2+t10))).2.2.1,()))))))<|
  ah (iQ t2 t2)<|
  ah (iQ t10 t10)<|
  ah (iQ (IntKind.wrap .i64 (t2+t10)) (IntKind.wrap .i64 (t2+t10)))<|
  some (.inl (t1,(t2,(t3,((IntKind.wrap .i64 (t10+(1:Int))),((List.set (List.set b0 (Int.toNat (IntKind.wrap .i64 (t1+t10))) ((gt ag b0 (IntKind.wrap .i64 (t2+t10))).1,((gt ag b0 (IntKind.wrap .i64 (t2+t10))).2.1,((gt ag b0 (IntKind.wrap .i64 (t2+t10))).2.2.1,())))) (Int.toNat (IntKind.wrap .i64 (t2+t10))) ((gt ag b0 (IntKind.wrap .i64 (t1+t10))).1,((gt ag b0 (IntKind.wrap .i64 (t1+t10))).2.1,((gt ag b0 (IntKind.wrap .i64 (t1+t10))).2.2.1,())))),(b2_0,(b2_1,(b2_2,(b2_3,(b2_4,(b2_5,(b2_6,(b2_7,(b3,(b4,(b5,()))))))))))))))))))
 (
  some (.inr (b0,(b2_0,(b2_1,(b2_2,(b2_3,(b2_4,(b2_5,(b2_6,(b2_7,(b3,(b4,(b5,()))))))))))))))
def ai5  :T6:=aU (u16 xb) (pL k0 e0 1 l0 fun d=>by kernel_rfl)
def T4:T3:=aE (u16 xb) NN
def ajb(F0:iZ)(L1:T3)(t1 t2 t3:Int)(b0:List (Sh.T ag))(b2_0:Int)(b2_1:List Int)(b2_2:List (Sh.T aa))(b2_3 b2_4 b2_5:List Int)(b2_6:List (Sh.T ab))(b2_7:List (Sh.T aa))(b3 b4 b5:List Int):Option (Out FR):=
 ai (L1 (t1,(t2,(t3,((0:Int),(b0,(b2_0,(b2_1,(b2_2,(b2_3,(b2_4,(b2_5,(b2_6,(b2_7,(b3,(b4,(b5,()))))))))))))))))) fun x0=>
 some x0
def aja(c0:iF)(M1:T6):xh:=⟨dW (ajb c0.F M1.L),pB Tryz.func265 38 (kB c0 k0) e0 1 (sS (sC M1 l0)) fun d=>by kernel_rfl⟩
def Gg:xh:=aja i3 ai5
def T5:Gf:=Gg.F
abbrev Ug:ae:=JK
abbrev rF:List (Ev.Ex×ae):=[(.ret,jH)]
abbrev yl:=TL Ug.σs->Option (Out rF)
abbrev Gy:=Kb 257 5 Ug 0 rF
abbrev rG:ae:={ T:=[(0,.hd 0 ag),(2,.int .i64),(4,.func 146 [] [.ptr 1 0]),(10,.int .i64),(11,.int .i64)],h:=eu,nx:=6 }
abbrev rE:List (Ev.Ex×ae):=[((.exit 0),{ T:=[(0,.hd 0 ag),(2,.int .i64),(4,.func 146 [] [.ptr 1 0]),(10,.int .i64)],h:=eu,nx:=6 })]
abbrev Um:=TL rG.σs->Option (Out rE)
abbrev Gv:=Ld 6 58 (aT [0] (aG Tryz.f257)) rG rE
def Gw(F1:Gf)(t2 t10 t11:Int)(b0:List (Sh.T ag))(b2_0:Int)(b2_1:List Int)(b2_2:List (Sh.T aa))(b2_3 b2_4 b2_5:List Int)(b2_6:List (Sh.T ab))(b2_7:List (Sh.T aa))(b3 b4 b5:List Int):Option (TL rG.σs⊕Out rE):=
 br (Bool.not (iQ t10 t11))
 (
  br (iL t11 t10)
  (
   ai (F1 ((IntKind.wrap .i64 (t2-t10)),(t2,(t11,(b0,(b2_0,(b2_1,(b2_2,(b2_3,(b2_4,(b2_5,(b2_6,(b2_7,(b3,(b4,(b5,())))))))))))))))) fun x0=>
   some (.inl (t2,((IntKind.wrap .i64 (t10-t11)),(t11,x0)))))
  (
   ai (F1 ((IntKind.wrap .i64 (t2-t10)),((IntKind.wrap .i64 ((IntKind.wrap .i64 (t2+t11))-t10)),(t10,(b0,(b2_0,(b2_1,(b2_2,(b2_3,(b2_4,(b2_5,(b2_6,(b2_7,(b3,(b4,(b5,())))))))))))))))) fun x0=>
   some (.inl (t2,(t10,((IntKind.wrap .i64 (t11-t10)),x0))))))
 (
  some (.inr (t2,(t10,(b0,(b2_0,(b2_1,(b2_2,(b2_3,(b2_4,(b2_5,(b2_6,(b2_7,(b3,(b4,(b5,()))))))))))))))))
def ajn(c1:xh) :Gv:=aU (dW (Gw c1.F)) (pL (kB c1 k0) e0 1 l0 fun d=>by kernel_rfl)
def ajm:Gv:=ajn Gg
def Gu:Um:=aE (dW (Gw T5)) NN
def aju(F0:iZ)(F1:Gf)(L2:Um)(t1 t2 t3:Int)(b0:List (Sh.T ag))(b2_0:Int)(b2_1:List Int)(b2_2:List (Sh.T aa))(b2_3 b2_4 b2_5:List Int)(b2_6:List (Sh.T ab))(b2_7:List (Sh.T aa))(b3 b4 b5:List Int):Option (Out rF):=
 ai (L2 (t2,((IntKind.wrap .i64 (t2-t1)),((IntKind.wrap .i64 (t3-t2)),(b0,(b2_0,(b2_1,(b2_2,(b2_3,(b2_4,(b2_5,(b2_6,(b2_7,(b3,(b4,(b5,())))))))))))))))) fun x0=>
 ai (F1 ((IntKind.wrap .i64 (@HSub.hSub (Int) (Int) (Int) _ x0.1 x0.2.1)),x0)) fun x1=>
 some x1
def ajt(c0:iF)(c1:xh)(M2:Gv):Gy:=⟨dW (aju c0.F c1.F M2.L),pB Tryz.func257 58 (kB c0 (kB c1 k0)) e0 1 (sS (sC M2 l0)) fun d=>by kernel_rfl⟩
def Us:Gy:=ajt i3 Gg ajm
def xp:yl:=Us.F
abbrev Tx:ae:={ T:=[(0,.hd 0 ag),(1,.int .i64),(2,.int .i64),(3,.func 146 [] [.ptr 1 0])],h:=eu,nx:=6 }
abbrev FG:List (Ev.Ex×ae):=[(.ret,jH)]
abbrev FP:=TL Tx.σs->Option (Out FG)
abbrev wO:=Kb 227 4 Tx 0 FG
abbrev wG:ae:=XN
abbrev wF:List (Ev.Ex×ae):=[((.exit 0),jH)]
abbrev Tz:=TL wG.σs->Option (Out wF)
abbrev FK:=Ld 6 53 (aT [0] (aG Tryz.f227)) wG wF
abbrev rD:ae:={ T:=[(0,.hd 0 ag),(1,.int .i64),(2,.int .i64),(3,.func 146 [] [.ptr 1 0]),(8,.int .i64),(9,.int .i64)],h:=eu,nx:=6 }
abbrev rC:List (Ev.Ex×ae):=[((.exit 2),XN)]
abbrev FI:=TL rD.σs->Option (Out rC)
abbrev wI:=Ld 6 53 (aT [0,0] (aG Tryz.f227)) rD rC
def FL(F0:iZ)(t1 t2 t8 t9:Int)(b0:List (Sh.T ag))(b2_0:Int)(b2_1:List Int)(b2_2:List (Sh.T aa))(b2_3 b2_4 b2_5:List Int)(b2_6:List (Sh.T ab))(b2_7:List (Sh.T aa))(b3 b4 b5:List Int):Option (TL rD.σs⊕Out rC):=
 br (iL t1 t9)
 (
  ah (ar t9 (List.length b0))<|
  ah (ar (IntKind.wrap .i64 (t9-(1:Int))) (List.length b0))<|
  ai (F0 ((gt ag b0 t9).1,((gt ag b0 t9).2.1,((gt ag b0 t9).2.2.1,((gt ag b0 (IntKind.wrap .i64 (t9-(1:Int)))).1,((gt ag b0 (IntKind.wrap .i64 (t9-(1:Int)))).2.1,((gt ag b0 (IntKind.wrap .i64 (t9-(1:Int)))).2.2.1,(b2_0,(b2_1,(b2_2,(b2_3,(b2_4,(b2_5,(b2_6,(b2_7,(b3,(b0,(b4,(b5,()))))))))))))))))))) fun x0=>
  br (aR true (iL x0.1 (0:Int)) false)
  (
   ah (ar (IntKind.wrap .i64 (t9-(1:Int))) (List.length x0.2.2.2.2.2.2.2.2.2.2.1))<|
   ah (ar t9 (List.length x0.2.2.2.2.2.2.2.2.2.2.1))<|
   ah (ar t9 (List.length x0.2.2.2.2.2.2.2.2.2.2.1))<|
   ah (ar (IntKind.wrap .i64 (t9-(1:Int))) (List.length (List.set x0.2.2.2.2.2.2.2.2.2.2.1 (Int.toNat t9) ((gt ag x0.2.2.2.2.2.2.2.2.2.2.1 (IntKind.wrap .i64 (t9-(1:Int)))).1,((gt ag x0.2.2.2.2.2.2.2.2.2.2.1 (IntKind.wrap .i64 (t9-(1:Int)))).2.1,((gt ag x0.2.2.2.2.2.2.2.2.2.2.1 (IntKind.wrap .i64 (t9-(1:Int)))).2.2.1,()))))))<|
   ah (iQ t9 t9)<|
   ah (iQ (IntKind.wrap .i64 (t9-(1:Int))) (IntKind.wrap .i64 (t9-(1:Int))))<|
   some (.inl (t1,(t2,(t8,((IntKind.wrap .i64 (t9-(1:Int))),((List.set (List.set x0.2.2.2.2.2.2.2.2.2.2.1 (Int.toNat t9) ((gt ag x0.2.2.2.2.2.2.2.2.2.2.1 (IntKind.wrap .i64 (t9-(1:Int)))).1,((gt ag x0.2.2.2.2.2.2.2.2.2.2.1 (IntKind.wrap .i64 (t9-(1:Int)))).2.1,((gt ag x0.2.2.2.2.2.2.2.2.2.2.1 (IntKind.wrap .i64 (t9-(1:Int)))).2.2.1,())))) (Int.toNat (IntKind.wrap .i64 (t9-(1:Int)))) ((gt ag x0.2.2.2.2.2.2.2.2.2.2.1 t9).1,((gt ag x0.2.2.2.2.2.2.2.2.2.2.1 t9).2.1,((gt ag x0.2.2.2.2.2.2.2.2.2.2.1 t9).2.2.1,())))),(x0.2.1,(x0.2.2.1,(x0.2.2.2.1,(x0.2.2.2.2.1,(x0.2.2.2.2.2.1,(x0.2.2.2.2.2.2.1,(x0.2.2.2.2.2.2.2.1,(x0.2.2.2.2.2.2.2.2.1,(x0.2.2.2.2.2.2.2.2.2.1,x0.2.2.2.2.2.2.2.2.2.2.2))))))))))))))))
  (
   some (.inr (t1,(t2,(t8,(x0.2.2.2.2.2.2.2.2.2.2.1,(x0.2.1,(x0.2.2.1,(x0.2.2.2.1,(x0.2.2.2.2.1,(x0.2.2.2.2.2.1,(x0.2.2.2.2.2.2.1,(x0.2.2.2.2.2.2.2.1,(x0.2.2.2.2.2.2.2.2.1,(x0.2.2.2.2.2.2.2.2.2.1,x0.2.2.2.2.2.2.2.2.2.2.2))))))))))))))))
 (
  some (.inr (t1,(t2,(t8,(b0,(b2_0,(b2_1,(b2_2,(b2_3,(b2_4,(b2_5,(b2_6,(b2_7,(b3,(b4,(b5,())))))))))))))))))
def aiD(c0:iF) :wI:=aU (u16 (FL c0.F)) (pL (kB c0 k0) e0 1 l0 fun d=>by kernel_rfl)
def TB:wI:=aiD i3
def FJ:FI:=aE (u16 (FL gp)) NN
def wJ(L4:FI)(t1 t2 t8:Int)(b0:List (Sh.T ag))(b2_0:Int)(b2_1:List Int)(b2_2:List (Sh.T aa))(b2_3 b2_4 b2_5:List Int)(b2_6:List (Sh.T ab))(b2_7:List (Sh.T aa))(b3 b4 b5:List Int):Option (TL wG.σs⊕Out wF):=
 br (iL t8 t2)
 (
  ai (L4 (t1,(t2,(t8,(t8,(b0,(b2_0,(b2_1,(b2_2,(b2_3,(b2_4,(b2_5,(b2_6,(b2_7,(b3,(b4,(b5,()))))))))))))))))) fun x0=>
  some (.inl (x0.1,(x0.2.1,((IntKind.wrap .i64 (@HAdd.hAdd (Int) (Int) (Int) _ x0.2.2.1 (1:Int))),x0.2.2.2)))))
 (
  some (.inr (b0,(b2_0,(b2_1,(b2_2,(b2_3,(b2_4,(b2_5,(b2_6,(b2_7,(b3,(b4,(b5,()))))))))))))))
def aiE(M4:wI):FK:=aU (dW (wJ M4.L)) (pL k0 e0 1 (sC M4 l0) fun d=>by kernel_rfl)
def aiC:FK:=aiE  TB
def wH:Tz:=aE (dW (wJ FJ)) NN
def aiN(F0:iZ)(L1:Tz)(L4:FI)(t1 t2:Int)(b0:List (Sh.T ag))(b2_0:Int)(b2_1:List Int)(b2_2:List (Sh.T aa))(b2_3 b2_4 b2_5:List Int)(b2_6:List (Sh.T ab))(b2_7:List (Sh.T aa))(b3 b4 b5:List Int):Option (Out FG):=
 ai (L1 (t1,(t2,((IntKind.wrap .i64 (t1+(1:Int))),(b0,(b2_0,(b2_1,(b2_2,(b2_3,(b2_4,(b2_5,(b2_6,(b2_7,(b3,(b4,(b5,())))))))))))))))) fun x0=>
 some x0
def aiM(c0:iF)(M1:FK)(M4:wI):wO:=⟨eJ (aiN c0.F M1.L M4.L),pB Tryz.func227 53 (kB c0 k0) e0 1 (sS (sC M1 l0)) fun d=>by kernel_rfl⟩
def FQ:wO:=aiM i3 aiC TB
def TC:FP:=FQ.F
abbrev TV:ae:=JK
abbrev wY:List (Ev.Ex×ae):=[(.ret,jH)]
abbrev dS:=TL TV.σs->Option (Out wY)
abbrev iY:=Kb 228 5 TV 0 wY
abbrev wU:ae:={ T:=[(0,.hd 0 ag),(1,.int .i64),(2,.int .i64),(3,.int .i64),(4,.func 146 [] [.ptr 1 0]),(18,.int .i64),(19,.int .i64),(20,.int .i64),(21,.int .i64),(22,.int .i64)],h:=eu,nx:=6 }
abbrev rI:List (Ev.Ex×ae):=[((.exit 8),{ T:=[(0,.hd 0 ag),(1,.int .i64),(2,.int .i64),(3,.int .i64),(4,.func 146 [] [.ptr 1 0]),(18,.int .i64),(19,.int .i64),(20,.int .i64)],h:=eu,nx:=6 })]
abbrev TW:=TL wU.σs->Option (Out rI)
abbrev FX:=Ld 6 220 (aT [4] (aG Tryz.f228)) wU rI
abbrev wV:ae:={ T:=[(0,.hd 0 ag),(14,.int .i64),(17,.int .i64)],h:=eu,nx:=6 }
abbrev wL:List (Ev.Ex×ae):=[((.exit 6),jH)]
abbrev TX:=TL wV.σs->Option (Out wL)
abbrev FY:=Ld 6 220 (aT [3] (aG Tryz.f228)) wV wL
abbrev wW:ae:={ T:=[(0,.hd 0 ag),(2,.int .i64),(4,.func 146 [] [.ptr 1 0]),(14,.int .i64),(15,.int .i64)],h:=eu,nx:=6 }
abbrev wM:List (Ev.Ex×ae):=[((.exit 4),{ T:=[(0,.hd 0 ag),(2,.int .i64),(14,.int .i64)],h:=eu,nx:=6 })]
abbrev TY:=TL wW.σs->Option (Out wM)
abbrev FZ:=Ld 6 220 (aT [2] (aG Tryz.f228)) wW wM
abbrev w7:ae:={ T:=[(0,.hd 0 ag),(10,.int .i64),(13,.int .i64)],h:=eu,nx:=6 }
abbrev wS:List (Ev.Ex×ae):=[((.exit 2),jH)]
abbrev Ub:=TL w7.σs->Option (Out wS)
abbrev Gd:=Ld 6 220 (aT [1] (aG Tryz.f228)) w7 wS
abbrev w8:ae:={ T:=[(0,.hd 0 ag),(1,.int .i64),(4,.func 146 [] [.ptr 1 0]),(10,.int .i64),(11,.int .i64)],h:=eu,nx:=6 }
abbrev wT:List (Ev.Ex×ae):=[((.exit 0),{ T:=[(0,.hd 0 ag),(1,.int .i64),(10,.int .i64)],h:=eu,nx:=6 })]
abbrev Uc:=TL w8.σs->Option (Out wT)
abbrev Ge:=Ld 6 220 (aT [0] (aG Tryz.f228)) w8 wT
def oM(F0:iZ)(t1 t10 t11:Int)(b0:List (Sh.T ag))(b2_0:Int)(b2_1:List Int)(b2_2:List (Sh.T aa))(b2_3 b2_4 b2_5:List Int)(b2_6:List (Sh.T ab))(b2_7:List (Sh.T aa))(b3 b4 b5:List Int):Option (TL w8.σs⊕Out wT):=
 br (iL t10 t11)
 (
  ah (ar (IntKind.wrap .i64 (Int.fdiv (IntKind.wrap .u64 (IntKind.wrap .i64 (t10+t11))) (HPow.hPow (2:Int) (Min.min (Int.toNat (1:Int)) 64)))) (List.length b0))<|
  ah (ar t1 (List.length b0))<|
  ai (F0 ((gt ag b0 (IntKind.wrap .i64 (Int.fdiv (IntKind.wrap .u64 (IntKind.wrap .i64 (t10+t11))) (HPow.hPow (2:Int) (Min.min (Int.toNat (1:Int)) 64))))).1,((gt ag b0 (IntKind.wrap .i64 (Int.fdiv (IntKind.wrap .u64 (IntKind.wrap .i64 (t10+t11))) (HPow.hPow (2:Int) (Min.min (Int.toNat (1:Int)) 64))))).2.1,((gt ag b0 (IntKind.wrap .i64 (Int.fdiv (IntKind.wrap .u64 (IntKind.wrap .i64 (t10+t11))) (HPow.hPow (2:Int) (Min.min (Int.toNat (1:Int)) 64))))).2.2.1,((gt ag b0 t1).1,((gt ag b0 t1).2.1,((gt ag b0 t1).2.2.1,(b2_0,(b2_1,(b2_2,(b2_3,(b2_4,(b2_5,(b2_6,(b2_7,(b3,(b0,(b4,(b5,()))))))))))))))))))) fun x0=>
  br (iL x0.1 (0:Int))
  (
   some (.inl (t1,((IntKind.wrap .i64 ((IntKind.wrap .i64 (Int.fdiv (IntKind.wrap .u64 (IntKind.wrap .i64 (t10+t11))) (HPow.hPow (2:Int) (Min.min (Int.toNat (1:Int)) 64))))+(1:Int))),(t11,(x0.2.2.2.2.2.2.2.2.2.2.1,(x0.2.1,(x0.2.2.1,(x0.2.2.2.1,(x0.2.2.2.2.1,(x0.2.2.2.2.2.1,(x0.2.2.2.2.2.2.1,(x0.2.2.2.2.2.2.2.1,(x0.2.2.2.2.2.2.2.2.1,(x0.2.2.2.2.2.2.2.2.2.1,x0.2.2.2.2.2.2.2.2.2.2.2)))))))))))))))
  (
   some (.inl (t1,(t10,((IntKind.wrap .i64 (Int.fdiv (IntKind.wrap .u64 (IntKind.wrap .i64 (t10+t11))) (HPow.hPow (2:Int) (Min.min (Int.toNat (1:Int)) 64)))),(x0.2.2.2.2.2.2.2.2.2.2.1,(x0.2.1,(x0.2.2.1,(x0.2.2.2.1,(x0.2.2.2.2.1,(x0.2.2.2.2.2.1,(x0.2.2.2.2.2.2.1,(x0.2.2.2.2.2.2.2.1,(x0.2.2.2.2.2.2.2.2.1,(x0.2.2.2.2.2.2.2.2.2.1,x0.2.2.2.2.2.2.2.2.2.2.2))))))))))))))))
 (
  some (.inr (t1,(t10,(b0,(b2_0,(b2_1,(b2_2,(b2_3,(b2_4,(b2_5,(b2_6,(b2_7,(b3,(b4,(b5,()))))))))))))))))
def ai9(c0:iF) :Ge:=aU (dW (oM c0.F)) (pL (kB c0 k0) e0 1 l0 fun d=>by kernel_rfl)
def ai7(s:iY):Ge:=ai9 i3
def Ud(F:dS):Uc:=aE (fun d=>oM gp  d.1 d.2.1 d.2.2.1 d.2.2.2.1 d.2.2.2.2.1 d.2.2.2.2.2.1 d.2.2.2.2.2.2.1 d.2.2.2.2.2.2.2.1 d.2.2.2.2.2.2.2.2.1 d.2.2.2.2.2.2.2.2.2.1 d.2.2.2.2.2.2.2.2.2.2.1 d.2.2.2.2.2.2.2.2.2.2.2.1 d.2.2.2.2.2.2.2.2.2.2.2.2.1 d.2.2.2.2.2.2.2.2.2.2.2.2.2.1 d.2.2.2.2.2.2.2.2.2.2.2.2.2.2.1) NN
def xg(t10 t13:Int)(b0:List (Sh.T ag))(b2_0:Int)(b2_1:List Int)(b2_2:List (Sh.T aa))(b2_3 b2_4 b2_5:List Int)(b2_6:List (Sh.T ab))(b2_7:List (Sh.T aa))(b3 b4 b5:List Int):Option (TL w7.σs⊕Out wS):=
 br (iL t13 (IntKind.wrap .i64 (t10-(1:Int))))
 (
  ah (ar (IntKind.wrap .i64 (t13+(1:Int))) (List.length b0))<|
  ah (ar t13 (List.length b0))<|
  ah (ar t13 (List.length b0))<|
  ah (ar (IntKind.wrap .i64 (t13+(1:Int))) (List.length (List.set b0 (Int.toNat t13) ((gt ag b0 (IntKind.wrap .i64 (t13+(1:Int)))).1,((gt ag b0 (IntKind.wrap .i64 (t13+(1:Int)))).2.1,((gt ag b0 (IntKind.wrap .i64 (t13+(1:Int)))).2.2.1,()))))))<|
  ah (iQ t13 t13)<|
  ah (iQ (IntKind.wrap .i64 (t13+(1:Int))) (IntKind.wrap .i64 (t13+(1:Int))))<|
  some (.inl (t10,((IntKind.wrap .i64 (t13+(1:Int))),((List.set (List.set b0 (Int.toNat t13) ((gt ag b0 (IntKind.wrap .i64 (t13+(1:Int)))).1,((gt ag b0 (IntKind.wrap .i64 (t13+(1:Int)))).2.1,((gt ag b0 (IntKind.wrap .i64 (t13+(1:Int)))).2.2.1,())))) (Int.toNat (IntKind.wrap .i64 (t13+(1:Int)))) ((gt ag b0 t13).1,((gt ag b0 t13).2.1,((gt ag b0 t13).2.2.1,())))),(b2_0,(b2_1,(b2_2,(b2_3,(b2_4,(b2_5,(b2_6,(b2_7,(b3,(b4,(b5,()))))))))))))))))
 (
  some (.inr (b0,(b2_0,(b2_1,(b2_2,(b2_3,(b2_4,(b2_5,(b2_6,(b2_7,(b3,(b4,(b5,()))))))))))))))
def ai8  :Gd:=aU (eJ xg) (pL k0 e0 1 l0 fun d=>by kernel_rfl)
def ai6(s:iY):Gd:=ai8
def Gb(F:dS):Ub:=aE (fun d=>xg   d.1 d.2.1 d.2.2.1 d.2.2.2.1 d.2.2.2.2.1 d.2.2.2.2.2.1 d.2.2.2.2.2.2.1 d.2.2.2.2.2.2.2.1 d.2.2.2.2.2.2.2.2.1 d.2.2.2.2.2.2.2.2.2.1 d.2.2.2.2.2.2.2.2.2.2.1 d.2.2.2.2.2.2.2.2.2.2.2.1 d.2.2.2.2.2.2.2.2.2.2.2.2.1 d.2.2.2.2.2.2.2.2.2.2.2.2.2.1) NN
def oL(F0:iZ)(t2 t14 t15:Int)(b0:List (Sh.T ag))(b2_0:Int)(b2_1:List Int)(b2_2:List (Sh.T aa))(b2_3 b2_4 b2_5:List Int)(b2_6:List (Sh.T ab))(b2_7:List (Sh.T aa))(b3 b4 b5:List Int):Option (TL wW.σs⊕Out wM):=
 br (iL t14 t15)
 (
  ah (ar t2 (List.length b0))<|
  ah (ar (IntKind.wrap .i64 (Int.fdiv (IntKind.wrap .u64 (IntKind.wrap .i64 (t14+t15))) (HPow.hPow (2:Int) (Min.min (Int.toNat (1:Int)) 64)))) (List.length b0))<|
  ai (F0 ((gt ag b0 t2).1,((gt ag b0 t2).2.1,((gt ag b0 t2).2.2.1,((gt ag b0 (IntKind.wrap .i64 (Int.fdiv (IntKind.wrap .u64 (IntKind.wrap .i64 (t14+t15))) (HPow.hPow (2:Int) (Min.min (Int.toNat (1:Int)) 64))))).1,((gt ag b0 (IntKind.wrap .i64 (Int.fdiv (IntKind.wrap .u64 (IntKind.wrap .i64 (t14+t15))) (HPow.hPow (2:Int) (Min.min (Int.toNat (1:Int)) 64))))).2.1,((gt ag b0 (IntKind.wrap .i64 (Int.fdiv (IntKind.wrap .u64 (IntKind.wrap .i64 (t14+t15))) (HPow.hPow (2:Int) (Min.min (Int.toNat (1:Int)) 64))))).2.2.1,(b2_0,(b2_1,(b2_2,(b2_3,(b2_4,(b2_5,(b2_6,(b2_7,(b3,(b0,(b4,(b5,()))))))))))))))))))) fun x0=>
  br (Bool.not (iL x0.1 (0:Int)))
  (
   some (.inl (t2,((IntKind.wrap .i64 ((IntKind.wrap .i64 (Int.fdiv (IntKind.wrap .u64 (IntKind.wrap .i64 (t14+t15))) (HPow.hPow (2:Int) (Min.min (Int.toNat (1:Int)) 64))))+(1:Int))),(t15,(x0.2.2.2.2.2.2.2.2.2.2.1,(x0.2.1,(x0.2.2.1,(x0.2.2.2.1,(x0.2.2.2.2.1,(x0.2.2.2.2.2.1,(x0.2.2.2.2.2.2.1,(x0.2.2.2.2.2.2.2.1,(x0.2.2.2.2.2.2.2.2.1,(x0.2.2.2.2.2.2.2.2.2.1,x0.2.2.2.2.2.2.2.2.2.2.2)))))))))))))))
  (
   some (.inl (t2,(t14,((IntKind.wrap .i64 (Int.fdiv (IntKind.wrap .u64 (IntKind.wrap .i64 (t14+t15))) (HPow.hPow (2:Int) (Min.min (Int.toNat (1:Int)) 64)))),(x0.2.2.2.2.2.2.2.2.2.2.1,(x0.2.1,(x0.2.2.1,(x0.2.2.2.1,(x0.2.2.2.2.1,(x0.2.2.2.2.2.1,(x0.2.2.2.2.2.2.1,(x0.2.2.2.2.2.2.2.1,(x0.2.2.2.2.2.2.2.2.1,(x0.2.2.2.2.2.2.2.2.2.1,x0.2.2.2.2.2.2.2.2.2.2.2))))))))))))))))
 (
  some (.inr (t2,(t14,(b0,(b2_0,(b2_1,(b2_2,(b2_3,(b2_4,(b2_5,(b2_6,(b2_7,(b3,(b4,(b5,()))))))))))))))))
def ai4(c0:iF) :FZ:=aU (dW (oL c0.F)) (pL (kB c0 k0) e0 1 l0 fun d=>by kernel_rfl)
def ai1(s:iY):FZ:=ai4 i3
def TZ(F:dS):TY:=aE (fun d=>oL gp  d.1 d.2.1 d.2.2.1 d.2.2.2.1 d.2.2.2.2.1 d.2.2.2.2.2.1 d.2.2.2.2.2.2.1 d.2.2.2.2.2.2.2.1 d.2.2.2.2.2.2.2.2.1 d.2.2.2.2.2.2.2.2.2.1 d.2.2.2.2.2.2.2.2.2.2.1 d.2.2.2.2.2.2.2.2.2.2.2.1 d.2.2.2.2.2.2.2.2.2.2.2.2.1 d.2.2.2.2.2.2.2.2.2.2.2.2.2.1 d.2.2.2.2.2.2.2.2.2.2.2.2.2.2.1) NN
def xa(t14 t17:Int)(b0:List (Sh.T ag))(b2_0:Int)(b2_1:List Int)(b2_2:List (Sh.T aa))(b2_3 b2_4 b2_5:List Int)(b2_6:List (Sh.T ab))(b2_7:List (Sh.T aa))(b3 b4 b5:List Int):Option (TL wV.σs⊕Out wL):=
 br (iL t14 t17)
 (
  ah (ar (IntKind.wrap .i64 (t17-(1:Int))) (List.length b0))<|
  ah (ar t17 (List.length b0))<|
  ah (ar t17 (List.length b0))<|
  ah (ar (IntKind.wrap .i64 (t17-(1:Int))) (List.length (List.set b0 (Int.toNat t17) ((gt ag b0 (IntKind.wrap .i64 (t17-(1:Int)))).1,((gt ag b0 (IntKind.wrap .i64 (t17-(1:Int)))).2.1,((gt ag b0 (IntKind.wrap .i64 (t17-(1:Int)))).2.2.1,()))))))<|
  ah (iQ t17 t17)<|
  ah (iQ (IntKind.wrap .i64 (t17-(1:Int))) (IntKind.wrap .i64 (t17-(1:Int))))<|
  some (.inl (t14,((IntKind.wrap .i64 (t17-(1:Int))),((List.set (List.set b0 (Int.toNat t17) ((gt ag b0 (IntKind.wrap .i64 (t17-(1:Int)))).1,((gt ag b0 (IntKind.wrap .i64 (t17-(1:Int)))).2.1,((gt ag b0 (IntKind.wrap .i64 (t17-(1:Int)))).2.2.1,())))) (Int.toNat (IntKind.wrap .i64 (t17-(1:Int)))) ((gt ag b0 t17).1,((gt ag b0 t17).2.1,((gt ag b0 t17).2.2.1,())))),(b2_0,(b2_1,(b2_2,(b2_3,(b2_4,(b2_5,(b2_6,(b2_7,(b3,(b4,(b5,()))))))))))))))))
 (
  some (.inr (b0,(b2_0,(b2_1,(b2_2,(b2_3,(b2_4,(b2_5,(b2_6,(b2_7,(b3,(b4,(b5,()))))))))))))))
def ai3  :FY:=aU (eJ xa) (pL k0 e0 1 l0 fun d=>by kernel_rfl)
def ai0(s:iY):FY:=ai3
def FW(F:dS):TX:=aE (fun d=>xa   d.1 d.2.1 d.2.2.1 d.2.2.2.1 d.2.2.2.2.1 d.2.2.2.2.2.1 d.2.2.2.2.2.2.1 d.2.2.2.2.2.2.2.1 d.2.2.2.2.2.2.2.2.1 d.2.2.2.2.2.2.2.2.2.1 d.2.2.2.2.2.2.2.2.2.2.1 d.2.2.2.2.2.2.2.2.2.2.2.1 d.2.2.2.2.2.2.2.2.2.2.2.2.1 d.2.2.2.2.2.2.2.2.2.2.2.2.2.1) NN
def oK(F0:iZ)(t1 t2 t3 t18 t19 t20 t21 t22:Int)(b0:List (Sh.T ag))(b2_0:Int)(b2_1:List Int)(b2_2:List (Sh.T aa))(b2_3 b2_4 b2_5:List Int)(b2_6:List (Sh.T ab))(b2_7:List (Sh.T aa))(b3 b4 b5:List Int):Option (TL wU.σs⊕Out rI):=
 br (iL t20 t21)
 (
  ah (ar (IntKind.wrap .i64 (t22-(IntKind.wrap .i64 (Int.fdiv (IntKind.wrap .u64 (IntKind.wrap .i64 (t20+t21))) (HPow.hPow (2:Int) (Min.min (Int.toNat (1:Int)) 64)))))) (List.length b0))<|
  ah (ar (IntKind.wrap .i64 (Int.fdiv (IntKind.wrap .u64 (IntKind.wrap .i64 (t20+t21))) (HPow.hPow (2:Int) (Min.min (Int.toNat (1:Int)) 64)))) (List.length b0))<|
  ai (F0 ((gt ag b0 (IntKind.wrap .i64 (t22-(IntKind.wrap .i64 (Int.fdiv (IntKind.wrap .u64 (IntKind.wrap .i64 (t20+t21))) (HPow.hPow (2:Int) (Min.min (Int.toNat (1:Int)) 64))))))).1,((gt ag b0 (IntKind.wrap .i64 (t22-(IntKind.wrap .i64 (Int.fdiv (IntKind.wrap .u64 (IntKind.wrap .i64 (t20+t21))) (HPow.hPow (2:Int) (Min.min (Int.toNat (1:Int)) 64))))))).2.1,((gt ag b0 (IntKind.wrap .i64 (t22-(IntKind.wrap .i64 (Int.fdiv (IntKind.wrap .u64 (IntKind.wrap .i64 (t20+t21))) (HPow.hPow (2:Int) (Min.min (Int.toNat (1:Int)) 64))))))).2.2.1,((gt ag b0 (IntKind.wrap .i64 (Int.fdiv (IntKind.wrap .u64 (IntKind.wrap .i64 (t20+t21))) (HPow.hPow (2:Int) (Min.min (Int.toNat (1:Int)) 64))))).1,((gt ag b0 (IntKind.wrap .i64 (Int.fdiv (IntKind.wrap .u64 (IntKind.wrap .i64 (t20+t21))) (HPow.hPow (2:Int) (Min.min (Int.toNat (1:Int)) 64))))).2.1,((gt ag b0 (IntKind.wrap .i64 (Int.fdiv (IntKind.wrap .u64 (IntKind.wrap .i64 (t20+t21))) (HPow.hPow (2:Int) (Min.min (Int.toNat (1:Int)) 64))))).2.2.1,(b2_0,(b2_1,(b2_2,(b2_3,(b2_4,(b2_5,(b2_6,(b2_7,(b3,(b0,(b4,(b5,()))))))))))))))))))) fun x0=>
  br (Bool.not (iL x0.1 (0:Int)))
  (
   some (.inl (t1,(t2,(t3,(t18,(t19,((IntKind.wrap .i64 ((IntKind.wrap .i64 (Int.fdiv (IntKind.wrap .u64 (IntKind.wrap .i64 (t20+t21))) (HPow.hPow (2:Int) (Min.min (Int.toNat (1:Int)) 64))))+(1:Int))),(t21,(t22,(x0.2.2.2.2.2.2.2.2.2.2.1,(x0.2.1,(x0.2.2.1,(x0.2.2.2.1,(x0.2.2.2.2.1,(x0.2.2.2.2.2.1,(x0.2.2.2.2.2.2.1,(x0.2.2.2.2.2.2.2.1,(x0.2.2.2.2.2.2.2.2.1,(x0.2.2.2.2.2.2.2.2.2.1,x0.2.2.2.2.2.2.2.2.2.2.2))))))))))))))))))))
  (
   some (.inl (t1,(t2,(t3,(t18,(t19,(t20,((IntKind.wrap .i64 (Int.fdiv (IntKind.wrap .u64 (IntKind.wrap .i64 (t20+t21))) (HPow.hPow (2:Int) (Min.min (Int.toNat (1:Int)) 64)))),(t22,(x0.2.2.2.2.2.2.2.2.2.2.1,(x0.2.1,(x0.2.2.1,(x0.2.2.2.1,(x0.2.2.2.2.1,(x0.2.2.2.2.2.1,(x0.2.2.2.2.2.2.1,(x0.2.2.2.2.2.2.2.1,(x0.2.2.2.2.2.2.2.2.1,(x0.2.2.2.2.2.2.2.2.2.1,x0.2.2.2.2.2.2.2.2.2.2.2)))))))))))))))))))))
 (
  some (.inr (t1,(t2,(t3,(t18,(t19,(t20,(b0,(b2_0,(b2_1,(b2_2,(b2_3,(b2_4,(b2_5,(b2_6,(b2_7,(b3,(b4,(b5,()))))))))))))))))))))
def ai2(c0:iF) :FX:=aU (kH (oK c0.F)) (pL (kB c0 k0) e0 1 l0 fun d=>by kernel_rfl)
def aiZ(s:iY):FX:=ai2 i3
def w9(F:dS):TW:=aE (fun d=>oK gp  d.1 d.2.1 d.2.2.1 d.2.2.2.1 d.2.2.2.2.1 d.2.2.2.2.2.1 d.2.2.2.2.2.2.1 d.2.2.2.2.2.2.2.1 d.2.2.2.2.2.2.2.2.1 d.2.2.2.2.2.2.2.2.2.1 d.2.2.2.2.2.2.2.2.2.2.1 d.2.2.2.2.2.2.2.2.2.2.2.1 d.2.2.2.2.2.2.2.2.2.2.2.2.1 d.2.2.2.2.2.2.2.2.2.2.2.2.2.1 d.2.2.2.2.2.2.2.2.2.2.2.2.2.2.1 d.2.2.2.2.2.2.2.2.2.2.2.2.2.2.2.1 d.2.2.2.2.2.2.2.2.2.2.2.2.2.2.2.2.1 d.2.2.2.2.2.2.2.2.2.2.2.2.2.2.2.2.2.1 d.2.2.2.2.2.2.2.2.2.2.2.2.2.2.2.2.2.2.1 d.2.2.2.2.2.2.2.2.2.2.2.2.2.2.2.2.2.2.2.1) NN
abbrev aI:=ag.T
abbrev fN:=TL [.int .i64,.sl (.int .i64),.sl aa,.sl (.int .i64),.sl (.int .i64),.sl (.int .i64),.sl ab,.sl aa,.sl (.int .i64),.sl (.int .u8),.sl (.int .i64)]
abbrev ng:=Option (Out wY)
def pj(F1:dS)(b mid e:Int)(x:List aI×fN):ng:=br (iL mid e) (br (aR true (iL e b) false) (ai (F1 (mid,(e,(b,(x.1,x.2))))) fun y=>some (y.1,y.2)) (some x)) (some x)
def sI(F1:dS)(a b mid s e:Int)(x:List aI×fN):ng:=br (iL a s) (br (aR true (iL s mid) false) (ai (F1 (a,(s,(mid,(x.1,x.2))))) fun y=>pj F1 b mid e y) (pj F1 b mid e x)) (pj F1 b mid e x)
def JH(F2:yl)(F1:dS)(a m b mid s e:Int)(x:List aI×fN):ng:=br (iL s m) (br (aR true (iL m e) false) (ai (F2 (s,(m,(e,(x.1,x.2))))) fun y=>sI F1 a b mid s e y) (sI F1 a b mid s e x)) (sI F1 a b mid s e x)
def XB(F2:yl)(F1:dS)(x0:Out rI):ng:=JH F2 F1 x0.1 x0.2.1 x0.2.2.1 x0.2.2.2.1 x0.2.2.2.2.2.1 (IntKind.wrap .i64 (@HSub.hSub (Int) (Int) (Int) _ x0.2.2.2.2.1 x0.2.2.2.2.2.1)) x0.2.2.2.2.2.2
def rH(F0:iZ)(F1:dS)(F2:yl)(L3:Uc)(L9:Ub)(L15:TY)(L21:TX)(L33:TW)(t1 t2 t3:Int)(b0:List (Sh.T ag))(b2_0:Int)(b2_1:List Int)(b2_2:List (Sh.T aa))(b2_3 b2_4 b2_5:List Int)(b2_6:List (Sh.T ab))(b2_7:List (Sh.T aa))(b3 b4 b5:List Int):Option (Out wY):=
 br (iQ (IntKind.wrap .i64 (t2-t1)) (1:Int))
 (
  ai (L3 (t1,(t2,(t3,(b0,(b2_0,(b2_1,(b2_2,(b2_3,(b2_4,(b2_5,(b2_6,(b2_7,(b3,(b4,(b5,())))))))))))))))) fun x0=>
  ai (L9 (x0.2.1,(x0.1,x0.2.2))) fun x1=>
  some x1)
 (
  br (iQ (IntKind.wrap .i64 (t3-t2)) (1:Int))
  (
   ai (L15 (t2,(t1,(t2,(b0,(b2_0,(b2_1,(b2_2,(b2_3,(b2_4,(b2_5,(b2_6,(b2_7,(b3,(b4,(b5,())))))))))))))))) fun x0=>
   ai (L21 (x0.2.1,(x0.1,x0.2.2))) fun x1=>
   some x1)
  (
   br (iL (IntKind.wrap .i64 (Int.fdiv (IntKind.wrap .u64 (IntKind.wrap .i64 (t1+t3))) (HPow.hPow (2:Int) (Min.min (Int.toNat (1:Int)) 64)))) t2)
   (
    ai (L33 (t1,(t2,(t3,((IntKind.wrap .i64 (Int.fdiv (IntKind.wrap .u64 (IntKind.wrap .i64 (t1+t3))) (HPow.hPow (2:Int) (Min.min (Int.toNat (1:Int)) 64)))),((IntKind.wrap .i64 ((IntKind.wrap .i64 (Int.fdiv (IntKind.wrap .u64 (IntKind.wrap .i64 (t1+t3))) (HPow.hPow (2:Int) (Min.min (Int.toNat (1:Int)) 64))))+t2)),((IntKind.wrap .i64 ((IntKind.wrap .i64 ((IntKind.wrap .i64 (Int.fdiv (IntKind.wrap .u64 (IntKind.wrap .i64 (t1+t3))) (HPow.hPow (2:Int) (Min.min (Int.toNat (1:Int)) 64))))+t2))-t3)),((IntKind.wrap .i64 (Int.fdiv (IntKind.wrap .u64 (IntKind.wrap .i64 (t1+t3))) (HPow.hPow (2:Int) (Min.min (Int.toNat (1:Int)) 64)))),((IntKind.wrap .i64 ((IntKind.wrap .i64 ((IntKind.wrap .i64 (Int.fdiv (IntKind.wrap .u64 (IntKind.wrap .i64 (t1+t3))) (HPow.hPow (2:Int) (Min.min (Int.toNat (1:Int)) 64))))+t2))-(1:Int))),(b0,(b2_0,(b2_1,(b2_2,(b2_3,(b2_4,(b2_5,(b2_6,(b2_7,(b3,(b4,(b5,()))))))))))))))))))))) fun x0=>XB F2 F1 x0)
   (
    ai (L33 (t1,(t2,(t3,((IntKind.wrap .i64 (Int.fdiv (IntKind.wrap .u64 (IntKind.wrap .i64 (t1+t3))) (HPow.hPow (2:Int) (Min.min (Int.toNat (1:Int)) 64)))),((IntKind.wrap .i64 ((IntKind.wrap .i64 (Int.fdiv (IntKind.wrap .u64 (IntKind.wrap .i64 (t1+t3))) (HPow.hPow (2:Int) (Min.min (Int.toNat (1:Int)) 64))))+t2)),(t1,(t2,((IntKind.wrap .i64 ((IntKind.wrap .i64 ((IntKind.wrap .i64 (Int.fdiv (IntKind.wrap .u64 (IntKind.wrap .i64 (t1+t3))) (HPow.hPow (2:Int) (Min.min (Int.toNat (1:Int)) 64))))+t2))-(1:Int))),(b0,(b2_0,(b2_1,(b2_2,(b2_3,(b2_4,(b2_5,(b2_6,(b2_7,(b3,(b4,(b5,()))))))))))))))))))))) fun x0=>XB F2 F1 x0)))
def aje(c0:iF)(c1:iY)(c2:Gy)(M3:Ge)(M9:Gd)(M15:FZ)(M21:FY)(M33:FX):iY:=⟨dW (rH c0.F c1.F c2.F M3.L M9.L M15.L M21.L M33.L),pB Tryz.func228 220 (kB c0 (kB c1 (kB c2 k0))) e0 1 (sS (sC M3 (sC M9 (sC M15 (sC M21 (sC M33 l0)))))) fun d=>by kernel_rfl⟩
def l6:Nat->iY
 |0=>ZP Tryz.func228 (by kernel_rfl) (by kernel_rfl)|k+1=>aje i3 (l6 k) Us (ai7 (l6 k)) (ai6 (l6 k)) (ai1 (l6 k)) (ai0 (l6 k)) (aiZ (l6 k))
def fG(k:Nat):dS:=(l6 k).F
def xm:iY:=l6 NN
def Gc:dS:=xm.F
abbrev Uf:ae:={ T:=[(0,.hd 0 ag),(1,.int .i64),(2,.func 146 [] [.ptr 1 0])],h:=eu,nx:=6 }
abbrev Gh:List (Ev.Ex×ae):=[(.ret,jH)]
abbrev Uq:=TL Uf.σs->Option (Out Gh)
abbrev Gx:=Kb 197 3 Uf 0 Gh
abbrev xk:ae:={ T:=[(0,.hd 0 ag),(1,.int .i64),(2,.func 146 [] [.ptr 1 0]),(6,.int .i64)],h:=eu,nx:=6 }
abbrev xe:List (Ev.Ex×ae):=[((.exit 2),jH)]
abbrev Uh:=TL xk.σs->Option (Out xe)
abbrev Gp:=Ld 6 63 (aT [1] (aG Tryz.f197)) xk xe
abbrev xj:ae:=XM
abbrev xc:List (Ev.Ex×ae):=[((.exit 4),XO)]
abbrev Gn:=TL xj.σs->Option (Out xc)
abbrev xo:=Ld 6 63 (aT [1,0] (aG Tryz.f197)) xj xc
abbrev xl:ae:=XM
abbrev xf:List (Ev.Ex×ae):=[((.exit 0),XO)]
abbrev Ui:=TL xl.σs->Option (Out xf)
abbrev Gq:=Ld 6 63 (aT [0] (aG Tryz.f197)) xl xf
def Gt(F2:FP)(t1 t6 t7 t8:Int)(b0:List (Sh.T ag))(b2_0:Int)(b2_1:List Int)(b2_2:List (Sh.T aa))(b2_3 b2_4 b2_5:List Int)(b2_6:List (Sh.T ab))(b2_7:List (Sh.T aa))(b3 b4 b5:List Int):Option (TL xl.σs⊕Out xf):=
 br (iE t8 t1)
 (
  ai (F2 (t7,(t8,(b0,(b2_0,(b2_1,(b2_2,(b2_3,(b2_4,(b2_5,(b2_6,(b2_7,(b3,(b4,(b5,()))))))))))))))) fun x0=>
  some (.inl (t1,(t6,(t8,((IntKind.wrap .i64 (t8+t6)),x0))))))
 (
  some (.inr (t1,(t6,(t7,(b0,(b2_0,(b2_1,(b2_2,(b2_3,(b2_4,(b2_5,(b2_6,(b2_7,(b3,(b4,(b5,())))))))))))))))))
def ajk(c2:wO) :Gq:=aU (u16 (Gt c2.F)) (pL (kB c2 k0) e0 1 l0 fun d=>by kernel_rfl)
def ajh:Gq:=ajk FQ
def Ul:Ui:=aE (u16 (Gt TC)) NN
def Gr(F1:dS)(t1 t6 t7 t8:Int)(b0:List (Sh.T ag))(b2_0:Int)(b2_1:List Int)(b2_2:List (Sh.T aa))(b2_3 b2_4 b2_5:List Int)(b2_6:List (Sh.T ab))(b2_7:List (Sh.T aa))(b3 b4 b5:List Int):Option (TL xj.σs⊕Out xc):=
 br (iE t8 t1)
 (
  ai (F1 (t7,((IntKind.wrap .i64 (t7+t6)),(t8,(b0,(b2_0,(b2_1,(b2_2,(b2_3,(b2_4,(b2_5,(b2_6,(b2_7,(b3,(b4,(b5,())))))))))))))))) fun x0=>
  some (.inl (t1,(t6,(t8,((IntKind.wrap .i64 (t8+(IntKind.wrap .i64 ((2:Int)*t6)))),x0))))))
 (
  some (.inr (t1,(t6,(t7,(b0,(b2_0,(b2_1,(b2_2,(b2_3,(b2_4,(b2_5,(b2_6,(b2_7,(b3,(b4,(b5,())))))))))))))))))
def aji(c1:iY) :xo:=aU (u16 (Gr c1.F)) (pL (kB c1 k0) e0 1 l0 fun d=>by kernel_rfl)
def Uj:xo:=aji xm
def xn:Gn:=aE (u16 (Gr Gc)) NN
def Gs(F1:dS)(L9:Gn)(t1 t6:Int)(b0:List (Sh.T ag))(b2_0:Int)(b2_1:List Int)(b2_2:List (Sh.T aa))(b2_3 b2_4 b2_5:List Int)(b2_6:List (Sh.T ab))(b2_7:List (Sh.T aa))(b3 b4 b5:List Int):Option (TL xk.σs⊕Out xe):=
 br (iL t6 t1)
 (
  ai (L9 (t1,(t6,((0:Int),((IntKind.wrap .i64 ((2:Int)*t6)),(b0,(b2_0,(b2_1,(b2_2,(b2_3,(b2_4,(b2_5,(b2_6,(b2_7,(b3,(b4,(b5,()))))))))))))))))) fun x0=>
  br (iL (IntKind.wrap .i64 (@HAdd.hAdd (Int) (Int) (Int) _ x0.2.2.1 x0.2.1)) x0.1)
  (
   ai (F1 (x0.2.2.1,((IntKind.wrap .i64 (@HAdd.hAdd (Int) (Int) (Int) _ x0.2.2.1 x0.2.1)),(x0.1,x0.2.2.2)))) fun x1=>
   some (.inl (x0.1,((IntKind.wrap .i64 (@HMul.hMul (Int) (Int) (Int) _ x0.2.1 (2:Int))),x1))))
  (
   some (.inl (x0.1,((IntKind.wrap .i64 (@HMul.hMul (Int) (Int) (Int) _ x0.2.1 (2:Int))),x0.2.2.2)))))
 (
  some (.inr (b0,(b2_0,(b2_1,(b2_2,(b2_3,(b2_4,(b2_5,(b2_6,(b2_7,(b3,(b4,(b5,()))))))))))))))
def ajj(c1:iY)(M9:xo):Gp:=aU (eJ (Gs c1.F M9.L)) (pL (kB c1 k0) e0 1 (sC M9 l0) fun d=>by kernel_rfl)
def ajg:Gp:=ajj xm Uj
def Uk:Uh:=aE (eJ (Gs Gc xn)) NN
def ajs(F0:iZ)(F1:dS)(F2:FP)(L2:Ui)(L7:Uh)(L9:Gn)(t1:Int)(b0:List (Sh.T ag))(b2_0:Int)(b2_1:List Int)(b2_2:List (Sh.T aa))(b2_3 b2_4 b2_5:List Int)(b2_6:List (Sh.T ab))(b2_7:List (Sh.T aa))(b3 b4 b5:List Int):Option (Out Gh):=
 ai (L2 (t1,((20:Int),((0:Int),((20:Int),(b0,(b2_0,(b2_1,(b2_2,(b2_3,(b2_4,(b2_5,(b2_6,(b2_7,(b3,(b4,(b5,()))))))))))))))))) fun x0=>
 ai (F2 (x0.2.2.1,(x0.1,x0.2.2.2))) fun x1=>
 ai (L7 (x0.1,(x0.2.1,x1))) fun x2=>
 some x2
def ajr(c0:iF)(c1:iY)(c2:wO)(M2:Gq)(M7:Gp)(M9:xo):Gx:=⟨fC (ajs c0.F c1.F c2.F M2.L M7.L M9.L),pB Tryz.func197 63 (kB c0 (kB c1 (kB c2 k0))) e0 1 (sS (sC M2 (sC M7 l0))) fun d=>by kernel_rfl⟩
def Ur:Gx:=ajr i3 xm FQ ajh ajg Uj
def ajl:Uq:=Ur.F
abbrev Tn:ae:={ T:=[(0,.hd 0 ag),(1,.func 146 [] [.ptr 1 0])],h:=eu,nx:=6 }
abbrev FD:List (Ev.Ex×ae):=[(.ret,jH)]
abbrev Tp:=TL Tn.σs->Option (Out FD)
abbrev FF:=Kb 145 2 Tn 0 FD
def aiw(F0:iZ)(F1:Uq)(b0:List (Sh.T ag))(b2_0:Int)(b2_1:List Int)(b2_2:List (Sh.T aa))(b2_3 b2_4 b2_5:List Int)(b2_6:List (Sh.T ab))(b2_7:List (Sh.T aa))(b3 b4 b5:List Int):Option (Out FD):=
 ai (F1 ((Int.ofNat (List.length b0)),(b0,(b2_0,(b2_1,(b2_2,(b2_3,(b2_4,(b2_5,(b2_6,(b2_7,(b3,(b4,(b5,())))))))))))))) fun x0=>
 some x0
def aiv(c0:iF)(c1:Gx) :FF:=⟨eI (aiw c0.F c1.F),pB Tryz.func145 9 (kB c0 (kB c1 k0)) e0 1 (sS l0) fun d=>by kernel_rfl⟩
def Tq:FF:=aiv i3 Ur
def aiu:Tp:=Tq.F
abbrev Wg:List Sh:=[ba]
abbrev IG:List Sh:=[(.sl ag),.bool]
abbrev Wr:=TL Wg->Option (TL IG)
abbrev IX:=Kd 78 Wg IG
def ala(F0:Tp)(F1:iZ)(F2:I2)(a0:Sh.T ba):Option (TL IG):=
 ai (F2 a0) fun x0=>
 (match x0 with
 |.inl x1=>
  ah (Bool.not (iQ x1.1 (0:Int)))<|
  some ([],(false,()))
 |.inr x1=>
  br (Bool.not (iQ x1.1 (0:Int)))
  (
   some ([],(false,())))
  (
   ai (F0 (x1.2.2.2.2.2.2.2.2.2.2.1,(x1.2.1,(x1.2.2.1,(x1.2.2.2.1,(x1.2.2.2.2.1,(x1.2.2.2.2.2.1,(x1.2.2.2.2.2.2.1,(x1.2.2.2.2.2.2.2.1,(x1.2.2.2.2.2.2.2.2.1,(x1.2.2.2.2.2.2.2.2.2.1,x1.2.2.2.2.2.2.2.2.2.2.2))))))))))) fun x2=>
   some (x2.1,(true,())))
 )
def ak9(c0:FF)(c1:iF)(c2:yW) :IX:=⟨u1 (ala c0.F c1.F c2.F),pD Tryz.func78 23 (kB c0 (kB c1 (kB c2 k0))) e0 1 (sS l0) fun d=>by kernel_rfl⟩
def Wt:IX:=ak9 Tq i3 I3
def akZ:Wr:=Wt.F
abbrev WJ:List Sh:=[(.int .i64)]
abbrev I5:List Sh:=[.bool]
abbrev WQ:=TL WJ->Option (TL I5)
abbrev Ja:=Kd 149 WJ I5
def I9(a0:Int):Option (TL I5):=some ((iQ (gH .i64 a0 (1:Int)) (1:Int)),())
def alE  :Ja:=⟨u1 I9,pD Tryz.func149 6 k0 e0 1 (sS l0) fun d=>by kernel_rfl⟩
def WR:Ja:=alE
def WK:WQ:=WR.F
abbrev Wy:List Sh:=[(.int .i64),(.sl .bool)]
abbrev yV:List Sh:=[.bool]
abbrev ju:=TL Wy->Option (TL yV)
abbrev i4:=Kd 80 Wy yV
def I6(F0:WQ)(F1:yX)(a0:Int)(a1:List Bool):Option (TL yV):=
 br (iL a0 (0:Int))
 (
  some (false,()))
 (
  ai (F1 (a0,())) fun x0=>
  ai (F0 (a0,())) fun x1=>
  br (iL (0:Int) x0.1)
  (
   br (aR true (iL x0.1 (Int.ofNat (List.length a1))) false)
   (
    ah (ar x0.1 (List.length a1))<|
    some ((Bool.not (@decide _ (Bool.decEq x1.1 (aR true (gt .bool a1 x0.1) false)))),()))
   (
    some ((Bool.not (@decide _ (Bool.decEq x1.1 false))),())))
  (
   some ((Bool.not (@decide _ (Bool.decEq x1.1 false))),())))
def alv(c0:Ja)(c1:sc) :i4:=⟨u2 (I6 c0.F c1.F),pD Tryz.func80 27 (kD c0 (kD c1 k0)) e0 1 (sS l0) fun d=>by kernel_rfl⟩
def jv:i4:=alv WR yY
def gr:ju:=jv.F
abbrev yA:ae:={ T:=[(1,.fz .bool),(4,.int .u64),(11,.fz (.int .i64)),(12,.int .i64),(13,.int .i64)],h:=[],nx:=0 }
abbrev yx:List (Ev.Ex×ae):=[((.exit 0),{ T:=[(4,.int .u64)],h:=[],nx:=0 })]
abbrev Wb:=TL yA.σs->Option (Out yx)
abbrev Iw:=Ld 0 27 (aT [0] (aG Tryz.f81)) yA yx
def yK(F0:ju)(t1:List Bool)(t4:Int)(t11:List Int)(t12 t13:Int):Option (TL yA.σs⊕Out yx):=
 br (iL t13 t12)
 (
  ah (ar t13 (List.length t11))<|
  ai (F0 ((gt (.int .i64) t11 t13),(t1,()))) fun x0=>
  br x0.1
  (
   ah (iE (0:Int) t13)<|
   some (.inl (t1,((o7 .u64 t4 (IntKind.wrap .u64 ((1:Int)*(HPow.hPow (2:Int) (Min.min (Int.toNat t13) 64))))),(t11,(t12,((IntKind.wrap .i64 (t13+(1:Int))),())))))))
  (
   some (.inl (t1,(t4,(t11,(t12,((IntKind.wrap .i64 (t13+(1:Int))),()))))))))
 (
  some (.inr (t4,())))
def akV(c0:i4) :Iw:=aU (u5 (yK c0.F)) (pL (kD c0 k0) e0 1 l0 fun d=>by kernel_rfl)
def akU:Iw:=akV jv
def yJ:Wb:=aE (u5 (yK gr)) NN
abbrev Wa:List Sh:=[(.sl (.int .i64)),(.sl .bool)]
abbrev Iv:List Sh:=[(.int .u64)]
abbrev rT:=TL Wa->Option (TL Iv)
abbrev oW:=Kd 81 Wa Iv
def IQ(F0:ju)(L2:Wb)(a0:List Int)(a1:List Bool):Option (TL Iv):=
 ah (both (iE (0:Int) (bO (iL (64:Int) (Int.ofNat (List.length a0))) (64:Int) (Int.ofNat (List.length a0)))) (iE (bO (iL (64:Int) (Int.ofNat (List.length a0))) (64:Int) (Int.ofNat (List.length a0))) (Int.ofNat (List.length a0))))<|
 ai (L2 (a1,((0:Int),((List.take (Int.toNat (bO (iL (64:Int) (Int.ofNat (List.length a0))) (64:Int) (Int.ofNat (List.length a0)))) a0),((Int.ofNat (List.length (List.take (Int.toNat (bO (iL (64:Int) (Int.ofNat (List.length a0))) (64:Int) (Int.ofNat (List.length a0)))) a0))),((0:Int),())))))) fun x0=>
 some (x0.1,())
def ak4(c0:i4)(M2:Iw):oW:=⟨u2 (IQ c0.F M2.L),pD Tryz.func81 27 (kD c0 k0) e0 1 (sS (sC M2 l0)) fun d=>by kernel_rfl⟩
def rU:oW:=ak4 jv akU
def nm:rT:=rU.F
abbrev yF:ae:={ T:=[(0,.int .u64),(4,.hd 0 .bool),(7,.int .i64),(8,.int .i64)],h:=[(0,.arr .bool 4)],nx:=1 }
abbrev yB:List (Ev.Ex×ae):=[((.exit 0),{ T:=[(4,.hd 0 .bool)],h:=[(0,.arr .bool 4)],nx:=1 })]
abbrev Wk:=TL yF.σs->Option (Out yB)
abbrev Wl:=Ld 0 21 (aT [0] (aG Tryz.f63)) yF yB
def yP(t0 t7 t8:Int)(b0:List Bool):Option (TL yF.σs⊕Out yB):=
 br (iL t8 t7)
 (
  ah (iE (0:Int) t8)<|
  ah (room 1 (List.length (ap b0 ((iQ (gH .u64 (Int.fdiv t0 (HPow.hPow (2:Int) (Min.min (Int.toNat t8) 64))) (1:Int)) (1:Int))::[]))))<|
  some (.inl (t0,(t7,((IntKind.wrap .i64 (t8+(1:Int))),((ap b0 ((iQ (gH .u64 (Int.fdiv t0 (HPow.hPow (2:Int) (Min.min (Int.toNat t8) 64))) (1:Int)) (1:Int))::[])),()))))))
 (
  some (.inr (b0,())))
def ak5  :Wl:=aU (u4 yP) (pL k0 e0 1 l0 fun d=>by kernel_rfl)
def IV:Wk:=aE (u4 yP) NN
abbrev Wj:List Sh:=[(.int .u64),(.int .i64)]
abbrev IU:List Sh:=[(.sl .bool)]
abbrev kU:=TL Wj->Option (TL IU)
abbrev ke:=Kd 63 Wj IU
def I0(F0:Ig)(L2:Wk)(a0 a1:Int):Option (TL IU):=
 ai (F0 (a1,())) fun x0=>
 ai (L2 (a0,(x0.1,((0:Int),([],()))))) fun x1=>
 some (x1.1,())
def ali(c0:ym)(M2:Wl):ke:=⟨u2 (I0 c0.F M2.L),pD Tryz.func63 21 (kD c0 k0) e0 1 (sS (sC M2 l0)) fun d=>by kernel_rfl⟩
def kV:ke:=ali Ih ak5
def jw:kU:=kV.F
abbrev xW:ae:={ T:=[(0,.fz .bool),(3,.int .u64),(4,.int .u64),(5,.int .i64)],h:=[],nx:=0 }
abbrev xL:List (Ev.Ex×ae):=[((.exit 0),{ T:=[(3,.int .u64)],h:=[],nx:=0 })]
abbrev Vw:=TL xW.σs->Option (Out xL)
abbrev Vx:=Ld 0 26 (aT [0] (aG Tryz.f121)) xW xL
def yg(t0:List Bool)(t3 t4 t5:Int):Option (TL xW.σs⊕Out xL):=
 br (iL t5 (Int.ofNat (List.length t0)))
 (
  br (aR true (iL t5 (64:Int)) false)
  (
   ah (ar t5 (List.length t0))<|
   br (gt .bool t0 t5)
   (
    some (.inl (t0,((IntKind.wrap .u64 (t3+t4)),((IntKind.wrap .u64 (t4*(2:Int))),((IntKind.wrap .i64 (t5+(1:Int))),()))))))
   (
    some (.inl (t0,(t3,((IntKind.wrap .u64 (t4*(2:Int))),((IntKind.wrap .i64 (t5+(1:Int))),())))))))
  (
   some (.inr (t3,()))))
 (
  some (.inr (t3,())))
def akc  :Vx:=aU (u4 yg) (pL k0 e0 1 l0 fun d=>by kernel_rfl)
def Hw:Vw:=aE (u4 yg) NN
abbrev Vv:List Sh:=[(.sl .bool)]
abbrev Hv:List Sh:=[(.int .u64)]
abbrev Iq:=TL Vv->Option (TL Hv)
abbrev yv:=Kd 121 Vv Hv
def H7(L3:Vw)(a0:List Bool):Option (TL Hv):=
 ai (L3 (a0,((0:Int),((1:Int),((0:Int),()))))) fun x0=>
 some (x0.1,())
def akr(M3:Vx):yv:=⟨u1 (H7 M3.L),pD Tryz.func121 26 k0 e0 1 (sS (sC M3 l0)) fun d=>by kernel_rfl⟩
def Ir:yv:=akr  akc
def Io:Iq:=Ir.F
abbrev xM:ae:={ T:=[(0,.int .u64),(1,.int .i64),(5,.hd 0 .bool),(6,.int .i64)],h:=[(0,.arr .bool 4)],nx:=1 }
abbrev xC:List (Ev.Ex×ae):=[((.exit 0),{ T:=[(5,.hd 0 .bool)],h:=[(0,.arr .bool 4)],nx:=1 })]
abbrev U9:=TL xM.σs->Option (Out xC)
abbrev Va:=Ld 0 25 (aT [0] (aG Tryz.f116)) xM xC
def ya(t0 t1 t6:Int)(b0:List Bool):Option (TL xM.σs⊕Out xC):=
 br (iL t6 t1)
 (
  br (aR true (iL t6 (64:Int)) false)
  (
   ah (room 1 (List.length (ap b0 ((iQ (Int.tmod t0 (2:Int)) (1:Int))::[]))))<|
   some (.inl ((IntKind.wrap .u64 (Int.tdiv t0 (2:Int))),(t1,((IntKind.wrap .i64 (t6+(1:Int))),((ap b0 ((iQ (Int.tmod t0 (2:Int)) (1:Int))::[])),()))))))
  (
   some (.inr (b0,()))))
 (
  some (.inr (b0,())))
def ajV  :Va:=aU (u4 ya) (pL k0 e0 1 l0 fun d=>by kernel_rfl)
def Hi:U9:=aE (u4 ya) NN
abbrev U8:List Sh:=[(.int .u64),(.int .i64)]
abbrev Hh:List Sh:=[(.sl .bool)]
abbrev Hx:=TL U8->Option (TL Hh)
abbrev yh:=Kd 116 U8 Hh
def Hz(L3:U9)(a0 a1:Int):Option (TL Hh):=
 ai (L3 (a0,(a1,((0:Int),([],()))))) fun x0=>
 some (x0.1,())
def akd(M3:Va):yh:=⟨u2 (Hz M3.L),pD Tryz.func116 25 k0 e0 1 (sS (sC M3 l0)) fun d=>by kernel_rfl⟩
def Hy:yh:=akd  ajV
def GF:Hx:=Hy.F
abbrev xV:ae:={ T:=[(0,.fz aq),(1,.int .u64),(5,.int .i64)],h:=[],nx:=0 }
abbrev rM:List (Ev.Ex×ae):=[(.ret,{ T:=[(4,.int .u64)],h:=[],nx:=0 }),((.exit 0),{ T:=[],h:=[],nx:=0 })]
abbrev Vr:=TL xV.σs->Option (Out rM)
abbrev Vu:=Ld 0 24 (aT [0] (aG Tryz.f188)) xV rM
def yf(t0:List (Sh.T aq))(t1 t5:Int):Option (TL xV.σs⊕Out rM):=
 br (iL t5 (Int.ofNat (List.length t0)))
 (
  ah (ar t5 (List.length t0))<|
  br (iQ (gt aq t0 t5).1 t1)
  (
   ah (ar t5 (List.length t0))<|
   some (.inr (.inl ((gt aq t0 t5).2.1,()))))
  (
   some (.inl (t0,(t1,((IntKind.wrap .i64 (t5+(1:Int))),()))))))
 (
  some (.inr (.inr ())))
def akb  :Vu:=aU (u3 yf) (pL k0 e0 1 l0 fun d=>by kernel_rfl)
def Vt:Vr:=aE (u3 yf) NN
abbrev Vq:List Sh:=[(.sl aq),(.int .u64)]
abbrev Hu:List Sh:=[(.int .u64)]
abbrev H4:=TL Vq->Option (TL Hu)
abbrev yn:=Kd 188 Vq Hu
def H6(L2:Vr)(a0:List (Sh.T aq))(a1:Int):Option (TL Hu):=
 ai (L2 (a0,(a1,((0:Int),())))) fun x0=>
 (match x0 with|.inl x1=>some (x1.1,())|.inr x1=>some ((0:Int),())
 )
def akq(M2:Vu):yn:=⟨u2 (H6 M2.L),pD Tryz.func188 24 k0 e0 1 (sS (sC M2 l0)) fun d=>by kernel_rfl⟩
def H5:yn:=akq  akb
def GK:H4:=H5.F
abbrev aiK:ae:={ T:=[(0,.fzb (.int .i64))],h:=[],nx:=0 }
abbrev TU:List (Ev.Ex×ae):=[(.ret,{ T:=[(0,.hd 0 (.int .i64))],h:=[(0,.arr (.int .i64) 3)],nx:=1 })]
abbrev UJ:=Kb 131 1 aiK 1 TU
def ajC(t0z:Bool)(t0:List Int):Option (Out TU):=
 br t0z
 (
  some ([],()))
 (
  ah (room 8 (List.length (ap [] t0)))<|
  some ((ap [] t0),()))
def ajB  :UJ:=⟨u2 ajC,pB Tryz.func131 8 k0 e0 1 (sS l0) fun d=>by kernel_rfl⟩
def aiY:UJ:=ajB
abbrev UL:List Sh:=[.sl (.int .i64)]
abbrev UK:List Sh:=[.sl (.int .i64)]
abbrev xI:=TL UL->Option (TL UK)
abbrev xK:=Kd 131 UL UK
def xJ:xK:=⟨_,IP aiY.ok rfl (fun L=>rfl) (fun L=>⟨_,_,rfl,rfl,rfl⟩)⟩
def oN:xI:=xJ.F
abbrev ail:ae:={ T:=[(0,.fzb aa)],h:=[],nx:=0 }
abbrev Tl:List (Ev.Ex×ae):=[(.ret,{ T:=[(0,.hd 0 aa)],h:=[(0,.arr aa 95)],nx:=1 })]
abbrev TR:=Kb 132 1 ail 1 Tl
def aiW(t0z:Bool)(t0:List (Sh.T aa)):Option (Out Tl):=
 br t0z
 (
  some ([],()))
 (
  ah (room 24 (List.length (ap [] t0)))<|
  some ((ap [] t0),()))
def aiV  :TR:=⟨u2 aiW,pB Tryz.func132 8 k0 e0 1 (sS l0) fun d=>by kernel_rfl⟩
def aio:TR:=aiV
abbrev TT:List Sh:=[.sl aa]
abbrev TS:List Sh:=[.sl aa]
abbrev T8:=TL TT->Option (TL TS)
abbrev Ua:=Kd 132 TT TS
def T9:Ua:=⟨_,IP aio.ok rfl (fun L=>rfl) (fun L=>⟨_,_,rfl,rfl,rfl⟩)⟩
def aiX:T8:=T9.F
abbrev aiq:ae:={ T:=[(0,.fzb aa)],h:=[],nx:=0 }
abbrev Tm:List (Ev.Ex×ae):=[(.ret,{ T:=[(0,.hd 0 aa)],h:=[(0,.arr aa 150)],nx:=1 })]
abbrev Un:=Kb 133 1 aiq 1 Tm
def ajp(t0z:Bool)(t0:List (Sh.T aa)):Option (Out Tm):=
 br t0z
 (
  some ([],()))
 (
  ah (room 24 (List.length (ap [] t0)))<|
  some ((ap [] t0),()))
def ajo  :Un:=⟨u2 ajp,pB Tryz.func133 8 k0 e0 1 (sS l0) fun d=>by kernel_rfl⟩
def ait:Un:=ajo
abbrev Up:List Sh:=[.sl aa]
abbrev Uo:List Sh:=[.sl aa]
abbrev Ut:=TL Up->Option (TL Uo)
abbrev Uv:=Kd 133 Up Uo
def Uu:Uv:=⟨_,IP ait.ok rfl (fun L=>rfl) (fun L=>⟨_,_,rfl,rfl,rfl⟩)⟩
def ajq:Ut:=Uu.F
abbrev aii:ae:={ T:=[(0,.fzb ab)],h:=[],nx:=0 }
abbrev FB:List (Ev.Ex×ae):=[(.ret,{ T:=[(0,.hd 0 ab)],h:=[(0,.arr ab 116)],nx:=1 })]
abbrev TI:=Kb 134 1 aii 1 FB
def aiP(t0z:Bool)(t0:List (Sh.T ab)):Option (Out FB):=
 br t0z
 (
  some ([],()))
 (
  ah (room 72 (List.length (ap [] t0)))<|
  some ((ap [] t0),()))
def aiO  :TI:=⟨u2 aiP,pB Tryz.func134 8 k0 e0 1 (sS l0) fun d=>by kernel_rfl⟩
def aik:TI:=aiO
abbrev TD:ae:={ T:=[(0,.fz ab)],h:=[],nx:=0 }
abbrev Ty:List (Ev.Ex×ae):=FB
abbrev TK:=TL TD.σs->Option (Out Ty)
abbrev TN:=Kb 134 1 TD 1 Ty
def TM:TN:=BB aik rfl
def aiQ:TK:=TM.F
abbrev ain:ae:={ T:=[(0,.fzb bJ)],h:=[],nx:=0 }
abbrev FE:List (Ev.Ex×ae):=[(.ret,{ T:=[(0,.hd 0 bJ)],h:=[(0,.arr bJ 152)],nx:=1 })]
abbrev Ue:=Kb 135 1 ain 1 FE
def ajd(t0z:Bool)(t0:List (Sh.T bJ)):Option (Out FE):=
 br t0z
 (
  some ([],()))
 (
  ah (room 32 (List.length (ap [] t0)))<|
  some ((ap [] t0),()))
def ajc  :Ue:=⟨u2 ajd,pB Tryz.func135 8 k0 e0 1 (sS l0) fun d=>by kernel_rfl⟩
def aip:Ue:=ajc
abbrev T7:ae:={ T:=[(0,.fz bJ)],h:=[],nx:=0 }
abbrev TQ:List (Ev.Ex×ae):=FE
abbrev Gj:=TL T7.σs->Option (Out TQ)
abbrev Gm:=Kb 135 1 T7 1 TQ
def Gl:Gm:=BB aip rfl
def Gi:Gj:=Gl.F
abbrev aij:ae:={ T:=[(0,.fzb bj)],h:=[],nx:=0 }
abbrev FC:List (Ev.Ex×ae):=[(.ret,{ T:=[(0,.hd 0 bj)],h:=[(0,.arr bj 175)],nx:=1 })]
abbrev TP:=Kb 136 1 aij 1 FC
def aiU(t0z:Bool)(t0:List (Sh.T bj)):Option (Out FC):=
 br t0z
 (
  some ([],()))
 (
  ah (room 56 (List.length (ap [] t0)))<|
  some ((ap [] t0),()))
def aiT  :TP:=⟨u2 aiU,pB Tryz.func136 8 k0 e0 1 (sS l0) fun d=>by kernel_rfl⟩
def aim:TP:=aiT
abbrev TJ:ae:={ T:=[(0,.fz bj)],h:=[],nx:=0 }
abbrev TH:List (Ev.Ex×ae):=FC
abbrev F8:=TL TJ.σs->Option (Out TH)
abbrev Ga:=Kb 136 1 TJ 1 TH
def F9:Ga:=BB aim rfl
def FV:F8:=F9.F
abbrev yI:ae:={ T:=[(1,.ptr 0 0),(2,.ptr 2 0),(41,.int .i64),(42,.int .i64)],h:=XL,nx:=3 }
abbrev yC:List (Ev.Ex×ae):=[((.exit 2),{ T:=[(1,.ptr 0 0),(2,.ptr 2 0)],h:=XL,nx:=3 })]
abbrev Wv:=TL yI.σs->Option (Out yC)
abbrev IZ:=Ld 0 123 (aT [1] (aG Tryz.f68)) yI yC
abbrev yD:ae:={ T:=[(1,.ptr 0 0),(2,.ptr 4 0),(6,.eptr 1 5 0),(41,.int .i64),(42,.int .i64),(94,.int .i64),(95,.int .i64)],h:=zs,nx:=5 }
abbrev yy:List (Ev.Ex×ae):=[((.exit 6),{ T:=[(1,.ptr 0 0),(2,.ptr 4 0),(41,.int .i64),(42,.int .i64)],h:=zs,nx:=5 })]
abbrev IJ:=TL yD.σs->Option (Out yy)
abbrev yL:=Ld 0 123 (aT [1,1] (aG Tryz.f68)) yD yy
abbrev yE:ae:={ T:=[(1,.ptr 0 0),(2,.ptr 4 0),(6,.eptr 1 5 0),(41,.int .i64),(42,.int .i64),(69,.int .i64),(70,.int .i64)],h:=zs,nx:=5 }
abbrev yz:List (Ev.Ex×ae):=[((.exit 4),{ T:=[(1,.ptr 0 0),(2,.ptr 4 0),(6,.eptr 1 5 0),(41,.int .i64),(42,.int .i64)],h:=zs,nx:=5 })]
abbrev IK:=TL yE.σs->Option (Out yz)
abbrev yM:=Ld 0 123 (aT [1,0] (aG Tryz.f68)) yE yz
def yO(F2:xI)(t6 t41 t42 t69 t70 b0_0:Int)(b0_1:List Int)(b0_2:List (Sh.T aa))(b0_3 b0_4 b0_5:List Int)(b0_7:List (Sh.T aa))(b1i:Int)(b1:List (Sh.T ab))(b1_0 b1_1:Int)(b1_2:Bool)(b2:List (Sh.T bJ))(b3:List (Sh.T bj))(b4_0:Int):Option (TL yE.σs⊕Out yz):=
 br (iL t70 t69)
 (
  ah (Nat.beq (Int.toNat t6) (Int.toNat b1i))<|
  ah (Nat.beq (Int.toNat t6) (Int.toNat b1i))<|
  ah (ar t70 (List.length b2))<|
  ai (F2 ((gt bJ b2 t70).2.1,())) fun x0=>
  ah (ar t70 (List.length b2))<|
  some (.inl ((Int.ofNat (Int.toNat t6)),(t41,(t42,(t69,((IntKind.wrap .i64 (t70+(1:Int))),(b0_0,(b0_1,(b0_2,(b0_3,(b0_4,(b0_5,(b0_7,((Int.ofNat (Int.toNat b1i)),(b1,(b1_0,(b1_1,(b1_2,((List.set b2 (Int.toNat t70) ((gt bJ b2 t70).1,(x0.1,()))),(b3,(b4_0,()))))))))))))))))))))))
 (
  some (.inr ((Int.ofNat (Int.toNat t6)),(t41,(t42,(b0_0,(b0_1,(b0_2,(b0_3,(b0_4,(b0_5,(b0_7,((Int.ofNat (Int.toNat b1i)),(b1,(b1_0,(b1_1,(b1_2,(b2,(b3,(b4_0,()))))))))))))))))))))
def ak2(c2:xK) :yM:=aU (kH (yO c2.F)) (pL (kD c2 k0) e0 1 l0 fun d=>by kernel_rfl)
def Wi:yM:=ak2 xJ
def IM:IK:=aE (kH (yO oN)) NN
def yN(F2:xI)(t6 t41 t42 t94 t95 b0_0:Int)(b0_1:List Int)(b0_2:List (Sh.T aa))(b0_3 b0_4 b0_5:List Int)(b0_7:List (Sh.T aa))(b1i:Int)(b1:List (Sh.T ab))(b1_0 b1_1:Int)(b1_2:Bool)(b2:List (Sh.T bJ))(b3:List (Sh.T bj))(b4_0:Int):Option (TL yD.σs⊕Out yy):=
 br (iL t95 t94)
 (
  ah (Nat.beq (Int.toNat t6) (Int.toNat b1i))<|
  ah (ar t95 (List.length b3))<|
  ai (F2 ((gt bj b3 t95).2.1,())) fun x0=>
  ai (F2 ((gt bj b3 t95).2.2.1,())) fun x1=>
  ah (nQ (Int.toNat t95) (Int.toNat t95))<|
  some (.inl ((Int.ofNat (Int.toNat t6)),(t41,(t42,(t94,((IntKind.wrap .i64 (t95+(1:Int))),(b0_0,(b0_1,(b0_2,(b0_3,(b0_4,(b0_5,(b0_7,((Int.ofNat (Int.toNat b1i)),(b1,(b1_0,(b1_1,(b1_2,(b2,((List.set (List.set b3 (Int.toNat t95) ((gt bj b3 t95).1,(x0.1,((gt bj b3 t95).2.2.1,())))) (Int.toNat t95) ((gt bj (List.set b3 (Int.toNat t95) ((gt bj b3 t95).1,(x0.1,((gt bj b3 t95).2.2.1,())))) t95).1,((gt bj (List.set b3 (Int.toNat t95) ((gt bj b3 t95).1,(x0.1,((gt bj b3 t95).2.2.1,())))) t95).2.1,(x1.1,())))),(b4_0,()))))))))))))))))))))))
 (
  some (.inr (t41,(t42,(b0_0,(b0_1,(b0_2,(b0_3,(b0_4,(b0_5,(b0_7,((Int.ofNat (Int.toNat b1i)),(b1,(b1_0,(b1_1,(b1_2,(b2,(b3,(b4_0,())))))))))))))))))))
def ak1(c2:xK) :yL:=aU (kH (yN c2.F)) (pL (kD c2 k0) e0 1 l0 fun d=>by kernel_rfl)
def Wh:yL:=ak1 xJ
def IL:IJ:=aE (kH (yN oN)) NN
def yU(F3:F8)(F4:Gj)(L13:IK)(L18:IJ)(t41 t42 b0_0:Int)(b0_1:List Int)(b0_2:List (Sh.T aa))(b0_3 b0_4 b0_5:List Int)(b0_7:List (Sh.T aa))(b1:List (Sh.T ab))(b2_0:Int):Option (TL yI.σs⊕Out yC):=
 br (iL t42 t41)
 (
  ah (ar t42 (List.length b1))<|
  ai (F4 ((gt ab b1 t42).2.2.2.1,())) fun x0=>
  ah (nQ (Int.toNat t42) (Int.toNat t42))<|
  ah (nQ (Int.toNat t42) (Int.toNat t42))<|
  ah (nQ (Int.toNat t42) (Int.toNat t42))<|
  ah (nQ (Int.toNat t42) (Int.toNat t42))<|
  ah (nQ (Int.toNat t42) (Int.toNat t42))<|
  ah (jM (Sh.beq bj) (gt ab b1 t42).2.2.2.2.1 (gt ab b1 t42).2.2.2.2.1)<|
  ai (F3 ((gt ab b1 t42).2.2.2.2.1,())) fun x1=>
  ah (nQ (Int.toNat t42) (Int.toNat t42))<|
  ah (nQ (Int.toNat t42) (Int.toNat t42))<|
  ah (nQ (Int.toNat t42) (Int.toNat t42))<|
  ah (Nat.beq (Int.toNat t42) (Int.toNat t42))<|
  ah (Nat.beq (Int.toNat t42) (Int.toNat t42))<|
  ai (L13 ((Int.ofNat (Int.toNat t42)),(t41,(t42,((Int.ofNat (List.length x0.1)),((0:Int),(b0_0,(b0_1,(b0_2,(b0_3,(b0_4,(b0_5,(b0_7,((Int.ofNat (Int.toNat t42)),(b1,((gt ab b1 t42).1,((gt ab b1 t42).2.1,((gt ab b1 t42).2.2.1,(x0.1,(x1.1,(b2_0,()))))))))))))))))))))) fun x2=>
  ah (Nat.beq (Int.toNat x2.1) (Int.toNat x2.2.2.2.2.2.2.2.2.2.2.1))<|
  ai (L18 ((Int.ofNat (Int.toNat x2.1)),(x2.2.1,(x2.2.2.1,((Int.ofNat (List.length x2.2.2.2.2.2.2.2.2.2.2.2.2.2.2.2.2.1)),((0:Int),(x2.2.2.2.1,(x2.2.2.2.2.1,(x2.2.2.2.2.2.1,(x2.2.2.2.2.2.2.1,(x2.2.2.2.2.2.2.2.1,(x2.2.2.2.2.2.2.2.2.1,(x2.2.2.2.2.2.2.2.2.2.1,((Int.ofNat (Int.toNat x2.2.2.2.2.2.2.2.2.2.2.1)),(x2.2.2.2.2.2.2.2.2.2.2.2.1,(x2.2.2.2.2.2.2.2.2.2.2.2.2.1,(x2.2.2.2.2.2.2.2.2.2.2.2.2.2.1,(x2.2.2.2.2.2.2.2.2.2.2.2.2.2.2.1,(x2.2.2.2.2.2.2.2.2.2.2.2.2.2.2.2.1,(x2.2.2.2.2.2.2.2.2.2.2.2.2.2.2.2.2.1,(x2.2.2.2.2.2.2.2.2.2.2.2.2.2.2.2.2.2.1,()))))))))))))))))))))) fun x3=>
  some (.inl (x3.1,((IntKind.wrap .i64 (@HAdd.hAdd (Int) (Int) (Int) _ x3.2.1 (1:Int))),(x3.2.2.1,(x3.2.2.2.1,(x3.2.2.2.2.1,(x3.2.2.2.2.2.1,(x3.2.2.2.2.2.2.1,(x3.2.2.2.2.2.2.2.1,(x3.2.2.2.2.2.2.2.2.1,((List.set x3.2.2.2.2.2.2.2.2.2.2.1 (Int.toNat x3.2.2.2.2.2.2.2.2.2.1) (x3.2.2.2.2.2.2.2.2.2.2.2.1,(x3.2.2.2.2.2.2.2.2.2.2.2.2.1,(x3.2.2.2.2.2.2.2.2.2.2.2.2.2.1,(x3.2.2.2.2.2.2.2.2.2.2.2.2.2.2.1,(x3.2.2.2.2.2.2.2.2.2.2.2.2.2.2.2.1,())))))),(x3.2.2.2.2.2.2.2.2.2.2.2.2.2.2.2.2.1,())))))))))))))
 (
  some (.inr (b0_0,(b0_1,(b0_2,(b0_3,(b0_4,(b0_5,(b0_7,(b1,(b2_0,())))))))))))
def alf(c3:Ga)(c4:Gm)(M13:yM)(M18:yL):IZ:=aU (eH (yU c3.F c4.F M13.L M18.L)) (pL (kB c3 (kB c4 k0)) e0 1 (sC M13 (sC M18 l0)) fun d=>by kernel_rfl)
def ale:IZ:=alf F9 Gl Wi Wh
def Ww:Wv:=aE (eH (yU FV Gi IM IL)) NN
abbrev Wu:List Sh:=[ba]
abbrev IY:List Sh:=[ba]
abbrev WH:=TL Wu->Option (TL IY)
abbrev I4:=Kd 68 Wu IY
def alr(F0:Ut)(F1:T8)(F2:xI)(F3:F8)(F4:Gj)(F5:TK)(L8:Wv)(L13:IK)(L18:IJ)(a0:Sh.T ba):Option (TL IY):=
 ai (F2 (a0.2.1,())) fun x0=>
 ai (F2 (a0.2.2.2.1,())) fun x1=>
 ai (F2 (a0.2.2.2.2.1,())) fun x2=>
 ai (F2 (a0.2.2.2.2.2.1,())) fun x3=>
 ai (F1 (a0.2.2.1,())) fun x4=>
 ai (F0 (a0.2.2.2.2.2.2.2.1,())) fun x5=>
 ai (F5 (a0.2.2.2.2.2.2.1,())) fun x6=>
 ai (L8 ((Int.ofNat (List.length x6.1)),((0:Int),(a0.1,(x0.1,(x4.1,(x1.1,(x2.1,(x3.1,(x5.1,(x6.1,((0:Int),())))))))))))) fun x7=>
 some ((x7.1,(x7.2.1,(x7.2.2.1,(x7.2.2.2.1,(x7.2.2.2.2.1,(x7.2.2.2.2.2.1,(x7.2.2.2.2.2.2.2.1,(x7.2.2.2.2.2.2.1,())))))))),())
def alq(c0:Uv)(c1:Ua)(c2:xK)(c3:Ga)(c4:Gm)(c5:TN)(M8:IZ)(M13:yM)(M18:yL):I4:=⟨u1 (alr c0.F c1.F c2.F c3.F c4.F c5.F M8.L M13.L M18.L),pD Tryz.func68 123 (kD c0 (kD c1 (kD c2 (kB c3 (kB c4 (kB c5 k0)))))) e0 1 (lS (lU (aT [0] (aG Tryz.f68)) 5 (kD c0 (kD c1 (kD c2 (kB c3 (kB c4 (kB c5 k0)))))) e0 1 l0 (by kernel_rfl) (sC M8 l0) (by kernel_rfl)) (by kernel_rfl)) fun d=>by kernel_rfl⟩
def WI:I4:=alq Uu T9 xJ F9 Gl TM ale Wi Wh
def alg:WH:=WI.F
abbrev aiy:ae:={ T:=[(0,.fzb .bool)],h:=[],nx:=0 }
abbrev FU:List (Ev.Ex×ae):=[(.ret,{ T:=[(0,.hd 0 .bool)],h:=[(0,.arr .bool 4)],nx:=1 })]
abbrev UI:=Kb 73 1 aiy 1 FU
def ajy(t0z:Bool)(t0:List Bool):Option (Out FU):=
 br t0z
 (
  some ([],()))
 (
  ah (room 1 (List.length (ap [] t0)))<|
  some ((ap [] t0),()))
def ajx  :UI:=⟨u2 ajy,pB Tryz.func73 8 k0 e0 1 (sS l0) fun d=>by kernel_rfl⟩
def aiL:UI:=ajx
abbrev UB:ae:={ T:=[(0,.fz .bool)],h:=[],nx:=0 }
abbrev Uy:List (Ev.Ex×ae):=FU
abbrev oP:=TL UB.σs->Option (Out Uy)
abbrev oQ:=Kb 73 1 UB 1 Uy
def nh:oQ:=BB aiL rfl
def GD:oP:=nh.F
abbrev Ux:ae:={ T:=[(0,.hd 0 .bool)],h:=[(0,.arr .bool 4)],nx:=1 }
abbrev Uw:List (Ev.Ex×ae):=[(.ret,{ T:=[(0,.hd 1 .bool)],h:=[(0,.arr .bool 4),(1,.arr .bool 4)],nx:=2 })]
abbrev oS:=TL Ux.σs->Option (Out Uw)
abbrev oU:=Kb 73 1 Ux 1 Uw
def oT:oU:=⟨_,als (by kernel_rfl) nh.ok⟩
def akP:oS:=oT.F
abbrev YA:ae:={ T:=[(0,.ptr 0 0),(1,.int .u64)],h:=zt,nx:=2 }
abbrev tf:List (Ev.Ex×ae):=[(.ret,{ T:=[(0,.int .u64)],h:=zt,nx:=2 })]
abbrev rX:=TL YA.σs->Option (Out tf)
abbrev oX:=Kb 75 2 YA 1 tf
def Ll(t1 b0_0 b0_1:Int)(b1:List (Sh.T aq)):Option (Out tf):=some ((@jB (.int .u64) b1 t1),(b0_0,(b0_1,(b1,()))))
def akO  :oX:=⟨u4 Ll,pB Tryz.func75 13 k0 e0 1 (sS l0) fun d=>by kernel_rfl⟩
def rY:oX:=akO
def pS:rX:=rY.F
abbrev r9:ae:={ T:=[(0,.ptr 0 0)],h:=zt,nx:=2 }
abbrev rZ:List (Ev.Ex×ae):=[(.ret,{ T:=[(0,.fz aq)],h:=zt,nx:=2 })]
abbrev Jk:=TL r9.σs->Option (Out rZ)
abbrev Jl:=Kb 83 1 r9 1 rZ
end Go.Proofs.YtkcpdpplobhpaaaGreat.V
end
