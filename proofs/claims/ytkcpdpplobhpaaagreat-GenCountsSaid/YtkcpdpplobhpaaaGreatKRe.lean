import Derived.Test.YtkcpdpplobhpaaaGreatKRb
import Derived.Test.YtkcpdpplobhpaaaGreatKRd
set_option linter.unusedVariables false
set_option linter.unusedSimpArgs false
set_option linter.unnecessarySimpa false
section
namespace Go.Proofs.YtkcpdpplobhpaaaGreat.V
open Go Go.RowKit
set_option maxRecDepth 1000000
abbrev NS:ae:={ T:=[(0,.ptr 0 0),(1,.agg [.fz .bool,.fz (.sl aq)])],h:=[(0,.cells [.int .i64,.fz (.int .i64),.fz aa,.fz (.int .i64),.fz (.int .i64),.fz (.int .i64),.fz ab,.fz aa,.fz ag,.hd 1 .bool,.rhd 2] 145),(1,.arr .bool 4),(2,.rams 220)],nx:=3 }
abbrev uC:List (Ev.Ex×ae):=[(.ret,{ T:=[(0,.int .i64)],h:=[(0,.cells [.int .i64,.fz (.int .i64),.fz aa,.fz (.int .i64),.fz (.int .i64),.fz (.int .i64),.fz ab,.fz aa,.fz ag,.hd 3 .bool,.rhd 4] 145),(3,.arr .bool 4),(4,.rams 220)],nx:=5 })]
abbrev CM:=TL NS.σs->Option (Out uC)
abbrev uL:=Kb 217 2 NS 1 uC
def aa8(F0:oS)(F1:oP)(F2:yQ)(t1_0:List Bool)(t1_1:List (List (Sh.T aq)))(b0_0:Int)(b0_1:List Int)(b0_2:List (Sh.T aa))(b0_3 b0_4 b0_5:List Int)(b0_6:List (Sh.T ab))(b0_7:List (Sh.T aa))(b0_8:List (Sh.T ag))(b1:List Bool)(b2:List (Sh.T (.agg [(.int .i64),(.int .i64),(.sl aq)]))):Option (Out uC):=
 ai (F2 (b0_0,(b0_1,(b0_2,(b0_3,(b0_4,(b0_5,(b0_6,(b0_7,(t1_0,(t1_1,()))))))))))) fun x0=>
 br (Bool.not (iQ x0.1 (0:Int)))
 (
  some (x0.1,(b0_0,(b0_1,(b0_2,(b0_3,(b0_4,(b0_5,(b0_6,(b0_7,(b0_8,(b1,(b2,())))))))))))))
 (
  ai (F1 (t1_0,())) fun x1=>
  some ((0:Int),(b0_0,(b0_1,(b0_2,(b0_3,(b0_4,(b0_5,(b0_6,(b0_7,(b0_8,(x1.1,(x0.2.1,())))))))))))))
def aa9(c0:oU)(c1:oQ)(c2:rS) :uL:=⟨fC (aa8 c0.F c1.F c2.F),pB Tryz.func217 31 (kB c0 (kB c1 (kB c2 k0))) e0 1 (sS l0) fun d=>by kernel_rfl⟩
def CL:uL:=aa9 oT nh yR
def N4:CM:=CL.F
abbrev xt:ae:={ T:=[(0,.fz .bool),(1,.bool),(7,.int .i64),(8,.int .i64)],h:=[],nx:=0 }
abbrev xr:List (Ev.Ex×ae):=[(.ret,{ T:=[(4,.int .i64)],h:=[],nx:=0 }),((.exit 0),{ T:=[],h:=[],nx:=0 })]
abbrev UF:=TL xt.σs->Option (Out xr)
abbrev UH:=Ld 0 19 (aT [0] (aG Tryz.f218)) xt xr
def rJ(t0:List Bool)(t1:Bool)(t7 t8:Int):Option (TL xt.σs⊕Out xr):=
 br (iL t8 t7)
 (
  ah (ar t8 (List.length t0))<|
  br (@decide _ (Bool.decEq t1 (gt .bool t0 t8)))
  (
   some (.inr (.inl (t8,()))))
  (
   some (.inl (t0,(t1,(t7,((IntKind.wrap .i64 (t8+(1:Int))),())))))))
 (
  some (.inr (.inr ())))
def ajw  :UH:=aU (u4 rJ) (pL k0 e0 1 l0 fun d=>by kernel_rfl)
def GC:UF:=aE (u4 rJ) NN
abbrev UE:List Sh:=[(.sl .bool),.bool]
abbrev GB:List Sh:=[(.int .i64)]
abbrev GH:=TL UE->Option (TL GB)
abbrev xw:=Kd 218 UE GB
def ajA(L2:UF)(a0:List Bool)(a1:Bool):Option (TL GB):=
 ai (L2 (a0,(a1,((Int.ofNat (List.length a0)),((0:Int),()))))) fun x0=>
 (match x0 with|.inl x1=>some (x1.1,())|.inr x1=>some ((Int.negSucc 0),())
 )
def ajz(M2:UH):xw:=⟨u2 (ajA M2.L),pD Tryz.func218 19 k0 e0 1 (sS (sC M2 l0)) fun d=>by kernel_rfl⟩
def GJ:xw:=ajz  ajw
def UG:GH:=GJ.F
abbrev OL:List Sh:=[ba]
abbrev De:List Sh:=[(.int .i64)]
abbrev OS:=TL OL->Option (TL De)
abbrev Dm:=Kd 51 OL De
def abR(F0:n7)(F1:nq)(a0:Sh.T ba):Option (TL De):=
 ai (F1 (a0,())) fun x0=>
 br (Bool.not (iQ x0.1 (0:Int)))
 (
  some (x0.1,()))
 (
  br (iL (6:Int) (Int.ofNat (List.length a0.2.1)))
  (
   some ((17:Int),()))
  (
   ai (F0 (a0,())) fun x1=>
   br (aR false true (iL (10:Int) (IntKind.wrap .i64 (@HAdd.hAdd (Int) (Int) (Int) _ (Int.ofNat (List.length a0.2.2.1)) x1.1))))
   (
    some ((17:Int),()))
   (
    some ((0:Int),()))))
def abS(c0:mR)(c1:ma) :Dm:=⟨u1 (abR c0.F c1.F),pD Tryz.func51 22 (kD c0 (kD c1 k0)) e0 1 (sS l0) fun d=>by kernel_rfl⟩
def OR:Dm:=abS n5 ns
def abI:OS:=OR.F
abbrev uU:ae:={ T:=[(1,.ptr 0 0),(2,.hd 1 bZ),(5,.ptr 2 0),(26,.int .i64),(27,.int .i64)],h:=[(0,.cells ep 27),(1,.arr bZ 40),(2,.cells [.int .i64,.fz (.int .i64),.fz aa,.fz (.int .i64),.fz (.int .i64),.fz (.int .i64),.fz ab,.fz aa,.int .i64,.nilm,.nils,.nilp] 100)],nx:=3 }
abbrev uQ:List (Ev.Ex×ae):=[((.exit 0),{ T:=[(2,.hd 0 bZ)],h:=[(0,.arr bZ 40)],nx:=1 })]
abbrev Oy:=TL uU.σs->Option (Out uQ)
abbrev C0:=Ld 0 43 (aT [0] (aG Tryz.f15)) uU uQ
def Ox(F0:qy)(F1:kU)(F2:IH)(t26 t27 b0_0:Int)(b0_1:List Int)(b0_2:List (Sh.T aa))(b0_3 b0_4 b0_5:List Int)(b0_6:List (Sh.T ab))(b0_7:List (Sh.T aa))(b1:List (Sh.T bZ))(b2_0:Int)(b2_1:List Int)(b2_2:List (Sh.T aa))(b2_3 b2_4 b2_5:List Int)(b2_6:List (Sh.T ab))(b2_7:List (Sh.T aa))(b2_8:Int):Option (TL uU.σs⊕Out uQ):=
 br (iL t27 t26)
 (
  ai (F1 ((IntKind.wrap .u64 t27),(b2_8,()))) fun x0=>
  ai (F0 ((b2_0,(b2_1,(b2_2,(b2_3,(b2_4,(b2_5,(b2_6,(b2_7,())))))))),((x0.1,([],())),()))) fun x1=>
  ah (iQ x1.2.1 x1.2.1)<|
  ai (F2 ((b0_0,(b0_1,(b0_2,(b0_3,(b0_4,(b0_5,(b0_6,(b0_7,())))))))),((x1.1.1,(x1.1.2.1,())),()))) fun x2=>
  br (iQ x2.1 (0:Int))
  (
   ah (room 48 (List.length (ap b1 ((x1.1.1,(x1.1.2.1,()))::[]))))<|
   some (.inl (t26,((IntKind.wrap .i64 (t27+(1:Int))),(b0_0,(b0_1,(b0_2,(b0_3,(b0_4,(b0_5,(b0_6,(b0_7,((ap b1 ((x1.1.1,(x1.1.2.1,()))::[])),(b2_0,(b2_1,(b2_2,(b2_3,(b2_4,(b2_5,(b2_6,(b2_7,(b2_8,()))))))))))))))))))))))
  (
   some (.inl (t26,((IntKind.wrap .i64 (t27+(1:Int))),(b0_0,(b0_1,(b0_2,(b0_3,(b0_4,(b0_5,(b0_6,(b0_7,(b1,(b2_0,(b2_1,(b2_2,(b2_3,(b2_4,(b2_5,(b2_6,(b2_7,(b2_8,())))))))))))))))))))))))
 (
  some (.inr (b1,())))
def abq(c0:n9)(c1:ke)(c2:yG) :C0:=aU (kH (Ox c0.F c1.F c2.F)) (pL (kD c0 (kD c1 (kD c2 k0))) (eC Tryz.func53 (by kernel_rfl) e0) 5 l0 fun d=>by kernel_rfl)
def abr:C0:=abq qx kV II
def C1:Oy:=aE (kH (Ox vd jw Lg)) NN
abbrev Oz:List Sh:=[ba]
abbrev C2:List Sh:=[(.sl bZ),(.int .i64)]
abbrev OI:=TL Oz->Option (TL C2)
abbrev Db:=Kd 15 Oz C2
def abD(F0:qy)(F1:kU)(F2:IH)(F3:n7)(F4:OS)(L6:Oy)(a0:Sh.T ba):Option (TL C2):=
 ai (F4 (a0,())) fun x0=>
 br (Bool.not (iQ x0.1 (0:Int)))
 (
  some ([],(x0.1,())))
 (
  ai (F3 (a0,())) fun x1=>
  ah (iE (0:Int) (IntKind.wrap .i64 (@HAdd.hAdd (Int) (Int) (Int) _ (Int.ofNat (List.length a0.2.2.1)) x1.1)))<|
  ai (L6 ((IntKind.wrap .i64 ((1:Int)*(HPow.hPow (2:Int) (Min.min (Int.toNat (IntKind.wrap .i64 (@HAdd.hAdd (Int) (Int) (Int) _ (Int.ofNat (List.length a0.2.2.1)) x1.1))) 64)))),((0:Int),(a0.1,(a0.2.1,(a0.2.2.1,(a0.2.2.2.1,(a0.2.2.2.2.1,(a0.2.2.2.2.2.1,(a0.2.2.2.2.2.2.1,(a0.2.2.2.2.2.2.2.1,([],(a0.1,(a0.2.1,(a0.2.2.1,(a0.2.2.2.1,(a0.2.2.2.2.1,(a0.2.2.2.2.2.1,(a0.2.2.2.2.2.2.1,(a0.2.2.2.2.2.2.2.1,((IntKind.wrap .i64 (@HAdd.hAdd (Int) (Int) (Int) _ (Int.ofNat (List.length a0.2.2.1)) x1.1)),()))))))))))))))))))))) fun x2=>
  some (x2.1,((0:Int),())))
def abE(c0:n9)(c1:ke)(c2:yG)(c3:mR)(c4:Dm)(M6:C0):Db:=⟨u1 (abD c0.F c1.F c2.F c3.F c4.F M6.L),pD Tryz.func15 43 (kD c0 (kD c1 (kD c2 (kD c3 (kD c4 k0))))) (eC Tryz.func53 (by kernel_rfl) e0) 5 (sS (sC M6 l0)) fun d=>by kernel_rfl⟩
def OH:Db:=abE qx kV II n5 OR abr
def abp:OI:=OH.F
abbrev OA:ae:={ T:=[(0,.agg ep)],h:=[],nx:=0 }
abbrev sM:List (Nat×LO):=[(0,.cells [.int .i64,.fz (.int .i64),.fz aa,.fz (.int .i64),.fz (.int .i64),.fz (.int .i64),.fz ab,.fz aa,.int .i64,.mp 1,.hd 2 (.int .i64),.ptr 3 0] 100),(1,.map .i64 dD),(2,.arr (.int .i64) 3),(3,.cells [.int .i64,.fz (.int .i64),.fz aa,.fz (.int .i64),.fz (.int .i64),.fz (.int .i64),.fz ab,.fz aa,.fz ag,.hd 4 .bool,.rhd 5] 145),(4,.arr .bool 4),(5,.rams 220)]
abbrev JL:List (Nat×LO):=[(0,.cells [.int .i64,.fz (.int .i64),.fz aa,.fz (.int .i64),.fz (.int .i64),.fz (.int .i64),.fz ab,.fz aa,.int .i64,.mp 1,.hd 2 (.int .i64),.ptr 3 0] 100),(1,.map .i64 dD),(2,.arr (.int .i64) 3),(3,.cells [.int .i64,.fz (.int .i64),.fz aa,.fz (.int .i64),.fz (.int .i64),.fz (.int .i64),.fz ab,.fz aa,.fz ag,.hd 6 .bool,.rhd 7] 145),(6,.arr .bool 4),(7,.rams 220),(8,.cells [.int .i64,.int .i64] 108),(9,.arr (.int .i64) 3)]
abbrev JM:List (Nat×LO):=[(0,.cells [.int .i64,.fz (.int .i64),.fz aa,.fz (.int .i64),.fz (.int .i64),.fz (.int .i64),.fz ab,.fz aa,.int .i64,.mp 1,.hd 6 (.int .i64),.ptr 3 0] 100),(1,.map .i64 dD),(3,.cells [.int .i64,.fz (.int .i64),.fz aa,.fz (.int .i64),.fz (.int .i64),.fz (.int .i64),.fz ab,.fz aa,.fz ag,.hd 7 .bool,.rhd 8] 145),(6,.arr (.int .i64) 3),(7,.arr .bool 4),(8,.rams 220),(9,.cells [.int .i64,.int .i64] 108)]
abbrev XU:ae:={ T:=[(2,.ptr 8 0),(3,.int .i64),(4,.bool)],h:=[(0,.cells [.int .i64,.fz (.int .i64),.fz aa,.fz (.int .i64),.fz (.int .i64),.fz (.int .i64),.fz ab,.fz aa,.int .i64,.mp 1,.hd 2 (.int .i64),.ptr 3 0] 100),(1,.map .i64 dD),(2,.arr (.int .i64) 3),(3,.cells [.int .i64,.fz (.int .i64),.fz aa,.fz (.int .i64),.fz (.int .i64),.fz (.int .i64),.fz ab,.fz aa,.fz ag,.hd 6 .bool,.rhd 7] 145),(6,.arr .bool 4),(7,.rams 220),(8,.cells [.int .i64,.int .i64] 108)],nx:=9 }
abbrev XV:List (Nat×LO):=[(0,.cells [.int .i64,.fz (.int .i64),.fz aa,.fz (.int .i64),.fz (.int .i64),.fz (.int .i64),.fz ab,.fz aa,.int .i64,.mp 1,.hd 6 (.int .i64),.ptr 3 0] 100),(1,.map .i64 dD),(3,.cells [.int .i64,.fz (.int .i64),.fz aa,.fz (.int .i64),.fz (.int .i64),.fz (.int .i64),.fz ab,.fz aa,.fz ag,.hd 7 .bool,.rhd 8] 145),(6,.arr (.int .i64) 3),(7,.arr .bool 4),(8,.rams 220)]
abbrev XW:ae:={ T:=[(0,.ptr 0 0),(2,.ptr 8 0),(5,.hd 9 (.int .i64)),(6,.func 187 [.ptr 0 0] []),(20,.hd 2 (.int .i64)),(21,.int .i64),(22,.int .i64)],h:=JL,nx:=10 }
abbrev CV:List (Ev.Ex×ae):=[(.ret,{ T:=[(0,.nilp),(1,.int .i64)],h:=[],nx:=0 }),(.ret,{ T:=[(0,.ptr 0 0),(1,.int .i64)],h:=sM,nx:=6 })]
abbrev OQ:=TL OA.σs->Option (Out CV)
abbrev Dl:=Kb 59 1 OA 2 CV
abbrev uX:ae:={ T:=[(5,.int .i64),(6,.ptr 0 0),(38,.fz bZ),(39,.int .i64),(40,.int .i64)],h:=sM,nx:=6 }
abbrev uV:List (Ev.Ex×ae):=[((.exit 0),{ T:=[(5,.int .i64),(6,.ptr 0 0)],h:=sM,nx:=6 })]
abbrev OK:=TL uX.σs->Option (Out uV)
abbrev Dc:=Ld 0 66 (aT [0] (aG Tryz.f59)) uX uV
def OJ(F0:mT)(F4:qv)(t5:Int)(t38:List (Sh.T bZ))(t39 t40 b0_0:Int)(b0_1:List Int)(b0_2:List (Sh.T aa))(b0_3 b0_4 b0_5:List Int)(b0_6:List (Sh.T ab))(b0_7:List (Sh.T aa))(b0_8:Int)(b1:List (Sh.T (.agg [(.int .i64),dD])))(b2:List Int)(b3_0:Int)(b3_1:List Int)(b3_2:List (Sh.T aa))(b3_3 b3_4 b3_5:List Int)(b3_6:List (Sh.T ab))(b3_7:List (Sh.T aa))(b3_8:List (Sh.T ag))(b4:List Bool)(b5:List (Sh.T (.agg [(.int .i64),(.int .i64),(.sl aq)]))):Option (TL uX.σs⊕Out uV):=
 br (iL t40 t39)
 (
  ah (ar t40 (List.length t38))<|
  ai (F4 (b0_0,(b0_1,(b0_2,(b0_3,(b0_4,(b0_5,(b0_6,(b0_7,((gt bZ t38 t40).1,((gt bZ t38 t40).2.1,()))))))))))) fun x0=>
  ah (iQ x0.1 x0.1)<|
  ai (F0 (x0.2.1,())) fun x1=>
  ah (room 8 (List.length (ap b2 ((IntKind.wrap .i64 x1.1)::[]))))<|
  some (.inl (t5,(t38,(t39,((IntKind.wrap .i64 (t40+(1:Int))),(b0_0,(b0_1,(b0_2,(b0_3,(b0_4,(b0_5,(b0_6,(b0_7,(b0_8,((@cu dD (IntKind.wrap .i64 x1.1) ((Int.negSucc 0),((0:Int),())) b1),((ap b2 ((IntKind.wrap .i64 x1.1)::[])),(b3_0,(b3_1,(b3_2,(b3_3,(b3_4,(b3_5,(b3_6,(b3_7,(b3_8,(b4,(b5,()))))))))))))))))))))))))))))
 (
  some (.inr (t5,(b0_0,(b0_1,(b0_2,(b0_3,(b0_4,(b0_5,(b0_6,(b0_7,(b0_8,(b1,(b2,(b3_0,(b3_1,(b3_2,(b3_3,(b3_4,(b3_5,(b3_6,(b3_7,(b3_8,(b4,(b5,())))))))))))))))))))))))))
def abG(c0:lJ)(c4:n8) :Dc:=aU (fun d=>OJ c0.F c4.F  d.1 d.2.1 d.2.2.1 d.2.2.2.1 d.2.2.2.2.1 d.2.2.2.2.2.1 d.2.2.2.2.2.2.1 d.2.2.2.2.2.2.2.1 d.2.2.2.2.2.2.2.2.1 d.2.2.2.2.2.2.2.2.2.1 d.2.2.2.2.2.2.2.2.2.2.1 d.2.2.2.2.2.2.2.2.2.2.2.1 d.2.2.2.2.2.2.2.2.2.2.2.2.1 d.2.2.2.2.2.2.2.2.2.2.2.2.2.1 d.2.2.2.2.2.2.2.2.2.2.2.2.2.2.1 d.2.2.2.2.2.2.2.2.2.2.2.2.2.2.2.1 d.2.2.2.2.2.2.2.2.2.2.2.2.2.2.2.2.1 d.2.2.2.2.2.2.2.2.2.2.2.2.2.2.2.2.2.1 d.2.2.2.2.2.2.2.2.2.2.2.2.2.2.2.2.2.2.1 d.2.2.2.2.2.2.2.2.2.2.2.2.2.2.2.2.2.2.2.1 d.2.2.2.2.2.2.2.2.2.2.2.2.2.2.2.2.2.2.2.2.1 d.2.2.2.2.2.2.2.2.2.2.2.2.2.2.2.2.2.2.2.2.2.1 d.2.2.2.2.2.2.2.2.2.2.2.2.2.2.2.2.2.2.2.2.2.2.1 d.2.2.2.2.2.2.2.2.2.2.2.2.2.2.2.2.2.2.2.2.2.2.2.1 d.2.2.2.2.2.2.2.2.2.2.2.2.2.2.2.2.2.2.2.2.2.2.2.2.1 d.2.2.2.2.2.2.2.2.2.2.2.2.2.2.2.2.2.2.2.2.2.2.2.2.2.1) (pL (kD c0 (kB c4 k0)) (eC Tryz.func118 (by kernel_rfl) e0) 5 l0 fun d=>by kernel_rfl)
def abH:Dc:=abG mS qu
def Dd:OK:=aE (fun d=>OJ qA vb  d.1 d.2.1 d.2.2.1 d.2.2.2.1 d.2.2.2.2.1 d.2.2.2.2.2.1 d.2.2.2.2.2.2.1 d.2.2.2.2.2.2.2.1 d.2.2.2.2.2.2.2.2.1 d.2.2.2.2.2.2.2.2.2.1 d.2.2.2.2.2.2.2.2.2.2.1 d.2.2.2.2.2.2.2.2.2.2.2.1 d.2.2.2.2.2.2.2.2.2.2.2.2.1 d.2.2.2.2.2.2.2.2.2.2.2.2.2.1 d.2.2.2.2.2.2.2.2.2.2.2.2.2.2.1 d.2.2.2.2.2.2.2.2.2.2.2.2.2.2.2.1 d.2.2.2.2.2.2.2.2.2.2.2.2.2.2.2.2.1 d.2.2.2.2.2.2.2.2.2.2.2.2.2.2.2.2.2.1 d.2.2.2.2.2.2.2.2.2.2.2.2.2.2.2.2.2.2.1 d.2.2.2.2.2.2.2.2.2.2.2.2.2.2.2.2.2.2.2.1 d.2.2.2.2.2.2.2.2.2.2.2.2.2.2.2.2.2.2.2.2.1 d.2.2.2.2.2.2.2.2.2.2.2.2.2.2.2.2.2.2.2.2.2.1 d.2.2.2.2.2.2.2.2.2.2.2.2.2.2.2.2.2.2.2.2.2.2.1 d.2.2.2.2.2.2.2.2.2.2.2.2.2.2.2.2.2.2.2.2.2.2.2.1 d.2.2.2.2.2.2.2.2.2.2.2.2.2.2.2.2.2.2.2.2.2.2.2.2.1 d.2.2.2.2.2.2.2.2.2.2.2.2.2.2.2.2.2.2.2.2.2.2.2.2.2.1) NN
def abP(F0:mT)(F1:Wm)(F2:n7)(F3:OI)(F4:qv)(F5:WY)(L7:OK)(t0_0:Int)(t0_1:List Int)(t0_2:List (Sh.T aa))(t0_3 t0_4 t0_5:List Int)(t0_6:List (Sh.T ab))(t0_7:List (Sh.T aa)):Option (Out CV):=
 ai (F3 ((t0_0,(t0_1,(t0_2,(t0_3,(t0_4,(t0_5,(t0_6,(t0_7,())))))))),())) fun x0=>
 br (Bool.not (iQ x0.2.1 (0:Int)))
 (
  some (.inl (x0.2.1,())))
 (
  ai (F2 ((t0_0,(t0_1,(t0_2,(t0_3,(t0_4,(t0_5,(t0_6,(t0_7,())))))))),())) fun x1=>
  ai (F1 ((t0_0,(t0_1,(t0_2,(t0_3,(t0_4,(t0_5,(t0_6,(t0_7,())))))))),())) fun x2=>
  ai (F5 (t0_0,(t0_1,(t0_2,(t0_3,(t0_4,(t0_5,(t0_6,(t0_7,(x2.1.1,(x2.1.2.1,()))))))))))) fun x3=>
  (match x3 with
  |.inl x4=>
   ah (iQ x4.1 x4.1)<|
   none
  |.inr x4=>
   ah (iQ x4.1 x4.1)<|
   ai (L7 (x4.1,(x0.1,((Int.ofNat (List.length x0.1)),((0:Int),(t0_0,(t0_1,(t0_2,(t0_3,(t0_4,(t0_5,(t0_6,(t0_7,((IntKind.wrap .i64 (@HAdd.hAdd (Int) (Int) (Int) _ (Int.ofNat (List.length t0_2)) x1.1)),([],([],x4.2)))))))))))))))) fun x5=>
   some (.inr x5)
  ))
def abQ(c0:lJ)(c1:Ix)(c2:mR)(c3:Db)(c4:n8)(c5:Jc)(M7:Dc):Dl:=⟨u8 (abP c0.F c1.F c2.F c3.F c4.F c5.F M7.L),pB Tryz.func59 66 (kD c0 (kD c1 (kD c2 (kD c3 (kB c4 (kB c5 k0)))))) (eC Tryz.func118 (by kernel_rfl) e0) 5 (sS (sC M7 l0)) fun d=>by kernel_rfl⟩
def OP:Dl:=abQ mS Wn n5 OH qu WZ abH
def abF:OQ:=OP.F
abbrev ML:ae:={ T:=[(0,.ptr 0 0)],h:=sM,nx:=6 }
abbrev BG:List (Ev.Ex×ae):=[(.ret,{ T:=[(0,.agg [.int .i64,.int .i64]),(1,.int .i64),(2,.bool)],h:=XV,nx:=9 })]
abbrev Ci:=TL ML.σs->Option (Out BG)
abbrev uB:=Kb 119 1 ML 3 BG
abbrev uj:ae:=XW
abbrev nY:List (Ev.Ex×ae):=[(.ret,XU),((.exit 0),{ T:=[(0,.ptr 0 0),(2,.ptr 8 0),(5,.hd 9 (.int .i64))],h:=JL,nx:=10 })]
abbrev Nh:=TL uj.σs->Option (Out nY)
abbrev Cb:=Ld 6 84 (aT [0] (aG Tryz.f119)) uj nY
abbrev uk:ae:={ T:=[(0,.ptr 0 0),(2,.ptr 8 0),(5,.hd 9 (.int .i64)),(6,.func 187 [.ptr 0 0] []),(8,.int .i64),(20,.hd 2 (.int .i64)),(21,.int .i64),(22,.int .i64),(32,.int .i64),(33,.int .i64)],h:=JL,nx:=10 }
abbrev nZ:List (Ev.Ex×ae):=[(.ret,XU),((.exit 2),XW)]
abbrev Cd:=TL uk.σs->Option (Out nZ)
abbrev ux:=Ld 6 84 (aT [0,0] (aG Tryz.f119)) uk nZ
def Nc(F0:mT)(F1:qy)(F2:GH)(F3:kU)(F4:qv)(F5:Cw)(F6:Ic)(F7:CM)(t8 t21 t22 t32 t33 b0_0:Int)(b0_1:List Int)(b0_2:List (Sh.T aa))(b0_3 b0_4 b0_5:List Int)(b0_6:List (Sh.T ab))(b0_7:List (Sh.T aa))(b0_8:Int)(b1:List (Sh.T (.agg [(.int .i64),dD])))(b2:List Int)(b3_0:Int)(b3_1:List Int)(b3_2:List (Sh.T aa))(b3_3 b3_4 b3_5:List Int)(b3_6:List (Sh.T ab))(b3_7:List (Sh.T aa))(b3_8:List (Sh.T ag))(b6:List Bool)(b7:List (Sh.T (.agg [(.int .i64),(.int .i64),(.sl aq)])))(b8_0 b8_1:Int)(b9:List Int):Option (TL uk.σs⊕Out nZ):=
 br (iL t33 t32)
 (
  ai (F3 ((IntKind.wrap .u64 t8),(b0_8,()))) fun x0=>
  ai (F1 ((b0_0,(b0_1,(b0_2,(b0_3,(b0_4,(b0_5,(b0_6,(b0_7,())))))))),((x0.1,([],())),()))) fun x1=>
  ah (iQ x1.2.1 x1.2.1)<|
  ai (F7 (x1.1.1,(x1.1.2.1,(b3_0,(b3_1,(b3_2,(b3_3,(b3_4,(b3_5,(b3_6,(b3_7,(b3_8,(b6,(b7,())))))))))))))) fun x2=>
  ai (F3 ((IntKind.wrap .u64 t33),((Int.ofNat (List.length b0_1)),()))) fun x3=>
  ai (F6 (x3.1,x2.2)) fun x4=>
  ah (iQ x4.2.1 x4.2.1)<|
  ai (F5 (x4.2.2.1,(x4.2.2.2.1,(x4.2.2.2.2.1,(x4.2.2.2.2.2.1,(x4.2.2.2.2.2.2.1,(x4.2.2.2.2.2.2.2.1,(x4.2.2.2.2.2.2.2.2.1,(x4.2.2.2.2.2.2.2.2.2.1,(x4.2.2.2.2.2.2.2.2.2.2.1,(x4.2.2.2.2.2.2.2.2.2.2.2.1,(x4.2.2.2.2.2.2.2.2.2.2.2.2.1,())))))))))))) fun x5=>
  ah (bQ x4.1 x4.1)<|
  ai (F4 (b0_0,(b0_1,(b0_2,(b0_3,(b0_4,(b0_5,(b0_6,(b0_7,x5.2.2.2.2.2.2.2.2.2.2.2))))))))) fun x6=>
  ah (iQ x6.1 x6.1)<|
  ai (F0 (x6.2.1,())) fun x7=>
  ah (bQ x4.1 x4.1)<|
  ai (F2 (x4.2.2.2.2.2.2.2.2.2.2.2.2.2.1,(true,()))) fun x8=>
  br (Bool.not x4.1)
  (
   some (.inl (t8,(t21,(t22,(t32,((IntKind.wrap .i64 (t33+(1:Int))),(b0_0,(b0_1,(b0_2,(b0_3,(b0_4,(b0_5,(b0_6,(b0_7,(b0_8,(b1,(b2,(x5.1,(x5.2.1,(x5.2.2.1,(x5.2.2.2.1,(x5.2.2.2.2.1,(x5.2.2.2.2.2.1,(x5.2.2.2.2.2.2.1,(x5.2.2.2.2.2.2.2.1,(x5.2.2.2.2.2.2.2.2.1,(x5.2.2.2.2.2.2.2.2.2.1,(x5.2.2.2.2.2.2.2.2.2.2.1,(b8_0,(b8_1,(b9,()))))))))))))))))))))))))))))))))
  (
   br (iE (0:Int) x8.1)
   (
    some (.inr (.inl (x8.1,(true,(b0_0,(b0_1,(b0_2,(b0_3,(b0_4,(b0_5,(b0_6,(b0_7,(b0_8,(b1,(b2,(x5.1,(x5.2.1,(x5.2.2.1,(x5.2.2.2.1,(x5.2.2.2.2.1,(x5.2.2.2.2.2.1,(x5.2.2.2.2.2.2.1,(x5.2.2.2.2.2.2.2.1,(x5.2.2.2.2.2.2.2.2.1,(x5.2.2.2.2.2.2.2.2.2.1,(x5.2.2.2.2.2.2.2.2.2.2.1,(t8,(t33,())))))))))))))))))))))))))))))
   (
    br (Bool.not (@dn dD b1 (IntKind.wrap .i64 x7.1)))
    (
     ah (room 8 (List.length (ap b9 ((IntKind.wrap .i64 x7.1)::[]))))<|
     some (.inl (t8,(t21,(t22,(t32,((IntKind.wrap .i64 (t33+(1:Int))),(b0_0,(b0_1,(b0_2,(b0_3,(b0_4,(b0_5,(b0_6,(b0_7,(b0_8,((@cu dD (IntKind.wrap .i64 x7.1) (t8,(t33,())) b1),(b2,(x5.1,(x5.2.1,(x5.2.2.1,(x5.2.2.2.1,(x5.2.2.2.2.1,(x5.2.2.2.2.2.1,(x5.2.2.2.2.2.2.1,(x5.2.2.2.2.2.2.2.1,(x5.2.2.2.2.2.2.2.2.1,(x5.2.2.2.2.2.2.2.2.2.1,(x5.2.2.2.2.2.2.2.2.2.2.1,(b8_0,(b8_1,((ap b9 ((IntKind.wrap .i64 x7.1)::[])),()))))))))))))))))))))))))))))))))
    (
     some (.inl (t8,(t21,(t22,(t32,((IntKind.wrap .i64 (t33+(1:Int))),(b0_0,(b0_1,(b0_2,(b0_3,(b0_4,(b0_5,(b0_6,(b0_7,(b0_8,(b1,(b2,(x5.1,(x5.2.1,(x5.2.2.1,(x5.2.2.2.1,(x5.2.2.2.2.1,(x5.2.2.2.2.2.1,(x5.2.2.2.2.2.2.1,(x5.2.2.2.2.2.2.2.1,(x5.2.2.2.2.2.2.2.2.1,(x5.2.2.2.2.2.2.2.2.2.1,(x5.2.2.2.2.2.2.2.2.2.2.1,(b8_0,(b8_1,(b9,())))))))))))))))))))))))))))))))))))
 (
  some (.inr (.inr (t21,(t22,(b0_0,(b0_1,(b0_2,(b0_3,(b0_4,(b0_5,(b0_6,(b0_7,(b0_8,(b1,(b2,(b3_0,(b3_1,(b3_2,(b3_3,(b3_4,(b3_5,(b3_6,(b3_7,(b3_8,(b6,(b7,(b8_0,(b8_1,(b9,()))))))))))))))))))))))))))))))
def Z9(c0:lJ)(c1:n9)(c2:xw)(c3:ke)(c4:n8)(c5:uD)(c6:yp)(c7:uL) :ux:=aU (fun d=>Nc c0.F c1.F c2.F c3.F c4.F c5.F c6.F c7.F  d.1 d.2.1 d.2.2.1 d.2.2.2.1 d.2.2.2.2.1 d.2.2.2.2.2.1 d.2.2.2.2.2.2.1 d.2.2.2.2.2.2.2.1 d.2.2.2.2.2.2.2.2.1 d.2.2.2.2.2.2.2.2.2.1 d.2.2.2.2.2.2.2.2.2.2.1 d.2.2.2.2.2.2.2.2.2.2.2.1 d.2.2.2.2.2.2.2.2.2.2.2.2.1 d.2.2.2.2.2.2.2.2.2.2.2.2.2.1 d.2.2.2.2.2.2.2.2.2.2.2.2.2.2.1 d.2.2.2.2.2.2.2.2.2.2.2.2.2.2.2.1 d.2.2.2.2.2.2.2.2.2.2.2.2.2.2.2.2.1 d.2.2.2.2.2.2.2.2.2.2.2.2.2.2.2.2.2.1 d.2.2.2.2.2.2.2.2.2.2.2.2.2.2.2.2.2.2.1 d.2.2.2.2.2.2.2.2.2.2.2.2.2.2.2.2.2.2.2.1 d.2.2.2.2.2.2.2.2.2.2.2.2.2.2.2.2.2.2.2.2.1 d.2.2.2.2.2.2.2.2.2.2.2.2.2.2.2.2.2.2.2.2.2.1 d.2.2.2.2.2.2.2.2.2.2.2.2.2.2.2.2.2.2.2.2.2.2.1 d.2.2.2.2.2.2.2.2.2.2.2.2.2.2.2.2.2.2.2.2.2.2.2.1 d.2.2.2.2.2.2.2.2.2.2.2.2.2.2.2.2.2.2.2.2.2.2.2.2.1 d.2.2.2.2.2.2.2.2.2.2.2.2.2.2.2.2.2.2.2.2.2.2.2.2.2.1 d.2.2.2.2.2.2.2.2.2.2.2.2.2.2.2.2.2.2.2.2.2.2.2.2.2.2.1 d.2.2.2.2.2.2.2.2.2.2.2.2.2.2.2.2.2.2.2.2.2.2.2.2.2.2.2.1 d.2.2.2.2.2.2.2.2.2.2.2.2.2.2.2.2.2.2.2.2.2.2.2.2.2.2.2.2.1 d.2.2.2.2.2.2.2.2.2.2.2.2.2.2.2.2.2.2.2.2.2.2.2.2.2.2.2.2.2.1) (pL (kD c0 (kD c1 (kD c2 (kD c3 (kB c4 (kB c5 (kB c6 (kB c7 k0)))))))) (eC Tryz.func118 (by kernel_rfl) (eC Tryz.func53 (by kernel_rfl) (eC Tryz.func187 (by kernel_rfl) e0))) 5 l0 fun d=>by kernel_rfl)
def Ng:ux:=Z9 mS qx GJ kV qu Cv Ie CL
def uy:Cd:=aE (fun d=>Nc qA vd UG jw vb Ny Tj N4  d.1 d.2.1 d.2.2.1 d.2.2.2.1 d.2.2.2.2.1 d.2.2.2.2.2.1 d.2.2.2.2.2.2.1 d.2.2.2.2.2.2.2.1 d.2.2.2.2.2.2.2.2.1 d.2.2.2.2.2.2.2.2.2.1 d.2.2.2.2.2.2.2.2.2.2.1 d.2.2.2.2.2.2.2.2.2.2.2.1 d.2.2.2.2.2.2.2.2.2.2.2.2.1 d.2.2.2.2.2.2.2.2.2.2.2.2.2.1 d.2.2.2.2.2.2.2.2.2.2.2.2.2.2.1 d.2.2.2.2.2.2.2.2.2.2.2.2.2.2.2.1 d.2.2.2.2.2.2.2.2.2.2.2.2.2.2.2.2.1 d.2.2.2.2.2.2.2.2.2.2.2.2.2.2.2.2.2.1 d.2.2.2.2.2.2.2.2.2.2.2.2.2.2.2.2.2.2.1 d.2.2.2.2.2.2.2.2.2.2.2.2.2.2.2.2.2.2.2.1 d.2.2.2.2.2.2.2.2.2.2.2.2.2.2.2.2.2.2.2.2.1 d.2.2.2.2.2.2.2.2.2.2.2.2.2.2.2.2.2.2.2.2.2.1 d.2.2.2.2.2.2.2.2.2.2.2.2.2.2.2.2.2.2.2.2.2.2.1 d.2.2.2.2.2.2.2.2.2.2.2.2.2.2.2.2.2.2.2.2.2.2.2.1 d.2.2.2.2.2.2.2.2.2.2.2.2.2.2.2.2.2.2.2.2.2.2.2.2.1 d.2.2.2.2.2.2.2.2.2.2.2.2.2.2.2.2.2.2.2.2.2.2.2.2.2.1 d.2.2.2.2.2.2.2.2.2.2.2.2.2.2.2.2.2.2.2.2.2.2.2.2.2.2.1 d.2.2.2.2.2.2.2.2.2.2.2.2.2.2.2.2.2.2.2.2.2.2.2.2.2.2.2.1 d.2.2.2.2.2.2.2.2.2.2.2.2.2.2.2.2.2.2.2.2.2.2.2.2.2.2.2.2.1 d.2.2.2.2.2.2.2.2.2.2.2.2.2.2.2.2.2.2.2.2.2.2.2.2.2.2.2.2.2.1) NN
def Nb(L7:Cd)(t21 t22 b0_0:Int)(b0_1:List Int)(b0_2:List (Sh.T aa))(b0_3 b0_4 b0_5:List Int)(b0_6:List (Sh.T ab))(b0_7:List (Sh.T aa))(b0_8:Int)(b1:List (Sh.T (.agg [(.int .i64),dD])))(b2:List Int)(b3_0:Int)(b3_1:List Int)(b3_2:List (Sh.T aa))(b3_3 b3_4 b3_5:List Int)(b3_6:List (Sh.T ab))(b3_7:List (Sh.T aa))(b3_8:List (Sh.T ag))(b6:List Bool)(b7:List (Sh.T (.agg [(.int .i64),(.int .i64),(.sl aq)])))(b8_0 b8_1:Int)(b9:List Int):Option (TL uj.σs⊕Out nY):=
 br (iL t22 t21)
 (
  ah (ar t22 (List.length b2))<|
  ai (L7 ((gt (.int .i64) b2 t22),(t21,(t22,((IntKind.wrap .i64 ((1:Int)*(HPow.hPow (2:Int) (Min.min (Int.toNat (Int.ofNat (List.length b0_1))) 64)))),((0:Int),(b0_0,(b0_1,(b0_2,(b0_3,(b0_4,(b0_5,(b0_6,(b0_7,(b0_8,(b1,(b2,(b3_0,(b3_1,(b3_2,(b3_3,(b3_4,(b3_5,(b3_6,(b3_7,(b3_8,(b6,(b7,(b8_0,(b8_1,(b9,()))))))))))))))))))))))))))))))) fun x0=>
  (match x0 with|.inl x1=>some (.inr (.inl x1))|.inr x1=>some (.inl (x1.1,((IntKind.wrap .i64 (@HAdd.hAdd (Int) (Int) (Int) _ x1.2.1 (1:Int))),x1.2.2)))
  ))
 (
  some (.inr (.inr (b0_0,(b0_1,(b0_2,(b0_3,(b0_4,(b0_5,(b0_6,(b0_7,(b0_8,(b1,(b2,(b3_0,(b3_1,(b3_2,(b3_3,(b3_4,(b3_5,(b3_6,(b3_7,(b3_8,(b6,(b7,(b8_0,(b8_1,(b9,()))))))))))))))))))))))))))))
def Z8(M7:ux):Cb:=aU (fun d=>Nb  M7.L d.1 d.2.1 d.2.2.1 d.2.2.2.1 d.2.2.2.2.1 d.2.2.2.2.2.1 d.2.2.2.2.2.2.1 d.2.2.2.2.2.2.2.1 d.2.2.2.2.2.2.2.2.1 d.2.2.2.2.2.2.2.2.2.1 d.2.2.2.2.2.2.2.2.2.2.1 d.2.2.2.2.2.2.2.2.2.2.2.1 d.2.2.2.2.2.2.2.2.2.2.2.2.1 d.2.2.2.2.2.2.2.2.2.2.2.2.2.1 d.2.2.2.2.2.2.2.2.2.2.2.2.2.2.1 d.2.2.2.2.2.2.2.2.2.2.2.2.2.2.2.1 d.2.2.2.2.2.2.2.2.2.2.2.2.2.2.2.2.1 d.2.2.2.2.2.2.2.2.2.2.2.2.2.2.2.2.2.1 d.2.2.2.2.2.2.2.2.2.2.2.2.2.2.2.2.2.2.1 d.2.2.2.2.2.2.2.2.2.2.2.2.2.2.2.2.2.2.2.1 d.2.2.2.2.2.2.2.2.2.2.2.2.2.2.2.2.2.2.2.2.1 d.2.2.2.2.2.2.2.2.2.2.2.2.2.2.2.2.2.2.2.2.2.1 d.2.2.2.2.2.2.2.2.2.2.2.2.2.2.2.2.2.2.2.2.2.2.1 d.2.2.2.2.2.2.2.2.2.2.2.2.2.2.2.2.2.2.2.2.2.2.2.1 d.2.2.2.2.2.2.2.2.2.2.2.2.2.2.2.2.2.2.2.2.2.2.2.2.1 d.2.2.2.2.2.2.2.2.2.2.2.2.2.2.2.2.2.2.2.2.2.2.2.2.2.1 d.2.2.2.2.2.2.2.2.2.2.2.2.2.2.2.2.2.2.2.2.2.2.2.2.2.2.1) (pL k0 (eC Tryz.func118 (by kernel_rfl) (eC Tryz.func53 (by kernel_rfl) (eC Tryz.func187 (by kernel_rfl) e0))) 5 (sC M7 l0) fun d=>by kernel_rfl)
def aaa:Cb:=Z8  Ng
def Cc:Nh:=aE (fun d=>Nb  uy d.1 d.2.1 d.2.2.1 d.2.2.2.1 d.2.2.2.2.1 d.2.2.2.2.2.1 d.2.2.2.2.2.2.1 d.2.2.2.2.2.2.2.1 d.2.2.2.2.2.2.2.2.1 d.2.2.2.2.2.2.2.2.2.1 d.2.2.2.2.2.2.2.2.2.2.1 d.2.2.2.2.2.2.2.2.2.2.2.1 d.2.2.2.2.2.2.2.2.2.2.2.2.1 d.2.2.2.2.2.2.2.2.2.2.2.2.2.1 d.2.2.2.2.2.2.2.2.2.2.2.2.2.2.1 d.2.2.2.2.2.2.2.2.2.2.2.2.2.2.2.1 d.2.2.2.2.2.2.2.2.2.2.2.2.2.2.2.2.1 d.2.2.2.2.2.2.2.2.2.2.2.2.2.2.2.2.2.1 d.2.2.2.2.2.2.2.2.2.2.2.2.2.2.2.2.2.2.1 d.2.2.2.2.2.2.2.2.2.2.2.2.2.2.2.2.2.2.2.1 d.2.2.2.2.2.2.2.2.2.2.2.2.2.2.2.2.2.2.2.2.1 d.2.2.2.2.2.2.2.2.2.2.2.2.2.2.2.2.2.2.2.2.2.1 d.2.2.2.2.2.2.2.2.2.2.2.2.2.2.2.2.2.2.2.2.2.2.1 d.2.2.2.2.2.2.2.2.2.2.2.2.2.2.2.2.2.2.2.2.2.2.2.1 d.2.2.2.2.2.2.2.2.2.2.2.2.2.2.2.2.2.2.2.2.2.2.2.2.1 d.2.2.2.2.2.2.2.2.2.2.2.2.2.2.2.2.2.2.2.2.2.2.2.2.2.1 d.2.2.2.2.2.2.2.2.2.2.2.2.2.2.2.2.2.2.2.2.2.2.2.2.2.2.1) NN
def aao(F0:mT)(F1:qy)(F2:GH)(F3:kU)(F4:qv)(F5:Cw)(F6:Ic)(F7:CM)(L4:Nh)(L7:Cd)(b0_0:Int)(b0_1:List Int)(b0_2:List (Sh.T aa))(b0_3 b0_4 b0_5:List Int)(b0_6:List (Sh.T ab))(b0_7:List (Sh.T aa))(b0_8:Int)(b1:List (Sh.T (.agg [(.int .i64),dD])))(b2:List Int)(b3_0:Int)(b3_1:List Int)(b3_2:List (Sh.T aa))(b3_3 b3_4 b3_5:List Int)(b3_6:List (Sh.T ab))(b3_7:List (Sh.T aa))(b3_8:List (Sh.T ag))(b4:List Bool)(b5:List (Sh.T (.agg [(.int .i64),(.int .i64),(.sl aq)]))):Option (Out BG):=
 ai (L4 ((Int.ofNat (List.length b2)),((0:Int),(b0_0,(b0_1,(b0_2,(b0_3,(b0_4,(b0_5,(b0_6,(b0_7,(b0_8,(b1,(b2,(b3_0,(b3_1,(b3_2,(b3_3,(b3_4,(b3_5,(b3_6,(b3_7,(b3_8,(b4,(b5,((0:Int),((0:Int),([],())))))))))))))))))))))))))))) fun x0=>
 (match x0 with|.inl x1=>some (x1.2.2.2.2.2.2.2.2.2.2.2.2.2.2.2.2.2.2.2.2.2.2.2.2.1,(x1.2.2.2.2.2.2.2.2.2.2.2.2.2.2.2.2.2.2.2.2.2.2.2.2.2.1,(x1.1,(x1.2.1,(x1.2.2.1,(x1.2.2.2.1,(x1.2.2.2.2.1,(x1.2.2.2.2.2.1,(x1.2.2.2.2.2.2.1,(x1.2.2.2.2.2.2.2.1,(x1.2.2.2.2.2.2.2.2.1,(x1.2.2.2.2.2.2.2.2.2.1,(x1.2.2.2.2.2.2.2.2.2.2.1,(x1.2.2.2.2.2.2.2.2.2.2.2.1,(x1.2.2.2.2.2.2.2.2.2.2.2.2.2.1,(x1.2.2.2.2.2.2.2.2.2.2.2.2.2.2.1,(x1.2.2.2.2.2.2.2.2.2.2.2.2.2.2.2.1,(x1.2.2.2.2.2.2.2.2.2.2.2.2.2.2.2.2.1,(x1.2.2.2.2.2.2.2.2.2.2.2.2.2.2.2.2.2.1,(x1.2.2.2.2.2.2.2.2.2.2.2.2.2.2.2.2.2.2.1,(x1.2.2.2.2.2.2.2.2.2.2.2.2.2.2.2.2.2.2.2.1,(x1.2.2.2.2.2.2.2.2.2.2.2.2.2.2.2.2.2.2.2.2.1,(x1.2.2.2.2.2.2.2.2.2.2.2.2.2.2.2.2.2.2.2.2.2.1,(x1.2.2.2.2.2.2.2.2.2.2.2.2.1,(x1.2.2.2.2.2.2.2.2.2.2.2.2.2.2.2.2.2.2.2.2.2.2.1,(x1.2.2.2.2.2.2.2.2.2.2.2.2.2.2.2.2.2.2.2.2.2.2.2.1,()))))))))))))))))))))))))))|.inr x1=>some (x1.2.2.2.2.2.2.2.2.2.2.2.2.2.2.2.2.2.2.2.2.2.2.1,(x1.2.2.2.2.2.2.2.2.2.2.2.2.2.2.2.2.2.2.2.2.2.2.2.1,((0:Int),(false,(x1.1,(x1.2.1,(x1.2.2.1,(x1.2.2.2.1,(x1.2.2.2.2.1,(x1.2.2.2.2.2.1,(x1.2.2.2.2.2.2.1,(x1.2.2.2.2.2.2.2.1,(x1.2.2.2.2.2.2.2.2.1,(x1.2.2.2.2.2.2.2.2.2.1,(x1.2.2.2.2.2.2.2.2.2.2.2.1,(x1.2.2.2.2.2.2.2.2.2.2.2.2.1,(x1.2.2.2.2.2.2.2.2.2.2.2.2.2.1,(x1.2.2.2.2.2.2.2.2.2.2.2.2.2.2.1,(x1.2.2.2.2.2.2.2.2.2.2.2.2.2.2.2.1,(x1.2.2.2.2.2.2.2.2.2.2.2.2.2.2.2.2.1,(x1.2.2.2.2.2.2.2.2.2.2.2.2.2.2.2.2.2.1,(x1.2.2.2.2.2.2.2.2.2.2.2.2.2.2.2.2.2.2.1,(x1.2.2.2.2.2.2.2.2.2.2.2.2.2.2.2.2.2.2.2.1,(x1.2.2.2.2.2.2.2.2.2.2.2.2.2.2.2.2.2.2.2.2.2.2.2.2.1,(x1.2.2.2.2.2.2.2.2.2.2.2.2.2.2.2.2.2.2.2.2.1,(x1.2.2.2.2.2.2.2.2.2.2.2.2.2.2.2.2.2.2.2.2.2.1,()))))))))))))))))))))))))))
 )
def aap(c0:lJ)(c1:n9)(c2:xw)(c3:ke)(c4:n8)(c5:uD)(c6:yp)(c7:uL)(M4:Cb)(M7:ux):uB:=⟨nX (aao c0.F c1.F c2.F c3.F c4.F c5.F c6.F c7.F M4.L M7.L),pB Tryz.func119 84 (kD c0 (kD c1 (kD c2 (kD c3 (kB c4 (kB c5 (kB c6 (kB c7 k0)))))))) (eC Tryz.func118 (by kernel_rfl) (eC Tryz.func53 (by kernel_rfl) (eC Tryz.func187 (by kernel_rfl) e0))) 5 (sS (sC M4 l0)) fun d=>by kernel_rfl⟩
def Ch:uB:=aap mS qx GJ kV qu Cv Ie CL aaa Ng
def Nf:Ci:=Ch.F
abbrev Nw:ae:={ T:=[(0,.ptr 0 0),(1,.int .i64)],h:=sM,nx:=6 }
abbrev Ce:List (Ev.Ex×ae):=[(.ret,{ T:=[(0,.agg [.int .i64,.int .i64]),(1,.int .i64),(2,.int .i64),(3,.int .i64)],h:=XV,nx:=9 })]
abbrev N3:=TL Nw.σs->Option (Out Ce)
abbrev CJ:=Kb 60 2 Nw 4 Ce
abbrev ql:ae:={ T:=[(0,.ptr 0 0),(4,.ptr 9 0),(7,.int .i64),(12,.int .i64),(13,.int .i64)],h:=JM,nx:=10 }
abbrev n4:List (Ev.Ex×ae):=[(.ret,{ T:=[(4,.ptr 9 0),(5,.int .i64),(6,.int .i64),(7,.int .i64)],h:=JM,nx:=10 }),((.exit 0),{ T:=[(4,.ptr 9 0),(7,.int .i64)],h:=JM,nx:=10 })]
abbrev NR:=TL ql.σs->Option (Out n4)
abbrev Ct:=Ld 6 41 (aT [0] (aG Tryz.f60)) ql n4
def NP(F0:Ci)(t7 t12 t13 b0_0:Int)(b0_1:List Int)(b0_2:List (Sh.T aa))(b0_3 b0_4 b0_5:List Int)(b0_6:List (Sh.T ab))(b0_7:List (Sh.T aa))(b0_8:Int)(b1:List (Sh.T (.agg [(.int .i64),dD])))(b3_0:Int)(b3_1:List Int)(b3_2:List (Sh.T aa))(b3_3 b3_4 b3_5:List Int)(b3_6:List (Sh.T ab))(b3_7:List (Sh.T aa))(b3_8:List (Sh.T ag))(b6:List Int)(b7:List Bool)(b8:List (Sh.T (.agg [(.int .i64),(.int .i64),(.sl aq)])))(b9_0 b9_1:Int):Option (TL ql.σs⊕Out n4):=
 br (iL t13 t12)
 (
  ai (F0 (b0_0,(b0_1,(b0_2,(b0_3,(b0_4,(b0_5,(b0_6,(b0_7,(b0_8,(b1,(b6,(b3_0,(b3_1,(b3_2,(b3_3,(b3_4,(b3_5,(b3_6,(b3_7,(b3_8,(b7,(b8,()))))))))))))))))))))))) fun x0=>
  br x0.2.2.2.1
  (
   some (.inr (.inl (x0.2.2.1,((IntKind.wrap .i64 (t13+(1:Int))),((0:Int),(x0.2.2.2.2.1,(x0.2.2.2.2.2.1,(x0.2.2.2.2.2.2.1,(x0.2.2.2.2.2.2.2.1,(x0.2.2.2.2.2.2.2.2.1,(x0.2.2.2.2.2.2.2.2.2.1,(x0.2.2.2.2.2.2.2.2.2.2.1,(x0.2.2.2.2.2.2.2.2.2.2.2.1,(x0.2.2.2.2.2.2.2.2.2.2.2.2.1,(x0.2.2.2.2.2.2.2.2.2.2.2.2.2.1,(x0.2.2.2.2.2.2.2.2.2.2.2.2.2.2.1,(x0.2.2.2.2.2.2.2.2.2.2.2.2.2.2.2.1,(x0.2.2.2.2.2.2.2.2.2.2.2.2.2.2.2.2.1,(x0.2.2.2.2.2.2.2.2.2.2.2.2.2.2.2.2.2.1,(x0.2.2.2.2.2.2.2.2.2.2.2.2.2.2.2.2.2.2.1,(x0.2.2.2.2.2.2.2.2.2.2.2.2.2.2.2.2.2.2.2.1,(x0.2.2.2.2.2.2.2.2.2.2.2.2.2.2.2.2.2.2.2.2.1,(x0.2.2.2.2.2.2.2.2.2.2.2.2.2.2.2.2.2.2.2.2.2.1,(x0.2.2.2.2.2.2.2.2.2.2.2.2.2.2.2.2.2.2.2.2.2.2.1,(x0.2.2.2.2.2.2.2.2.2.2.2.2.2.2.2.2.2.2.2.2.2.2.2.1,(x0.2.2.2.2.2.2.2.2.2.2.2.2.2.2.2.2.2.2.2.2.2.2.2.2.1,(x0.2.2.2.2.2.2.2.2.2.2.2.2.2.2.2.2.2.2.2.2.2.2.2.2.2.1,(x0.1,(x0.2.1,()))))))))))))))))))))))))))))))
  (
   br (iQ (Int.ofNat (List.length x0.2.2.2.2.2.2.2.2.2.2.2.2.2.2.2.2.2.2.2.2.2.2.2.1)) (0:Int))
   (
    some (.inr (.inr ((Int.ofNat (List.length b1)),(x0.2.2.2.2.1,(x0.2.2.2.2.2.1,(x0.2.2.2.2.2.2.1,(x0.2.2.2.2.2.2.2.1,(x0.2.2.2.2.2.2.2.2.1,(x0.2.2.2.2.2.2.2.2.2.1,(x0.2.2.2.2.2.2.2.2.2.2.1,(x0.2.2.2.2.2.2.2.2.2.2.2.1,(x0.2.2.2.2.2.2.2.2.2.2.2.2.1,(x0.2.2.2.2.2.2.2.2.2.2.2.2.2.1,(x0.2.2.2.2.2.2.2.2.2.2.2.2.2.2.1,(x0.2.2.2.2.2.2.2.2.2.2.2.2.2.2.2.1,(x0.2.2.2.2.2.2.2.2.2.2.2.2.2.2.2.2.1,(x0.2.2.2.2.2.2.2.2.2.2.2.2.2.2.2.2.2.1,(x0.2.2.2.2.2.2.2.2.2.2.2.2.2.2.2.2.2.2.1,(x0.2.2.2.2.2.2.2.2.2.2.2.2.2.2.2.2.2.2.2.1,(x0.2.2.2.2.2.2.2.2.2.2.2.2.2.2.2.2.2.2.2.2.1,(x0.2.2.2.2.2.2.2.2.2.2.2.2.2.2.2.2.2.2.2.2.2.1,(x0.2.2.2.2.2.2.2.2.2.2.2.2.2.2.2.2.2.2.2.2.2.2.1,(x0.2.2.2.2.2.2.2.2.2.2.2.2.2.2.2.2.2.2.2.2.2.2.2.1,(x0.2.2.2.2.2.2.2.2.2.2.2.2.2.2.2.2.2.2.2.2.2.2.2.2.1,(x0.2.2.2.2.2.2.2.2.2.2.2.2.2.2.2.2.2.2.2.2.2.2.2.2.2.1,(b9_0,(b9_1,()))))))))))))))))))))))))))))
   (
    some (.inl ((Int.ofNat (List.length b1)),(t12,((IntKind.wrap .i64 (t13+(1:Int))),(x0.2.2.2.2.1,(x0.2.2.2.2.2.1,(x0.2.2.2.2.2.2.1,(x0.2.2.2.2.2.2.2.1,(x0.2.2.2.2.2.2.2.2.1,(x0.2.2.2.2.2.2.2.2.2.1,(x0.2.2.2.2.2.2.2.2.2.2.1,(x0.2.2.2.2.2.2.2.2.2.2.2.1,(x0.2.2.2.2.2.2.2.2.2.2.2.2.1,(x0.2.2.2.2.2.2.2.2.2.2.2.2.2.1,(x0.2.2.2.2.2.2.2.2.2.2.2.2.2.2.1,(x0.2.2.2.2.2.2.2.2.2.2.2.2.2.2.2.1,(x0.2.2.2.2.2.2.2.2.2.2.2.2.2.2.2.2.1,(x0.2.2.2.2.2.2.2.2.2.2.2.2.2.2.2.2.2.1,(x0.2.2.2.2.2.2.2.2.2.2.2.2.2.2.2.2.2.2.1,(x0.2.2.2.2.2.2.2.2.2.2.2.2.2.2.2.2.2.2.2.1,(x0.2.2.2.2.2.2.2.2.2.2.2.2.2.2.2.2.2.2.2.2.1,(x0.2.2.2.2.2.2.2.2.2.2.2.2.2.2.2.2.2.2.2.2.2.1,(x0.2.2.2.2.2.2.2.2.2.2.2.2.2.2.2.2.2.2.2.2.2.2.1,(x0.2.2.2.2.2.2.2.2.2.2.2.2.2.2.2.2.2.2.2.2.2.2.2.1,(x0.2.2.2.2.2.2.2.2.2.2.2.2.2.2.2.2.2.2.2.2.2.2.2.2.1,(x0.2.2.2.2.2.2.2.2.2.2.2.2.2.2.2.2.2.2.2.2.2.2.2.2.2.1,(b9_0,(b9_1,())))))))))))))))))))))))))))))))
 (
  some (.inr (.inr (t7,(b0_0,(b0_1,(b0_2,(b0_3,(b0_4,(b0_5,(b0_6,(b0_7,(b0_8,(b1,(b3_0,(b3_1,(b3_2,(b3_3,(b3_4,(b3_5,(b3_6,(b3_7,(b3_8,(b6,(b7,(b8,(b9_0,(b9_1,()))))))))))))))))))))))))))))
def aaP(c0:uB) :Ct:=aU (fun d=>NP c0.F  d.1 d.2.1 d.2.2.1 d.2.2.2.1 d.2.2.2.2.1 d.2.2.2.2.2.1 d.2.2.2.2.2.2.1 d.2.2.2.2.2.2.2.1 d.2.2.2.2.2.2.2.2.1 d.2.2.2.2.2.2.2.2.2.1 d.2.2.2.2.2.2.2.2.2.2.1 d.2.2.2.2.2.2.2.2.2.2.2.1 d.2.2.2.2.2.2.2.2.2.2.2.2.1 d.2.2.2.2.2.2.2.2.2.2.2.2.2.1 d.2.2.2.2.2.2.2.2.2.2.2.2.2.2.1 d.2.2.2.2.2.2.2.2.2.2.2.2.2.2.2.1 d.2.2.2.2.2.2.2.2.2.2.2.2.2.2.2.2.1 d.2.2.2.2.2.2.2.2.2.2.2.2.2.2.2.2.2.1 d.2.2.2.2.2.2.2.2.2.2.2.2.2.2.2.2.2.2.1 d.2.2.2.2.2.2.2.2.2.2.2.2.2.2.2.2.2.2.2.1 d.2.2.2.2.2.2.2.2.2.2.2.2.2.2.2.2.2.2.2.2.1 d.2.2.2.2.2.2.2.2.2.2.2.2.2.2.2.2.2.2.2.2.2.1 d.2.2.2.2.2.2.2.2.2.2.2.2.2.2.2.2.2.2.2.2.2.2.1 d.2.2.2.2.2.2.2.2.2.2.2.2.2.2.2.2.2.2.2.2.2.2.2.1 d.2.2.2.2.2.2.2.2.2.2.2.2.2.2.2.2.2.2.2.2.2.2.2.2.1 d.2.2.2.2.2.2.2.2.2.2.2.2.2.2.2.2.2.2.2.2.2.2.2.2.2.1 d.2.2.2.2.2.2.2.2.2.2.2.2.2.2.2.2.2.2.2.2.2.2.2.2.2.2.1) (pL (kB c0 k0) e0 1 l0 fun d=>by kernel_rfl)
def aaQ:Ct:=aaP Ch
def NQ:NR:=aE (fun d=>NP Nf  d.1 d.2.1 d.2.2.1 d.2.2.2.1 d.2.2.2.2.1 d.2.2.2.2.2.1 d.2.2.2.2.2.2.1 d.2.2.2.2.2.2.2.1 d.2.2.2.2.2.2.2.2.1 d.2.2.2.2.2.2.2.2.2.1 d.2.2.2.2.2.2.2.2.2.2.1 d.2.2.2.2.2.2.2.2.2.2.2.1 d.2.2.2.2.2.2.2.2.2.2.2.2.1 d.2.2.2.2.2.2.2.2.2.2.2.2.2.1 d.2.2.2.2.2.2.2.2.2.2.2.2.2.2.1 d.2.2.2.2.2.2.2.2.2.2.2.2.2.2.2.1 d.2.2.2.2.2.2.2.2.2.2.2.2.2.2.2.2.1 d.2.2.2.2.2.2.2.2.2.2.2.2.2.2.2.2.2.1 d.2.2.2.2.2.2.2.2.2.2.2.2.2.2.2.2.2.2.1 d.2.2.2.2.2.2.2.2.2.2.2.2.2.2.2.2.2.2.2.1 d.2.2.2.2.2.2.2.2.2.2.2.2.2.2.2.2.2.2.2.2.1 d.2.2.2.2.2.2.2.2.2.2.2.2.2.2.2.2.2.2.2.2.2.1 d.2.2.2.2.2.2.2.2.2.2.2.2.2.2.2.2.2.2.2.2.2.2.1 d.2.2.2.2.2.2.2.2.2.2.2.2.2.2.2.2.2.2.2.2.2.2.2.1 d.2.2.2.2.2.2.2.2.2.2.2.2.2.2.2.2.2.2.2.2.2.2.2.2.1 d.2.2.2.2.2.2.2.2.2.2.2.2.2.2.2.2.2.2.2.2.2.2.2.2.2.1 d.2.2.2.2.2.2.2.2.2.2.2.2.2.2.2.2.2.2.2.2.2.2.2.2.2.2.1) NN
def aa6(F0:Ci)(L2:NR)(t1 b0_0:Int)(b0_1:List Int)(b0_2:List (Sh.T aa))(b0_3 b0_4 b0_5:List Int)(b0_6:List (Sh.T ab))(b0_7:List (Sh.T aa))(b0_8:Int)(b1:List (Sh.T (.agg [(.int .i64),dD])))(b2:List Int)(b3_0:Int)(b3_1:List Int)(b3_2:List (Sh.T aa))(b3_3 b3_4 b3_5:List Int)(b3_6:List (Sh.T ab))(b3_7:List (Sh.T aa))(b3_8:List (Sh.T ag))(b4:List Bool)(b5:List (Sh.T (.agg [(.int .i64),(.int .i64),(.sl aq)]))):Option (Out Ce):=
 ai (L2 ((0:Int),(t1,((0:Int),(b0_0,(b0_1,(b0_2,(b0_3,(b0_4,(b0_5,(b0_6,(b0_7,(b0_8,(b1,(b3_0,(b3_1,(b3_2,(b3_3,(b3_4,(b3_5,(b3_6,(b3_7,(b3_8,(b2,(b4,(b5,((0:Int),((0:Int),())))))))))))))))))))))))))))) fun x0=>
 (match x0 with|.inl x1=>some (x1.2.2.2.2.2.2.2.2.2.2.2.2.2.2.2.2.2.2.2.2.2.2.2.2.2.1,(x1.2.2.2.2.2.2.2.2.2.2.2.2.2.2.2.2.2.2.2.2.2.2.2.2.2.2.1,(x1.1,(x1.2.1,(x1.2.2.1,(x1.2.2.2.1,(x1.2.2.2.2.1,(x1.2.2.2.2.2.1,(x1.2.2.2.2.2.2.1,(x1.2.2.2.2.2.2.2.1,(x1.2.2.2.2.2.2.2.2.1,(x1.2.2.2.2.2.2.2.2.2.1,(x1.2.2.2.2.2.2.2.2.2.2.1,(x1.2.2.2.2.2.2.2.2.2.2.2.1,(x1.2.2.2.2.2.2.2.2.2.2.2.2.1,(x1.2.2.2.2.2.2.2.2.2.2.2.2.2.1,(x1.2.2.2.2.2.2.2.2.2.2.2.2.2.2.1,(x1.2.2.2.2.2.2.2.2.2.2.2.2.2.2.2.1,(x1.2.2.2.2.2.2.2.2.2.2.2.2.2.2.2.2.1,(x1.2.2.2.2.2.2.2.2.2.2.2.2.2.2.2.2.2.1,(x1.2.2.2.2.2.2.2.2.2.2.2.2.2.2.2.2.2.2.1,(x1.2.2.2.2.2.2.2.2.2.2.2.2.2.2.2.2.2.2.2.1,(x1.2.2.2.2.2.2.2.2.2.2.2.2.2.2.2.2.2.2.2.2.1,(x1.2.2.2.2.2.2.2.2.2.2.2.2.2.2.2.2.2.2.2.2.2.1,(x1.2.2.2.2.2.2.2.2.2.2.2.2.2.2.2.2.2.2.2.2.2.2.1,(x1.2.2.2.2.2.2.2.2.2.2.2.2.2.2.2.2.2.2.2.2.2.2.2.1,(x1.2.2.2.2.2.2.2.2.2.2.2.2.2.2.2.2.2.2.2.2.2.2.2.2.1,())))))))))))))))))))))))))))|.inr x1=>some (x1.2.2.2.2.2.2.2.2.2.2.2.2.2.2.2.2.2.2.2.2.2.2.2.1,(x1.2.2.2.2.2.2.2.2.2.2.2.2.2.2.2.2.2.2.2.2.2.2.2.2.1,((0:Int),((0:Int),(x1.1,(x1.2.1,(x1.2.2.1,(x1.2.2.2.1,(x1.2.2.2.2.1,(x1.2.2.2.2.2.1,(x1.2.2.2.2.2.2.1,(x1.2.2.2.2.2.2.2.1,(x1.2.2.2.2.2.2.2.2.1,(x1.2.2.2.2.2.2.2.2.2.1,(x1.2.2.2.2.2.2.2.2.2.2.1,(x1.2.2.2.2.2.2.2.2.2.2.2.1,(x1.2.2.2.2.2.2.2.2.2.2.2.2.1,(x1.2.2.2.2.2.2.2.2.2.2.2.2.2.1,(x1.2.2.2.2.2.2.2.2.2.2.2.2.2.2.1,(x1.2.2.2.2.2.2.2.2.2.2.2.2.2.2.2.1,(x1.2.2.2.2.2.2.2.2.2.2.2.2.2.2.2.2.1,(x1.2.2.2.2.2.2.2.2.2.2.2.2.2.2.2.2.2.1,(x1.2.2.2.2.2.2.2.2.2.2.2.2.2.2.2.2.2.2.1,(x1.2.2.2.2.2.2.2.2.2.2.2.2.2.2.2.2.2.2.2.1,(x1.2.2.2.2.2.2.2.2.2.2.2.2.2.2.2.2.2.2.2.2.1,(x1.2.2.2.2.2.2.2.2.2.2.2.2.2.2.2.2.2.2.2.2.2.1,(x1.2.2.2.2.2.2.2.2.2.2.2.2.2.2.2.2.2.2.2.2.2.2.1,())))))))))))))))))))))))))))
 )
def aa7(c0:uB)(M2:Ct):CJ:=⟨u23 (aa6 c0.F M2.L),pB Tryz.func60 41 (kB c0 k0) e0 1 (sS (sC M2 l0)) fun d=>by kernel_rfl⟩
def N2:CJ:=aa7 Ch aaQ
def Cu:N3:=N2.F
abbrev Ow:List Sh:=[ba,(.int .i64)]
abbrev qt:List Sh:=[abT,(.int .i64)]
abbrev Da:=TL Ow->Option (TL qt)
abbrev vf:=Kd 19 Ow qt
def abB(F0:N3)(F1:OQ)(a0:Sh.T ba)(a1:Int):Option (TL qt):=
 ai (F1 a0) fun x0=>
 (match x0 with
 |.inl x1=>
  br (Bool.not (iQ x1.1 (0:Int)))
  (
   some ((false,((0:Int),(false,((0:Int),())))),(x1.1,())))
  (
   br (iL a1 (0:Int))
   (
    some ((false,((0:Int),(false,((0:Int),())))),((1:Int),())))
   (
    ah (aR false true (iL (2000:Int) a1))<|
    some ((false,((0:Int),(false,((0:Int),())))),((1:Int),()))))
 |.inr x1=>
  br (Bool.not (iQ x1.1 (0:Int)))
  (
   some ((false,((0:Int),(false,((0:Int),())))),(x1.1,())))
  (
   br (iL a1 (0:Int))
   (
    some ((false,((0:Int),(false,((0:Int),())))),((1:Int),())))
   (
    br (aR false true (iL (2000:Int) a1))
    (
     some ((false,((0:Int),(false,((0:Int),())))),((1:Int),())))
    (
     ai (F0 (a1,x1.2)) fun x2=>
     br (iL (0:Int) x2.2.2.2.1)
     (
      some ((true,(x2.2.2.2.1,(false,((0:Int),())))),((0:Int),())))
     (
      some ((false,((0:Int),((iQ (Int.ofNat (List.length x2.2.2.2.2.2.2.2.2.2.2.2.2.2.2.2.2.2.2.2.2.2.2.2.2.1)) (0:Int)),(x2.2.2.2.2.1,())))),((0:Int),()))))))
 )
def abC(c0:CJ)(c1:Dl) :vf:=⟨u2 (abB c0.F c1.F),pD Tryz.func19 49 (kB c0 (kB c1 k0)) e0 1 (sS l0) fun d=>by kernel_rfl⟩
def C9:vf:=abC N2 OP
def Ov:Da:=C9.F
abbrev M0:List Sh:=[ba]
abbrev B1:List Sh:=[(.int .i64)]
abbrev aam:=TL M0->Option (TL B1)
abbrev Np:=Kd 16 M0 B1
def aaj(F0:uA)(F1:rK)(a0:Sh.T ba):Option (TL B1):=
 ai (F1 (a0,())) fun x0=>
 br (Bool.not (iQ x0.1 (0:Int)))
 (
  some (x0.1,()))
 (
  br (iL (6:Int) (Int.ofNat (List.length a0.2.1)))
  (
   some ((17:Int),()))
  (
   ai (F0 (a0,())) fun x1=>
   br (aR false true (iL (10:Int) (IntKind.wrap .i64 (@HAdd.hAdd (Int) (Int) (Int) _ (Int.ofNat (List.length a0.2.2.1)) x1.1))))
   (
    some ((17:Int),()))
   (
    some ((0:Int),()))))
def aak(c0:qm)(c1:oO) :Np:=⟨u1 (aaj c0.F c1.F),pD Tryz.func16 22 (kD c0 (kD c1 k0)) e0 1 (sS l0) fun d=>by kernel_rfl⟩
def aal:Np:=aak uz rL
def Z7:aam:=aal.F
open Go.Proofs.YtkcpdpplobhpaaaGreat.Pl
set_option maxRecDepth 10000
def bq(n:au):Int:=(n.latches.length:Int)+cw n
def wid(n:au):Nat:=(bq n).toNat
def lK(n:au):Int:=if Pl.bP n≠0 then Pl.bP n else if 6<n.inputs.length then 17 else if 10<bq n then 17 else 0
theorem Pj(n:au):0<=cw n/\cw n<=1000:=by
 unfold cw;by_cases hc:Pl.bP n=0
 .rw[if_neg (fun q=>q hc)];obtain⟨V,hs,_⟩:=O7 hc;have:=(vC n.mems 0 (fun m hm=>jZ hs m hm)).1;have this:0<=cT n.mems:=this;unfold fK;split<;>omega
 .rw[if_pos hc];omega
theorem Ez{n:au}(ft:Fit n):IntKind.wrap .i64 (Int.ofNat (List.length (n.latches.map aB))+cw n)=bq n:=by rw[List.length_map];have:=ft.lat.1;have:=Pj n;exact bf (x:=((n.latches.length:Nat):Int)+cw n) (by omega)
theorem adP{n:au}(ft:Fit n):abI (aQ n,())=some (lK n,())/\Z7 (aQ n,())=some (lK n,()):=by
 have c1:=pN ft;have c2:=Br ft;have d1:=qJ ft;have d2:=DD ft;have w:=Ez ft;unfold lK;by_cases hc:Pl.bP n=0
 .rw[if_neg (fun q=>q hc)];by_cases h1:6<n.inputs.length
  .rw[if_pos h1];have i1:iL (6:Int) (Int.ofNat (List.length n.inputs))=true:=al (show(6:Int)<((n.inputs.length:Nat):Int) by omega);exact⟨af c1 (ao (cI (al hc)) (av i1 rfl)),af c2 (ao (cI (al hc)) (av i1 rfl))⟩
  .rw[if_neg h1];have i1:iL (6:Int) (Int.ofNat (List.length n.inputs))=false:=aw (show ¬(6:Int)<((n.inputs.length:Nat):Int) by omega);by_cases h2:10<bq n
   .rw[if_pos h2];have i2:aR false true (iL (10:Int) (IntKind.wrap .i64 (Int.ofNat (List.length (n.latches.map aB))+cw n)))=true:=by rw[w];exact al h2
    exact⟨af c1 (ao (cI (al hc)) (ao i1 (af d1 (av i2 rfl)))),af c2 (ao (cI (al hc)) (ao i1 (af d2 (av i2 rfl))))⟩
   .rw[if_neg h2];have i2:aR false true (iL (10:Int) (IntKind.wrap .i64 (Int.ofNat (List.length (n.latches.map aB))+cw n)))=false:=by rw[w];exact aw h2
    exact⟨af c1 (ao (cI (al hc)) (ao i1 (af d1 (ao i2 rfl)))),af c2 (ao (cI (al hc)) (ao i1 (af d2 (ao i2 rfl))))⟩
 .rw[if_pos hc];exact⟨af c1 (av (fg (aw hc)) rfl),af c2 (av (fg (aw hc)) rfl)⟩
structure eY(n:au)(V:Nat):Prop where
 hs:bo n V
 h0:ca n=0
 ha:de (aF n) V=true
 hc:Pl.bP n=0
 ins:n.inputs.length<=6
 wd:bq n=(wid n:Int)
 w10:wid n<=10
 sm:∀m∈n.mems,Small m
 off:n.latches.length+jC n.mems=wid n
theorem afd{n:au}(h:lK n=0):∃V,eY n V:=by
 unfold lK at h;by_cases hc:Pl.bP n=0
 .rw[if_neg (fun q=>q hc)]at h;by_cases h1:6<n.inputs.length
  .rw[if_pos h1]at h;omega
  rw[if_neg h1]at h;by_cases h2:10<bq n
  .rw[if_pos h2]at h;omega
  obtain⟨V,hs,h0,ha⟩:=O7 hc;have hr:=Pj n;have hw:bq n=(wid n:Int):=by unfold wid;unfold bq;omega
  have hcl:cw n=fK (cT n.mems):=by unfold cw;rw[if_neg (fun q=>q hc)]
  have hsm:=DT hs (by rw[<-hcl];unfold bq at h2;omega);have hsum:((jC n.mems:Nat):Int)=cT n.mems:=PR n.mems 0 hsm;have hcs:cw n=cT n.mems:=by
   rw[hcl];have:cw n<=10:=by unfold bq at h2;omega
   rw[hcl]at this;unfold fK at this |-;split at this
   .omega
   .rename_i q;rw[if_neg q]
  refine⟨V,hs,h0,ha,hc,by omega,hw,by omega,hsm,?_⟩;unfold bq at hw;omega
 .rw[if_pos hc]at h;exact absurd h hc
def bu(n:au)(k:Nat):List Bool×List (List aD):=(jS n (bh k (wid n)) []).2
def iS(n:au)(k:Nat):bZ.T:=((bu n k).1,((bu n k).2,()))
def jA(n:au)(k:Nat):Bool:=decide (jQ (aQ n) (bu n k).1 (bu n k).2=0)
def eK(n:au)(k:Nat):List Nat:=(List.range k).filter (jA n)
def fT(n:au)(k:Nat):List bZ.T:=(eK n k).map (iS n)
theorem DA(n:au)(k:Nat):eK n (k+1)=eK n k++(if jA n k=true then[k]else[]):=by unfold eK;rw[List.range_succ,List.filter_append];congr 1;cases h:jA n k<;>simp[h]
theorem DJ(n:au)(k:Nat):(eK n k).length<=k:=by have:=List.length_filter_le (jA n) (List.range k);rw[List.length_range]at this;exact this
section
variable{n:au}{V:Nat}(t:eY n V)
include t
theorem vQ(k:Nat):jS n (bh k (wid n)) []=(0,((bh k (wid n)).take n.latches.length,dV n ((bh k (wid n)).drop n.latches.length) n.mems.length)):=by unfold jS;have h1:=t.wd;have h2:=t.w10;unfold bq at h1;rw[if_neg (fun q=>q t.hc),if_neg (by omega),if_pos ⟨by rw[eZ];omega,rfl⟩]
theorem D8(k:Nat):(bu n k).1.length=n.latches.length/\(bu n k).2.length=n.mems.length/\∀c∈(bu n k).2,c.length<=64:=by
 unfold bu;rw[vQ t k];have h1:=t.off;refine⟨?_,DV _ _ _,?_⟩
 .show((bh k (wid n)).take n.latches.length).length=_;rw[List.length_take,eZ];omega
 .intro c hc;have hc:c∈dV n ((bh k (wid n)).drop n.latches.length) n.mems.length:=hc;unfold dV at hc;obtain⟨i,hi,rfl⟩:=List.mem_map.1 hc;have hi:=List.mem_range.1 hi;have hx:=List.getElem?_eq_getElem hi;have hg:n.mems.getD i mz=n.mems[i]:=by rw[List.getD_eq_getElem?_getD,hx];rfl
  rw[hg];exact Nat.le_trans (DU _ _ _) (t.sm _ (List.getElem_mem hi)).cnt
theorem Et(k:Nat):lG (bu n k).2:=by
 unfold bu;rw[vQ t k];intro c hc i hi;have hc:c∈dV n ((bh k (wid n)).drop n.latches.length) n.mems.length:=hc;unfold dV at hc;obtain⟨j,hj,rfl⟩:=List.mem_map.1 hc;have hj:=List.mem_range.1 hj;have hx:=List.getElem?_eq_getElem hj;have hg:n.mems.getD j mz=n.mems[j]:=by rw[List.getD_eq_getElem?_getD,hx];rfl
 rw[hg]at hi |-;have sm:=t.sm _ (List.getElem_mem hj);have hcn:=sm.cnt;have w2:=sm.w2;obtain⟨p,hp⟩:∃p,(fS n.mems[j].word.toNat (((bh k (wid n)).drop n.latches.length).drop (cF n j)) (2^n.mems[j].addr.toNat))[i]?=some p:=⟨_,List.getElem?_eq_getElem hi⟩;obtain⟨e1,e2⟩:=PA hp;rw[e1,e2];have hm:=List.mem_of_getElem? hp;unfold fS at hm;obtain⟨a,ha,hm⟩:=List.mem_flatMap.1 hm;have ha:=List.mem_range.1 ha;split at hm
 .cases hm
 .obtain rfl:=List.mem_singleton.1 hm;have hlt:=me (((((bh k (wid n)).drop n.latches.length).drop (cF n j)).drop (a*n.mems[j].word.toNat)).take n.mems[j].word.toNat);have h64:(2:Nat)^(((((bh k (wid n)).drop n.latches.length).drop (cF n j)).drop (a*n.mems[j].word.toNat)).take n.mems[j].word.toNat).length<=2^64:=Nat.pow_le_pow_right (by omega) (by rw[List.length_take];omega);have h65:(2:Nat)^64=18446744073709551616:=rfl;refine⟨⟨?_,?_⟩,⟨?_,?_⟩⟩
  .show(0:Int)<=(a:Int);omega
  .show(a:Int)<=18446744073709551615;omega
  .show(0:Int)<=((cellAt _ _ _:Nat):Int);omega
  .show((cellAt n.mems[j].word.toNat (((bh k (wid n)).drop n.latches.length).drop (cF n j)) a:Nat):Int)<=18446744073709551615;unfold cellAt;omega
variable(ft:Fit n)
include ft
theorem ace(k:Nat):Lg (aQ n,(((bu n k).1,((bu n k).2,())),()))=some (jQ (aQ n) (bu n k).1 (bu n k).2,())/\Yk (aQ n,(((bu n k).1,((bu n k).2,())),()))=some (jQ (aQ n) (bu n k).1 (bu n k).2,()):=by
 have ft':Fit (df (aQ n)):=by rw[jP];exact ft
 have hT:List.length (aQ n).2.2.2.2.2.2.1<=100000:=by show(n.mems.map ak).length<=_;rw[List.length_map];have:=ft.mems.1;omega
 have hL:List.length (aQ n).2.2.1<=100000:=by show(n.latches.map aB).length<=_;rw[List.length_map];have:=ft.lat.1;omega
 exact⟨ag1 (aQ n) _ _ ft' hL hT,ag5 (aQ n) _ _ ft' hL hT (Et t k)⟩
end
section
variable{n:au}{V:Nat}
theorem Q4{k:Nat}(hk:k<=1024):IntKind.wrap .u64 (k:Int)=(k:Int):=f8 (by omega)
end
section
variable{n:au}{V:Nat}(t:eY n V)
variable(ft:Fit n)
include t
include ft
theorem Ph{k:Nat}(hk:k<=1024):vd (aQ n,((bh k (wid n),([],())),()))=some (iS n k,((0:Int),()))/\Nl (aQ n,((bh k (wid n),([],())),()))=some (iS n k,((0:Int),())):=by
 have h2:=t.w10;obtain⟨b1,b2⟩:=acw ft (bh k (wid n)) [] (by rw[eZ];omega);have e:(jS n (bh k (wid n)) []).1=0:=by rw[vQ t k]
 rw[e]at b1 b2;exact⟨b1,b2⟩
end
section
variable{n:au}{V:Nat}(t:eY n V)
include t
theorem mV:(2:Nat)^wid n<=1024:=Nat.pow_le_pow_right (n:=2) (by omega) t.w10
end
section
variable{n:au}{V:Nat}(t:eY n V)
include t
theorem afF:IntKind.wrap .i64 ((1:Int)*(HPow.hPow (2:Int) (Min.min (Int.toNat (bq n)) 64)))=((2^wid n:Nat):Int):=by
 have h:=mV t;have h2:=t.w10;rw[t.wd,Int.toNat_natCast,Nat.min_eq_left (by omega),Int.one_mul];have:(2:Int)^wid n=((2^wid n:Nat):Int):=by push_cast;rfl
 rw[this];exact(show ∀N:Nat,N<=1024->IntKind.wrap .i64 (N:Int)=(N:Int)from fun N h=>bf (by omega)) _ h
end
section
variable{n:au}{V:Nat}
theorem afS{L:List bZ.T}{x:bZ.T}(h:L.length<=100000):room 48 (List.length (L++(x::[])))=true:=jj (by omega) (by omega)
end
section
variable{n:au}{V:Nat}(t:eY n V)
variable(ft:Fit n)
include t
include ft
theorem acT:abp (aQ n,())=some (fT n (2^wid n),((0:Int),())):=by
 have hp:=mV t;have h2:=t.w10;have hsm:lK n=0:=by unfold lK;have:=t.ins;rw[if_neg (fun q=>q t.hc),if_neg (by omega),if_neg (by rw[t.wd];omega)]
 have s0:=(adP ft).1;rw[hsm]at s0;have d1:=qJ ft;have e6:C1 (((2^wid n:Nat):Int),((0:Int),nt n ([],nt n (bq n,()))))=some (fT n (2^wid n),()):=by
  unfold C1;delta kH;refine bN (fun k:Nat=>(((2^wid n:Nat):Int),((k:Int),nt n (fT n k,nt n (bq n,()))))) (2^wid n) rfl ?_ ?_ (aW (by omega))
  .intro k hk;have e1:jw (IntKind.wrap .u64 (k:Int),(bq n,()))=some (bh k (wid n),()):=by rw[Q4 (by omega),t.wd];exact qI k (wid n) (by omega) (by omega)
   have b:=(Ph t ft (k:=k) (by omega)).1;have l:=(ace t ft k).1;have hl:=DJ n k;have hr:room 48 (List.length (fT n k++[iS n k]))=true:=afS (by unfold fT;rw[List.length_map];omega);have e:∀(p q:Int) (A B:List bZ.T),p=q->A=B->(some (.inl (((2^wid n:Nat):Int),(p,nt n (A,nt n (bq n,()))))):Option (TL uU.σs⊕Out uQ))=some (.inl (((2^wid n:Nat):Int),(q,nt n (B,nt n (bq n,()))))):=by rintro _ _ _ _ rfl rfl;rfl
   have hk1:IntKind.wrap .i64 ((k:Int)+1)=((k+1:Nat):Int):=aZ (x:=(k:Int)+1) (n:=k+1) (by omega) (by omega);have hst:fT n (k+1)=fT n k++(if jA n k=true then[iS n k]else[]):=by unfold fT;rw[DA,List.map_append];congr 1;split<;>rfl
   by_cases q:jQ (aQ n) (bu n k).1 (bu n k).2=0
   .have hb:jA n k=true:=decide_eq_true q;rw[if_pos hb]at hst;exact av (al (show(k:Int)<((2^wid n:Nat):Int) by omega)) (af e1 (af b (aj (al rfl) (af l (av (al q) (aj hr (e _ _ _ _ hk1 hst.symm)))))))
   .have hb:¬jA n k=true:=fun r=>q (of_decide_eq_true r);rw[if_neg hb,List.append_nil]at hst;exact av (al (show(k:Int)<((2^wid n:Nat):Int) by omega)) (af e1 (af b (aj (al rfl) (af l (ao (aw q) (e _ _ _ _ hk1 hst.symm))))))
  .exact ao (aw (show ¬((2^wid n:Nat):Int)<((2^wid n:Nat):Int) by omega)) rfl
 have w:=Ez ft;have e6':C1 (IntKind.wrap .i64 ((1:Int)*(HPow.hPow (2:Int) (Min.min (Int.toNat (IntKind.wrap .i64 (Int.ofNat (List.length (n.latches.map aB))+cw n))) 64))),((0:Int),nt n ([],nt n (IntKind.wrap .i64 (Int.ofNat (List.length (n.latches.map aB))+cw n),()))))=some (fT n (2^wid n),()):=by rw[w,afF t];exact e6
 have hchk:iE (0:Int) (IntKind.wrap .i64 (Int.ofNat (List.length (n.latches.map aB))+cw n))=true:=by rw[w,t.wd];exact al (by omega)
 exact af s0 (ao (cI (al rfl)) (af d1 (aj hchk (af e6' rfl))))
end
end Go.Proofs.YtkcpdpplobhpaaaGreat.V
end
