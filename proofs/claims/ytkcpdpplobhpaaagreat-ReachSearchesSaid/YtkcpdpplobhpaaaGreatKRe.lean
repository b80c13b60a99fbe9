import Derived.Test.YtkcpdpplobhpaaaGreatKRb
import Derived.Test.YtkcpdpplobhpaaaGreatKRd
set_option linter.unusedVariables false
set_option linter.unusedSimpArgs false
set_option linter.unnecessarySimpa false
section
namespace Go.Proofs.YtkcpdpplobhpaaaGreat.V
open Go Go.RowKit
set_option maxRecDepth 1000000
abbrev Tx:Lay:={ T:=[(0,.ptr 0 0),(1,.agg [.fz .bool,.fz (.sl ar)])],h:=[(0,.cells [.int .i64,.fz (.int .i64),.fz ae,.fz (.int .i64),.fz (.int .i64),.fz (.int .i64),.fz ab,.fz ae,.fz au,.hd 1 .bool,.dw 2] 145),(1,.arr .bool 4),(2,.dm 220)],nx:=3 }
abbrev y1:List (Ev.Ex×Lay):=[(.ret,{ T:=[(0,.int .i64)],h:=[(0,.cells [.int .i64,.fz (.int .i64),.fz ae,.fz (.int .i64),.fz (.int .i64),.fz (.int .i64),.fz ab,.fz ae,.fz au,.hd 3 .bool,.dw 4] 145),(3,.arr .bool 4),(4,.dm 220)],nx:=5 })]
abbrev Hv:=TL Tx.σs->Option (Out y1)
abbrev y5:=Kb 217 2 Tx 1 y1
def aey(F0:tp)(F1:ti)(F2:Du)(iM:List Bool)(gD:List (List (Sh.T ar)))(aC:Int)(aB:List Int)(aG:List (Sh.T ae))(aH aI aJ:List Int)(aw:List (Sh.T ab))(aE:List (Sh.T ae))(cE:List (Sh.T au))(b1:List Bool)(b2:List (Sh.T (.agg [(.int .i64),(.int .i64),(.sl ar)]))):Option (Out y1):=
 aj (F2 (aC,(aB,(aG,(aH,(aI,(aJ,(aw,(aE,(iM,(gD,()))))))))))) fun x0=>
 br (Bool.not (iQ x0.1 (0:Int)))
 (
  some (x0.1,(aC,(aB,(aG,(aH,(aI,(aJ,(aw,(aE,(cE,(b1,(b2,())))))))))))))
 (
  aj (F1 (iM,())) fun x1=>
  some ((0:Int),(aC,(aB,(aG,(aH,(aI,(aJ,(aw,(aE,(cE,(x1.1,(x0.2.1,())))))))))))))
def aez(c0:tt)(c1:tj)(c2:wB) :y5:=⟨gZ (aey c0.F c1.F c2.F),pB Tryz.func217 31 (kB c0 (kB c1 (kB c2 k0))) e0 1 (sS l0) fun d=>by kernel_rfl⟩
def Hu:y5:=aez tq rh Dv
def TB:Hv:=Hu.F
abbrev Bq:Lay:={ T:=[(0,.fz .bool),(1,.bool),(7,.int .i64),(8,.int .i64)],h:=[],nx:=0 }
abbrev Bp:List (Ev.Ex×Lay):=[(.ret,{ T:=[(4,.int .i64)],h:=[],nx:=0 }),((.exit 0),{ T:=[],h:=[],nx:=0 })]
abbrev ZK:=TL Bq.σs->Option (Out Bp)
abbrev ZM:=Ld 0 19 (bp [0] (aU Tryz.f218)) Bq Bp
def wb(t0:List Bool)(t1:Bool)(t7 t8:Int):Option (TL Bq.σs⊕Out Bp):=
 br (iL t8 t7)
 (
  ah (aq t8 (List.length t0))<|
  br (@decide _ (Bool.decEq t1 (gt .bool t0 t8)))
  (
   some (.inr (.inl (t8,()))))
  (
   some (.inl (t0,(t1,(t7,((IntKind.wrap .i64 (t8+(1:Int))),())))))))
 (
  some (.inr (.inr ())))
def amA  :ZM:=bu (u4 wb) (pL k0 e0 1 l0 fun d=>by kernel_rfl)
def Lg:ZK:=aQ (u4 wb) NN
abbrev ZJ:List Sh:=[(.sl .bool),.bool]
abbrev Lf:List Sh:=[(.int .i64)]
abbrev Li:=TL ZJ->Option (TL Lf)
abbrev Bw:=Kd 218 ZJ Lf
def amE(L2:ZK)(a0:List Bool)(a1:Bool):Option (TL Lf):=
 aj (L2 (a0,(a1,((Int.ofNat (List.length a0)),((0:Int),()))))) fun x0=>
 (match x0 with|.inl x1=>some (x1.1,())|.inr x1=>some ((Int.negSucc 0),())
 )
def amD(M2:ZM):Bw:=⟨u2 (amE M2.L),pD Tryz.func218 19 k0 e0 1 (sS (sC M2 l0)) fun d=>by kernel_rfl⟩
def Lj:Bw:=amD  amA
def ZL:Li:=Lj.F
abbrev T4:List Sh:=[ba]
abbrev Ic:List Sh:=[(.int .i64)]
abbrev Ub:=TL T4->Option (TL Ic)
abbrev Ik:=Kd 51 T4 Ic
def ae2(F0:sE)(F1:rm)(a0:Sh.T ba):Option (TL Ic):=
 aj (F1 (a0,())) fun x0=>
 br (Bool.not (iQ x0.1 (0:Int)))
 (
  some (x0.1,()))
 (
  br (iL (6:Int) (Int.ofNat (List.length a0.2.1)))
  (
   some ((17:Int),()))
  (
   aj (F0 (a0,())) fun x1=>
   br (aV false true (iL (10:Int) (IntKind.wrap .i64 (@HAdd.hAdd (Int) (Int) (Int) _ (Int.ofNat (List.length a0.2.2.1)) x1.1))))
   (
    some ((17:Int),()))
   (
    some ((0:Int),()))))
def ae3(c0:qH)(c1:pW) :Ik:=⟨u1 (ae2 c0.F c1.F),pD Tryz.func51 22 (kD c0 (kD c1 k0)) e0 1 (sS l0) fun d=>by kernel_rfl⟩
def Ua:Ik:=ae3 sD rn
def aeV:Ub:=Ua.F
abbrev zf:Lay:={ T:=[(1,.ptr 0 0),(2,.hd 1 cr),(5,.ptr 2 0),(26,.int .i64),(27,.int .i64)],h:=[(0,.cells ej 27),(1,.arr cr 40),(2,.cells [.int .i64,.fz (.int .i64),.fz ae,.fz (.int .i64),.fz (.int .i64),.fz (.int .i64),.fz ab,.fz ae,.int .i64,.fl,.bJ,.dJ] 100)],nx:=3 }
abbrev za:List (Ev.Ex×Lay):=[((.exit 0),{ T:=[(2,.hd 0 cr)],h:=[(0,.arr cr 40)],nx:=1 })]
abbrev TR:=TL zf.σs->Option (Out za)
abbrev HU:=Ld 0 43 (bp [0] (aU Tryz.f15)) zf za
def TP(F0:vf)(F1:oQ)(F2:NS)(t26 t27 aC:Int)(aB:List Int)(aG:List (Sh.T ae))(aH aI aJ:List Int)(aw:List (Sh.T ab))(aE:List (Sh.T ae))(b1:List (Sh.T cr))(cd:Int)(cp:List Int)(cH:List (Sh.T ae))(cI cJ cK:List Int)(cL:List (Sh.T ab))(cM:List (Sh.T ae))(OO:Int):Option (TL zf.σs⊕Out za):=
 br (iL t27 t26)
 (
  aj (F1 ((IntKind.wrap .u64 t27),(OO,()))) fun x0=>
  aj (F0 ((cd,(cp,(cH,(cI,(cJ,(cK,(cL,(cM,())))))))),((x0.1,([],())),()))) fun x1=>
  ah (iQ x1.2.1 x1.2.1)<|
  aj (F2 ((aC,(aB,(aG,(aH,(aI,(aJ,(aw,(aE,())))))))),((x1.1.1,(x1.1.2.1,())),()))) fun x2=>
  br (iQ x2.1 (0:Int))
  (
   ah (room 48 (List.length (ap b1 ((x1.1.1,(x1.1.2.1,()))::[]))))<|
   some (.inl (t26,((IntKind.wrap .i64 (t27+(1:Int))),(aC,(aB,(aG,(aH,(aI,(aJ,(aw,(aE,((ap b1 ((x1.1.1,(x1.1.2.1,()))::[])),(cd,(cp,(cH,(cI,(cJ,(cK,(cL,(cM,(OO,()))))))))))))))))))))))
  (
   some (.inl (t26,((IntKind.wrap .i64 (t27+(1:Int))),(aC,(aB,(aG,(aH,(aI,(aJ,(aw,(aE,(b1,(cd,(cp,(cH,(cI,(cJ,(cK,(cL,(cM,(OO,())))))))))))))))))))))))
 (
  some (.inr (b1,())))
def aeI(c0:sG)(c1:nU)(c2:Dj) :HU:=bu (lT (TP c0.F c1.F c2.F)) (pL (kD c0 (kD c1 (kD c2 k0))) (eC Tryz.func53 (by kernel_rfl) e0) 5 l0 fun d=>by kernel_rfl)
def aeJ:HU:=aeI ve oR NT
def H0:TR:=aQ (lT (TP zp mV QH)) NN
abbrev TS:List Sh:=[ba]
abbrev H2:List Sh:=[(.sl cr),(.int .i64)]
abbrev TX:=TL TS->Option (TL H2)
abbrev H9:=Kd 15 TS H2
def aeR(F0:vf)(F1:oQ)(F2:NS)(F3:sE)(F4:Ub)(L6:TR)(a0:Sh.T ba):Option (TL H2):=
 aj (F4 (a0,())) fun x0=>
 br (Bool.not (iQ x0.1 (0:Int)))
 (
  some ([],(x0.1,())))
 (
  aj (F3 (a0,())) fun x1=>
  ah (iE (0:Int) (IntKind.wrap .i64 (@HAdd.hAdd (Int) (Int) (Int) _ (Int.ofNat (List.length a0.2.2.1)) x1.1)))<|
  aj (L6 ((IntKind.wrap .i64 ((1:Int)*(HPow.hPow (2:Int) (Min.min (Int.toNat (IntKind.wrap .i64 (@HAdd.hAdd (Int) (Int) (Int) _ (Int.ofNat (List.length a0.2.2.1)) x1.1))) 64)))),((0:Int),(a0.1,(a0.2.1,(a0.2.2.1,(cQ a0,(cR a0,(cX a0,(cT a0,(dc a0,([],(a0.1,(a0.2.1,(a0.2.2.1,(cQ a0,(cR a0,(cX a0,(cT a0,(dc a0,((IntKind.wrap .i64 (@HAdd.hAdd (Int) (Int) (Int) _ (Int.ofNat (List.length a0.2.2.1)) x1.1)),()))))))))))))))))))))) fun x2=>
  some (x2.1,((0:Int),())))
def aeS(c0:sG)(c1:nU)(c2:Dj)(c3:qH)(c4:Ik)(M6:HU):H9:=⟨u1 (aeR c0.F c1.F c2.F c3.F c4.F M6.L),pD Tryz.func15 43 (kD c0 (kD c1 (kD c2 (kD c3 (kD c4 k0))))) (eC Tryz.func53 (by kernel_rfl) e0) 5 (sS (sC M6 l0)) fun d=>by kernel_rfl⟩
def TW:H9:=aeS ve oR NT sD Ua aeJ
def TQ:TX:=TW.F
abbrev TT:Lay:={ T:=[(0,.agg ej)],h:=[],nx:=0 }
abbrev xp:List (Nat×LO):=[(0,.cells [.int .i64,.fz (.int .i64),.fz ae,.fz (.int .i64),.fz (.int .i64),.fz (.int .i64),.fz ab,.fz ae,.int .i64,.mp 1,.hd 2 (.int .i64),.ptr 3 0] 100),(1,.map .i64 gj),(2,.arr (.int .i64) 3),(3,.cells [.int .i64,.fz (.int .i64),.fz ae,.fz (.int .i64),.fz (.int .i64),.fz (.int .i64),.fz ab,.fz ae,.fz au,.hd 4 .bool,.dw 5] 145),(4,.arr .bool 4),(5,.dm 220)]
abbrev Pc:List (Nat×LO):=[(0,.cells [.int .i64,.fz (.int .i64),.fz ae,.fz (.int .i64),.fz (.int .i64),.fz (.int .i64),.fz ab,.fz ae,.int .i64,.mp 1,.hd 2 (.int .i64),.ptr 3 0] 100),(1,.map .i64 gj),(2,.arr (.int .i64) 3),(3,.cells [.int .i64,.fz (.int .i64),.fz ae,.fz (.int .i64),.fz (.int .i64),.fz (.int .i64),.fz ab,.fz ae,.fz au,.hd 6 .bool,.dw 7] 145),(6,.arr .bool 4),(7,.dm 220),(8,.cells [.int .i64,.int .i64] 108),(9,.arr (.int .i64) 3)]
abbrev Pd:List (Nat×LO):=[(0,.cells [.int .i64,.fz (.int .i64),.fz ae,.fz (.int .i64),.fz (.int .i64),.fz (.int .i64),.fz ab,.fz ae,.int .i64,.mp 1,.hd 6 (.int .i64),.ptr 3 0] 100),(1,.map .i64 gj),(3,.cells [.int .i64,.fz (.int .i64),.fz ae,.fz (.int .i64),.fz (.int .i64),.fz (.int .i64),.fz ab,.fz ae,.fz au,.hd 7 .bool,.dw 8] 145),(6,.arr (.int .i64) 3),(7,.arr .bool 4),(8,.dm 220),(9,.cells [.int .i64,.int .i64] 108)]
abbrev adv:Lay:={ T:=[(2,.ptr 8 0),(3,.int .i64),(4,.bool)],h:=[(0,.cells [.int .i64,.fz (.int .i64),.fz ae,.fz (.int .i64),.fz (.int .i64),.fz (.int .i64),.fz ab,.fz ae,.int .i64,.mp 1,.hd 2 (.int .i64),.ptr 3 0] 100),(1,.map .i64 gj),(2,.arr (.int .i64) 3),(3,.cells [.int .i64,.fz (.int .i64),.fz ae,.fz (.int .i64),.fz (.int .i64),.fz (.int .i64),.fz ab,.fz ae,.fz au,.hd 6 .bool,.dw 7] 145),(6,.arr .bool 4),(7,.dm 220),(8,.cells [.int .i64,.int .i64] 108)],nx:=9 }
abbrev adw:List (Nat×LO):=[(0,.cells [.int .i64,.fz (.int .i64),.fz ae,.fz (.int .i64),.fz (.int .i64),.fz (.int .i64),.fz ab,.fz ae,.int .i64,.mp 1,.hd 6 (.int .i64),.ptr 3 0] 100),(1,.map .i64 gj),(3,.cells [.int .i64,.fz (.int .i64),.fz ae,.fz (.int .i64),.fz (.int .i64),.fz (.int .i64),.fz ab,.fz ae,.fz au,.hd 7 .bool,.dw 8] 145),(6,.arr (.int .i64) 3),(7,.arr .bool 4),(8,.dm 220)]
abbrev adx:Lay:={ T:=[(0,.ptr 0 0),(2,.ptr 8 0),(5,.hd 9 (.int .i64)),(6,.func 187 [.ptr 0 0] []),(20,.hd 2 (.int .i64)),(21,.int .i64),(22,.int .i64)],h:=Pc,nx:=10 }
abbrev Eb:List (Nat×LO):=[(0,.cells ej 27),(1,.arr .bool 4),(2,.arr .bool 4)]
abbrev Pe:List (Nat×LO):=[(0,.arr .bool 4),(1,.cells ej 27),(2,.cells [.fz .bool,.fz (.sl ar)] 40)]
abbrev HA:List (Ev.Ex×Lay):=[(.ret,{ T:=[(0,.dJ),(1,.int .i64)],h:=[],nx:=0 }),(.ret,{ T:=[(0,.ptr 0 0),(1,.int .i64)],h:=xp,nx:=6 })]
abbrev T9:=TL TT.σs->Option (Out HA)
abbrev Ij:=Kb 59 1 TT 2 HA
abbrev zi:Lay:={ T:=[(5,.int .i64),(6,.ptr 0 0),(38,.fz cr),(39,.int .i64),(40,.int .i64)],h:=xp,nx:=6 }
abbrev zg:List (Ev.Ex×Lay):=[((.exit 0),{ T:=[(5,.int .i64),(6,.ptr 0 0)],h:=xp,nx:=6 })]
abbrev T3:=TL zi.σs->Option (Out zg)
abbrev Ia:=Ld 0 66 (bp [0] (aU Tryz.f59)) zi zg
def TY(F0:qJ)(F4:vc)(t5:Int)(t38:List (Sh.T cr))(t39 t40 aC:Int)(aB:List Int)(aG:List (Sh.T ae))(aH aI aJ:List Int)(aw:List (Sh.T ab))(aE:List (Sh.T ae))(cE:Int)(b1:List (Sh.T (.agg [(.int .i64),gj])))(b2:List Int)(iG:Int)(dq:List Int)(iH:List (Sh.T ae))(iI gL ku:List Int)(kv:List (Sh.T ab))(kz:List (Sh.T ae))(kC:List (Sh.T au))(b4:List Bool)(b5:List (Sh.T (.agg [(.int .i64),(.int .i64),(.sl ar)]))):Option (TL zi.σs⊕Out zg):=
 br (iL t40 t39)
 (
  ah (aq t40 (List.length t38))<|
  aj (F4 (aC,(aB,(aG,(aH,(aI,(aJ,(aw,(aE,((gt cr t38 t40).1,((gt cr t38 t40).2.1,()))))))))))) fun x0=>
  ah (iQ x0.1 x0.1)<|
  aj (F0 (x0.2.1,())) fun x1=>
  ah (room 8 (List.length (ap b2 ((IntKind.wrap .i64 x1.1)::[]))))<|
  some (.inl (t5,(t38,(t39,((IntKind.wrap .i64 (t40+(1:Int))),(aC,(aB,(aG,(aH,(aI,(aJ,(aw,(aE,(cE,((@dR gj (IntKind.wrap .i64 x1.1) ((Int.negSucc 0),((0:Int),())) b1),((ap b2 ((IntKind.wrap .i64 x1.1)::[])),(iG,(dq,(iH,(iI,(gL,(ku,(kv,(kz,(kC,(b4,(b5,()))))))))))))))))))))))))))))
 (
  some (.inr (t5,(aC,(aB,(aG,(aH,(aI,(aJ,(aw,(aE,(cE,(b1,(b2,(iG,(dq,(iH,(iI,(gL,(ku,(kv,(kz,(kC,(b4,(b5,())))))))))))))))))))))))))
def aeT(c0:pz)(c4:sF) :Ia:=bu (fun d=>TY c0.F c4.F  d.1 d.2.1 d.2.2.1 d.2.2.2.1 d.2.2.2.2.1 d.2.2.2.2.2.1 d.2.2.2.2.2.2.1 d.2.2.2.2.2.2.2.1 d.2.2.2.2.2.2.2.2.1 d.2.2.2.2.2.2.2.2.2.1 d.2.2.2.2.2.2.2.2.2.2.1 d.2.2.2.2.2.2.2.2.2.2.2.1 d.2.2.2.2.2.2.2.2.2.2.2.2.1 d.2.2.2.2.2.2.2.2.2.2.2.2.2.1 d.2.2.2.2.2.2.2.2.2.2.2.2.2.2.1 d.2.2.2.2.2.2.2.2.2.2.2.2.2.2.2.1 d.2.2.2.2.2.2.2.2.2.2.2.2.2.2.2.2.1 d.2.2.2.2.2.2.2.2.2.2.2.2.2.2.2.2.2.1 d.2.2.2.2.2.2.2.2.2.2.2.2.2.2.2.2.2.2.1 d.2.2.2.2.2.2.2.2.2.2.2.2.2.2.2.2.2.2.2.1 d.2.2.2.2.2.2.2.2.2.2.2.2.2.2.2.2.2.2.2.2.1 d.2.2.2.2.2.2.2.2.2.2.2.2.2.2.2.2.2.2.2.2.2.1 d.2.2.2.2.2.2.2.2.2.2.2.2.2.2.2.2.2.2.2.2.2.2.1 d.2.2.2.2.2.2.2.2.2.2.2.2.2.2.2.2.2.2.2.2.2.2.2.1 d.2.2.2.2.2.2.2.2.2.2.2.2.2.2.2.2.2.2.2.2.2.2.2.2.1 d.2.2.2.2.2.2.2.2.2.2.2.2.2.2.2.2.2.2.2.2.2.2.2.2.2.1) (pL (kD c0 (kB c4 k0)) (eC Tryz.func118 (by kernel_rfl) e0) 5 l0 fun d=>by kernel_rfl)
def aeU:Ia:=aeT qI vb
def Ib:T3:=aQ (fun d=>TY vh zm  d.1 d.2.1 d.2.2.1 d.2.2.2.1 d.2.2.2.2.1 d.2.2.2.2.2.1 d.2.2.2.2.2.2.1 d.2.2.2.2.2.2.2.1 d.2.2.2.2.2.2.2.2.1 d.2.2.2.2.2.2.2.2.2.1 d.2.2.2.2.2.2.2.2.2.2.1 d.2.2.2.2.2.2.2.2.2.2.2.1 d.2.2.2.2.2.2.2.2.2.2.2.2.1 d.2.2.2.2.2.2.2.2.2.2.2.2.2.1 d.2.2.2.2.2.2.2.2.2.2.2.2.2.2.1 d.2.2.2.2.2.2.2.2.2.2.2.2.2.2.2.1 d.2.2.2.2.2.2.2.2.2.2.2.2.2.2.2.2.1 d.2.2.2.2.2.2.2.2.2.2.2.2.2.2.2.2.2.1 d.2.2.2.2.2.2.2.2.2.2.2.2.2.2.2.2.2.2.1 d.2.2.2.2.2.2.2.2.2.2.2.2.2.2.2.2.2.2.2.1 d.2.2.2.2.2.2.2.2.2.2.2.2.2.2.2.2.2.2.2.2.1 d.2.2.2.2.2.2.2.2.2.2.2.2.2.2.2.2.2.2.2.2.2.1 d.2.2.2.2.2.2.2.2.2.2.2.2.2.2.2.2.2.2.2.2.2.2.1 d.2.2.2.2.2.2.2.2.2.2.2.2.2.2.2.2.2.2.2.2.2.2.2.1 d.2.2.2.2.2.2.2.2.2.2.2.2.2.2.2.2.2.2.2.2.2.2.2.2.1 d.2.2.2.2.2.2.2.2.2.2.2.2.2.2.2.2.2.2.2.2.2.2.2.2.2.1) NN
def ae0(F0:qJ)(F1:abS)(F2:sE)(F3:TX)(F4:vc)(F5:acp)(L7:T3)(dK:Int)(gB:List Int)(fV:List (Sh.T ae))(ig ij ik:List Int)(eO:List (Sh.T ab))(gO:List (Sh.T ae)):Option (Out HA):=
 aj (F3 ((dK,(gB,(fV,(ig,(ij,(ik,(eO,(gO,())))))))),())) fun x0=>
 br (Bool.not (iQ x0.2.1 (0:Int)))
 (
  some (.inl (x0.2.1,())))
 (
  aj (F2 ((dK,(gB,(fV,(ig,(ij,(ik,(eO,(gO,())))))))),())) fun x1=>
  aj (F1 ((dK,(gB,(fV,(ig,(ij,(ik,(eO,(gO,())))))))),())) fun x2=>
  aj (F5 (dK,(gB,(fV,(ig,(ij,(ik,(eO,(gO,(x2.1.1,(x2.1.2.1,()))))))))))) fun x3=>
  (match x3 with
  |.inl x4=>
   ah (iQ x4.1 x4.1)<|
   none
  |.inr x4=>
   ah (iQ x4.1 x4.1)<|
   aj (L7 (x4.1,(x0.1,((Int.ofNat (List.length x0.1)),((0:Int),(dK,(gB,(fV,(ig,(ij,(ik,(eO,(gO,((IntKind.wrap .i64 (@HAdd.hAdd (Int) (Int) (Int) _ (Int.ofNat (List.length fV)) x1.1)),([],([],x4.2)))))))))))))))) fun x5=>
   some (.inr x5)
  ))
def ae1(c0:pz)(c1:NI)(c2:qH)(c3:H9)(c4:sF)(c5:Om)(M7:Ia):Ij:=⟨u8 (ae0 c0.F c1.F c2.F c3.F c4.F c5.F M7.L),pB Tryz.func59 66 (kD c0 (kD c1 (kD c2 (kD c3 (kB c4 (kB c5 k0)))))) (eC Tryz.func118 (by kernel_rfl) e0) 5 (sS (sC M7 l0)) fun d=>by kernel_rfl⟩
def T8:Ij:=ae1 qI abT sD TW vb acq aeU
def TZ:T9:=T8.F
abbrev SC:Lay:={ T:=[(0,.ptr 0 0)],h:=xp,nx:=6 }
abbrev Gv:List (Ev.Ex×Lay):=[(.ret,{ T:=[(0,.agg [.int .i64,.int .i64]),(1,.int .i64),(2,.bool)],h:=adw,nx:=9 })]
abbrev Hk:=TL SC.σs->Option (Out Gv)
abbrev y0:=Kb 119 1 SC 3 Gv
abbrev yR:Lay:=adx
abbrev si:List (Ev.Ex×Lay):=[(.ret,adv),((.exit 0),{ T:=[(0,.ptr 0 0),(2,.ptr 8 0),(5,.hd 9 (.int .i64))],h:=Pc,nx:=10 })]
abbrev Ta:=TL yR.σs->Option (Out si)
abbrev G6:=Ld 6 84 (bp [0] (aU Tryz.f119)) yR si
abbrev yS:Lay:={ T:=[(0,.ptr 0 0),(2,.ptr 8 0),(5,.hd 9 (.int .i64)),(6,.func 187 [.ptr 0 0] []),(8,.int .i64),(20,.hd 2 (.int .i64)),(21,.int .i64),(22,.int .i64),(32,.int .i64),(33,.int .i64)],h:=Pc,nx:=10 }
abbrev sj:List (Ev.Ex×Lay):=[(.ret,adv),((.exit 2),adx)]
abbrev G8:=TL yS.σs->Option (Out sj)
abbrev yX:=Ld 6 84 (bp [0,0] (aU Tryz.f119)) yS sj
def S7(F0:qJ)(F1:vf)(F2:Li)(F3:oQ)(F4:vc)(F5:Hs)(F6:Nq)(F7:Hv)(t8 t21 t22 t32 t33 aC:Int)(aB:List Int)(aG:List (Sh.T ae))(aH aI aJ:List Int)(aw:List (Sh.T ab))(aE:List (Sh.T ae))(cE:Int)(b1:List (Sh.T (.agg [(.int .i64),gj])))(b2:List Int)(iG:Int)(dq:List Int)(iH:List (Sh.T ae))(iI gL ku:List Int)(kv:List (Sh.T ab))(kz:List (Sh.T ae))(kC:List (Sh.T au))(b6:List Bool)(b7:List (Sh.T (.agg [(.int .i64),(.int .i64),(.sl ar)])))(rA rB:Int)(b9:List Int):Option (TL yS.σs⊕Out sj):=
 br (iL t33 t32)
 (
  aj (F3 ((IntKind.wrap .u64 t8),(cE,()))) fun x0=>
  aj (F1 ((aC,(aB,(aG,(aH,(aI,(aJ,(aw,(aE,())))))))),((x0.1,([],())),()))) fun x1=>
  ah (iQ x1.2.1 x1.2.1)<|
  aj (F7 (x1.1.1,(x1.1.2.1,(iG,(dq,(iH,(iI,(gL,(ku,(kv,(kz,(kC,(b6,(b7,())))))))))))))) fun x2=>
  aj (F3 ((IntKind.wrap .u64 t33),((Int.ofNat (List.length aB)),()))) fun x3=>
  aj (F6 (x3.1,x2.2)) fun x4=>
  ah (iQ x4.2.1 x4.2.1)<|
  aj (F5 (x4.2.2.1,(cQ x4,(cR x4,(cX x4,(cT x4,(dc x4,(dG x4,(dN x4,(cY x4,(fO x4,(fm x4,())))))))))))) fun x5=>
  ah (bQ x4.1 x4.1)<|
  aj (F4 (aC,(aB,(aG,(aH,(aI,(aJ,(aw,(aE,nc x5))))))))) fun x6=>
  ah (iQ x6.1 x6.1)<|
  aj (F0 (x6.2.1,())) fun x7=>
  ah (bQ x4.1 x4.1)<|
  aj (F2 ((bf x4).2.1,(true,()))) fun x8=>
  br (Bool.not x4.1)
  (
   some (.inl (t8,(t21,(t22,(t32,((IntKind.wrap .i64 (t33+(1:Int))),(aC,(aB,(aG,(aH,(aI,(aJ,(aw,(aE,(cE,(b1,(b2,(x5.1,(x5.2.1,(x5.2.2.1,(cQ x5,(cR x5,(cX x5,(cT x5,(dc x5,(dG x5,(dN x5,(cY x5,(rA,(rB,(b9,()))))))))))))))))))))))))))))))))
  (
   br (iE (0:Int) x8.1)
   (
    some (.inr (.inl (x8.1,(true,(aC,(aB,(aG,(aH,(aI,(aJ,(aw,(aE,(cE,(b1,(b2,(x5.1,(x5.2.1,(x5.2.2.1,(cQ x5,(cR x5,(cX x5,(cT x5,(dc x5,(dG x5,(dN x5,(cY x5,(t8,(t33,())))))))))))))))))))))))))))))
   (
    br (Bool.not (@dI gj b1 (IntKind.wrap .i64 x7.1)))
    (
     ah (room 8 (List.length (ap b9 ((IntKind.wrap .i64 x7.1)::[]))))<|
     some (.inl (t8,(t21,(t22,(t32,((IntKind.wrap .i64 (t33+(1:Int))),(aC,(aB,(aG,(aH,(aI,(aJ,(aw,(aE,(cE,((@dR gj (IntKind.wrap .i64 x7.1) (t8,(t33,())) b1),(b2,(x5.1,(x5.2.1,(x5.2.2.1,(cQ x5,(cR x5,(cX x5,(cT x5,(dc x5,(dG x5,(dN x5,(cY x5,(rA,(rB,((ap b9 ((IntKind.wrap .i64 x7.1)::[])),()))))))))))))))))))))))))))))))))
    (
     some (.inl (t8,(t21,(t22,(t32,((IntKind.wrap .i64 (t33+(1:Int))),(aC,(aB,(aG,(aH,(aI,(aJ,(aw,(aE,(cE,(b1,(b2,(x5.1,(x5.2.1,(x5.2.2.1,(cQ x5,(cR x5,(cX x5,(cT x5,(dc x5,(dG x5,(dN x5,(cY x5,(rA,(rB,(b9,())))))))))))))))))))))))))))))))))))
 (
  some (.inr (.inr (t21,(t22,(aC,(aB,(aG,(aH,(aI,(aJ,(aw,(aE,(cE,(b1,(b2,(iG,(dq,(iH,(iI,(gL,(ku,(kv,(kz,(kC,(b6,(b7,(rA,(rB,(b9,()))))))))))))))))))))))))))))))
def ad6(c0:pz)(c1:sG)(c2:Bw)(c3:nU)(c4:sF)(c5:y2)(c6:C2)(c7:y5) :yX:=bu (fun d=>S7 c0.F c1.F c2.F c3.F c4.F c5.F c6.F c7.F  d.1 d.2.1 d.2.2.1 d.2.2.2.1 d.2.2.2.2.1 d.2.2.2.2.2.1 d.2.2.2.2.2.2.1 d.2.2.2.2.2.2.2.1 d.2.2.2.2.2.2.2.2.1 d.2.2.2.2.2.2.2.2.2.1 d.2.2.2.2.2.2.2.2.2.2.1 d.2.2.2.2.2.2.2.2.2.2.2.1 d.2.2.2.2.2.2.2.2.2.2.2.2.1 d.2.2.2.2.2.2.2.2.2.2.2.2.2.1 d.2.2.2.2.2.2.2.2.2.2.2.2.2.2.1 d.2.2.2.2.2.2.2.2.2.2.2.2.2.2.2.1 d.2.2.2.2.2.2.2.2.2.2.2.2.2.2.2.2.1 d.2.2.2.2.2.2.2.2.2.2.2.2.2.2.2.2.2.1 d.2.2.2.2.2.2.2.2.2.2.2.2.2.2.2.2.2.2.1 d.2.2.2.2.2.2.2.2.2.2.2.2.2.2.2.2.2.2.2.1 d.2.2.2.2.2.2.2.2.2.2.2.2.2.2.2.2.2.2.2.2.1 d.2.2.2.2.2.2.2.2.2.2.2.2.2.2.2.2.2.2.2.2.2.1 d.2.2.2.2.2.2.2.2.2.2.2.2.2.2.2.2.2.2.2.2.2.2.1 d.2.2.2.2.2.2.2.2.2.2.2.2.2.2.2.2.2.2.2.2.2.2.2.1 d.2.2.2.2.2.2.2.2.2.2.2.2.2.2.2.2.2.2.2.2.2.2.2.2.1 d.2.2.2.2.2.2.2.2.2.2.2.2.2.2.2.2.2.2.2.2.2.2.2.2.2.1 d.2.2.2.2.2.2.2.2.2.2.2.2.2.2.2.2.2.2.2.2.2.2.2.2.2.2.1 d.2.2.2.2.2.2.2.2.2.2.2.2.2.2.2.2.2.2.2.2.2.2.2.2.2.2.2.1 d.2.2.2.2.2.2.2.2.2.2.2.2.2.2.2.2.2.2.2.2.2.2.2.2.2.2.2.2.1 d.2.2.2.2.2.2.2.2.2.2.2.2.2.2.2.2.2.2.2.2.2.2.2.2.2.2.2.2.2.1) (pL (kD c0 (kD c1 (kD c2 (kD c3 (kB c4 (kB c5 (kB c6 (kB c7 k0)))))))) (eC Tryz.func118 (by kernel_rfl) (eC Tryz.func53 (by kernel_rfl) (eC Tryz.func187 (by kernel_rfl) e0))) 5 l0 fun d=>by kernel_rfl)
def S9:yX:=ad6 qI ve Lj oR vb Hr Nr Hu
def yY:G8:=aQ (fun d=>S7 vh zp ZL mV zm To Yq TB  d.1 d.2.1 d.2.2.1 d.2.2.2.1 d.2.2.2.2.1 d.2.2.2.2.2.1 d.2.2.2.2.2.2.1 d.2.2.2.2.2.2.2.1 d.2.2.2.2.2.2.2.2.1 d.2.2.2.2.2.2.2.2.2.1 d.2.2.2.2.2.2.2.2.2.2.1 d.2.2.2.2.2.2.2.2.2.2.2.1 d.2.2.2.2.2.2.2.2.2.2.2.2.1 d.2.2.2.2.2.2.2.2.2.2.2.2.2.1 d.2.2.2.2.2.2.2.2.2.2.2.2.2.2.1 d.2.2.2.2.2.2.2.2.2.2.2.2.2.2.2.1 d.2.2.2.2.2.2.2.2.2.2.2.2.2.2.2.2.1 d.2.2.2.2.2.2.2.2.2.2.2.2.2.2.2.2.2.1 d.2.2.2.2.2.2.2.2.2.2.2.2.2.2.2.2.2.2.1 d.2.2.2.2.2.2.2.2.2.2.2.2.2.2.2.2.2.2.2.1 d.2.2.2.2.2.2.2.2.2.2.2.2.2.2.2.2.2.2.2.2.1 d.2.2.2.2.2.2.2.2.2.2.2.2.2.2.2.2.2.2.2.2.2.1 d.2.2.2.2.2.2.2.2.2.2.2.2.2.2.2.2.2.2.2.2.2.2.1 d.2.2.2.2.2.2.2.2.2.2.2.2.2.2.2.2.2.2.2.2.2.2.2.1 d.2.2.2.2.2.2.2.2.2.2.2.2.2.2.2.2.2.2.2.2.2.2.2.2.1 d.2.2.2.2.2.2.2.2.2.2.2.2.2.2.2.2.2.2.2.2.2.2.2.2.2.1 d.2.2.2.2.2.2.2.2.2.2.2.2.2.2.2.2.2.2.2.2.2.2.2.2.2.2.1 d.2.2.2.2.2.2.2.2.2.2.2.2.2.2.2.2.2.2.2.2.2.2.2.2.2.2.2.1 d.2.2.2.2.2.2.2.2.2.2.2.2.2.2.2.2.2.2.2.2.2.2.2.2.2.2.2.2.1 d.2.2.2.2.2.2.2.2.2.2.2.2.2.2.2.2.2.2.2.2.2.2.2.2.2.2.2.2.2.1) NN
def S6(L7:G8)(t21 t22 aC:Int)(aB:List Int)(aG:List (Sh.T ae))(aH aI aJ:List Int)(aw:List (Sh.T ab))(aE:List (Sh.T ae))(cE:Int)(b1:List (Sh.T (.agg [(.int .i64),gj])))(b2:List Int)(iG:Int)(dq:List Int)(iH:List (Sh.T ae))(iI gL ku:List Int)(kv:List (Sh.T ab))(kz:List (Sh.T ae))(kC:List (Sh.T au))(b6:List Bool)(b7:List (Sh.T (.agg [(.int .i64),(.int .i64),(.sl ar)])))(rA rB:Int)(b9:List Int):Option (TL yR.σs⊕Out si):=
 br (iL t22 t21)
 (
  ah (aq t22 (List.length b2))<|
  aj (L7 ((gt (.int .i64) b2 t22),(t21,(t22,((IntKind.wrap .i64 ((1:Int)*(HPow.hPow (2:Int) (Min.min (Int.toNat (Int.ofNat (List.length aB))) 64)))),((0:Int),(aC,(aB,(aG,(aH,(aI,(aJ,(aw,(aE,(cE,(b1,(b2,(iG,(dq,(iH,(iI,(gL,(ku,(kv,(kz,(kC,(b6,(b7,(rA,(rB,(b9,()))))))))))))))))))))))))))))))) fun x0=>
  (match x0 with|.inl x1=>some (.inr (.inl x1))|.inr x1=>some (.inl (x1.1,((IntKind.wrap .i64 (@HAdd.hAdd (Int) (Int) (Int) _ x1.2.1 (1:Int))),x1.2.2)))
  ))
 (
  some (.inr (.inr (aC,(aB,(aG,(aH,(aI,(aJ,(aw,(aE,(cE,(b1,(b2,(iG,(dq,(iH,(iI,(gL,(ku,(kv,(kz,(kC,(b6,(b7,(rA,(rB,(b9,()))))))))))))))))))))))))))))
def ad5(M7:yX):G6:=bu (fun d=>S6  M7.L d.1 d.2.1 d.2.2.1 d.2.2.2.1 d.2.2.2.2.1 d.2.2.2.2.2.1 d.2.2.2.2.2.2.1 d.2.2.2.2.2.2.2.1 d.2.2.2.2.2.2.2.2.1 d.2.2.2.2.2.2.2.2.2.1 d.2.2.2.2.2.2.2.2.2.2.1 d.2.2.2.2.2.2.2.2.2.2.2.1 d.2.2.2.2.2.2.2.2.2.2.2.2.1 d.2.2.2.2.2.2.2.2.2.2.2.2.2.1 d.2.2.2.2.2.2.2.2.2.2.2.2.2.2.1 d.2.2.2.2.2.2.2.2.2.2.2.2.2.2.2.1 d.2.2.2.2.2.2.2.2.2.2.2.2.2.2.2.2.1 d.2.2.2.2.2.2.2.2.2.2.2.2.2.2.2.2.2.1 d.2.2.2.2.2.2.2.2.2.2.2.2.2.2.2.2.2.2.1 d.2.2.2.2.2.2.2.2.2.2.2.2.2.2.2.2.2.2.2.1 d.2.2.2.2.2.2.2.2.2.2.2.2.2.2.2.2.2.2.2.2.1 d.2.2.2.2.2.2.2.2.2.2.2.2.2.2.2.2.2.2.2.2.2.1 d.2.2.2.2.2.2.2.2.2.2.2.2.2.2.2.2.2.2.2.2.2.2.1 d.2.2.2.2.2.2.2.2.2.2.2.2.2.2.2.2.2.2.2.2.2.2.2.1 d.2.2.2.2.2.2.2.2.2.2.2.2.2.2.2.2.2.2.2.2.2.2.2.2.1 d.2.2.2.2.2.2.2.2.2.2.2.2.2.2.2.2.2.2.2.2.2.2.2.2.2.1 d.2.2.2.2.2.2.2.2.2.2.2.2.2.2.2.2.2.2.2.2.2.2.2.2.2.2.1) (pL k0 (eC Tryz.func118 (by kernel_rfl) (eC Tryz.func53 (by kernel_rfl) (eC Tryz.func187 (by kernel_rfl) e0))) 5 (sC M7 l0) fun d=>by kernel_rfl)
def ad7:G6:=ad5  S9
def G7:Ta:=aQ (fun d=>S6  yY d.1 d.2.1 d.2.2.1 d.2.2.2.1 d.2.2.2.2.1 d.2.2.2.2.2.1 d.2.2.2.2.2.2.1 d.2.2.2.2.2.2.2.1 d.2.2.2.2.2.2.2.2.1 d.2.2.2.2.2.2.2.2.2.1 d.2.2.2.2.2.2.2.2.2.2.1 d.2.2.2.2.2.2.2.2.2.2.2.1 d.2.2.2.2.2.2.2.2.2.2.2.2.1 d.2.2.2.2.2.2.2.2.2.2.2.2.2.1 d.2.2.2.2.2.2.2.2.2.2.2.2.2.2.1 d.2.2.2.2.2.2.2.2.2.2.2.2.2.2.2.1 d.2.2.2.2.2.2.2.2.2.2.2.2.2.2.2.2.1 d.2.2.2.2.2.2.2.2.2.2.2.2.2.2.2.2.2.1 d.2.2.2.2.2.2.2.2.2.2.2.2.2.2.2.2.2.2.1 d.2.2.2.2.2.2.2.2.2.2.2.2.2.2.2.2.2.2.2.1 d.2.2.2.2.2.2.2.2.2.2.2.2.2.2.2.2.2.2.2.2.1 d.2.2.2.2.2.2.2.2.2.2.2.2.2.2.2.2.2.2.2.2.2.1 d.2.2.2.2.2.2.2.2.2.2.2.2.2.2.2.2.2.2.2.2.2.2.1 d.2.2.2.2.2.2.2.2.2.2.2.2.2.2.2.2.2.2.2.2.2.2.2.1 d.2.2.2.2.2.2.2.2.2.2.2.2.2.2.2.2.2.2.2.2.2.2.2.2.1 d.2.2.2.2.2.2.2.2.2.2.2.2.2.2.2.2.2.2.2.2.2.2.2.2.2.1 d.2.2.2.2.2.2.2.2.2.2.2.2.2.2.2.2.2.2.2.2.2.2.2.2.2.2.1) NN
def aek(F0:qJ)(F1:vf)(F2:Li)(F3:oQ)(F4:vc)(F5:Hs)(F6:Nq)(F7:Hv)(L4:Ta)(L7:G8)(aC:Int)(aB:List Int)(aG:List (Sh.T ae))(aH aI aJ:List Int)(aw:List (Sh.T ab))(aE:List (Sh.T ae))(cE:Int)(b1:List (Sh.T (.agg [(.int .i64),gj])))(b2:List Int)(iG:Int)(dq:List Int)(iH:List (Sh.T ae))(iI gL ku:List Int)(kv:List (Sh.T ab))(kz:List (Sh.T ae))(kC:List (Sh.T au))(b4:List Bool)(b5:List (Sh.T (.agg [(.int .i64),(.int .i64),(.sl ar)]))):Option (Out Gv):=
 aj (L4 ((Int.ofNat (List.length b2)),((0:Int),(aC,(aB,(aG,(aH,(aI,(aJ,(aw,(aE,(cE,(b1,(b2,(iG,(dq,(iH,(iI,(gL,(ku,(kv,(kz,(kC,(b4,(b5,((0:Int),((0:Int),([],())))))))))))))))))))))))))))) fun x0=>
 (match x0 with|.inl x1=>some (fm (bf x1),((bf (bf x1)).2.1,(x1.1,(x1.2.1,(x1.2.2.1,(cQ x1,(cR x1,(cX x1,(cT x1,(dc x1,(dG x1,(dN x1,(cY x1,(fO x1,((bf x1).2.1,((bf x1).2.2.1,(cQ (bf x1),(cR (bf x1),(cX (bf x1),(cT (bf x1),(dc (bf x1),(dG (bf x1),(dN (bf x1),(fm x1,(cY (bf x1),(fO (bf x1),()))))))))))))))))))))))))))|.inr x1=>some (cY (bf x1),(fO (bf x1),((0:Int),(false,(x1.1,(x1.2.1,(x1.2.2.1,(cQ x1,(cR x1,(cX x1,(cT x1,(dc x1,(dG x1,(dN x1,(fO x1,(fm x1,((bf x1).2.1,((bf x1).2.2.1,(cQ (bf x1),(cR (bf x1),(cX (bf x1),(cT (bf x1),(dc (bf x1),(fm (bf x1),(dG (bf x1),(dN (bf x1),()))))))))))))))))))))))))))
 )
def ael(c0:pz)(c1:sG)(c2:Bw)(c3:nU)(c4:sF)(c5:y2)(c6:C2)(c7:y5)(M4:G6)(M7:yX):y0:=⟨se (aek c0.F c1.F c2.F c3.F c4.F c5.F c6.F c7.F M4.L M7.L),pB Tryz.func119 84 (kD c0 (kD c1 (kD c2 (kD c3 (kB c4 (kB c5 (kB c6 (kB c7 k0)))))))) (eC Tryz.func118 (by kernel_rfl) (eC Tryz.func53 (by kernel_rfl) (eC Tryz.func187 (by kernel_rfl) e0))) 5 (sS (sC M4 l0)) fun d=>by kernel_rfl⟩
def Hj:y0:=ael qI ve Lj oR vb Hr Nr Hu ad7 S9
def S8:Hk:=Hj.F
abbrev Tm:Lay:={ T:=[(0,.ptr 0 0),(1,.int .i64)],h:=xp,nx:=6 }
abbrev G9:List (Ev.Ex×Lay):=[(.ret,{ T:=[(0,.agg [.int .i64,.int .i64]),(1,.int .i64),(2,.int .i64),(3,.int .i64)],h:=adw,nx:=9 })]
abbrev Tz:=TL Tm.σs->Option (Out G9)
abbrev Ht:=Kb 60 2 Tm 4 G9
abbrev uU:Lay:={ T:=[(0,.ptr 0 0),(4,.ptr 9 0),(7,.int .i64),(12,.int .i64),(13,.int .i64)],h:=Pd,nx:=10 }
abbrev sr:List (Ev.Ex×Lay):=[(.ret,{ T:=[(4,.ptr 9 0),(5,.int .i64),(6,.int .i64),(7,.int .i64)],h:=Pd,nx:=10 }),((.exit 0),{ T:=[(4,.ptr 9 0),(7,.int .i64)],h:=Pd,nx:=10 })]
abbrev Tw:=TL uU.σs->Option (Out sr)
abbrev Ho:=Ld 6 41 (bp [0] (aU Tryz.f60)) uU sr
def Tu(F0:Hk)(t7 t12 t13 aC:Int)(aB:List Int)(aG:List (Sh.T ae))(aH aI aJ:List Int)(aw:List (Sh.T ab))(aE:List (Sh.T ae))(cE:Int)(b1:List (Sh.T (.agg [(.int .i64),gj])))(iG:Int)(dq:List Int)(iH:List (Sh.T ae))(iI gL ku:List Int)(kv:List (Sh.T ab))(kz:List (Sh.T ae))(kC:List (Sh.T au))(b6:List Int)(b7:List Bool)(b8:List (Sh.T (.agg [(.int .i64),(.int .i64),(.sl ar)])))(OP OQ:Int):Option (TL uU.σs⊕Out sr):=
 br (iL t13 t12)
 (
  aj (F0 (aC,(aB,(aG,(aH,(aI,(aJ,(aw,(aE,(cE,(b1,(b6,(iG,(dq,(iH,(iI,(gL,(ku,(kv,(kz,(kC,(b7,(b8,()))))))))))))))))))))))) fun x0=>
  br (cQ x0)
  (
   some (.inr (.inl (x0.2.2.1,((IntKind.wrap .i64 (t13+(1:Int))),((0:Int),(cR x0,(cX x0,(cT x0,(dc x0,(dG x0,(dN x0,(cY x0,(fO x0,(fm x0,((bf x0).2.1,((bf x0).2.2.1,(cQ (bf x0),(cR (bf x0),(cX (bf x0),(cT (bf x0),(dc (bf x0),(dG (bf x0),(dN (bf x0),(cY (bf x0),(fO (bf x0),(fm (bf x0),((bf (bf x0)).2.1,(x0.1,(x0.2.1,()))))))))))))))))))))))))))))))
  (
   br (iQ (Int.ofNat (List.length (fO (bf x0)))) (0:Int))
   (
    some (.inr (.inr ((Int.ofNat (List.length b1)),(cR x0,(cX x0,(cT x0,(dc x0,(dG x0,(dN x0,(cY x0,(fO x0,(fm x0,((bf x0).2.1,((bf x0).2.2.1,(cQ (bf x0),(cR (bf x0),(cX (bf x0),(cT (bf x0),(dc (bf x0),(dG (bf x0),(dN (bf x0),(cY (bf x0),(fO (bf x0),(fm (bf x0),((bf (bf x0)).2.1,(OP,(OQ,()))))))))))))))))))))))))))))
   (
    some (.inl ((Int.ofNat (List.length b1)),(t12,((IntKind.wrap .i64 (t13+(1:Int))),(cR x0,(cX x0,(cT x0,(dc x0,(dG x0,(dN x0,(cY x0,(fO x0,(fm x0,((bf x0).2.1,((bf x0).2.2.1,(cQ (bf x0),(cR (bf x0),(cX (bf x0),(cT (bf x0),(dc (bf x0),(dG (bf x0),(dN (bf x0),(cY (bf x0),(fO (bf x0),(fm (bf x0),((bf (bf x0)).2.1,(OP,(OQ,())))))))))))))))))))))))))))))))
 (
  some (.inr (.inr (t7,(aC,(aB,(aG,(aH,(aI,(aJ,(aw,(aE,(cE,(b1,(iG,(dq,(iH,(iI,(gL,(ku,(kv,(kz,(kC,(b6,(b7,(b8,(OP,(OQ,()))))))))))))))))))))))))))))
def aes(c0:y0) :Ho:=bu (fun d=>Tu c0.F  d.1 d.2.1 d.2.2.1 d.2.2.2.1 d.2.2.2.2.1 d.2.2.2.2.2.1 d.2.2.2.2.2.2.1 d.2.2.2.2.2.2.2.1 d.2.2.2.2.2.2.2.2.1 d.2.2.2.2.2.2.2.2.2.1 d.2.2.2.2.2.2.2.2.2.2.1 d.2.2.2.2.2.2.2.2.2.2.2.1 d.2.2.2.2.2.2.2.2.2.2.2.2.1 d.2.2.2.2.2.2.2.2.2.2.2.2.2.1 d.2.2.2.2.2.2.2.2.2.2.2.2.2.2.1 d.2.2.2.2.2.2.2.2.2.2.2.2.2.2.2.1 d.2.2.2.2.2.2.2.2.2.2.2.2.2.2.2.2.1 d.2.2.2.2.2.2.2.2.2.2.2.2.2.2.2.2.2.1 d.2.2.2.2.2.2.2.2.2.2.2.2.2.2.2.2.2.2.1 d.2.2.2.2.2.2.2.2.2.2.2.2.2.2.2.2.2.2.2.1 d.2.2.2.2.2.2.2.2.2.2.2.2.2.2.2.2.2.2.2.2.1 d.2.2.2.2.2.2.2.2.2.2.2.2.2.2.2.2.2.2.2.2.2.1 d.2.2.2.2.2.2.2.2.2.2.2.2.2.2.2.2.2.2.2.2.2.2.1 d.2.2.2.2.2.2.2.2.2.2.2.2.2.2.2.2.2.2.2.2.2.2.2.1 d.2.2.2.2.2.2.2.2.2.2.2.2.2.2.2.2.2.2.2.2.2.2.2.2.1 d.2.2.2.2.2.2.2.2.2.2.2.2.2.2.2.2.2.2.2.2.2.2.2.2.2.1 d.2.2.2.2.2.2.2.2.2.2.2.2.2.2.2.2.2.2.2.2.2.2.2.2.2.2.1) (pL (kB c0 k0) e0 1 l0 fun d=>by kernel_rfl)
def aet:Ho:=aes Hj
def Tv:Tw:=aQ (fun d=>Tu S8  d.1 d.2.1 d.2.2.1 d.2.2.2.1 d.2.2.2.2.1 d.2.2.2.2.2.1 d.2.2.2.2.2.2.1 d.2.2.2.2.2.2.2.1 d.2.2.2.2.2.2.2.2.1 d.2.2.2.2.2.2.2.2.2.1 d.2.2.2.2.2.2.2.2.2.2.1 d.2.2.2.2.2.2.2.2.2.2.2.1 d.2.2.2.2.2.2.2.2.2.2.2.2.1 d.2.2.2.2.2.2.2.2.2.2.2.2.2.1 d.2.2.2.2.2.2.2.2.2.2.2.2.2.2.1 d.2.2.2.2.2.2.2.2.2.2.2.2.2.2.2.1 d.2.2.2.2.2.2.2.2.2.2.2.2.2.2.2.2.1 d.2.2.2.2.2.2.2.2.2.2.2.2.2.2.2.2.2.1 d.2.2.2.2.2.2.2.2.2.2.2.2.2.2.2.2.2.2.1 d.2.2.2.2.2.2.2.2.2.2.2.2.2.2.2.2.2.2.2.1 d.2.2.2.2.2.2.2.2.2.2.2.2.2.2.2.2.2.2.2.2.1 d.2.2.2.2.2.2.2.2.2.2.2.2.2.2.2.2.2.2.2.2.2.1 d.2.2.2.2.2.2.2.2.2.2.2.2.2.2.2.2.2.2.2.2.2.2.1 d.2.2.2.2.2.2.2.2.2.2.2.2.2.2.2.2.2.2.2.2.2.2.2.1 d.2.2.2.2.2.2.2.2.2.2.2.2.2.2.2.2.2.2.2.2.2.2.2.2.1 d.2.2.2.2.2.2.2.2.2.2.2.2.2.2.2.2.2.2.2.2.2.2.2.2.2.1 d.2.2.2.2.2.2.2.2.2.2.2.2.2.2.2.2.2.2.2.2.2.2.2.2.2.2.1) NN
def aew(F0:Hk)(L2:Tw)(t1 aC:Int)(aB:List Int)(aG:List (Sh.T ae))(aH aI aJ:List Int)(aw:List (Sh.T ab))(aE:List (Sh.T ae))(cE:Int)(b1:List (Sh.T (.agg [(.int .i64),gj])))(b2:List Int)(iG:Int)(dq:List Int)(iH:List (Sh.T ae))(iI gL ku:List Int)(kv:List (Sh.T ab))(kz:List (Sh.T ae))(kC:List (Sh.T au))(b4:List Bool)(b5:List (Sh.T (.agg [(.int .i64),(.int .i64),(.sl ar)]))):Option (Out G9):=
 aj (L2 ((0:Int),(t1,((0:Int),(aC,(aB,(aG,(aH,(aI,(aJ,(aw,(aE,(cE,(b1,(iG,(dq,(iH,(iI,(gL,(ku,(kv,(kz,(kC,(b2,(b4,(b5,((0:Int),((0:Int),())))))))))))))))))))))))))))) fun x0=>
 (match x0 with|.inl x1=>some ((bf (bf x1)).2.1,((bf (bf x1)).2.2.1,(x1.1,(x1.2.1,(x1.2.2.1,(cQ x1,(cR x1,(cX x1,(cT x1,(dc x1,(dG x1,(dN x1,(cY x1,(fO x1,(fm x1,((bf x1).2.1,((bf x1).2.2.1,(cQ (bf x1),(cR (bf x1),(cX (bf x1),(cT (bf x1),(dc (bf x1),(dG (bf x1),(dN (bf x1),(cY (bf x1),(fO (bf x1),(fm (bf x1),())))))))))))))))))))))))))))|.inr x1=>some (fO (bf x1),(fm (bf x1),((0:Int),((0:Int),(x1.1,(x1.2.1,(x1.2.2.1,(cQ x1,(cR x1,(cX x1,(cT x1,(dc x1,(dG x1,(dN x1,(cY x1,(fO x1,(fm x1,((bf x1).2.1,((bf x1).2.2.1,(cQ (bf x1),(cR (bf x1),(cX (bf x1),(cT (bf x1),(dc (bf x1),(dG (bf x1),(dN (bf x1),(cY (bf x1),())))))))))))))))))))))))))))
 )
def aex(c0:y0)(M2:Ho):Ht:=⟨u23 (aew c0.F M2.L),pB Tryz.func60 41 (kB c0 k0) e0 1 (sS (sC M2 l0)) fun d=>by kernel_rfl⟩
def Ty:Ht:=aex Hj aet
def Hq:Tz:=Ty.F
abbrev TO:List Sh:=[ba,(.int .i64)]
abbrev sB:List Sh:=[ae4,(.int .i64)]
abbrev H8:=TL TO->Option (TL sB)
abbrev zq:=Kd 19 TO sB
def aeP(F0:Tz)(F1:T9)(a0:Sh.T ba)(a1:Int):Option (TL sB):=
 aj (F1 a0) fun x0=>
 (match x0 with
 |.inl x1=>
  br (Bool.not (iQ x1.1 (0:Int)))
  (
   some ((false,((0:Int),(false,((0:Int),())))),(x1.1,())))
  (
   br (iL a1 (0:Int))
   (
    some ((false,((0:Int),(false,((0:Int),())))),((1:Int),())))
   (
    ah (aV false true (iL (2000:Int) a1))<|
    some ((false,((0:Int),(false,((0:Int),())))),((1:Int),()))))
 |.inr x1=>
  br (Bool.not (iQ x1.1 (0:Int)))
  (
   some ((false,((0:Int),(false,((0:Int),())))),(x1.1,())))
  (
   br (iL a1 (0:Int))
   (
    some ((false,((0:Int),(false,((0:Int),())))),((1:Int),())))
   (
    br (aV false true (iL (2000:Int) a1))
    (
     some ((false,((0:Int),(false,((0:Int),())))),((1:Int),())))
    (
     aj (F0 (a1,x1.2)) fun x2=>
     br (iL (0:Int) (cQ x2))
     (
      some ((true,(cQ x2,(false,((0:Int),())))),((0:Int),())))
     (
      some ((false,((0:Int),((iQ (Int.ofNat (List.length (fm (bf x2)))) (0:Int)),(cR x2,())))),((0:Int),()))))))
 )
def aeQ(c0:Ht)(c1:Ij) :zq:=⟨u2 (aeP c0.F c1.F),pD Tryz.func19 49 (kB c0 (kB c1 k0)) e0 1 (sS l0) fun d=>by kernel_rfl⟩
def H7:zq:=aeQ Ty T8
def zn:H8:=H7.F
abbrev SU:List Sh:=[ba]
abbrev GV:List Sh:=[(.int .i64)]
abbrev Tj:=TL SU->Option (TL GV)
abbrev He:=Kd 16 SU GV
def aee(F0:sx)(F1:wc)(a0:Sh.T ba):Option (TL GV):=
 aj (F1 (a0,())) fun x0=>
 br (Bool.not (iQ x0.1 (0:Int)))
 (
  some (x0.1,()))
 (
  br (iL (6:Int) (Int.ofNat (List.length a0.2.1)))
  (
   some ((17:Int),()))
  (
   aj (F0 (a0,())) fun x1=>
   br (aV false true (iL (10:Int) (IntKind.wrap .i64 (@HAdd.hAdd (Int) (Int) (Int) _ (Int.ofNat (List.length a0.2.2.1)) x1.1))))
   (
    some ((17:Int),()))
   (
    some ((0:Int),()))))
def aef(c0:qG)(c1:tg) :He:=⟨u1 (aee c0.F c1.F),pD Tryz.func16 22 (kD c0 (kD c1 k0)) e0 1 (sS l0) fun d=>by kernel_rfl⟩
def Ti:He:=aef sw we
def adY:Tj:=Ti.F
abbrev S5:List Sh:=[ba,(.int .i64)]
abbrev G5:List Sh:=[cr]
abbrev uW:=TL S5->Option (TL G5)
abbrev sy:=Kd 57 S5 G5
def aei(F0:Tt)(F1:pX)(F2:sx)(a0:Sh.T ba)(a1:Int):Option (TL G5):=
 aj (F2 (a0,())) fun x0=>
 aj (F1 ((IntKind.wrap .u64 a1),((IntKind.wrap .i64 (@HAdd.hAdd (Int) (Int) (Int) _ (Int.ofNat (List.length a0.2.2.1)) x0.1)),()))) fun x1=>
 aj (F0 (a0,((x1.1,([],())),()))) fun x2=>
 ah (iQ x2.2.1 x2.2.1)<|
 some ((x2.1.1,(x2.1.2.1,())),())
def aej(c0:Hm)(c1:oP)(c2:qG) :sy:=⟨u2 (aei c0.F c1.F c2.F),pD Tryz.func57 23 (kD c0 (kD c1 (kD c2 k0))) e0 1 (sS l0) fun d=>by kernel_rfl⟩
def uV:sy:=aej Ts pY sw
def G4:uW:=uV.F
abbrev SB:List Sh:=[ba,cr]
abbrev GD:List Sh:=[(.int .i64)]
abbrev uT:=TL SB->Option (TL GD)
abbrev sv:=Kd 61 SB GD
def ad3(F0:wI)(F1:Th)(a0:Sh.T ba)(a1:Sh.T cr):Option (TL GD):=
 aj (F1 (a0,(a1,()))) fun x0=>
 aj (F0 (x0.1.1,())) fun x1=>
 some ((IntKind.wrap .i64 x1.1),())
def ad4(c0:tw)(c1:Hc) :sv:=⟨u2 (ad3 c0.F c1.F),pD Tryz.func61 17 (kD c0 (kD c1 k0)) e0 1 (sS l0) fun d=>by kernel_rfl⟩
def uS:sv:=ad4 wJ Tg
def yU:uT:=uS.F
abbrev Tl:List Sh:=[ba]
abbrev Hi:List Sh:=[(.int .i64)]
abbrev uY:=TL Tl->Option (TL Hi)
abbrev sA:=Kd 56 Tl Hi
def aeq(F0:sx)(a0:Sh.T ba):Option (TL Hi):=
 aj (F0 (a0,())) fun x0=>
 ah (iE (0:Int) (IntKind.wrap .u64 (IntKind.wrap .i64 (@HAdd.hAdd (Int) (Int) (Int) _ (Int.ofNat (List.length a0.2.2.1)) x0.1))))<|
 some ((IntKind.wrap .i64 ((1:Int)*(HPow.hPow (2:Int) (Min.min (Int.toNat (IntKind.wrap .u64 (IntKind.wrap .i64 (@HAdd.hAdd (Int) (Int) (Int) _ (Int.ofNat (List.length a0.2.2.1)) x0.1)))) 64)))),())
def aer(c0:qG) :sA:=⟨u1 (aeq c0.F),pD Tryz.func56 11 (kD c0 k0) e0 1 (sS l0) fun d=>by kernel_rfl⟩
def uX:sA:=aer sw
def Hh:uY:=uX.F
abbrev yG:Lay:={ T:=[(1,.ptr 0 0),(3,.hd 1 cr),(4,.int .i64)],h:=[(0,.cells ej 27),(1,.arr cr 40)],nx:=2 }
abbrev yy:List (Ev.Ex×Lay):=[((.exit 0),{ T:=[(3,.hd 0 cr)],h:=[(0,.arr cr 40)],nx:=1 })]
abbrev Sy:=TL yG.σs->Option (Out yy)
abbrev GB:=Ld 0 24 (bp [0] (aU Tryz.f17)) yG yy
def Sw(F0:Lk)(F1:uW)(F2:uY)(t4 aC:Int)(aB:List Int)(aG:List (Sh.T ae))(aH aI aJ:List Int)(aw:List (Sh.T ab))(aE:List (Sh.T ae))(b1:List (Sh.T cr)):Option (TL yG.σs⊕Out yy):=
 aj (F2 ((aC,(aB,(aG,(aH,(aI,(aJ,(aw,(aE,())))))))),())) fun x0=>
 br (iL t4 x0.1)
 (
  aj (F1 ((aC,(aB,(aG,(aH,(aI,(aJ,(aw,(aE,())))))))),(t4,()))) fun x1=>
  aj (F0 ((aC,(aB,(aG,(aH,(aI,(aJ,(aw,(aE,())))))))),((x1.1.1,(x1.1.2.1,())),()))) fun x2=>
  br (iQ x2.1 (0:Int))
  (
   ah (room 48 (List.length (ap b1 ((x1.1.1,(x1.1.2.1,()))::[]))))<|
   some (.inl ((IntKind.wrap .i64 (t4+(1:Int))),(aC,(aB,(aG,(aH,(aI,(aJ,(aw,(aE,((ap b1 ((x1.1.1,(x1.1.2.1,()))::[])),()))))))))))))
  (
   some (.inl ((IntKind.wrap .i64 (t4+(1:Int))),(aC,(aB,(aG,(aH,(aI,(aJ,(aw,(aE,(b1,())))))))))))))
 (
  some (.inr (b1,())))
def adK(c0:Br)(c1:sy)(c2:sA) :GB:=bu (jO (Sw c0.F c1.F c2.F)) (pL (kD c0 (kD c1 (kD c2 k0))) e0 1 l0 fun d=>by kernel_rfl)
def adL:GB:=adK Ll uV uX
def Sx:Sy:=aQ (jO (Sw P4 G4 Hh)) NN
abbrev Sz:List Sh:=[ba]
abbrev GC:List Sh:=[(.sl cr)]
abbrev SX:=TL Sz->Option (TL GC)
abbrev GW:=Kd 17 Sz GC
def adZ(F0:Lk)(F1:uW)(F2:uY)(L3:Sy)(a0:Sh.T ba):Option (TL GC):=
 aj (L3 ((0:Int),(a0.1,(a0.2.1,(a0.2.2.1,(cQ a0,(cR a0,(cX a0,(cT a0,(dc a0,([],()))))))))))) fun x0=>
 some (x0.1,())
def ad0(c0:Br)(c1:sy)(c2:sA)(M3:GB):GW:=⟨u1 (adZ c0.F c1.F c2.F M3.L),pD Tryz.func17 24 (kD c0 (kD c1 (kD c2 k0))) e0 1 (sS (sC M3 l0)) fun d=>by kernel_rfl⟩
def SV:GW:=ad0 Ll uV uX adL
def adJ:SX:=SV.F
abbrev SA:Lay:={ T:=[(0,.agg ej),(1,.agg [.fz .bool,.fz (.sl ar)]),(2,.hd 0 .bool)],h:=[(0,.arr .bool 4)],nx:=1 }
abbrev Gu:List (Ev.Ex×Lay):=[(.ret,{ T:=[(0,.bool)],h:=[(0,.arr .bool 4)],nx:=1 })]
abbrev Hg:=TL SA.σs->Option (Out Gu)
abbrev yZ:=Kb 62 3 SA 1 Gu
abbrev yP:Lay:={ T:=[(2,.hd 0 .bool),(3,.ptr 1 0),(4,.ptr 2 0),(7,.bool),(8,.int .i64)],h:=Pe,nx:=3 }
abbrev yH:List (Ev.Ex×Lay):=[((.exit 0),{ T:=[(7,.bool)],h:=[(0,.arr .bool 4)],nx:=1 })]
abbrev S4:=TL yP.σs->Option (Out yH)
abbrev GX:=Ld 1 59 (bp [0] (aU Tryz.f62)) yP yH
abbrev yQ:Lay:={ T:=[(2,.hd 0 .bool),(3,.ptr 1 0),(4,.ptr 2 0),(7,.bool),(8,.int .i64),(9,.fz .bool),(10,.fz .bool),(11,.int .i64)],h:=Pe,nx:=3 }
abbrev yI:List (Ev.Ex×Lay):=[((.exit 2),{ T:=[(2,.hd 0 .bool),(3,.ptr 1 0),(4,.ptr 2 0),(7,.bool),(8,.int .i64),(9,.fz .bool)],h:=Pe,nx:=3 })]
abbrev G0:=TL yQ.σs->Option (Out yI)
abbrev GY:=Ld 1 59 (bp [0,0] (aU Tryz.f62)) yQ yI
def SZ(t7:Bool)(t8:Int)(t9 t10:List Bool)(t11:Int)(b0:List Bool)(bO:Int)(bL:List Int)(fj:List (Sh.T ae))(eY fw jb:List Int)(jc:List (Sh.T ab))(jd:List (Sh.T ae))(cd:List Bool)(cp:List (List (Sh.T ar))):Option (TL yQ.σs⊕Out yI):=
 br (iL t11 (Int.ofNat (List.length t10)))
 (
  br t7
  (
   some (.inl (true,(t8,(t9,(t10,((IntKind.wrap .i64 (t11+(1:Int))),(b0,(bO,(bL,(fj,(eY,(fw,(jb,(jc,(jd,(cd,(cp,()))))))))))))))))))
  (
   ah (aq t11 (List.length t10))<|
   some (.inl ((aV false true (gt .bool t10 t11)),(t8,(t9,(t10,((IntKind.wrap .i64 (t11+(1:Int))),(b0,(bO,(bL,(fj,(eY,(fw,(jb,(jc,(jd,(cd,(cp,())))))))))))))))))))
 (
  some (.inr (t7,(t8,(t9,(b0,(bO,(bL,(fj,(eY,(fw,(jb,(jc,(jd,(cd,(cp,()))))))))))))))))
def S3  :GY:=bu (u16 SZ) (pL k0 e0 1 l0 fun d=>by kernel_rfl)
def GZ:G0:=aQ (u16 SZ) NN
def SY(F0:uT)(F1:MZ)(F2:Nc)(F3:Na)(F4:Mb)(F5:pX)(L9:G0)(t7:Bool)(t8:Int)(b0:List Bool)(bO:Int)(bL:List Int)(fj:List (Sh.T ae))(eY fw jb:List Int)(jc:List (Sh.T ab))(jd:List (Sh.T ae))(cd:List Bool)(cp:List (List (Sh.T ar))):Option (TL yP.σs⊕Out yH):=
 br (iL t8 (IntKind.wrap .i64 ((1:Int)*(HPow.hPow (2:Int) (Min.min (Int.toNat (IntKind.wrap .u64 (Int.ofNat (List.length bL)))) 64)))))
 (
  aj (F5 ((IntKind.wrap .u64 t8),((Int.ofNat (List.length bL)),()))) fun x0=>
  aj (F4 ((bO,(bL,(fj,(eY,(fw,(jb,(jc,(jd,())))))))),((cd,(cp,())),(x0.1,())))) fun x1=>
  aj (F3 ((bO,(bL,(fj,(eY,(fw,(jb,(jc,(jd,())))))))),(x1.1,()))) fun x2=>
  br (Bool.not x2.1)
  (
   some (.inl (t7,((IntKind.wrap .i64 (t8+(1:Int))),(b0,(bO,(bL,(fj,(eY,(fw,(jb,(jc,(jd,(cd,(cp,())))))))))))))))
  (
   aj (F2 ((bO,(bL,(fj,(eY,(fw,(jb,(jc,(jd,())))))))),(x1.1,()))) fun x3=>
   aj (L9 (t7,(t8,(x1.1,(x3.1,((0:Int),(b0,(bO,(bL,(fj,(eY,(fw,(jb,(jc,(jd,(cd,(cp,()))))))))))))))))) fun x4=>
   aj (F1 ((cR x4,(cX x4,(cT x4,(dc x4,(dG x4,(dN x4,(cY x4,(fO x4,())))))))),(bf x4,(x4.2.2.1,())))) fun x5=>
   aj (F0 ((cR x4,(cX x4,(cT x4,(dc x4,(dG x4,(dN x4,(cY x4,(fO x4,())))))))),((x5.1.1,(x5.1.2.1,())),()))) fun x6=>
   ah (aq x6.1 (List.length (cQ x4)))<|
   some (.inl (x4.1,((IntKind.wrap .i64 (@HAdd.hAdd (Int) (Int) (Int) _ x4.2.1 (1:Int))),((List.set (cQ x4) (Int.toNat x6.1) true),qq4 x4))))))
 (
  some (.inr (t7,(b0,()))))
def ad1(c0:sv)(c1:CY)(c2:C0)(c3:CZ)(c4:CA)(c5:oP)(M9:GY):GX:=bu (gZ (SY c0.F c1.F c2.F c3.F c4.F c5.F M9.L)) (pL (kD c0 (kD c1 (kD c2 (kD c3 (kD c4 (kD c5 k0)))))) e0 1 (sC M9 l0) fun d=>by kernel_rfl)
def ad2:GX:=ad1 uS M0 Nf Nb Mc pY S3
def S2:S4:=aQ (gZ (SY yU Yr Yt Ys Yp oO GZ)) NN
def aeg(F0:uT)(F1:MZ)(F2:Nc)(F3:Na)(F4:Mb)(F5:pX)(L3:S4)(L9:G0)(dK:Int)(gB:List Int)(fV:List (Sh.T ae))(ig ij ik:List Int)(eO:List (Sh.T ab))(gO:List (Sh.T ae))(iM:List Bool)(gD:List (List (Sh.T ar)))(b0:List Bool):Option (Out Gu):=
 aj (L3 (false,((0:Int),(b0,(dK,(gB,(fV,(ig,(ij,(ik,(eO,(gO,(iM,(gD,())))))))))))))) fun x0=>
 some x0
def aeh(c0:sv)(c1:CY)(c2:C0)(c3:CZ)(c4:CA)(c5:oP)(M3:GX)(M9:GY):yZ:=⟨jl (aeg c0.F c1.F c2.F c3.F c4.F c5.F M3.L M9.L),pB Tryz.func62 59 (kD c0 (kD c1 (kD c2 (kD c3 (kD c4 (kD c5 k0)))))) e0 1 (sS (sC M3 l0)) fun d=>by kernel_rfl⟩
def Hf:yZ:=aeh uS M0 Nf Nb Mc pY ad2 S3
def S1:Hg:=Hf.F
abbrev yw:Lay:={ T:=[(7,.hd 0 .bool),(8,.hd 1 .bool),(15,.int .i64),(16,.bool),(17,.int .i64)],h:=[(0,.arr .bool 4),(1,.arr .bool 4)],nx:=2 }
abbrev yr:List (Ev.Ex×Lay):=[((.exit 6),{ T:=[(15,.int .i64),(16,.bool)],h:=[],nx:=0 })]
abbrev Sj:=TL yw.σs->Option (Out yr)
abbrev Se:=Ld 0 106 (bp [2] (aU Tryz.f20)) yw yr
abbrev yF:Lay:={ T:=[(1,.int .i64),(2,.ptr 0 0),(7,.hd 1 .bool),(8,.hd 2 .bool),(11,.int .i64)],h:=Eb,nx:=3 }
abbrev uO:List (Ev.Ex×Lay):=[(.ret,{ T:=[(4,.int .i64),(5,.bool),(6,.int .i64)],h:=[],nx:=0 }),((.exit 2),{ T:=[(7,.hd 0 .bool),(8,.hd 1 .bool)],h:=[(0,.arr .bool 4),(1,.arr .bool 4)],nx:=2 })]
abbrev Su:=TL yF.σs->Option (Out uO)
abbrev Gz:=Ld 0 106 (bp [1] (aU Tryz.f20)) yF uO
abbrev yv:Lay:={ T:=[(1,.int .i64),(2,.ptr 0 0),(7,.hd 1 .bool),(8,.hd 2 .bool),(11,.int .i64),(12,.hd 3 .bool),(13,.bool),(14,.int .i64)],h:=[(0,.cells ej 27),(1,.arr .bool 4),(2,.arr .bool 4),(3,.arr .bool 4)],nx:=4 }
abbrev sf:List (Ev.Ex×Lay):=[(.ret,{ T:=[(4,.int .i64),(5,.bool),(6,.int .i64)],h:=[],nx:=0 }),((.exit 4),{ T:=[(1,.int .i64),(2,.ptr 0 0),(7,.hd 1 .bool),(11,.int .i64),(12,.hd 2 .bool),(13,.bool)],h:=Eb,nx:=3 })]
abbrev Gt:=TL yv.σs->Option (Out sf)
abbrev yN:=Ld 0 106 (bp [1,0] (aU Tryz.f20)) yv sf
abbrev yE:Lay:={ T:=[(1,.int .i64),(2,.ptr 0 0),(7,.hd 1 .bool),(8,.hd 2 .bool),(9,.fz cr),(10,.int .i64)],h:=Eb,nx:=3 }
abbrev yx:List (Ev.Ex×Lay):=[((.exit 0),{ T:=[(1,.int .i64),(2,.ptr 0 0),(7,.hd 1 .bool),(8,.hd 2 .bool)],h:=Eb,nx:=3 })]
abbrev Ss:=TL yE.σs->Option (Out yx)
abbrev Gy:=Ld 0 106 (bp [0] (aU Tryz.f20)) yE yx
def Sn(F1:uT)(t1:Int)(t9:List (Sh.T cr))(t10 aC:Int)(aB:List Int)(aG:List (Sh.T ae))(aH aI aJ:List Int)(aw:List (Sh.T ab))(aE:List (Sh.T ae))(b1 b2:List Bool):Option (TL yE.σs⊕Out yx):=
 br (iL t10 (Int.ofNat (List.length t9)))
 (
  ah (aq t10 (List.length t9))<|
  aj (F1 ((aC,(aB,(aG,(aH,(aI,(aJ,(aw,(aE,())))))))),(((gt cr t9 t10).1,((gt cr t9 t10).2.1,())),()))) fun x0=>
  ah (aq x0.1 (List.length b2))<|
  some (.inl (t1,(t9,((IntKind.wrap .i64 (t10+(1:Int))),(aC,(aB,(aG,(aH,(aI,(aJ,(aw,(aE,(b1,((List.set b2 (Int.toNat x0.1) true),())))))))))))))))
 (
  some (.inr (t1,(aC,(aB,(aG,(aH,(aI,(aJ,(aw,(aE,(b1,(b2,())))))))))))))
def adF(c1:sv) :Gy:=bu (gZ (Sn c1.F)) (pL (kD c1 k0) e0 1 l0 fun d=>by kernel_rfl)
def adH:Gy:=adF uS
def GA:Ss:=aQ (gZ (Sn yU)) NN
def Sc(F0:uW)(F4:Hg)(t1 t11:Int)(t13:Bool)(t14 aC:Int)(aB:List Int)(aG:List (Sh.T ae))(aH aI aJ:List Int)(aw:List (Sh.T ab))(aE:List (Sh.T ae))(b1 b2 b3:List Bool):Option (TL yv.σs⊕Out sf):=
 br (iL t14 (Int.ofNat (List.length b2)))
 (
  ah (aq t14 (List.length b2))<|
  br (Bool.not (gt .bool b2 t14))
  (
   some (.inl (t1,(t11,(t13,((IntKind.wrap .i64 (t14+(1:Int))),(aC,(aB,(aG,(aH,(aI,(aJ,(aw,(aE,(b1,(b2,(b3,())))))))))))))))))
  (
   ah (aq t14 (List.length b1))<|
   br (aV false true (gt .bool b1 t14))
   (
    some (.inl (t1,(t11,(t13,((IntKind.wrap .i64 (t14+(1:Int))),(aC,(aB,(aG,(aH,(aI,(aJ,(aw,(aE,(b1,(b2,(b3,())))))))))))))))))
   (
    ah (aq t14 (List.length b1))<|
    aj (F0 ((aC,(aB,(aG,(aH,(aI,(aJ,(aw,(aE,())))))))),(t14,()))) fun x0=>
    aj (F4 (aC,(aB,(aG,(aH,(aI,(aJ,(aw,(aE,(x0.1.1,(x0.1.2.1,(b3,())))))))))))) fun x1=>
    br x1.1
    (
     some (.inr (.inl (t11,(false,((0:Int),()))))))
    (
     some (.inl (t1,(t11,(true,((IntKind.wrap .i64 (t14+(1:Int))),(aC,(aB,(aG,(aH,(aI,(aJ,(aw,(aE,((List.set b1 (Int.toNat t14) true),(b2,(x1.2.1,()))))))))))))))))))))
 (
  some (.inr (.inr (t1,(t11,(t13,(aC,(aB,(aG,(aH,(aI,(aJ,(aw,(aE,(b1,(b3,()))))))))))))))))
def adC(c0:sy)(c4:yZ) :yN:=bu (fg (Sc c0.F c4.F)) (pL (kD c0 (kB c4 k0)) e0 1 l0 fun d=>by kernel_rfl)
def Si:yN:=adC uV Hf
def yO:Gt:=aQ (fg (Sc G4 S1)) NN
def Sp(F3:uY)(L14:Gt)(t1 t11 aC:Int)(aB:List Int)(aG:List (Sh.T ae))(aH aI aJ:List Int)(aw:List (Sh.T ab))(aE:List (Sh.T ae))(b1 b2:List Bool):Option (TL yF.σs⊕Out uO):=
 br (iE t11 t1)
 (
  aj (F3 ((aC,(aB,(aG,(aH,(aI,(aJ,(aw,(aE,())))))))),())) fun x0=>
  ah (both (iE (0:Int) x0.1) (both (iE x0.1 x0.1) (iE (@HMul.hMul (Int) (Int) (Int) _ (Int.ofNat 1) x0.1) (281474976710656:Int))))<|
  aj (L14 (t1,(t11,(false,((0:Int),(aC,(aB,(aG,(aH,(aI,(aJ,(aw,(aE,(b1,(b2,((List.replicate (Int.toNat x0.1) (Sh.zero .bool)),())))))))))))))))) fun x1=>
  (match x1 with
  |.inl x2=>some (.inr (.inl x2))|.inr x2=>
   br (Bool.not x2.2.2.1)
   (
    some (.inr (.inr (nc x2))))
   (
    some (.inl (x2.1,((IntKind.wrap .i64 (@HAdd.hAdd (Int) (Int) (Int) _ x2.2.1 (1:Int))),sd x2))))
  ))
 (
  some (.inr (.inr (b1,(b2,())))))
def adG(c3:sA)(M14:yN):Gz:=bu (iZ (Sp c3.F M14.L)) (pL (kD c3 k0) e0 1 (sC M14 l0) fun d=>by kernel_rfl)
def adI:Gz:=adG uX Si
def Sr:Su:=aQ (iZ (Sp Hh yO)) NN
def Sd(t15:Int)(t16:Bool)(t17:Int)(b0 b1:List Bool):Option (TL yw.σs⊕Out yr):=
 br (iL t17 (Int.ofNat (List.length b1)))
 (
  ah (aq t17 (List.length b0))<|
  br (gt .bool b0 t17)
  (
   br t16
   (
    ah (aq t17 (List.length b1))<|
    br (Bool.not (gt .bool b1 t17))
    (
     some (.inl ((IntKind.wrap .i64 (t15+(1:Int))),((aV true true false),((IntKind.wrap .i64 (t17+(1:Int))),(b0,(b1,())))))))
    (
     ah (aq t17 (List.length b0))<|
     some (.inl ((IntKind.wrap .i64 (t15+(1:Int))),((aV true (aV false true (gt .bool b0 t17)) false),((IntKind.wrap .i64 (t17+(1:Int))),(b0,(b1,()))))))))
   (
    some (.inl ((IntKind.wrap .i64 (t15+(1:Int))),(false,((IntKind.wrap .i64 (t17+(1:Int))),(b0,(b1,()))))))))
  (
   br t16
   (
    ah (aq t17 (List.length b1))<|
    br (Bool.not (gt .bool b1 t17))
    (
     some (.inl (t15,((aV true true false),((IntKind.wrap .i64 (t17+(1:Int))),(b0,(b1,())))))))
    (
     ah (aq t17 (List.length b0))<|
     some (.inl (t15,((aV true (aV false true (gt .bool b0 t17)) false),((IntKind.wrap .i64 (t17+(1:Int))),(b0,(b1,()))))))))
   (
    some (.inl (t15,(false,((IntKind.wrap .i64 (t17+(1:Int))),(b0,(b1,())))))))))
 (
  some (.inr (t15,(t16,()))))
def adD  :Se:=bu (u5 Sd) (pL k0 e0 1 l0 fun d=>by kernel_rfl)
def Sf:Sj:=aQ (u5 Sd) NN
abbrev Sv:List Sh:=[ba,(.int .i64)]
abbrev so:List Sh:=[(.int .i64),.bool,(.int .i64)]
abbrev SS:=TL Sv->Option (TL so)
abbrev GU:=Kd 20 Sv so
def adW(F0:uW)(F1:uT)(F2:SX)(F3:uY)(F4:Hg)(L5:Ss)(L9:Su)(L14:Gt)(L25:Sj)(a0:Sh.T ba)(a1:Int):Option (TL so):=
 aj (F3 (a0,())) fun x0=>
 ah (both (iE (0:Int) x0.1) (both (iE x0.1 x0.1) (iE (@HMul.hMul (Int) (Int) (Int) _ (Int.ofNat 1) x0.1) (281474976710656:Int))))<|
 aj (F3 (a0,())) fun x1=>
 ah (both (iE (0:Int) x1.1) (both (iE x1.1 x1.1) (iE (@HMul.hMul (Int) (Int) (Int) _ (Int.ofNat 1) x1.1) (281474976710656:Int))))<|
 aj (F2 (a0,())) fun x2=>
 aj (L5 (a1,(x2.1,((0:Int),(a0.1,(a0.2.1,(a0.2.2.1,(cQ a0,(cR a0,(cX a0,(cT a0,(dc a0,((List.replicate (Int.toNat x0.1) (Sh.zero .bool)),((List.replicate (Int.toNat x1.1) (Sh.zero .bool)),())))))))))))))) fun x3=>
 aj (L9 (x3.1,((1:Int),x3.2))) fun x4=>
 (match x4 with
 |.inl x5=>some x5|.inr x5=>
  aj (L25 ((0:Int),(true,((0:Int),x5)))) fun x6=>
  some ((0:Int),(x6.2.1,(x6.1,())))
 )
def adX(c0:sy)(c1:sv)(c2:GW)(c3:sA)(c4:yZ)(M5:Gy)(M9:Gz)(M14:yN)(M25:Se):GU:=⟨u2 (adW c0.F c1.F c2.F c3.F c4.F M5.L M9.L M14.L M25.L),pD Tryz.func20 106 (kD c0 (kD c1 (kD c2 (kD c3 (kB c4 k0))))) e0 1 (sS (sC M5 (sC M9 (sC M25 l0)))) fun d=>by kernel_rfl⟩
def SR:GU:=adX uV uS SV uX Hf adH adI Si adD
def Sq:SS:=SR.F
abbrev SD:List Sh:=[]
abbrev GG:List Sh:=[.bool]
abbrev Td:=TL SD->Option (TL GG)
abbrev Ha:=Kd 14 SD GG
def ad8(F0:H8)  :Option (TL GG):=
 aj (F0 (((1:Int),([],((((1:Int),((1:Int),((0:Int),())))::[]),([],(((2:Int)::[]),([],([],([],())))))))),((9:Int),()))) fun x0=>
 br (iQ x0.2.1 (0:Int))
 (
  br (aV true x0.1.1 false)
  (
   br (aV true (iQ x0.1.2.1 (2:Int)) false)
   (
    some ((aV true (Bool.not x0.1.2.2.1) false),()))
   (
    some (false,())))
  (
   some (false,())))
 (
  some (false,()))
def ad9(c0:zq) :Ha:=⟨fun d=>ad8 c0.F  ,pZ Tryz.func14 27 (kD c0 k0) e0 1 (sS l0) fun d=>by kernel_rfl⟩
def Tc:Ha:=ad9 H7
def adM:Td:=Tc.F
theorem afl:adM ()=some (true,()):=by kernel_rfl
open Go.Proofs.YtkcpdpplobhpaaaGreat.Pl
set_option maxRecDepth 10000
theorem U8{p q:Int}(h:p=q):(some (p,()):Option (TL [.int .i64]))=some (q,()):=by subst h;rfl
def cS(n:aD):Int:=(n.ax.length:Int)+dT n
def wid(n:aD):Nat:=(cS n).toNat
def k7(n:aD):Int:=if Pl.dD n≠0 then Pl.dD n else if 6<n.aM.length then 17 else if 10<cS n then 17 else 0
theorem Ux(n:aD):0<=dT n/\dT n<=1000:=by
 unfold dT;by_cases hc:Pl.dD n=0
 .rw[if_neg (fun q=>q hc)];obtain⟨V,hs,_⟩:=Uo hc;have:=(zE n.aa 0 (fun m hm=>nJ hs m hm)).1;have this:0<=fA n.aa:=this;unfold jI;split<;>omega
 .rw[if_pos hc];omega
theorem vG{n:aD}(ft:Fit n):IntKind.wrap .i64 (Int.ofNat (List.length (n.ax.map bM))+dT n)=cS n:=by rw[aO];have:=ft.aF.1;have:=Ux n;exact bZ (x:=((n.ax.length:Nat):Int)+dT n) (by omega)
theorem IH{n:aD}(ft:Fit n):aeV (bz n,())=some (k7 n,())/\adY (bz n,())=some (k7 n,()):=by
 have c1:=ur ft;have c2:=Ge ft;have d1:=vl ft;have d2:=vi ft;have w:=vG ft;unfold k7;by_cases hc:Pl.dD n=0
 .rw[if_neg (fun q=>q hc)];by_cases h1:6<n.aM.length
  .rw[if_pos h1];have i1:iL (6:Int) (Int.ofNat (List.length n.aM))=true:=ak (show(6:Int)<((n.aM.length:Nat):Int) by omega);exact⟨af c1 (ag (dH (ak hc)) (ao i1 rfl)),af c2 (ag (dH (ak hc)) (ao i1 rfl))⟩
  .rw[if_neg h1];have i1:iL (6:Int) (Int.ofNat (List.length n.aM))=false:=aA (show ¬(6:Int)<((n.aM.length:Nat):Int) by omega);by_cases h2:10<cS n
   .rw[if_pos h2];have i2:aV false true (iL (10:Int) (IntKind.wrap .i64 (Int.ofNat (List.length (n.ax.map bM))+dT n)))=true:=by rw[w];exact ak h2
    exact⟨af c1 (ag (dH (ak hc)) (ag i1 (af d1 (ao i2 rfl)))),af c2 (ag (dH (ak hc)) (ag i1 (af d2 (ao i2 rfl))))⟩
   .rw[if_neg h2];have i2:aV false true (iL (10:Int) (IntKind.wrap .i64 (Int.ofNat (List.length (n.ax.map bM))+dT n)))=false:=by rw[w];exact aA h2
    exact⟨af c1 (ag (dH (ak hc)) (ag i1 (af d1 (ag i2 rfl)))),af c2 (ag (dH (ak hc)) (ag i1 (af d2 (ag i2 rfl))))⟩
 .rw[if_pos hc];exact⟨af c1 (ao (fZ (aA hc)) rfl),af c2 (ao (fZ (aA hc)) rfl)⟩
structure iS(n:aD)(V:Nat):Prop where
 hs:cO n V
 h0:dM n=0
 ha:fh (bc n) V=true
 hc:Pl.dD n=0
 ins:n.aM.length<=6
 wd:cS n=(wid n:Int)
 oC:wid n<=10
 sm:∀m∈n.aa,Small m
 off:n.ax.length+na n.aa=wid n
theorem ah3{n:aD}(h:k7 n=0):∃V,iS n V:=by
 unfold k7 at h;by_cases hc:Pl.dD n=0
 .rw[if_neg (fun q=>q hc)]at h;by_cases h1:6<n.aM.length
  .rw[if_pos h1]at h;omega
  rw[if_neg h1]at h;by_cases h2:10<cS n
  .rw[if_pos h2]at h;omega
  obtain⟨V,hs,h0,ha⟩:=Uo hc;have hr:=Ux n;have hw:cS n=(wid n:Int):=by unfold wid;unfold cS;omega
  have hcl:dT n=jI (fA n.aa):=by unfold dT;rw[if_neg (fun q=>q hc)]
  have hsm:=II hs (by rw[<-hcl];unfold cS at h2;omega);have hsum:((na n.aa:Nat):Int)=fA n.aa:=UQ n.aa 0 hsm;have hcs:dT n=fA n.aa:=by
   rw[hcl];have:dT n<=10:=by unfold cS at h2;omega
   rw[hcl]at this;unfold jI at this |-;split at this
   .omega
   .rename_i q;rw[if_neg q]
  refine⟨V,hs,h0,ha,hc,by omega,hw,by omega,hsm,?_⟩;unfold cS at hw;omega
 .rw[if_pos hc]at h;exact absurd h hc
def bS(n:aD)(k:Nat):List Bool×List (List aN):=(nB n (di k (wid n)) []).2
def gJ(n:aD)(k:Nat):cr.T:=((bS n k).1,((bS n k).2,()))
def nW(n:aD)(k:Nat):Bool:=decide (po (bz n) (bS n k).1 (bS n k).2=0)
def h9(n:aD)(k:Nat):List Nat:=(List.range k).filter (nW n)
def fK(n:aD)(k:Nat):List cr.T:=(h9 n k).map (gJ n)
theorem Un(n:aD)(k:Nat):h9 n (k+1)=h9 n k++(if nW n k=true then[k]else[]):=by unfold h9;rw[List.range_succ,List.filter_append];congr 1;cases h:nW n k<;>simp[h]
theorem vj(n:aD)(k:Nat):(h9 n k).length<=k:=by have:=List.length_filter_le (nW n) (List.range k);rw[List.length_range]at this;exact this
section
variable{n:aD}{V:Nat}(t:iS n V)
include t
theorem zT(k:Nat):nB n (di k (wid n)) []=(0,((di k (wid n)).take n.ax.length,gY n ((di k (wid n)).drop n.ax.length) n.aa.length)):=by unfold nB;have h1:=t.wd;have h2:=t.oC;unfold cS at h1;rw[if_neg (fun q=>q t.hc),if_neg (by omega),if_pos ⟨by rw[kS];omega,rfl⟩]
theorem sN(k:Nat):(bS n k).1.length=n.ax.length/\(bS n k).2.length=n.aa.length/\∀c∈(bS n k).2,c.length<=64:=by
 unfold bS;rw[zT t k];have h1:=t.off;refine⟨?_,IL _ _ _,?_⟩
 .show((di k (wid n)).take n.ax.length).length=_;rw[da,kS];omega
 .intro c hc;have hc:c∈gY n ((di k (wid n)).drop n.ax.length) n.aa.length:=hc;unfold gY at hc;obtain⟨i,hi,rfl⟩:=List.mem_map.1 hc;have hi:=List.mem_range.1 hi;have hx:=aT hi;have hg:n.aa.getD i mz=n.aa[i]:=by rw[dC,hx];rfl
  rw[hg];exact Nat.le_trans (IJ _ _ _) (t.sm _ (List.getElem_mem hi)).jw
theorem Jh(k:Nat):px (bS n k).2:=by
 unfold bS;rw[zT t k];intro c hc i hi;have hc:c∈gY n ((di k (wid n)).drop n.ax.length) n.aa.length:=hc;unfold gY at hc;obtain⟨j,hj,rfl⟩:=List.mem_map.1 hc;have hj:=List.mem_range.1 hj;have hx:=aT hj;have hg:n.aa.getD j mz=n.aa[j]:=by rw[dC,hx];rfl
 rw[hg]at hi |-;have sm:=t.sm _ (List.getElem_mem hj);have hcn:=sm.jw;have w2:=sm.w2;obtain⟨p,hp⟩:∃p,(iW n.aa[j].word.toNat (((di k (wid n)).drop n.ax.length).drop (ez n j)) (2^n.aa[j].addr.toNat))[i]?=some p:=⟨_,aT hi⟩;obtain⟨e1,e2⟩:=UE hp;rw[e1,e2];have hm:=dn hp;unfold iW at hm;obtain⟨a,ha,hm⟩:=List.mem_flatMap.1 hm;have ha:=List.mem_range.1 ha;split at hm
 .cases hm
 .obtain rfl:=List.mem_singleton.1 hm;have hlt:=mg (((((di k (wid n)).drop n.ax.length).drop (ez n j)).drop (a*n.aa[j].word.toNat)).take n.aa[j].word.toNat);have h64:(2:Nat)^(((((di k (wid n)).drop n.ax.length).drop (ez n j)).drop (a*n.aa[j].word.toNat)).take n.aa[j].word.toNat).length<=2^64:=Nat.pow_le_pow_right (by omega) (by rw[da];omega);have h65:(2:Nat)^64=18446744073709551616:=rfl;refine⟨⟨?_,?_⟩,⟨?_,?_⟩⟩
  .show(0:Int)<=(a:Int);omega
  .show(a:Int)<=18446744073709551615;omega
  .show(0:Int)<=((cellAt _ _ _:Nat):Int);omega
  .show((cellAt n.aa[j].word.toNat (((di k (wid n)).drop n.ax.length).drop (ez n j)) a:Nat):Int)<=18446744073709551615;unfold cellAt;omega
variable(ft:Fit n)
include ft
theorem Up(k:Nat):QH (bz n,(((bS n k).1,((bS n k).2,())),()))=some (po (bz n) (bS n k).1 (bS n k).2,())/\P4 (bz n,(((bS n k).1,((bS n k).2,())),()))=some (po (bz n) (bS n k).1 (bS n k).2,()):=by
 have ft':Fit (fx (bz n)):=by rw[oq];exact ft
 have hT:List.length (bz n).2.2.2.2.2.2.1<=100000:=by show(n.aa.map av).length<=_;rw[aO];have:=ft.aa.1;omega
 have hL:List.length (bz n).2.2.1<=100000:=by show(n.ax.map bM).length<=_;rw[aO];have:=ft.aF.1;omega
 exact⟨aj2 (bz n) _ _ ft' hL hT,aj6 (bz n) _ _ ft' hL hT (Jh t k)⟩
end
section
variable{n:aD}{V:Nat}
theorem Jc{k:Nat}(hk:k<=1024):IntKind.wrap .u64 (k:Int)=(k:Int):=jU (by omega)
end
section
variable{n:aD}{V:Nat}(t:iS n V)
variable(ft:Fit n)
include t
include ft
theorem Iz{k:Nat}(hk:k<=1024):zp (bz n,((di k (wid n),([],())),()))=some (gJ n k,((0:Int),()))/\Te (bz n,((di k (wid n),([],())),()))=some (gJ n k,((0:Int),())):=by
 have h2:=t.oC;obtain⟨b1,b2⟩:=afy ft (di k (wid n)) [] (by rw[kS];omega);have e:(nB n (di k (wid n)) []).1=0:=by rw[zT t k]
 rw[e]at b1 b2;exact⟨b1,b2⟩
end
section
variable{n:aD}{V:Nat}(t:iS n V)
include t
theorem kO:(2:Nat)^wid n<=1024:=Nat.pow_le_pow_right (n:=2) (by omega) t.oC
end
section
variable{n:aD}{V:Nat}(t:iS n V)
include t
theorem Vv:IntKind.wrap .i64 ((1:Int)*(HPow.hPow (2:Int) (Min.min (Int.toNat (cS n)) 64)))=((2^wid n:Nat):Int):=by
 have h:=kO t;have h2:=t.oC;rw[t.wd,Int.toNat_natCast,Nat.min_eq_left (by omega),Int.one_mul];have:(2:Int)^wid n=((2^wid n:Nat):Int):=by push_cast;rfl
 rw[this];exact(show ∀N:Nat,N<=1024->IntKind.wrap .i64 (N:Int)=(N:Int)from fun N h=>bZ (by omega)) _ h
end
section
variable{n:aD}{V:Nat}(t:iS n V)
variable(ft:Fit n)
include t
include ft
theorem Uv{k:Nat}(hk:k<=1024):G4 (bz n,((k:Int),()))=some (gJ n k,()):=by
 have d2:=vi ft;have h2:=t.oC;have e1:oO (IntKind.wrap .u64 (k:Int),(IntKind.wrap .i64 (Int.ofNat (List.length (n.ax.map bM))+dT n),()))=some (di k (wid n),()):=by rw[vG ft,Jc hk,t.wd];exact DI k (wid n) (by omega) (by omega)
 exact af d2 (af e1 (af (Iz t ft hk).2 (ai (ak rfl) rfl)))
theorem IB:Hh (bz n,())=some (((2^wid n:Nat):Int),()):=by
 have d2:=vi ft;have h2:=t.oC;have hw:IntKind.wrap .u64 (IntKind.wrap .i64 (Int.ofNat (List.length (n.ax.map bM))+dT n))=cS n:=by rw[vG ft,t.wd];exact jU (by omega)
 have m:=Vv t;refine af d2 (ai (show iE (0:Int) (IntKind.wrap .u64 (IntKind.wrap .i64 (Int.ofNat (List.length (n.ax.map bM))+dT n)))=true from by rw[hw,t.wd];exact ak (by omega)) ?_);refine U8 ?_;show IntKind.wrap .i64 ((1:Int)*(HPow.hPow (2:Int) (Min.min (Int.toNat (IntKind.wrap .u64 (IntKind.wrap .i64 (Int.ofNat (List.length (n.ax.map bM))+dT n)))) 64)))=_;rw[hw];exact m
end
section
variable{n:aD}{V:Nat}
theorem VE{L:List cr.T}{x:cr.T}(h:L.length<=100000):room 48 (List.length (L++(x::[])))=true:=pj (by omega) (by omega)
end
section
variable{n:aD}{V:Nat}(t:iS n V)
variable(ft:Fit n)
include t
include ft
theorem afk:adJ (bz n,())=some (fK n (2^wid n),()):=by
 have hp:=kO t;have m:=IB t ft;have e3:Sx ((0:Int),nt n ([],()))=some (fK n (2^wid n),()):=by
  unfold Sx;delta jO;refine cu (fun k:Nat=>((k:Int),nt n (fK n k,()))) (2^wid n) rfl ?_ ?_ (bt (by omega))
  .intro k hk;have s:=Uv t ft (k:=k) (by omega);have l:=(Up t ft k).2;have hl:=vj n k;have hr:room 48 (List.length (fK n k++[gJ n k]))=true:=VE (by unfold fK;rw[aO];omega);have e:∀(p q:Int) (A B:List cr.T),p=q->A=B->(some (.inl (p,nt n (A,()))):Option (TL yG.σs⊕Out yy))=some (.inl (q,nt n (B,()))):=by rintro _ _ _ _ rfl rfl;rfl
   have hk1:IntKind.wrap .i64 ((k:Int)+1)=((k+1:Nat):Int):=bG (x:=(k:Int)+1) (n:=k+1) (by omega) (by omega);have hst:fK n (k+1)=fK n k++(if nW n k=true then[gJ n k]else[]):=by unfold fK;rw[Un,dV];congr 1;split<;>rfl
   by_cases q:po (bz n) (bS n k).1 (bS n k).2=0
   .have hb:nW n k=true:=bg q;rw[if_pos hb]at hst;exact af m (ao (ak (show(k:Int)<((2^wid n:Nat):Int) by omega)) (af s (af l (ao (ak q) (ai hr (e _ _ _ _ hk1 hst.symm))))))
   .have hb:¬nW n k=true:=fun r=>q (of_decide_eq_true r);rw[if_neg hb,dF]at hst;exact af m (ao (ak (show(k:Int)<((2^wid n:Nat):Int) by omega)) (af s (af l (ag (aA q) (e _ _ _ _ hk1 hst.symm)))))
  .exact af m (ag (aA (show ¬((2^wid n:Nat):Int)<((2^wid n:Nat):Int) by omega)) rfl)
 exact af e3 rfl
theorem afR:TQ (bz n,())=some (fK n (2^wid n),((0:Int),())):=by
 have hp:=kO t;have h2:=t.oC;have hsm:k7 n=0:=by unfold k7;have:=t.ins;rw[if_neg (fun q=>q t.hc),if_neg (by omega),if_neg (by rw[t.wd];omega)]
 have s0:=(IH ft).1;rw[hsm]at s0;have d1:=vl ft;have e6:H0 (((2^wid n:Nat):Int),((0:Int),nt n ([],nt n (cS n,()))))=some (fK n (2^wid n),()):=by
  unfold H0;delta lT;refine cu (fun k:Nat=>(((2^wid n:Nat):Int),((k:Int),nt n (fK n k,nt n (cS n,()))))) (2^wid n) rfl ?_ ?_ (bt (by omega))
  .intro k hk;have e1:mV (IntKind.wrap .u64 (k:Int),(cS n,()))=some (di k (wid n),()):=by rw[Jc (by omega),t.wd];exact vk k (wid n) (by omega) (by omega)
   have b:=(Iz t ft (k:=k) (by omega)).1;have l:=(Up t ft k).1;have hl:=vj n k;have hr:room 48 (List.length (fK n k++[gJ n k]))=true:=VE (by unfold fK;rw[aO];omega);have e:∀(p q:Int) (A B:List cr.T),p=q->A=B->(some (.inl (((2^wid n:Nat):Int),(p,nt n (A,nt n (cS n,()))))):Option (TL zf.σs⊕Out za))=some (.inl (((2^wid n:Nat):Int),(q,nt n (B,nt n (cS n,()))))):=by rintro _ _ _ _ rfl rfl;rfl
   have hk1:IntKind.wrap .i64 ((k:Int)+1)=((k+1:Nat):Int):=bG (x:=(k:Int)+1) (n:=k+1) (by omega) (by omega);have hst:fK n (k+1)=fK n k++(if nW n k=true then[gJ n k]else[]):=by unfold fK;rw[Un,dV];congr 1;split<;>rfl
   by_cases q:po (bz n) (bS n k).1 (bS n k).2=0
   .have hb:nW n k=true:=bg q;rw[if_pos hb]at hst;exact ao (ak (show(k:Int)<((2^wid n:Nat):Int) by omega)) (af e1 (af b (ai (ak rfl) (af l (ao (ak q) (ai hr (e _ _ _ _ hk1 hst.symm)))))))
   .have hb:¬nW n k=true:=fun r=>q (of_decide_eq_true r);rw[if_neg hb,dF]at hst;exact ao (ak (show(k:Int)<((2^wid n:Nat):Int) by omega)) (af e1 (af b (ai (ak rfl) (af l (ag (aA q) (e _ _ _ _ hk1 hst.symm))))))
  .exact ag (aA (show ¬((2^wid n:Nat):Int)<((2^wid n:Nat):Int) by omega)) rfl
 have w:=vG ft;have e6':H0 (IntKind.wrap .i64 ((1:Int)*(HPow.hPow (2:Int) (Min.min (Int.toNat (IntKind.wrap .i64 (Int.ofNat (List.length (n.ax.map bM))+dT n))) 64))),((0:Int),nt n ([],nt n (IntKind.wrap .i64 (Int.ofNat (List.length (n.ax.map bM))+dT n),()))))=some (fK n (2^wid n),()):=by rw[w,Vv t];exact e6
 have hchk:iE (0:Int) (IntKind.wrap .i64 (Int.ofNat (List.length (n.ax.map bM))+dT n))=true:=by rw[w,t.wd];exact ak (by omega)
 exact af s0 (ag (dH (ak rfl)) (af d1 (ai hchk (af e6' rfl))))
end
theorem afS{n:aD}(ft:Fit n)(h:k7 n≠0):TQ (bz n,())=some ([],(k7 n,())):=af (IH ft).1 (ao (fZ (aA h)) rfl)
