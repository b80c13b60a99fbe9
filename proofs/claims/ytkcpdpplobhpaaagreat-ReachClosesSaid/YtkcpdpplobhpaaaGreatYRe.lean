import Derived.Test.YtkcpdpplobhpaaaGreatYRb
import Derived.Test.YtkcpdpplobhpaaaGreatYRd
set_option linter.unusedVariables false
set_option linter.unusedSimpArgs false
set_option linter.unnecessarySimpa false
section
namespace Go.Proofs.YtkcpdpplobhpaaaGreat.V
open Go Go.RowKit
set_option maxRecDepth 1000000
abbrev Pp:Lay:={ T:=[(0,.ptr 0 0),(1,.agg [.fz .bool,.fz (.sl aB)])],h:=[(0,.cells [.int .i64,.fz (.int .i64),.fz ae,.fz (.int .i64),.fz (.int .i64),.fz (.int .i64),.fz ab,.fz ae,.fz ah,.hd 1 .bool,.cT 2] 145),(1,.arr .bool 4),(2,.cQ 220)],nx:=3 }
abbrev xA:List (Ev.Ex×Lay):=[(.ret,{ T:=[(0,.int .i64)],h:=[(0,.cells [.int .i64,.fz (.int .i64),.fz ae,.fz (.int .i64),.fz (.int .i64),.fz (.int .i64),.fz ab,.fz ae,.fz ah,.hd 3 .bool,.cT 4] 145),(3,.arr .bool 4),(4,.cQ 220)],nx:=5 })]
abbrev EG:=TL Pp.σs->Option (Out xA)
abbrev xE:=Kb 217 2 Pp 1 xA
def aaW(F0:rU)(F1:rR)(F2:Bm)(ig:List Bool)(fP:List (List (Sh.T aB)))(aE:Int)(aD:List Int)(aF:List (Sh.T ae))(aH aJ aK:List Int)(aC:List (Sh.T ab))(aG:List (Sh.T ae))(cd:List (Sh.T ah))(b1:List Bool)(b2:List (Sh.T (.agg [(.int .i64),(.int .i64),(.sl aB)]))):Option (Out xA):=
 ar (F2 (aE,(aD,(aF,(aH,(aJ,(aK,(aC,(aG,(ig,(fP,()))))))))))) fun x0=>
 br (Bool.not (iQ x0.1 (0:Int)))
 (
  some (x0.1,(aE,(aD,(aF,(aH,(aJ,(aK,(aC,(aG,(cd,(b1,(b2,())))))))))))))
 (
  ar (F1 (ig,())) fun x1=>
  some ((0:Int),(aE,(aD,(aF,(aH,(aJ,(aK,(aC,(aG,(cd,(x1.1,(x0.2.1,())))))))))))))
def aaX(c0:rW)(c1:rS)(c2:vc) :xE:=⟨nC (aaW c0.F c1.F c2.F),pB Tryz.func217 31 (kB c0 (kB c1 (kB c2 k0))) e0 1 (sS l0) fun d=>by kernel_rfl⟩
def EF:xE:=aaX rV p9 Bn
def Ps:EG:=EF.F
abbrev zM:Lay:={ T:=[(0,.fz .bool),(1,.bool),(7,.int .i64),(8,.int .i64)],h:=[],nx:=0 }
abbrev zL:List (Ev.Ex×Lay):=[(.ret,{ T:=[(4,.int .i64)],h:=[],nx:=0 }),((.exit 0),{ T:=[],h:=[],nx:=0 })]
abbrev V8:=TL zM.σs->Option (Out zL)
abbrev Wa:=Ld 0 19 (bp [0] (aW Tryz.f218)) zM zL
def uR(t0:List Bool)(t1:Bool)(t7 t8:Int):Option (TL zM.σs⊕Out zL):=
 br (iL t8 t7)
 (
  ai (aA t8 (List.length t0))<|
  br (@decide _ (Bool.decEq t1 (gt .bool t0 t8)))
  (
   some (.inr (.inl (t8,()))))
  (
   some (.inl (t0,(t1,(t7,((IntKind.wrap .i64 (t8+(1:Int))),())))))))
 (
  some (.inr (.inr ())))
def ai3  :Wa:=bw (u4 uR) (pL k0 e0 1 l0 fun d=>by kernel_rfl)
def IJ:V8:=aQ (u4 uR) NN
abbrev V6:List Sh:=[(.sl .bool),.bool]
abbrev II:List Sh:=[(.int .i64)]
abbrev IP:=TL V6->Option (TL II)
abbrev zP:=Kd 218 V6 II
def ai7(L2:V8)(a0:List Bool)(a1:Bool):Option (TL II):=
 ar (L2 (a0,(a1,((Int.ofNat (List.length a0)),((0:Int),()))))) fun x0=>
 (match x0 with|.inl x1=>some (x1.1,())|.inr x1=>some ((Int.negSucc 0),())
 )
def ai6(M2:Wa):zP:=⟨u2 (ai7 M2.L),pD Tryz.func218 19 k0 e0 1 (sS (sC M2 l0)) fun d=>by kernel_rfl⟩
def IQ:zP:=ai6  ai3
def V9:IP:=IQ.F
abbrev PW:List Sh:=[bf]
abbrev E8:List Sh:=[(.int .i64)]
abbrev P5:=TL PW->Option (TL E8)
abbrev Ff:=Kd 51 PW E8
def abq(F0:rh)(F1:qe)(a0:Sh.T bf):Option (TL E8):=
 ar (F1 (a0,())) fun x0=>
 br (Bool.not (iQ x0.1 (0:Int)))
 (
  some (x0.1,()))
 (
  br (iL (6:Int) (Int.ofNat (List.length a0.2.1)))
  (
   some ((17:Int),()))
  (
   ar (F0 (a0,())) fun x1=>
   br (aR false true (iL (10:Int) (IntKind.wrap .i64 (@HAdd.hAdd (Int) (Int) (Int) _ (Int.ofNat (List.length a0.2.2.1)) x1.1))))
   (
    some ((17:Int),()))
   (
    some ((0:Int),()))))
def abr(c0:pG)(c1:oQ) :Ff:=⟨u1 (abq c0.F c1.F),pD Tryz.func51 22 (kD c0 (kD c1 k0)) e0 1 (sS l0) fun d=>by kernel_rfl⟩
def P4:Ff:=abr q9 qf
def abj:P5:=P4.F
abbrev xN:Lay:={ T:=[(1,.ptr 0 0),(2,.hd 1 cF),(5,.ptr 2 0),(26,.int .i64),(27,.int .i64)],h:=[(0,.cells fL 27),(1,.arr cF 40),(2,.cells [.int .i64,.fz (.int .i64),.fz ae,.fz (.int .i64),.fz (.int .i64),.fz (.int .i64),.fz ab,.fz ae,.int .i64,.dR,.bz,.di] 100)],nx:=3 }
abbrev xJ:List (Ev.Ex×Lay):=[((.exit 0),{ T:=[(2,.hd 0 cF)],h:=[(0,.arr cF 40)],nx:=1 })]
abbrev PK:=TL xN.σs->Option (Out xJ)
abbrev ES:=Ld 0 43 (bp [0] (aW Tryz.f15)) xN xJ
def PI(F0:tT)(F1:nP)(F2:Kh)(t26 t27 aE:Int)(aD:List Int)(aF:List (Sh.T ae))(aH aJ aK:List Int)(aC:List (Sh.T ab))(aG:List (Sh.T ae))(b1:List (Sh.T cF))(bN:Int)(bS:List Int)(bT:List (Sh.T ae))(bU bV bW:List Int)(bX:List (Sh.T ab))(bZ:List (Sh.T ae))(sj:Int):Option (TL xN.σs⊕Out xJ):=
 br (iL t27 t26)
 (
  ar (F1 ((IntKind.wrap .u64 t27),(sj,()))) fun x0=>
  ar (F0 ((bN,(bS,(bT,(bU,(bV,(bW,(bX,(bZ,())))))))),((x0.1,([],())),()))) fun x1=>
  ai (iQ x1.2.1 x1.2.1)<|
  ar (F2 ((aE,(aD,(aF,(aH,(aJ,(aK,(aC,(aG,())))))))),((x1.1.1,(x1.1.2.1,())),()))) fun x2=>
  br (iQ x2.1 (0:Int))
  (
   ai (room 48 (List.length (ap b1 ((x1.1.1,(x1.1.2.1,()))::[]))))<|
   some (.inl (t26,((IntKind.wrap .i64 (t27+(1:Int))),(aE,(aD,(aF,(aH,(aJ,(aK,(aC,(aG,((ap b1 ((x1.1.1,(x1.1.2.1,()))::[])),(bN,(bS,(bT,(bU,(bV,(bW,(bX,(bZ,(sj,()))))))))))))))))))))))
  (
   some (.inl (t26,((IntKind.wrap .i64 (t27+(1:Int))),(aE,(aD,(aF,(aH,(aJ,(aK,(aC,(aG,(b1,(bN,(bS,(bT,(bU,(bV,(bW,(bX,(bZ,(sj,())))))))))))))))))))))))
 (
  some (.inr (b1,())))
def aa5(c0:rj)(c1:mO)(c2:Bc) :ES:=bw (nD (PI c0.F c1.F c2.F)) (pL (kD c0 (kD c1 (kD c2 k0))) (eC Tryz.func53 (by kernel_rfl) e0) 5 l0 fun d=>by kernel_rfl)
def aa6:ES:=aa5 tS nR Ki
def ET:PK:=aQ (nD (PI xX l9 Nl)) NN
abbrev PL:List Sh:=[bf]
abbrev EU:List Sh:=[(.sl cF),(.int .i64)]
abbrev PS:=TL PL->Option (TL EU)
abbrev E5:=Kd 15 PL EU
def abf(F0:tT)(F1:nP)(F2:Kh)(F3:rh)(F4:P5)(L6:PK)(a0:Sh.T bf):Option (TL EU):=
 ar (F4 (a0,())) fun x0=>
 br (Bool.not (iQ x0.1 (0:Int)))
 (
  some ([],(x0.1,())))
 (
  ar (F3 (a0,())) fun x1=>
  ai (iE (0:Int) (IntKind.wrap .i64 (@HAdd.hAdd (Int) (Int) (Int) _ (Int.ofNat (List.length a0.2.2.1)) x1.1)))<|
  ar (L6 ((IntKind.wrap .i64 ((1:Int)*(HPow.hPow (2:Int) (Min.min (Int.toNat (IntKind.wrap .i64 (@HAdd.hAdd (Int) (Int) (Int) _ (Int.ofNat (List.length a0.2.2.1)) x1.1))) 64)))),((0:Int),(a0.1,(a0.2.1,(a0.2.2.1,(a0.2.2.2.1,(a0.2.2.2.2.1,(a0.2.2.2.2.2.1,(a0.2.2.2.2.2.2.1,(a0.2.2.2.2.2.2.2.1,([],(a0.1,(a0.2.1,(a0.2.2.1,(a0.2.2.2.1,(a0.2.2.2.2.1,(a0.2.2.2.2.2.1,(a0.2.2.2.2.2.2.1,(a0.2.2.2.2.2.2.2.1,((IntKind.wrap .i64 (@HAdd.hAdd (Int) (Int) (Int) _ (Int.ofNat (List.length a0.2.2.1)) x1.1)),()))))))))))))))))))))) fun x2=>
  some (x2.1,((0:Int),())))
def abg(c0:rj)(c1:mO)(c2:Bc)(c3:pG)(c4:Ff)(M6:ES):E5:=⟨u1 (abf c0.F c1.F c2.F c3.F c4.F M6.L),pD Tryz.func15 43 (kD c0 (kD c1 (kD c2 (kD c3 (kD c4 k0))))) (eC Tryz.func53 (by kernel_rfl) e0) 5 (sS (sC M6 l0)) fun d=>by kernel_rfl⟩
def PR:E5:=abg tS nR Ki q9 P4 aa6
def PJ:PS:=PR.F
abbrev PM:Lay:={ T:=[(0,.agg fL)],h:=[],nx:=0 }
abbrev vM:List (Nat×LO):=[(0,.cells [.int .i64,.fz (.int .i64),.fz ae,.fz (.int .i64),.fz (.int .i64),.fz (.int .i64),.fz ab,.fz ae,.int .i64,.mp 1,.hd 2 (.int .i64),.ptr 3 0] 100),(1,.map .i64 fe),(2,.arr (.int .i64) 3),(3,.cells [.int .i64,.fz (.int .i64),.fz ae,.fz (.int .i64),.fz (.int .i64),.fz (.int .i64),.fz ab,.fz ae,.fz ah,.hd 4 .bool,.cT 5] 145),(4,.arr .bool 4),(5,.cQ 220)]
abbrev Lu:List (Nat×LO):=[(0,.cells [.int .i64,.fz (.int .i64),.fz ae,.fz (.int .i64),.fz (.int .i64),.fz (.int .i64),.fz ab,.fz ae,.int .i64,.mp 1,.hd 2 (.int .i64),.ptr 3 0] 100),(1,.map .i64 fe),(2,.arr (.int .i64) 3),(3,.cells [.int .i64,.fz (.int .i64),.fz ae,.fz (.int .i64),.fz (.int .i64),.fz (.int .i64),.fz ab,.fz ae,.fz ah,.hd 6 .bool,.cT 7] 145),(6,.arr .bool 4),(7,.cQ 220),(8,.cells [.int .i64,.int .i64] 108),(9,.arr (.int .i64) 3)]
abbrev Lv:List (Nat×LO):=[(0,.cells [.int .i64,.fz (.int .i64),.fz ae,.fz (.int .i64),.fz (.int .i64),.fz (.int .i64),.fz ab,.fz ae,.int .i64,.mp 1,.hd 6 (.int .i64),.ptr 3 0] 100),(1,.map .i64 fe),(3,.cells [.int .i64,.fz (.int .i64),.fz ae,.fz (.int .i64),.fz (.int .i64),.fz (.int .i64),.fz ab,.fz ae,.fz ah,.hd 7 .bool,.cT 8] 145),(6,.arr (.int .i64) 3),(7,.arr .bool 4),(8,.cQ 220),(9,.cells [.int .i64,.int .i64] 108)]
abbrev Zo:Lay:={ T:=[(2,.ptr 8 0),(3,.int .i64),(4,.bool)],h:=[(0,.cells [.int .i64,.fz (.int .i64),.fz ae,.fz (.int .i64),.fz (.int .i64),.fz (.int .i64),.fz ab,.fz ae,.int .i64,.mp 1,.hd 2 (.int .i64),.ptr 3 0] 100),(1,.map .i64 fe),(2,.arr (.int .i64) 3),(3,.cells [.int .i64,.fz (.int .i64),.fz ae,.fz (.int .i64),.fz (.int .i64),.fz (.int .i64),.fz ab,.fz ae,.fz ah,.hd 6 .bool,.cT 7] 145),(6,.arr .bool 4),(7,.cQ 220),(8,.cells [.int .i64,.int .i64] 108)],nx:=9 }
abbrev Zp:List (Nat×LO):=[(0,.cells [.int .i64,.fz (.int .i64),.fz ae,.fz (.int .i64),.fz (.int .i64),.fz (.int .i64),.fz ab,.fz ae,.int .i64,.mp 1,.hd 6 (.int .i64),.ptr 3 0] 100),(1,.map .i64 fe),(3,.cells [.int .i64,.fz (.int .i64),.fz ae,.fz (.int .i64),.fz (.int .i64),.fz (.int .i64),.fz ab,.fz ae,.fz ah,.hd 7 .bool,.cT 8] 145),(6,.arr (.int .i64) 3),(7,.arr .bool 4),(8,.cQ 220)]
abbrev Zq:Lay:={ T:=[(0,.ptr 0 0),(2,.ptr 8 0),(5,.hd 9 (.int .i64)),(6,.func 187 [.ptr 0 0] []),(20,.hd 2 (.int .i64)),(21,.int .i64),(22,.int .i64)],h:=Lu,nx:=10 }
abbrev EL:List (Ev.Ex×Lay):=[(.ret,{ T:=[(0,.di),(1,.int .i64)],h:=[],nx:=0 }),(.ret,{ T:=[(0,.ptr 0 0),(1,.int .i64)],h:=vM,nx:=6 })]
abbrev P3:=TL PM.σs->Option (Out EL)
abbrev Fe:=Kb 59 1 PM 2 EL
abbrev xQ:Lay:={ T:=[(5,.int .i64),(6,.ptr 0 0),(38,.fz cF),(39,.int .i64),(40,.int .i64)],h:=vM,nx:=6 }
abbrev xO:List (Ev.Ex×Lay):=[((.exit 0),{ T:=[(5,.int .i64),(6,.ptr 0 0)],h:=vM,nx:=6 })]
abbrev PV:=TL xQ.σs->Option (Out xO)
abbrev E6:=Ld 0 66 (bp [0] (aW Tryz.f59)) xQ xO
def PT(F0:pI)(F4:tN)(t5:Int)(t38:List (Sh.T cF))(t39 t40 aE:Int)(aD:List Int)(aF:List (Sh.T ae))(aH aJ aK:List Int)(aC:List (Sh.T ab))(aG:List (Sh.T ae))(cd:Int)(b1:List (Sh.T (.agg [(.int .i64),fe])))(b2:List Int)(h9:Int)(da:List Int)(ia:List (Sh.T ae))(ib ic jL:List Int)(jM:List (Sh.T ab))(jN:List (Sh.T ae))(jO:List (Sh.T ah))(b4:List Bool)(b5:List (Sh.T (.agg [(.int .i64),(.int .i64),(.sl aB)]))):Option (TL xQ.σs⊕Out xO):=
 br (iL t40 t39)
 (
  ai (aA t40 (List.length t38))<|
  ar (F4 (aE,(aD,(aF,(aH,(aJ,(aK,(aC,(aG,((gt cF t38 t40).1,((gt cF t38 t40).2.1,()))))))))))) fun x0=>
  ai (iQ x0.1 x0.1)<|
  ar (F0 (x0.2.1,())) fun x1=>
  ai (room 8 (List.length (ap b2 ((IntKind.wrap .i64 x1.1)::[]))))<|
  some (.inl (t5,(t38,(t39,((IntKind.wrap .i64 (t40+(1:Int))),(aE,(aD,(aF,(aH,(aJ,(aK,(aC,(aG,(cd,((@dp fe (IntKind.wrap .i64 x1.1) ((Int.negSucc 0),((0:Int),())) b1),((ap b2 ((IntKind.wrap .i64 x1.1)::[])),(h9,(da,(ia,(ib,(ic,(jL,(jM,(jN,(jO,(b4,(b5,()))))))))))))))))))))))))))))
 (
  some (.inr (t5,(aE,(aD,(aF,(aH,(aJ,(aK,(aC,(aG,(cd,(b1,(b2,(h9,(da,(ia,(ib,(ic,(jL,(jM,(jN,(jO,(b4,(b5,())))))))))))))))))))))))))
def abh(c0:ow)(c4:ri) :E6:=bw (fun d=>PT c0.F c4.F  d.1 d.2.1 d.2.2.1 d.2.2.2.1 d.2.2.2.2.1 d.2.2.2.2.2.1 d.2.2.2.2.2.2.1 d.2.2.2.2.2.2.2.1 d.2.2.2.2.2.2.2.2.1 d.2.2.2.2.2.2.2.2.2.1 d.2.2.2.2.2.2.2.2.2.2.1 d.2.2.2.2.2.2.2.2.2.2.2.1 d.2.2.2.2.2.2.2.2.2.2.2.2.1 d.2.2.2.2.2.2.2.2.2.2.2.2.2.1 d.2.2.2.2.2.2.2.2.2.2.2.2.2.2.1 d.2.2.2.2.2.2.2.2.2.2.2.2.2.2.2.1 d.2.2.2.2.2.2.2.2.2.2.2.2.2.2.2.2.1 d.2.2.2.2.2.2.2.2.2.2.2.2.2.2.2.2.2.1 d.2.2.2.2.2.2.2.2.2.2.2.2.2.2.2.2.2.2.1 d.2.2.2.2.2.2.2.2.2.2.2.2.2.2.2.2.2.2.2.1 d.2.2.2.2.2.2.2.2.2.2.2.2.2.2.2.2.2.2.2.2.1 d.2.2.2.2.2.2.2.2.2.2.2.2.2.2.2.2.2.2.2.2.2.1 d.2.2.2.2.2.2.2.2.2.2.2.2.2.2.2.2.2.2.2.2.2.2.1 d.2.2.2.2.2.2.2.2.2.2.2.2.2.2.2.2.2.2.2.2.2.2.2.1 d.2.2.2.2.2.2.2.2.2.2.2.2.2.2.2.2.2.2.2.2.2.2.2.2.1 d.2.2.2.2.2.2.2.2.2.2.2.2.2.2.2.2.2.2.2.2.2.2.2.2.2.1) (pL (kD c0 (kB c4 k0)) (eC Tryz.func118 (by kernel_rfl) e0) 5 l0 fun d=>by kernel_rfl)
def abi:E6:=abh pH tM
def E7:PV:=aQ (fun d=>PT tV xU  d.1 d.2.1 d.2.2.1 d.2.2.2.1 d.2.2.2.2.1 d.2.2.2.2.2.1 d.2.2.2.2.2.2.1 d.2.2.2.2.2.2.2.1 d.2.2.2.2.2.2.2.2.1 d.2.2.2.2.2.2.2.2.2.1 d.2.2.2.2.2.2.2.2.2.2.1 d.2.2.2.2.2.2.2.2.2.2.2.1 d.2.2.2.2.2.2.2.2.2.2.2.2.1 d.2.2.2.2.2.2.2.2.2.2.2.2.2.1 d.2.2.2.2.2.2.2.2.2.2.2.2.2.2.1 d.2.2.2.2.2.2.2.2.2.2.2.2.2.2.2.1 d.2.2.2.2.2.2.2.2.2.2.2.2.2.2.2.2.1 d.2.2.2.2.2.2.2.2.2.2.2.2.2.2.2.2.2.1 d.2.2.2.2.2.2.2.2.2.2.2.2.2.2.2.2.2.2.1 d.2.2.2.2.2.2.2.2.2.2.2.2.2.2.2.2.2.2.2.1 d.2.2.2.2.2.2.2.2.2.2.2.2.2.2.2.2.2.2.2.2.1 d.2.2.2.2.2.2.2.2.2.2.2.2.2.2.2.2.2.2.2.2.2.1 d.2.2.2.2.2.2.2.2.2.2.2.2.2.2.2.2.2.2.2.2.2.2.1 d.2.2.2.2.2.2.2.2.2.2.2.2.2.2.2.2.2.2.2.2.2.2.2.1 d.2.2.2.2.2.2.2.2.2.2.2.2.2.2.2.2.2.2.2.2.2.2.2.2.1 d.2.2.2.2.2.2.2.2.2.2.2.2.2.2.2.2.2.2.2.2.2.2.2.2.2.1) NN
def abo(F0:pI)(F1:XR)(F2:rh)(F3:PS)(F4:tN)(F5:KO)(L7:PV)(dq:Int)(fO:List Int)(fm:List (Sh.T ae))(gn gp gr:List Int)(dS:List (Sh.T ab))(fZ:List (Sh.T ae)):Option (Out EL):=
 ar (F3 ((dq,(fO,(fm,(gn,(gp,(gr,(dS,(fZ,())))))))),())) fun x0=>
 br (Bool.not (iQ x0.2.1 (0:Int)))
 (
  some (.inl (x0.2.1,())))
 (
  ar (F2 ((dq,(fO,(fm,(gn,(gp,(gr,(dS,(fZ,())))))))),())) fun x1=>
  ar (F1 ((dq,(fO,(fm,(gn,(gp,(gr,(dS,(fZ,())))))))),())) fun x2=>
  ar (F5 (dq,(fO,(fm,(gn,(gp,(gr,(dS,(fZ,(x2.1.1,(x2.1.2.1,()))))))))))) fun x3=>
  (match x3 with
  |.inl x4=>
   ai (iQ x4.1 x4.1)<|
   none
  |.inr x4=>
   ai (iQ x4.1 x4.1)<|
   ar (L7 (x4.1,(x0.1,((Int.ofNat (List.length x0.1)),((0:Int),(dq,(fO,(fm,(gn,(gp,(gr,(dS,(fZ,((IntKind.wrap .i64 (@HAdd.hAdd (Int) (Int) (Int) _ (Int.ofNat (List.length fm)) x1.1)),([],([],x4.2)))))))))))))))) fun x5=>
   some (.inr x5)
  ))
def abp(c0:ow)(c1:J5)(c2:pG)(c3:E5)(c4:ri)(c5:Bz)(M7:E6):Fe:=⟨u8 (abo c0.F c1.F c2.F c3.F c4.F c5.F M7.L),pB Tryz.func59 66 (kD c0 (kD c1 (kD c2 (kD c3 (kB c4 (kB c5 k0)))))) (eC Tryz.func118 (by kernel_rfl) e0) 5 (sS (sC M7 l0)) fun d=>by kernel_rfl⟩
def P0:Fe:=abp pH XS q9 PR tM KP abi
def PU:P3:=P0.F
abbrev OM:Lay:={ T:=[(0,.ptr 0 0)],h:=vM,nx:=6 }
abbrev D7:List (Ev.Ex×Lay):=[(.ret,{ T:=[(0,.agg [.int .i64,.int .i64]),(1,.int .i64),(2,.bool)],h:=Zp,nx:=9 })]
abbrev EA:=TL OM.σs->Option (Out D7)
abbrev xz:=Kb 119 1 OM 3 D7
abbrev xo:Lay:=Zq
abbrev qW:List (Ev.Ex×Lay):=[(.ret,Zo),((.exit 0),{ T:=[(0,.ptr 0 0),(2,.ptr 8 0),(5,.hd 9 (.int .i64))],h:=Lu,nx:=10 })]
abbrev O6:=TL xo.σs->Option (Out qW)
abbrev Er:=Ld 6 84 (bp [0] (aW Tryz.f119)) xo qW
abbrev xp:Lay:={ T:=[(0,.ptr 0 0),(2,.ptr 8 0),(5,.hd 9 (.int .i64)),(6,.func 187 [.ptr 0 0] []),(8,.int .i64),(20,.hd 2 (.int .i64)),(21,.int .i64),(22,.int .i64),(32,.int .i64),(33,.int .i64)],h:=Lu,nx:=10 }
abbrev qX:List (Ev.Ex×Lay):=[(.ret,Zo),((.exit 2),Zq)]
abbrev Et:=TL xp.σs->Option (Out qX)
abbrev xu:=Ld 6 84 (bp [0,0] (aW Tryz.f119)) xp qX
def O3(F0:pI)(F1:tT)(F2:IP)(F3:nP)(F4:tN)(F5:xC)(F6:va)(F7:EG)(t8 t21 t22 t32 t33 aE:Int)(aD:List Int)(aF:List (Sh.T ae))(aH aJ aK:List Int)(aC:List (Sh.T ab))(aG:List (Sh.T ae))(cd:Int)(b1:List (Sh.T (.agg [(.int .i64),fe])))(b2:List Int)(h9:Int)(da:List Int)(ia:List (Sh.T ae))(ib ic jL:List Int)(jM:List (Sh.T ab))(jN:List (Sh.T ae))(jO:List (Sh.T ah))(b6:List Bool)(b7:List (Sh.T (.agg [(.int .i64),(.int .i64),(.sl aB)])))(qj qk:Int)(b9:List Int):Option (TL xp.σs⊕Out qX):=
 br (iL t33 t32)
 (
  ar (F3 ((IntKind.wrap .u64 t8),(cd,()))) fun x0=>
  ar (F1 ((aE,(aD,(aF,(aH,(aJ,(aK,(aC,(aG,())))))))),((x0.1,([],())),()))) fun x1=>
  ai (iQ x1.2.1 x1.2.1)<|
  ar (F7 (x1.1.1,(x1.1.2.1,(h9,(da,(ia,(ib,(ic,(jL,(jM,(jN,(jO,(b6,(b7,())))))))))))))) fun x2=>
  ar (F3 ((IntKind.wrap .u64 t33),((Int.ofNat (List.length aD)),()))) fun x3=>
  ar (F6 (x3.1,x2.2)) fun x4=>
  ai (iQ x4.2.1 x4.2.1)<|
  ar (F5 (x4.2.2.1,(x4.2.2.2.1,(x4.2.2.2.2.1,(x4.2.2.2.2.2.1,(x4.2.2.2.2.2.2.1,(x4.2.2.2.2.2.2.2.1,(x4.2.2.2.2.2.2.2.2.1,(x4.2.2.2.2.2.2.2.2.2.1,(x4.2.2.2.2.2.2.2.2.2.2.1,(x4.2.2.2.2.2.2.2.2.2.2.2.1,(x4.2.2.2.2.2.2.2.2.2.2.2.2.1,())))))))))))) fun x5=>
  ai (bQ x4.1 x4.1)<|
  ar (F4 (aE,(aD,(aF,(aH,(aJ,(aK,(aC,(aG,x5.2.2.2.2.2.2.2.2.2.2.2))))))))) fun x6=>
  ai (iQ x6.1 x6.1)<|
  ar (F0 (x6.2.1,())) fun x7=>
  ai (bQ x4.1 x4.1)<|
  ar (F2 (x4.2.2.2.2.2.2.2.2.2.2.2.2.2.1,(true,()))) fun x8=>
  br (Bool.not x4.1)
  (
   some (.inl (t8,(t21,(t22,(t32,((IntKind.wrap .i64 (t33+(1:Int))),(aE,(aD,(aF,(aH,(aJ,(aK,(aC,(aG,(cd,(b1,(b2,(x5.1,(x5.2.1,(x5.2.2.1,(x5.2.2.2.1,(x5.2.2.2.2.1,(x5.2.2.2.2.2.1,(x5.2.2.2.2.2.2.1,(x5.2.2.2.2.2.2.2.1,(x5.2.2.2.2.2.2.2.2.1,(x5.2.2.2.2.2.2.2.2.2.1,(x5.2.2.2.2.2.2.2.2.2.2.1,(qj,(qk,(b9,()))))))))))))))))))))))))))))))))
  (
   br (iE (0:Int) x8.1)
   (
    some (.inr (.inl (x8.1,(true,(aE,(aD,(aF,(aH,(aJ,(aK,(aC,(aG,(cd,(b1,(b2,(x5.1,(x5.2.1,(x5.2.2.1,(x5.2.2.2.1,(x5.2.2.2.2.1,(x5.2.2.2.2.2.1,(x5.2.2.2.2.2.2.1,(x5.2.2.2.2.2.2.2.1,(x5.2.2.2.2.2.2.2.2.1,(x5.2.2.2.2.2.2.2.2.2.1,(x5.2.2.2.2.2.2.2.2.2.2.1,(t8,(t33,())))))))))))))))))))))))))))))
   (
    br (Bool.not (@cS fe b1 (IntKind.wrap .i64 x7.1)))
    (
     ai (room 8 (List.length (ap b9 ((IntKind.wrap .i64 x7.1)::[]))))<|
     some (.inl (t8,(t21,(t22,(t32,((IntKind.wrap .i64 (t33+(1:Int))),(aE,(aD,(aF,(aH,(aJ,(aK,(aC,(aG,(cd,((@dp fe (IntKind.wrap .i64 x7.1) (t8,(t33,())) b1),(b2,(x5.1,(x5.2.1,(x5.2.2.1,(x5.2.2.2.1,(x5.2.2.2.2.1,(x5.2.2.2.2.2.1,(x5.2.2.2.2.2.2.1,(x5.2.2.2.2.2.2.2.1,(x5.2.2.2.2.2.2.2.2.1,(x5.2.2.2.2.2.2.2.2.2.1,(x5.2.2.2.2.2.2.2.2.2.2.1,(qj,(qk,((ap b9 ((IntKind.wrap .i64 x7.1)::[])),()))))))))))))))))))))))))))))))))
    (
     some (.inl (t8,(t21,(t22,(t32,((IntKind.wrap .i64 (t33+(1:Int))),(aE,(aD,(aF,(aH,(aJ,(aK,(aC,(aG,(cd,(b1,(b2,(x5.1,(x5.2.1,(x5.2.2.1,(x5.2.2.2.1,(x5.2.2.2.2.1,(x5.2.2.2.2.2.1,(x5.2.2.2.2.2.2.1,(x5.2.2.2.2.2.2.2.1,(x5.2.2.2.2.2.2.2.2.1,(x5.2.2.2.2.2.2.2.2.2.1,(x5.2.2.2.2.2.2.2.2.2.2.1,(qj,(qk,(b9,())))))))))))))))))))))))))))))))))))
 (
  some (.inr (.inr (t21,(t22,(aE,(aD,(aF,(aH,(aJ,(aK,(aC,(aG,(cd,(b1,(b2,(h9,(da,(ia,(ib,(ic,(jL,(jM,(jN,(jO,(b6,(b7,(qj,(qk,(b9,()))))))))))))))))))))))))))))))
def aau(c0:ow)(c1:rj)(c2:zP)(c3:mO)(c4:ri)(c5:tI)(c6:rX)(c7:xE) :xu:=bw (fun d=>O3 c0.F c1.F c2.F c3.F c4.F c5.F c6.F c7.F  d.1 d.2.1 d.2.2.1 d.2.2.2.1 d.2.2.2.2.1 d.2.2.2.2.2.1 d.2.2.2.2.2.2.1 d.2.2.2.2.2.2.2.1 d.2.2.2.2.2.2.2.2.1 d.2.2.2.2.2.2.2.2.2.1 d.2.2.2.2.2.2.2.2.2.2.1 d.2.2.2.2.2.2.2.2.2.2.2.1 d.2.2.2.2.2.2.2.2.2.2.2.2.1 d.2.2.2.2.2.2.2.2.2.2.2.2.2.1 d.2.2.2.2.2.2.2.2.2.2.2.2.2.2.1 d.2.2.2.2.2.2.2.2.2.2.2.2.2.2.2.1 d.2.2.2.2.2.2.2.2.2.2.2.2.2.2.2.2.1 d.2.2.2.2.2.2.2.2.2.2.2.2.2.2.2.2.2.1 d.2.2.2.2.2.2.2.2.2.2.2.2.2.2.2.2.2.2.1 d.2.2.2.2.2.2.2.2.2.2.2.2.2.2.2.2.2.2.2.1 d.2.2.2.2.2.2.2.2.2.2.2.2.2.2.2.2.2.2.2.2.1 d.2.2.2.2.2.2.2.2.2.2.2.2.2.2.2.2.2.2.2.2.2.1 d.2.2.2.2.2.2.2.2.2.2.2.2.2.2.2.2.2.2.2.2.2.2.1 d.2.2.2.2.2.2.2.2.2.2.2.2.2.2.2.2.2.2.2.2.2.2.2.1 d.2.2.2.2.2.2.2.2.2.2.2.2.2.2.2.2.2.2.2.2.2.2.2.2.1 d.2.2.2.2.2.2.2.2.2.2.2.2.2.2.2.2.2.2.2.2.2.2.2.2.2.1 d.2.2.2.2.2.2.2.2.2.2.2.2.2.2.2.2.2.2.2.2.2.2.2.2.2.2.1 d.2.2.2.2.2.2.2.2.2.2.2.2.2.2.2.2.2.2.2.2.2.2.2.2.2.2.2.1 d.2.2.2.2.2.2.2.2.2.2.2.2.2.2.2.2.2.2.2.2.2.2.2.2.2.2.2.2.1 d.2.2.2.2.2.2.2.2.2.2.2.2.2.2.2.2.2.2.2.2.2.2.2.2.2.2.2.2.2.1) (pL (kD c0 (kD c1 (kD c2 (kD c3 (kB c4 (kB c5 (kB c6 (kB c7 k0)))))))) (eC Tryz.func118 (by kernel_rfl) (eC Tryz.func53 (by kernel_rfl) (eC Tryz.func187 (by kernel_rfl) e0))) 5 l0 fun d=>by kernel_rfl)
def O5:xu:=aau pH tS IQ nR tM xB vb EF
def xv:Et:=aQ (fun d=>O3 tV xX V9 l9 xU Pg mN Ps  d.1 d.2.1 d.2.2.1 d.2.2.2.1 d.2.2.2.2.1 d.2.2.2.2.2.1 d.2.2.2.2.2.2.1 d.2.2.2.2.2.2.2.1 d.2.2.2.2.2.2.2.2.1 d.2.2.2.2.2.2.2.2.2.1 d.2.2.2.2.2.2.2.2.2.2.1 d.2.2.2.2.2.2.2.2.2.2.2.1 d.2.2.2.2.2.2.2.2.2.2.2.2.1 d.2.2.2.2.2.2.2.2.2.2.2.2.2.1 d.2.2.2.2.2.2.2.2.2.2.2.2.2.2.1 d.2.2.2.2.2.2.2.2.2.2.2.2.2.2.2.1 d.2.2.2.2.2.2.2.2.2.2.2.2.2.2.2.2.1 d.2.2.2.2.2.2.2.2.2.2.2.2.2.2.2.2.2.1 d.2.2.2.2.2.2.2.2.2.2.2.2.2.2.2.2.2.2.1 d.2.2.2.2.2.2.2.2.2.2.2.2.2.2.2.2.2.2.2.1 d.2.2.2.2.2.2.2.2.2.2.2.2.2.2.2.2.2.2.2.2.1 d.2.2.2.2.2.2.2.2.2.2.2.2.2.2.2.2.2.2.2.2.2.1 d.2.2.2.2.2.2.2.2.2.2.2.2.2.2.2.2.2.2.2.2.2.2.1 d.2.2.2.2.2.2.2.2.2.2.2.2.2.2.2.2.2.2.2.2.2.2.2.1 d.2.2.2.2.2.2.2.2.2.2.2.2.2.2.2.2.2.2.2.2.2.2.2.2.1 d.2.2.2.2.2.2.2.2.2.2.2.2.2.2.2.2.2.2.2.2.2.2.2.2.2.1 d.2.2.2.2.2.2.2.2.2.2.2.2.2.2.2.2.2.2.2.2.2.2.2.2.2.2.1 d.2.2.2.2.2.2.2.2.2.2.2.2.2.2.2.2.2.2.2.2.2.2.2.2.2.2.2.1 d.2.2.2.2.2.2.2.2.2.2.2.2.2.2.2.2.2.2.2.2.2.2.2.2.2.2.2.2.1 d.2.2.2.2.2.2.2.2.2.2.2.2.2.2.2.2.2.2.2.2.2.2.2.2.2.2.2.2.2.1) NN
def O2(L7:Et)(t21 t22 aE:Int)(aD:List Int)(aF:List (Sh.T ae))(aH aJ aK:List Int)(aC:List (Sh.T ab))(aG:List (Sh.T ae))(cd:Int)(b1:List (Sh.T (.agg [(.int .i64),fe])))(b2:List Int)(h9:Int)(da:List Int)(ia:List (Sh.T ae))(ib ic jL:List Int)(jM:List (Sh.T ab))(jN:List (Sh.T ae))(jO:List (Sh.T ah))(b6:List Bool)(b7:List (Sh.T (.agg [(.int .i64),(.int .i64),(.sl aB)])))(qj qk:Int)(b9:List Int):Option (TL xo.σs⊕Out qW):=
 br (iL t22 t21)
 (
  ai (aA t22 (List.length b2))<|
  ar (L7 ((gt (.int .i64) b2 t22),(t21,(t22,((IntKind.wrap .i64 ((1:Int)*(HPow.hPow (2:Int) (Min.min (Int.toNat (Int.ofNat (List.length aD))) 64)))),((0:Int),(aE,(aD,(aF,(aH,(aJ,(aK,(aC,(aG,(cd,(b1,(b2,(h9,(da,(ia,(ib,(ic,(jL,(jM,(jN,(jO,(b6,(b7,(qj,(qk,(b9,()))))))))))))))))))))))))))))))) fun x0=>
  (match x0 with|.inl x1=>some (.inr (.inl x1))|.inr x1=>some (.inl (x1.1,((IntKind.wrap .i64 (@HAdd.hAdd (Int) (Int) (Int) _ x1.2.1 (1:Int))),x1.2.2)))
  ))
 (
  some (.inr (.inr (aE,(aD,(aF,(aH,(aJ,(aK,(aC,(aG,(cd,(b1,(b2,(h9,(da,(ia,(ib,(ic,(jL,(jM,(jN,(jO,(b6,(b7,(qj,(qk,(b9,()))))))))))))))))))))))))))))
def aat(M7:xu):Er:=bw (fun d=>O2  M7.L d.1 d.2.1 d.2.2.1 d.2.2.2.1 d.2.2.2.2.1 d.2.2.2.2.2.1 d.2.2.2.2.2.2.1 d.2.2.2.2.2.2.2.1 d.2.2.2.2.2.2.2.2.1 d.2.2.2.2.2.2.2.2.2.1 d.2.2.2.2.2.2.2.2.2.2.1 d.2.2.2.2.2.2.2.2.2.2.2.1 d.2.2.2.2.2.2.2.2.2.2.2.2.1 d.2.2.2.2.2.2.2.2.2.2.2.2.2.1 d.2.2.2.2.2.2.2.2.2.2.2.2.2.2.1 d.2.2.2.2.2.2.2.2.2.2.2.2.2.2.2.1 d.2.2.2.2.2.2.2.2.2.2.2.2.2.2.2.2.1 d.2.2.2.2.2.2.2.2.2.2.2.2.2.2.2.2.2.1 d.2.2.2.2.2.2.2.2.2.2.2.2.2.2.2.2.2.2.1 d.2.2.2.2.2.2.2.2.2.2.2.2.2.2.2.2.2.2.2.1 d.2.2.2.2.2.2.2.2.2.2.2.2.2.2.2.2.2.2.2.2.1 d.2.2.2.2.2.2.2.2.2.2.2.2.2.2.2.2.2.2.2.2.2.1 d.2.2.2.2.2.2.2.2.2.2.2.2.2.2.2.2.2.2.2.2.2.2.1 d.2.2.2.2.2.2.2.2.2.2.2.2.2.2.2.2.2.2.2.2.2.2.2.1 d.2.2.2.2.2.2.2.2.2.2.2.2.2.2.2.2.2.2.2.2.2.2.2.2.1 d.2.2.2.2.2.2.2.2.2.2.2.2.2.2.2.2.2.2.2.2.2.2.2.2.2.1 d.2.2.2.2.2.2.2.2.2.2.2.2.2.2.2.2.2.2.2.2.2.2.2.2.2.2.1) (pL k0 (eC Tryz.func118 (by kernel_rfl) (eC Tryz.func53 (by kernel_rfl) (eC Tryz.func187 (by kernel_rfl) e0))) 5 (sC M7 l0) fun d=>by kernel_rfl)
def aav:Er:=aat  O5
def Es:O6:=aQ (fun d=>O2  xv d.1 d.2.1 d.2.2.1 d.2.2.2.1 d.2.2.2.2.1 d.2.2.2.2.2.1 d.2.2.2.2.2.2.1 d.2.2.2.2.2.2.2.1 d.2.2.2.2.2.2.2.2.1 d.2.2.2.2.2.2.2.2.2.1 d.2.2.2.2.2.2.2.2.2.2.1 d.2.2.2.2.2.2.2.2.2.2.2.1 d.2.2.2.2.2.2.2.2.2.2.2.2.1 d.2.2.2.2.2.2.2.2.2.2.2.2.2.1 d.2.2.2.2.2.2.2.2.2.2.2.2.2.2.1 d.2.2.2.2.2.2.2.2.2.2.2.2.2.2.2.1 d.2.2.2.2.2.2.2.2.2.2.2.2.2.2.2.2.1 d.2.2.2.2.2.2.2.2.2.2.2.2.2.2.2.2.2.1 d.2.2.2.2.2.2.2.2.2.2.2.2.2.2.2.2.2.2.1 d.2.2.2.2.2.2.2.2.2.2.2.2.2.2.2.2.2.2.2.1 d.2.2.2.2.2.2.2.2.2.2.2.2.2.2.2.2.2.2.2.2.1 d.2.2.2.2.2.2.2.2.2.2.2.2.2.2.2.2.2.2.2.2.2.1 d.2.2.2.2.2.2.2.2.2.2.2.2.2.2.2.2.2.2.2.2.2.2.1 d.2.2.2.2.2.2.2.2.2.2.2.2.2.2.2.2.2.2.2.2.2.2.2.1 d.2.2.2.2.2.2.2.2.2.2.2.2.2.2.2.2.2.2.2.2.2.2.2.2.1 d.2.2.2.2.2.2.2.2.2.2.2.2.2.2.2.2.2.2.2.2.2.2.2.2.2.1 d.2.2.2.2.2.2.2.2.2.2.2.2.2.2.2.2.2.2.2.2.2.2.2.2.2.2.1) NN
def aaI(F0:pI)(F1:tT)(F2:IP)(F3:nP)(F4:tN)(F5:xC)(F6:va)(F7:EG)(L4:O6)(L7:Et)(aE:Int)(aD:List Int)(aF:List (Sh.T ae))(aH aJ aK:List Int)(aC:List (Sh.T ab))(aG:List (Sh.T ae))(cd:Int)(b1:List (Sh.T (.agg [(.int .i64),fe])))(b2:List Int)(h9:Int)(da:List Int)(ia:List (Sh.T ae))(ib ic jL:List Int)(jM:List (Sh.T ab))(jN:List (Sh.T ae))(jO:List (Sh.T ah))(b4:List Bool)(b5:List (Sh.T (.agg [(.int .i64),(.int .i64),(.sl aB)]))):Option (Out D7):=
 ar (L4 ((Int.ofNat (List.length b2)),((0:Int),(aE,(aD,(aF,(aH,(aJ,(aK,(aC,(aG,(cd,(b1,(b2,(h9,(da,(ia,(ib,(ic,(jL,(jM,(jN,(jO,(b4,(b5,((0:Int),((0:Int),([],())))))))))))))))))))))))))))) fun x0=>
 (match x0 with|.inl x1=>some (x1.2.2.2.2.2.2.2.2.2.2.2.2.2.2.2.2.2.2.2.2.2.2.2.2.1,(x1.2.2.2.2.2.2.2.2.2.2.2.2.2.2.2.2.2.2.2.2.2.2.2.2.2.1,(x1.1,(x1.2.1,(x1.2.2.1,(x1.2.2.2.1,(x1.2.2.2.2.1,(x1.2.2.2.2.2.1,(x1.2.2.2.2.2.2.1,(x1.2.2.2.2.2.2.2.1,(x1.2.2.2.2.2.2.2.2.1,(x1.2.2.2.2.2.2.2.2.2.1,(x1.2.2.2.2.2.2.2.2.2.2.1,(x1.2.2.2.2.2.2.2.2.2.2.2.1,(x1.2.2.2.2.2.2.2.2.2.2.2.2.2.1,(x1.2.2.2.2.2.2.2.2.2.2.2.2.2.2.1,(x1.2.2.2.2.2.2.2.2.2.2.2.2.2.2.2.1,(x1.2.2.2.2.2.2.2.2.2.2.2.2.2.2.2.2.1,(x1.2.2.2.2.2.2.2.2.2.2.2.2.2.2.2.2.2.1,(x1.2.2.2.2.2.2.2.2.2.2.2.2.2.2.2.2.2.2.1,(x1.2.2.2.2.2.2.2.2.2.2.2.2.2.2.2.2.2.2.2.1,(x1.2.2.2.2.2.2.2.2.2.2.2.2.2.2.2.2.2.2.2.2.1,(x1.2.2.2.2.2.2.2.2.2.2.2.2.2.2.2.2.2.2.2.2.2.1,(x1.2.2.2.2.2.2.2.2.2.2.2.2.1,(x1.2.2.2.2.2.2.2.2.2.2.2.2.2.2.2.2.2.2.2.2.2.2.1,(x1.2.2.2.2.2.2.2.2.2.2.2.2.2.2.2.2.2.2.2.2.2.2.2.1,()))))))))))))))))))))))))))|.inr x1=>some (x1.2.2.2.2.2.2.2.2.2.2.2.2.2.2.2.2.2.2.2.2.2.2.1,(x1.2.2.2.2.2.2.2.2.2.2.2.2.2.2.2.2.2.2.2.2.2.2.2.1,((0:Int),(false,(x1.1,(x1.2.1,(x1.2.2.1,(x1.2.2.2.1,(x1.2.2.2.2.1,(x1.2.2.2.2.2.1,(x1.2.2.2.2.2.2.1,(x1.2.2.2.2.2.2.2.1,(x1.2.2.2.2.2.2.2.2.1,(x1.2.2.2.2.2.2.2.2.2.1,(x1.2.2.2.2.2.2.2.2.2.2.2.1,(x1.2.2.2.2.2.2.2.2.2.2.2.2.1,(x1.2.2.2.2.2.2.2.2.2.2.2.2.2.1,(x1.2.2.2.2.2.2.2.2.2.2.2.2.2.2.1,(x1.2.2.2.2.2.2.2.2.2.2.2.2.2.2.2.1,(x1.2.2.2.2.2.2.2.2.2.2.2.2.2.2.2.2.1,(x1.2.2.2.2.2.2.2.2.2.2.2.2.2.2.2.2.2.1,(x1.2.2.2.2.2.2.2.2.2.2.2.2.2.2.2.2.2.2.1,(x1.2.2.2.2.2.2.2.2.2.2.2.2.2.2.2.2.2.2.2.1,(x1.2.2.2.2.2.2.2.2.2.2.2.2.2.2.2.2.2.2.2.2.2.2.2.2.1,(x1.2.2.2.2.2.2.2.2.2.2.2.2.2.2.2.2.2.2.2.2.1,(x1.2.2.2.2.2.2.2.2.2.2.2.2.2.2.2.2.2.2.2.2.2.1,()))))))))))))))))))))))))))
 )
def aaJ(c0:ow)(c1:rj)(c2:zP)(c3:mO)(c4:ri)(c5:tI)(c6:rX)(c7:xE)(M4:Er)(M7:xu):xz:=⟨qU (aaI c0.F c1.F c2.F c3.F c4.F c5.F c6.F c7.F M4.L M7.L),pB Tryz.func119 84 (kD c0 (kD c1 (kD c2 (kD c3 (kB c4 (kB c5 (kB c6 (kB c7 k0)))))))) (eC Tryz.func118 (by kernel_rfl) (eC Tryz.func53 (by kernel_rfl) (eC Tryz.func187 (by kernel_rfl) e0))) 5 (sS (sC M4 l0)) fun d=>by kernel_rfl⟩
def Ez:xz:=aaJ pH tS IQ nR tM xB vb EF aav O5
def O4:EA:=Ez.F
abbrev Pe:Lay:={ T:=[(0,.ptr 0 0),(1,.int .i64)],h:=vM,nx:=6 }
abbrev Eu:List (Ev.Ex×Lay):=[(.ret,{ T:=[(0,.agg [.int .i64,.int .i64]),(1,.int .i64),(2,.int .i64),(3,.int .i64)],h:=Zp,nx:=9 })]
abbrev Pr:=TL Pe.σs->Option (Out Eu)
abbrev EE:=Kb 60 2 Pe 4 Eu
abbrev tG:Lay:={ T:=[(0,.ptr 0 0),(4,.ptr 9 0),(7,.int .i64),(12,.int .i64),(13,.int .i64)],h:=Lv,nx:=10 }
abbrev qZ:List (Ev.Ex×Lay):=[(.ret,{ T:=[(4,.ptr 9 0),(5,.int .i64),(6,.int .i64),(7,.int .i64)],h:=Lv,nx:=10 }),((.exit 0),{ T:=[(4,.ptr 9 0),(7,.int .i64)],h:=Lv,nx:=10 })]
abbrev Po:=TL tG.σs->Option (Out qZ)
abbrev EC:=Ld 6 41 (bp [0] (aW Tryz.f60)) tG qZ
def Pm(F0:EA)(t7 t12 t13 aE:Int)(aD:List Int)(aF:List (Sh.T ae))(aH aJ aK:List Int)(aC:List (Sh.T ab))(aG:List (Sh.T ae))(cd:Int)(b1:List (Sh.T (.agg [(.int .i64),fe])))(h9:Int)(da:List Int)(ia:List (Sh.T ae))(ib ic jL:List Int)(jM:List (Sh.T ab))(jN:List (Sh.T ae))(jO:List (Sh.T ah))(b6:List Int)(b7:List Bool)(b8:List (Sh.T (.agg [(.int .i64),(.int .i64),(.sl aB)])))(K8 K9:Int):Option (TL tG.σs⊕Out qZ):=
 br (iL t13 t12)
 (
  ar (F0 (aE,(aD,(aF,(aH,(aJ,(aK,(aC,(aG,(cd,(b1,(b6,(h9,(da,(ia,(ib,(ic,(jL,(jM,(jN,(jO,(b7,(b8,()))))))))))))))))))))))) fun x0=>
  br x0.2.2.2.1
  (
   some (.inr (.inl (x0.2.2.1,((IntKind.wrap .i64 (t13+(1:Int))),((0:Int),(x0.2.2.2.2.1,(x0.2.2.2.2.2.1,(x0.2.2.2.2.2.2.1,(x0.2.2.2.2.2.2.2.1,(x0.2.2.2.2.2.2.2.2.1,(x0.2.2.2.2.2.2.2.2.2.1,(x0.2.2.2.2.2.2.2.2.2.2.1,(x0.2.2.2.2.2.2.2.2.2.2.2.1,(x0.2.2.2.2.2.2.2.2.2.2.2.2.1,(x0.2.2.2.2.2.2.2.2.2.2.2.2.2.1,(x0.2.2.2.2.2.2.2.2.2.2.2.2.2.2.1,(x0.2.2.2.2.2.2.2.2.2.2.2.2.2.2.2.1,(x0.2.2.2.2.2.2.2.2.2.2.2.2.2.2.2.2.1,(x0.2.2.2.2.2.2.2.2.2.2.2.2.2.2.2.2.2.1,(x0.2.2.2.2.2.2.2.2.2.2.2.2.2.2.2.2.2.2.1,(x0.2.2.2.2.2.2.2.2.2.2.2.2.2.2.2.2.2.2.2.1,(x0.2.2.2.2.2.2.2.2.2.2.2.2.2.2.2.2.2.2.2.2.1,(x0.2.2.2.2.2.2.2.2.2.2.2.2.2.2.2.2.2.2.2.2.2.1,(x0.2.2.2.2.2.2.2.2.2.2.2.2.2.2.2.2.2.2.2.2.2.2.1,(x0.2.2.2.2.2.2.2.2.2.2.2.2.2.2.2.2.2.2.2.2.2.2.2.1,(x0.2.2.2.2.2.2.2.2.2.2.2.2.2.2.2.2.2.2.2.2.2.2.2.2.1,(x0.2.2.2.2.2.2.2.2.2.2.2.2.2.2.2.2.2.2.2.2.2.2.2.2.2.1,(x0.1,(x0.2.1,()))))))))))))))))))))))))))))))
  (
   br (iQ (Int.ofNat (List.length x0.2.2.2.2.2.2.2.2.2.2.2.2.2.2.2.2.2.2.2.2.2.2.2.1)) (0:Int))
   (
    some (.inr (.inr ((Int.ofNat (List.length b1)),(x0.2.2.2.2.1,(x0.2.2.2.2.2.1,(x0.2.2.2.2.2.2.1,(x0.2.2.2.2.2.2.2.1,(x0.2.2.2.2.2.2.2.2.1,(x0.2.2.2.2.2.2.2.2.2.1,(x0.2.2.2.2.2.2.2.2.2.2.1,(x0.2.2.2.2.2.2.2.2.2.2.2.1,(x0.2.2.2.2.2.2.2.2.2.2.2.2.1,(x0.2.2.2.2.2.2.2.2.2.2.2.2.2.1,(x0.2.2.2.2.2.2.2.2.2.2.2.2.2.2.1,(x0.2.2.2.2.2.2.2.2.2.2.2.2.2.2.2.1,(x0.2.2.2.2.2.2.2.2.2.2.2.2.2.2.2.2.1,(x0.2.2.2.2.2.2.2.2.2.2.2.2.2.2.2.2.2.1,(x0.2.2.2.2.2.2.2.2.2.2.2.2.2.2.2.2.2.2.1,(x0.2.2.2.2.2.2.2.2.2.2.2.2.2.2.2.2.2.2.2.1,(x0.2.2.2.2.2.2.2.2.2.2.2.2.2.2.2.2.2.2.2.2.1,(x0.2.2.2.2.2.2.2.2.2.2.2.2.2.2.2.2.2.2.2.2.2.1,(x0.2.2.2.2.2.2.2.2.2.2.2.2.2.2.2.2.2.2.2.2.2.2.1,(x0.2.2.2.2.2.2.2.2.2.2.2.2.2.2.2.2.2.2.2.2.2.2.2.1,(x0.2.2.2.2.2.2.2.2.2.2.2.2.2.2.2.2.2.2.2.2.2.2.2.2.1,(x0.2.2.2.2.2.2.2.2.2.2.2.2.2.2.2.2.2.2.2.2.2.2.2.2.2.1,(K8,(K9,()))))))))))))))))))))))))))))
   (
    some (.inl ((Int.ofNat (List.length b1)),(t12,((IntKind.wrap .i64 (t13+(1:Int))),(x0.2.2.2.2.1,(x0.2.2.2.2.2.1,(x0.2.2.2.2.2.2.1,(x0.2.2.2.2.2.2.2.1,(x0.2.2.2.2.2.2.2.2.1,(x0.2.2.2.2.2.2.2.2.2.1,(x0.2.2.2.2.2.2.2.2.2.2.1,(x0.2.2.2.2.2.2.2.2.2.2.2.1,(x0.2.2.2.2.2.2.2.2.2.2.2.2.1,(x0.2.2.2.2.2.2.2.2.2.2.2.2.2.1,(x0.2.2.2.2.2.2.2.2.2.2.2.2.2.2.1,(x0.2.2.2.2.2.2.2.2.2.2.2.2.2.2.2.1,(x0.2.2.2.2.2.2.2.2.2.2.2.2.2.2.2.2.1,(x0.2.2.2.2.2.2.2.2.2.2.2.2.2.2.2.2.2.1,(x0.2.2.2.2.2.2.2.2.2.2.2.2.2.2.2.2.2.2.1,(x0.2.2.2.2.2.2.2.2.2.2.2.2.2.2.2.2.2.2.2.1,(x0.2.2.2.2.2.2.2.2.2.2.2.2.2.2.2.2.2.2.2.2.1,(x0.2.2.2.2.2.2.2.2.2.2.2.2.2.2.2.2.2.2.2.2.2.1,(x0.2.2.2.2.2.2.2.2.2.2.2.2.2.2.2.2.2.2.2.2.2.2.1,(x0.2.2.2.2.2.2.2.2.2.2.2.2.2.2.2.2.2.2.2.2.2.2.2.1,(x0.2.2.2.2.2.2.2.2.2.2.2.2.2.2.2.2.2.2.2.2.2.2.2.2.1,(x0.2.2.2.2.2.2.2.2.2.2.2.2.2.2.2.2.2.2.2.2.2.2.2.2.2.1,(K8,(K9,())))))))))))))))))))))))))))))))
 (
  some (.inr (.inr (t7,(aE,(aD,(aF,(aH,(aJ,(aK,(aC,(aG,(cd,(b1,(h9,(da,(ia,(ib,(ic,(jL,(jM,(jN,(jO,(b6,(b7,(b8,(K8,(K9,()))))))))))))))))))))))))))))
def aaQ(c0:xz) :EC:=bw (fun d=>Pm c0.F  d.1 d.2.1 d.2.2.1 d.2.2.2.1 d.2.2.2.2.1 d.2.2.2.2.2.1 d.2.2.2.2.2.2.1 d.2.2.2.2.2.2.2.1 d.2.2.2.2.2.2.2.2.1 d.2.2.2.2.2.2.2.2.2.1 d.2.2.2.2.2.2.2.2.2.2.1 d.2.2.2.2.2.2.2.2.2.2.2.1 d.2.2.2.2.2.2.2.2.2.2.2.2.1 d.2.2.2.2.2.2.2.2.2.2.2.2.2.1 d.2.2.2.2.2.2.2.2.2.2.2.2.2.2.1 d.2.2.2.2.2.2.2.2.2.2.2.2.2.2.2.1 d.2.2.2.2.2.2.2.2.2.2.2.2.2.2.2.2.1 d.2.2.2.2.2.2.2.2.2.2.2.2.2.2.2.2.2.1 d.2.2.2.2.2.2.2.2.2.2.2.2.2.2.2.2.2.2.1 d.2.2.2.2.2.2.2.2.2.2.2.2.2.2.2.2.2.2.2.1 d.2.2.2.2.2.2.2.2.2.2.2.2.2.2.2.2.2.2.2.2.1 d.2.2.2.2.2.2.2.2.2.2.2.2.2.2.2.2.2.2.2.2.2.1 d.2.2.2.2.2.2.2.2.2.2.2.2.2.2.2.2.2.2.2.2.2.2.1 d.2.2.2.2.2.2.2.2.2.2.2.2.2.2.2.2.2.2.2.2.2.2.2.1 d.2.2.2.2.2.2.2.2.2.2.2.2.2.2.2.2.2.2.2.2.2.2.2.2.1 d.2.2.2.2.2.2.2.2.2.2.2.2.2.2.2.2.2.2.2.2.2.2.2.2.2.1 d.2.2.2.2.2.2.2.2.2.2.2.2.2.2.2.2.2.2.2.2.2.2.2.2.2.2.1) (pL (kB c0 k0) e0 1 l0 fun d=>by kernel_rfl)
def aaR:EC:=aaQ Ez
def Pn:Po:=aQ (fun d=>Pm O4  d.1 d.2.1 d.2.2.1 d.2.2.2.1 d.2.2.2.2.1 d.2.2.2.2.2.1 d.2.2.2.2.2.2.1 d.2.2.2.2.2.2.2.1 d.2.2.2.2.2.2.2.2.1 d.2.2.2.2.2.2.2.2.2.1 d.2.2.2.2.2.2.2.2.2.2.1 d.2.2.2.2.2.2.2.2.2.2.2.1 d.2.2.2.2.2.2.2.2.2.2.2.2.1 d.2.2.2.2.2.2.2.2.2.2.2.2.2.1 d.2.2.2.2.2.2.2.2.2.2.2.2.2.2.1 d.2.2.2.2.2.2.2.2.2.2.2.2.2.2.2.1 d.2.2.2.2.2.2.2.2.2.2.2.2.2.2.2.2.1 d.2.2.2.2.2.2.2.2.2.2.2.2.2.2.2.2.2.1 d.2.2.2.2.2.2.2.2.2.2.2.2.2.2.2.2.2.2.1 d.2.2.2.2.2.2.2.2.2.2.2.2.2.2.2.2.2.2.2.1 d.2.2.2.2.2.2.2.2.2.2.2.2.2.2.2.2.2.2.2.2.1 d.2.2.2.2.2.2.2.2.2.2.2.2.2.2.2.2.2.2.2.2.2.1 d.2.2.2.2.2.2.2.2.2.2.2.2.2.2.2.2.2.2.2.2.2.2.1 d.2.2.2.2.2.2.2.2.2.2.2.2.2.2.2.2.2.2.2.2.2.2.2.1 d.2.2.2.2.2.2.2.2.2.2.2.2.2.2.2.2.2.2.2.2.2.2.2.2.1 d.2.2.2.2.2.2.2.2.2.2.2.2.2.2.2.2.2.2.2.2.2.2.2.2.2.1 d.2.2.2.2.2.2.2.2.2.2.2.2.2.2.2.2.2.2.2.2.2.2.2.2.2.2.1) NN
def aaU(F0:EA)(L2:Po)(t1 aE:Int)(aD:List Int)(aF:List (Sh.T ae))(aH aJ aK:List Int)(aC:List (Sh.T ab))(aG:List (Sh.T ae))(cd:Int)(b1:List (Sh.T (.agg [(.int .i64),fe])))(b2:List Int)(h9:Int)(da:List Int)(ia:List (Sh.T ae))(ib ic jL:List Int)(jM:List (Sh.T ab))(jN:List (Sh.T ae))(jO:List (Sh.T ah))(b4:List Bool)(b5:List (Sh.T (.agg [(.int .i64),(.int .i64),(.sl aB)]))):Option (Out Eu):=
 ar (L2 ((0:Int),(t1,((0:Int),(aE,(aD,(aF,(aH,(aJ,(aK,(aC,(aG,(cd,(b1,(h9,(da,(ia,(ib,(ic,(jL,(jM,(jN,(jO,(b2,(b4,(b5,((0:Int),((0:Int),())))))))))))))))))))))))))))) fun x0=>
 (match x0 with|.inl x1=>some (x1.2.2.2.2.2.2.2.2.2.2.2.2.2.2.2.2.2.2.2.2.2.2.2.2.2.1,(x1.2.2.2.2.2.2.2.2.2.2.2.2.2.2.2.2.2.2.2.2.2.2.2.2.2.2.1,(x1.1,(x1.2.1,(x1.2.2.1,(x1.2.2.2.1,(x1.2.2.2.2.1,(x1.2.2.2.2.2.1,(x1.2.2.2.2.2.2.1,(x1.2.2.2.2.2.2.2.1,(x1.2.2.2.2.2.2.2.2.1,(x1.2.2.2.2.2.2.2.2.2.1,(x1.2.2.2.2.2.2.2.2.2.2.1,(x1.2.2.2.2.2.2.2.2.2.2.2.1,(x1.2.2.2.2.2.2.2.2.2.2.2.2.1,(x1.2.2.2.2.2.2.2.2.2.2.2.2.2.1,(x1.2.2.2.2.2.2.2.2.2.2.2.2.2.2.1,(x1.2.2.2.2.2.2.2.2.2.2.2.2.2.2.2.1,(x1.2.2.2.2.2.2.2.2.2.2.2.2.2.2.2.2.1,(x1.2.2.2.2.2.2.2.2.2.2.2.2.2.2.2.2.2.1,(x1.2.2.2.2.2.2.2.2.2.2.2.2.2.2.2.2.2.2.1,(x1.2.2.2.2.2.2.2.2.2.2.2.2.2.2.2.2.2.2.2.1,(x1.2.2.2.2.2.2.2.2.2.2.2.2.2.2.2.2.2.2.2.2.1,(x1.2.2.2.2.2.2.2.2.2.2.2.2.2.2.2.2.2.2.2.2.2.1,(x1.2.2.2.2.2.2.2.2.2.2.2.2.2.2.2.2.2.2.2.2.2.2.1,(x1.2.2.2.2.2.2.2.2.2.2.2.2.2.2.2.2.2.2.2.2.2.2.2.1,(x1.2.2.2.2.2.2.2.2.2.2.2.2.2.2.2.2.2.2.2.2.2.2.2.2.1,())))))))))))))))))))))))))))|.inr x1=>some (x1.2.2.2.2.2.2.2.2.2.2.2.2.2.2.2.2.2.2.2.2.2.2.2.1,(x1.2.2.2.2.2.2.2.2.2.2.2.2.2.2.2.2.2.2.2.2.2.2.2.2.1,((0:Int),((0:Int),(x1.1,(x1.2.1,(x1.2.2.1,(x1.2.2.2.1,(x1.2.2.2.2.1,(x1.2.2.2.2.2.1,(x1.2.2.2.2.2.2.1,(x1.2.2.2.2.2.2.2.1,(x1.2.2.2.2.2.2.2.2.1,(x1.2.2.2.2.2.2.2.2.2.1,(x1.2.2.2.2.2.2.2.2.2.2.1,(x1.2.2.2.2.2.2.2.2.2.2.2.1,(x1.2.2.2.2.2.2.2.2.2.2.2.2.1,(x1.2.2.2.2.2.2.2.2.2.2.2.2.2.1,(x1.2.2.2.2.2.2.2.2.2.2.2.2.2.2.1,(x1.2.2.2.2.2.2.2.2.2.2.2.2.2.2.2.1,(x1.2.2.2.2.2.2.2.2.2.2.2.2.2.2.2.2.1,(x1.2.2.2.2.2.2.2.2.2.2.2.2.2.2.2.2.2.1,(x1.2.2.2.2.2.2.2.2.2.2.2.2.2.2.2.2.2.2.1,(x1.2.2.2.2.2.2.2.2.2.2.2.2.2.2.2.2.2.2.2.1,(x1.2.2.2.2.2.2.2.2.2.2.2.2.2.2.2.2.2.2.2.2.1,(x1.2.2.2.2.2.2.2.2.2.2.2.2.2.2.2.2.2.2.2.2.2.1,(x1.2.2.2.2.2.2.2.2.2.2.2.2.2.2.2.2.2.2.2.2.2.2.1,())))))))))))))))))))))))))))
 )
def aaV(c0:xz)(M2:EC):EE:=⟨u23 (aaU c0.F M2.L),pB Tryz.func60 41 (kB c0 k0) e0 1 (sS (sC M2 l0)) fun d=>by kernel_rfl⟩
def Pq:EE:=aaV Ez aaR
def ED:Pr:=Pq.F
abbrev PH:List Sh:=[bf,(.int .i64)]
abbrev tL:List Sh:=[abt,(.int .i64)]
abbrev E4:=TL PH->Option (TL tL)
abbrev xY:=Kd 19 PH tL
def abd(F0:Pr)(F1:P3)(a0:Sh.T bf)(a1:Int):Option (TL tL):=
 ar (F1 a0) fun x0=>
 (match x0 with
 |.inl x1=>
  br (Bool.not (iQ x1.1 (0:Int)))
  (
   some ((false,((0:Int),(false,((0:Int),())))),(x1.1,())))
  (
   br (iL a1 (0:Int))
   (
    some ((false,((0:Int),(false,((0:Int),())))),((1:Int),())))
   (
    ai (aR false true (iL (2000:Int) a1))<|
    some ((false,((0:Int),(false,((0:Int),())))),((1:Int),()))))
 |.inr x1=>
  br (Bool.not (iQ x1.1 (0:Int)))
  (
   some ((false,((0:Int),(false,((0:Int),())))),(x1.1,())))
  (
   br (iL a1 (0:Int))
   (
    some ((false,((0:Int),(false,((0:Int),())))),((1:Int),())))
   (
    br (aR false true (iL (2000:Int) a1))
    (
     some ((false,((0:Int),(false,((0:Int),())))),((1:Int),())))
    (
     ar (F0 (a1,x1.2)) fun x2=>
     br (iL (0:Int) x2.2.2.2.1)
     (
      some ((true,(x2.2.2.2.1,(false,((0:Int),())))),((0:Int),())))
     (
      some ((false,((0:Int),((iQ (Int.ofNat (List.length x2.2.2.2.2.2.2.2.2.2.2.2.2.2.2.2.2.2.2.2.2.2.2.2.2.1)) (0:Int)),(x2.2.2.2.2.1,())))),((0:Int),()))))))
 )
def abe(c0:EE)(c1:Fe) :xY:=⟨u2 (abd c0.F c1.F),pD Tryz.func19 49 (kB c0 (kB c1 k0)) e0 1 (sS l0) fun d=>by kernel_rfl⟩
def E0:xY:=abe Pq P0
def xV:E4:=E0.F
abbrev O1:List Sh:=[bf]
abbrev Ep:List Sh:=[(.int .i64)]
abbrev aaH:=TL O1->Option (TL Ep)
abbrev Pd:=Kd 16 O1 Ep
def aaE(F0:xy)(F1:uS)(a0:Sh.T bf):Option (TL Ep):=
 ar (F1 (a0,())) fun x0=>
 br (Bool.not (iQ x0.1 (0:Int)))
 (
  some (x0.1,()))
 (
  br (iL (6:Int) (Int.ofNat (List.length a0.2.1)))
  (
   some ((17:Int),()))
  (
   ar (F0 (a0,())) fun x1=>
   br (aR false true (iL (10:Int) (IntKind.wrap .i64 (@HAdd.hAdd (Int) (Int) (Int) _ (Int.ofNat (List.length a0.2.2.1)) x1.1))))
   (
    some ((17:Int),()))
   (
    some ((0:Int),()))))
def aaF(c0:tH)(c1:rQ) :Pd:=⟨u1 (aaE c0.F c1.F),pD Tryz.func16 22 (kD c0 (kD c1 k0)) e0 1 (sS l0) fun d=>by kernel_rfl⟩
def aaG:Pd:=aaF xw uT
def aas:aaH:=aaG.F
abbrev ON:List Sh:=[]
abbrev Eb:List Sh:=[.bool]
abbrev O9:=TL ON->Option (TL Eb)
abbrev Ew:=Kd 14 ON Eb
def aaw(F0:E4)  :Option (TL Eb):=
 ar (F0 (((1:Int),([],((((1:Int),((1:Int),((0:Int),())))::[]),([],(((2:Int)::[]),([],([],([],())))))))),((9:Int),()))) fun x0=>
 br (iQ x0.2.1 (0:Int))
 (
  br (aR true x0.1.1 false)
  (
   br (aR true (iQ x0.1.2.1 (2:Int)) false)
   (
    some ((aR true (Bool.not x0.1.2.2.1) false),()))
   (
    some (false,())))
  (
   some (false,())))
 (
  some (false,()))
def aax(c0:xY) :Ew:=⟨fun d=>aaw c0.F  ,pZ Tryz.func14 27 (kD c0 k0) e0 1 (sS l0) fun d=>by kernel_rfl⟩
def O8:Ew:=aax E0
def aai:O9:=O8.F
theorem abJ:aai ()=some (true,()):=by kernel_rfl
open Go.Proofs.YtkcpdpplobhpaaaGreat.Pl
set_option maxRecDepth 10000
def cq(n:av):Int:=(n.aw.length:Int)+dE n
def wid(n:av):Nat:=(cq n).toNat
def j8(n:av):Int:=if Pl.cK n≠0 then Pl.cK n else if 6<n.aM.length then 17 else if 10<cq n then 17 else 0
theorem Qr(n:av):0<=dE n/\dE n<=1000:=by
 unfold dE;by_cases hc:Pl.cK n=0
 .rw[if_neg (fun q=>q hc)];obtain⟨V,hs,_⟩:=Qh hc;have:=(yl n.aa 0 (fun m hm=>mG hs m hm)).1;have this:0<=dW n.aa:=this;unfold iX;split<;>omega
 .rw[if_pos hc];omega
theorem Gl{n:av}(ft:Fit n):IntKind.wrap .i64 (Int.ofNat (List.length (n.aw.map bK))+dE n)=cq n:=by rw[List.length_map];have:=ft.ax.1;have:=Qr n;exact bJ (x:=((n.aw.length:Nat):Int)+dE n) (by omega)
theorem QQ{n:av}(ft:Fit n):abj (ba n,())=some (j8 n,())/\aas (ba n,())=some (j8 n,()):=by
 have c1:=pf ft;have c2:=DN ft;have d1:=tX ft;have d2:=Fp ft;have w:=Gl ft;unfold j8;by_cases hc:Pl.cK n=0
 .rw[if_neg (fun q=>q hc)];by_cases h1:6<n.aM.length
  .rw[if_pos h1];have i1:iL (6:Int) (Int.ofNat (List.length n.aM))=true:=aj (show(6:Int)<((n.aM.length:Nat):Int) by omega);exact⟨ag c1 (af (dn (aj hc)) (ao i1 rfl)),ag c2 (af (dn (aj hc)) (ao i1 rfl))⟩
  .rw[if_neg h1];have i1:iL (6:Int) (Int.ofNat (List.length n.aM))=false:=au (show ¬(6:Int)<((n.aM.length:Nat):Int) by omega);by_cases h2:10<cq n
   .rw[if_pos h2];have i2:aR false true (iL (10:Int) (IntKind.wrap .i64 (Int.ofNat (List.length (n.aw.map bK))+dE n)))=true:=by rw[w];exact aj h2
    exact⟨ag c1 (af (dn (aj hc)) (af i1 (ag d1 (ao i2 rfl)))),ag c2 (af (dn (aj hc)) (af i1 (ag d2 (ao i2 rfl))))⟩
   .rw[if_neg h2];have i2:aR false true (iL (10:Int) (IntKind.wrap .i64 (Int.ofNat (List.length (n.aw.map bK))+dE n)))=false:=by rw[w];exact au h2
    exact⟨ag c1 (af (dn (aj hc)) (af i1 (ag d1 (af i2 rfl)))),ag c2 (af (dn (aj hc)) (af i1 (ag d2 (af i2 rfl))))⟩
 .rw[if_pos hc];exact⟨ag c1 (ao (fg (au hc)) rfl),ag c2 (ao (fg (au hc)) rfl)⟩
structure fX(n:av)(V:Nat):Prop where
 hs:cj n V
 h0:dt n=0
 ha:eI (aV n) V=true
 hc:Pl.cK n=0
 ins:n.aM.length<=6
 wd:cq n=(wid n:Int)
 pE:wid n<=10
 sm:∀m∈n.aa,Small m
 off:n.aw.length+j3 n.aa=wid n
theorem aet{n:av}(h:j8 n=0):∃V,fX n V:=by
 unfold j8 at h;by_cases hc:Pl.cK n=0
 .rw[if_neg (fun q=>q hc)]at h;by_cases h1:6<n.aM.length
  .rw[if_pos h1]at h;omega
  rw[if_neg h1]at h;by_cases h2:10<cq n
  .rw[if_pos h2]at h;omega
  obtain⟨V,hs,h0,ha⟩:=Qh hc;have hr:=Qr n;have hw:cq n=(wid n:Int):=by unfold wid;unfold cq;omega
  have hcl:dE n=iX (dW n.aa):=by unfold dE;rw[if_neg (fun q=>q hc)]
  have hsm:=FE hs (by rw[<-hcl];unfold cq at h2;omega);have hsum:((j3 n.aa:Nat):Int)=dW n.aa:=QO n.aa 0 hsm;have hcs:dE n=dW n.aa:=by
   rw[hcl];have:dE n<=10:=by unfold cq at h2;omega
   rw[hcl]at this;unfold iX at this |-;split at this
   .omega
   .rename_i q;rw[if_neg q]
  refine⟨V,hs,h0,ha,hc,by omega,hw,by omega,hsm,?_⟩;unfold cq at hw;omega
 .rw[if_pos hc]at h;exact absurd h hc
def bM(n:av)(k:Nat):List Bool×List (List aO):=(my n (cX k (wid n)) []).2
def kL(n:av)(k:Nat):cF.T:=((bM n k).1,((bM n k).2,()))
def oX(n:av)(k:Nat):Bool:=decide (jB (ba n) (bM n k).1 (bM n k).2=0)
def gB(n:av)(k:Nat):List Nat:=(List.range k).filter (oX n)
def jc(n:av)(k:Nat):List cF.T:=(gB n k).map (kL n)
theorem abI(n:av)(k:Nat):gB n (k+1)=gB n k++(if oX n k=true then[k]else[]):=by unfold gB;rw[List.range_succ,List.filter_append];congr 1;cases h:oX n k<;>simp[h]
theorem Fx(n:av)(k:Nat):(gB n k).length<=k:=by have:=List.length_filter_le (oX n) (List.range k);rw[List.length_range]at this;exact this
section
variable{n:av}{V:Nat}(t:fX n V)
include t
theorem ug(k:Nat):my n (cX k (wid n)) []=(0,((cX k (wid n)).take n.aw.length,eF n ((cX k (wid n)).drop n.aw.length) n.aa.length)):=by unfold my;have h1:=t.wd;have h2:=t.pE;unfold cq at h1;rw[if_neg (fun q=>q t.hc),if_neg (by omega),if_pos ⟨by rw[kX];omega,rfl⟩]
theorem yx(k:Nat):(bM n k).1.length=n.aw.length/\(bM n k).2.length=n.aa.length/\∀c∈(bM n k).2,c.length<=64:=by
 unfold bM;rw[ug t k];have h1:=t.off;refine⟨?_,FG _ _ _,?_⟩
 .show((cX k (wid n)).take n.aw.length).length=_;rw[List.length_take,kX];omega
 .intro c hc;have hc:c∈eF n ((cX k (wid n)).drop n.aw.length) n.aa.length:=hc;unfold eF at hc;obtain⟨i,hi,rfl⟩:=List.mem_map.1 hc;have hi:=List.mem_range.1 hi;have hx:=List.getElem?_eq_getElem hi;have hg:n.aa.getD i mz=n.aa[i]:=by rw[List.getD_eq_getElem?_getD,hx];rfl
  rw[hg];exact Nat.le_trans (FF _ _ _) (t.sm _ (List.getElem_mem hi)).iK
theorem Gg(k:Nat):lJ (bM n k).2:=by
 unfold bM;rw[ug t k];intro c hc i hi;have hc:c∈eF n ((cX k (wid n)).drop n.aw.length) n.aa.length:=hc;unfold eF at hc;obtain⟨j,hj,rfl⟩:=List.mem_map.1 hc;have hj:=List.mem_range.1 hj;have hx:=List.getElem?_eq_getElem hj;have hg:n.aa.getD j mz=n.aa[j]:=by rw[List.getD_eq_getElem?_getD,hx];rfl
 rw[hg]at hi |-;have sm:=t.sm _ (List.getElem_mem hj);have hcn:=sm.iK;have w2:=sm.w2;obtain⟨p,hp⟩:∃p,(fT n.aa[j].word.toNat (((cX k (wid n)).drop n.aw.length).drop (cz n j)) (2^n.aa[j].addr.toNat))[i]?=some p:=⟨_,List.getElem?_eq_getElem hi⟩;obtain⟨e1,e2⟩:=QE hp;rw[e1,e2];have hm:=List.mem_of_getElem? hp;unfold fT at hm;obtain⟨a,ha,hm⟩:=List.mem_flatMap.1 hm;have ha:=List.mem_range.1 ha;split at hm
 .cases hm
 .obtain rfl:=List.mem_singleton.1 hm;have hlt:=kZ (((((cX k (wid n)).drop n.aw.length).drop (cz n j)).drop (a*n.aa[j].word.toNat)).take n.aa[j].word.toNat);have h64:(2:Nat)^(((((cX k (wid n)).drop n.aw.length).drop (cz n j)).drop (a*n.aa[j].word.toNat)).take n.aa[j].word.toNat).length<=2^64:=Nat.pow_le_pow_right (by omega) (by rw[List.length_take];omega);have h65:(2:Nat)^64=18446744073709551616:=rfl;refine⟨⟨?_,?_⟩,⟨?_,?_⟩⟩
  .show(0:Int)<=(a:Int);omega
  .show(a:Int)<=18446744073709551615;omega
  .show(0:Int)<=((cellAt _ _ _:Nat):Int);omega
  .show((cellAt n.aa[j].word.toNat (((cX k (wid n)).drop n.aw.length).drop (cz n j)) a:Nat):Int)<=18446744073709551615;unfold cellAt;omega
variable(ft:Fit n)
include ft
theorem abK(k:Nat):Nl (ba n,(((bM n k).1,((bM n k).2,())),()))=some (jB (ba n) (bM n k).1 (bM n k).2,())/\ZK (ba n,(((bM n k).1,((bM n k).2,())),()))=some (jB (ba n) (bM n k).1 (bM n k).2,()):=by
 have oq:Fit (dO (ba n)):=by rw[lG];exact ft
 have hT:List.length (ba n).2.2.2.2.2.2.1<=100000:=by show(n.aa.map aq).length<=_;rw[List.length_map];have:=ft.aa.1;omega
 have hL:List.length (ba n).2.2.1<=100000:=by show(n.aw.map bK).length<=_;rw[List.length_map];have:=ft.ax.1;omega
 exact⟨ags (ba n) _ _ oq hL hT,Tf (ba n) _ _ oq hL hT (Gg t k)⟩
end
section
variable{n:av}{V:Nat}
theorem Sj{k:Nat}(hk:k<=1024):IntKind.wrap .u64 (k:Int)=(k:Int):=j4 (by omega)
end
section
variable{n:av}{V:Nat}(t:fX n V)
variable(ft:Fit n)
include t
include ft
theorem Qq{k:Nat}(hk:k<=1024):xX (ba n,((cX k (wid n),([],())),()))=some (kL n k,((0:Int),()))/\Pa (ba n,((cX k (wid n),([],())),()))=some (kL n k,((0:Int),())):=by
 have h2:=t.pE;obtain⟨b1,b2⟩:=ab2 ft (cX k (wid n)) [] (by rw[kX];omega);have e:(my n (cX k (wid n)) []).1=0:=by rw[ug t k]
 rw[e]at b1 b2;exact⟨b1,b2⟩
end
section
variable{n:av}{V:Nat}(t:fX n V)
include t
theorem pJ:(2:Nat)^wid n<=1024:=Nat.pow_le_pow_right (n:=2) (by omega) t.pE
end
section
variable{n:av}{V:Nat}(t:fX n V)
include t
theorem aeY:IntKind.wrap .i64 ((1:Int)*(HPow.hPow (2:Int) (Min.min (Int.toNat (cq n)) 64)))=((2^wid n:Nat):Int):=by
 have h:=pJ t;have h2:=t.pE;rw[t.wd,Int.toNat_natCast,Nat.min_eq_left (by omega),Int.one_mul];have:(2:Int)^wid n=((2^wid n:Nat):Int):=by push_cast;rfl
 rw[this];exact(show ∀N:Nat,N<=1024->IntKind.wrap .i64 (N:Int)=(N:Int)from fun N h=>bJ (by omega)) _ h
end
section
variable{n:av}{V:Nat}
theorem afd{L:List cF.T}{x:cF.T}(h:L.length<=100000):room 48 (List.length (L++(x::[])))=true:=oh (by omega) (by omega)
end
section
variable{n:av}{V:Nat}(t:fX n V)
variable(ft:Fit n)
include t
include ft
theorem acn:PJ (ba n,())=some (jc n (2^wid n),((0:Int),())):=by
 have hp:=pJ t;have h2:=t.pE;have hsm:j8 n=0:=by unfold j8;have:=t.ins;rw[if_neg (fun q=>q t.hc),if_neg (by omega),if_neg (by rw[t.wd];omega)]
 have s0:=(QQ ft).1;rw[hsm]at s0;have d1:=tX ft;have e6:ET (((2^wid n:Nat):Int),((0:Int),nt n ([],nt n (cq n,()))))=some (jc n (2^wid n),()):=by
  unfold ET;delta nD;refine cP (fun k:Nat=>(((2^wid n:Nat):Int),((k:Int),nt n (jc n k,nt n (cq n,()))))) (2^wid n) rfl ?_ ?_ (bt (by omega))
  .intro k hk;have e1:l9 (IntKind.wrap .u64 (k:Int),(cq n,()))=some (cX k (wid n),()):=by rw[Sj (by omega),t.wd];exact tW k (wid n) (by omega) (by omega)
   have b:=(Qq t ft (k:=k) (by omega)).1;have l:=(abK t ft k).1;have hl:=Fx n k;have hr:room 48 (List.length (jc n k++[kL n k]))=true:=afd (by unfold jc;rw[List.length_map];omega);have e:∀(p q:Int) (A B:List cF.T),p=q->A=B->(some (.inl (((2^wid n:Nat):Int),(p,nt n (A,nt n (cq n,()))))):Option (TL xN.σs⊕Out xJ))=some (.inl (((2^wid n:Nat):Int),(q,nt n (B,nt n (cq n,()))))):=by rintro _ _ _ _ rfl rfl;rfl
   have hk1:IntKind.wrap .i64 ((k:Int)+1)=((k+1:Nat):Int):=bF (x:=(k:Int)+1) (n:=k+1) (by omega) (by omega);have hst:jc n (k+1)=jc n k++(if oX n k=true then[kL n k]else[]):=by unfold jc;rw[abI,List.map_append];congr 1;split<;>rfl
   by_cases q:jB (ba n) (bM n k).1 (bM n k).2=0
   .have hb:oX n k=true:=decide_eq_true q;rw[if_pos hb]at hst;exact ao (aj (show(k:Int)<((2^wid n:Nat):Int) by omega)) (ag e1 (ag b (ak (aj rfl) (ag l (ao (aj q) (ak hr (e _ _ _ _ hk1 hst.symm)))))))
   .have hb:¬oX n k=true:=fun r=>q (of_decide_eq_true r);rw[if_neg hb,List.append_nil]at hst;exact ao (aj (show(k:Int)<((2^wid n:Nat):Int) by omega)) (ag e1 (ag b (ak (aj rfl) (ag l (af (au q) (e _ _ _ _ hk1 hst.symm))))))
  .exact af (au (show ¬((2^wid n:Nat):Int)<((2^wid n:Nat):Int) by omega)) rfl
 have w:=Gl ft;have e6':ET (IntKind.wrap .i64 ((1:Int)*(HPow.hPow (2:Int) (Min.min (Int.toNat (IntKind.wrap .i64 (Int.ofNat (List.length (n.aw.map bK))+dE n))) 64))),((0:Int),nt n ([],nt n (IntKind.wrap .i64 (Int.ofNat (List.length (n.aw.map bK))+dE n),()))))=some (jc n (2^wid n),()):=by rw[w,aeY t];exact e6
 have hchk:iE (0:Int) (IntKind.wrap .i64 (Int.ofNat (List.length (n.aw.map bK))+dE n))=true:=by rw[w,t.wd];exact aj (by omega)
 exact ag s0 (af (dn (aj rfl)) (ag d1 (ak hchk (ag e6' rfl))))
end
theorem aco{n:av}(ft:Fit n)(h:j8 n≠0):PJ (ba n,())=some ([],(j8 n,())):=ag (QQ ft).1 (ao (fg (au h)) rfl)
