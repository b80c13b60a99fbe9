import Derived.Test.YtkcpdpplobhpaaaGreatJRb
import Derived.Test.YtkcpdpplobhpaaaGreatJRd
set_option linter.unusedVariables false
set_option linter.unusedSimpArgs false
set_option linter.unnecessarySimpa false
section
namespace Go.Proofs.YtkcpdpplobhpaaaGreat.V
open Go Go.RowKit
set_option maxRecDepth 1000000
abbrev PH:Lay:={ T:=[(0,.ptr 0 0),(1,.agg [.fz .bool,.fz (.sl aC)])],h:=[(0,.cells [.int .i64,.fz (.int .i64),.fz ae,.fz (.int .i64),.fz (.int .i64),.fz (.int .i64),.fz ab,.fz ae,.fz ah,.hd 1 .bool,.cS 2] 145),(1,.arr .bool 4),(2,.cO 220)],nx:=3 }
abbrev xH:List (Ev.Ex×Lay):=[(.ret,{ T:=[(0,.int .i64)],h:=[(0,.cells [.int .i64,.fz (.int .i64),.fz ae,.fz (.int .i64),.fz (.int .i64),.fz (.int .i64),.fz ab,.fz ae,.fz ah,.hd 3 .bool,.cS 4] 145),(3,.arr .bool 4),(4,.cO 220)],nx:=5 })]
abbrev EP:=TL PH.σs->Option (Out xH)
abbrev xN:=Kb 217 2 PH 1 xH
def aa0(F0:sd)(F1:rZ)(F2:BC)(ic:List Bool)(fS:List (List (Sh.T aC)))(aE:Int)(aD:List Int)(aG:List (Sh.T ae))(aH aI aL:List Int)(aA:List (Sh.T ab))(aF:List (Sh.T ae))(cg:List (Sh.T ah))(b1:List Bool)(b2:List (Sh.T (.agg [(.int .i64),(.int .i64),(.sl aC)]))):Option (Out xH):=
 ar (F2 (aE,(aD,(aG,(aH,(aI,(aL,(aA,(aF,(ic,(fS,()))))))))))) fun x0=>
 br (Bool.not (iQ x0.1 (0:Int)))
 (
  some (x0.1,(aE,(aD,(aG,(aH,(aI,(aL,(aA,(aF,(cg,(b1,(b2,())))))))))))))
 (
  ar (F1 (ic,())) fun x1=>
  some ((0:Int),(aE,(aD,(aG,(aH,(aI,(aL,(aA,(aF,(cg,(x1.1,(x0.2.1,())))))))))))))
def aa1(c0:sf)(c1:r9)(c2:vl) :xN:=⟨nF (aa0 c0.F c1.F c2.F),pB Tryz.func217 31 (kB c0 (kB c1 (kB c2 k0))) e0 1 (sS l0) fun d=>by kernel_rfl⟩
def EO:xN:=aa1 se qd BD
def PK:EP:=EO.F
abbrev z7:Lay:={ T:=[(0,.fz .bool),(1,.bool),(7,.int .i64),(8,.int .i64)],h:=[],nx:=0 }
abbrev z6:List (Ev.Ex×Lay):=[(.ret,{ T:=[(4,.int .i64)],h:=[],nx:=0 }),((.exit 0),{ T:=[],h:=[],nx:=0 })]
abbrev Wd:=TL z7.σs->Option (Out z6)
abbrev Wf:=Ld 0 19 (bu [0] (aW Tryz.f218)) z7 z6
def va(t0:List Bool)(t1:Bool)(t7 t8:Int):Option (TL z7.σs⊕Out z6):=
 br (iL t8 t7)
 (
  ai (aw t8 (List.length t0))<|
  br (@decide _ (Bool.decEq t1 (gt .bool t0 t8)))
  (
   some (.inr (.inl (t8,()))))
  (
   some (.inl (t0,(t1,(t7,((IntKind.wrap .i64 (t8+(1:Int))),())))))))
 (
  some (.inr (.inr ())))
def ai7  :Wf:=bB (u4 va) (pL k0 e0 1 l0 fun d=>by kernel_rfl)
def I0:Wd:=aR (u4 va) NN
abbrev Wc:List Sh:=[(.sl .bool),.bool]
abbrev IZ:List Sh:=[(.int .i64)]
abbrev I4:=TL Wc->Option (TL IZ)
abbrev Ad:=Kd 218 Wc IZ
def ajb(L2:Wd)(a0:List Bool)(a1:Bool):Option (TL IZ):=
 ar (L2 (a0,(a1,((Int.ofNat (List.length a0)),((0:Int),()))))) fun x0=>
 (match x0 with|.inl x1=>some (x1.1,())|.inr x1=>some ((Int.negSucc 0),())
 )
def aja(M2:Wf):Ad:=⟨u2 (ajb M2.L),pD Tryz.func218 19 k0 e0 1 (sS (sC M2 l0)) fun d=>by kernel_rfl⟩
def I5:Ad:=aja  ai7
def We:I4:=I5.F
abbrev Qf:List Sh:=[bg]
abbrev Fi:List Sh:=[(.int .i64)]
abbrev Ql:=TL Qf->Option (TL Fi)
abbrev Fs:=Kd 51 Qf Fi
def aby(F0:rl)(F1:qi)(a0:Sh.T bg):Option (TL Fi):=
 ar (F1 (a0,())) fun x0=>
 br (Bool.not (iQ x0.1 (0:Int)))
 (
  some (x0.1,()))
 (
  br (iL (6:Int) (Int.ofNat (List.length a0.2.1)))
  (
   some ((17:Int),()))
  (
   ar (F0 (a0,())) fun x1=>
   br (aQ false true (iL (10:Int) (IntKind.wrap .i64 (@HAdd.hAdd (Int) (Int) (Int) _ (Int.ofNat (List.length a0.2.2.1)) x1.1))))
   (
    some ((17:Int),()))
   (
    some ((0:Int),()))))
def abz(c0:pK)(c1:oT) :Fs:=⟨u1 (aby c0.F c1.F),pD Tryz.func51 22 (kD c0 (kD c1 k0)) e0 1 (sS l0) fun d=>by kernel_rfl⟩
def Qk:Fs:=abz rj qj
def abp:Ql:=Qk.F
abbrev xW:Lay:={ T:=[(1,.ptr 0 0),(2,.hd 1 cV),(5,.ptr 2 0),(26,.int .i64),(27,.int .i64)],h:=[(0,.cells fq 27),(1,.arr cV 40),(2,.cells [.int .i64,.fz (.int .i64),.fz ae,.fz (.int .i64),.fz (.int .i64),.fz (.int .i64),.fz ab,.fz ae,.int .i64,.dT,.bq,.dk] 100)],nx:=3 }
abbrev xS:List (Ev.Ex×Lay):=[((.exit 0),{ T:=[(2,.hd 0 cV)],h:=[(0,.arr cV 40)],nx:=1 })]
abbrev P4:=TL xW.σs->Option (Out xS)
abbrev E5:=Ld 0 43 (bu [0] (aW Tryz.f15)) xW xS
def P0(F0:rq)(F1:lW)(F2:Ku)(t26 t27 aE:Int)(aD:List Int)(aG:List (Sh.T ae))(aH aI aL:List Int)(aA:List (Sh.T ab))(aF:List (Sh.T ae))(b1:List (Sh.T cV))(bR:Int)(bU:List Int)(bV:List (Sh.T ae))(bW bX bZ:List Int)(ca:List (Sh.T ab))(cd:List (Sh.T ae))(sA:Int):Option (TL xW.σs⊕Out xS):=
 br (iL t27 t26)
 (
  ar (F1 ((IntKind.wrap .u64 t27),(sA,()))) fun x0=>
  ar (F0 ((bR,(bU,(bV,(bW,(bX,(bZ,(ca,(cd,())))))))),((x0.1,([],())),()))) fun x1=>
  ai (iQ x1.2.1 x1.2.1)<|
  ar (F2 ((aE,(aD,(aG,(aH,(aI,(aL,(aA,(aF,())))))))),((x1.1.1,(x1.1.2.1,())),()))) fun x2=>
  br (iQ x2.1 (0:Int))
  (
   ai (room 48 (List.length (ap b1 ((x1.1.1,(x1.1.2.1,()))::[]))))<|
   some (.inl (t26,((IntKind.wrap .i64 (t27+(1:Int))),(aE,(aD,(aG,(aH,(aI,(aL,(aA,(aF,((ap b1 ((x1.1.1,(x1.1.2.1,()))::[])),(bR,(bU,(bV,(bW,(bX,(bZ,(ca,(cd,(sA,()))))))))))))))))))))))
  (
   some (.inl (t26,((IntKind.wrap .i64 (t27+(1:Int))),(aE,(aD,(aG,(aH,(aI,(aL,(aA,(aF,(b1,(bR,(bU,(bV,(bW,(bX,(bZ,(ca,(cd,(sA,())))))))))))))))))))))))
 (
  some (.inr (b1,())))
def aa9(c0:pN)(c1:kY)(c2:Bq) :E5:=bB (nG (P0 c0.F c1.F c2.F)) (pL (kD c0 (kD c1 (kD c2 k0))) (eC Tryz.func53 (by kernel_rfl) e0) 5 l0 fun d=>by kernel_rfl)
def aba:E5:=aa9 rn lY Kv
def E6:P4:=aR (nG (P0 yf iZ Nu)) NN
abbrev P5:List Sh:=[bg]
abbrev E7:List Sh:=[(.sl cV),(.int .i64)]
abbrev Qb:=TL P5->Option (TL E7)
abbrev Ff:=Kd 15 P5 E7
def abl(F0:rq)(F1:lW)(F2:Ku)(F3:rl)(F4:Ql)(L6:P4)(a0:Sh.T bg):Option (TL E7):=
 ar (F4 (a0,())) fun x0=>
 br (Bool.not (iQ x0.1 (0:Int)))
 (
  some ([],(x0.1,())))
 (
  ar (F3 (a0,())) fun x1=>
  ai (iE (0:Int) (IntKind.wrap .i64 (@HAdd.hAdd (Int) (Int) (Int) _ (Int.ofNat (List.length a0.2.2.1)) x1.1)))<|
  ar (L6 ((IntKind.wrap .i64 ((1:Int)*(HPow.hPow (2:Int) (Min.min (Int.toNat (IntKind.wrap .i64 (@HAdd.hAdd (Int) (Int) (Int) _ (Int.ofNat (List.length a0.2.2.1)) x1.1))) 64)))),((0:Int),(a0.1,(a0.2.1,(a0.2.2.1,(a0.2.2.2.1,(a0.2.2.2.2.1,(a0.2.2.2.2.2.1,(a0.2.2.2.2.2.2.1,(a0.2.2.2.2.2.2.2.1,([],(a0.1,(a0.2.1,(a0.2.2.1,(a0.2.2.2.1,(a0.2.2.2.2.1,(a0.2.2.2.2.2.1,(a0.2.2.2.2.2.2.1,(a0.2.2.2.2.2.2.2.1,((IntKind.wrap .i64 (@HAdd.hAdd (Int) (Int) (Int) _ (Int.ofNat (List.length a0.2.2.1)) x1.1)),()))))))))))))))))))))) fun x2=>
  some (x2.1,((0:Int),())))
def abm(c0:pN)(c1:kY)(c2:Bq)(c3:pK)(c4:Fs)(M6:E5):Ff:=⟨u1 (abl c0.F c1.F c2.F c3.F c4.F M6.L),pD Tryz.func15 43 (kD c0 (kD c1 (kD c2 (kD c3 (kD c4 k0))))) (eC Tryz.func53 (by kernel_rfl) e0) 5 (sS (sC M6 l0)) fun d=>by kernel_rfl⟩
def Qa:Ff:=abm rn lY Kv rj Qk aba
def P3:Qb:=Qa.F
abbrev P6:Lay:={ T:=[(0,.agg fq)],h:=[],nx:=0 }
abbrev vV:List (Nat×LO):=[(0,.cells [.int .i64,.fz (.int .i64),.fz ae,.fz (.int .i64),.fz (.int .i64),.fz (.int .i64),.fz ab,.fz ae,.int .i64,.mp 1,.hd 2 (.int .i64),.ptr 3 0] 100),(1,.map .i64 cX),(2,.arr (.int .i64) 3),(3,.cells [.int .i64,.fz (.int .i64),.fz ae,.fz (.int .i64),.fz (.int .i64),.fz (.int .i64),.fz ab,.fz ae,.fz ah,.hd 4 .bool,.cS 5] 145),(4,.arr .bool 4),(5,.cO 220)]
abbrev LF:List (Nat×LO):=[(0,.cells [.int .i64,.fz (.int .i64),.fz ae,.fz (.int .i64),.fz (.int .i64),.fz (.int .i64),.fz ab,.fz ae,.int .i64,.mp 1,.hd 2 (.int .i64),.ptr 3 0] 100),(1,.map .i64 cX),(2,.arr (.int .i64) 3),(3,.cells [.int .i64,.fz (.int .i64),.fz ae,.fz (.int .i64),.fz (.int .i64),.fz (.int .i64),.fz ab,.fz ae,.fz ah,.hd 6 .bool,.cS 7] 145),(6,.arr .bool 4),(7,.cO 220),(8,.cells [.int .i64,.int .i64] 108),(9,.arr (.int .i64) 3)]
abbrev LG:List (Nat×LO):=[(0,.cells [.int .i64,.fz (.int .i64),.fz ae,.fz (.int .i64),.fz (.int .i64),.fz (.int .i64),.fz ab,.fz ae,.int .i64,.mp 1,.hd 6 (.int .i64),.ptr 3 0] 100),(1,.map .i64 cX),(3,.cells [.int .i64,.fz (.int .i64),.fz ae,.fz (.int .i64),.fz (.int .i64),.fz (.int .i64),.fz ab,.fz ae,.fz ah,.hd 7 .bool,.cS 8] 145),(6,.arr (.int .i64) 3),(7,.arr .bool 4),(8,.cO 220),(9,.cells [.int .i64,.int .i64] 108)]
abbrev ZC:Lay:={ T:=[(2,.ptr 8 0),(3,.int .i64),(4,.bool)],h:=[(0,.cells [.int .i64,.fz (.int .i64),.fz ae,.fz (.int .i64),.fz (.int .i64),.fz (.int .i64),.fz ab,.fz ae,.int .i64,.mp 1,.hd 2 (.int .i64),.ptr 3 0] 100),(1,.map .i64 cX),(2,.arr (.int .i64) 3),(3,.cells [.int .i64,.fz (.int .i64),.fz ae,.fz (.int .i64),.fz (.int .i64),.fz (.int .i64),.fz ab,.fz ae,.fz ah,.hd 6 .bool,.cS 7] 145),(6,.arr .bool 4),(7,.cO 220),(8,.cells [.int .i64,.int .i64] 108)],nx:=9 }
abbrev ZD:List (Nat×LO):=[(0,.cells [.int .i64,.fz (.int .i64),.fz ae,.fz (.int .i64),.fz (.int .i64),.fz (.int .i64),.fz ab,.fz ae,.int .i64,.mp 1,.hd 6 (.int .i64),.ptr 3 0] 100),(1,.map .i64 cX),(3,.cells [.int .i64,.fz (.int .i64),.fz ae,.fz (.int .i64),.fz (.int .i64),.fz (.int .i64),.fz ab,.fz ae,.fz ah,.hd 7 .bool,.cS 8] 145),(6,.arr (.int .i64) 3),(7,.arr .bool 4),(8,.cO 220)]
abbrev ZE:Lay:={ T:=[(0,.ptr 0 0),(2,.ptr 8 0),(5,.hd 9 (.int .i64)),(6,.func 187 [.ptr 0 0] []),(20,.hd 2 (.int .i64)),(21,.int .i64),(22,.int .i64)],h:=LF,nx:=10 }
abbrev EV:List (Ev.Ex×Lay):=[(.ret,{ T:=[(0,.dk),(1,.int .i64)],h:=[],nx:=0 }),(.ret,{ T:=[(0,.ptr 0 0),(1,.int .i64)],h:=vV,nx:=6 })]
abbrev Fq:=TL P6.σs->Option (Out EV)
abbrev yk:=Kb 59 1 P6 2 EV
abbrev xZ:Lay:={ T:=[(5,.int .i64),(6,.ptr 0 0),(38,.fz cV),(39,.int .i64),(40,.int .i64)],h:=vV,nx:=6 }
abbrev xX:List (Ev.Ex×Lay):=[((.exit 0),{ T:=[(5,.int .i64),(6,.ptr 0 0)],h:=vV,nx:=6 })]
abbrev Qe:=TL xZ.σs->Option (Out xX)
abbrev Fg:=Ld 0 66 (bu [0] (aW Tryz.f59)) xZ xX
def Qc(F0:pQ)(F4:ub)(t5:Int)(t38:List (Sh.T cV))(t39 t40 aE:Int)(aD:List Int)(aG:List (Sh.T ae))(aH aI aL:List Int)(aA:List (Sh.T ab))(aF:List (Sh.T ae))(cg:Int)(b1:List (Sh.T (.agg [(.int .i64),cX])))(b2:List Int)(gg:Int)(cT:List Int)(gj:List (Sh.T ae))(gk gl i6:List Int)(i7:List (Sh.T ab))(ja:List (Sh.T ae))(jb:List (Sh.T ah))(b4:List Bool)(b5:List (Sh.T (.agg [(.int .i64),(.int .i64),(.sl aC)]))):Option (TL xZ.σs⊕Out xX):=
 br (iL t40 t39)
 (
  ai (aw t40 (List.length t38))<|
  ar (F4 (aE,(aD,(aG,(aH,(aI,(aL,(aA,(aF,((gt cV t38 t40).1,((gt cV t38 t40).2.1,()))))))))))) fun x0=>
  ai (iQ x0.1 x0.1)<|
  ar (F0 (x0.2.1,())) fun x1=>
  ai (room 8 (List.length (ap b2 ((IntKind.wrap .i64 x1.1)::[]))))<|
  some (.inl (t5,(t38,(t39,((IntKind.wrap .i64 (t40+(1:Int))),(aE,(aD,(aG,(aH,(aI,(aL,(aA,(aF,(cg,((@dg cX (IntKind.wrap .i64 x1.1) ((Int.negSucc 0),((0:Int),())) b1),((ap b2 ((IntKind.wrap .i64 x1.1)::[])),(gg,(cT,(gj,(gk,(gl,(i6,(i7,(ja,(jb,(b4,(b5,()))))))))))))))))))))))))))))
 (
  some (.inr (t5,(aE,(aD,(aG,(aH,(aI,(aL,(aA,(aF,(cg,(b1,(b2,(gg,(cT,(gj,(gk,(gl,(i6,(i7,(ja,(jb,(b4,(b5,())))))))))))))))))))))))))
def abn(c0:oA)(c4:rm) :Fg:=bB (fun d=>Qc c0.F c4.F  d.1 d.2.1 d.2.2.1 d.2.2.2.1 d.2.2.2.2.1 d.2.2.2.2.2.1 d.2.2.2.2.2.2.1 d.2.2.2.2.2.2.2.1 d.2.2.2.2.2.2.2.2.1 d.2.2.2.2.2.2.2.2.2.1 d.2.2.2.2.2.2.2.2.2.2.1 d.2.2.2.2.2.2.2.2.2.2.2.1 d.2.2.2.2.2.2.2.2.2.2.2.2.1 d.2.2.2.2.2.2.2.2.2.2.2.2.2.1 d.2.2.2.2.2.2.2.2.2.2.2.2.2.2.1 d.2.2.2.2.2.2.2.2.2.2.2.2.2.2.2.1 d.2.2.2.2.2.2.2.2.2.2.2.2.2.2.2.2.1 d.2.2.2.2.2.2.2.2.2.2.2.2.2.2.2.2.2.1 d.2.2.2.2.2.2.2.2.2.2.2.2.2.2.2.2.2.2.1 d.2.2.2.2.2.2.2.2.2.2.2.2.2.2.2.2.2.2.2.1 d.2.2.2.2.2.2.2.2.2.2.2.2.2.2.2.2.2.2.2.2.1 d.2.2.2.2.2.2.2.2.2.2.2.2.2.2.2.2.2.2.2.2.2.1 d.2.2.2.2.2.2.2.2.2.2.2.2.2.2.2.2.2.2.2.2.2.2.1 d.2.2.2.2.2.2.2.2.2.2.2.2.2.2.2.2.2.2.2.2.2.2.2.1 d.2.2.2.2.2.2.2.2.2.2.2.2.2.2.2.2.2.2.2.2.2.2.2.2.1 d.2.2.2.2.2.2.2.2.2.2.2.2.2.2.2.2.2.2.2.2.2.2.2.2.2.1) (pL (kD c0 (kB c4 k0)) (eC Tryz.func118 (by kernel_rfl) e0) 5 l0 fun d=>by kernel_rfl)
def abo:Fg:=abn pO ua
def Fh:Qe:=aR (fun d=>Qc uf yc  d.1 d.2.1 d.2.2.1 d.2.2.2.1 d.2.2.2.2.1 d.2.2.2.2.2.1 d.2.2.2.2.2.2.1 d.2.2.2.2.2.2.2.1 d.2.2.2.2.2.2.2.2.1 d.2.2.2.2.2.2.2.2.2.1 d.2.2.2.2.2.2.2.2.2.2.1 d.2.2.2.2.2.2.2.2.2.2.2.1 d.2.2.2.2.2.2.2.2.2.2.2.2.1 d.2.2.2.2.2.2.2.2.2.2.2.2.2.1 d.2.2.2.2.2.2.2.2.2.2.2.2.2.2.1 d.2.2.2.2.2.2.2.2.2.2.2.2.2.2.2.1 d.2.2.2.2.2.2.2.2.2.2.2.2.2.2.2.2.1 d.2.2.2.2.2.2.2.2.2.2.2.2.2.2.2.2.2.1 d.2.2.2.2.2.2.2.2.2.2.2.2.2.2.2.2.2.2.1 d.2.2.2.2.2.2.2.2.2.2.2.2.2.2.2.2.2.2.2.1 d.2.2.2.2.2.2.2.2.2.2.2.2.2.2.2.2.2.2.2.2.1 d.2.2.2.2.2.2.2.2.2.2.2.2.2.2.2.2.2.2.2.2.2.1 d.2.2.2.2.2.2.2.2.2.2.2.2.2.2.2.2.2.2.2.2.2.2.1 d.2.2.2.2.2.2.2.2.2.2.2.2.2.2.2.2.2.2.2.2.2.2.2.1 d.2.2.2.2.2.2.2.2.2.2.2.2.2.2.2.2.2.2.2.2.2.2.2.2.1 d.2.2.2.2.2.2.2.2.2.2.2.2.2.2.2.2.2.2.2.2.2.2.2.2.2.1) NN
def abw(F0:pQ)(F1:XW)(F2:rl)(F3:Qb)(F4:ub)(F5:K3)(L7:Qe)(dr:Int)(fR:List Int)(fx:List (Sh.T ae))(gC gD gF:List Int)(dU:List (Sh.T ab))(gm:List (Sh.T ae)):Option (Out EV):=
 ar (F3 ((dr,(fR,(fx,(gC,(gD,(gF,(dU,(gm,())))))))),())) fun x0=>
 br (Bool.not (iQ x0.2.1 (0:Int)))
 (
  some (.inl (x0.2.1,())))
 (
  ar (F2 ((dr,(fR,(fx,(gC,(gD,(gF,(dU,(gm,())))))))),())) fun x1=>
  ar (F1 ((dr,(fR,(fx,(gC,(gD,(gF,(dU,(gm,())))))))),())) fun x2=>
  ar (F5 (dr,(fR,(fx,(gC,(gD,(gF,(dU,(gm,(x2.1.1,(x2.1.2.1,()))))))))))) fun x3=>
  (match x3 with
  |.inl x4=>
   ai (iQ x4.1 x4.1)<|
   none
  |.inr x4=>
   ai (iQ x4.1 x4.1)<|
   ar (L7 (x4.1,(x0.1,((Int.ofNat (List.length x0.1)),((0:Int),(dr,(fR,(fx,(gC,(gD,(gF,(dU,(gm,((IntKind.wrap .i64 (@HAdd.hAdd (Int) (Int) (Int) _ (Int.ofNat (List.length fx)) x1.1)),([],([],x4.2)))))))))))))))) fun x5=>
   some (.inr x5)
  ))
def abx(c0:oA)(c1:Kj)(c2:pK)(c3:Ff)(c4:rm)(c5:BN)(M7:Fg):yk:=⟨u8 (abw c0.F c1.F c2.F c3.F c4.F c5.F M7.L),pB Tryz.func59 66 (kD c0 (kD c1 (kD c2 (kD c3 (kB c4 (kB c5 k0)))))) (eC Tryz.func118 (by kernel_rfl) e0) 5 (sS (sC M7 l0)) fun d=>by kernel_rfl⟩
def Fp:yk:=abx pO XX rj Qa ua K4 abo
def Qd:Fq:=Fp.F
abbrev OY:Lay:={ T:=[(0,.ptr 0 0)],h:=vV,nx:=6 }
abbrev Ef:List (Ev.Ex×Lay):=[(.ret,{ T:=[(0,.agg [.int .i64,.int .i64]),(1,.int .i64),(2,.bool)],h:=ZD,nx:=9 })]
abbrev EH:=TL OY.σs->Option (Out Ef)
abbrev xG:=Kb 119 1 OY 3 Ef
abbrev xu:Lay:=ZE
abbrev qX:List (Ev.Ex×Lay):=[(.ret,ZC),((.exit 0),{ T:=[(0,.ptr 0 0),(2,.ptr 8 0),(5,.hd 9 (.int .i64))],h:=LF,nx:=10 })]
abbrev Pj:=TL xu.σs->Option (Out qX)
abbrev EA:=Ld 6 84 (bu [0] (aW Tryz.f119)) xu qX
abbrev xv:Lay:={ T:=[(0,.ptr 0 0),(2,.ptr 8 0),(5,.hd 9 (.int .i64)),(6,.func 187 [.ptr 0 0] []),(8,.int .i64),(20,.hd 2 (.int .i64)),(21,.int .i64),(22,.int .i64),(32,.int .i64),(33,.int .i64)],h:=LF,nx:=10 }
abbrev qY:List (Ev.Ex×Lay):=[(.ret,ZC),((.exit 2),ZE)]
abbrev EC:=TL xv.σs->Option (Out qY)
abbrev xC:=Ld 6 84 (bu [0,0] (aW Tryz.f119)) xv qY
def Pf(F0:pQ)(F1:rq)(F2:I4)(F3:lW)(F4:ub)(F5:xK)(F6:vj)(F7:EP)(t8 t21 t22 t32 t33 aE:Int)(aD:List Int)(aG:List (Sh.T ae))(aH aI aL:List Int)(aA:List (Sh.T ab))(aF:List (Sh.T ae))(cg:Int)(b1:List (Sh.T (.agg [(.int .i64),cX])))(b2:List Int)(gg:Int)(cT:List Int)(gj:List (Sh.T ae))(gk gl i6:List Int)(i7:List (Sh.T ab))(ja:List (Sh.T ae))(jb:List (Sh.T ah))(b6:List Bool)(b7:List (Sh.T (.agg [(.int .i64),(.int .i64),(.sl aC)])))(qn qo:Int)(b9:List Int):Option (TL xv.σs⊕Out qY):=
 br (iL t33 t32)
 (
  ar (F3 ((IntKind.wrap .u64 t8),(cg,()))) fun x0=>
  ar (F1 ((aE,(aD,(aG,(aH,(aI,(aL,(aA,(aF,())))))))),((x0.1,([],())),()))) fun x1=>
  ai (iQ x1.2.1 x1.2.1)<|
  ar (F7 (x1.1.1,(x1.1.2.1,(gg,(cT,(gj,(gk,(gl,(i6,(i7,(ja,(jb,(b6,(b7,())))))))))))))) fun x2=>
  ar (F3 ((IntKind.wrap .u64 t33),((Int.ofNat (List.length aD)),()))) fun x3=>
  ar (F6 (x3.1,x2.2)) fun x4=>
  ai (iQ x4.2.1 x4.2.1)<|
  ar (F5 (x4.2.2.1,(x4.2.2.2.1,(x4.2.2.2.2.1,(x4.2.2.2.2.2.1,(x4.2.2.2.2.2.2.1,(x4.2.2.2.2.2.2.2.1,(x4.2.2.2.2.2.2.2.2.1,(x4.2.2.2.2.2.2.2.2.2.1,(x4.2.2.2.2.2.2.2.2.2.2.1,(x4.2.2.2.2.2.2.2.2.2.2.2.1,(x4.2.2.2.2.2.2.2.2.2.2.2.2.1,())))))))))))) fun x5=>
  ai (bQ x4.1 x4.1)<|
  ar (F4 (aE,(aD,(aG,(aH,(aI,(aL,(aA,(aF,x5.2.2.2.2.2.2.2.2.2.2.2))))))))) fun x6=>
  ai (iQ x6.1 x6.1)<|
  ar (F0 (x6.2.1,())) fun x7=>
  ai (bQ x4.1 x4.1)<|
  ar (F2 (x4.2.2.2.2.2.2.2.2.2.2.2.2.2.1,(true,()))) fun x8=>
  br (Bool.not x4.1)
  (
   some (.inl (t8,(t21,(t22,(t32,((IntKind.wrap .i64 (t33+(1:Int))),(aE,(aD,(aG,(aH,(aI,(aL,(aA,(aF,(cg,(b1,(b2,(x5.1,(x5.2.1,(x5.2.2.1,(x5.2.2.2.1,(x5.2.2.2.2.1,(x5.2.2.2.2.2.1,(x5.2.2.2.2.2.2.1,(x5.2.2.2.2.2.2.2.1,(x5.2.2.2.2.2.2.2.2.1,(x5.2.2.2.2.2.2.2.2.2.1,(x5.2.2.2.2.2.2.2.2.2.2.1,(qn,(qo,(b9,()))))))))))))))))))))))))))))))))
  (
   br (iE (0:Int) x8.1)
   (
    some (.inr (.inl (x8.1,(true,(aE,(aD,(aG,(aH,(aI,(aL,(aA,(aF,(cg,(b1,(b2,(x5.1,(x5.2.1,(x5.2.2.1,(x5.2.2.2.1,(x5.2.2.2.2.1,(x5.2.2.2.2.2.1,(x5.2.2.2.2.2.2.1,(x5.2.2.2.2.2.2.2.1,(x5.2.2.2.2.2.2.2.2.1,(x5.2.2.2.2.2.2.2.2.2.1,(x5.2.2.2.2.2.2.2.2.2.2.1,(t8,(t33,())))))))))))))))))))))))))))))
   (
    br (Bool.not (@dY cX b1 (IntKind.wrap .i64 x7.1)))
    (
     ai (room 8 (List.length (ap b9 ((IntKind.wrap .i64 x7.1)::[]))))<|
     some (.inl (t8,(t21,(t22,(t32,((IntKind.wrap .i64 (t33+(1:Int))),(aE,(aD,(aG,(aH,(aI,(aL,(aA,(aF,(cg,((@dg cX (IntKind.wrap .i64 x7.1) (t8,(t33,())) b1),(b2,(x5.1,(x5.2.1,(x5.2.2.1,(x5.2.2.2.1,(x5.2.2.2.2.1,(x5.2.2.2.2.2.1,(x5.2.2.2.2.2.2.1,(x5.2.2.2.2.2.2.2.1,(x5.2.2.2.2.2.2.2.2.1,(x5.2.2.2.2.2.2.2.2.2.1,(x5.2.2.2.2.2.2.2.2.2.2.1,(qn,(qo,((ap b9 ((IntKind.wrap .i64 x7.1)::[])),()))))))))))))))))))))))))))))))))
    (
     some (.inl (t8,(t21,(t22,(t32,((IntKind.wrap .i64 (t33+(1:Int))),(aE,(aD,(aG,(aH,(aI,(aL,(aA,(aF,(cg,(b1,(b2,(x5.1,(x5.2.1,(x5.2.2.1,(x5.2.2.2.1,(x5.2.2.2.2.1,(x5.2.2.2.2.2.1,(x5.2.2.2.2.2.2.1,(x5.2.2.2.2.2.2.2.1,(x5.2.2.2.2.2.2.2.2.1,(x5.2.2.2.2.2.2.2.2.2.1,(x5.2.2.2.2.2.2.2.2.2.2.1,(qn,(qo,(b9,())))))))))))))))))))))))))))))))))))
 (
  some (.inr (.inr (t21,(t22,(aE,(aD,(aG,(aH,(aI,(aL,(aA,(aF,(cg,(b1,(b2,(gg,(cT,(gj,(gk,(gl,(i6,(i7,(ja,(jb,(b6,(b7,(qn,(qo,(b9,()))))))))))))))))))))))))))))))
def aau(c0:oA)(c1:pN)(c2:Ad)(c3:kY)(c4:rm)(c5:tW)(c6:si)(c7:xN) :xC:=bB (fun d=>Pf c0.F c1.F c2.F c3.F c4.F c5.F c6.F c7.F  d.1 d.2.1 d.2.2.1 d.2.2.2.1 d.2.2.2.2.1 d.2.2.2.2.2.1 d.2.2.2.2.2.2.1 d.2.2.2.2.2.2.2.1 d.2.2.2.2.2.2.2.2.1 d.2.2.2.2.2.2.2.2.2.1 d.2.2.2.2.2.2.2.2.2.2.1 d.2.2.2.2.2.2.2.2.2.2.2.1 d.2.2.2.2.2.2.2.2.2.2.2.2.1 d.2.2.2.2.2.2.2.2.2.2.2.2.2.1 d.2.2.2.2.2.2.2.2.2.2.2.2.2.2.1 d.2.2.2.2.2.2.2.2.2.2.2.2.2.2.2.1 d.2.2.2.2.2.2.2.2.2.2.2.2.2.2.2.2.1 d.2.2.2.2.2.2.2.2.2.2.2.2.2.2.2.2.2.1 d.2.2.2.2.2.2.2.2.2.2.2.2.2.2.2.2.2.2.1 d.2.2.2.2.2.2.2.2.2.2.2.2.2.2.2.2.2.2.2.1 d.2.2.2.2.2.2.2.2.2.2.2.2.2.2.2.2.2.2.2.2.1 d.2.2.2.2.2.2.2.2.2.2.2.2.2.2.2.2.2.2.2.2.2.1 d.2.2.2.2.2.2.2.2.2.2.2.2.2.2.2.2.2.2.2.2.2.2.1 d.2.2.2.2.2.2.2.2.2.2.2.2.2.2.2.2.2.2.2.2.2.2.2.1 d.2.2.2.2.2.2.2.2.2.2.2.2.2.2.2.2.2.2.2.2.2.2.2.2.1 d.2.2.2.2.2.2.2.2.2.2.2.2.2.2.2.2.2.2.2.2.2.2.2.2.2.1 d.2.2.2.2.2.2.2.2.2.2.2.2.2.2.2.2.2.2.2.2.2.2.2.2.2.2.1 d.2.2.2.2.2.2.2.2.2.2.2.2.2.2.2.2.2.2.2.2.2.2.2.2.2.2.2.1 d.2.2.2.2.2.2.2.2.2.2.2.2.2.2.2.2.2.2.2.2.2.2.2.2.2.2.2.2.1 d.2.2.2.2.2.2.2.2.2.2.2.2.2.2.2.2.2.2.2.2.2.2.2.2.2.2.2.2.2.1) (pL (kD c0 (kD c1 (kD c2 (kD c3 (kB c4 (kB c5 (kB c6 (kB c7 k0)))))))) (eC Tryz.func118 (by kernel_rfl) (eC Tryz.func53 (by kernel_rfl) (eC Tryz.func187 (by kernel_rfl) e0))) 5 l0 fun d=>by kernel_rfl)
def Ph:xC:=aau pO rn I5 lY ua xJ vk EO
def xD:EC:=aR (fun d=>Pf uf yf We iZ yc Pu mQ PK  d.1 d.2.1 d.2.2.1 d.2.2.2.1 d.2.2.2.2.1 d.2.2.2.2.2.1 d.2.2.2.2.2.2.1 d.2.2.2.2.2.2.2.1 d.2.2.2.2.2.2.2.2.1 d.2.2.2.2.2.2.2.2.2.1 d.2.2.2.2.2.2.2.2.2.2.1 d.2.2.2.2.2.2.2.2.2.2.2.1 d.2.2.2.2.2.2.2.2.2.2.2.2.1 d.2.2.2.2.2.2.2.2.2.2.2.2.2.1 d.2.2.2.2.2.2.2.2.2.2.2.2.2.2.1 d.2.2.2.2.2.2.2.2.2.2.2.2.2.2.2.1 d.2.2.2.2.2.2.2.2.2.2.2.2.2.2.2.2.1 d.2.2.2.2.2.2.2.2.2.2.2.2.2.2.2.2.2.1 d.2.2.2.2.2.2.2.2.2.2.2.2.2.2.2.2.2.2.1 d.2.2.2.2.2.2.2.2.2.2.2.2.2.2.2.2.2.2.2.1 d.2.2.2.2.2.2.2.2.2.2.2.2.2.2.2.2.2.2.2.2.1 d.2.2.2.2.2.2.2.2.2.2.2.2.2.2.2.2.2.2.2.2.2.1 d.2.2.2.2.2.2.2.2.2.2.2.2.2.2.2.2.2.2.2.2.2.2.1 d.2.2.2.2.2.2.2.2.2.2.2.2.2.2.2.2.2.2.2.2.2.2.2.1 d.2.2.2.2.2.2.2.2.2.2.2.2.2.2.2.2.2.2.2.2.2.2.2.2.1 d.2.2.2.2.2.2.2.2.2.2.2.2.2.2.2.2.2.2.2.2.2.2.2.2.2.1 d.2.2.2.2.2.2.2.2.2.2.2.2.2.2.2.2.2.2.2.2.2.2.2.2.2.2.1 d.2.2.2.2.2.2.2.2.2.2.2.2.2.2.2.2.2.2.2.2.2.2.2.2.2.2.2.1 d.2.2.2.2.2.2.2.2.2.2.2.2.2.2.2.2.2.2.2.2.2.2.2.2.2.2.2.2.1 d.2.2.2.2.2.2.2.2.2.2.2.2.2.2.2.2.2.2.2.2.2.2.2.2.2.2.2.2.2.1) NN
def Pe(L7:EC)(t21 t22 aE:Int)(aD:List Int)(aG:List (Sh.T ae))(aH aI aL:List Int)(aA:List (Sh.T ab))(aF:List (Sh.T ae))(cg:Int)(b1:List (Sh.T (.agg [(.int .i64),cX])))(b2:List Int)(gg:Int)(cT:List Int)(gj:List (Sh.T ae))(gk gl i6:List Int)(i7:List (Sh.T ab))(ja:List (Sh.T ae))(jb:List (Sh.T ah))(b6:List Bool)(b7:List (Sh.T (.agg [(.int .i64),(.int .i64),(.sl aC)])))(qn qo:Int)(b9:List Int):Option (TL xu.σs⊕Out qX):=
 br (iL t22 t21)
 (
  ai (aw t22 (List.length b2))<|
  ar (L7 ((gt (.int .i64) b2 t22),(t21,(t22,((IntKind.wrap .i64 ((1:Int)*(HPow.hPow (2:Int) (Min.min (Int.toNat (Int.ofNat (List.length aD))) 64)))),((0:Int),(aE,(aD,(aG,(aH,(aI,(aL,(aA,(aF,(cg,(b1,(b2,(gg,(cT,(gj,(gk,(gl,(i6,(i7,(ja,(jb,(b6,(b7,(qn,(qo,(b9,()))))))))))))))))))))))))))))))) fun x0=>
  (match x0 with|.inl x1=>some (.inr (.inl x1))|.inr x1=>some (.inl (x1.1,((IntKind.wrap .i64 (@HAdd.hAdd (Int) (Int) (Int) _ x1.2.1 (1:Int))),x1.2.2)))
  ))
 (
  some (.inr (.inr (aE,(aD,(aG,(aH,(aI,(aL,(aA,(aF,(cg,(b1,(b2,(gg,(cT,(gj,(gk,(gl,(i6,(i7,(ja,(jb,(b6,(b7,(qn,(qo,(b9,()))))))))))))))))))))))))))))
def aat(M7:xC):EA:=bB (fun d=>Pe  M7.L d.1 d.2.1 d.2.2.1 d.2.2.2.1 d.2.2.2.2.1 d.2.2.2.2.2.1 d.2.2.2.2.2.2.1 d.2.2.2.2.2.2.2.1 d.2.2.2.2.2.2.2.2.1 d.2.2.2.2.2.2.2.2.2.1 d.2.2.2.2.2.2.2.2.2.2.1 d.2.2.2.2.2.2.2.2.2.2.2.1 d.2.2.2.2.2.2.2.2.2.2.2.2.1 d.2.2.2.2.2.2.2.2.2.2.2.2.2.1 d.2.2.2.2.2.2.2.2.2.2.2.2.2.2.1 d.2.2.2.2.2.2.2.2.2.2.2.2.2.2.2.1 d.2.2.2.2.2.2.2.2.2.2.2.2.2.2.2.2.1 d.2.2.2.2.2.2.2.2.2.2.2.2.2.2.2.2.2.1 d.2.2.2.2.2.2.2.2.2.2.2.2.2.2.2.2.2.2.1 d.2.2.2.2.2.2.2.2.2.2.2.2.2.2.2.2.2.2.2.1 d.2.2.2.2.2.2.2.2.2.2.2.2.2.2.2.2.2.2.2.2.1 d.2.2.2.2.2.2.2.2.2.2.2.2.2.2.2.2.2.2.2.2.2.1 d.2.2.2.2.2.2.2.2.2.2.2.2.2.2.2.2.2.2.2.2.2.2.1 d.2.2.2.2.2.2.2.2.2.2.2.2.2.2.2.2.2.2.2.2.2.2.2.1 d.2.2.2.2.2.2.2.2.2.2.2.2.2.2.2.2.2.2.2.2.2.2.2.2.1 d.2.2.2.2.2.2.2.2.2.2.2.2.2.2.2.2.2.2.2.2.2.2.2.2.2.1 d.2.2.2.2.2.2.2.2.2.2.2.2.2.2.2.2.2.2.2.2.2.2.2.2.2.2.1) (pL k0 (eC Tryz.func118 (by kernel_rfl) (eC Tryz.func53 (by kernel_rfl) (eC Tryz.func187 (by kernel_rfl) e0))) 5 (sC M7 l0) fun d=>by kernel_rfl)
def aav:EA:=aat  Ph
def EB:Pj:=aR (fun d=>Pe  xD d.1 d.2.1 d.2.2.1 d.2.2.2.1 d.2.2.2.2.1 d.2.2.2.2.2.1 d.2.2.2.2.2.2.1 d.2.2.2.2.2.2.2.1 d.2.2.2.2.2.2.2.2.1 d.2.2.2.2.2.2.2.2.2.1 d.2.2.2.2.2.2.2.2.2.2.1 d.2.2.2.2.2.2.2.2.2.2.2.1 d.2.2.2.2.2.2.2.2.2.2.2.2.1 d.2.2.2.2.2.2.2.2.2.2.2.2.2.1 d.2.2.2.2.2.2.2.2.2.2.2.2.2.2.1 d.2.2.2.2.2.2.2.2.2.2.2.2.2.2.2.1 d.2.2.2.2.2.2.2.2.2.2.2.2.2.2.2.2.1 d.2.2.2.2.2.2.2.2.2.2.2.2.2.2.2.2.2.1 d.2.2.2.2.2.2.2.2.2.2.2.2.2.2.2.2.2.2.1 d.2.2.2.2.2.2.2.2.2.2.2.2.2.2.2.2.2.2.2.1 d.2.2.2.2.2.2.2.2.2.2.2.2.2.2.2.2.2.2.2.2.1 d.2.2.2.2.2.2.2.2.2.2.2.2.2.2.2.2.2.2.2.2.2.1 d.2.2.2.2.2.2.2.2.2.2.2.2.2.2.2.2.2.2.2.2.2.2.1 d.2.2.2.2.2.2.2.2.2.2.2.2.2.2.2.2.2.2.2.2.2.2.2.1 d.2.2.2.2.2.2.2.2.2.2.2.2.2.2.2.2.2.2.2.2.2.2.2.2.1 d.2.2.2.2.2.2.2.2.2.2.2.2.2.2.2.2.2.2.2.2.2.2.2.2.2.1 d.2.2.2.2.2.2.2.2.2.2.2.2.2.2.2.2.2.2.2.2.2.2.2.2.2.2.1) NN
def aaI(F0:pQ)(F1:rq)(F2:I4)(F3:lW)(F4:ub)(F5:xK)(F6:vj)(F7:EP)(L4:Pj)(L7:EC)(aE:Int)(aD:List Int)(aG:List (Sh.T ae))(aH aI aL:List Int)(aA:List (Sh.T ab))(aF:List (Sh.T ae))(cg:Int)(b1:List (Sh.T (.agg [(.int .i64),cX])))(b2:List Int)(gg:Int)(cT:List Int)(gj:List (Sh.T ae))(gk gl i6:List Int)(i7:List (Sh.T ab))(ja:List (Sh.T ae))(jb:List (Sh.T ah))(b4:List Bool)(b5:List (Sh.T (.agg [(.int .i64),(.int .i64),(.sl aC)]))):Option (Out Ef):=
 ar (L4 ((Int.ofNat (List.length b2)),((0:Int),(aE,(aD,(aG,(aH,(aI,(aL,(aA,(aF,(cg,(b1,(b2,(gg,(cT,(gj,(gk,(gl,(i6,(i7,(ja,(jb,(b4,(b5,((0:Int),((0:Int),([],())))))))))))))))))))))))))))) fun x0=>
 (match x0 with|.inl x1=>some (x1.2.2.2.2.2.2.2.2.2.2.2.2.2.2.2.2.2.2.2.2.2.2.2.2.1,(x1.2.2.2.2.2.2.2.2.2.2.2.2.2.2.2.2.2.2.2.2.2.2.2.2.2.1,(x1.1,(x1.2.1,(x1.2.2.1,(x1.2.2.2.1,(x1.2.2.2.2.1,(x1.2.2.2.2.2.1,(x1.2.2.2.2.2.2.1,(x1.2.2.2.2.2.2.2.1,(x1.2.2.2.2.2.2.2.2.1,(x1.2.2.2.2.2.2.2.2.2.1,(x1.2.2.2.2.2.2.2.2.2.2.1,(x1.2.2.2.2.2.2.2.2.2.2.2.1,(x1.2.2.2.2.2.2.2.2.2.2.2.2.2.1,(x1.2.2.2.2.2.2.2.2.2.2.2.2.2.2.1,(x1.2.2.2.2.2.2.2.2.2.2.2.2.2.2.2.1,(x1.2.2.2.2.2.2.2.2.2.2.2.2.2.2.2.2.1,(x1.2.2.2.2.2.2.2.2.2.2.2.2.2.2.2.2.2.1,(x1.2.2.2.2.2.2.2.2.2.2.2.2.2.2.2.2.2.2.1,(x1.2.2.2.2.2.2.2.2.2.2.2.2.2.2.2.2.2.2.2.1,(x1.2.2.2.2.2.2.2.2.2.2.2.2.2.2.2.2.2.2.2.2.1,(x1.2.2.2.2.2.2.2.2.2.2.2.2.2.2.2.2.2.2.2.2.2.1,(x1.2.2.2.2.2.2.2.2.2.2.2.2.1,(x1.2.2.2.2.2.2.2.2.2.2.2.2.2.2.2.2.2.2.2.2.2.2.1,(x1.2.2.2.2.2.2.2.2.2.2.2.2.2.2.2.2.2.2.2.2.2.2.2.1,()))))))))))))))))))))))))))|.inr x1=>some (x1.2.2.2.2.2.2.2.2.2.2.2.2.2.2.2.2.2.2.2.2.2.2.1,(x1.2.2.2.2.2.2.2.2.2.2.2.2.2.2.2.2.2.2.2.2.2.2.2.1,((0:Int),(false,(x1.1,(x1.2.1,(x1.2.2.1,(x1.2.2.2.1,(x1.2.2.2.2.1,(x1.2.2.2.2.2.1,(x1.2.2.2.2.2.2.1,(x1.2.2.2.2.2.2.2.1,(x1.2.2.2.2.2.2.2.2.1,(x1.2.2.2.2.2.2.2.2.2.1,(x1.2.2.2.2.2.2.2.2.2.2.2.1,(x1.2.2.2.2.2.2.2.2.2.2.2.2.1,(x1.2.2.2.2.2.2.2.2.2.2.2.2.2.1,(x1.2.2.2.2.2.2.2.2.2.2.2.2.2.2.1,(x1.2.2.2.2.2.2.2.2.2.2.2.2.2.2.2.1,(x1.2.2.2.2.2.2.2.2.2.2.2.2.2.2.2.2.1,(x1.2.2.2.2.2.2.2.2.2.2.2.2.2.2.2.2.2.1,(x1.2.2.2.2.2.2.2.2.2.2.2.2.2.2.2.2.2.2.1,(x1.2.2.2.2.2.2.2.2.2.2.2.2.2.2.2.2.2.2.2.1,(x1.2.2.2.2.2.2.2.2.2.2.2.2.2.2.2.2.2.2.2.2.2.2.2.2.1,(x1.2.2.2.2.2.2.2.2.2.2.2.2.2.2.2.2.2.2.2.2.1,(x1.2.2.2.2.2.2.2.2.2.2.2.2.2.2.2.2.2.2.2.2.2.1,()))))))))))))))))))))))))))
 )
def aaJ(c0:oA)(c1:pN)(c2:Ad)(c3:kY)(c4:rm)(c5:tW)(c6:si)(c7:xN)(M4:EA)(M7:xC):xG:=⟨qW (aaI c0.F c1.F c2.F c3.F c4.F c5.F c6.F c7.F M4.L M7.L),pB Tryz.func119 84 (kD c0 (kD c1 (kD c2 (kD c3 (kB c4 (kB c5 (kB c6 (kB c7 k0)))))))) (eC Tryz.func118 (by kernel_rfl) (eC Tryz.func53 (by kernel_rfl) (eC Tryz.func187 (by kernel_rfl) e0))) 5 (sS (sC M4 l0)) fun d=>by kernel_rfl⟩
def EG:xG:=aaJ pO rn I5 lY ua xJ vk EO aav Ph
def Pg:EH:=EG.F
abbrev Ps:Lay:={ T:=[(0,.ptr 0 0),(1,.int .i64)],h:=vV,nx:=6 }
abbrev ED:List (Ev.Ex×Lay):=[(.ret,{ T:=[(0,.agg [.int .i64,.int .i64]),(1,.int .i64),(2,.int .i64),(3,.int .i64)],h:=ZD,nx:=9 })]
abbrev EM:=TL Ps.σs->Option (Out ED)
abbrev xL:=Kb 60 2 Ps 4 ED
abbrev tT:Lay:={ T:=[(0,.ptr 0 0),(4,.ptr 9 0),(7,.int .i64),(12,.int .i64),(13,.int .i64)],h:=LG,nx:=10 }
abbrev q9:List (Ev.Ex×Lay):=[(.ret,{ T:=[(4,.ptr 9 0),(5,.int .i64),(6,.int .i64),(7,.int .i64)],h:=LG,nx:=10 }),((.exit 0),{ T:=[(4,.ptr 9 0),(7,.int .i64)],h:=LG,nx:=10 })]
abbrev PG:=TL tT.σs->Option (Out q9)
abbrev EJ:=Ld 6 41 (bu [0] (aW Tryz.f60)) tT q9
def PD(F0:EH)(t7 t12 t13 aE:Int)(aD:List Int)(aG:List (Sh.T ae))(aH aI aL:List Int)(aA:List (Sh.T ab))(aF:List (Sh.T ae))(cg:Int)(b1:List (Sh.T (.agg [(.int .i64),cX])))(gg:Int)(cT:List Int)(gj:List (Sh.T ae))(gk gl i6:List Int)(i7:List (Sh.T ab))(ja:List (Sh.T ae))(jb:List (Sh.T ah))(b6:List Int)(b7:List Bool)(b8:List (Sh.T (.agg [(.int .i64),(.int .i64),(.sl aC)])))(oX sB:Int):Option (TL tT.σs⊕Out q9):=
 br (iL t13 t12)
 (
  ar (F0 (aE,(aD,(aG,(aH,(aI,(aL,(aA,(aF,(cg,(b1,(b6,(gg,(cT,(gj,(gk,(gl,(i6,(i7,(ja,(jb,(b7,(b8,()))))))))))))))))))))))) fun x0=>
  br x0.2.2.2.1
  (
   some (.inr (.inl (x0.2.2.1,((IntKind.wrap .i64 (t13+(1:Int))),((0:Int),(x0.2.2.2.2.1,(x0.2.2.2.2.2.1,(x0.2.2.2.2.2.2.1,(x0.2.2.2.2.2.2.2.1,(x0.2.2.2.2.2.2.2.2.1,(x0.2.2.2.2.2.2.2.2.2.1,(x0.2.2.2.2.2.2.2.2.2.2.1,(x0.2.2.2.2.2.2.2.2.2.2.2.1,(x0.2.2.2.2.2.2.2.2.2.2.2.2.1,(x0.2.2.2.2.2.2.2.2.2.2.2.2.2.1,(x0.2.2.2.2.2.2.2.2.2.2.2.2.2.2.1,(x0.2.2.2.2.2.2.2.2.2.2.2.2.2.2.2.1,(x0.2.2.2.2.2.2.2.2.2.2.2.2.2.2.2.2.1,(x0.2.2.2.2.2.2.2.2.2.2.2.2.2.2.2.2.2.1,(x0.2.2.2.2.2.2.2.2.2.2.2.2.2.2.2.2.2.2.1,(x0.2.2.2.2.2.2.2.2.2.2.2.2.2.2.2.2.2.2.2.1,(x0.2.2.2.2.2.2.2.2.2.2.2.2.2.2.2.2.2.2.2.2.1,(x0.2.2.2.2.2.2.2.2.2.2.2.2.2.2.2.2.2.2.2.2.2.1,(x0.2.2.2.2.2.2.2.2.2.2.2.2.2.2.2.2.2.2.2.2.2.2.1,(x0.2.2.2.2.2.2.2.2.2.2.2.2.2.2.2.2.2.2.2.2.2.2.2.1,(x0.2.2.2.2.2.2.2.2.2.2.2.2.2.2.2.2.2.2.2.2.2.2.2.2.1,(x0.2.2.2.2.2.2.2.2.2.2.2.2.2.2.2.2.2.2.2.2.2.2.2.2.2.1,(x0.1,(x0.2.1,()))))))))))))))))))))))))))))))
  (
   br (iQ (Int.ofNat (List.length x0.2.2.2.2.2.2.2.2.2.2.2.2.2.2.2.2.2.2.2.2.2.2.2.1)) (0:Int))
   (
    some (.inr (.inr ((Int.ofNat (List.length b1)),(x0.2.2.2.2.1,(x0.2.2.2.2.2.1,(x0.2.2.2.2.2.2.1,(x0.2.2.2.2.2.2.2.1,(x0.2.2.2.2.2.2.2.2.1,(x0.2.2.2.2.2.2.2.2.2.1,(x0.2.2.2.2.2.2.2.2.2.2.1,(x0.2.2.2.2.2.2.2.2.2.2.2.1,(x0.2.2.2.2.2.2.2.2.2.2.2.2.1,(x0.2.2.2.2.2.2.2.2.2.2.2.2.2.1,(x0.2.2.2.2.2.2.2.2.2.2.2.2.2.2.1,(x0.2.2.2.2.2.2.2.2.2.2.2.2.2.2.2.1,(x0.2.2.2.2.2.2.2.2.2.2.2.2.2.2.2.2.1,(x0.2.2.2.2.2.2.2.2.2.2.2.2.2.2.2.2.2.1,(x0.2.2.2.2.2.2.2.2.2.2.2.2.2.2.2.2.2.2.1,(x0.2.2.2.2.2.2.2.2.2.2.2.2.2.2.2.2.2.2.2.1,(x0.2.2.2.2.2.2.2.2.2.2.2.2.2.2.2.2.2.2.2.2.1,(x0.2.2.2.2.2.2.2.2.2.2.2.2.2.2.2.2.2.2.2.2.2.1,(x0.2.2.2.2.2.2.2.2.2.2.2.2.2.2.2.2.2.2.2.2.2.2.1,(x0.2.2.2.2.2.2.2.2.2.2.2.2.2.2.2.2.2.2.2.2.2.2.2.1,(x0.2.2.2.2.2.2.2.2.2.2.2.2.2.2.2.2.2.2.2.2.2.2.2.2.1,(x0.2.2.2.2.2.2.2.2.2.2.2.2.2.2.2.2.2.2.2.2.2.2.2.2.2.1,(oX,(sB,()))))))))))))))))))))))))))))
   (
    some (.inl ((Int.ofNat (List.length b1)),(t12,((IntKind.wrap .i64 (t13+(1:Int))),(x0.2.2.2.2.1,(x0.2.2.2.2.2.1,(x0.2.2.2.2.2.2.1,(x0.2.2.2.2.2.2.2.1,(x0.2.2.2.2.2.2.2.2.1,(x0.2.2.2.2.2.2.2.2.2.1,(x0.2.2.2.2.2.2.2.2.2.2.1,(x0.2.2.2.2.2.2.2.2.2.2.2.1,(x0.2.2.2.2.2.2.2.2.2.2.2.2.1,(x0.2.2.2.2.2.2.2.2.2.2.2.2.2.1,(x0.2.2.2.2.2.2.2.2.2.2.2.2.2.2.1,(x0.2.2.2.2.2.2.2.2.2.2.2.2.2.2.2.1,(x0.2.2.2.2.2.2.2.2.2.2.2.2.2.2.2.2.1,(x0.2.2.2.2.2.2.2.2.2.2.2.2.2.2.2.2.2.1,(x0.2.2.2.2.2.2.2.2.2.2.2.2.2.2.2.2.2.2.1,(x0.2.2.2.2.2.2.2.2.2.2.2.2.2.2.2.2.2.2.2.1,(x0.2.2.2.2.2.2.2.2.2.2.2.2.2.2.2.2.2.2.2.2.1,(x0.2.2.2.2.2.2.2.2.2.2.2.2.2.2.2.2.2.2.2.2.2.1,(x0.2.2.2.2.2.2.2.2.2.2.2.2.2.2.2.2.2.2.2.2.2.2.1,(x0.2.2.2.2.2.2.2.2.2.2.2.2.2.2.2.2.2.2.2.2.2.2.2.1,(x0.2.2.2.2.2.2.2.2.2.2.2.2.2.2.2.2.2.2.2.2.2.2.2.2.1,(x0.2.2.2.2.2.2.2.2.2.2.2.2.2.2.2.2.2.2.2.2.2.2.2.2.2.1,(oX,(sB,())))))))))))))))))))))))))))))))
 (
  some (.inr (.inr (t7,(aE,(aD,(aG,(aH,(aI,(aL,(aA,(aF,(cg,(b1,(gg,(cT,(gj,(gk,(gl,(i6,(i7,(ja,(jb,(b6,(b7,(b8,(oX,(sB,()))))))))))))))))))))))))))))
def aaS(c0:xG) :EJ:=bB (fun d=>PD c0.F  d.1 d.2.1 d.2.2.1 d.2.2.2.1 d.2.2.2.2.1 d.2.2.2.2.2.1 d.2.2.2.2.2.2.1 d.2.2.2.2.2.2.2.1 d.2.2.2.2.2.2.2.2.1 d.2.2.2.2.2.2.2.2.2.1 d.2.2.2.2.2.2.2.2.2.2.1 d.2.2.2.2.2.2.2.2.2.2.2.1 d.2.2.2.2.2.2.2.2.2.2.2.2.1 d.2.2.2.2.2.2.2.2.2.2.2.2.2.1 d.2.2.2.2.2.2.2.2.2.2.2.2.2.2.1 d.2.2.2.2.2.2.2.2.2.2.2.2.2.2.2.1 d.2.2.2.2.2.2.2.2.2.2.2.2.2.2.2.2.1 d.2.2.2.2.2.2.2.2.2.2.2.2.2.2.2.2.2.1 d.2.2.2.2.2.2.2.2.2.2.2.2.2.2.2.2.2.2.1 d.2.2.2.2.2.2.2.2.2.2.2.2.2.2.2.2.2.2.2.1 d.2.2.2.2.2.2.2.2.2.2.2.2.2.2.2.2.2.2.2.2.1 d.2.2.2.2.2.2.2.2.2.2.2.2.2.2.2.2.2.2.2.2.2.1 d.2.2.2.2.2.2.2.2.2.2.2.2.2.2.2.2.2.2.2.2.2.2.1 d.2.2.2.2.2.2.2.2.2.2.2.2.2.2.2.2.2.2.2.2.2.2.2.1 d.2.2.2.2.2.2.2.2.2.2.2.2.2.2.2.2.2.2.2.2.2.2.2.2.1 d.2.2.2.2.2.2.2.2.2.2.2.2.2.2.2.2.2.2.2.2.2.2.2.2.2.1 d.2.2.2.2.2.2.2.2.2.2.2.2.2.2.2.2.2.2.2.2.2.2.2.2.2.2.1) (pL (kB c0 k0) e0 1 l0 fun d=>by kernel_rfl)
def aaT:EJ:=aaS EG
def PF:PG:=aR (fun d=>PD Pg  d.1 d.2.1 d.2.2.1 d.2.2.2.1 d.2.2.2.2.1 d.2.2.2.2.2.1 d.2.2.2.2.2.2.1 d.2.2.2.2.2.2.2.1 d.2.2.2.2.2.2.2.2.1 d.2.2.2.2.2.2.2.2.2.1 d.2.2.2.2.2.2.2.2.2.2.1 d.2.2.2.2.2.2.2.2.2.2.2.1 d.2.2.2.2.2.2.2.2.2.2.2.2.1 d.2.2.2.2.2.2.2.2.2.2.2.2.2.1 d.2.2.2.2.2.2.2.2.2.2.2.2.2.2.1 d.2.2.2.2.2.2.2.2.2.2.2.2.2.2.2.1 d.2.2.2.2.2.2.2.2.2.2.2.2.2.2.2.2.1 d.2.2.2.2.2.2.2.2.2.2.2.2.2.2.2.2.2.1 d.2.2.2.2.2.2.2.2.2.2.2.2.2.2.2.2.2.2.1 d.2.2.2.2.2.2.2.2.2.2.2.2.2.2.2.2.2.2.2.1 d.2.2.2.2.2.2.2.2.2.2.2.2.2.2.2.2.2.2.2.2.1 d.2.2.2.2.2.2.2.2.2.2.2.2.2.2.2.2.2.2.2.2.2.1 d.2.2.2.2.2.2.2.2.2.2.2.2.2.2.2.2.2.2.2.2.2.2.1 d.2.2.2.2.2.2.2.2.2.2.2.2.2.2.2.2.2.2.2.2.2.2.2.1 d.2.2.2.2.2.2.2.2.2.2.2.2.2.2.2.2.2.2.2.2.2.2.2.2.1 d.2.2.2.2.2.2.2.2.2.2.2.2.2.2.2.2.2.2.2.2.2.2.2.2.2.1 d.2.2.2.2.2.2.2.2.2.2.2.2.2.2.2.2.2.2.2.2.2.2.2.2.2.2.1) NN
def aaY(F0:EH)(L2:PG)(t1 aE:Int)(aD:List Int)(aG:List (Sh.T ae))(aH aI aL:List Int)(aA:List (Sh.T ab))(aF:List (Sh.T ae))(cg:Int)(b1:List (Sh.T (.agg [(.int .i64),cX])))(b2:List Int)(gg:Int)(cT:List Int)(gj:List (Sh.T ae))(gk gl i6:List Int)(i7:List (Sh.T ab))(ja:List (Sh.T ae))(jb:List (Sh.T ah))(b4:List Bool)(b5:List (Sh.T (.agg [(.int .i64),(.int .i64),(.sl aC)]))):Option (Out ED):=
 ar (L2 ((0:Int),(t1,((0:Int),(aE,(aD,(aG,(aH,(aI,(aL,(aA,(aF,(cg,(b1,(gg,(cT,(gj,(gk,(gl,(i6,(i7,(ja,(jb,(b2,(b4,(b5,((0:Int),((0:Int),())))))))))))))))))))))))))))) fun x0=>
 (match x0 with|.inl x1=>some (x1.2.2.2.2.2.2.2.2.2.2.2.2.2.2.2.2.2.2.2.2.2.2.2.2.2.1,(x1.2.2.2.2.2.2.2.2.2.2.2.2.2.2.2.2.2.2.2.2.2.2.2.2.2.2.1,(x1.1,(x1.2.1,(x1.2.2.1,(x1.2.2.2.1,(x1.2.2.2.2.1,(x1.2.2.2.2.2.1,(x1.2.2.2.2.2.2.1,(x1.2.2.2.2.2.2.2.1,(x1.2.2.2.2.2.2.2.2.1,(x1.2.2.2.2.2.2.2.2.2.1,(x1.2.2.2.2.2.2.2.2.2.2.1,(x1.2.2.2.2.2.2.2.2.2.2.2.1,(x1.2.2.2.2.2.2.2.2.2.2.2.2.1,(x1.2.2.2.2.2.2.2.2.2.2.2.2.2.1,(x1.2.2.2.2.2.2.2.2.2.2.2.2.2.2.1,(x1.2.2.2.2.2.2.2.2.2.2.2.2.2.2.2.1,(x1.2.2.2.2.2.2.2.2.2.2.2.2.2.2.2.2.1,(x1.2.2.2.2.2.2.2.2.2.2.2.2.2.2.2.2.2.1,(x1.2.2.2.2.2.2.2.2.2.2.2.2.2.2.2.2.2.2.1,(x1.2.2.2.2.2.2.2.2.2.2.2.2.2.2.2.2.2.2.2.1,(x1.2.2.2.2.2.2.2.2.2.2.2.2.2.2.2.2.2.2.2.2.1,(x1.2.2.2.2.2.2.2.2.2.2.2.2.2.2.2.2.2.2.2.2.2.1,(x1.2.2.2.2.2.2.2.2.2.2.2.2.2.2.2.2.2.2.2.2.2.2.1,(x1.2.2.2.2.2.2.2.2.2.2.2.2.2.2.2.2.2.2.2.2.2.2.2.1,(x1.2.2.2.2.2.2.2.2.2.2.2.2.2.2.2.2.2.2.2.2.2.2.2.2.1,())))))))))))))))))))))))))))|.inr x1=>some (x1.2.2.2.2.2.2.2.2.2.2.2.2.2.2.2.2.2.2.2.2.2.2.2.1,(x1.2.2.2.2.2.2.2.2.2.2.2.2.2.2.2.2.2.2.2.2.2.2.2.2.1,((0:Int),((0:Int),(x1.1,(x1.2.1,(x1.2.2.1,(x1.2.2.2.1,(x1.2.2.2.2.1,(x1.2.2.2.2.2.1,(x1.2.2.2.2.2.2.1,(x1.2.2.2.2.2.2.2.1,(x1.2.2.2.2.2.2.2.2.1,(x1.2.2.2.2.2.2.2.2.2.1,(x1.2.2.2.2.2.2.2.2.2.2.1,(x1.2.2.2.2.2.2.2.2.2.2.2.1,(x1.2.2.2.2.2.2.2.2.2.2.2.2.1,(x1.2.2.2.2.2.2.2.2.2.2.2.2.2.1,(x1.2.2.2.2.2.2.2.2.2.2.2.2.2.2.1,(x1.2.2.2.2.2.2.2.2.2.2.2.2.2.2.2.1,(x1.2.2.2.2.2.2.2.2.2.2.2.2.2.2.2.2.1,(x1.2.2.2.2.2.2.2.2.2.2.2.2.2.2.2.2.2.1,(x1.2.2.2.2.2.2.2.2.2.2.2.2.2.2.2.2.2.2.1,(x1.2.2.2.2.2.2.2.2.2.2.2.2.2.2.2.2.2.2.2.1,(x1.2.2.2.2.2.2.2.2.2.2.2.2.2.2.2.2.2.2.2.2.1,(x1.2.2.2.2.2.2.2.2.2.2.2.2.2.2.2.2.2.2.2.2.2.1,(x1.2.2.2.2.2.2.2.2.2.2.2.2.2.2.2.2.2.2.2.2.2.2.1,())))))))))))))))))))))))))))
 )
def aaZ(c0:xG)(M2:EJ):xL:=⟨u23 (aaY c0.F M2.L),pB Tryz.func60 41 (kB c0 k0) e0 1 (sS (sC M2 l0)) fun d=>by kernel_rfl⟩
def EL:xL:=aaZ EG aaT
def tV:EM:=EL.F
abbrev PZ:List Sh:=[bg,(.int .i64)]
abbrev tZ:List Sh:=[abA,(.int .i64)]
abbrev Fe:=TL PZ->Option (TL tZ)
abbrev yg:=Kd 19 PZ tZ
def abj(F0:EM)(F1:Fq)(a0:Sh.T bg)(a1:Int):Option (TL tZ):=
 ar (F1 a0) fun x0=>
 (match x0 with
 |.inl x1=>
  br (Bool.not (iQ x1.1 (0:Int)))
  (
   some ((false,((0:Int),(false,((0:Int),())))),(x1.1,())))
  (
   br (iL a1 (0:Int))
   (
    some ((false,((0:Int),(false,((0:Int),())))),((1:Int),())))
   (
    ai (aQ false true (iL (2000:Int) a1))<|
    some ((false,((0:Int),(false,((0:Int),())))),((1:Int),()))))
 |.inr x1=>
  br (Bool.not (iQ x1.1 (0:Int)))
  (
   some ((false,((0:Int),(false,((0:Int),())))),(x1.1,())))
  (
   br (iL a1 (0:Int))
   (
    some ((false,((0:Int),(false,((0:Int),())))),((1:Int),())))
   (
    br (aQ false true (iL (2000:Int) a1))
    (
     some ((false,((0:Int),(false,((0:Int),())))),((1:Int),())))
    (
     ar (F0 (a1,x1.2)) fun x2=>
     br (iL (0:Int) x2.2.2.2.1)
     (
      some ((true,(x2.2.2.2.1,(false,((0:Int),())))),((0:Int),())))
     (
      some ((false,((0:Int),((iQ (Int.ofNat (List.length x2.2.2.2.2.2.2.2.2.2.2.2.2.2.2.2.2.2.2.2.2.2.2.2.2.1)) (0:Int)),(x2.2.2.2.2.1,())))),((0:Int),()))))))
 )
def abk(c0:xL)(c1:yk) :yg:=⟨u2 (abj c0.F c1.F),pD Tryz.func19 49 (kB c0 (kB c1 k0)) e0 1 (sS l0) fun d=>by kernel_rfl⟩
def Fc:yg:=abk EL Fp
def yd:Fe:=Fc.F
abbrev OM:Lay:={ T:=[(0,.hd 0 (.sl .bool))],h:=[(0,.arr (.sl .bool) 37)],nx:=1 }
abbrev Ea:List (Ev.Ex×Lay):=[(.ret,{ T:=[],h:=[(0,.arr (.sl .bool) 37)],nx:=1 })]
abbrev OR:=TL OM.σs->Option (Out Ea)
abbrev Ec:=Kb 64 1 OM 0 Ea
abbrev xh:Lay:={ T:=[(0,.hd 0 (.sl .bool)),(2,.int .i64),(3,.int .i64)],h:=[(0,.arr (.sl .bool) 37)],nx:=1 }
abbrev xg:List (Ev.Ex×Lay):=[((.exit 0),{ T:=[],h:=[(0,.arr (.sl .bool) 37)],nx:=1 })]
abbrev OP:=TL xh.σs->Option (Out xg)
abbrev OO:=Ld 1 28 (bu [0] (aW Tryz.f64)) xh xg
def ON(t2 t3:Int)(b0:List (List Bool)):Option (TL xh.σs⊕Out xg):=
 br (iL t2 t3)
 (
  ai (aw t3 (List.length b0))<|
  ai (aw t2 (List.length b0))<|
  ai (aw t2 (List.length b0))<|
  ai (aw t3 (List.length (List.set b0 (Int.toNat t2) (gt (.sl .bool) b0 t3))))<|
  ai (iQ t3 t3)<|
  some (.inl ((IntKind.wrap .i64 (t2+(1:Int))),((IntKind.wrap .i64 (t3-(1:Int))),((List.set (List.set b0 (Int.toNat t2) (gt (.sl .bool) b0 t3)) (Int.toNat t3) (gt (.sl .bool) b0 t2)),())))))
 (
  some (.inr (b0,())))
def aab  :OO:=bB (u3 ON) (pL k0 e0 1 l0 fun d=>by kernel_rfl)
def Eb:OP:=aR (u3 ON) NN
def aac(L1:OP)(b0:List (List Bool)):Option (Out Ea):=
 ar (L1 ((0:Int),((IntKind.wrap .i64 ((Int.ofNat (List.length b0))-(1:Int))),(b0,())))) fun x0=>
 some (x0.1,())
def aad(M1:OO):Ec:=⟨u1 (aac M1.L),pB Tryz.func64 28 k0 e0 1 (sS (sC M1 l0)) fun d=>by kernel_rfl⟩
def OQ:Ec:=aad  aab
def aaa:OR:=OQ.F
abbrev ri:Lay:={ T:=[(2,.ptr 0 0),(4,.ptr 1 0),(7,.ptr 3 0),(8,.ptr 9 0)],h:=[(0,.cells fq 27),(1,.cells [.bq,.bq,.hd 2 (.sl .bool),.int .i64] 58),(2,.arr (.sl .bool) 37),(3,.cells [.int .i64,.fz (.int .i64),.fz ae,.fz (.int .i64),.fz (.int .i64),.fz (.int .i64),.fz ab,.fz ae,.int .i64,.mp 4,.hd 5 (.int .i64),.ptr 6 0] 100),(4,.map .i64 cX),(5,.arr (.int .i64) 3),(6,.cells [.int .i64,.fz (.int .i64),.fz ae,.fz (.int .i64),.fz (.int .i64),.fz (.int .i64),.fz ab,.fz ae,.fz ah,.hd 7 .bool,.cS 8] 145),(7,.arr .bool 4),(8,.cO 220),(9,.cells [.int .i64,.int .i64] 108)],nx:=10 }
abbrev rh:List (Ev.Ex×Lay):=[((.exit 1),{ T:=[(4,.ptr 0 0),(7,.ptr 2 0),(8,.ptr 8 0)],h:=[(0,.cells [.bq,.bq,.hd 1 (.sl .bool),.int .i64] 58),(1,.arr (.sl .bool) 37),(2,.cells [.int .i64,.fz (.int .i64),.fz ae,.fz (.int .i64),.fz (.int .i64),.fz (.int .i64),.fz ab,.fz ae,.int .i64,.mp 3,.hd 4 (.int .i64),.ptr 5 0] 100),(3,.map .i64 cX),(4,.arr (.int .i64) 3),(5,.cells [.int .i64,.fz (.int .i64),.fz ae,.fz (.int .i64),.fz (.int .i64),.fz (.int .i64),.fz ab,.fz ae,.fz ah,.hd 6 .bool,.cS 7] 145),(6,.arr .bool 4),(7,.cO 220),(8,.cells [.int .i64,.int .i64] 108)],nx:=9 })]
abbrev P9:=TL ri.σs->Option (Out rh)
abbrev Fb:=Ld 0 76 (bu [0] (aW Tryz.f24)) ri rh
def ud(F1:lW)(aE:Int)(aD:List Int)(aG:List (Sh.T ae))(aH aI aL:List Int)(aA:List (Sh.T ab))(aF:List (Sh.T ae))(eW:Int)(b2:List (List Bool))(gg:Int)(cT:List Int)(gj:List (Sh.T ae))(gk gl i6:List Int)(i7:List (Sh.T ab))(ja:List (Sh.T ae))(jb:Int)(b4:List (Sh.T (.agg [(.int .i64),cX])))(b5:List Int)(oW:Int)(YY:List Int)(YZ:List (Sh.T ae))(Y0 Y1 Y2:List Int)(Y3:List (Sh.T ab))(Y4:List (Sh.T ae))(Y5:List (Sh.T ah))(b7:List Bool)(b8:List (Sh.T (.agg [(.int .i64),(.int .i64),(.sl aC)])))(oX sB:Int):Option (TL ri.σs⊕Out rh):=
 ar (F1 ((IntKind.wrap .u64 sB),((Int.ofNat (List.length aD)),()))) fun x0=>
 ai (room 24 (List.length (ap b2 (x0.1::[]))))<|
 br (iL (@eX cX b4 oX).1 (0:Int))
 (
  some (.inr (eW,((ap b2 (x0.1::[])),(gg,(cT,(gj,(gk,(gl,(i6,(i7,(ja,(jb,(b4,(b5,(oW,(YY,(YZ,(Y0,(Y1,(Y2,(Y3,(Y4,(Y5,(b7,(b8,(oX,(sB,()))))))))))))))))))))))))))))
 (
  some (.inl (aE,(aD,(aG,(aH,(aI,(aL,(aA,(aF,(eW,((ap b2 (x0.1::[])),(gg,(cT,(gj,(gk,(gl,(i6,(i7,(ja,(jb,(b4,(b5,(oW,(YY,(YZ,(Y0,(Y1,(Y2,(Y3,(Y4,(Y5,(b7,(b8,((@eX cX b4 oX).1,((@eX cX b4 oX).2.1,()))))))))))))))))))))))))))))))))))))
def abh(c1:kY) :Fb:=bB (fun d=>ud c1.F  d.1 d.2.1 d.2.2.1 d.2.2.2.1 d.2.2.2.2.1 d.2.2.2.2.2.1 d.2.2.2.2.2.2.1 d.2.2.2.2.2.2.2.1 d.2.2.2.2.2.2.2.2.1 d.2.2.2.2.2.2.2.2.2.1 d.2.2.2.2.2.2.2.2.2.2.1 d.2.2.2.2.2.2.2.2.2.2.2.1 d.2.2.2.2.2.2.2.2.2.2.2.2.1 d.2.2.2.2.2.2.2.2.2.2.2.2.2.1 d.2.2.2.2.2.2.2.2.2.2.2.2.2.2.1 d.2.2.2.2.2.2.2.2.2.2.2.2.2.2.2.1 d.2.2.2.2.2.2.2.2.2.2.2.2.2.2.2.2.1 d.2.2.2.2.2.2.2.2.2.2.2.2.2.2.2.2.2.1 d.2.2.2.2.2.2.2.2.2.2.2.2.2.2.2.2.2.2.1 d.2.2.2.2.2.2.2.2.2.2.2.2.2.2.2.2.2.2.2.1 d.2.2.2.2.2.2.2.2.2.2.2.2.2.2.2.2.2.2.2.2.1 d.2.2.2.2.2.2.2.2.2.2.2.2.2.2.2.2.2.2.2.2.2.1 d.2.2.2.2.2.2.2.2.2.2.2.2.2.2.2.2.2.2.2.2.2.2.1 d.2.2.2.2.2.2.2.2.2.2.2.2.2.2.2.2.2.2.2.2.2.2.2.1 d.2.2.2.2.2.2.2.2.2.2.2.2.2.2.2.2.2.2.2.2.2.2.2.2.1 d.2.2.2.2.2.2.2.2.2.2.2.2.2.2.2.2.2.2.2.2.2.2.2.2.2.1 d.2.2.2.2.2.2.2.2.2.2.2.2.2.2.2.2.2.2.2.2.2.2.2.2.2.2.1 d.2.2.2.2.2.2.2.2.2.2.2.2.2.2.2.2.2.2.2.2.2.2.2.2.2.2.2.1 d.2.2.2.2.2.2.2.2.2.2.2.2.2.2.2.2.2.2.2.2.2.2.2.2.2.2.2.2.1 d.2.2.2.2.2.2.2.2.2.2.2.2.2.2.2.2.2.2.2.2.2.2.2.2.2.2.2.2.2.1 d.2.2.2.2.2.2.2.2.2.2.2.2.2.2.2.2.2.2.2.2.2.2.2.2.2.2.2.2.2.2.1 d.2.2.2.2.2.2.2.2.2.2.2.2.2.2.2.2.2.2.2.2.2.2.2.2.2.2.2.2.2.2.2.1 d.2.2.2.2.2.2.2.2.2.2.2.2.2.2.2.2.2.2.2.2.2.2.2.2.2.2.2.2.2.2.2.2.1 d.2.2.2.2.2.2.2.2.2.2.2.2.2.2.2.2.2.2.2.2.2.2.2.2.2.2.2.2.2.2.2.2.2.1) (pL (kD c1 k0) (eC Tryz.func53 (by kernel_rfl) e0) 5 l0 fun d=>by kernel_rfl)
def abi:Fb:=abh lY
def abg:P9:=aR (fun d=>ud iZ  d.1 d.2.1 d.2.2.1 d.2.2.2.1 d.2.2.2.2.1 d.2.2.2.2.2.1 d.2.2.2.2.2.2.1 d.2.2.2.2.2.2.2.1 d.2.2.2.2.2.2.2.2.1 d.2.2.2.2.2.2.2.2.2.1 d.2.2.2.2.2.2.2.2.2.2.1 d.2.2.2.2.2.2.2.2.2.2.2.1 d.2.2.2.2.2.2.2.2.2.2.2.2.1 d.2.2.2.2.2.2.2.2.2.2.2.2.2.1 d.2.2.2.2.2.2.2.2.2.2.2.2.2.2.1 d.2.2.2.2.2.2.2.2.2.2.2.2.2.2.2.1 d.2.2.2.2.2.2.2.2.2.2.2.2.2.2.2.2.1 d.2.2.2.2.2.2.2.2.2.2.2.2.2.2.2.2.2.1 d.2.2.2.2.2.2.2.2.2.2.2.2.2.2.2.2.2.2.1 d.2.2.2.2.2.2.2.2.2.2.2.2.2.2.2.2.2.2.2.1 d.2.2.2.2.2.2.2.2.2.2.2.2.2.2.2.2.2.2.2.2.1 d.2.2.2.2.2.2.2.2.2.2.2.2.2.2.2.2.2.2.2.2.2.1 d.2.2.2.2.2.2.2.2.2.2.2.2.2.2.2.2.2.2.2.2.2.2.1 d.2.2.2.2.2.2.2.2.2.2.2.2.2.2.2.2.2.2.2.2.2.2.2.1 d.2.2.2.2.2.2.2.2.2.2.2.2.2.2.2.2.2.2.2.2.2.2.2.2.1 d.2.2.2.2.2.2.2.2.2.2.2.2.2.2.2.2.2.2.2.2.2.2.2.2.2.1 d.2.2.2.2.2.2.2.2.2.2.2.2.2.2.2.2.2.2.2.2.2.2.2.2.2.2.1 d.2.2.2.2.2.2.2.2.2.2.2.2.2.2.2.2.2.2.2.2.2.2.2.2.2.2.2.1 d.2.2.2.2.2.2.2.2.2.2.2.2.2.2.2.2.2.2.2.2.2.2.2.2.2.2.2.2.1 d.2.2.2.2.2.2.2.2.2.2.2.2.2.2.2.2.2.2.2.2.2.2.2.2.2.2.2.2.2.1 d.2.2.2.2.2.2.2.2.2.2.2.2.2.2.2.2.2.2.2.2.2.2.2.2.2.2.2.2.2.2.1 d.2.2.2.2.2.2.2.2.2.2.2.2.2.2.2.2.2.2.2.2.2.2.2.2.2.2.2.2.2.2.2.1 d.2.2.2.2.2.2.2.2.2.2.2.2.2.2.2.2.2.2.2.2.2.2.2.2.2.2.2.2.2.2.2.2.1 d.2.2.2.2.2.2.2.2.2.2.2.2.2.2.2.2.2.2.2.2.2.2.2.2.2.2.2.2.2.2.2.2.2.1) NN
abbrev Qj:List Sh:=[bg,(.int .i64)]
abbrev Fo:List Sh:=[zo,.bool,(.int .i64)]
abbrev Qu:=TL Qj->Option (TL Fo)
abbrev Fy:=Kd 24 Qj Fo
def abE(F0:rq)(F1:lW)(F2:OR)(F3:EM)(F4:Fq)(L10:P9)(a0:Sh.T bg)(a1:Int):Option (TL Fo):=
 ar (F4 a0) fun x0=>
 (match x0 with
 |.inl x1=>
  br (Bool.not (iQ x1.1 (0:Int)))
  (
   some ((([],([],())),([],((0:Int),()))),(false,(x1.1,()))))
  (
   br (iL a1 (0:Int))
   (
    some ((([],([],())),([],((0:Int),()))),(false,((1:Int),()))))
   (
    ai (aQ false true (iL (2000:Int) a1))<|
    some ((([],([],())),([],((0:Int),()))),(false,((1:Int),())))))
 |.inr x1=>
  br (Bool.not (iQ x1.1 (0:Int)))
  (
   some ((([],([],())),([],((0:Int),()))),(false,(x1.1,()))))
  (
   br (iL a1 (0:Int))
   (
    some ((([],([],())),([],((0:Int),()))),(false,((1:Int),()))))
   (
    br (aQ false true (iL (2000:Int) a1))
    (
     some ((([],([],())),([],((0:Int),()))),(false,((1:Int),()))))
    (
     ar (F3 (a1,x1.2)) fun x2=>
     br (iQ x2.2.2.2.1 (0:Int))
     (
      some ((([],([],())),([],((0:Int),()))),(false,((0:Int),()))))
     (
      ar (L10 (a0.1,(a0.2.1,(a0.2.2.1,(a0.2.2.2.1,(a0.2.2.2.2.1,(a0.2.2.2.2.2.1,(a0.2.2.2.2.2.2.1,(a0.2.2.2.2.2.2.2.1,(x2.2.2.1,([],(x2.2.2.2.2.2.1,(x2.2.2.2.2.2.2.1,(x2.2.2.2.2.2.2.2.1,(x2.2.2.2.2.2.2.2.2.1,(x2.2.2.2.2.2.2.2.2.2.1,(x2.2.2.2.2.2.2.2.2.2.2.1,(x2.2.2.2.2.2.2.2.2.2.2.2.1,(x2.2.2.2.2.2.2.2.2.2.2.2.2.1,(x2.2.2.2.2.2.2.2.2.2.2.2.2.2.1,(x2.2.2.2.2.2.2.2.2.2.2.2.2.2.2.1,(x2.2.2.2.2.2.2.2.2.2.2.2.2.2.2.2.2.2.2.2.2.2.2.2.2.1,(x2.2.2.2.2.2.2.2.2.2.2.2.2.2.2.2.1,(x2.2.2.2.2.2.2.2.2.2.2.2.2.2.2.2.2.1,(x2.2.2.2.2.2.2.2.2.2.2.2.2.2.2.2.2.2.1,(x2.2.2.2.2.2.2.2.2.2.2.2.2.2.2.2.2.2.2.1,(x2.2.2.2.2.2.2.2.2.2.2.2.2.2.2.2.2.2.2.2.1,(x2.2.2.2.2.2.2.2.2.2.2.2.2.2.2.2.2.2.2.2.2.1,(x2.2.2.2.2.2.2.2.2.2.2.2.2.2.2.2.2.2.2.2.2.2.1,(x2.2.2.2.2.2.2.2.2.2.2.2.2.2.2.2.2.2.2.2.2.2.2.1,(x2.2.2.2.2.2.2.2.2.2.2.2.2.2.2.2.2.2.2.2.2.2.2.2.1,(x2.2.2.2.2.2.2.2.2.2.2.2.2.2.2.2.2.2.2.2.2.2.2.2.2.2.1,(x2.2.2.2.2.2.2.2.2.2.2.2.2.2.2.2.2.2.2.2.2.2.2.2.2.2.2.1,(x2.1,(x2.2.1,()))))))))))))))))))))))))))))))))))) fun x3=>
      ar (F2 (x3.2.1,())) fun x4=>
      ar (F1 ((IntKind.wrap .u64 x3.2.2.2.2.2.2.2.2.2.2.2.2.2.2.2.2.2.2.2.2.2.2.2.2.1),(x3.2.2.2.2.2.2.2.2.2.2.1,()))) fun x5=>
      ar (F0 ((x3.2.2.1,(x3.2.2.2.1,(x3.2.2.2.2.1,(x3.2.2.2.2.2.1,(x3.2.2.2.2.2.2.1,(x3.2.2.2.2.2.2.2.1,(x3.2.2.2.2.2.2.2.2.1,(x3.2.2.2.2.2.2.2.2.2.1,())))))))),((x5.1,([],())),()))) fun x6=>
      ai (iQ x6.2.1 x6.2.1)<|
      some (((x6.1.1,(x6.1.2.1,())),(x4.1,(x3.1,()))),(true,((0:Int),())))))))
 )
def abF(c0:pN)(c1:kY)(c2:Ec)(c3:xL)(c4:yk)(M10:Fb):Fy:=⟨u2 (abE c0.F c1.F c2.F c3.F c4.F M10.L),pD Tryz.func24 76 (kD c0 (kD c1 (kB c2 (kB c3 (kB c4 k0))))) (eC Tryz.func53 (by kernel_rfl) e0) 5 (sS (sC M10 l0)) fun d=>by kernel_rfl⟩
def Qt:Fy:=abF rn lY OQ EL Fp abi
def yj:Qu:=Qt.F
abbrev Pd:List Sh:=[bg]
abbrev Ez:List Sh:=[(.int .i64)]
abbrev aaH:=TL Pd->Option (TL Ez)
abbrev Pr:=Kd 16 Pd Ez
def aaE(F0:xF)(F1:vb)(a0:Sh.T bg):Option (TL Ez):=
 ar (F1 (a0,())) fun x0=>
 br (Bool.not (iQ x0.1 (0:Int)))
 (
  some (x0.1,()))
 (
  br (iL (6:Int) (Int.ofNat (List.length a0.2.1)))
  (
   some ((17:Int),()))
  (
   ar (F0 (a0,())) fun x1=>
   br (aQ false true (iL (10:Int) (IntKind.wrap .i64 (@HAdd.hAdd (Int) (Int) (Int) _ (Int.ofNat (List.length a0.2.2.1)) x1.1))))
   (
    some ((17:Int),()))
   (
    some ((0:Int),()))))
def aaF(c0:tU)(c1:rY) :Pr:=⟨u1 (aaE c0.F c1.F),pD Tryz.func16 22 (kD c0 (kD c1 k0)) e0 1 (sS l0) fun d=>by kernel_rfl⟩
def aaG:Pr:=aaF xE vc
def aas:aaH:=aaG.F
abbrev OZ:List Sh:=[]
abbrev Ej:List Sh:=[.bool]
abbrev Pn:=TL OZ->Option (TL Ej)
abbrev EE:=Kd 14 OZ Ej
def aaw(F0:Fe)  :Option (TL Ej):=
 ar (F0 (((1:Int),([],((((1:Int),((1:Int),((0:Int),())))::[]),([],(((2:Int)::[]),([],([],([],())))))))),((9:Int),()))) fun x0=>
 br (iQ x0.2.1 (0:Int))
 (
  br (aQ true x0.1.1 false)
  (
   br (aQ true (iQ x0.1.2.1 (2:Int)) false)
   (
    some ((aQ true (Bool.not x0.1.2.2.1) false),()))
   (
    some (false,())))
  (
   some (false,())))
 (
  some (false,()))
def aax(c0:yg) :EE:=⟨fun d=>aaw c0.F  ,pZ Tryz.func14 27 (kD c0 k0) e0 1 (sS l0) fun d=>by kernel_rfl⟩
def Pm:EE:=aax Fc
def aai:Pn:=Pm.F
theorem abR:aai ()=some (true,()):=by kernel_rfl
open Go.Proofs.YtkcpdpplobhpaaaGreat.Pl
set_option maxRecDepth 10000
def bP(n:ax):Int:=(n.au.length:Int)+dF n
def wid(n:ax):Nat:=(bP n).toNat
def jZ(n:ax):Int:=if Pl.cL n≠0 then Pl.cL n else if 6<n.aJ.length then 17 else if 10<bP n then 17 else 0
theorem QI(n:ax):0<=dF n/\dF n<=1000:=by
 unfold dF;by_cases hc:Pl.cL n=0
 .rw[if_neg (fun q=>q hc)];obtain⟨V,hs,_⟩:=Qz hc;have:=(yA n.aa 0 (fun m hm=>mI hs m hm)).1;have this:0<=dZ n.aa:=this;unfold jc;split<;>omega
 .rw[if_pos hc];omega
theorem Gz{n:ax}(ft:Fit n):IntKind.wrap .i64 (Int.ofNat (List.length (n.au.map bL))+dF n)=bP n:=by rw[List.length_map];have:=ft.aB.1;have:=QI n;exact bK (x:=((n.au.length:Nat):Int)+dF n) (by omega)
theorem Q7{n:ax}(ft:Fit n):abp (bc n,())=some (jZ n,())/\aas (bc n,())=some (jZ n,()):=by
 have c1:=po ft;have c2:=DW ft;have d1:=uh ft;have d2:=FD ft;have w:=Gz ft;unfold jZ;by_cases hc:Pl.cL n=0
 .rw[if_neg (fun q=>q hc)];by_cases h1:6<n.aJ.length
  .rw[if_pos h1];have i1:iL (6:Int) (Int.ofNat (List.length n.aJ))=true:=aj (show(6:Int)<((n.aJ.length:Nat):Int) by omega);exact⟨ag c1 (af (df (aj hc)) (ao i1 rfl)),ag c2 (af (df (aj hc)) (ao i1 rfl))⟩
  .rw[if_neg h1];have i1:iL (6:Int) (Int.ofNat (List.length n.aJ))=false:=av (show ¬(6:Int)<((n.aJ.length:Nat):Int) by omega);by_cases h2:10<bP n
   .rw[if_pos h2];have i2:aQ false true (iL (10:Int) (IntKind.wrap .i64 (Int.ofNat (List.length (n.au.map bL))+dF n)))=true:=by rw[w];exact aj h2
    exact⟨ag c1 (af (df (aj hc)) (af i1 (ag d1 (ao i2 rfl)))),ag c2 (af (df (aj hc)) (af i1 (ag d2 (ao i2 rfl))))⟩
   .rw[if_neg h2];have i2:aQ false true (iL (10:Int) (IntKind.wrap .i64 (Int.ofNat (List.length (n.au.map bL))+dF n)))=false:=by rw[w];exact av h2
    exact⟨ag c1 (af (df (aj hc)) (af i1 (ag d1 (af i2 rfl)))),ag c2 (af (df (aj hc)) (af i1 (ag d2 (af i2 rfl))))⟩
 .rw[if_pos hc];exact⟨ag c1 (ao (fD (av hc)) rfl),ag c2 (ao (fD (av hc)) rfl)⟩
structure fN(n:ax)(V:Nat):Prop where
 hs:cq n V
 h0:dt n=0
 ha:eO (aV n) V=true
 hc:Pl.cL n=0
 ins:n.aJ.length<=6
 wd:bP n=(wid n:Int)
 ow:wid n<=10
 sm:∀m∈n.aa,Small m
 off:n.au.length+j9 n.aa=wid n
theorem aeG{n:ax}(h:jZ n=0):∃V,fN n V:=by
 unfold jZ at h;by_cases hc:Pl.cL n=0
 .rw[if_neg (fun q=>q hc)]at h;by_cases h1:6<n.aJ.length
  .rw[if_pos h1]at h;omega
  rw[if_neg h1]at h;by_cases h2:10<bP n
  .rw[if_pos h2]at h;omega
  obtain⟨V,hs,h0,ha⟩:=Qz hc;have hr:=QI n;have hw:bP n=(wid n:Int):=by unfold wid;unfold bP;omega
  have hcl:dF n=jc (dZ n.aa):=by unfold dF;rw[if_neg (fun q=>q hc)]
  have hsm:=FQ hs (by rw[<-hcl];unfold bP at h2;omega);have hsum:((j9 n.aa:Nat):Int)=dZ n.aa:=Q4 n.aa 0 hsm;have hcs:dF n=dZ n.aa:=by
   rw[hcl];have:dF n<=10:=by unfold bP at h2;omega
   rw[hcl]at this;unfold jc at this |-;split at this
   .omega
   .rename_i q;rw[if_neg q]
  refine⟨V,hs,h0,ha,hc,by omega,hw,by omega,hsm,?_⟩;unfold bP at hw;omega
 .rw[if_pos hc]at h;exact absurd h hc
def bo(n:ax)(k:Nat):List Bool×List (List aO):=(my n (bN k (wid n)) []).2
def jX(n:ax)(k:Nat):cV.T:=((bo n k).1,((bo n k).2,()))
def qu(n:ax)(k:Nat):Bool:=decide (om (bc n) (bo n k).1 (bo n k).2=0)
def fY(n:ax)(k:Nat):List Nat:=(List.range k).filter (qu n)
def jj(n:ax)(k:Nat):List cV.T:=(fY n k).map (jX n)
theorem abQ(n:ax)(k:Nat):fY n (k+1)=fY n k++(if qu n k=true then[k]else[]):=by unfold fY;rw[List.range_succ,List.filter_append];congr 1;cases h:qu n k<;>simp[h]
theorem FK(n:ax)(k:Nat):(fY n k).length<=k:=by have:=List.length_filter_le (qu n) (List.range k);rw[List.length_range]at this;exact this
section
variable{n:ax}{V:Nat}(t:fN n V)
include t
theorem uu(k:Nat):my n (bN k (wid n)) []=(0,((bN k (wid n)).take n.au.length,eJ n ((bN k (wid n)).drop n.au.length) n.aa.length)):=by unfold my;have h1:=t.wd;have h2:=t.ow;unfold bP at h1;rw[if_neg (fun q=>q t.hc),if_neg (by omega),if_pos ⟨by rw[j7];omega,rfl⟩]
theorem rG(k:Nat):(bo n k).1.length=n.au.length/\(bo n k).2.length=n.aa.length/\∀c∈(bo n k).2,c.length<=64:=by
 unfold bo;rw[uu t k];have h1:=t.off;refine⟨?_,FU _ _ _,?_⟩
 .show((bN k (wid n)).take n.au.length).length=_;rw[List.length_take,j7];omega
 .intro c hc;have hc:c∈eJ n ((bN k (wid n)).drop n.au.length) n.aa.length:=hc;unfold eJ at hc;obtain⟨i,hi,rfl⟩:=List.mem_map.1 hc;have hi:=List.mem_range.1 hi;have hx:=List.getElem?_eq_getElem hi;have hg:n.aa.getD i mz=n.aa[i]:=by rw[List.getD_eq_getElem?_getD,hx];rfl
  rw[hg];exact Nat.le_trans (FR _ _ _) (t.sm _ (List.getElem_mem hi)).iM
theorem Gv(k:Nat):nC (bo n k).2:=by
 unfold bo;rw[uu t k];intro c hc i hi;have hc:c∈eJ n ((bN k (wid n)).drop n.au.length) n.aa.length:=hc;unfold eJ at hc;obtain⟨j,hj,rfl⟩:=List.mem_map.1 hc;have hj:=List.mem_range.1 hj;have hx:=List.getElem?_eq_getElem hj;have hg:n.aa.getD j mz=n.aa[j]:=by rw[List.getD_eq_getElem?_getD,hx];rfl
 rw[hg]at hi |-;have sm:=t.sm _ (List.getElem_mem hj);have hcn:=sm.iM;have w2:=sm.w2;obtain⟨p,hp⟩:∃p,(fV n.aa[j].word.toNat (((bN k (wid n)).drop n.au.length).drop (cD n j)) (2^n.aa[j].addr.toNat))[i]?=some p:=⟨_,List.getElem?_eq_getElem hi⟩;obtain⟨e1,e2⟩:=QS hp;rw[e1,e2];have hm:=List.mem_of_getElem? hp;unfold fV at hm;obtain⟨a,ha,hm⟩:=List.mem_flatMap.1 hm;have ha:=List.mem_range.1 ha;split at hm
 .cases hm
 .obtain rfl:=List.mem_singleton.1 hm;have hlt:=lZ (((((bN k (wid n)).drop n.au.length).drop (cD n j)).drop (a*n.aa[j].word.toNat)).take n.aa[j].word.toNat);have h64:(2:Nat)^(((((bN k (wid n)).drop n.au.length).drop (cD n j)).drop (a*n.aa[j].word.toNat)).take n.aa[j].word.toNat).length<=2^64:=Nat.pow_le_pow_right (by omega) (by rw[List.length_take];omega);have h65:(2:Nat)^64=18446744073709551616:=rfl;refine⟨⟨?_,?_⟩,⟨?_,?_⟩⟩
  .show(0:Int)<=(a:Int);omega
  .show(a:Int)<=18446744073709551615;omega
  .show(0:Int)<=((cellAt _ _ _:Nat):Int);omega
  .show((cellAt n.aa[j].word.toNat (((bN k (wid n)).drop n.au.length).drop (cD n j)) a:Nat):Int)<=18446744073709551615;unfold cellAt;omega
variable(ft:Fit n)
include ft
theorem abT(k:Nat):Nu (bc n,(((bo n k).1,((bo n k).2,())),()))=some (om (bc n) (bo n k).1 (bo n k).2,())/\ZW (bc n,(((bo n k).1,((bo n k).2,())),()))=some (om (bc n) (bo n k).1 (bo n k).2,()):=by
 have ot:Fit (dS (bc n)):=by rw[lE];exact ft
 have hT:List.length (bc n).2.2.2.2.2.2.1<=100000:=by show(n.aa.map aq).length<=_;rw[List.length_map];have:=ft.aa.1;omega
 have hL:List.length (bc n).2.2.1<=100000:=by show(n.au.map bL).length<=_;rw[List.length_map];have:=ft.aB.1;omega
 exact⟨agC (bc n) _ _ ot hL hT,Ts (bc n) _ _ ot hL hT (Gv t k)⟩
end
section
variable{n:ax}{V:Nat}
theorem Gm{k:Nat}(hk:k<=1024):IntKind.wrap .u64 (k:Int)=(k:Int):=jE (by omega)
end
section
variable{n:ax}{V:Nat}(t:fN n V)
variable(ft:Fit n)
include t
include ft
theorem FL{k:Nat}(hk:k<=1024):yf (bc n,((bN k (wid n),([],())),()))=some (jX n k,((0:Int),()))/\Po (bc n,((bN k (wid n),([],())),()))=some (jX n k,((0:Int),())):=by
 have h2:=t.ow;obtain⟨b1,b2⟩:=ab9 ft (bN k (wid n)) [] (by rw[j7];omega);have e:(my n (bN k (wid n)) []).1=0:=by rw[uu t k]
 rw[e]at b1 b2;exact⟨b1,b2⟩
end
section
variable{n:ax}{V:Nat}(t:fN n V)
include t
theorem oD:(2:Nat)^wid n<=1024:=Nat.pow_le_pow_right (n:=2) (by omega) t.ow
end
section
variable{n:ax}{V:Nat}(t:fN n V)
include t
theorem ae8:IntKind.wrap .i64 ((1:Int)*(HPow.hPow (2:Int) (Min.min (Int.toNat (bP n)) 64)))=((2^wid n:Nat):Int):=by
 have h:=oD t;have h2:=t.ow;rw[t.wd,Int.toNat_natCast,Nat.min_eq_left (by omega),Int.one_mul];have:(2:Int)^wid n=((2^wid n:Nat):Int):=by push_cast;rfl
 rw[this];exact(show ∀N:Nat,N<=1024->IntKind.wrap .i64 (N:Int)=(N:Int)from fun N h=>bK (by omega)) _ h
end
section
variable{n:ax}{V:Nat}
theorem afm{L:List cV.T}{x:cV.T}(h:L.length<=100000):room 48 (List.length (L++(x::[])))=true:=mu (by omega) (by omega)
end
section
variable{n:ax}{V:Nat}(t:fN n V)
variable(ft:Fit n)
include t
include ft
theorem acv:P3 (bc n,())=some (jj n (2^wid n),((0:Int),())):=by
 have hp:=oD t;have h2:=t.ow;have hsm:jZ n=0:=by unfold jZ;have:=t.ins;rw[if_neg (fun q=>q t.hc),if_neg (by omega),if_neg (by rw[t.wd];omega)]
 have s0:=(Q7 ft).1;rw[hsm]at s0;have d1:=uh ft;have e6:E6 (((2^wid n:Nat):Int),((0:Int),nt n ([],nt n (bP n,()))))=some (jj n (2^wid n),()):=by
  unfold E6;delta nG;refine cP (fun k:Nat=>(((2^wid n:Nat):Int),((k:Int),nt n (jj n k,nt n (bP n,()))))) (2^wid n) rfl ?_ ?_ (bA (by omega))
  .intro k hk;have e1:iZ (IntKind.wrap .u64 (k:Int),(bP n,()))=some (bN k (wid n),()):=by rw[Gm (by omega),t.wd];exact oB k (wid n) (by omega) (by omega)
   have b:=(FL t ft (k:=k) (by omega)).1;have l:=(abT t ft k).1;have hl:=FK n k;have hr:room 48 (List.length (jj n k++[jX n k]))=true:=afm (by unfold jj;rw[List.length_map];omega);have e:∀(p q:Int) (A B:List cV.T),p=q->A=B->(some (.inl (((2^wid n:Nat):Int),(p,nt n (A,nt n (bP n,()))))):Option (TL xW.σs⊕Out xS))=some (.inl (((2^wid n:Nat):Int),(q,nt n (B,nt n (bP n,()))))):=by rintro _ _ _ _ rfl rfl;rfl
   have hk1:IntKind.wrap .i64 ((k:Int)+1)=((k+1:Nat):Int):=bG (x:=(k:Int)+1) (n:=k+1) (by omega) (by omega);have hst:jj n (k+1)=jj n k++(if qu n k=true then[jX n k]else[]):=by unfold jj;rw[abQ,List.map_append];congr 1;split<;>rfl
   by_cases q:om (bc n) (bo n k).1 (bo n k).2=0
   .have hb:qu n k=true:=decide_eq_true q;rw[if_pos hb]at hst;exact ao (aj (show(k:Int)<((2^wid n:Nat):Int) by omega)) (ag e1 (ag b (ak (aj rfl) (ag l (ao (aj q) (ak hr (e _ _ _ _ hk1 hst.symm)))))))
   .have hb:¬qu n k=true:=fun r=>q (of_decide_eq_true r);rw[if_neg hb,List.append_nil]at hst;exact ao (aj (show(k:Int)<((2^wid n:Nat):Int) by omega)) (ag e1 (ag b (ak (aj rfl) (ag l (af (av q) (e _ _ _ _ hk1 hst.symm))))))
  .exact af (av (show ¬((2^wid n:Nat):Int)<((2^wid n:Nat):Int) by omega)) rfl
 have w:=Gz ft;have e6':E6 (IntKind.wrap .i64 ((1:Int)*(HPow.hPow (2:Int) (Min.min (Int.toNat (IntKind.wrap .i64 (Int.ofNat (List.length (n.au.map bL))+dF n))) 64))),((0:Int),nt n ([],nt n (IntKind.wrap .i64 (Int.ofNat (List.length (n.au.map bL))+dF n),()))))=some (jj n (2^wid n),()):=by rw[w,ae8 t];exact e6
 have hchk:iE (0:Int) (IntKind.wrap .i64 (Int.ofNat (List.length (n.au.map bL))+dF n))=true:=by rw[w,t.wd];exact aj (by omega)
 exact ag s0 (af (df (aj rfl)) (ag d1 (ak hchk (ag e6' rfl))))
end
theorem acw{n:ax}(ft:Fit n)(h:jZ n≠0):P3 (bc n,())=some ([],(jZ n,())):=ag (Q7 ft).1 (ao (fD (av h)) rfl)
