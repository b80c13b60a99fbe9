import Derived.Test.YtkcpdpplobhpaaaGreatKSa
set_option linter.unusedVariables false
set_option linter.unusedSimpArgs false
set_option linter.unnecessarySimpa false
section
namespace Go.Proofs.YtkcpdpplobhpaaaGreat.V
open Go Go.RowKit
set_option maxRecDepth 1000000
abbrev abB:List Sh:=[(.int .i64)]
abbrev C8:List Sh:=[.bool]
abbrev abE:=TL abB->Option (TL C8)
abbrev ND:=Kd 198 abB C8
def NC(a0:Int):Option (TL C8):=some ((Bool.not (iQ a0 a0)),())
def aor  :ND:=⟨u1 NC,pD Tryz.func198 6 k0 e0 1 (sS l0) fun d=>by kernel_rfl⟩
def abF:ND:=aor
def abC:abE:=abF.F
abbrev aby:List Sh:=[(.int .i64),(.int .i64)]
abbrev C5:List Sh:=[(.int .i64)]
abbrev abz:=TL aby->Option (TL C5)
abbrev NA:=Kd 147 aby C5
def wy(F0:abE)(a0 a1:Int):Option (TL C5):=
 aj (F0 (a0,())) fun x0=>
 aj (F0 (a1,())) fun x1=>
 br x0.1
 (
  br x1.1
  (
   some ((0:Int),()))
  (
   some ((Int.negSucc 0),())))
 (
  br x1.1
  (
   some ((1:Int),()))
  (
   br (iL a0 a1)
   (
    some ((Int.negSucc 0),()))
   (
    br (iL a1 a0)
    (
     some ((1:Int),()))
    (
     some ((0:Int),())))))
def aoj(c0:ND) :NA:=⟨u2 (wy c0.F),pD Tryz.func147 20 (kD c0 k0) e0 1 (sS l0) fun d=>by kernel_rfl⟩
def abA:NA:=aoj abF
def Nz:abz:=abA.F
abbrev iT:List (Nat×LO):=[(0,.arr au 148),(1,.cells [.ptr 2 0] 198),(2,.cells [.int .i64,.fz (.int .i64),.fz ae,.fz (.int .i64),.fz (.int .i64),.fz (.int .i64),.fz ab,.fz ae,.hd 3 (.int .i64),.hd 0 au,.hd 4 (.int .u8),.hd 5 (.int .i64)] 224),(3,.arr (.int .i64) 3),(4,.arr (.int .u8) 5),(5,.arr (.int .i64) 3)]
abbrev D8:List (Nat×LO):=[(0,.cells [.int .i64,.fz (.int .i64),.fz ae,.fz (.int .i64),.fz (.int .i64),.fz (.int .i64),.hd 1 ab,.fz ae] 27),(1,.dS ab [.int .i64,.int .i64,.bool,.hd 2 cj,.hd 3 bI] 116),(2,.arr cj 152),(3,.arr bI 175),(4,.cells [.int .i64,.bJ,.bJ,.bJ,.bJ,.bJ,.bJ,.bJ] 27)]
abbrev adk:List (Nat×LO):=[(0,.cells [.ptr 1 0] 198),(1,.cells [.int .i64,.fz (.int .i64),.fz ae,.fz (.int .i64),.fz (.int .i64),.fz (.int .i64),.fz ab,.fz ae,.hd 2 (.int .i64),.hd 3 au,.hd 4 (.int .u8),.hd 5 (.int .i64)] 224),(2,.arr (.int .i64) 3),(3,.arr au 148),(4,.arr (.int .u8) 5),(5,.arr (.int .i64) 3)]
abbrev ni:Lay:={ T:=[],h:=iT,nx:=6 }
abbrev Pa:Lay:={ T:=[(0,.hd 0 au),(1,.int .i64),(2,.int .i64),(3,.int .i64),(4,.func 146 [] [.ptr 1 0])],h:=iT,nx:=6 }
abbrev adl:List (Nat×LO):=[(0,.cells [.int .i64,.fz (.int .i64),.fz ae,.fz (.int .i64),.fz (.int .i64),.fz (.int .i64),.hd 1 ab,.fz ae] 27),(1,.arr ab 116),(2,.cells [.int .i64,.bJ,.bJ,.bJ,.bJ,.bJ,.bJ,.bJ] 27)]
abbrev D9:List (Nat×LO):=[(0,.cells [.int .i64,.int .i64,.mp 1] 220),(1,.map .u64 (.int .u64))]
abbrev adm:Lay:={ T:=[(0,.hd 0 au),(1,.int .i64),(2,.func 146 [] [.ptr 1 0]),(6,.int .i64),(7,.int .i64),(8,.int .i64)],h:=iT,nx:=6 }
abbrev adn:Lay:={ T:=[(0,.hd 0 au),(1,.int .i64),(2,.int .i64),(3,.func 146 [] [.ptr 1 0]),(8,.int .i64)],h:=iT,nx:=6 }
abbrev ado:Lay:={ T:=[(0,.hd 0 au),(1,.int .i64),(2,.func 146 [] [.ptr 1 0]),(6,.int .i64),(7,.int .i64)],h:=iT,nx:=6 }
abbrev Wm:Lay:={ T:=[(4,.fz (.int .i64)),(6,.fz bh),(7,.hd 0 bh),(8,.int .i64)],h:=[(0,.arr bh 237)],nx:=1 }
abbrev pO:List (Nat×LO):=[(0,.arr .bool 4)]
abbrev abD:Lay:={ T:=[(0,.agg [.bool,.int .i64,.int .i64]),(1,.agg [.bool,.int .i64,.int .i64]),(2,.ptr 0 0)],h:=adk,nx:=6 }
abbrev NB:List (Ev.Ex×Lay):=[(.ret,{ T:=[(0,.int .i64)],h:=adk,nx:=6 })]
abbrev l9:=TL abD.σs->Option (Out NB)
abbrev lB:=Kb 146 3 abD 1 NB
def aou(F0:abz)(F1:wu)(dK:Bool)(gB fV:Int)(iM:Bool)(gD lH bO:Int)(bL:List Int)(fj:List (Sh.T ae))(eY fw jb:List Int)(jc:List (Sh.T ab))(jd:List (Sh.T ae))(b2:List Int)(b3:List (Sh.T au))(b4 b5:List Int):Option (Out NB):=
 aj (F1 (dK,(gB,(fV,(bO,(bL,(fj,(eY,(fw,(jb,(jc,(jd,(b2,(b3,(b4,(b5,())))))))))))))))) fun x0=>
 ah (aq (0:Int) (List.length x0.1))<|
 ah (aq (gt (.int .i64) x0.1 (0:Int)) (List.length (fm x0)))<|
 ah (both (bQ iM iM) (both (iQ gD gD) (both (iQ lH lH) true)))<|
 aj (F1 (iM,(gD,(lH,x0.2)))) fun x1=>
 ah (aq (0:Int) (List.length x1.1))<|
 ah (aq (gt (.int .i64) x1.1 (0:Int)) (List.length (fm x1)))<|
 ah (aq (0:Int) (List.length x0.1))<|
 ah (Sh.beq (.int .i64) (gt (.int .i64) x0.1 (0:Int)) (gt (.int .i64) x0.1 (0:Int)))<|
 ah (iQ (gt (.int .i64) x0.1 (0:Int)) (gt (.int .i64) x0.1 (0:Int)))<|
 ah (aq (gt (.int .i64) x0.1 (0:Int)) (List.length (fm x1)))<|
 ah (nQ (Int.toNat (gt (.int .i64) x0.1 (0:Int))) (Int.toNat (gt (.int .i64) x0.1 (0:Int))))<|
 ah (iQ (gt (.int .i64) (fm x0) (gt (.int .i64) x0.1 (0:Int))) (gt (.int .i64) (fm x1) (gt (.int .i64) x0.1 (0:Int))))<|
 aj (F0 ((gt (.int .i64) (fm x0) (gt (.int .i64) x0.1 (0:Int))),((gt (.int .i64) (fm x1) (gt (.int .i64) x1.1 (0:Int))),()))) fun x2=>
 some (x2.1,x1.2)
def aot(c0:NA)(c1:tm) :lB:=⟨Gr (aou c0.F c1.F),pB Tryz.func146 29 (kD c0 (kB c1 k0)) e0 1 (sS l0) fun d=>by kernel_rfl⟩
def ma:lB:=aot abA wx
def j9:l9:=ma.F
abbrev Y0:Lay:=Pa
abbrev KC:List (Ev.Ex×Lay):=[(.ret,ni)]
abbrev KR:=TL Y0.σs->Option (Out KC)
abbrev Bg:=Kb 265 5 Y0 0 KC
abbrev A4:Lay:={ T:=[(0,.hd 0 au),(1,.int .i64),(2,.int .i64),(3,.int .i64),(10,.int .i64)],h:=iT,nx:=6 }
abbrev AS:List (Ev.Ex×Lay):=[((.exit 0),ni)]
abbrev Zc:=TL A4.σs->Option (Out AS)
abbrev Zf:=Ld 6 38 (bp [0] (aU Tryz.f265)) A4 AS
def Bb(t1 t2 t3 t10:Int)(b0:List (Sh.T au))(cd:Int)(cp:List Int)(cH:List (Sh.T ae))(cI cJ cK:List Int)(cL:List (Sh.T ab))(cM:List (Sh.T ae))(b3 b4 b5:List Int):Option (TL A4.σs⊕Out AS):=
 br (iL t10 t3)
 (
  ah (aq (IntKind.wrap .i64 (t2+t10)) (List.length b0))<|
  ah (aq (IntKind.wrap .i64 (t1+t10)) (List.length b0))<|
  ah (aq (IntKind.wrap .i64 (t1+t10)) (List.length b0))<|
  ah (aq (IntKind.wrap .i64 (t2+t10)) (List.length (List.set b0 (Int.toNat (IntKind.wrap .i64 (t1+t10))) ((gt au b0 (IntKind.wrap .i64 (t2+t10))).1,((gt au b0 (IntKind.wrap .i64 (t2+t10))).2.1,((gt au b0 (IntKind.wrap .i64 (t2+t10))).2.2.1,()))))))<|
  ah (iQ t2 t2)<|
  ah (iQ t10 t10)<|
  ah (iQ (IntKind.wrap .i64 (t2+t10)) (IntKind.wrap .i64 (t2+t10)))<|
  some (.inl (t1,(t2,(t3,((IntKind.wrap .i64 (t10+(1:Int))),((List.set (List.set b0 (Int.toNat (IntKind.wrap .i64 (t1+t10))) ((gt au b0 (IntKind.wrap .i64 (t2+t10))).1,((gt au b0 (IntKind.wrap .i64 (t2+t10))).2.1,((gt au b0 (IntKind.wrap .i64 (t2+t10))).2.2.1,())))) (Int.toNat (IntKind.wrap .i64 (t2+t10))) ((gt au b0 (IntKind.wrap .i64 (t1+t10))).1,((gt au b0 (IntKind.wrap .i64 (t1+t10))).2.1,((gt au b0 (IntKind.wrap .i64 (t1+t10))).2.2.1,())))),(cd,(cp,(cH,(cI,(cJ,(cK,(cL,(cM,(b3,(b4,(b5,()))))))))))))))))))
 (
  some (.inr (b0,(cd,(cp,(cH,(cI,(cJ,(cK,(cL,(cM,(b3,(b4,(b5,()))))))))))))))
def al9  :Zf:=bu (u16 Bb) (pL k0 e0 1 l0 fun d=>by kernel_rfl)
def Zd:Zc:=aQ (u16 Bb) NN
def amf(F0:l9)(L1:Zc)(t1 t2 t3:Int)(b0:List (Sh.T au))(cd:Int)(cp:List Int)(cH:List (Sh.T ae))(cI cJ cK:List Int)(cL:List (Sh.T ab))(cM:List (Sh.T ae))(b3 b4 b5:List Int):Option (Out KC):=
 aj (L1 (t1,(t2,(t3,((0:Int),(b0,(cd,(cp,(cH,(cI,(cJ,(cK,(cL,(cM,(b3,(b4,(b5,()))))))))))))))))) fun x0=>
 some x0
def ame(c0:lB)(M1:Zf):Bg:=⟨fg (amf c0.F M1.L),pB Tryz.func265 38 (kB c0 k0) e0 1 (sS (sC M1 l0)) fun d=>by kernel_rfl⟩
def KS:Bg:=ame ma al9
def Ze:KR:=KS.F
abbrev Zp:Lay:=Pa
abbrev vZ:List (Ev.Ex×Lay):=[(.ret,ni)]
abbrev CW:=TL Zp.σs->Option (Out vZ)
abbrev Lb:=Kb 257 5 Zp 0 vZ
abbrev v7:Lay:={ T:=[(0,.hd 0 au),(2,.int .i64),(4,.func 146 [] [.ptr 1 0]),(10,.int .i64),(11,.int .i64)],h:=iT,nx:=6 }
abbrev vY:List (Ev.Ex×Lay):=[((.exit 0),{ T:=[(0,.hd 0 au),(2,.int .i64),(4,.func 146 [] [.ptr 1 0]),(10,.int .i64)],h:=iT,nx:=6 })]
abbrev Zv:=TL v7.σs->Option (Out vY)
abbrev K8:=Ld 6 58 (bp [0] (aU Tryz.f257)) v7 vY
def K9(F1:KR)(t2 t10 t11:Int)(b0:List (Sh.T au))(cd:Int)(cp:List Int)(cH:List (Sh.T ae))(cI cJ cK:List Int)(cL:List (Sh.T ab))(cM:List (Sh.T ae))(b3 b4 b5:List Int):Option (TL v7.σs⊕Out vY):=
 br (Bool.not (iQ t10 t11))
 (
  br (iL t11 t10)
  (
   aj (F1 ((IntKind.wrap .i64 (t2-t10)),(t2,(t11,(b0,(cd,(cp,(cH,(cI,(cJ,(cK,(cL,(cM,(b3,(b4,(b5,())))))))))))))))) fun x0=>
   some (.inl (t2,((IntKind.wrap .i64 (t10-t11)),(t11,x0)))))
  (
   aj (F1 ((IntKind.wrap .i64 (t2-t10)),((IntKind.wrap .i64 ((IntKind.wrap .i64 (t2+t11))-t10)),(t10,(b0,(cd,(cp,(cH,(cI,(cJ,(cK,(cL,(cM,(b3,(b4,(b5,())))))))))))))))) fun x0=>
   some (.inl (t2,(t10,((IntKind.wrap .i64 (t11-t10)),x0))))))
 (
  some (.inr (t2,(t10,(b0,(cd,(cp,(cH,(cI,(cJ,(cK,(cL,(cM,(b3,(b4,(b5,()))))))))))))))))
def amr(c1:Bg) :K8:=bu (fg (K9 c1.F)) (pL (kB c1 k0) e0 1 l0 fun d=>by kernel_rfl)
def amq:K8:=amr KS
def K7:Zv:=aQ (fg (K9 Ze)) NN
def amy(F0:l9)(F1:KR)(L2:Zv)(t1 t2 t3:Int)(b0:List (Sh.T au))(cd:Int)(cp:List Int)(cH:List (Sh.T ae))(cI cJ cK:List Int)(cL:List (Sh.T ab))(cM:List (Sh.T ae))(b3 b4 b5:List Int):Option (Out vZ):=
 aj (L2 (t2,((IntKind.wrap .i64 (t2-t1)),((IntKind.wrap .i64 (t3-t2)),(b0,(cd,(cp,(cH,(cI,(cJ,(cK,(cL,(cM,(b3,(b4,(b5,())))))))))))))))) fun x0=>
 aj (F1 ((IntKind.wrap .i64 (@HSub.hSub (Int) (Int) (Int) _ x0.1 x0.2.1)),x0)) fun x1=>
 some x1
def amx(c0:lB)(c1:Bg)(M2:K8):Lb:=⟨fg (amy c0.F c1.F M2.L),pB Tryz.func257 58 (kB c0 (kB c1 k0)) e0 1 (sS (sC M2 l0)) fun d=>by kernel_rfl⟩
def ZB:Lb:=amx ma KS amq
def Bn:CW:=ZB.F
abbrev YH:Lay:={ T:=[(0,.hd 0 au),(1,.int .i64),(2,.int .i64),(3,.func 146 [] [.ptr 1 0])],h:=iT,nx:=6 }
abbrev Ko:List (Ev.Ex×Lay):=[(.ret,ni)]
abbrev KA:=TL YH.σs->Option (Out Ko)
abbrev AU:=Kb 227 4 YH 0 Ko
abbrev AL:Lay:=adn
abbrev AK:List (Ev.Ex×Lay):=[((.exit 0),ni)]
abbrev YJ:=TL AL.σs->Option (Out AK)
abbrev Kt:=Ld 6 53 (bp [0] (aU Tryz.f227)) AL AK
abbrev vX:Lay:={ T:=[(0,.hd 0 au),(1,.int .i64),(2,.int .i64),(3,.func 146 [] [.ptr 1 0]),(8,.int .i64),(9,.int .i64)],h:=iT,nx:=6 }
abbrev vW:List (Ev.Ex×Lay):=[((.exit 2),adn)]
abbrev Kr:=TL vX.σs->Option (Out vW)
abbrev AN:=Ld 6 53 (bp [0,0] (aU Tryz.f227)) vX vW
def Ku(F0:l9)(t1 t2 t8 t9:Int)(b0:List (Sh.T au))(cd:Int)(cp:List Int)(cH:List (Sh.T ae))(cI cJ cK:List Int)(cL:List (Sh.T ab))(cM:List (Sh.T ae))(b3 b4 b5:List Int):Option (TL vX.σs⊕Out vW):=
 br (iL t1 t9)
 (
  ah (aq t9 (List.length b0))<|
  ah (aq (IntKind.wrap .i64 (t9-(1:Int))) (List.length b0))<|
  aj (F0 ((gt au b0 t9).1,((gt au b0 t9).2.1,((gt au b0 t9).2.2.1,((gt au b0 (IntKind.wrap .i64 (t9-(1:Int)))).1,((gt au b0 (IntKind.wrap .i64 (t9-(1:Int)))).2.1,((gt au b0 (IntKind.wrap .i64 (t9-(1:Int)))).2.2.1,(cd,(cp,(cH,(cI,(cJ,(cK,(cL,(cM,(b3,(b0,(b4,(b5,()))))))))))))))))))) fun x0=>
  br (aV true (iL x0.1 (0:Int)) false)
  (
   ah (aq (IntKind.wrap .i64 (t9-(1:Int))) (List.length (cY x0)))<|
   ah (aq t9 (List.length (cY x0)))<|
   ah (aq t9 (List.length (cY x0)))<|
   ah (aq (IntKind.wrap .i64 (t9-(1:Int))) (List.length (List.set (cY x0) (Int.toNat t9) ((gt au (cY x0) (IntKind.wrap .i64 (t9-(1:Int)))).1,((gt au (cY x0) (IntKind.wrap .i64 (t9-(1:Int)))).2.1,((gt au (cY x0) (IntKind.wrap .i64 (t9-(1:Int)))).2.2.1,()))))))<|
   ah (iQ t9 t9)<|
   ah (iQ (IntKind.wrap .i64 (t9-(1:Int))) (IntKind.wrap .i64 (t9-(1:Int))))<|
   some (.inl (t1,(t2,(t8,((IntKind.wrap .i64 (t9-(1:Int))),((List.set (List.set (cY x0) (Int.toNat t9) ((gt au (cY x0) (IntKind.wrap .i64 (t9-(1:Int)))).1,((gt au (cY x0) (IntKind.wrap .i64 (t9-(1:Int)))).2.1,((gt au (cY x0) (IntKind.wrap .i64 (t9-(1:Int)))).2.2.1,())))) (Int.toNat (IntKind.wrap .i64 (t9-(1:Int)))) ((gt au (cY x0) t9).1,((gt au (cY x0) t9).2.1,((gt au (cY x0) t9).2.2.1,())))),(x0.2.1,(x0.2.2.1,(cQ x0,(cR x0,(cX x0,(cT x0,(dc x0,(dG x0,(dN x0,nc x0))))))))))))))))
  (
   some (.inr (t1,(t2,(t8,(cY x0,(x0.2.1,(x0.2.2.1,(cQ x0,(cR x0,(cX x0,(cT x0,(dc x0,(dG x0,(dN x0,nc x0))))))))))))))))
 (
  some (.inr (t1,(t2,(t8,(b0,(cd,(cp,(cH,(cI,(cJ,(cK,(cL,(cM,(b3,(b4,(b5,())))))))))))))))))
def alF(c0:lB) :AN:=bu (u16 (Ku c0.F)) (pL (kB c0 k0) e0 1 l0 fun d=>by kernel_rfl)
def YK:AN:=alF ma
def Ks:Kr:=aQ (u16 (Ku j9)) NN
def AO(L4:Kr)(t1 t2 t8:Int)(b0:List (Sh.T au))(cd:Int)(cp:List Int)(cH:List (Sh.T ae))(cI cJ cK:List Int)(cL:List (Sh.T ab))(cM:List (Sh.T ae))(b3 b4 b5:List Int):Option (TL AL.σs⊕Out AK):=
 br (iL t8 t2)
 (
  aj (L4 (t1,(t2,(t8,(t8,(b0,(cd,(cp,(cH,(cI,(cJ,(cK,(cL,(cM,(b3,(b4,(b5,()))))))))))))))))) fun x0=>
  some (.inl (x0.1,(x0.2.1,((IntKind.wrap .i64 (@HAdd.hAdd (Int) (Int) (Int) _ x0.2.2.1 (1:Int))),sd x0)))))
 (
  some (.inr (b0,(cd,(cp,(cH,(cI,(cJ,(cK,(cL,(cM,(b3,(b4,(b5,()))))))))))))))
def alG(M4:AN):Kt:=bu (fg (AO M4.L)) (pL k0 e0 1 (sC M4 l0) fun d=>by kernel_rfl)
def alE:Kt:=alG  YK
def AM:YJ:=aQ (fg (AO Ks)) NN
def alR(F0:l9)(L1:YJ)(L4:Kr)(t1 t2:Int)(b0:List (Sh.T au))(cd:Int)(cp:List Int)(cH:List (Sh.T ae))(cI cJ cK:List Int)(cL:List (Sh.T ab))(cM:List (Sh.T ae))(b3 b4 b5:List Int):Option (Out Ko):=
 aj (L1 (t1,(t2,((IntKind.wrap .i64 (t1+(1:Int))),(b0,(cd,(cp,(cH,(cI,(cJ,(cK,(cL,(cM,(b3,(b4,(b5,())))))))))))))))) fun x0=>
 some x0
def alQ(c0:lB)(M1:Kt)(M4:AN):AU:=⟨iu (alR c0.F M1.L M4.L),pB Tryz.func227 53 (kB c0 k0) e0 1 (sS (sC M1 l0)) fun d=>by kernel_rfl⟩
def KB:AU:=alQ ma alE YK
def YL:KA:=KB.F
abbrev Y7:Lay:=Pa
abbrev A5:List (Ev.Ex×Lay):=[(.ret,ni)]
abbrev iz:=TL Y7.σs->Option (Out A5)
abbrev lZ:=Kb 228 5 Y7 0 A5
abbrev AY:Lay:={ T:=[(0,.hd 0 au),(1,.int .i64),(2,.int .i64),(3,.int .i64),(4,.func 146 [] [.ptr 1 0]),(18,.int .i64),(19,.int .i64),(20,.int .i64),(21,.int .i64),(22,.int .i64)],h:=iT,nx:=6 }
abbrev wa:List (Ev.Ex×Lay):=[((.exit 8),{ T:=[(0,.hd 0 au),(1,.int .i64),(2,.int .i64),(3,.int .i64),(4,.func 146 [] [.ptr 1 0]),(18,.int .i64),(19,.int .i64),(20,.int .i64)],h:=iT,nx:=6 })]
abbrev Y8:=TL AY.σs->Option (Out wa)
abbrev KG:=Ld 6 220 (bp [4] (aU Tryz.f228)) AY wa
abbrev AZ:Lay:={ T:=[(0,.hd 0 au),(14,.int .i64),(17,.int .i64)],h:=iT,nx:=6 }
abbrev AQ:List (Ev.Ex×Lay):=[((.exit 6),ni)]
abbrev Y9:=TL AZ.σs->Option (Out AQ)
abbrev KH:=Ld 6 220 (bp [3] (aU Tryz.f228)) AZ AQ
abbrev A0:Lay:={ T:=[(0,.hd 0 au),(2,.int .i64),(4,.func 146 [] [.ptr 1 0]),(14,.int .i64),(15,.int .i64)],h:=iT,nx:=6 }
abbrev AR:List (Ev.Ex×Lay):=[((.exit 4),{ T:=[(0,.hd 0 au),(2,.int .i64),(14,.int .i64)],h:=iT,nx:=6 })]
abbrev Za:=TL A0.σs->Option (Out AR)
abbrev KI:=Ld 6 220 (bp [2] (aU Tryz.f228)) A0 AR
abbrev A7:Lay:={ T:=[(0,.hd 0 au),(10,.int .i64),(13,.int .i64)],h:=iT,nx:=6 }
abbrev AW:List (Ev.Ex×Lay):=[((.exit 2),ni)]
abbrev Zk:=TL A7.σs->Option (Out AW)
abbrev KP:=Ld 6 220 (bp [1] (aU Tryz.f228)) A7 AW
abbrev A8:Lay:={ T:=[(0,.hd 0 au),(1,.int .i64),(4,.func 146 [] [.ptr 1 0]),(10,.int .i64),(11,.int .i64)],h:=iT,nx:=6 }
abbrev AX:List (Ev.Ex×Lay):=[((.exit 0),{ T:=[(0,.hd 0 au),(1,.int .i64),(10,.int .i64)],h:=iT,nx:=6 })]
abbrev Zl:=TL A8.σs->Option (Out AX)
abbrev KQ:=Ld 6 220 (bp [0] (aU Tryz.f228)) A8 AX
def te(F0:l9)(t1 t10 t11:Int)(b0:List (Sh.T au))(cd:Int)(cp:List Int)(cH:List (Sh.T ae))(cI cJ cK:List Int)(cL:List (Sh.T ab))(cM:List (Sh.T ae))(b3 b4 b5:List Int):Option (TL A8.σs⊕Out AX):=
 br (iL t10 t11)
 (
  ah (aq (IntKind.wrap .i64 (Int.fdiv (IntKind.wrap .u64 (IntKind.wrap .i64 (t10+t11))) (HPow.hPow (2:Int) (Min.min (Int.toNat (1:Int)) 64)))) (List.length b0))<|
  ah (aq t1 (List.length b0))<|
  aj (F0 ((gt au b0 (IntKind.wrap .i64 (Int.fdiv (IntKind.wrap .u64 (IntKind.wrap .i64 (t10+t11))) (HPow.hPow (2:Int) (Min.min (Int.toNat (1:Int)) 64))))).1,((gt au b0 (IntKind.wrap .i64 (Int.fdiv (IntKind.wrap .u64 (IntKind.wrap .i64 (t10+t11))) (HPow.hPow (2:Int) (Min.min (Int.toNat (1:Int)) 64))))).2.1,((gt au b0 (IntKind.wrap .i64 (Int.fdiv (IntKind.wrap .u64 (IntKind.wrap .i64 (t10+t11))) (HPow.hPow (2:Int) (Min.min (Int.toNat (1:Int)) 64))))).2.2.1,((gt au b0 t1).1,((gt au b0 t1).2.1,((gt au b0 t1).2.2.1,(cd,(cp,(cH,(cI,(cJ,(cK,(cL,(cM,(b3,(b0,(b4,(b5,()))))))))))))))))))) fun x0=>
  br (iL x0.1 (0:Int))
  (
   some (.inl (t1,((IntKind.wrap .i64 ((IntKind.wrap .i64 (Int.fdiv (IntKind.wrap .u64 (IntKind.wrap .i64 (t10+t11))) (HPow.hPow (2:Int) (Min.min (Int.toNat (1:Int)) 64))))+(1:Int))),(t11,(cY x0,(x0.2.1,(x0.2.2.1,(cQ x0,(cR x0,(cX x0,(cT x0,(dc x0,(dG x0,(dN x0,nc x0)))))))))))))))
  (
   some (.inl (t1,(t10,((IntKind.wrap .i64 (Int.fdiv (IntKind.wrap .u64 (IntKind.wrap .i64 (t10+t11))) (HPow.hPow (2:Int) (Min.min (Int.toNat (1:Int)) 64)))),(cY x0,(x0.2.1,(x0.2.2.1,(cQ x0,(cR x0,(cX x0,(cT x0,(dc x0,(dG x0,(dN x0,nc x0))))))))))))))))
 (
  some (.inr (t1,(t10,(b0,(cd,(cp,(cH,(cI,(cJ,(cK,(cL,(cM,(b3,(b4,(b5,()))))))))))))))))
def amd(c0:lB) :KQ:=bu (fg (te c0.F)) (pL (kB c0 k0) e0 1 l0 fun d=>by kernel_rfl)
def amb(s:lZ):KQ:=amd ma
def Zm(F:iz):Zl:=aQ (fun d=>te j9  d.1 d.2.1 d.2.2.1 d.2.2.2.1 d.2.2.2.2.1 d.2.2.2.2.2.1 d.2.2.2.2.2.2.1 d.2.2.2.2.2.2.2.1 d.2.2.2.2.2.2.2.2.1 d.2.2.2.2.2.2.2.2.2.1 d.2.2.2.2.2.2.2.2.2.2.1 d.2.2.2.2.2.2.2.2.2.2.2.1 d.2.2.2.2.2.2.2.2.2.2.2.2.1 d.2.2.2.2.2.2.2.2.2.2.2.2.2.1 d.2.2.2.2.2.2.2.2.2.2.2.2.2.2.1) NN
def Bf(t10 t13:Int)(b0:List (Sh.T au))(cd:Int)(cp:List Int)(cH:List (Sh.T ae))(cI cJ cK:List Int)(cL:List (Sh.T ab))(cM:List (Sh.T ae))(b3 b4 b5:List Int):Option (TL A7.σs⊕Out AW):=
 br (iL t13 (IntKind.wrap .i64 (t10-(1:Int))))
 (
  ah (aq (IntKind.wrap .i64 (t13+(1:Int))) (List.length b0))<|
  ah (aq t13 (List.length b0))<|
  ah (aq t13 (List.length b0))<|
  ah (aq (IntKind.wrap .i64 (t13+(1:Int))) (List.length (List.set b0 (Int.toNat t13) ((gt au b0 (IntKind.wrap .i64 (t13+(1:Int)))).1,((gt au b0 (IntKind.wrap .i64 (t13+(1:Int)))).2.1,((gt au b0 (IntKind.wrap .i64 (t13+(1:Int)))).2.2.1,()))))))<|
  ah (iQ t13 t13)<|
  ah (iQ (IntKind.wrap .i64 (t13+(1:Int))) (IntKind.wrap .i64 (t13+(1:Int))))<|
  some (.inl (t10,((IntKind.wrap .i64 (t13+(1:Int))),((List.set (List.set b0 (Int.toNat t13) ((gt au b0 (IntKind.wrap .i64 (t13+(1:Int)))).1,((gt au b0 (IntKind.wrap .i64 (t13+(1:Int)))).2.1,((gt au b0 (IntKind.wrap .i64 (t13+(1:Int)))).2.2.1,())))) (Int.toNat (IntKind.wrap .i64 (t13+(1:Int)))) ((gt au b0 t13).1,((gt au b0 t13).2.1,((gt au b0 t13).2.2.1,())))),(cd,(cp,(cH,(cI,(cJ,(cK,(cL,(cM,(b3,(b4,(b5,()))))))))))))))))
 (
  some (.inr (b0,(cd,(cp,(cH,(cI,(cJ,(cK,(cL,(cM,(b3,(b4,(b5,()))))))))))))))
def amc  :KP:=bu (iu Bf) (pL k0 e0 1 l0 fun d=>by kernel_rfl)
def ama(s:lZ):KP:=amc
def KM(F:iz):Zk:=aQ (fun d=>Bf   d.1 d.2.1 d.2.2.1 d.2.2.2.1 d.2.2.2.2.1 d.2.2.2.2.2.1 d.2.2.2.2.2.2.1 d.2.2.2.2.2.2.2.1 d.2.2.2.2.2.2.2.2.1 d.2.2.2.2.2.2.2.2.2.1 d.2.2.2.2.2.2.2.2.2.2.1 d.2.2.2.2.2.2.2.2.2.2.2.1 d.2.2.2.2.2.2.2.2.2.2.2.2.1 d.2.2.2.2.2.2.2.2.2.2.2.2.2.1) NN
def tc(F0:l9)(t2 t14 t15:Int)(b0:List (Sh.T au))(cd:Int)(cp:List Int)(cH:List (Sh.T ae))(cI cJ cK:List Int)(cL:List (Sh.T ab))(cM:List (Sh.T ae))(b3 b4 b5:List Int):Option (TL A0.σs⊕Out AR):=
 br (iL t14 t15)
 (
  ah (aq t2 (List.length b0))<|
  ah (aq (IntKind.wrap .i64 (Int.fdiv (IntKind.wrap .u64 (IntKind.wrap .i64 (t14+t15))) (HPow.hPow (2:Int) (Min.min (Int.toNat (1:Int)) 64)))) (List.length b0))<|
  aj (F0 ((gt au b0 t2).1,((gt au b0 t2).2.1,((gt au b0 t2).2.2.1,((gt au b0 (IntKind.wrap .i64 (Int.fdiv (IntKind.wrap .u64 (IntKind.wrap .i64 (t14+t15))) (HPow.hPow (2:Int) (Min.min (Int.toNat (1:Int)) 64))))).1,((gt au b0 (IntKind.wrap .i64 (Int.fdiv (IntKind.wrap .u64 (IntKind.wrap .i64 (t14+t15))) (HPow.hPow (2:Int) (Min.min (Int.toNat (1:Int)) 64))))).2.1,((gt au b0 (IntKind.wrap .i64 (Int.fdiv (IntKind.wrap .u64 (IntKind.wrap .i64 (t14+t15))) (HPow.hPow (2:Int) (Min.min (Int.toNat (1:Int)) 64))))).2.2.1,(cd,(cp,(cH,(cI,(cJ,(cK,(cL,(cM,(b3,(b0,(b4,(b5,()))))))))))))))))))) fun x0=>
  br (Bool.not (iL x0.1 (0:Int)))
  (
   some (.inl (t2,((IntKind.wrap .i64 ((IntKind.wrap .i64 (Int.fdiv (IntKind.wrap .u64 (IntKind.wrap .i64 (t14+t15))) (HPow.hPow (2:Int) (Min.min (Int.toNat (1:Int)) 64))))+(1:Int))),(t15,(cY x0,(x0.2.1,(x0.2.2.1,(cQ x0,(cR x0,(cX x0,(cT x0,(dc x0,(dG x0,(dN x0,nc x0)))))))))))))))
  (
   some (.inl (t2,(t14,((IntKind.wrap .i64 (Int.fdiv (IntKind.wrap .u64 (IntKind.wrap .i64 (t14+t15))) (HPow.hPow (2:Int) (Min.min (Int.toNat (1:Int)) 64)))),(cY x0,(x0.2.1,(x0.2.2.1,(cQ x0,(cR x0,(cX x0,(cT x0,(dc x0,(dG x0,(dN x0,nc x0))))))))))))))))
 (
  some (.inr (t2,(t14,(b0,(cd,(cp,(cH,(cI,(cJ,(cK,(cL,(cM,(b3,(b4,(b5,()))))))))))))))))
def al8(c0:lB) :KI:=bu (fg (tc c0.F)) (pL (kB c0 k0) e0 1 l0 fun d=>by kernel_rfl)
def al5(s:lZ):KI:=al8 ma
def Zb(F:iz):Za:=aQ (fun d=>tc j9  d.1 d.2.1 d.2.2.1 d.2.2.2.1 d.2.2.2.2.1 d.2.2.2.2.2.1 d.2.2.2.2.2.2.1 d.2.2.2.2.2.2.2.1 d.2.2.2.2.2.2.2.2.1 d.2.2.2.2.2.2.2.2.2.1 d.2.2.2.2.2.2.2.2.2.2.1 d.2.2.2.2.2.2.2.2.2.2.2.1 d.2.2.2.2.2.2.2.2.2.2.2.2.1 d.2.2.2.2.2.2.2.2.2.2.2.2.2.1 d.2.2.2.2.2.2.2.2.2.2.2.2.2.2.1) NN
def Ba(t14 t17:Int)(b0:List (Sh.T au))(cd:Int)(cp:List Int)(cH:List (Sh.T ae))(cI cJ cK:List Int)(cL:List (Sh.T ab))(cM:List (Sh.T ae))(b3 b4 b5:List Int):Option (TL AZ.σs⊕Out AQ):=
 br (iL t14 t17)
 (
  ah (aq (IntKind.wrap .i64 (t17-(1:Int))) (List.length b0))<|
  ah (aq t17 (List.length b0))<|
  ah (aq t17 (List.length b0))<|
  ah (aq (IntKind.wrap .i64 (t17-(1:Int))) (List.length (List.set b0 (Int.toNat t17) ((gt au b0 (IntKind.wrap .i64 (t17-(1:Int)))).1,((gt au b0 (IntKind.wrap .i64 (t17-(1:Int)))).2.1,((gt au b0 (IntKind.wrap .i64 (t17-(1:Int)))).2.2.1,()))))))<|
  ah (iQ t17 t17)<|
  ah (iQ (IntKind.wrap .i64 (t17-(1:Int))) (IntKind.wrap .i64 (t17-(1:Int))))<|
  some (.inl (t14,((IntKind.wrap .i64 (t17-(1:Int))),((List.set (List.set b0 (Int.toNat t17) ((gt au b0 (IntKind.wrap .i64 (t17-(1:Int)))).1,((gt au b0 (IntKind.wrap .i64 (t17-(1:Int)))).2.1,((gt au b0 (IntKind.wrap .i64 (t17-(1:Int)))).2.2.1,())))) (Int.toNat (IntKind.wrap .i64 (t17-(1:Int)))) ((gt au b0 t17).1,((gt au b0 t17).2.1,((gt au b0 t17).2.2.1,())))),(cd,(cp,(cH,(cI,(cJ,(cK,(cL,(cM,(b3,(b4,(b5,()))))))))))))))))
 (
  some (.inr (b0,(cd,(cp,(cH,(cI,(cJ,(cK,(cL,(cM,(b3,(b4,(b5,()))))))))))))))
def al7  :KH:=bu (iu Ba) (pL k0 e0 1 l0 fun d=>by kernel_rfl)
def al4(s:lZ):KH:=al7
def KF(F:iz):Y9:=aQ (fun d=>Ba   d.1 d.2.1 d.2.2.1 d.2.2.2.1 d.2.2.2.2.1 d.2.2.2.2.2.1 d.2.2.2.2.2.2.1 d.2.2.2.2.2.2.2.1 d.2.2.2.2.2.2.2.2.1 d.2.2.2.2.2.2.2.2.2.1 d.2.2.2.2.2.2.2.2.2.2.1 d.2.2.2.2.2.2.2.2.2.2.2.1 d.2.2.2.2.2.2.2.2.2.2.2.2.1 d.2.2.2.2.2.2.2.2.2.2.2.2.2.1) NN
def tb(F0:l9)(t1 t2 t3 t18 t19 t20 t21 t22:Int)(b0:List (Sh.T au))(cd:Int)(cp:List Int)(cH:List (Sh.T ae))(cI cJ cK:List Int)(cL:List (Sh.T ab))(cM:List (Sh.T ae))(b3 b4 b5:List Int):Option (TL AY.σs⊕Out wa):=
 br (iL t20 t21)
 (
  ah (aq (IntKind.wrap .i64 (t22-(IntKind.wrap .i64 (Int.fdiv (IntKind.wrap .u64 (IntKind.wrap .i64 (t20+t21))) (HPow.hPow (2:Int) (Min.min (Int.toNat (1:Int)) 64)))))) (List.length b0))<|
  ah (aq (IntKind.wrap .i64 (Int.fdiv (IntKind.wrap .u64 (IntKind.wrap .i64 (t20+t21))) (HPow.hPow (2:Int) (Min.min (Int.toNat (1:Int)) 64)))) (List.length b0))<|
  aj (F0 ((gt au b0 (IntKind.wrap .i64 (t22-(IntKind.wrap .i64 (Int.fdiv (IntKind.wrap .u64 (IntKind.wrap .i64 (t20+t21))) (HPow.hPow (2:Int) (Min.min (Int.toNat (1:Int)) 64))))))).1,((gt au b0 (IntKind.wrap .i64 (t22-(IntKind.wrap .i64 (Int.fdiv (IntKind.wrap .u64 (IntKind.wrap .i64 (t20+t21))) (HPow.hPow (2:Int) (Min.min (Int.toNat (1:Int)) 64))))))).2.1,((gt au b0 (IntKind.wrap .i64 (t22-(IntKind.wrap .i64 (Int.fdiv (IntKind.wrap .u64 (IntKind.wrap .i64 (t20+t21))) (HPow.hPow (2:Int) (Min.min (Int.toNat (1:Int)) 64))))))).2.2.1,((gt au b0 (IntKind.wrap .i64 (Int.fdiv (IntKind.wrap .u64 (IntKind.wrap .i64 (t20+t21))) (HPow.hPow (2:Int) (Min.min (Int.toNat (1:Int)) 64))))).1,((gt au b0 (IntKind.wrap .i64 (Int.fdiv (IntKind.wrap .u64 (IntKind.wrap .i64 (t20+t21))) (HPow.hPow (2:Int) (Min.min (Int.toNat (1:Int)) 64))))).2.1,((gt au b0 (IntKind.wrap .i64 (Int.fdiv (IntKind.wrap .u64 (IntKind.wrap .i64 (t20+t21))) (HPow.hPow (2:Int) (Min.min (Int.toNat (1:Int)) 64))))).2.2.1,(cd,(cp,(cH,(cI,(cJ,(cK,(cL,(cM,(b3,(b0,(b4,(b5,()))))))))))))))))))) fun x0=>
  br (Bool.not (iL x0.1 (0:Int)))
  (
   some (.inl (t1,(t2,(t3,(t18,(t19,((IntKind.wrap .i64 ((IntKind.wrap .i64 (Int.fdiv (IntKind.wrap .u64 (IntKind.wrap .i64 (t20+t21))) (HPow.hPow (2:Int) (Min.min (Int.toNat (1:Int)) 64))))+(1:Int))),(t21,(t22,(cY x0,(x0.2.1,(x0.2.2.1,(cQ x0,(cR x0,(cX x0,(cT x0,(dc x0,(dG x0,(dN x0,nc x0))))))))))))))))))))
  (
   some (.inl (t1,(t2,(t3,(t18,(t19,(t20,((IntKind.wrap .i64 (Int.fdiv (IntKind.wrap .u64 (IntKind.wrap .i64 (t20+t21))) (HPow.hPow (2:Int) (Min.min (Int.toNat (1:Int)) 64)))),(t22,(cY x0,(x0.2.1,(x0.2.2.1,(cQ x0,(cR x0,(cX x0,(cT x0,(dc x0,(dG x0,(dN x0,nc x0)))))))))))))))))))))
 (
  some (.inr (t1,(t2,(t3,(t18,(t19,(t20,(b0,(cd,(cp,(cH,(cI,(cJ,(cK,(cL,(cM,(b3,(b4,(b5,()))))))))))))))))))))
def al6(c0:lB) :KG:=bu (lT (tb c0.F)) (pL (kB c0 k0) e0 1 l0 fun d=>by kernel_rfl)
def al3(s:lZ):KG:=al6 ma
def A9(F:iz):Y8:=aQ (fun d=>tb j9  d.1 d.2.1 d.2.2.1 d.2.2.2.1 d.2.2.2.2.1 d.2.2.2.2.2.1 d.2.2.2.2.2.2.1 d.2.2.2.2.2.2.2.1 d.2.2.2.2.2.2.2.2.1 d.2.2.2.2.2.2.2.2.2.1 d.2.2.2.2.2.2.2.2.2.2.1 d.2.2.2.2.2.2.2.2.2.2.2.1 d.2.2.2.2.2.2.2.2.2.2.2.2.1 d.2.2.2.2.2.2.2.2.2.2.2.2.2.1 d.2.2.2.2.2.2.2.2.2.2.2.2.2.2.1 d.2.2.2.2.2.2.2.2.2.2.2.2.2.2.2.1 d.2.2.2.2.2.2.2.2.2.2.2.2.2.2.2.2.1 d.2.2.2.2.2.2.2.2.2.2.2.2.2.2.2.2.2.1 d.2.2.2.2.2.2.2.2.2.2.2.2.2.2.2.2.2.2.1 d.2.2.2.2.2.2.2.2.2.2.2.2.2.2.2.2.2.2.2.1) NN
abbrev bn:=au.T
abbrev jL:=TL [.int .i64,.sl (.int .i64),.sl ae,.sl (.int .i64),.sl (.int .i64),.sl (.int .i64),.sl ab,.sl ae,.sl (.int .i64),.sl (.int .u8),.sl (.int .i64)]
abbrev qZ:=Option (Out A5)
def tV(F1:iz)(b mid e:Int)(x:List bn×jL):qZ:=br (iL mid e) (br (aV true (iL e b) false) (aj (F1 (mid,(e,(b,(x.1,x.2))))) fun y=>some (y.1,y.2)) (some x)) (some x)
def xk(F1:iz)(a b mid s e:Int)(x:List bn×jL):qZ:=br (iL a s) (br (aV true (iL s mid) false) (aj (F1 (a,(s,(mid,(x.1,x.2))))) fun y=>tV F1 b mid e y) (tV F1 b mid e x)) (tV F1 b mid e x)
def O7(F2:CW)(F1:iz)(a m b mid s e:Int)(x:List bn×jL):qZ:=br (iL s m) (br (aV true (iL m e) false) (aj (F2 (s,(m,(e,(x.1,x.2))))) fun y=>xk F1 a b mid s e y) (xk F1 a b mid s e x)) (xk F1 a b mid s e x)
def ac9(F2:CW)(F1:iz)(x0:Out wa):qZ:=O7 F2 F1 x0.1 x0.2.1 x0.2.2.1 x0.2.2.2.1 x0.2.2.2.2.2.1 (IntKind.wrap .i64 (@HSub.hSub (Int) (Int) (Int) _ x0.2.2.2.2.1 x0.2.2.2.2.2.1)) x0.2.2.2.2.2.2
def v8(F0:l9)(F1:iz)(F2:CW)(L3:Zl)(L9:Zk)(L15:Za)(L21:Y9)(L33:Y8)(t1 t2 t3:Int)(b0:List (Sh.T au))(cd:Int)(cp:List Int)(cH:List (Sh.T ae))(cI cJ cK:List Int)(cL:List (Sh.T ab))(cM:List (Sh.T ae))(b3 b4 b5:List Int):Option (Out A5):=
 br (iQ (IntKind.wrap .i64 (t2-t1)) (1:Int))
 (
  aj (L3 (t1,(t2,(t3,(b0,(cd,(cp,(cH,(cI,(cJ,(cK,(cL,(cM,(b3,(b4,(b5,())))))))))))))))) fun x0=>
  aj (L9 (x0.2.1,(x0.1,x0.2.2))) fun x1=>
  some x1)
 (
  br (iQ (IntKind.wrap .i64 (t3-t2)) (1:Int))
  (
   aj (L15 (t2,(t1,(t2,(b0,(cd,(cp,(cH,(cI,(cJ,(cK,(cL,(cM,(b3,(b4,(b5,())))))))))))))))) fun x0=>
   aj (L21 (x0.2.1,(x0.1,x0.2.2))) fun x1=>
   some x1)
  (
   br (iL (IntKind.wrap .i64 (Int.fdiv (IntKind.wrap .u64 (IntKind.wrap .i64 (t1+t3))) (HPow.hPow (2:Int) (Min.min (Int.toNat (1:Int)) 64)))) t2)
   (
    aj (L33 (t1,(t2,(t3,((IntKind.wrap .i64 (Int.fdiv (IntKind.wrap .u64 (IntKind.wrap .i64 (t1+t3))) (HPow.hPow (2:Int) (Min.min (Int.toNat (1:Int)) 64)))),((IntKind.wrap .i64 ((IntKind.wrap .i64 (Int.fdiv (IntKind.wrap .u64 (IntKind.wrap .i64 (t1+t3))) (HPow.hPow (2:Int) (Min.min (Int.toNat (1:Int)) 64))))+t2)),((IntKind.wrap .i64 ((IntKind.wrap .i64 ((IntKind.wrap .i64 (Int.fdiv (IntKind.wrap .u64 (IntKind.wrap .i64 (t1+t3))) (HPow.hPow (2:Int) (Min.min (Int.toNat (1:Int)) 64))))+t2))-t3)),((IntKind.wrap .i64 (Int.fdiv (IntKind.wrap .u64 (IntKind.wrap .i64 (t1+t3))) (HPow.hPow (2:Int) (Min.min (Int.toNat (1:Int)) 64)))),((IntKind.wrap .i64 ((IntKind.wrap .i64 ((IntKind.wrap .i64 (Int.fdiv (IntKind.wrap .u64 (IntKind.wrap .i64 (t1+t3))) (HPow.hPow (2:Int) (Min.min (Int.toNat (1:Int)) 64))))+t2))-(1:Int))),(b0,(cd,(cp,(cH,(cI,(cJ,(cK,(cL,(cM,(b3,(b4,(b5,()))))))))))))))))))))) fun x0=>ac9 F2 F1 x0)
   (
    aj (L33 (t1,(t2,(t3,((IntKind.wrap .i64 (Int.fdiv (IntKind.wrap .u64 (IntKind.wrap .i64 (t1+t3))) (HPow.hPow (2:Int) (Min.min (Int.toNat (1:Int)) 64)))),((IntKind.wrap .i64 ((IntKind.wrap .i64 (Int.fdiv (IntKind.wrap .u64 (IntKind.wrap .i64 (t1+t3))) (HPow.hPow (2:Int) (Min.min (Int.toNat (1:Int)) 64))))+t2)),(t1,(t2,((IntKind.wrap .i64 ((IntKind.wrap .i64 ((IntKind.wrap .i64 (Int.fdiv (IntKind.wrap .u64 (IntKind.wrap .i64 (t1+t3))) (HPow.hPow (2:Int) (Min.min (Int.toNat (1:Int)) 64))))+t2))-(1:Int))),(b0,(cd,(cp,(cH,(cI,(cJ,(cK,(cL,(cM,(b3,(b4,(b5,()))))))))))))))))))))) fun x0=>ac9 F2 F1 x0)))
def ami(c0:lB)(c1:lZ)(c2:Lb)(M3:KQ)(M9:KP)(M15:KI)(M21:KH)(M33:KG):lZ:=⟨fg (v8 c0.F c1.F c2.F M3.L M9.L M15.L M21.L M33.L),pB Tryz.func228 220 (kB c0 (kB c1 (kB c2 k0))) e0 1 (sS (sC M3 (sC M9 (sC M15 (sC M21 (sC M33 l0)))))) fun d=>by kernel_rfl⟩
def pT:Nat->lZ
 |0=>mk0 Tryz.func228 (by kernel_rfl) (by kernel_rfl)|k+1=>ami ma (pT k) ZB (amb (pT k)) (ama (pT k)) (al5 (pT k)) (al4 (pT k)) (al3 (pT k))
def jG(k:Nat):iz:=(pT k).F
def Bk:lZ:=pT NN
def KO:iz:=Bk.F
abbrev Zo:Lay:={ T:=[(0,.hd 0 au),(1,.int .i64),(2,.func 146 [] [.ptr 1 0])],h:=iT,nx:=6 }
abbrev KT:List (Ev.Ex×Lay):=[(.ret,ni)]
abbrev Zz:=TL Zo.σs->Option (Out KT)
abbrev La:=Kb 197 3 Zo 0 KT
abbrev Bi:Lay:={ T:=[(0,.hd 0 au),(1,.int .i64),(2,.func 146 [] [.ptr 1 0]),(6,.int .i64)],h:=iT,nx:=6 }
abbrev Bd:List (Ev.Ex×Lay):=[((.exit 2),ni)]
abbrev Zq:=TL Bi.σs->Option (Out Bd)
abbrev KZ:=Ld 6 63 (bp [1] (aU Tryz.f197)) Bi Bd
abbrev Bh:Lay:=adm
abbrev Bc:List (Ev.Ex×Lay):=[((.exit 4),ado)]
abbrev KY:=TL Bh.σs->Option (Out Bc)
abbrev Bm:=Ld 6 63 (bp [1,0] (aU Tryz.f197)) Bh Bc
abbrev Bj:Lay:=adm
abbrev Be:List (Ev.Ex×Lay):=[((.exit 0),ado)]
abbrev Zr:=TL Bj.σs->Option (Out Be)
abbrev K3:=Ld 6 63 (bp [0] (aU Tryz.f197)) Bj Be
def K6(F2:KA)(t1 t6 t7 t8:Int)(b0:List (Sh.T au))(cd:Int)(cp:List Int)(cH:List (Sh.T ae))(cI cJ cK:List Int)(cL:List (Sh.T ab))(cM:List (Sh.T ae))(b3 b4 b5:List Int):Option (TL Bj.σs⊕Out Be):=
 br (iE t8 t1)
 (
  aj (F2 (t7,(t8,(b0,(cd,(cp,(cH,(cI,(cJ,(cK,(cL,(cM,(b3,(b4,(b5,()))))))))))))))) fun x0=>
  some (.inl (t1,(t6,(t8,((IntKind.wrap .i64 (t8+t6)),x0))))))
 (
  some (.inr (t1,(t6,(t7,(b0,(cd,(cp,(cH,(cI,(cJ,(cK,(cL,(cM,(b3,(b4,(b5,())))))))))))))))))
def amo(c2:AU) :K3:=bu (u16 (K6 c2.F)) (pL (kB c2 k0) e0 1 l0 fun d=>by kernel_rfl)
def aml:K3:=amo KB
def Zu:Zr:=aQ (u16 (K6 YL)) NN
def K4(F1:iz)(t1 t6 t7 t8:Int)(b0:List (Sh.T au))(cd:Int)(cp:List Int)(cH:List (Sh.T ae))(cI cJ cK:List Int)(cL:List (Sh.T ab))(cM:List (Sh.T ae))(b3 b4 b5:List Int):Option (TL Bh.σs⊕Out Bc):=
 br (iE t8 t1)
 (
  aj (F1 (t7,((IntKind.wrap .i64 (t7+t6)),(t8,(b0,(cd,(cp,(cH,(cI,(cJ,(cK,(cL,(cM,(b3,(b4,(b5,())))))))))))))))) fun x0=>
  some (.inl (t1,(t6,(t8,((IntKind.wrap .i64 (t8+(IntKind.wrap .i64 ((2:Int)*t6)))),x0))))))
 (
  some (.inr (t1,(t6,(t7,(b0,(cd,(cp,(cH,(cI,(cJ,(cK,(cL,(cM,(b3,(b4,(b5,())))))))))))))))))
def amm(c1:lZ) :Bm:=bu (u16 (K4 c1.F)) (pL (kB c1 k0) e0 1 l0 fun d=>by kernel_rfl)
def Zs:Bm:=amm Bk
def Bl:KY:=aQ (u16 (K4 KO)) NN
def K5(F1:iz)(L9:KY)(t1 t6:Int)(b0:List (Sh.T au))(cd:Int)(cp:List Int)(cH:List (Sh.T ae))(cI cJ cK:List Int)(cL:List (Sh.T ab))(cM:List (Sh.T ae))(b3 b4 b5:List Int):Option (TL Bi.σs⊕Out Bd):=
 br (iL t6 t1)
 (
  aj (L9 (t1,(t6,((0:Int),((IntKind.wrap .i64 ((2:Int)*t6)),(b0,(cd,(cp,(cH,(cI,(cJ,(cK,(cL,(cM,(b3,(b4,(b5,()))))))))))))))))) fun x0=>
  br (iL (IntKind.wrap .i64 (@HAdd.hAdd (Int) (Int) (Int) _ x0.2.2.1 x0.2.1)) x0.1)
  (
   aj (F1 (x0.2.2.1,((IntKind.wrap .i64 (@HAdd.hAdd (Int) (Int) (Int) _ x0.2.2.1 x0.2.1)),(x0.1,sd x0)))) fun x1=>
   some (.inl (x0.1,((IntKind.wrap .i64 (@HMul.hMul (Int) (Int) (Int) _ x0.2.1 (2:Int))),x1))))
  (
   some (.inl (x0.1,((IntKind.wrap .i64 (@HMul.hMul (Int) (Int) (Int) _ x0.2.1 (2:Int))),sd x0)))))
 (
  some (.inr (b0,(cd,(cp,(cH,(cI,(cJ,(cK,(cL,(cM,(b3,(b4,(b5,()))))))))))))))
def amn(c1:lZ)(M9:Bm):KZ:=bu (iu (K5 c1.F M9.L)) (pL (kB c1 k0) e0 1 (sC M9 l0) fun d=>by kernel_rfl)
def amk:KZ:=amn Bk Zs
def Zt:Zq:=aQ (iu (K5 KO Bl)) NN
def amw(F0:l9)(F1:iz)(F2:KA)(L2:Zr)(L7:Zq)(L9:KY)(t1:Int)(b0:List (Sh.T au))(cd:Int)(cp:List Int)(cH:List (Sh.T ae))(cI cJ cK:List Int)(cL:List (Sh.T ab))(cM:List (Sh.T ae))(b3 b4 b5:List Int):Option (Out KT):=
 aj (L2 (t1,((20:Int),((0:Int),((20:Int),(b0,(cd,(cp,(cH,(cI,(cJ,(cK,(cL,(cM,(b3,(b4,(b5,()))))))))))))))))) fun x0=>
 aj (F2 (x0.2.2.1,(x0.1,sd x0))) fun x1=>
 aj (L7 (x0.1,(x0.2.1,x1))) fun x2=>
 some x2
def amv(c0:lB)(c1:lZ)(c2:AU)(M2:K3)(M7:KZ)(M9:Bm):La:=⟨gZ (amw c0.F c1.F c2.F M2.L M7.L M9.L),pB Tryz.func197 63 (kB c0 (kB c1 (kB c2 k0))) e0 1 (sS (sC M2 (sC M7 l0))) fun d=>by kernel_rfl⟩
def ZA:La:=amv ma Bk KB aml amk Zs
def amp:Zz:=ZA.F
abbrev Yw:Lay:={ T:=[(0,.hd 0 au),(1,.func 146 [] [.ptr 1 0])],h:=iT,nx:=6 }
abbrev Kg:List (Ev.Ex×Lay):=[(.ret,ni)]
abbrev Yx:=TL Yw.σs->Option (Out Kg)
abbrev Ki:=Kb 145 2 Yw 0 Kg
def alw(F0:l9)(F1:Zz)(b0:List (Sh.T au))(cd:Int)(cp:List Int)(cH:List (Sh.T ae))(cI cJ cK:List Int)(cL:List (Sh.T ab))(cM:List (Sh.T ae))(b3 b4 b5:List Int):Option (Out Kg):=
 aj (F1 ((Int.ofNat (List.length b0)),(b0,(cd,(cp,(cH,(cI,(cJ,(cK,(cL,(cM,(b3,(b4,(b5,())))))))))))))) fun x0=>
 some x0
def alv(c0:lB)(c1:La) :Ki:=⟨iZ (alw c0.F c1.F),pB Tryz.func145 9 (kB c0 (kB c1 k0)) e0 1 (sS l0) fun d=>by kernel_rfl⟩
def Yy:Ki:=alv ma ZA
def alu:Yx:=Yy.F
abbrev abM:List Sh:=[ba]
abbrev NR:List Sh:=[(.sl au),.bool]
abbrev abX:=TL abM->Option (TL NR)
abbrev N4:=Kd 78 abM NR
def aoN(F0:Yx)(F1:l9)(F2:Oa)(a0:Sh.T ba):Option (TL NR):=
 aj (F2 a0) fun x0=>
 (match x0 with
 |.inl x1=>
  ah (Bool.not (iQ x1.1 (0:Int)))<|
  some ([],(false,()))
 |.inr x1=>
  br (Bool.not (iQ x1.1 (0:Int)))
  (
   some ([],(false,())))
  (
   aj (F0 (cY x1,(x1.2.1,(x1.2.2.1,(cQ x1,(cR x1,(cX x1,(cT x1,(dc x1,(dG x1,(dN x1,nc x1))))))))))) fun x2=>
   some (x2.1,(true,())))
 )
def aoM(c0:Ki)(c1:lB)(c2:DA) :N4:=⟨u1 (aoN c0.F c1.F c2.F),pD Tryz.func78 23 (kB c0 (kB c1 (kB c2 k0))) e0 1 (sS l0) fun d=>by kernel_rfl⟩
def abY:N4:=aoM Yy ma Ob
def aoB:abX:=abY.F
abbrev Cc:Lay:=Wm
abbrev BP:List (Ev.Ex×Lay):=[((.exit 0),{ T:=[(7,.hd 0 bh)],h:=[(0,.arr bh 237)],nx:=1 })]
abbrev aaw:=TL Cc.σs->Option (Out BP)
abbrev Mo:=Ld 0 51 (bp [0] (aU Tryz.f189)) Cc BP
abbrev BQ:Lay:={ T:=[(4,.fz (.int .i64)),(6,.fz bh),(7,.hd 0 bh),(8,.int .i64),(9,.int .i64)],h:=[(0,.arr bh 237)],nx:=1 }
abbrev BE:List (Ev.Ex×Lay):=[((.exit 2),Wm)]
abbrev LL:=TL BQ.σs->Option (Out BE)
abbrev LP:=Ld 0 51 (bp [0,0] (aU Tryz.f189)) BQ BE
def Cv(t4:List Int)(t6:List (Sh.T bh))(t8 t9:Int)(b0:List (Sh.T bh)):Option (TL BQ.σs⊕Out BE):=
 br (iL t9 (Int.ofNat (List.length t6)))
 (
  ah (aq t9 (List.length t6))<|
  ah (aq (0:Int) (List.length (gt bh t6 t9).2.2.2.2.1))<|
  ah (aq (gt (.int .i64) (gt bh t6 t9).2.2.2.2.1 (0:Int)) (List.length t4))<|
  br (iQ (gt (.int .i64) t4 (gt (.int .i64) (gt bh t6 t9).2.2.2.2.1 (0:Int))) t8)
  (
   ah (aq t9 (List.length t6))<|
   ah (room 72 (List.length (ap b0 (((gt bh t6 t9).1,((gt bh t6 t9).2.1,((gt bh t6 t9).2.2.1,((gt bh t6 t9).2.2.2.1,((gt bh t6 t9).2.2.2.2.1,())))))::[]))))<|
   some (.inl (t4,(t6,(t8,((IntKind.wrap .i64 (t9+(1:Int))),((ap b0 (((gt bh t6 t9).1,((gt bh t6 t9).2.1,((gt bh t6 t9).2.2.1,((gt bh t6 t9).2.2.2.1,((gt bh t6 t9).2.2.2.2.1,())))))::[])),())))))))
  (
   some (.inl (t4,(t6,(t8,((IntKind.wrap .i64 (t9+(1:Int))),(b0,()))))))))
 (
  some (.inr (t4,(t6,(t8,(b0,()))))))
def Z9  :LP:=bu (u5 Cv) (pL k0 e0 1 l0 fun d=>by kernel_rfl)
def LM:LL:=aQ (u5 Cv) NN
def CF(L10:LL)(t4:List Int)(t6:List (Sh.T bh))(t8:Int)(b0:List (Sh.T bh)):Option (TL Cc.σs⊕Out BP):=
 br (iE t8 (Int.ofNat (List.length t6)))
 (
  aj (L10 (t4,(t6,(t8,((0:Int),(b0,())))))) fun x0=>
  some (.inl (x0.1,(x0.2.1,((IntKind.wrap .i64 (@HAdd.hAdd (Int) (Int) (Int) _ x0.2.2.1 (1:Int))),(cQ x0,()))))))
 (
  some (.inr (b0,())))
def ane(M10:LP):Mo:=bu (u4 (CF M10.L)) (pL k0 e0 1 (sC M10 l0) fun d=>by kernel_rfl)
def anc:Mo:=ane  Z9
def aax:aaw:=aQ (u4 (CF LM)) NN
abbrev aav:List Sh:=[ba]
abbrev Mn:List Sh:=[(.sl bh),.bool]
abbrev aa6:=TL aav->Option (TL Mn)
abbrev MQ:=Kd 189 aav Mn
def anH(F0:MR)(F1:Mq)(L7:aaw)(L10:LL)(a0:Sh.T ba):Option (TL Mn):=
 aj (F1 (a0,())) fun x0=>
 br (Bool.not x0.2.1)
 (
  some ([],(false,())))
 (
  aj (F0 (a0,())) fun x1=>
  aj (L7 (x0.1,(x1.1,((1:Int),([],()))))) fun x2=>
  some (x2.1,(true,())))
def anG(c0:CT)(c1:CG)(M7:Mo)(M10:LP):MQ:=⟨u1 (anH c0.F c1.F M7.L M10.L),pD Tryz.func189 51 (kD c0 (kD c1 k0)) e0 1 (sS (sC M7 l0)) fun d=>by kernel_rfl⟩
def aa7:MQ:=anG MS Mr anc Z9
def aay:aa6:=aa7.F
abbrev ace:List Sh:=[(.int .i64)]
abbrev Od:List Sh:=[.bool]
abbrev acm:=TL ace->Option (TL Od)
abbrev Oj:=Kd 149 ace Od
def Oi(a0:Int):Option (TL Od):=some ((iQ (mN .i64 a0 (1:Int)) (1:Int)),())
def apf  :Oj:=⟨u1 Oi,pD Tryz.func149 6 k0 e0 1 (sS l0) fun d=>by kernel_rfl⟩
def acn:Oj:=apf
def acf:acm:=acn.F
abbrev ab3:List Sh:=[(.int .i64),(.sl .bool)]
abbrev Dz:List Sh:=[.bool]
abbrev mT:=TL ab3->Option (TL Dz)
abbrev mb:=Kd 80 ab3 Dz
def Of(F0:acm)(F1:DB)(a0:Int)(a1:List Bool):Option (TL Dz):=
 br (iL a0 (0:Int))
 (
  some (false,()))
 (
  aj (F1 (a0,())) fun x0=>
  aj (F0 (a0,())) fun x1=>
  br (iL (0:Int) x0.1)
  (
   br (aV true (iL x0.1 (Int.ofNat (List.length a1))) false)
   (
    ah (aq x0.1 (List.length a1))<|
    some ((Bool.not (@decide _ (Bool.decEq x1.1 (aV true (gt .bool a1 x0.1) false)))),()))
   (
    some ((Bool.not (@decide _ (Bool.decEq x1.1 false))),())))
  (
   some ((Bool.not (@decide _ (Bool.decEq x1.1 false))),())))
def ao7(c0:Oj)(c1:wM) :mb:=⟨u2 (Of c0.F c1.F),pD Tryz.func80 27 (kD c0 (kD c1 k0)) e0 1 (sS l0) fun d=>by kernel_rfl⟩
def mU:mb:=ao7 acn DC
def ka:mT:=mU.F
abbrev Dc:Lay:={ T:=[(1,.fz .bool),(4,.int .u64),(11,.fz (.int .i64)),(12,.int .i64),(13,.int .i64)],h:=[],nx:=0 }
abbrev C9:List (Ev.Ex×Lay):=[((.exit 0),{ T:=[(4,.int .u64)],h:=[],nx:=0 })]
abbrev abH:=TL Dc.σs->Option (Out C9)
abbrev NH:=Ld 0 27 (bp [0] (aU Tryz.f81)) Dc C9
def Dn(F0:mT)(t1:List Bool)(t4:Int)(t11:List Int)(t12 t13:Int):Option (TL Dc.σs⊕Out C9):=
 br (iL t13 t12)
 (
  ah (aq t13 (List.length t11))<|
  aj (F0 ((gt (.int .i64) t11 t13),(t1,()))) fun x0=>
  br x0.1
  (
   ah (iE (0:Int) t13)<|
   some (.inl (t1,((tI .u64 t4 (IntKind.wrap .u64 ((1:Int)*(HPow.hPow (2:Int) (Min.min (Int.toNat t13) 64))))),(t11,(t12,((IntKind.wrap .i64 (t13+(1:Int))),())))))))
  (
   some (.inl (t1,(t4,(t11,(t12,((IntKind.wrap .i64 (t13+(1:Int))),()))))))))
 (
  some (.inr (t4,())))
def aox(c0:mb) :NH:=bu (u5 (Dn c0.F)) (pL (kD c0 k0) e0 1 l0 fun d=>by kernel_rfl)
def aow:NH:=aox mU
def Dm:abH:=aQ (u5 (Dn ka)) NN
abbrev abG:List Sh:=[(.sl (.int .i64)),(.sl .bool)]
abbrev NG:List Sh:=[(.int .u64)]
abbrev wC:=TL abG->Option (TL NG)
abbrev tA:=Kd 81 abG NG
def NZ(F0:mT)(L2:abH)(a0:List Int)(a1:List Bool):Option (TL NG):=
 ah (both (iE (0:Int) (dj (iL (64:Int) (Int.ofNat (List.length a0))) (64:Int) (Int.ofNat (List.length a0)))) (iE (dj (iL (64:Int) (Int.ofNat (List.length a0))) (64:Int) (Int.ofNat (List.length a0))) (Int.ofNat (List.length a0))))<|
 aj (L2 (a1,((0:Int),((List.take (Int.toNat (dj (iL (64:Int) (Int.ofNat (List.length a0))) (64:Int) (Int.ofNat (List.length a0)))) a0),((Int.ofNat (List.length (List.take (Int.toNat (dj (iL (64:Int) (Int.ofNat (List.length a0))) (64:Int) (Int.ofNat (List.length a0)))) a0))),((0:Int),())))))) fun x0=>
 some (x0.1,())
def aoG(c0:mb)(M2:NH):tA:=⟨u2 (NZ c0.F M2.L),pD Tryz.func81 27 (kD c0 k0) e0 1 (sS (sC M2 l0)) fun d=>by kernel_rfl⟩
def wD:tA:=aoG mU aow
def rl:wC:=wD.F
abbrev Dh:Lay:={ T:=[(0,.int .u64),(4,.hd 0 .bool),(7,.int .i64),(8,.int .i64)],h:=pO,nx:=1 }
abbrev Dd:List (Ev.Ex×Lay):=[((.exit 0),{ T:=[(4,.hd 0 .bool)],h:=pO,nx:=1 })]
abbrev abQ:=TL Dh.σs->Option (Out Dd)
abbrev abR:=Ld 0 21 (bp [0] (aU Tryz.f63)) Dh Dd
def Dt(t0 t7 t8:Int)(b0:List Bool):Option (TL Dh.σs⊕Out Dd):=
 br (iL t8 t7)
 (
  ah (iE (0:Int) t8)<|
  ah (room 1 (List.length (ap b0 ((iQ (mN .u64 (Int.fdiv t0 (HPow.hPow (2:Int) (Min.min (Int.toNat t8) 64))) (1:Int)) (1:Int))::[]))))<|
  some (.inl (t0,(t7,((IntKind.wrap .i64 (t8+(1:Int))),((ap b0 ((iQ (mN .u64 (Int.fdiv t0 (HPow.hPow (2:Int) (Min.min (Int.toNat t8) 64))) (1:Int)) (1:Int))::[])),()))))))
 (
  some (.inr (b0,())))
def aoH  :abR:=bu (u4 Dt) (pL k0 e0 1 l0 fun d=>by kernel_rfl)
def N2:abQ:=aQ (u4 Dt) NN
abbrev abP:List Sh:=[(.int .u64),(.int .i64)]
abbrev N1:List Sh:=[(.sl .bool)]
abbrev oQ:=TL abP->Option (TL N1)
abbrev nU:=Kd 63 abP N1
def N8(F0:Ns)(L2:abQ)(a0 a1:Int):Option (TL N1):=
 aj (F0 (a1,())) fun x0=>
 aj (L2 (a0,(x0.1,((0:Int),([],()))))) fun x1=>
 some (x1.1,())
def aoV(c0:CX)(M2:abR):nU:=⟨u2 (N8 c0.F M2.L),pD Tryz.func63 21 (kD c0 k0) e0 1 (sS (sC M2 l0)) fun d=>by kernel_rfl⟩
def oR:nU:=aoV Nt aoH
def mV:oQ:=oR.F
abbrev abh:List Sh:=[(.int .i64)]
abbrev Nl:List Sh:=[.bool]
abbrev abm:=TL abh->Option (TL Nl)
abbrev Nv:=Kd 204 abh Nl
def Nu(a0:Int):Option (TL Nl):=some ((iQ (Int.tmod a0 (2:Int)) (1:Int)),())
def an9  :Nv:=⟨u1 Nu,pD Tryz.func204 6 k0 e0 1 (sS l0) fun d=>by kernel_rfl⟩
def abn:Nv:=an9
def abi:abm:=abn.F
abbrev aa5:List Sh:=[(.int .i64),(.sl .bool)]
abbrev CR:List Sh:=[.bool]
abbrev l6:=TL aa5->Option (TL CR)
abbrev lx:=Kd 190 aa5 CR
def Ni(F0:abm)(F1:C3)(a0:Int)(a1:List Bool):Option (TL CR):=
 br (iL a0 (0:Int))
 (
  some (false,()))
 (
  aj (F1 (a0,())) fun x0=>
  br (iL (0:Int) x0.1)
  (
   br (aV true (iL x0.1 (Int.ofNat (List.length a1))) false)
   (
    ah (aq x0.1 (List.length a1))<|
    aj (F0 (a0,())) fun x1=>
    some ((Bool.not (@decide _ (Bool.decEq (aV true (gt .bool a1 x0.1) false) x1.1))),()))
   (
    aj (F0 (a0,())) fun x1=>
    some ((Bool.not (@decide _ (Bool.decEq false x1.1))),())))
  (
   aj (F0 (a0,())) fun x1=>
   some ((Bool.not (@decide _ (Bool.decEq false x1.1))),())))
def an1(c0:Nv)(c1:wq) :lx:=⟨u2 (Ni c0.F c1.F),pD Tryz.func190 29 (kD c0 (kD c1 k0)) e0 1 (sS l0) fun d=>by kernel_rfl⟩
def l8:lx:=an1 abn C4
def j8:l6:=l8.F
abbrev Ct:Lay:={ T:=[(0,.fz .bool),(3,.int .u64),(4,.int .u64),(5,.int .i64)],h:=[],nx:=0 }
abbrev Ca:List (Ev.Ex×Lay):=[((.exit 0),{ T:=[(3,.int .u64)],h:=[],nx:=0 })]
abbrev aa3:=TL Ct.σs->Option (Out Ca)
abbrev aa4:=Ld 0 26 (bp [0] (aU Tryz.f121)) Ct Ca
def CQ(t0:List Bool)(t3 t4 t5:Int):Option (TL Ct.σs⊕Out Ca):=
 br (iL t5 (Int.ofNat (List.length t0)))
 (
  br (aV true (iL t5 (64:Int)) false)
  (
   ah (aq t5 (List.length t0))<|
   br (gt .bool t0 t5)
   (
    some (.inl (t0,((IntKind.wrap .u64 (t3+t4)),((IntKind.wrap .u64 (t4*(2:Int))),((IntKind.wrap .i64 (t5+(1:Int))),()))))))
   (
    some (.inl (t0,(t3,((IntKind.wrap .u64 (t4*(2:Int))),((IntKind.wrap .i64 (t5+(1:Int))),())))))))
  (
   some (.inr (t3,()))))
 (
  some (.inr (t3,())))
def anD  :aa4:=bu (u4 CQ) (pL k0 e0 1 l0 fun d=>by kernel_rfl)
def MM:aa3:=aQ (u4 CQ) NN
abbrev aa2:List Sh:=[(.sl .bool)]
abbrev ML:List Sh:=[(.int .u64)]
abbrev wI:=TL aa2->Option (TL ML)
abbrev tw:=Kd 121 aa2 ML
def Nh(L3:aa3)(a0:List Bool):Option (TL ML):=
 aj (L3 (a0,((0:Int),((1:Int),((0:Int),()))))) fun x0=>
 some (x0.1,())
def an0(M3:aa4):tw:=⟨u1 (Nh M3.L),pD Tryz.func121 26 k0 e0 1 (sS (sC M3 l0)) fun d=>by kernel_rfl⟩
def wJ:tw:=an0  anD
def Di:wI:=wJ.F
abbrev Cb:Lay:={ T:=[(0,.int .u64),(1,.int .i64),(5,.hd 0 .bool),(6,.int .i64)],h:=pO,nx:=1 }
abbrev BO:List (Ev.Ex×Lay):=[((.exit 0),{ T:=[(5,.hd 0 .bool)],h:=pO,nx:=1 })]
abbrev aas:=TL Cb.σs->Option (Out BO)
abbrev aat:=Ld 0 25 (bp [0] (aU Tryz.f116)) Cb BO
def CE(t0 t1 t6:Int)(b0:List Bool):Option (TL Cb.σs⊕Out BO):=
 br (iL t6 t1)
 (
  br (aV true (iL t6 (64:Int)) false)
  (
   ah (room 1 (List.length (ap b0 ((iQ (Int.tmod t0 (2:Int)) (1:Int))::[]))))<|
   some (.inl ((IntKind.wrap .u64 (Int.tdiv t0 (2:Int))),(t1,((IntKind.wrap .i64 (t6+(1:Int))),((ap b0 ((iQ (Int.tmod t0 (2:Int)) (1:Int))::[])),()))))))
  (
   some (.inr (b0,()))))
 (
  some (.inr (b0,())))
def am9  :aat:=bu (u4 CE) (pL k0 e0 1 l0 fun d=>by kernel_rfl)
def Ml:aas:=aQ (u4 CE) NN
abbrev aar:List Sh:=[(.int .u64),(.int .i64)]
abbrev Mj:List Sh:=[(.sl .bool)]
abbrev pX:=TL aar->Option (TL Mj)
abbrev oP:=Kd 116 aar Mj
def MN(L3:aas)(a0 a1:Int):Option (TL Mj):=
 aj (L3 (a0,(a1,((0:Int),([],()))))) fun x0=>
 some (x0.1,())
def anE(M3:aat):oP:=⟨u2 (MN M3.L),pD Tryz.func116 25 k0 e0 1 (sS (sC M3 l0)) fun d=>by kernel_rfl⟩
def pY:oP:=anE  am9
def oO:pX:=pY.F
abbrev BN:Lay:={ T:=[(0,.fz (.int .i64)),(1,.fz .bool),(5,.hd 0 .bool),(6,.int .i64)],h:=pO,nx:=1 }
abbrev BD:List (Ev.Ex×Lay):=[((.exit 0),{ T:=[(5,.hd 0 .bool)],h:=pO,nx:=1 })]
abbrev Z8:=TL BN.σs->Option (Out BD)
abbrev LK:=Ld 0 24 (bp [0] (aU Tryz.f191)) BN BD
def Cu(F1:l6)(t0:List Int)(t1:List Bool)(t6:Int)(b0:List Bool):Option (TL BN.σs⊕Out BD):=
 br (iL t6 (Int.ofNat (List.length t0)))
 (
  ah (aq t6 (List.length t0))<|
  aj (F1 ((gt (.int .i64) t0 t6),(t1,()))) fun x0=>
  ah (room 1 (List.length (ap b0 (x0.1::[]))))<|
  some (.inl (t0,(t1,((IntKind.wrap .i64 (t6+(1:Int))),((ap b0 (x0.1::[])),()))))))
 (
  some (.inr (b0,())))
def amT(c1:lx) :LK:=bu (u4 (Cu c1.F)) (pL (kD c1 k0) e0 1 l0 fun d=>by kernel_rfl)
def amS:LK:=amT l8
def LJ:Z8:=aQ (u4 (Cu j8)) NN
abbrev Z7:List Sh:=[(.sl (.int .i64)),(.sl .bool)]
abbrev LH:List Sh:=[(.int .u64)]
abbrev wh:=TL Z7->Option (TL LH)
abbrev th:=Kd 191 Z7 LH
def Mi(F0:wI)(F1:l6)(L3:Z8)(a0:List Int)(a1:List Bool):Option (TL LH):=
 aj (L3 (a0,(a1,((0:Int),([],()))))) fun x0=>
 aj (F0 (x0.1,())) fun x1=>
 some (x1.1,())
def am8(c0:tw)(c1:lx)(M3:LK):th:=⟨u2 (Mi c0.F c1.F M3.L),pD Tryz.func191 24 (kD c0 (kD c1 k0)) e0 1 (sS (sC M3 l0)) fun d=>by kernel_rfl⟩
def wi:th:=am8 wJ l8 amS
def q9:wh:=wi.F
abbrev Cr:Lay:={ T:=[(0,.fz ar),(1,.int .u64),(5,.int .i64)],h:=[],nx:=0 }
abbrev wg:List (Ev.Ex×Lay):=[(.ret,{ T:=[(4,.int .u64)],h:=[],nx:=0 }),((.exit 0),{ T:=[],h:=[],nx:=0 })]
abbrev aaZ:=TL Cr.σs->Option (Out wg)
abbrev aa1:=Ld 0 24 (bp [0] (aU Tryz.f188)) Cr wg
def CP(t0:List (Sh.T ar))(t1 t5:Int):Option (TL Cr.σs⊕Out wg):=
 br (iL t5 (Int.ofNat (List.length t0)))
 (
  ah (aq t5 (List.length t0))<|
  br (iQ (gt ar t0 t5).1 t1)
  (
   ah (aq t5 (List.length t0))<|
   some (.inr (.inl ((gt ar t0 t5).2.1,()))))
  (
   some (.inl (t0,(t1,((IntKind.wrap .i64 (t5+(1:Int))),()))))))
 (
  some (.inr (.inr ())))
def anC  :aa1:=bu (u3 CP) (pL k0 e0 1 l0 fun d=>by kernel_rfl)
def aa0:aaZ:=aQ (u3 CP) NN
abbrev aaY:List Sh:=[(.sl ar),(.int .u64)]
abbrev MK:List Sh:=[(.int .u64)]
abbrev wz:=TL aaY->Option (TL MK)
abbrev tv:=Kd 188 aaY MK
def Ng(L2:aaZ)(a0:List (Sh.T ar))(a1:Int):Option (TL MK):=
 aj (L2 (a0,(a1,((0:Int),())))) fun x0=>
 (match x0 with|.inl x1=>some (x1.1,())|.inr x1=>some ((0:Int),())
 )
def anZ(M2:aa1):tv:=⟨u2 (Ng M2.L),pD Tryz.func188 24 k0 e0 1 (sS (sC M2 l0)) fun d=>by kernel_rfl⟩
def wA:tv:=anZ  anC
def tu:wz:=wA.F
abbrev B9:Lay:={ T:=[(0,.fz ar),(1,.int .u64),(2,.int .u64),(7,.hd 0 ar),(8,.bool),(9,.int .i64)],h:=[(0,.arr ar 137)],nx:=1 }
abbrev BM:List (Ev.Ex×Lay):=[((.exit 0),{ T:=[(1,.int .u64),(2,.int .u64),(7,.hd 0 ar),(8,.bool)],h:=[(0,.arr ar 137)],nx:=1 })]
abbrev aao:=TL B9.σs->Option (Out BM)
abbrev aaq:=Ld 0 58 (bp [0] (aU Tryz.f192)) B9 BM
def CD(t0:List (Sh.T ar))(t1 t2:Int)(t8:Bool)(t9:Int)(b0:List (Sh.T ar)):Option (TL B9.σs⊕Out BM):=
 br (iL t9 (Int.ofNat (List.length t0)))
 (
  br (Bool.not t8)
  (
   ah (aq t9 (List.length t0))<|
   br (aV true (iE t1 (gt ar t0 t9).1) false)
   (
    ah (room 16 (List.length (ap b0 ((t1,(t2,()))::[]))))<|
    ah (aq t9 (List.length t0))<|
    br (Bool.not (iQ (gt ar t0 t9).1 t1))
    (
     ah (aq t9 (List.length t0))<|
     ah (room 16 (List.length (ap (ap b0 ((t1,(t2,()))::[])) (((gt ar t0 t9).1,((gt ar t0 t9).2.1,()))::[]))))<|
     some (.inl (t0,(t1,(t2,(true,((IntKind.wrap .i64 (t9+(1:Int))),((ap (ap b0 ((t1,(t2,()))::[])) (((gt ar t0 t9).1,((gt ar t0 t9).2.1,()))::[])),()))))))))
    (
     some (.inl (t0,(t1,(t2,(true,((IntKind.wrap .i64 (t9+(1:Int))),((ap b0 ((t1,(t2,()))::[])),())))))))))
   (
    ah (aq t9 (List.length t0))<|
    br (Bool.not (iQ (gt ar t0 t9).1 t1))
    (
     ah (aq t9 (List.length t0))<|
     ah (room 16 (List.length (ap b0 (((gt ar t0 t9).1,((gt ar t0 t9).2.1,()))::[]))))<|
     some (.inl (t0,(t1,(t2,(t8,((IntKind.wrap .i64 (t9+(1:Int))),((ap b0 (((gt ar t0 t9).1,((gt ar t0 t9).2.1,()))::[])),()))))))))
    (
     some (.inl (t0,(t1,(t2,(t8,((IntKind.wrap .i64 (t9+(1:Int))),(b0,()))))))))))
  (
   ah (aq t9 (List.length t0))<|
   br (Bool.not (iQ (gt ar t0 t9).1 t1))
   (
    ah (aq t9 (List.length t0))<|
    ah (room 16 (List.length (ap b0 (((gt ar t0 t9).1,((gt ar t0 t9).2.1,()))::[]))))<|
    some (.inl (t0,(t1,(t2,(t8,((IntKind.wrap .i64 (t9+(1:Int))),((ap b0 (((gt ar t0 t9).1,((gt ar t0 t9).2.1,()))::[])),()))))))))
   (
    some (.inl (t0,(t1,(t2,(t8,((IntKind.wrap .i64 (t9+(1:Int))),(b0,()))))))))))
 (
  some (.inr (t1,(t2,(t8,(b0,()))))))
def am7  :aaq:=bu (u6 CD) (pL k0 e0 1 l0 fun d=>by kernel_rfl)
def Mh:aao:=aQ (u6 CD) NN
abbrev aan:List Sh:=[(.sl ar),(.int .u64),(.int .u64)]
abbrev Mg:List Sh:=[(.sl ar)]
abbrev MH:=TL aan->Option (TL Mg)
abbrev CO:=Kd 192 aan Mg
def MJ(L4:aao)(a0:List (Sh.T ar))(a1 a2:Int):Option (TL Mg):=
 aj (L4 (a0,(a1,(a2,((iQ a2 (0:Int)),((0:Int),([],()))))))) fun x0=>
 br (Bool.not x0.2.2.1)
 (
  ah (room 16 (List.length (ap (cQ x0) ((x0.1,(x0.2.1,()))::[]))))<|
  some ((ap (cQ x0) ((x0.1,(x0.2.1,()))::[])),()))
 (
  some (cQ x0,()))
def anB(M4:aaq):CO:=⟨u3 (MJ M4.L),pD Tryz.func192 58 k0 e0 1 (sS (sC M4 l0)) fun d=>by kernel_rfl⟩
def MI:CO:=anB  am7
def aap:MH:=MI.F
abbrev alO:Lay:={ T:=[(0,.ef (.int .i64))],h:=[],nx:=0 }
abbrev Y6:List (Ev.Ex×Lay):=[(.ret,{ T:=[(0,.hd 0 (.int .i64))],h:=[(0,.arr (.int .i64) 3)],nx:=1 })]
abbrev ZO:=Kb 131 1 alO 1 Y6
def amG(t0z:Bool)(t0:List Int):Option (Out Y6):=
 br t0z
 (
  some ([],()))
 (
  ah (room 8 (List.length (ap [] t0)))<|
  some ((ap [] t0),()))
def amF  :ZO:=⟨u2 amG,pB Tryz.func131 8 k0 e0 1 (sS l0) fun d=>by kernel_rfl⟩
def al2:ZO:=amF
abbrev ZQ:List Sh:=[.sl (.int .i64)]
abbrev ZP:List Sh:=[.sl (.int .i64)]
abbrev BX:=TL ZQ->Option (TL ZP)
abbrev B0:=Kd 131 ZQ ZP
def BZ:B0:=⟨_,NY al2.ok rfl (fun L=>rfl) (fun L=>⟨_,_,rfl,rfl,rfl⟩)⟩
def tf:BX:=BZ.F
abbrev alm:Lay:={ T:=[(0,.ef ae)],h:=[],nx:=0 }
abbrev Yu:List (Ev.Ex×Lay):=[(.ret,{ T:=[(0,.hd 0 ae)],h:=[(0,.arr ae 95)],nx:=1 })]
abbrev Y3:=Kb 132 1 alm 1 Yu
def al0(t0z:Bool)(t0:List (Sh.T ae)):Option (Out Yu):=
 br t0z
 (
  some ([],()))
 (
  ah (room 24 (List.length (ap [] t0)))<|
  some ((ap [] t0),()))
def alZ  :Y3:=⟨u2 al0,pB Tryz.func132 8 k0 e0 1 (sS l0) fun d=>by kernel_rfl⟩
def alp:Y3:=alZ
abbrev Y5:List Sh:=[.sl ae]
abbrev Y4:List Sh:=[.sl ae]
abbrev Zh:=TL Y5->Option (TL Y4)
abbrev Zj:=Kd 132 Y5 Y4
def Zi:Zj:=⟨_,NY alp.ok rfl (fun L=>rfl) (fun L=>⟨_,_,rfl,rfl,rfl⟩)⟩
def al1:Zh:=Zi.F
abbrev alr:Lay:={ T:=[(0,.ef ae)],h:=[],nx:=0 }
abbrev Yv:List (Ev.Ex×Lay):=[(.ret,{ T:=[(0,.hd 0 ae)],h:=[(0,.arr ae 150)],nx:=1 })]
abbrev Zw:=Kb 133 1 alr 1 Yv
def amt(t0z:Bool)(t0:List (Sh.T ae)):Option (Out Yv):=
 br t0z
 (
  some ([],()))
 (
  ah (room 24 (List.length (ap [] t0)))<|
  some ((ap [] t0),()))
def ams  :Zw:=⟨u2 amt,pB Tryz.func133 8 k0 e0 1 (sS l0) fun d=>by kernel_rfl⟩
def als:Zw:=ams
abbrev Zy:List Sh:=[.sl ae]
abbrev Zx:List Sh:=[.sl ae]
abbrev ZC:=TL Zy->Option (TL Zx)
abbrev ZE:=Kd 133 Zy Zx
def ZD:ZE:=⟨_,NY als.ok rfl (fun L=>rfl) (fun L=>⟨_,_,rfl,rfl,rfl⟩)⟩
def amu:ZC:=ZD.F
abbrev ali:Lay:={ T:=[(0,.ef ab)],h:=[],nx:=0 }
abbrev Ke:List (Ev.Ex×Lay):=[(.ret,{ T:=[(0,.hd 0 ab)],h:=[(0,.arr ab 116)],nx:=1 })]
abbrev YV:=Kb 134 1 ali 1 Ke
def alT(t0z:Bool)(t0:List (Sh.T ab)):Option (Out Ke):=
 br t0z
 (
  some ([],()))
 (
  ah (room 72 (List.length (ap [] t0)))<|
  some ((ap [] t0),()))
def alS  :YV:=⟨u2 alT,pB Tryz.func134 8 k0 e0 1 (sS l0) fun d=>by kernel_rfl⟩
def alk:YV:=alS
abbrev YM:Lay:={ T:=[(0,.fz ab)],h:=[],nx:=0 }
abbrev YI:List (Ev.Ex×Lay):=Ke
abbrev YX:=TL YM.σs->Option (Out YI)
abbrev YZ:=Kb 134 1 YM 1 YI
def YY:YZ:=Gn alk rfl
def alU:YX:=YY.F
abbrev alo:Lay:={ T:=[(0,.ef cj)],h:=[],nx:=0 }
abbrev Kh:List (Ev.Ex×Lay):=[(.ret,{ T:=[(0,.hd 0 cj)],h:=[(0,.arr cj 152)],nx:=1 })]
abbrev Zn:=Kb 135 1 alo 1 Kh
def amh(t0z:Bool)(t0:List (Sh.T cj)):Option (Out Kh):=
 br t0z
 (
  some ([],()))
 (
  ah (room 32 (List.length (ap [] t0)))<|
  some ((ap [] t0),()))
def amg  :Zn:=⟨u2 amh,pB Tryz.func135 8 k0 e0 1 (sS l0) fun d=>by kernel_rfl⟩
def alq:Zn:=amg
abbrev Zg:Lay:={ T:=[(0,.fz cj)],h:=[],nx:=0 }
abbrev Y2:List (Ev.Ex×Lay):=Kh
abbrev KV:=TL Zg.σs->Option (Out Y2)
abbrev KX:=Kb 135 1 Zg 1 Y2
def KW:KX:=Gn alq rfl
def KU:KV:=KW.F
abbrev alj:Lay:={ T:=[(0,.ef bI)],h:=[],nx:=0 }
abbrev Kf:List (Ev.Ex×Lay):=[(.ret,{ T:=[(0,.hd 0 bI)],h:=[(0,.arr bI 175)],nx:=1 })]
abbrev Y1:=Kb 136 1 alj 1 Kf
def alY(t0z:Bool)(t0:List (Sh.T bI)):Option (Out Kf):=
 br t0z
 (
  some ([],()))
 (
  ah (room 56 (List.length (ap [] t0)))<|
  some ((ap [] t0),()))
def alX  :Y1:=⟨u2 alY,pB Tryz.func136 8 k0 e0 1 (sS l0) fun d=>by kernel_rfl⟩
def aln:Y1:=alX
abbrev YW:Lay:={ T:=[(0,.fz bI)],h:=[],nx:=0 }
abbrev YU:List (Ev.Ex×Lay):=Kf
abbrev KJ:=TL YW.σs->Option (Out YU)
abbrev KL:=Kb 136 1 YW 1 YU
def KK:KL:=Gn aln rfl
def KE:KJ:=KK.F
abbrev Dl:Lay:={ T:=[(1,.ptr 0 0),(2,.ptr 2 0),(41,.int .i64),(42,.int .i64)],h:=adl,nx:=3 }
abbrev De:List (Ev.Ex×Lay):=[((.exit 2),{ T:=[(1,.ptr 0 0),(2,.ptr 2 0)],h:=adl,nx:=3 })]
abbrev ab0:=TL Dl.σs->Option (Out De)
abbrev N7:=Ld 0 123 (bp [1] (aU Tryz.f68)) Dl De
abbrev Df:Lay:={ T:=[(1,.ptr 0 0),(2,.ptr 4 0),(6,.dX 1 5 0),(41,.int .i64),(42,.int .i64),(94,.int .i64),(95,.int .i64)],h:=D8,nx:=5 }
abbrev Da:List (Ev.Ex×Lay):=[((.exit 6),{ T:=[(1,.ptr 0 0),(2,.ptr 4 0),(41,.int .i64),(42,.int .i64)],h:=D8,nx:=5 })]
abbrev NU:=TL Df.σs->Option (Out Da)
abbrev Dp:=Ld 0 123 (bp [1,1] (aU Tryz.f68)) Df Da
abbrev Dg:Lay:={ T:=[(1,.ptr 0 0),(2,.ptr 4 0),(6,.dX 1 5 0),(41,.int .i64),(42,.int .i64),(69,.int .i64),(70,.int .i64)],h:=D8,nx:=5 }
abbrev Db:List (Ev.Ex×Lay):=[((.exit 4),{ T:=[(1,.ptr 0 0),(2,.ptr 4 0),(6,.dX 1 5 0),(41,.int .i64),(42,.int .i64)],h:=D8,nx:=5 })]
abbrev NV:=TL Dg.σs->Option (Out Db)
abbrev Dq:=Ld 0 123 (bp [1,0] (aU Tryz.f68)) Dg Db
def Ds(F2:BX)(t6 t41 t42 t69 t70 aC:Int)(aB:List Int)(aG:List (Sh.T ae))(aH aI aJ:List Int)(aE:List (Sh.T ae))(b1i:Int)(b1:List (Sh.T ab))(bO bL:Int)(fj:Bool)(b2:List (Sh.T cj))(b3:List (Sh.T bI))(rz:Int):Option (TL Dg.σs⊕Out Db):=
 br (iL t70 t69)
 (
  ah (Nat.beq (Int.toNat t6) (Int.toNat b1i))<|
  ah (Nat.beq (Int.toNat t6) (Int.toNat b1i))<|
  ah (aq t70 (List.length b2))<|
  aj (F2 ((gt cj b2 t70).2.1,())) fun x0=>
  ah (aq t70 (List.length b2))<|
  some (.inl ((Int.ofNat (Int.toNat t6)),(t41,(t42,(t69,((IntKind.wrap .i64 (t70+(1:Int))),(aC,(aB,(aG,(aH,(aI,(aJ,(aE,((Int.ofNat (Int.toNat b1i)),(b1,(bO,(bL,(fj,((List.set b2 (Int.toNat t70) ((gt cj b2 t70).1,(x0.1,()))),(b3,(rz,()))))))))))))))))))))))
 (
  some (.inr ((Int.ofNat (Int.toNat t6)),(t41,(t42,(aC,(aB,(aG,(aH,(aI,(aJ,(aE,((Int.ofNat (Int.toNat b1i)),(b1,(bO,(bL,(fj,(b2,(b3,(rz,()))))))))))))))))))))
def aoE(c2:B0) :Dq:=bu (lT (Ds c2.F)) (pL (kD c2 k0) e0 1 l0 fun d=>by kernel_rfl)
def abO:Dq:=aoE BZ
def NX:NV:=aQ (lT (Ds tf)) NN
def Dr(F2:BX)(t6 t41 t42 t94 t95 aC:Int)(aB:List Int)(aG:List (Sh.T ae))(aH aI aJ:List Int)(aE:List (Sh.T ae))(b1i:Int)(b1:List (Sh.T ab))(bO bL:Int)(fj:Bool)(b2:List (Sh.T cj))(b3:List (Sh.T bI))(rz:Int):Option (TL Df.σs⊕Out Da):=
 br (iL t95 t94)
 (
  ah (Nat.beq (Int.toNat t6) (Int.toNat b1i))<|
  ah (aq t95 (List.length b3))<|
  aj (F2 ((gt bI b3 t95).2.1,())) fun x0=>
  aj (F2 ((gt bI b3 t95).2.2.1,())) fun x1=>
  ah (nQ (Int.toNat t95) (Int.toNat t95))<|
  some (.inl ((Int.ofNat (Int.toNat t6)),(t41,(t42,(t94,((IntKind.wrap .i64 (t95+(1:Int))),(aC,(aB,(aG,(aH,(aI,(aJ,(aE,((Int.ofNat (Int.toNat b1i)),(b1,(bO,(bL,(fj,(b2,((List.set (List.set b3 (Int.toNat t95) ((gt bI b3 t95).1,(x0.1,((gt bI b3 t95).2.2.1,())))) (Int.toNat t95) ((gt bI (List.set b3 (Int.toNat t95) ((gt bI b3 t95).1,(x0.1,((gt bI b3 t95).2.2.1,())))) t95).1,((gt bI (List.set b3 (Int.toNat t95) ((gt bI b3 t95).1,(x0.1,((gt bI b3 t95).2.2.1,())))) t95).2.1,(x1.1,())))),(rz,()))))))))))))))))))))))
 (
  some (.inr (t41,(t42,(aC,(aB,(aG,(aH,(aI,(aJ,(aE,((Int.ofNat (Int.toNat b1i)),(b1,(bO,(bL,(fj,(b2,(b3,(rz,())))))))))))))))))))
def aoD(c2:B0) :Dp:=bu (lT (Dr c2.F)) (pL (kD c2 k0) e0 1 l0 fun d=>by kernel_rfl)
def abN:Dp:=aoD BZ
def NW:NU:=aQ (lT (Dr tf)) NN
def Dy(F3:KJ)(F4:KV)(L13:NV)(L18:NU)(t41 t42 aC:Int)(aB:List Int)(aG:List (Sh.T ae))(aH aI aJ:List Int)(aE:List (Sh.T ae))(b1:List (Sh.T ab))(cd:Int):Option (TL Dl.σs⊕Out De):=
 br (iL t42 t41)
 (
  ah (aq t42 (List.length b1))<|
  aj (F4 ((gt ab b1 t42).2.2.2.1,())) fun x0=>
  ah (nQ (Int.toNat t42) (Int.toNat t42))<|
  ah (nQ (Int.toNat t42) (Int.toNat t42))<|
  ah (nQ (Int.toNat t42) (Int.toNat t42))<|
  ah (nQ (Int.toNat t42) (Int.toNat t42))<|
  ah (nQ (Int.toNat t42) (Int.toNat t42))<|
  ah (nu (Sh.beq bI) (gt ab b1 t42).2.2.2.2.1 (gt ab b1 t42).2.2.2.2.1)<|
  aj (F3 ((gt ab b1 t42).2.2.2.2.1,())) fun x1=>
  ah (nQ (Int.toNat t42) (Int.toNat t42))<|
  ah (nQ (Int.toNat t42) (Int.toNat t42))<|
  ah (nQ (Int.toNat t42) (Int.toNat t42))<|
  ah (Nat.beq (Int.toNat t42) (Int.toNat t42))<|
  ah (Nat.beq (Int.toNat t42) (Int.toNat t42))<|
  aj (L13 ((Int.ofNat (Int.toNat t42)),(t41,(t42,((Int.ofNat (List.length x0.1)),((0:Int),(aC,(aB,(aG,(aH,(aI,(aJ,(aE,((Int.ofNat (Int.toNat t42)),(b1,((gt ab b1 t42).1,((gt ab b1 t42).2.1,((gt ab b1 t42).2.2.1,(x0.1,(x1.1,(cd,()))))))))))))))))))))) fun x2=>
  ah (Nat.beq (Int.toNat x2.1) (Int.toNat (cY x2)))<|
  aj (L18 ((Int.ofNat (Int.toNat x2.1)),(x2.2.1,(x2.2.2.1,((Int.ofNat (List.length (cR (bf x2)))),((0:Int),(cQ x2,(cR x2,(cX x2,(cT x2,(dc x2,(dG x2,(dN x2,((Int.ofNat (Int.toNat (cY x2))),(fO x2,(fm x2,((bf x2).2.1,((bf x2).2.2.1,(cQ (bf x2),(cR (bf x2),(cX (bf x2),()))))))))))))))))))))) fun x3=>
  some (.inl (x3.1,((IntKind.wrap .i64 (@HAdd.hAdd (Int) (Int) (Int) _ x3.2.1 (1:Int))),(x3.2.2.1,(cQ x3,(cR x3,(cX x3,(cT x3,(dc x3,(dG x3,((List.set (cY x3) (Int.toNat (dN x3)) (fO x3,(fm x3,((bf x3).2.1,((bf x3).2.2.1,(cQ (bf x3),())))))),(cR (bf x3),())))))))))))))
 (
  some (.inr (aC,(aB,(aG,(aH,(aI,(aJ,(aE,(b1,(cd,())))))))))))
def aoR(c3:KL)(c4:KX)(M13:Dq)(M18:Dp):N7:=bu (jl (Dy c3.F c4.F M13.L M18.L)) (pL (kB c3 (kB c4 k0)) e0 1 (sC M13 (sC M18 l0)) fun d=>by kernel_rfl)
def aoQ:N7:=aoR KK KW abO abN
def ab1:ab0:=aQ (jl (Dy KE KU NX NW)) NN
abbrev abZ:List Sh:=[ba]
abbrev N5:List Sh:=[ba]
abbrev acb:=TL abZ->Option (TL N5)
abbrev Oc:=Kd 68 abZ N5
def ao4(F0:ZC)(F1:Zh)(F2:BX)(F3:KJ)(F4:KV)(F5:YX)(L8:ab0)(L13:NV)(L18:NU)(a0:Sh.T ba):Option (TL N5):=
 aj (F2 (a0.2.1,())) fun x0=>
 aj (F2 (cQ a0,())) fun x1=>
 aj (F2 (cR a0,())) fun x2=>
 aj (F2 (cX a0,())) fun x3=>
 aj (F1 (a0.2.2.1,())) fun x4=>
 aj (F0 (dc a0,())) fun x5=>
 aj (F5 (cT a0,())) fun x6=>
 aj (L8 ((Int.ofNat (List.length x6.1)),((0:Int),(a0.1,(x0.1,(x4.1,(x1.1,(x2.1,(x3.1,(x5.1,(x6.1,((0:Int),())))))))))))) fun x7=>
 some ((x7.1,(x7.2.1,(x7.2.2.1,(cQ x7,(cR x7,(cX x7,(dc x7,(cT x7,())))))))),())
def ao3(c0:ZE)(c1:Zj)(c2:B0)(c3:KL)(c4:KX)(c5:YZ)(M8:N7)(M13:Dq)(M18:Dp):Oc:=⟨u1 (ao4 c0.F c1.F c2.F c3.F c4.F c5.F M8.L M13.L M18.L),pD Tryz.func68 123 (kD c0 (kD c1 (kD c2 (kB c3 (kB c4 (kB c5 k0)))))) e0 1 (lS (lU (bp [0] (aU Tryz.f68)) 5 (kD c0 (kD c1 (kD c2 (kB c3 (kB c4 (kB c5 k0)))))) e0 1 l0 (by kernel_rfl) (sC M8 l0) (by kernel_rfl)) (by kernel_rfl)) fun d=>by kernel_rfl⟩
def acd:Oc:=ao3 ZD Zi BZ KK KW YY aoQ abO abN
def aoS:acb:=acd.F
abbrev aly:Lay:={ T:=[(0,.ef .bool)],h:=[],nx:=0 }
abbrev KD:List (Ev.Ex×Lay):=[(.ret,{ T:=[(0,.hd 0 .bool)],h:=pO,nx:=1 })]
abbrev ZN:=Kb 73 1 aly 1 KD
def amC(t0z:Bool)(t0:List Bool):Option (Out KD):=
 br t0z
 (
  some ([],()))
 (
  ah (room 1 (List.length (ap [] t0)))<|
  some ((ap [] t0),()))
def amB  :ZN:=⟨u2 amC,pB Tryz.func73 8 k0 e0 1 (sS l0) fun d=>by kernel_rfl⟩
def alP:ZN:=amB
abbrev ZI:Lay:={ T:=[(0,.fz .bool)],h:=[],nx:=0 }
abbrev ZH:List (Ev.Ex×Lay):=KD
abbrev ti:=TL ZI.σs->Option (Out ZH)
abbrev tj:=Kb 73 1 ZI 1 ZH
def rh:tj:=Gn alP rfl
def Lh:ti:=rh.F
abbrev ZG:Lay:={ T:=[(0,.hd 0 .bool)],h:=pO,nx:=1 }
abbrev ZF:List (Ev.Ex×Lay):=[(.ret,{ T:=[(0,.hd 1 .bool)],h:=[(0,.arr .bool 4),(1,.arr .bool 4)],nx:=2 })]
abbrev tp:=TL ZG.σs->Option (Out ZF)
abbrev tt:=Kb 73 1 ZG 1 ZF
def tq:tt:=⟨_,ao5 (by kernel_rfl) rh.ok⟩
def aoq:tp:=tq.F
abbrev Zke:Lay:={ T:=[(0,.ptr 0 0),(1,.int .u64)],h:=D9,nx:=2 }
abbrev xJ:List (Ev.Ex×Lay):=[(.ret,{ T:=[(0,.int .u64)],h:=D9,nx:=2 })]
abbrev wG:=TL Zke.σs->Option (Out xJ)
abbrev tB:=Kb 75 2 Zke 1 xJ
def QM(t1 aC aB:Int)(b1:List (Sh.T ar)):Option (Out xJ):=some ((@mZ (.int .u64) b1 t1),(aC,(aB,(b1,()))))
def aop  :tB:=⟨u4 QM,pB Tryz.func75 13 k0 e0 1 (sS l0) fun d=>by kernel_rfl⟩
def wH:tB:=aop
def uy:wG:=wH.F
abbrev wL:Lay:={ T:=[(0,.ptr 0 0)],h:=D9,nx:=2 }
abbrev wK:List (Ev.Ex×Lay):=[(.ret,{ T:=[(0,.fz ar)],h:=D9,nx:=2 })]
abbrev OC:=TL wL.σs->Option (Out wK)
abbrev OD:=Kb 83 1 wL 1 wK
