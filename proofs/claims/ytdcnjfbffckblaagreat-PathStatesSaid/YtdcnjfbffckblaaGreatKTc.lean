import Derived.Test.YtdcnjfbffckblaaGreatKTb
set_option linter.unusedSectionVars false
set_option linter.unusedVariables false
set_option linter.unusedSimpArgs false
set_option linter.unnecessarySimpa false
section
namespace Go.Proofs.YtdcnjfbffckblaaGreat.V
open Go Go.RowKit
set_option maxRecDepth 1000000
abbrev rX:List (Nat×LO):=[(0,.cells gR 27),(1,.cells [.fz .bool,.fz (.sl ar)] 31),(2,.arr .bool 4)]
abbrev Eu:List (Nat×LO):=[(0,.cells gR 27),(1,.cells [.fz .bool,.fz (.sl ar)] 31),(2,.cells [.av,.av] 31),(3,.cells [.hd 4 .bool,.hd 5 (.sl ar)] 31),(4,.arr .bool 4),(5,.arr (.sl ar) 82)]
abbrev PH:List (Nat×LO):=[(0,.cells gR 27),(1,.cells [.fz .bool,.fz (.sl ar)] 31),(2,.cells [.av,.av] 31),(3,.cells [.hd 4 .bool,.av] 31),(4,.arr .bool 4)]
abbrev PI:Lay:={ T:=[(3,.ptr 0 0),(4,.ptr 1 0),(7,.hd 2 .bool),(10,.fz aQ),(12,.int .i64)],h:=rX,nx:=3 }
abbrev uS:Lay:=PI
abbrev uO:List (Ev.Ex×Lay):=[((.exit 4),{ T:=[(7,.hd 0 .bool)],h:=[(0,.arr .bool 4)],nx:=1 })]
abbrev MJ:=TL uS.σs->Option (Out uO)
abbrev Cg:=Ld 0 133 (bL [2] (bw Tryz.f13)) uS uO
abbrev uR:Lay:={ T:=[(3,.ptr 0 0),(4,.ptr 1 0),(7,.hd 2 .bool),(10,.fz aQ),(12,.int .i64),(13,.ptr 3 0),(14,.fz .bool),(15,.int .i64)],h:=[(0,.cells gR 27),(1,.cells [.fz .bool,.fz (.sl ar)] 31),(2,.arr .bool 4),(3,.cells [.bool,.int .i64,.int .i64,.fz (.int .i64),.fz (.int .i64)] 105)],nx:=4 }
abbrev uN:List (Ev.Ex×Lay):=[((.exit 6),PI)]
abbrev Cd:=TL uR.σs->Option (Out uN)
abbrev Cf:=Ld 0 133 (bL [2,0] (bw Tryz.f13)) uR uN
abbrev uV:Lay:={ T:=[(3,.ptr 0 0),(4,.ptr 1 0),(7,.hd 2 .bool),(9,.int .i64)],h:=rX,nx:=3 }
abbrev uP:List (Ev.Ex×Lay):=[((.exit 2),{ T:=[(3,.ptr 0 0),(4,.ptr 1 0),(7,.hd 2 .bool)],h:=rX,nx:=3 })]
abbrev MR:=TL uV.σs->Option (Out uP)
abbrev MT:=Ld 0 133 (bL [1] (bw Tryz.f13)) uV uP
abbrev uW:Lay:={ T:=[(2,.fz .bool),(3,.ptr 0 0),(4,.ptr 1 0),(7,.hd 2 .bool),(8,.int .i64)],h:=rX,nx:=3 }
abbrev uQ:List (Ev.Ex×Lay):=[((.exit 0),{ T:=[(3,.ptr 0 0),(4,.ptr 1 0),(7,.hd 2 .bool)],h:=rX,nx:=3 })]
abbrev MS:=TL uW.σs->Option (Out uQ)
abbrev MU:=Ld 0 133 (bL [0] (bw Tryz.f13)) uW uQ
def vp(t2:List Bool)(t8 aB:Int)(aI:List Int)(aJ:List (Sh.T al))(aL aR aZ:List Int)(aq:List (Sh.T an))(aO:List (Sh.T al))(cz:List Bool)(ca:List (List (Sh.T ar)))(b2:List Bool):Option (TL uW.σs⊕Out uQ):=
 br (iL t8 (Int.ofNat (List.length aI)))
 (
  ak (ah t8 (List.length aI))<|
  ak (ah t8 (List.length t2))<|
  ak (ah (gt (.int .i64) aI t8) (List.length b2))<|
  some (.inl (t2,((IntKind.wrap .i64 (t8+(1:Int))),(aB,(aI,(aJ,(aL,(aR,(aZ,(aq,(aO,(cz,(ca,((List.set b2 (Int.toNat (gt (.int .i64) aI t8)) (gt .bool t2 t8)),())))))))))))))))
 (
  some (.inr (aB,(aI,(aJ,(aL,(aR,(aZ,(aq,(aO,(cz,(ca,(b2,())))))))))))))
def Yk  :MU:=bO (iR vp) (pL k0 e0 1 l0 fun d=>by kernel_rfl)
def Co:MS:=bj (iR vp) NN
def vn(t9 aB:Int)(aI:List Int)(aJ:List (Sh.T al))(aL aR aZ:List Int)(aq:List (Sh.T an))(aO:List (Sh.T al))(cz:List Bool)(ca:List (List (Sh.T ar)))(b2:List Bool):Option (TL uV.σs⊕Out uP):=
 br (iL t9 (Int.ofNat (List.length aJ)))
 (
  ak (ah t9 (List.length aJ))<|
  ak (ah t9 (List.length cz))<|
  ak (ah (gt al aJ t9).1 (List.length b2))<|
  some (.inl ((IntKind.wrap .i64 (t9+(1:Int))),(aB,(aI,(aJ,(aL,(aR,(aZ,(aq,(aO,(cz,(ca,((List.set b2 (Int.toNat (gt al aJ t9).1) (gt .bool cz t9)),()))))))))))))))
 (
  some (.inr (aB,(aI,(aJ,(aL,(aR,(aZ,(aq,(aO,(cz,(ca,(b2,())))))))))))))
def Yj  :MT:=bO (kr vn) (pL k0 e0 1 l0 fun d=>by kernel_rfl)
def Cn:MR:=bj (kr vn) NN
def vd(t10:List (Sh.T aQ))(t12:Int)(t14:List Bool)(t15 aB:Int)(aI:List Int)(aJ:List (Sh.T al))(aL aR aZ:List Int)(aq:List (Sh.T an))(aO:List (Sh.T al))(cz:List Bool)(ca:List (List (Sh.T ar)))(b2:List Bool)(oQ:Bool)(oR ZW:Int)(ZX wB:List Int):Option (TL uR.σs⊕Out uN):=
 br (iL t15 (Int.ofNat (List.length t14)))
 (
  ak (ah t15 (List.length wB))<|
  ak (ah t15 (List.length t14))<|
  ak (ah (gt (.int .i64) wB t15) (List.length b2))<|
  some (.inl (t10,(t12,(t14,((IntKind.wrap .i64 (t15+(1:Int))),(aB,(aI,(aJ,(aL,(aR,(aZ,(aq,(aO,(cz,(ca,((List.set b2 (Int.toNat (gt (.int .i64) wB t15)) (gt .bool t14 t15)),(oQ,(oR,(ZW,(ZX,(wB,()))))))))))))))))))))))
 (
  some (.inr (t10,(t12,(aB,(aI,(aJ,(aL,(aR,(aZ,(aq,(aO,(cz,(ca,(b2,())))))))))))))))
def MK  :Cf:=bO (Hu vd) (pL k0 e0 1 l0 fun d=>by kernel_rfl)
def vc:Cd:=bj (Hu vd) NN
def ve(F0:C4)(F1:Dg)(F2:ri)(F3:jT)(L19:Cd)(t10:List (Sh.T aQ))(t12 aB:Int)(aI:List Int)(aJ:List (Sh.T al))(aL aR aZ:List Int)(aq:List (Sh.T an))(aO:List (Sh.T al))(cz:List Bool)(ca:List (List (Sh.T ar)))(b2:List Bool):Option (TL uS.σs⊕Out uO):=
 br (iL t12 (Int.ofNat (List.length t10)))
 (
  ak (ah t12 (List.length t10))<|
  br (Bool.not (gt aQ t10 t12).1)
  (
   ak (ah (0:Int) (List.length (gt aQ t10 t12).2.2.2.2.1))<|
   ak (ah (0:Int) (List.length (gt aQ t10 t12).2.2.2.1))<|
   az (F3 ((gt (.int .i64) (gt aQ t10 t12).2.2.2.1 (0:Int)),(b2,()))) fun x0=>
   br x0.1
   (
    ak (ah (1:Int) (List.length (gt aQ t10 t12).2.2.2.1))<|
    az (F3 ((gt (.int .i64) (gt aQ t10 t12).2.2.2.1 (1:Int)),(b2,()))) fun x1=>
    ak (ah (gt (.int .i64) (gt aQ t10 t12).2.2.2.2.1 (0:Int)) (List.length b2))<|
    some (.inl (t10,((IntKind.wrap .i64 (t12+(1:Int))),(aB,(aI,(aJ,(aL,(aR,(aZ,(aq,(aO,(cz,(ca,((List.set b2 (Int.toNat (gt (.int .i64) (gt aQ t10 t12).2.2.2.2.1 (0:Int))) (bD true x1.1 false)),())))))))))))))))
   (
    ak (ah (gt (.int .i64) (gt aQ t10 t12).2.2.2.2.1 (0:Int)) (List.length b2))<|
    some (.inl (t10,((IntKind.wrap .i64 (t12+(1:Int))),(aB,(aI,(aJ,(aL,(aR,(aZ,(aq,(aO,(cz,(ca,((List.set b2 (Int.toNat (gt (.int .i64) (gt aQ t10 t12).2.2.2.2.1 (0:Int))) false),()))))))))))))))))
  (
   ak (ah (gt aQ t10 t12).2.1 (List.length ca))<|
   ak (ah (gt aQ t10 t12).2.1 (List.length aq))<|
   az (F2 ((gt aQ t10 t12).2.2.2.1,(b2,()))) fun x0=>
   az (F1 ((gt (.sl ar) ca (gt aQ t10 t12).2.1),(x0.1,()))) fun x1=>
   az (F0 (x1.1,((gt an aq (gt aQ t10 t12).2.1).2.1,()))) fun x2=>
   az (L19 (t10,(t12,(x2.1,((0:Int),(aB,(aI,(aJ,(aL,(aR,(aZ,(aq,(aO,(cz,(ca,(b2,((gt aQ t10 t12).1,((gt aQ t10 t12).2.1,((gt aQ t10 t12).2.2.1,((gt aQ t10 t12).2.2.2.1,((gt aQ t10 t12).2.2.2.2.1,()))))))))))))))))))))) fun x3=>
   some (.inl (x3.1,((IntKind.wrap .i64 (@HAdd.hAdd (Int) (Int) (Int) _ x3.2.1 (1:Int))),x3.2.2)))))
 (
  some (.inr (b2,())))
def Ye(c0:vR)(c1:vV)(c2:oM)(c3:js)(M19:Cf):Cg:=bO (iR (ve c0.F c1.F c2.F c3.F M19.L)) (pL (kD c0 (kD c1 (kD c2 (kD c3 k0)))) e0 1 (sC M19 l0) fun d=>by kernel_rfl)
def Yd:Cg:=Ye C5 Dh rj jU MK
def Ce:MJ:=bj (iR (ve vE vN nf gr vc)) NN
abbrev MQ:List Sh:=[bE,cj,(.sl .bool)]
abbrev Cm:List Sh:=[(.sl .bool)]
abbrev CF:=TL MQ->Option (TL Cm)
abbrev vA:=Kd 13 MQ Cm
def CH(F0:C4)(F1:Dg)(F2:ri)(F3:jT)(F4:NO)(L3:MS)(L7:MR)(L12:MJ)(L19:Cd)(a0:Sh.T bE)(a1:Sh.T cj)(a2:List Bool):Option (TL Cm):=
 ak (both (iE (0:Int) (IntKind.wrap .i64 (@HAdd.hAdd (Int) (Int) (Int) _ a0.1 (1:Int)))) (both (iE (IntKind.wrap .i64 (@HAdd.hAdd (Int) (Int) (Int) _ a0.1 (1:Int))) (IntKind.wrap .i64 (@HAdd.hAdd (Int) (Int) (Int) _ a0.1 (1:Int)))) (iE ((Int.ofNat 1)*(IntKind.wrap .i64 (@HAdd.hAdd (Int) (Int) (Int) _ a0.1 (1:Int)))) (281474976710656:Int))))<|
 az (L3 (a2,((0:Int),(a0.1,(a0.2.1,(a0.2.2.1,(gJ a0,(mE a0,(mF a0,(kq a0,(mG a0,(a1.1,(a1.2.1,((List.replicate (Int.toNat (IntKind.wrap .i64 (@HAdd.hAdd (Int) (Int) (Int) _ a0.1 (1:Int)))) (Sh.zero .bool)),())))))))))))))) fun x0=>
 az (L7 ((0:Int),x0)) fun x1=>
 az (F4 ((x1.1,(x1.2.1,(x1.2.2.1,(gJ x1,(mE x1,(mF x1,(kq x1,(mG x1,())))))))),())) fun x2=>
 az (L12 (x2.1,((0:Int),x1))) fun x3=>
 some (x3.1,())
def Yv(c0:vR)(c1:vV)(c2:oM)(c3:js)(c4:C9)(M3:MU)(M7:MT)(M12:Cg)(M19:Cf):vA:=⟨u3 (CH c0.F c1.F c2.F c3.F c4.F M3.L M7.L M12.L M19.L),pD Tryz.func13 133 (kD c0 (kD c1 (kD c2 (kD c3 (kD c4 k0))))) e0 1 (sS (sC M3 (sC M7 (sC M12 l0)))) fun d=>by kernel_rfl⟩
def CG:vA:=Yv C5 Dh rj jU NP Yk Yj Yd MK
def uI:CF:=CG.F
abbrev vq:Lay:={ T:=[(2,.fz .bool),(3,.ptr 0 0),(4,.ptr 1 0),(6,.ptr 2 0),(7,.ptr 3 0),(9,.int .i64)],h:=Eu,nx:=6 }
abbrev vf:List (Ev.Ex×Lay):=[((.exit 2),{ T:=[(6,.ptr 0 0),(7,.ptr 1 0)],h:=[(0,.cells [.av,.av] 31),(1,.cells [.hd 2 .bool,.hd 3 (.sl ar)] 31),(2,.arr .bool 4),(3,.arr (.sl ar) 82)],nx:=4 })]
abbrev Nz:=TL vq.σs->Option (Out vf)
abbrev CW:=Ld 0 86 (bL [1] (bw Tryz.f14)) vq vf
abbrev vh:Lay:={ T:=[(2,.fz .bool),(3,.ptr 0 0),(4,.ptr 1 0),(6,.ptr 2 0),(7,.ptr 3 0),(9,.int .i64),(10,.fz ar),(11,.int .i64)],h:=Eu,nx:=6 }
abbrev uX:List (Ev.Ex×Lay):=[((.exit 4),{ T:=[(2,.fz .bool),(3,.ptr 0 0),(4,.ptr 1 0),(6,.ptr 2 0),(7,.ptr 3 0),(9,.int .i64),(10,.fz ar)],h:=Eu,nx:=6 })]
abbrev CI:=TL vh.σs->Option (Out uX)
abbrev vB:=Ld 0 86 (bL [1,0] (bw Tryz.f14)) vh uX
abbrev vr:Lay:={ T:=[(2,.fz .bool),(3,.ptr 0 0),(4,.ptr 1 0),(6,.ptr 2 0),(7,.ptr 3 0),(8,.int .i64)],h:=PH,nx:=5 }
abbrev vg:List (Ev.Ex×Lay):=[((.exit 0),{ T:=[(2,.fz .bool),(3,.ptr 0 0),(4,.ptr 1 0),(6,.ptr 2 0),(7,.ptr 3 0)],h:=PH,nx:=5 })]
abbrev NA:=TL vr.σs->Option (Out vg)
abbrev CX:=Ld 0 86 (bL [0] (bw Tryz.f14)) vr vg
def vL(F2:jT)(t2:List Bool)(t8 aB:Int)(aI:List Int)(aJ:List (Sh.T al))(aL aR aZ:List Int)(aq:List (Sh.T an))(aO:List (Sh.T al))(cz:List Bool)(ca:List (List (Sh.T ar)))(b4:List Bool):Option (TL vr.σs⊕Out vg):=
 br (iL t8 (Int.ofNat (List.length aJ)))
 (
  ak (ah t8 (List.length aJ))<|
  az (F2 ((gt al aJ t8).2.1,(t2,()))) fun x0=>
  ak (room 1 (List.length (ap b4 (x0.1::[]))))<|
  some (.inl (t2,((IntKind.wrap .i64 (t8+(1:Int))),(aB,(aI,(aJ,(aL,(aR,(aZ,(aq,(aO,(cz,(ca,((ap b4 (x0.1::[])),())))))))))))))))
 (
  some (.inr (t2,(aB,(aI,(aJ,(aL,(aR,(aZ,(aq,(aO,(cz,(ca,(b4,()))))))))))))))
def YL(c2:js) :CX:=bO (iR (vL c2.F)) (pL (kD c2 k0) e0 1 l0 fun d=>by kernel_rfl)
def YJ:CX:=YL jU
def NC:NA:=bj (iR (vL gr)) NN
def vC(F0:CY)(F1:ri)(F2:jT)(t2:List Bool)(t9:Int)(t10:List (Sh.T ar))(t11 aB:Int)(aI:List Int)(aJ:List (Sh.T al))(aL aR aZ:List Int)(aq:List (Sh.T an))(aO:List (Sh.T al))(cz:List Bool)(ca:List (List (Sh.T ar)))(b4:List Bool)(b5:List (List (Sh.T ar))):Option (TL vh.σs⊕Out uX):=
 ak (ah t9 (List.length aq))<|
 br (iL t11 (Int.ofNat (List.length (gt an aq t9).2.2.2.2.1)))
 (
  ak (ah t9 (List.length aq))<|
  ak (ah t11 (List.length (gt an aq t9).2.2.2.2.1))<|
  az (F2 ((gt bU (gt an aq t9).2.2.2.2.1 t11).1,(t2,()))) fun x0=>
  br x0.1
  (
   az (F1 ((gt bU (gt an aq t9).2.2.2.2.1 t11).2.1,(t2,()))) fun x1=>
   az (F1 ((gt bU (gt an aq t9).2.2.2.2.1 t11).2.2.1,(t2,()))) fun x2=>
   az (F0 (t10,(x1.1,(x2.1,())))) fun x3=>
   some (.inl (t2,(t9,(x3.1,((IntKind.wrap .i64 (t11+(1:Int))),(aB,(aI,(aJ,(aL,(aR,(aZ,(aq,(aO,(cz,(ca,(b4,(b5,()))))))))))))))))))
  (
   some (.inl (t2,(t9,(t10,((IntKind.wrap .i64 (t11+(1:Int))),(aB,(aI,(aJ,(aL,(aR,(aZ,(aq,(aO,(cz,(ca,(b4,(b5,())))))))))))))))))))
 (
  some (.inr (t2,(t9,(t10,(aB,(aI,(aJ,(aL,(aR,(aZ,(aq,(aO,(cz,(ca,(b4,(b5,())))))))))))))))))
def Yw(c0:vM)(c1:oM)(c2:js) :vB:=bO (u16 (vC c0.F c1.F c2.F)) (pL (kD c0 (kD c1 (kD c2 k0))) e0 1 l0 fun d=>by kernel_rfl)
def Ng:vB:=Yw CZ rj jU
def CJ:CI:=bj (u16 (vC Nj nf gr)) NN
def vK(L11:CI)(t2:List Bool)(t9 aB:Int)(aI:List Int)(aJ:List (Sh.T al))(aL aR aZ:List Int)(aq:List (Sh.T an))(aO:List (Sh.T al))(cz:List Bool)(ca:List (List (Sh.T ar)))(b4:List Bool)(b5:List (List (Sh.T ar))):Option (TL vq.σs⊕Out vf):=
 br (iL t9 (Int.ofNat (List.length aq)))
 (
  ak (ah t9 (List.length ca))<|
  az (L11 (t2,(t9,((gt (.sl ar) ca t9),((0:Int),(aB,(aI,(aJ,(aL,(aR,(aZ,(aq,(aO,(cz,(ca,(b4,(b5,()))))))))))))))))) fun x0=>
  ak (room 24 (List.length (ap (Ei x0).2.2.1 (x0.2.2.1::[]))))<|
  some (.inl (x0.1,((IntKind.wrap .i64 (@HAdd.hAdd (Int) (Int) (Int) _ x0.2.1 (1:Int))),(gJ x0,(mE x0,(mF x0,(kq x0,(mG x0,(ze x0,(zf x0,(l6 x0,(k7 x0,(Z2 x0,((Ei x0).2.1,((ap (Ei x0).2.2.1 (x0.2.2.1::[])),()))))))))))))))))
 (
  some (.inr (b4,(b5,()))))
def YK(M11:vB):CW:=bO (ji (vK M11.L)) (pL k0 e0 1 (sC M11 l0) fun d=>by kernel_rfl)
def YI:CW:=YK  Ng
def NB:Nz:=bj (ji (vK CJ)) NN
abbrev Ny:List Sh:=[bE,cj,(.sl .bool)]
abbrev CV:List Sh:=[cj]
abbrev De:=TL Ny->Option (TL CV)
abbrev vU:=Kd 14 Ny CV
def YY(F0:CY)(F1:ri)(F2:jT)(L3:NA)(L7:Nz)(L11:CI)(a0:Sh.T bE)(a1:Sh.T cj)(a2:List Bool):Option (TL CV):=
 az (L3 (a2,((0:Int),(a0.1,(a0.2.1,(a0.2.2.1,(gJ a0,(mE a0,(mF a0,(kq a0,(mG a0,(a1.1,(a1.2.1,([],())))))))))))))) fun x0=>
 az (L7 (x0.1,((0:Int),(x0.2.1,(x0.2.2.1,(gJ x0,(mE x0,(mF x0,(kq x0,(mG x0,(ze x0,(zf x0,(l6 x0,(k7 x0,([],()))))))))))))))) fun x1=>
 some (x1,())
def YX(c0:vM)(c1:oM)(c2:js)(M3:CX)(M7:CW)(M11:vB):vU:=⟨u3 (YY c0.F c1.F c2.F M3.L M7.L M11.L),pD Tryz.func14 86 (kD c0 (kD c1 (kD c2 k0))) e0 1 (sS (sC M3 (sC M7 l0))) fun d=>by kernel_rfl⟩
def Df:vU:=YX CZ rj jU YJ YI Ng
def BO:De:=Df.F
open Go.Proofs.YtdcnjfbffckblaaGreat.Pl
def eB(v:List Bool)(l:List (Int×Bool)):List Bool:=l.foldl (fun v p=>v.set p.1.toNat p.2) v
theorem kP:∀(l:List (Int×Bool)) (v:List Bool),(eB v l).length=v.length
 |[],v=>rfl|p::l,v=>by show(eB (v.set p.1.toNat p.2) l).length=_;rw[kP l,List.length_set]
theorem Dz(v:List Bool)(l:List (Int×Bool))(p:Int×Bool):eB v (l++[p])=(eB v l).set p.1.toNat p.2:=by unfold eB;rw[List.foldl_append];rfl
def k9(n:aG)(ls ins:List Bool):List Bool:=eB (eB (List.replicate (n.vars.toNat+1) false) (n.aU.zip ins)) ((n.af.map (·.var)).zip ls)
def fy(n:aG)(cs:List (List aV))(v:List Bool)(x:bq×bl):List Bool:=
 if x.1.rd=false then v.set (x.2.to.headD 0).toNat (bo (x.2.aF.getD 0 0) v&&bo (x.2.aF.getD 1 0) v)
 else eB v (x.2.to.zip (ib (rd (cs.getD x.1.mem []) (cH (x.2.aF.map (bo · v)))).toNat x.2.to.length))
theorem Zp(n:aG)(cs:List (List aV))(v:List Bool)(x:bq×bl):(fy n cs v x).length=v.length:=by
 unfold fy;split
 .rw[List.length_set]
 .rw[kP]
def iG(n:aG)(ls:List Bool)(cs:List (List aV))(ins:List Bool):List Bool:=(dF n n.vars.toNat).foldl (fy n cs) (k9 n ls ins)
theorem Dw(n:aG)(cs:List (List aV)):∀(l:List (bq×bl)) (v:List Bool),(l.foldl (fy n cs) v).length=v.length
 |[],v=>rfl|x::l,v=>by rw[List.foldl_cons,Dw n cs l,Zp]
theorem N8(n:aG)(ls ins:List Bool):(k9 n ls ins).length=n.vars.toNat+1:=by unfold k9;rw[kP,kP,List.length_replicate]
theorem SF(n:aG)(ls:List Bool)(cs:List (List aV))(ins:List Bool):(iG n ls cs ins).length=n.vars.toNat+1:=by unfold iG;rw[Dw,N8]
structure kQ(m:cr)(k:Nat)(c:List aV):Prop where
 zg:nE c
 len:c.length<=k
 at_:∀p∈c,0<=p.1/\p.1<2^m.addr.toNat
 wd:∀p∈c,0<p.2.1/\p.2.1<2^m.word.toNat
structure iB(n:aG)(k:Nat)(ls:List Bool)(cs:List (List aV)):Prop where
 za:ls.length=n.af.length
 oo:cs.length=n.aa.length
 ok:∀(i:Nat) (m:cr) (c:List aV),n.aa[i]?=some m->cs[i]?=some c->kQ m k c
theorem UY(c:List aV)(a:Int):rd c a=0\/∃p∈c,rd c a=p.2.1:=by
 induction c with
 |nil=>exact .inl rfl|cons p c ih=>
  rw[OT];by_cases q:p.1=a
  .rw[if_pos q];exact .inr ⟨p,by simp,rfl⟩
  .rw[if_neg q];rcases ih with h|⟨r,hr,h⟩
   .exact .inl h
   .exact .inr ⟨r,by simp[hr],h⟩
theorem UZ{m:cr}{k:Nat}{c:List aV}(h:kQ m k c)(hw:m.word<=64)(a:Int):0<=rd c a/\rd c a<18446744073709551616:=by
 rcases UY c a with e|⟨p,hp,e⟩
 .omega
 .have:=h.wd p hp;have h2:(2:Int)^m.word.toNat<=2^64:=by
   have:=Nat.pow_le_pow_right (n:=2) (by decide) (show m.word.toNat<=64 by omega)
   exact_mod_cast this
  have h3:(2:Int)^64=18446744073709551616:=by decide
  omega
theorem DW{n:aG}{V:Nat}{x:bq×bl}(h:x∈dF n V):x∈n6 n:=by unfold dF at h;obtain⟨i,_,hx⟩:=List.mem_flatMap.1 h;exact(List.mem_filter.1 hx).1
theorem Zz{n:aG}{V:Nat}(hs:cL n V):(dF n V).length<=9000000:=by have h:=(oJ hs).len;unfold dF;have:=uq (fun(i:Nat)=>(n6 n).filter fun x=>decide (lk (lvl n V) x.2=(i:Int)+1)) (List.range (n6 n).length) 3000 (fun i _=>Nat.le_trans (List.length_filter_le _ _) h);rw[List.length_range]at this;have h2:(n6 n).length*3000<=3000*3000:=Nat.mul_le_mul_right _ h;omega
section
variable{n:aG}{V:Nat}(hs:cL n V)(ft:Fit n)
include hs
theorem VG(ls ins:List Bool)(cs:List (List aV))(v:List Bool)(hv:v.length=V+1)(hi:ins.length=n.aU.length) :
  Co (ins,((0:Int),nt n (ls,(cs,(v,())))))=some (nt n (ls,(cs,(eB v (n.aU.zip ins),())))):=by
 have hl:=hs.lens.1;have hz:(n.aU.zip ins).length=n.aU.length:=by rw[List.length_zip];omega
 unfold Co;delta iR;refine dg (fun k:Nat=>(ins,((k:Int),nt n (ls,(cs,(eB v ((n.aU.zip ins).take k),())))))) n.aU.length rfl ?_ ?_ (bM (by omega))
 .intro k hk;have h1:=bu hk;have h2:=List.getElem?_eq_getElem (l:=ins) (i:=k) (by omega);have h3:(n.aU.zip ins)[k]?=some (n.aU[k],ins[k]):=by rw[List.getElem?_zip_eq_some];exact⟨h1,h2⟩
  have hr:=hs.jN n.aU[k] (by unfold bV;simp);have e:∀(a b:List Bool) (p q:Int),a=b->p=q->(some (.inl (ins,(p,nt n (ls,(cs,(a,())))))):Option (TL uW.σs⊕Out uQ))=some (.inl (ins,(q,nt n (ls,(cs,(b,())))))):=by rintro _ _ _ _ rfl rfl;rfl
  unfold nt
  try dsimp only
  unfold vp;have g1:gt (.int .i64) n.aU (k:Int)=n.aU[k]:=bn (σ:=.int .i64) h1;refine ao (ax (show(k:Int)<(n.aU.length:Int) by omega)) (ai (aP ⟨by omega,by omega⟩) (ai (aP ⟨by omega,by omega⟩) (ai ?_ (e _ _ _ _ ?_ (dD (by omega) (by omega))))))
  .rw[g1];exact aP ⟨by omega,by rw[kP,hv];omega⟩
  .rw[Pl.cN h3,Dz,g1];have g2:gt .bool ins (k:Int)=ins[k]:=bn (σ:=.bool) h2;rw[g2];rfl
 .unfold nt
  try dsimp only
  unfold vp;rw[<-hz,dC,hz];exact ag (aj (show ¬(n.aU.length:Int)<(n.aU.length:Int) by omega)) rfl
theorem VH(ls:List Bool)(cs:List (List aV))(v:List Bool)(hv:v.length=V+1)(hi:ls.length=n.af.length) :
  Cn ((0:Int),nt n (ls,(cs,(v,()))))=some (nt n (ls,(cs,(eB v ((n.af.map (·.var)).zip ls),())))):=by
 have hl:=hs.lens.2.1;have hz:((n.af.map (·.var)).zip ls).length=n.af.length:=by rw[List.length_zip,aK];omega
 unfold Cn;delta kr;refine dg (fun k:Nat=>((k:Int),nt n (ls,(cs,(eB v (((n.af.map (·.var)).zip ls).take k),()))))) n.af.length rfl ?_ ?_ (bM (by omega))
 .intro k hk;have h1:=bu hk;have h1':(n.af.map bP)[k]?=some (bP n.af[k]):=by rw[bT,h1];rfl
  have h2:=List.getElem?_eq_getElem (l:=ls) (i:=k) (by omega);have h3:((n.af.map (·.var)).zip ls)[k]?=some (n.af[k].var,ls[k]):=by rw[List.getElem?_zip_eq_some,bT,h1];exact⟨rfl,h2⟩
  have hr:=hs.jN n.af[k].var (by unfold bV;simp only[List.mem_append];exact .inl (.inl (.inr (List.mem_map.2 ⟨_,List.getElem_mem hk,rfl⟩))));have e:∀(a b:List Bool) (p q:Int),a=b->p=q->(some (.inl (p,nt n (ls,(cs,(a,()))))):Option (TL uV.σs⊕Out uP))=some (.inl (q,nt n (ls,(cs,(b,()))))):=by rintro _ _ _ _ rfl rfl;rfl
  have hL:((n.af.map bP).length:Int)=(n.af.length:Int):=by rw[aK]
  unfold nt
  try dsimp only
  unfold vn;have g1:(gt al (n.af.map bP) (k:Int)).1=n.af[k].var:=by rw[bn (σ:=al) h1'];rfl
  refine ao (ax (show(k:Int)<((n.af.map bP).length:Int) by omega)) (ai (aP ⟨by omega,by omega⟩) (ai (aP ⟨by omega,by omega⟩) (ai ?_ (e _ _ _ _ ?_ (dD (by omega) (by omega))))))
  .rw[g1];exact aP ⟨by omega,by rw[kP,hv];omega⟩
  .rw[Pl.cN h3,Dz,g1];have g2:gt .bool ls (k:Int)=ls[k]:=bn (σ:=.bool) h2;rw[g2];rfl
 .have hL:((n.af.map bP).length:Int)=(n.af.length:Int):=by rw[aK]
  unfold nt
  try dsimp only
  unfold vn;rw[<-hz,dC,hz];exact ag (aj (show ¬(n.af.length:Int)<((n.af.map bP).length:Int) by omega)) rfl
theorem U3(ord:List aQ.T)(i:Int)(bs:List Bool)(ls:List Bool)(cs:List (List aV))(v:List Bool)(hv:v.length=V+1){x:bq×bl}(hx:x∈n6 n)(hb:bs.length=x.2.to.length) :
  vc (ord,(i,(bs,((0:Int),nt n (ls,(cs,(v,aY x)))))))=some (ord,(i,nt n (ls,(cs,(eB v (x.2.to.zip bs),()))))):=by
 have h6:=oJ hs;obtain⟨ht1,ht2⟩:=h6.to x hx;have hz:(x.2.to.zip bs).length=x.2.to.length:=by rw[List.length_zip];omega
 have hm:x.2∈eh n:=by rw[<-nh];exact List.mem_map_of_mem hx
 unfold vc;delta Hu;refine dg (fun k:Nat=>(ord,(i,(bs,((k:Int),nt n (ls,(cs,(eB v ((x.2.to.zip bs).take k),aY x)))))))) x.2.to.length rfl ?_ ?_ (bM (by omega))
 .intro k hk;have h1:=bu hk;have h2:=List.getElem?_eq_getElem (l:=bs) (i:=k) (by omega);have h3:(x.2.to.zip bs)[k]?=some (x.2.to[k],bs[k]):=by rw[List.getElem?_zip_eq_some];exact⟨h1,h2⟩
  have hr:=hs.lN hm (v:=x.2.to[k]) (List.getElem_mem hk);have e:∀(a b:List Bool) (p q:Int),a=b->p=q->(some (.inl (ord,(i,(bs,(p,nt n (ls,(cs,(a,aY x)))))))):Option (TL uR.σs⊕Out uN))=some (.inl (ord,(i,(bs,(q,nt n (ls,(cs,(b,aY x)))))))):=by rintro _ _ _ _ rfl rfl;rfl
  unfold nt
  try dsimp only
  unfold vd;have g1:gt (.int .i64) x.2.to (k:Int)=x.2.to[k]:=bn (σ:=.int .i64) h1;have c1:ah (gt (.int .i64) x.2.to (k:Int)) (List.length (eB v ((x.2.to.zip bs).take k)))=true:=by rw[g1];exact aP ⟨by omega,by rw[kP,hv];omega⟩
  refine ao (ax (show(k:Int)<(bs.length:Int) by omega)) (ai (aP ⟨by omega,show(k:Int)<(x.2.to.length:Int) by omega⟩) (ai (aP ⟨by omega,by omega⟩) (ai c1 (e _ _ _ _ ?_ (dD (by omega) (by omega))))));rw[Pl.cN h3,Dz];have g2:gt .bool bs (k:Int)=bs[k]:=bn (σ:=.bool) h2;have ee:∀(a b:Int) (c d:Bool) (w:List Bool),a=b->c=d->List.set w (Int.toNat a) c=List.set w (Int.toNat b) d:=by rintro _ _ _ _ _ rfl rfl;rfl
  exact ee _ _ _ _ _ g1 g2
 .unfold nt
  try dsimp only
  unfold vd;rw[<-hz,dC,hz];exact ag (aj (show ¬(x.2.to.length:Int)<(bs.length:Int) by omega)) rfl
include ft
theorem U2{K:Nat}(hK:K<=5000)(ls:List Bool)(cs:List (List aV))(ok:iB n K ls cs)(v:List Bool)(hv:v.length=V+1) :
  Ce ((dF n V).map aY,((0:Int),nt n (ls,(cs,(v,())))))=some ((dF n V).foldl (fy n cs) v,()):=by
 have hol:=Zz hs;have h6:=oJ hs;unfold Ce;delta iR;refine dg (fun k:Nat=>((dF n V).map aY,((k:Int),nt n (ls,(cs,(((dF n V).take k).foldl (fy n cs) v,())))))) (dF n V).length rfl ?_ ?_ (bM (by omega))
 .intro k hk;have hx:=bu hk;have hm:=DW (List.getElem_mem hk);have hst:((dF n V).take (k+1)).foldl (fy n cs) v=fy n cs (((dF n V).take k).foldl (fy n cs) v) (dF n V)[k]:=by rw[Pl.cN hx,List.foldl_append];rfl
  have hlen:(((dF n V).take k).foldl (fy n cs) v).length=V+1:=by rw[Dw,hv]
  generalize ((dF n V).take k).foldl (fy n cs) v=u at hst hlen;have hx':((dF n V).map aY)[k]?=some (aY (dF n V)[k]):=by rw[bT,hx];rfl
  generalize (dF n V)[k]=x at hx' hm hst;have hi:=dR hx';have his:=JB n hm;have hmI:x.2∈eh n:=by rw[<-nh];exact List.mem_map_of_mem hm
  have hg:gt aQ ((dF n V).map aY) (k:Int)=aY x:=bn (σ:=aQ) hx';have ba:ah (k:Int) (List.length ((dF n V).map aY))=true:=aP ⟨by omega,by omega⟩;have e:∀(a b:List Bool) (p q:Int),a=b->p=q->(some (.inl ((dF n V).map aY,(p,nt n (ls,(cs,(a,())))))):Option (TL uS.σs⊕Out uO))=some (.inl ((dF n V).map aY,(q,nt n (ls,(cs,(b,())))))):=by rintro _ _ _ _ rfl rfl;rfl
  have hk1:IntKind.wrap .i64 ((k:Int)+(1:Int))=((k+1:Nat):Int):=dD (by omega) (by omega);rw[hst];unfold nt
  try dsimp only
  unfold ve;rw[hg];refine ao (ax (show(k:Int)<((((dF n V).map aY).length:Nat):Int) by omega)) (ai ba ?_);have hf:=h6.aF x hm;rcases his with⟨h,a,ha,hI⟩|⟨h,M,r,hM,hr,hI⟩
  .-- a gate
   have dT:x.2.to=[a.var]:=by rw[hI];rfl
   have hfr:x.2.aF=[a.a,a.b]:=by rw[hI];rfl
   have ra:=hf.2 a.a (by rw[hfr];simp);have rb:=hf.2 a.b (by rw[hfr];simp);have rv:=hs.lN hmI (v:=a.var) (by rw[dT];simp);have hv2:=hs.v2;refine ao (show Bool.not x.1.rd=true by rw[h];rfl) (ai (show ah (0:Int) (List.length x.2.to)=true by rw[dT];rfl) (ai (show ah (0:Int) (List.length x.2.aF)=true by rw[hfr];rfl) ?_));have g0:gt (.int .i64) x.2.aF (0:Int)=a.a:=bn (σ:=.int .i64) (i:=0) (by rw[hfr];rfl);have g1:gt (.int .i64) x.2.aF (1:Int)=a.b:=bn (σ:=.int .i64) (i:=1) (by rw[hfr];rfl);have gt0:gt (.int .i64) x.2.to (0:Int)=a.var:=bn (σ:=.int .i64) (i:=0) (by rw[dT];rfl);have e0:gr (gt (.int .i64) x.2.aF (0:Int),(u,()))=some (bo a.a u,()):=by rw[g0];exact ng _ _ (by omega)
   have e1:gr (gt (.int .i64) x.2.aF (1:Int),(u,()))=some (bo a.b u,()):=by rw[g1];exact ng _ _ (by omega)
   have iv:ah (gt (.int .i64) x.2.to (0:Int)) (List.length u)=true:=by rw[gt0];exact aP ⟨by omega,by omega⟩
   have hn:fy n cs u x=u.set a.var.toNat (bo a.a u&&bo a.b u):=by unfold fy;rw[if_pos h,dT,hfr];rfl
   have ee:∀(p q:Int) (c d:Bool),p=q->c=d->List.set u (Int.toNat p) c=List.set u (Int.toNat q) d:=by rintro _ _ _ _ rfl rfl;rfl
   refine aE e0 ?_;cases hA:bo a.a u with
   |true=>refine ao rfl (ai (show ah (1:Int) (List.length x.2.aF)=true by rw[hfr];rfl) (aE e1 (ai iv (e _ _ _ _ ?_ hk1))));rw[hn,hA];exact ee _ _ _ _ gt0 (by cases bo a.b u<;>rfl)
   |false=>refine ag rfl (ai iv (e _ _ _ _ ?_ hk1));rw[hn,hA];exact ee _ _ _ _ gt0 rfl
  .-- a port
   have hMm:=cK hM;obtain⟨hm1,hm2,hm3,hm4,hm5,hm6,_⟩:=hs.aa M hMm;have hrm:=cK hr;have dT:x.2.to=cu r.var M.word.toNat:=by rw[hI];rfl
   have hfr:x.2.aF=r.addr:=by rw[hI];rfl
   have hfl:=hm5 r hrm;have hml:=dR hM;have hcs:=ok.oo;have hcc:=List.getElem?_eq_getElem (l:=cs) (i:=x.1.mem) (by omega);have hcok:=ok.ok x.1.mem M cs[x.1.mem] hM hcc;have hM':(n.aa.map bh)[x.1.mem]?=some (bh M):=by rw[bT,hM];rfl
   have gM:(gt an (n.aa.map bh) (x.1.mem:Int)).2.1=M.word:=by rw[bn (σ:=an) hM'];rfl
   have gC:gt (.sl ar) cs (x.1.mem:Int)=cs[x.1.mem]:=bn (σ:=.sl ar) hcc;obtain⟨W,hW⟩:=Int.eq_ofNat_of_zero_le (show 0<=M.word by omega);have htl:x.2.to.length=W:=by rw[dT,sH,hW];rfl
   have e2:nf (x.2.aF,(u,()))=some ((cH (x.2.aF.map (bo · u)):Int),()):=DK _ _ (by rw[hfr];omega) (fun l hl=>by have:=hf.2 l hl;have:=hs.v2;omega);have e1:vN (gt (.sl ar) cs (x.1.mem:Int),((cH (x.2.aF.map (bo · u)):Int),()))=some (rd cs[x.1.mem] (cH (x.2.aF.map (bo · u))),()):=by rw[gC];exact ZM _ _ (by have:=hcok.len;omega)
   have hrr:=UZ hcok (by omega) (cH (x.2.aF.map (bo · u)));obtain⟨q,hq⟩:=Int.eq_ofNat_of_zero_le hrr.1;have e0:vE (rd cs[x.1.mem] (cH (x.2.aF.map (bo · u))),((gt an (n.aa.map bh) (x.1.mem:Int)).2.1,()))=some (ib q W,()):=by rw[gM,hq,hW];exact ZH q W (by omega) (by omega)
   have e19:=U3 hs ((dF n V).map aY) (k:Int) (ib q W) ls cs u hlen hm (by rw[MI,htl]);have hn:fy n cs u x=eB u (x.2.to.zip (ib q W)):=by unfold fy;rw[if_neg (by rw[h];simp),dP,hcc,htl];show eB u (x.2.to.zip (ib (rd cs[x.1.mem] _).toNat W))=_;rw[hq];rfl
   rw[hn];refine ag (show Bool.not x.1.rd=false by rw[h];rfl) (ai (show ah (x.1.mem:Int) (List.length cs)=true from aP ⟨by omega,by omega⟩) (ai (show ah (x.1.mem:Int) (List.length (n.aa.map bh))=true from aP ⟨by omega,by rw[aK];omega⟩) (aE e2 (aE e1 (aE e0 (aE e19 (e _ _ _ _ rfl hk1)))))))
 .unfold nt
  try dsimp only
  unfold ve;rw[dC];exact ag (aj (show ¬((dF n V).length:Int)<((((dF n V).map aY).length:Nat):Int) by rw[aK];omega)) rfl
theorem Zr(h0:ed n=0)(ha:eP (bb n) V=true){K:Nat}(hK:K<=5000)(ls ins:List Bool)(cs:List (List aV))(ok:iB n K ls cs)(hi:ins.length=n.aU.length) :
  uI (cP n,((ls,(cs,())),(ins,())))=some (iG n ls cs ins,()):=by
 have hv2:=hs.v2;have hV:n.vars.toNat=V:=by rw[hs.vars];rfl
 have hw:IntKind.wrap (.i64:IntKind) (n.vars+1)=((V+1:Nat):Int):=by rw[hs.vars,bR (by omega)];omega
 have e3:=VG hs ls ins cs (List.replicate (V+1) false) (by simp) hi;have e7:=VH hs ls cs (eB (List.replicate (V+1) false) (n.aU.zip ins)) (by rw[kP];simp) ok.za;have hval:eB (eB (List.replicate (V+1) false) (n.aU.zip ins)) ((n.af.map (·.var)).zip ls)=k9 n ls ins:=by unfold k9;rw[hV]
 rw[hval]at e7;have e12:=U2 hs ft hK ls cs ok (k9 n ls ins) (by rw[N8,hV]);have e4:=Zd hs ft h0;rw[if_pos ha]at e4;have hfin:(dF n V).foldl (fy n cs) (k9 n ls ins)=iG n ls cs ins:=by unfold iG;rw[hV]
 rw[hfin]at e12;show CH vE vN nf gr Nu Co Cn Ce vc (cP n) (ls,(cs,())) ins=_;unfold CH;have hw':IntKind.wrap (.i64:IntKind) (@HAdd.hAdd Int Int Int _ (cP n).1 (1:Int))=((V+1:Nat):Int):=hw;rw[hw'];refine ai (by show both (decide _) (both (decide _) (decide _))=true;rw[bF (by omega),bF (by omega),bF (by show(1:Int)*_<=_;omega)];rfl) (aE e3 (aE e7 (aE e4 (aE e12 rfl))))
end
def im(v:List Bool)(c:List aV)(w:il):List aV:=if bo w.on v=true then wr c (cH (w.addr.map (bo · v))) (cH (w.data.map (bo · v)))else c
def oK(v:List Bool)(m:cr)(c:List aV):List aV:=m.writes.foldl (im v) c
def jo(n:aG)(v:List Bool):List Bool:=n.af.map fun l=>bo l.next v
def gq(n:aG)(cs:List (List aV))(v:List Bool):List (List aV):=List.zipWith (oK v) n.aa cs
theorem OQ{a:Int}{q:aV}:∀{L:List aV},q∈ju a L->q∈L
 |[],h=>h|p::M,h=>by
  rw[rA]at h;split at h
  .simp[h]
  .rcases List.mem_cons.1 h with h|h
   .simp[h]
   .simp[OQ h]
theorem OP{a w:Int}{q:aV}:∀{L:List aV},q∈ic a w L->q=(a,w,())\/q∈L
 |[],h=>by have:q∈[((a,w,()):aV)]:=h;simp at this;exact .inl this|p::M,h=>by
  rw[oO]at h;split at h
  .rcases List.mem_cons.1 h with h|h
   .exact .inl h
   .exact .inr h
  .split at h
   .rcases List.mem_cons.1 h with h|h
    .exact .inl h
    .exact .inr (by simp[h])
   .rcases List.mem_cons.1 h with h|h
    .exact .inr (by simp[h])
    .rcases OP h with h|h
     .exact .inl h
     .exact .inr (by simp[h])
theorem Jo{a w:Int}{q:aV}{L:List aV}(h:q∈wr L a w):(w≠0/\q=(a,w,()))\/q∈L:=by
 unfold wr at h;split at h
 .exact .inr (OQ h)
 .rename_i h0;rcases OP h with h|h
  .exact .inl ⟨h0,h⟩
  .exact .inr h
theorem Ob{l:List Bool}{k:Int}(h:(l.length:Int)=k):((cH l:Nat):Int)<2^k.toNat:=by
 have e:k.toNat=l.length:=by omega
 have:=DP l;rw[e]
 exact_mod_cast this
theorem U9{m:cr}{k:Nat}{c:List aV}{v:List Bool}{w:il}(h:kQ m k c)(ha:(w.addr.length:Int)=m.addr)(hd:(w.data.length:Int)=m.word):kQ m (k+1) (im v c w):=by
 unfold im;split
 .refine⟨Vb h.zg,Nat.le_trans (Va _ _ _) (by have:=h.len;omega),fun p hp=>?_,fun p hp=>?_⟩
  .rcases Jo hp with⟨h0,rfl⟩|hp
   .exact⟨by show(0:Int)<=((cH _:Nat):Int);omega,Ob (by rw[aK];exact ha)⟩
   .exact h.at_ p hp
  .rcases Jo hp with⟨h0,rfl⟩|hp
   .exact⟨by show(0:Int)<((cH _:Nat):Int);omega,Ob (by rw[aK];exact hd)⟩
   .exact h.wd p hp
 .exact⟨h.zg,by have:=h.len;omega,h.at_,h.wd⟩
theorem DQ{m:cr}{v:List Bool}:∀{l:List il}{k:Nat}{c:List aV},kQ m k c->(∀w∈l,(w.addr.length:Int)=m.addr/\(w.data.length:Int)=m.word)->kQ m (k+l.length) (l.foldl (im v) c)
 |[],k,c,h,_=>h|w::l,k,c,h,hw=>by have:=DQ (v:=v) (l:=l) (U9 (v:=v) h (hw w (by simp)).1 (hw w (by simp)).2) (fun x hx=>hw x (by simp[hx]));rw[List.foldl_cons,cx];rw[show k+1+l.length=k+(l.length+1) by omega]at this;exact this
theorem ZN{n:aG}{V:Nat}(hs:cL n V){K:Nat}{ls:List Bool}{cs:List (List aV)}(ok:iB n K ls cs)(v:List Bool):iB n (K+4) (jo n v) (gq n cs v):=by
 refine⟨by unfold jo;rw[aK],by unfold gq;rw[List.length_zipWith];have:=ok.oo;omega,fun i m c hm hc=>?_⟩;unfold gq at hc;rw[List.getElem?_zipWith,hm]at hc;have hlt:=dR hm;have hlc:i<cs.length:=by have:=ok.oo;omega
 have h2:=bu hlc;rw[h2]at hc;injection hc with hc;obtain⟨_,_,_,_,_,h6,_,h8⟩:=hs.aa m (cK hm);have:=DQ (v:=v) (ok.ok i m cs[i] hm h2) h6;rw[<-hc];exact⟨this.zg,by have:=this.len;unfold oK;omega,this.at_,this.wd⟩
section
variable{n:aG}{V:Nat}(hs:cL n V)
include hs
theorem wh{l:Int}(h:l∈cW n):l<9223372036854775808:=by have:=hs.lits l h;have:=hs.v2;omega
theorem Ug(P:List (List aV))(z:List aV)(h:P.length<=10000000):room 24 (List.length (P++(z::[])))=true:=by rw[bA,cx,List.length_nil];exact mX (by omega) (by omega)
theorem Ti(ls:List Bool)(cs:List (List aV))(v:List Bool) :
  NC (v,((0:Int),nt n (ls,(cs,([],())))))=some (v,nt n (ls,(cs,(jo n v,())))):=by
 have hl:=hs.lens.2.1;unfold NC;delta iR;refine dg (fun k:Nat=>(v,((k:Int),nt n (ls,(cs,((n.af.take k).map (fun l=>bo l.next v),())))))) n.af.length rfl ?_ ?_ (bM (by omega))
 .intro k hk;have hx:=bu hk;have hx':(n.af.map bP)[k]?=some (bP n.af[k]):=by rw[bT,hx];rfl
  have hL:((n.af.map bP).length:Int)=(n.af.length:Int):=by rw[aK]
  have hm:n.af[k].next∈cW n:=by unfold cW;simp only[List.mem_append];exact .inl (.inl (.inl (.inl (.inl (List.mem_map.2 ⟨_,List.getElem_mem hk,rfl⟩)))))
  have e1:gr ((gt al (n.af.map bP) (k:Int)).2.1,(v,()))=some (bo n.af[k].next v,()):=by rw[bn (σ:=al) hx'];exact ng n.af[k].next v (wh hs hm)
  have ht:(n.af.take (k+1)).map (fun l=>bo l.next v)=(n.af.take k).map (fun l=>bo l.next v)++[bo n.af[k].next v]:=by rw[Pl.cN hx,dN];rfl
  have e:∀(a b:List Bool) (p q:Int),a=b->p=q->(some (.inl (v,(p,nt n (ls,(cs,(a,())))))):Option (TL vr.σs⊕Out vg))=some (.inl (v,(q,nt n (ls,(cs,(b,())))))):=by rintro _ _ _ _ rfl rfl;rfl
  unfold nt
  try dsimp only
  unfold vL;exact ao (ax (show(k:Int)<((n.af.map bP).length:Int) by omega)) (ai (aP ⟨by omega,by omega⟩) (aE e1 (ai (Ap _ _ (by rw[aK,df];omega)) (e _ _ _ _ ht.symm (dD (by omega) (by omega))))))
 .have hL:((n.af.map bP).length:Int)=(n.af.length:Int):=by rw[aK]
  unfold nt
  try dsimp only
  unfold vL;rw[dC];exact ag (aj (show ¬(n.af.length:Int)<((n.af.map bP).length:Int) by omega)) rfl
theorem wi{m:cr}{w:il}(hm:m∈n.aa)(hw:w∈m.writes):w.on<9223372036854775808/\(∀l∈w.addr,l<9223372036854775808)/\∀l∈w.data,l<9223372036854775808:=by
 have ba:∀l∈lO w,l∈cW n:=fun l hl=>by unfold cW;simp only[List.mem_append];refine .inl (.inr (List.mem_flatMap.2 ⟨m,hm,?_⟩));unfold jY;rw[List.mem_append];exact .inr (List.mem_flatMap.2 ⟨w,hw,hl⟩)
 exact⟨wh hs (ba _ (by unfold lO;simp)),fun l hl=>wh hs (ba _ (by unfold lO;simp[hl])),fun l hl=>wh hs (ba _ (by unfold lO;simp[hl]))⟩
theorem ZP(nl ls:List Bool)(cs out:List (List aV))(v:List Bool){i K:Nat}{m:cr}{c:List aV}(hm:n.aa[i]?=some m)(hc:kQ m K c)(hK:K<=5000) :
  CJ (v,((i:Int),(c,((0:Int),nt n (ls,(cs,(nl,(out,()))))))))=some (v,((i:Int),(oK v m c,nt n (ls,(cs,(nl,(out,()))))))):=by
 have hmm:=cK hm;obtain⟨m1,m2,m3,m4,_,h6,_,h8⟩:=hs.aa m hmm;have hm':(n.aa.map bh)[i]?=some (bh m):=by rw[bT,hm];rfl
 have hi:=dR hm';have gM:gt an (n.aa.map bh) (i:Int)=bh m:=bn (σ:=an) hm';have hii:ah (i:Int) (List.length (n.aa.map bh))=true:=aP ⟨by omega,by omega⟩;have hW:(gt an (n.aa.map bh) (i:Int)).2.2.2.2.1=m.writes.map cQ:=by rw[gM];rfl
 unfold CJ;delta u16;refine dg (fun k:Nat=>(v,((i:Int),((m.writes.take k).foldl (im v) c,((k:Int),nt n (ls,(cs,(nl,(out,())))))))) ) m.writes.length rfl ?_ ?_ (bM (by omega))
 .intro k hk;have hx:=bu hk;have hwm:=List.getElem_mem hk;have hck:kQ m (K+k) ((m.writes.take k).foldl (im v) c):=by
   have:=DQ (v:=v) (l:=m.writes.take k) hc (fun w hw=>h6 w (List.mem_of_mem_take hw))
   rwa [df,Nat.min_eq_left (by omega)]at this
  have hst:(m.writes.take (k+1)).foldl (im v) c=im v ((m.writes.take k).foldl (im v) c) m.writes[k]:=by rw[Pl.cN hx,List.foldl_append];rfl
  rw[hst];generalize (m.writes.take k).foldl (im v) c=u at hck;obtain⟨l1,l2,l3⟩:=wi hs hmm hwm;obtain⟨a1,a2⟩:=h6 _ hwm;have hw':(m.writes.map cQ)[k]?=some (cQ m.writes[k]):=by rw[bT,hx];rfl
  generalize m.writes[k]=w at l1 l2 l3 a1 a2 hw';have gW:gt bU (gt an (n.aa.map bh) (i:Int)).2.2.2.2.1 (k:Int)=cQ w:=by rw[hW];exact bn (σ:=bU) hw'
  have e0:gr ((gt bU (gt an (n.aa.map bh) (i:Int)).2.2.2.2.1 (k:Int)).1,(v,()))=some (bo w.on v,()):=by rw[gW];exact ng w.on v l1
  have e1:nf ((gt bU (gt an (n.aa.map bh) (i:Int)).2.2.2.2.1 (k:Int)).2.1,(v,()))=some ((cH (w.addr.map (bo · v)):Int),()):=by rw[gW];exact DK w.addr v (by omega) l2
  have e2:nf ((gt bU (gt an (n.aa.map bh) (i:Int)).2.2.2.2.1 (k:Int)).2.2.1,(v,()))=some ((cH (w.data.map (bo · v)):Int),()):=by rw[gW];exact DK w.data v (by omega) l3
  have e3:=ZB u (cH (w.addr.map (bo · v))) (cH (w.data.map (bo · v))) (by have:=hck.len;omega) hck.zg;have e:∀(a b:List aV) (p q:Int),a=b->p=q->(some (.inl (v,((i:Int),(a,(p,nt n (ls,(cs,(nl,(out,()))))))))):Option (TL vh.σs⊕Out uX))=some (.inl (v,((i:Int),(b,(q,nt n (ls,(cs,(nl,(out,()))))))))):=by rintro _ _ _ _ rfl rfl;rfl
  have hlw:(k:Int)<Int.ofNat (List.length (gt an (n.aa.map bh) (i:Int)).2.2.2.2.1):=by rw[hW,aK];show(k:Int)<(m.writes.length:Int);omega
  have hiw:ah (k:Int) (List.length (gt an (n.aa.map bh) (i:Int)).2.2.2.2.1)=true:=aP ⟨by omega,hlw⟩;unfold nt
  try dsimp only
  unfold vC;refine ai hii (ao (ax hlw) (ai hii (ai hiw (aE e0 ?_))));unfold im;cases hon:bo w.on v with|true=>rw[if_pos rfl];exact ao rfl (aE e1 (aE e2 (aE e3 (e _ _ _ _ rfl (dD (by omega) (by omega))))))|false=>rw[if_neg (by simp)];exact ag rfl (e _ _ _ _ rfl (dD (by omega) (by omega)))
 .have hlw:¬(m.writes.length:Int)<Int.ofNat (List.length (gt an (n.aa.map bh) (i:Int)).2.2.2.2.1):=by rw[hW,aK];show ¬(m.writes.length:Int)<(m.writes.length:Int);omega
  unfold nt
  try dsimp only
  unfold vC;rw[dC];exact ai hii (ag (aj hlw) rfl)
theorem Zk{α β γ:Type}{f:α->β->γ}{a:List α}{b:List β}{i:Nat}{x:α}{y:β}(h1:a[i]?=some x)(h2:b[i]?=some y):(List.zipWith f a b).take (i+1)=(List.zipWith f a b).take i++[f x y]:=by
 have h3:(List.zipWith f a b)[i]?=some (f x y):=by rw[List.getElem?_zipWith,h1,h2]
 exact Pl.cN h3
theorem ZO{K:Nat}(hK:K<=5000)(ls:List Bool)(cs:List (List aV))(ok:iB n K ls cs)(v:List Bool) :
  BO (cP n,((ls,(cs,())),(v,())))=some ((jo n v,(gq n cs v,())),()):=by
 have e3:=Ti hs ls cs v;have hM:=hs.lens.2.2.2.2;have hcl:=ok.oo;have hz:(gq n cs v).length=n.aa.length:=by unfold gq;rw[List.length_zipWith];omega
 have hL:((n.aa.map bh).length:Int)=(n.aa.length:Int):=by rw[aK]
 have e7:NB (v,((0:Int),nt n (ls,(cs,(jo n v,([],()))))))=some (jo n v,(gq n cs v,())):=by
  unfold NB;delta ji;refine dg (fun k:Nat=>(v,((k:Int),nt n (ls,(cs,(jo n v,((gq n cs v).take k,()))))))) n.aa.length rfl ?_ ?_ (bM (by omega))
  .intro k hk;have hx:=bu hk;have hkc:k<cs.length:=by omega
   have hy:=bu hkc;have e11:=ZP hs (jo n v) ls cs ((gq n cs v).take k) v hx (ok.ok k _ _ hx hy) hK;have gC:gt (.sl ar) cs (k:Int)=cs[k]:=bn (σ:=.sl ar) hy;rw[<-gC]at e11;have e:∀(a b:List (List aV)) (p q:Int),a=b->p=q->(some (.inl (v,(p,nt n (ls,(cs,(jo n v,(a,()))))))):Option (TL vq.σs⊕Out vf))=some (.inl (v,(q,nt n (ls,(cs,(jo n v,(b,()))))))):=by rintro _ _ _ _ rfl rfl;rfl
   have hzs:(gq n cs v).take (k+1)=(gq n cs v).take k++[oK v n.aa[k] cs[k]]:=Zk hs hx hy;unfold nt
   try dsimp only
   unfold vK;refine ao (ax (show(k:Int)<((n.aa.map bh).length:Int) by omega)) (ai (aP ⟨by omega,show(k:Int)<(cs.length:Int) by omega⟩) (aE e11 (ai (Ug hs ((gq n cs v).take k) _ (by rw[df];omega)) (e _ _ _ _ ?_ (dD (show(k:Int)+1=((k+1:Nat):Int) by omega) (by omega))))));rw[hzs];exact congrArg (fun c:List aV=>(gq n cs v).take k++[oK v n.aa[k] c]) gC
  .unfold nt
   try dsimp only
   unfold vK;rw[<-hz,dC,hz];exact ag (aj (show ¬(n.aa.length:Int)<((n.aa.map bh).length:Int) by omega)) rfl
 exact aE e3 (aE e7 rfl)
