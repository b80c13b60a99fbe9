import Derived.Test.YtkcpdpplobhpaaaGreatJNc
set_option linter.unusedVariables false
set_option linter.unusedSimpArgs false
set_option linter.unnecessarySimpa false
/- the document's topo (printed by VTool.lean). -/
namespace Go.Proofs.YtkcpdpplobhpaaaGreat.V
open Go Go.RowKit
set_option maxRecDepth 1000000
abbrev Zja:List Sh:=[(.int .i64)]
abbrev MU:List Sh:=[(.int .i64)]
abbrev Jj:=TL Zja->Option (TL MU)
abbrev AQ:=Kd 202 Zja MU
def Na(a0:Int):Option (TL MU):=some ((IntKind.wrap .i64 (Int.tdiv a0 (2:Int))),())
def aj9  :AQ:=⟨u1 Na,pD Tryz.func202 5 k0 e0 1 (sS l0) fun d=>by kernel_rfl⟩
def Jk:AQ:=aj9
def wb:Jj:=Jk.F
abbrev Mf:Lay:={ T:=[(1,.int .i64),(2,.ptr 0 0),(5,.hd 1 (.int .i64)),(6,.int .i64)],h:=[(0,.cells [.int .i64,.int .i64,.bool,.fz bO,.fz bE] 116),(1,.arr (.int .i64) 3)],nx:=2 }
abbrev pa:List (Nat×LO):=[(0,.arr (.int .i64) 3)]
abbrev vT:List (Nat×LO):=[(0,.cells fq 27),(1,.arr dp 237)]
abbrev Zp:Lay:={ T:=[(4,.hd 0 (.int .i64)),(5,.fz dp),(8,.int .i64),(9,.int .i64),(10,.int .i64)],h:=pa,nx:=1 }
abbrev Zq:Lay:={ T:=[(4,.hd 0 (.int .i64)),(5,.fz dp),(8,.int .i64),(9,.int .i64)],h:=pa,nx:=1 }
abbrev Zr:Lay:={ T:=[(4,.hd 0 (.int .i64)),(5,.fz dp),(6,.int .i64)],h:=pa,nx:=1 }
abbrev Mc:List (Ev.Ex×Lay):=[((.exit 0),{ T:=[(5,.hd 0 (.int .i64))],h:=pa,nx:=1 })]
abbrev Xg:=TL Mf.σs->Option (Out Mc)
abbrev Xh:=Ld 0 34 (bu [0] (aW Tryz.f185)) Mf Mc
def Dc(t1 t6 aE aD:Int)(aG:Bool)(aH:List (Sh.T bO))(aI:List (Sh.T bE))(b1:List Int):Option (TL Mf.σs⊕Out Mc):=
 br (iL t6 aD)
 (
  ai (aw t1 (List.length aH))<|
  ai (room 8 (List.length (ap b1 ((IntKind.wrap .i64 (@HAdd.hAdd (Int) (Int) (Int) _ (gt bO aH t1).1 t6))::[]))))<|
  some (.inl (t1,((IntKind.wrap .i64 (t6+(1:Int))),(aE,(aD,(aG,(aH,(aI,((ap b1 ((IntKind.wrap .i64 (@HAdd.hAdd (Int) (Int) (Int) _ (gt bO aH t1).1 t6))::[])),()))))))))))
 (
  some (.inr (b1,())))
def ajS  :Xh:=bB (u8 Dc) (pL k0 e0 1 l0 fun d=>by kernel_rfl)
def Mw:Xg:=aR (u8 Dc) NN
abbrev Z8:List Sh:=[ab,(.int .i64)]
abbrev MR:List Sh:=[(.sl (.int .i64))]
abbrev JY:=TL Z8->Option (TL MR)
abbrev Bb:=Kd 185 Z8 MR
def MT(L5:Xg)(a0:Sh.T ab)(a1:Int):Option (TL MR):=
 br (iL a1 (0:Int))
 (
  some ([],()))
 (
  br (aQ false true (iE (Int.ofNat (List.length a0.2.2.2.1)) a1))
  (
   some ([],()))
  (
   ar (L5 (a1,((0:Int),(a0.1,(a0.2.1,(a0.2.2.1,(a0.2.2.2.1,(a0.2.2.2.2.1,([],()))))))))) fun x0=>
   some (x0.1,())))
def aj3(M5:Xh):Bb:=⟨u2 (MT M5.L),pD Tryz.func185 34 k0 e0 1 (sS (sC M5 l0)) fun d=>by kernel_rfl⟩
def JZ:Bb:=aj3  ajS
def ZK:JY:=JZ.F
abbrev CM:Lay:={ T:=[(1,.ptr 0 0),(3,.hd 1 dp),(6,.int .i64)],h:=vT,nx:=2 }
abbrev CF:List (Ev.Ex×Lay):=[((.exit 2),{ T:=[(3,.hd 0 dp)],h:=[(0,.arr dp 237)],nx:=1 })]
abbrev WM:=TL CM.σs->Option (Out CF)
abbrev Jy:=Ld 0 75 (bu [1] (aW Tryz.f162)) CM CF
abbrev LS:Lay:={ T:=[(1,.ptr 0 0),(3,.hd 1 dp),(6,.int .i64),(7,.int .i64)],h:=vT,nx:=2 }
abbrev LR:List (Ev.Ex×Lay):=[((.exit 4),{ T:=[(1,.ptr 0 0),(3,.hd 1 dp),(6,.int .i64)],h:=vT,nx:=2 })]
abbrev Jl:=TL LS.σs->Option (Out LR)
abbrev AN:=Ld 0 75 (bu [1,0] (aW Tryz.f162)) LS LR
abbrev Mb:Lay:={ T:=[(1,.ptr 0 0),(3,.hd 1 dp),(4,.int .i64)],h:=vT,nx:=2 }
abbrev LY:List (Ev.Ex×Lay):=[((.exit 0),{ T:=[(1,.ptr 0 0),(3,.hd 1 dp)],h:=vT,nx:=2 })]
abbrev WN:=TL Mb.σs->Option (Out LY)
abbrev WO:=Ld 0 75 (bu [0] (aW Tryz.f162)) Mb LY
def C5(t4 aE:Int)(aD:List Int)(aG:List (Sh.T ae))(aH aI aL:List Int)(aA:List (Sh.T ab))(aF:List (Sh.T ae))(b1:List (Sh.T dp)):Option (TL Mb.σs⊕Out LY):=
 br (iL t4 (Int.ofNat (List.length aF)))
 (
  ai (aw t4 (List.length aF))<|
  ai (room 72 (List.length (ap b1 ((false,((0:Int),(t4,(((gt ae aF t4).2.1::((gt ae aF t4).2.2.1::[])),(((gt ae aF t4).1::[]),())))))::[]))))<|
  some (.inl ((IntKind.wrap .i64 (t4+(1:Int))),(aE,(aD,(aG,(aH,(aI,(aL,(aA,(aF,((ap b1 ((false,((0:Int),(t4,(((gt ae aF t4).2.1::((gt ae aF t4).2.2.1::[])),(((gt ae aF t4).1::[]),())))))::[])),()))))))))))))
 (
  some (.inr (aE,(aD,(aG,(aH,(aI,(aL,(aA,(aF,(b1,())))))))))))
def ajA  :WO:=bB (lH C5) (pL k0 e0 1 l0 fun d=>by kernel_rfl)
def ZS:WN:=aR (lH C5) NN
def C0(F0:JY)(t6 t7 aE:Int)(aD:List Int)(aG:List (Sh.T ae))(aH aI aL:List Int)(aA:List (Sh.T ab))(aF:List (Sh.T ae))(b1:List (Sh.T dp)):Option (TL LS.σs⊕Out LR):=
 ai (aw t6 (List.length aA))<|
 br (iL t7 (Int.ofNat (List.length (gt ab aA t6).2.2.2.1)))
 (
  ai (aw t6 (List.length aA))<|
  ai (aw t7 (List.length (gt ab aA t6).2.2.2.1))<|
  ai (aw t6 (List.length aA))<|
  ar (F0 (((gt ab aA t6).1,((gt ab aA t6).2.1,((gt ab aA t6).2.2.1,((gt ab aA t6).2.2.2.1,((gt ab aA t6).2.2.2.2.1,()))))),(t7,()))) fun x0=>
  ai (room 72 (List.length (ap b1 ((true,(t6,(t7,((gt bO (gt ab aA t6).2.2.2.1 t7).2.1,(x0.1,())))))::[]))))<|
  some (.inl (t6,((IntKind.wrap .i64 (t7+(1:Int))),(aE,(aD,(aG,(aH,(aI,(aL,(aA,(aF,((ap b1 ((true,(t6,(t7,((gt bO (gt ab aA t6).2.2.2.1 t7).2.1,(x0.1,())))))::[])),())))))))))))))
 (
  some (.inr (t6,(aE,(aD,(aG,(aH,(aI,(aL,(aA,(aF,(b1,()))))))))))))
def ajl(c0:Bb) :AN:=bB (jI (C0 c0.F)) (pL (kD c0 k0) e0 1 l0 fun d=>by kernel_rfl)
def Wu:AN:=ajl JZ
def Me:Jl:=aR (jI (C0 ZK)) NN
def C4(L11:Jl)(t6 aE:Int)(aD:List Int)(aG:List (Sh.T ae))(aH aI aL:List Int)(aA:List (Sh.T ab))(aF:List (Sh.T ae))(b1:List (Sh.T dp)):Option (TL CM.σs⊕Out CF):=
 br (iL t6 (Int.ofNat (List.length aA)))
 (
  ar (L11 (t6,((0:Int),(aE,(aD,(aG,(aH,(aI,(aL,(aA,(aF,(b1,())))))))))))) fun x0=>
  some (.inl ((IntKind.wrap .i64 (@HAdd.hAdd (Int) (Int) (Int) _ x0.1 (1:Int))),x0.2)))
 (
  some (.inr (b1,())))
def ajB(M11:AN):Jy:=bB (lH (C4 M11.L)) (pL k0 e0 1 (sC M11 l0) fun d=>by kernel_rfl)
def ajz:Jy:=ajB  Wu
def ZR:WM:=aR (lH (C4 Me)) NN
abbrev Z2:List Sh:=[bg]
abbrev MH:List Sh:=[(.sl dp)]
abbrev Wa:=TL Z2->Option (TL MH)
abbrev I7:=Kd 162 Z2 MH
def Zl7(F0:JY)(L3:WN)(L8:WM)(L11:Jl)(a0:Sh.T bg):Option (TL MH):=
 ar (L3 ((0:Int),(a0.1,(a0.2.1,(a0.2.2.1,(a0.2.2.2.1,(a0.2.2.2.2.1,(a0.2.2.2.2.2.1,(a0.2.2.2.2.2.2.1,(a0.2.2.2.2.2.2.2.1,([],()))))))))))) fun x0=>
 ar (L8 ((0:Int),x0)) fun x1=>
 some (x1.1,())
def ajQ(c0:Bb)(M3:WO)(M8:Jy)(M11:AN):I7:=⟨u1 (Zl7 c0.F M3.L M8.L M11.L),pD Tryz.func162 75 (kD c0 k0) e0 1 (sS (sC M3 (sC M8 l0))) fun d=>by kernel_rfl⟩
def Wb:I7:=ajQ JZ ajA ajz Wu
def ZG:Wa:=Wb.F
abbrev wa:Lay:={ T:=[(1,.fz (.int .i64)),(2,.ptr 0 0),(5,.int .i64),(6,.int .i64)],h:=[(0,.cells [.bool,.int .i64,.int .i64,.fz (.int .i64),.fz (.int .i64)] 237)],nx:=1 }
abbrev v8:List (Ev.Ex×Lay):=[(.ret,{ T:=[(4,.int .i64)],h:=[],nx:=0 }),((.exit 0),{ T:=[(5,.int .i64)],h:=[],nx:=0 })]
abbrev WL:=TL wa.σs->Option (Out v8)
abbrev Jw:=Ld 0 31 (bu [0] (aW Tryz.f163)) wa v8
def Ng(F0:Jj)(t1:List Int)(t5 t6:Int)(aE:Bool)(aD aG:Int)(aH aI:List Int):Option (TL wa.σs⊕Out v8):=
 br (iL t6 (Int.ofNat (List.length aH)))
 (
  ai (aw t6 (List.length aH))<|
  ar (F0 ((gt (.int .i64) aH t6),())) fun x0=>
  ai (aw x0.1 (List.length t1))<|
  br (iL (gt (.int .i64) t1 x0.1) (0:Int))
  (
   some (.inr (.inl ((Int.negSucc 0),()))))
  (
   some (.inl (t1,((cQ (iL t5 (gt (.int .i64) t1 x0.1)) (gt (.int .i64) t1 x0.1) t5),((IntKind.wrap .i64 (t6+(1:Int))),(aE,(aD,(aG,(aH,(aI,())))))))))))
 (
  some (.inr (.inr (t5,()))))
def ajy(c0:AQ) :Jw:=bB (u8 (Ng c0.F)) (pL (kD c0 k0) e0 1 l0 fun d=>by kernel_rfl)
def ajx:Jw:=ajy Jk
def Zfs:WL:=aR (u8 (Ng wb)) NN
abbrev Z1:List Sh:=[dp,(.sl (.int .i64))]
abbrev MG:List Sh:=[(.int .i64)]
abbrev JM:=TL Z1->Option (TL MG)
abbrev A4:=Kd 163 Z1 MG
def Zl6(F0:Jj)(L3:WL)(a0:Sh.T dp)(a1:List Int):Option (TL MG):=
 ar (L3 (a1,((0:Int),((0:Int),a0)))) fun x0=>
 (match x0 with|.inl x1=>some (x1.1,())|.inr x1=>some ((IntKind.wrap .i64 (@HAdd.hAdd (Int) (Int) (Int) _ x1.1 (1:Int))),())
 )
def ajP(c0:AQ)(M3:Jw):A4:=⟨u2 (Zl6 c0.F M3.L),pD Tryz.func163 31 (kD c0 k0) e0 1 (sS (sC M3 l0)) fun d=>by kernel_rfl⟩
def JN:A4:=ajP Jk ajx
def LP:JM:=JN.F
abbrev CA:Lay:=Zq
abbrev Cw:List (Ev.Ex×Lay):=[((.exit 4),{ T:=[(4,.hd 0 (.int .i64)),(8,.int .i64)],h:=pa,nx:=1 })]
abbrev Wk:=TL CA.σs->Option (Out Cw)
abbrev Je:=Ld 0 94 (bu [1] (aW Tryz.f86)) CA Cw
abbrev Co:Lay:=Zp
abbrev Cm:List (Ev.Ex×Lay):=[((.exit 6),Zq)]
abbrev Jc:=TL Co.σs->Option (Out Cm)
abbrev AB:=Ld 0 94 (bu [1,0] (aW Tryz.f86)) Co Cm
abbrev Cl:Lay:={ T:=[(4,.hd 0 (.int .i64)),(5,.fz dp),(8,.int .i64),(9,.int .i64),(10,.int .i64),(11,.int .i64),(12,.int .i64)],h:=pa,nx:=1 }
abbrev Ck:List (Ev.Ex×Lay):=[((.exit 8),Zp)]
abbrev Jb:=TL Cl.σs->Option (Out Ck)
abbrev Jd:=Ld 0 94 (bu [1,0,0] (aW Tryz.f86)) Cl Ck
abbrev CG:Lay:=Zr
abbrev Cz:List (Ev.Ex×Lay):=[((.exit 0),{ T:=[(4,.hd 0 (.int .i64)),(5,.fz dp)],h:=pa,nx:=1 })]
abbrev Wv:=TL CG.σs->Option (Out Cz)
abbrev Jo:=Ld 0 94 (bu [0] (aW Tryz.f86)) CG Cz
abbrev Cr:Lay:={ T:=[(4,.hd 0 (.int .i64)),(5,.fz dp),(6,.int .i64),(7,.int .i64)],h:=pa,nx:=1 }
abbrev Cn:List (Ev.Ex×Lay):=[((.exit 2),Zr)]
abbrev Jm:=TL Cr.σs->Option (Out Cn)
abbrev Jn:=Ld 0 94 (bu [0,0] (aW Tryz.f86)) Cr Cn
def C1(t5:List (Sh.T dp))(t6 t7:Int)(b0:List Int):Option (TL Cr.σs⊕Out Cn):=
 ai (aw t6 (List.length t5))<|
 br (iL t7 (Int.ofNat (List.length (gt dp t5 t6).2.2.2.2.1)))
 (
  ai (aw t6 (List.length t5))<|
  ai (aw t7 (List.length (gt dp t5 t6).2.2.2.2.1))<|
  ai (aw (gt (.int .i64) (gt dp t5 t6).2.2.2.2.1 t7) (List.length b0))<|
  some (.inl (t5,(t6,((IntKind.wrap .i64 (t7+(1:Int))),((List.set b0 (Int.toNat (gt (.int .i64) (gt dp t5 t6).2.2.2.2.1 t7)) (Int.negSucc 0)),()))))))
 (
  some (.inr (t5,(t6,(b0,())))))
def Ww  :Jn:=bB (u4 C1) (pL k0 e0 1 l0 fun d=>by kernel_rfl)
def CQ:Jm:=aR (u4 C1) NN
def C2(L9:Jm)(t5:List (Sh.T dp))(t6:Int)(b0:List Int):Option (TL CG.σs⊕Out Cz):=
 br (iL t6 (Int.ofNat (List.length t5)))
 (
  ar (L9 (t5,(t6,((0:Int),(b0,()))))) fun x0=>
  some (.inl (x0.1,((IntKind.wrap .i64 (@HAdd.hAdd (Int) (Int) (Int) _ x0.2.1 (1:Int))),(x0.2.2.1,())))))
 (
  some (.inr (t5,(b0,()))))
def ajn(M9:Jn):Jo:=bB (u3 (C2 M9.L)) (pL k0 e0 1 (sC M9 l0) fun d=>by kernel_rfl)
def ajm:Jo:=ajn  Ww
def Mo:Wv:=aR (u3 (C2 CQ)) NN
def CT(t5:List (Sh.T dp))(t8 t9 t10 t11 t12:Int)(b0:List Int):Option (TL Cl.σs⊕Out Ck):=
 ai (aw t10 (List.length t5))<|
 br (iL t12 (Int.ofNat (List.length (gt dp t5 t10).2.2.2.2.1)))
 (
  ai (aw t10 (List.length t5))<|
  ai (aw t12 (List.length (gt dp t5 t10).2.2.2.2.1))<|
  ai (aw (gt (.int .i64) (gt dp t5 t10).2.2.2.2.1 t12) (List.length b0))<|
  some (.inl (t5,(t8,(t9,(t10,(t11,((IntKind.wrap .i64 (t12+(1:Int))),((List.set b0 (Int.toNat (gt (.int .i64) (gt dp t5 t10).2.2.2.2.1 t12)) t11),())))))))))
 (
  some (.inr (t5,(t8,(t9,(t10,(b0,())))))))
def Wl  :Jd:=bB (u7 CT) (pL k0 e0 1 l0 fun d=>by kernel_rfl)
def Cv:Jb:=aR (u7 CT) NN
def CU(F0:JM)(L24:Jb)(t5:List (Sh.T dp))(t8 t9 t10:Int)(b0:List Int):Option (TL Co.σs⊕Out Cm):=
 br (iL t10 (Int.ofNat (List.length t5)))
 (
  ai (aw t10 (List.length t5))<|
  ar (F0 (((gt dp t5 t10).1,((gt dp t5 t10).2.1,((gt dp t5 t10).2.2.1,((gt dp t5 t10).2.2.2.1,((gt dp t5 t10).2.2.2.2.1,()))))),(b0,()))) fun x0=>
  br (iL x0.1 (0:Int))
  (
   ar (L24 (t5,((IntKind.wrap .i64 (t8+(1:Int))),(t9,(t10,(x0.1,((0:Int),(b0,())))))))) fun x1=>
   some (.inl (x1.1,(x1.2.1,(x1.2.2.1,((IntKind.wrap .i64 (@HAdd.hAdd (Int) (Int) (Int) _ x1.2.2.2.1 (1:Int))),(x1.2.2.2.2.1,())))))))
  (
   ar (L24 (t5,(t8,(t9,(t10,(x0.1,((0:Int),(b0,())))))))) fun x1=>
   some (.inl (x1.1,(x1.2.1,(x1.2.2.1,((IntKind.wrap .i64 (@HAdd.hAdd (Int) (Int) (Int) _ x1.2.2.2.1 (1:Int))),(x1.2.2.2.2.1,()))))))))
 (
  some (.inr (t5,(t8,(t9,(b0,()))))))
def ajf(c0:A4)(M24:Jd):AB:=bB (u5 (CU c0.F M24.L)) (pL (kD c0 k0) e0 1 (sC M24 l0) fun d=>by kernel_rfl)
def Wm:AB:=ajf JN Wl
def CN:Jc:=aR (u5 (CU LP Cv)) NN
def CV(L18:Jc)(t5:List (Sh.T dp))(t8 t9:Int)(b0:List Int):Option (TL CA.σs⊕Out Cw):=
 br (iE t9 (Int.ofNat (List.length t5)))
 (
  ar (L18 (t5,((0:Int),(t9,((0:Int),(b0,())))))) fun x0=>
  some (.inl (x0.1,(x0.2.1,((IntKind.wrap .i64 (@HAdd.hAdd (Int) (Int) (Int) _ x0.2.2.1 (1:Int))),(x0.2.2.2.1,()))))))
 (
  some (.inr (t8,(b0,()))))
def ajg(M18:AB):Je:=bB (u4 (CV M18.L)) (pL k0 e0 1 (sC M18 l0) fun d=>by kernel_rfl)
def aje:Je:=ajg  Wm
def Mm:Wk:=aR (u4 (CV CN)) NN
abbrev ZY:List Sh:=[bg]
abbrev MB:List Sh:=[(.sl (.int .i64)),.bool]
abbrev V6:=TL ZY->Option (TL MB)
abbrev I3:=Kd 86 ZY MB
def MI(F0:JM)(F1:Wa)(F2:Xe)(L6:Wv)(L9:Jm)(L14:Wk)(L18:Jc)(L24:Jb)(a0:Sh.T bg):Option (TL MB):=
 ar (F2 (a0,())) fun x0=>
 br (Bool.not (iQ x0.1 (0:Int)))
 (
  some ([],(false,())))
 (
  ai (both (iE (0:Int) (IntKind.wrap .i64 (@HAdd.hAdd (Int) (Int) (Int) _ a0.1 (1:Int)))) (both (iE (IntKind.wrap .i64 (@HAdd.hAdd (Int) (Int) (Int) _ a0.1 (1:Int))) (IntKind.wrap .i64 (@HAdd.hAdd (Int) (Int) (Int) _ a0.1 (1:Int)))) (iE ((Int.ofNat 8)*(IntKind.wrap .i64 (@HAdd.hAdd (Int) (Int) (Int) _ a0.1 (1:Int)))) (281474976710656:Int))))<|
  ar (F1 (a0,())) fun x1=>
  ar (L6 (x1.1,((0:Int),((List.replicate (Int.toNat (IntKind.wrap .i64 (@HAdd.hAdd (Int) (Int) (Int) _ a0.1 (1:Int)))) (Sh.zero (.int .i64))),())))) fun x2=>
  ar (L14 (x2.1,((0:Int),((0:Int),(x2.2.1,()))))) fun x3=>
  br (iL (0:Int) x3.1)
  (
   some ([],(false,())))
  (
   some (x3.2.1,(true,()))))
def ajC(c0:A4)(c1:I7)(c2:JO)(M6:Jo)(M9:Jn)(M14:Je)(M18:AB)(M24:Jd):I3:=⟨u1 (MI c0.F c1.F c2.F M6.L M9.L M14.L M18.L M24.L),pD Tryz.func86 94 (kD c0 (kD c1 (kD c2 k0))) e0 1 (sS (sC M6 (sC M14 l0))) fun d=>by kernel_rfl⟩
def V8:I3:=ajC JN Wb Xf ajm Ww aje Wm Wl
def Zfg:V6:=V8.F
abbrev Z3:List Sh:=[bg]
abbrev MJ:List Sh:=[(.int .i64)]
abbrev vb:=TL Z3->Option (TL MJ)
abbrev rY:=Kd 38 Z3 MJ
def Zl8(F0:V6)(F1:Xe)(a0:Sh.T bg):Option (TL MJ):=
 ar (F1 (a0,())) fun x0=>
 br (Bool.not (iQ x0.1 (0:Int)))
 (
  some (x0.1,()))
 (
  ar (F0 (a0,())) fun x1=>
  br (Bool.not x1.2.1)
  (
   some ((8:Int),()))
  (
   some ((0:Int),())))
def ajR(c0:I3)(c1:JO) :rY:=⟨u1 (Zl8 c0.F c1.F),pD Tryz.func38 18 (kD c0 (kD c1 k0)) e0 1 (sS l0) fun d=>by kernel_rfl⟩
def vc:rY:=ajR V8 Xf
def Zb7:vb:=vc.F
