import Derived.Test.YtkcpdpplobhpaaaGreatKNc
set_option linter.unusedVariables false
set_option linter.unusedSimpArgs false
set_option linter.unnecessarySimpa false
/- the document's topo (printed by VTool.lean). -/
namespace Go.Proofs.YtkcpdpplobhpaaaGreat.V
open Go Go.RowKit
set_option maxRecDepth 1000000
abbrev Zja:List Sh:=[(.int .i64)]
abbrev Zhg:List Sh:=[(.int .i64)]
abbrev Zam6:=TL Zja→Option (TL Zhg)
abbrev Zaj2:=Kd 202 Zja Zhg
def Zhw (a0:Int):Option (TL Zhg):=
 some ((IntKind.wrap .i64 (Int.tdiv a0 (2:Int))),())
def Zb3l  :Zaj2:=⟨u1 Zhw,pD Tryz.func202 5 k0 e0 1 (sS l0) fun d=>by kernel_rfl⟩
def Zam7:Zaj2:=Zb3l  
abbrev Zd4:Lay:={ T:=[(1,.int .i64),(2,.ptr 0 0),(5,.hd 1 (.int .i64)),(6,.int .i64)],h:=[(0,.cells [.int .i64,.int .i64,.bool,.fz Zb3,.fz Zb8] 116),(1,.arr (.int .i64) 3)],nx:=2 }
abbrev yNd0:List (Nat×LO):=[(0,.arr (.int .i64) 3)]
abbrev yNd1:List (Nat×LO):=[(0,.cells lNet 27),(1,.arr Za2 237)]
abbrev yNd2:Lay:={ T:=[(4,.hd 0 (.int .i64)),(5,.fz Za2),(8,.int .i64),(9,.int .i64),(10,.int .i64)],h:=yNd0,nx:=1 }
abbrev yNd3:Lay:={ T:=[(4,.hd 0 (.int .i64)),(5,.fz Za2),(8,.int .i64),(9,.int .i64)],h:=yNd0,nx:=1 }
abbrev yNd4:Lay:={ T:=[(4,.hd 0 (.int .i64)),(5,.fz Za2),(6,.int .i64)],h:=yNd0,nx:=1 }
abbrev Zcz:List (Ev.Ex×Lay):=[((.exit 0),{ T:=[(5,.hd 0 (.int .i64))],h:=yNd0,nx:=1 })]
abbrev Zaw3:=TL Zd4.σs→Option (Out Zcz)
abbrev Zaw4:=Ld 0 34 (Zb5 [0] (Zaa Tryz.f185)) Zd4 Zcz
def Zgt (t1 t6 b0_0 b0_1:Int) (b0_2:Bool) (b0_3:List (Sh.T Zb3)) (b0_4:List (Sh.T Zb8)) (b1:List Int):Option (TL Zd4.σs⊕Out Zcz):=
 br (iL t6 b0_1)
 (
  chk (inb t1 (List.length b0_3))<|
  chk (room 8 (List.length (ap b1 ((IntKind.wrap .i64 (@HAdd.hAdd (Int) (Int) (Int) _ (gt Zb3 b0_3 t1).1 t6)) :: []))))<|
  some (.inl (t1,((IntKind.wrap .i64 (t6+(1:Int))),(b0_0,(b0_1,(b0_2,(b0_3,(b0_4,((ap b1 ((IntKind.wrap .i64 (@HAdd.hAdd (Int) (Int) (Int) _ (gt Zb3 b0_3 t1).1 t6)) :: [])),()))))))))))
 (
  some (.inr (b1,())))
def Zb20  :Zaw4:=mkL (u8 Zgt) (pL k0 e0 1 l0 fun d=>by kernel_rfl)
abbrev Ziz:List Sh:=[Za1,(.int .i64)]
abbrev Zgs:List Sh:=[(.sl (.int .i64))]
abbrev Zaqw:=TL Ziz→Option (TL Zgs)
abbrev Zalm:=Kd 185 Ziz Zgs
def Zhf (L5:Zaw3) (a0:Sh.T Za1) (a1:Int):Option (TL Zgs):=
 br (iL a1 (0:Int))
 (
  some ([],()))
 (
  br (selB false true (iE (Int.ofNat (List.length a0.2.2.2.1)) a1))
  (
   some ([],()))
  (
   bnd (L5 (a1,((0:Int),(a0.1,(a0.2.1,(a0.2.2.1,(a0.2.2.2.1,(a0.2.2.2.2.1,([],()))))))))) fun x0=>
   some (x0.1,())))
def Zb38 (M5:Zaw4):Zalm:=⟨u2 (Zhf M5.L),pD Tryz.func185 34 k0 e0 1 (sS (sC M5 l0)) fun d=>by kernel_rfl⟩
def Zaqx:Zalm:=Zb38  Zb20
abbrev Zcb:Lay:={ T:=[(1,.ptr 0 0),(3,.hd 1 Za2),(6,.int .i64)],h:=yNd1,nx:=2 }
abbrev Zbs:List (Ev.Ex×Lay):=[((.exit 2),{ T:=[(3,.hd 0 Za2)],h:=[(0,.arr Za2 237)],nx:=1 })]
abbrev Zaus:=TL Zcb.σs→Option (Out Zbs)
abbrev Zant:=Ld 0 75 (Zb5 [1] (Zaa Tryz.f162)) Zcb Zbs
abbrev Zb2:Lay:={ T:=[(1,.ptr 0 0),(3,.hd 1 Za2),(6,.int .i64),(7,.int .i64)],h:=yNd1,nx:=2 }
abbrev Zb0:List (Ev.Ex×Lay):=[((.exit 4),{ T:=[(1,.ptr 0 0),(3,.hd 1 Za2),(6,.int .i64)],h:=yNd1,nx:=2 })]
abbrev Zamn:=TL Zb2.σs→Option (Out Zb0)
abbrev Zaik:=Ld 0 75 (Zb5 [1,0] (Zaa Tryz.f162)) Zb2 Zb0
abbrev Zcy:Lay:={ T:=[(1,.ptr 0 0),(3,.hd 1 Za2),(4,.int .i64)],h:=yNd1,nx:=2 }
abbrev Zcs:List (Ev.Ex×Lay):=[((.exit 0),{ T:=[(1,.ptr 0 0),(3,.hd 1 Za2)],h:=yNd1,nx:=2 })]
abbrev Zaut:=TL Zcy.σs→Option (Out Zcs)
abbrev Zauu:=Ld 0 75 (Zb5 [0] (Zaa Tryz.f162)) Zcy Zcs
def Zfv (t4 b0_0:Int) (b0_1:List Int) (b0_2:List (Sh.T Za0)) (b0_3 b0_4 b0_5:List Int) (b0_6:List (Sh.T Za1)) (b0_7:List (Sh.T Za0)) (b1:List (Sh.T Za2)):Option (TL Zcy.σs⊕Out Zcs):=
 br (iL t4 (Int.ofNat (List.length b0_7)))
 (
  chk (inb t4 (List.length b0_7))<|
  chk (room 72 (List.length (ap b1 ((false,((0:Int),(t4,(((gt Za0 b0_7 t4).2.1 :: ((gt Za0 b0_7 t4).2.2.1 :: [])),(((gt Za0 b0_7 t4).1 :: []),()))))) :: []))))<|
  some (.inl ((IntKind.wrap .i64 (t4+(1:Int))),(b0_0,(b0_1,(b0_2,(b0_3,(b0_4,(b0_5,(b0_6,(b0_7,((ap b1 ((false,((0:Int),(t4,(((gt Za0 b0_7 t4).2.1 :: ((gt Za0 b0_7 t4).2.2.1 :: [])),(((gt Za0 b0_7 t4).1 :: []),()))))) :: [])),()))))))))))))
 (
  some (.inr (b0_0,(b0_1,(b0_2,(b0_3,(b0_4,(b0_5,(b0_6,(b0_7,(b1,())))))))))))
def Zb0v  :Zauu:=mkL (u10 Zfv) (pL k0 e0 1 l0 fun d=>by kernel_rfl)
def Zfe (F0:Zaqw) (t6 t7 b0_0:Int) (b0_1:List Int) (b0_2:List (Sh.T Za0)) (b0_3 b0_4 b0_5:List Int) (b0_6:List (Sh.T Za1)) (b0_7:List (Sh.T Za0)) (b1:List (Sh.T Za2)):Option (TL Zb2.σs⊕Out Zb0):=
 chk (inb t6 (List.length b0_6))<|
 br (iL t7 (Int.ofNat (List.length (gt Za1 b0_6 t6).2.2.2.1)))
 (
  chk (inb t6 (List.length b0_6))<|
  chk (inb t7 (List.length (gt Za1 b0_6 t6).2.2.2.1))<|
  chk (inb t6 (List.length b0_6))<|
  bnd (F0 (((gt Za1 b0_6 t6).1,((gt Za1 b0_6 t6).2.1,((gt Za1 b0_6 t6).2.2.1,((gt Za1 b0_6 t6).2.2.2.1,((gt Za1 b0_6 t6).2.2.2.2.1,()))))),(t7,()))) fun x0=>
  chk (room 72 (List.length (ap b1 ((true,(t6,(t7,((gt Zb3 (gt Za1 b0_6 t6).2.2.2.1 t7).2.1,(x0.1,()))))) :: []))))<|
  some (.inl (t6,((IntKind.wrap .i64 (t7+(1:Int))),(b0_0,(b0_1,(b0_2,(b0_3,(b0_4,(b0_5,(b0_6,(b0_7,((ap b1 ((true,(t6,(t7,((gt Zb3 (gt Za1 b0_6 t6).2.2.2.1 t7).2.1,(x0.1,()))))) :: [])),())))))))))))))
 (
  some (.inr (t6,(b0_0,(b0_1,(b0_2,(b0_3,(b0_4,(b0_5,(b0_6,(b0_7,(b1,()))))))))))))
def Zazo (c0:Zalm) :Zaik:=mkL (u11 (Zfe c0.F)) (pL (kD c0 k0) e0 1 l0 fun d=>by kernel_rfl)
def Zat6:Zaik:=Zazo Zaqx 
def Zfu (L11:Zamn) (t6 b0_0:Int) (b0_1:List Int) (b0_2:List (Sh.T Za0)) (b0_3 b0_4 b0_5:List Int) (b0_6:List (Sh.T Za1)) (b0_7:List (Sh.T Za0)) (b1:List (Sh.T Za2)):Option (TL Zcb.σs⊕Out Zbs):=
 br (iL t6 (Int.ofNat (List.length b0_6)))
 (
  bnd (L11 (t6,((0:Int),(b0_0,(b0_1,(b0_2,(b0_3,(b0_4,(b0_5,(b0_6,(b0_7,(b1,())))))))))))) fun x0=>
  some (.inl ((IntKind.wrap .i64 (@HAdd.hAdd (Int) (Int) (Int) _ x0.1 (1:Int))),x0.2)))
 (
  some (.inr (b1,())))
def Zb0w (M11:Zaik):Zant:=mkL (u10 (Zfu M11.L)) (pL k0 e0 1 (sC M11 l0) fun d=>by kernel_rfl)
def Zb0u:Zant:=Zb0w  Zat6
abbrev Zik:List Sh:=[Za5]
abbrev Zft:List Sh:=[(.sl Za2)]
abbrev Zapg:=TL Zik→Option (TL Zft)
abbrev Zakn:=Kd 162 Zik Zft
def Zl7 (F0:Zaqw) (L3:Zaut) (L8:Zaus) (L11:Zamn) (a0:Sh.T Za5):Option (TL Zft):=
 bnd (L3 ((0:Int),(a0.1,(a0.2.1,(a0.2.2.1,(a0.2.2.2.1,(a0.2.2.2.2.1,(a0.2.2.2.2.2.1,(a0.2.2.2.2.2.2.1,(a0.2.2.2.2.2.2.2.1,([],()))))))))))) fun x0=>
 bnd (L8 ((0:Int),x0)) fun x1=>
 some (x1.1,())
def Zb1y (c0:Zalm) (M3:Zauu) (M8:Zant) (M11:Zaik):Zakn:=⟨u1 (Zl7 c0.F M3.L M8.L M11.L),pD Tryz.func162 75 (kD c0 k0) e0 1 (sS (sC M3 (sC M8 l0))) fun d=>by kernel_rfl⟩
def Zaph:Zakn:=Zb1y Zaqx Zb0v Zb0u Zat6
abbrev Zbf:Lay:={ T:=[(1,.fz (.int .i64)),(2,.ptr 0 0),(5,.int .i64),(6,.int .i64)],h:=[(0,.cells [.bool,.int .i64,.int .i64,.fz (.int .i64),.fz (.int .i64)] 237)],nx:=1 }
abbrev Zbc:List (Ev.Ex×Lay):=[(.ret,{ T:=[(4,.int .i64)],h:=[],nx:=0 }),((.exit 0),{ T:=[(5,.int .i64)],h:=[],nx:=0 })]
abbrev Zaun:=TL Zbf.σs→Option (Out Zbc)
abbrev Zanq:=Ld 0 31 (Zb5 [0] (Zaa Tryz.f163)) Zbf Zbc
def Zij (F0:Zam6) (t1:List Int) (t5 t6:Int) (b0_0:Bool) (b0_1 b0_2:Int) (b0_3 b0_4:List Int):Option (TL Zbf.σs⊕Out Zbc):=
 br (iL t6 (Int.ofNat (List.length b0_3)))
 (
  chk (inb t6 (List.length b0_3))<|
  bnd (F0 ((gt (.int .i64) b0_3 t6),())) fun x0=>
  chk (inb x0.1 (List.length t1))<|
  br (iL (gt (.int .i64) t1 x0.1) (0:Int))
  (
   some (.inr (.inl ((Int.negSucc 0),()))))
  (
   some (.inl (t1,((selI (iL t5 (gt (.int .i64) t1 x0.1)) (gt (.int .i64) t1 x0.1) t5),((IntKind.wrap .i64 (t6+(1:Int))),(b0_0,(b0_1,(b0_2,(b0_3,(b0_4,())))))))))))
 (
  some (.inr (.inr (t5,()))))
def Zb0r (c0:Zaj2) :Zanq:=mkL (u8 (Zij c0.F)) (pL (kD c0 k0) e0 1 l0 fun d=>by kernel_rfl)
def Zb0q:Zanq:=Zb0r Zam7 
abbrev Zii:List Sh:=[Za2,(.sl (.int .i64))]
abbrev Zfr:List Sh:=[(.int .i64)]
abbrev Zapd:=TL Zii→Option (TL Zfr)
abbrev Zakm:=Kd 163 Zii Zfr
def Zl6 (F0:Zam6) (L3:Zaun) (a0:Sh.T Za2) (a1:List Int):Option (TL Zfr):=
 bnd (L3 (a1,((0:Int),((0:Int),a0)))) fun x0=>
 (match x0 with
 | .inl x1=>
  some (x1.1,())
 | .inr x1=>
  some ((IntKind.wrap .i64 (@HAdd.hAdd (Int) (Int) (Int) _ x1.1 (1:Int))),())
 )
def Zb1v (c0:Zaj2) (M3:Zanq):Zakm:=⟨u2 (Zl6 c0.F M3.L),pD Tryz.func163 31 (kD c0 k0) e0 1 (sS (sC M3 l0)) fun d=>by kernel_rfl⟩
def Zape:Zakm:=Zb1v Zam7 Zb0q
abbrev Zbk:Lay:=yNd3
abbrev Zbd:List (Ev.Ex×Lay):=[((.exit 4),{ T:=[(4,.hd 0 (.int .i64)),(8,.int .i64)],h:=yNd0,nx:=1 })]
abbrev Zasc:=TL Zbk.σs→Option (Out Zbd)
abbrev Zalz:=Ld 0 94 (Zb5 [1] (Zaa Tryz.f86)) Zbk Zbd
abbrev Zau:Lay:=yNd2
abbrev Zap:List (Ev.Ex×Lay):=[((.exit 6),yNd3)]
abbrev Zalx:=TL Zau.σs→Option (Out Zap)
abbrev Zahg:=Ld 0 94 (Zb5 [1,0] (Zaa Tryz.f86)) Zau Zap
abbrev Zah:Lay:={ T:=[(4,.hd 0 (.int .i64)),(5,.fz Za2),(8,.int .i64),(9,.int .i64),(10,.int .i64),(11,.int .i64),(12,.int .i64)],h:=yNd0,nx:=1 }
abbrev Zag:List (Ev.Ex×Lay):=[((.exit 8),yNd2)]
abbrev Zalw:=TL Zah.σs→Option (Out Zag)
abbrev Zaly:=Ld 0 94 (Zb5 [1,0,0] (Zaa Tryz.f86)) Zah Zag
abbrev Zbt:Lay:=yNd4
abbrev Zbj:List (Ev.Ex×Lay):=[((.exit 0),{ T:=[(4,.hd 0 (.int .i64)),(5,.fz Za2)],h:=yNd0,nx:=1 })]
abbrev Zat7:=TL Zbt.σs→Option (Out Zbj)
abbrev Zamq:=Ld 0 94 (Zb5 [0] (Zaa Tryz.f86)) Zbt Zbj
abbrev Zax:Lay:={ T:=[(4,.hd 0 (.int .i64)),(5,.fz Za2),(6,.int .i64),(7,.int .i64)],h:=yNd0,nx:=1 }
abbrev Zat:List (Ev.Ex×Lay):=[((.exit 2),yNd4)]
abbrev Zamo:=TL Zax.σs→Option (Out Zat)
abbrev Zamp:=Ld 0 94 (Zb5 [0,0] (Zaa Tryz.f86)) Zax Zat
def Zfh (t5:List (Sh.T Za2)) (t6 t7:Int) (b0:List Int):Option (TL Zax.σs⊕Out Zat):=
 chk (inb t6 (List.length t5))<|
 br (iL t7 (Int.ofNat (List.length (gt Za2 t5 t6).2.2.2.2.1)))
 (
  chk (inb t6 (List.length t5))<|
  chk (inb t7 (List.length (gt Za2 t5 t6).2.2.2.2.1))<|
  chk (inb (gt (.int .i64) (gt Za2 t5 t6).2.2.2.2.1 t7) (List.length b0))<|
  some (.inl (t5,(t6,((IntKind.wrap .i64 (t7+(1:Int))),((List.set b0 (Int.toNat (gt (.int .i64) (gt Za2 t5 t6).2.2.2.2.1 t7)) (Int.negSucc 0)),()))))))
 (
  some (.inr (t5,(t6,(b0,())))))
def Zat8  :Zamp:=mkL (u4 Zfh) (pL k0 e0 1 l0 fun d=>by kernel_rfl)
def Zfi (L9:Zamo) (t5:List (Sh.T Za2)) (t6:Int) (b0:List Int):Option (TL Zbt.σs⊕Out Zbj):=
 br (iL t6 (Int.ofNat (List.length t5)))
 (
  bnd (L9 (t5,(t6,((0:Int),(b0,()))))) fun x0=>
  some (.inl (x0.1,((IntKind.wrap .i64 (@HAdd.hAdd (Int) (Int) (Int) _ x0.2.1 (1:Int))),(x0.2.2.1,())))))
 (
  some (.inr (t5,(b0,()))))
def Zazq (M9:Zamp):Zamq:=mkL (u3 (Zfi M9.L)) (pL k0 e0 1 (sC M9 l0) fun d=>by kernel_rfl)
def Zazp:Zamq:=Zazq  Zat8
def Zf4 (t5:List (Sh.T Za2)) (t8 t9 t10 t11 t12:Int) (b0:List Int):Option (TL Zah.σs⊕Out Zag):=
 chk (inb t10 (List.length t5))<|
 br (iL t12 (Int.ofNat (List.length (gt Za2 t5 t10).2.2.2.2.1)))
 (
  chk (inb t10 (List.length t5))<|
  chk (inb t12 (List.length (gt Za2 t5 t10).2.2.2.2.1))<|
  chk (inb (gt (.int .i64) (gt Za2 t5 t10).2.2.2.2.1 t12) (List.length b0))<|
  some (.inl (t5,(t8,(t9,(t10,(t11,((IntKind.wrap .i64 (t12+(1:Int))),((List.set b0 (Int.toNat (gt (.int .i64) (gt Za2 t5 t10).2.2.2.2.1 t12)) t11),())))))))))
 (
  some (.inr (t5,(t8,(t9,(t10,(b0,())))))))
def Zasd  :Zaly:=mkL (u7 Zf4) (pL k0 e0 1 l0 fun d=>by kernel_rfl)
def Zf5 (F0:Zapd) (L24:Zalw) (t5:List (Sh.T Za2)) (t8 t9 t10:Int) (b0:List Int):Option (TL Zau.σs⊕Out Zap):=
 br (iL t10 (Int.ofNat (List.length t5)))
 (
  chk (inb t10 (List.length t5))<|
  bnd (F0 (((gt Za2 t5 t10).1,((gt Za2 t5 t10).2.1,((gt Za2 t5 t10).2.2.1,((gt Za2 t5 t10).2.2.2.1,((gt Za2 t5 t10).2.2.2.2.1,()))))),(b0,()))) fun x0=>
  br (iL x0.1 (0:Int))
  (
   bnd (L24 (t5,((IntKind.wrap .i64 (t8+(1:Int))),(t9,(t10,(x0.1,((0:Int),(b0,())))))))) fun x1=>
   some (.inl (x1.1,(x1.2.1,(x1.2.2.1,((IntKind.wrap .i64 (@HAdd.hAdd (Int) (Int) (Int) _ x1.2.2.2.1 (1:Int))),(x1.2.2.2.2.1,())))))))
  (
   bnd (L24 (t5,(t8,(t9,(t10,(x0.1,((0:Int),(b0,())))))))) fun x1=>
   some (.inl (x1.1,(x1.2.1,(x1.2.2.1,((IntKind.wrap .i64 (@HAdd.hAdd (Int) (Int) (Int) _ x1.2.2.2.1 (1:Int))),(x1.2.2.2.2.1,()))))))))
 (
  some (.inr (t5,(t8,(t9,(b0,()))))))
def Zayz (c0:Zakm) (M24:Zaly):Zahg:=mkL (u5 (Zf5 c0.F M24.L)) (pL (kD c0 k0) e0 1 (sC M24 l0) fun d=>by kernel_rfl)
def Zase:Zahg:=Zayz Zape Zasd
def Zf6 (L18:Zalx) (t5:List (Sh.T Za2)) (t8 t9:Int) (b0:List Int):Option (TL Zbk.σs⊕Out Zbd):=
 br (iE t9 (Int.ofNat (List.length t5)))
 (
  bnd (L18 (t5,((0:Int),(t9,((0:Int),(b0,())))))) fun x0=>
  some (.inl (x0.1,(x0.2.1,((IntKind.wrap .i64 (@HAdd.hAdd (Int) (Int) (Int) _ x0.2.2.1 (1:Int))),(x0.2.2.2.1,()))))))
 (
  some (.inr (t8,(b0,()))))
def Zaz0 (M18:Zahg):Zalz:=mkL (u4 (Zf6 M18.L)) (pL k0 e0 1 (sC M18 l0) fun d=>by kernel_rfl)
def Zayy:Zalz:=Zaz0  Zase
abbrev Zi1:List Sh:=[Za5]
abbrev Zff:List Sh:=[(.sl (.int .i64)),.bool]
abbrev Zanu:=TL Zi1→Option (TL Zff)
abbrev Zaji:=Kd 86 Zi1 Zff
def Zfw (F0:Zapd) (F1:Zapg) (F2:Zaw1) (L6:Zat7) (L9:Zamo) (L14:Zasc) (L18:Zalx) (L24:Zalw) (a0:Sh.T Za5):Option (TL Zff):=
 bnd (F2 (a0,())) fun x0=>
 br (Bool.not (iQ x0.1 (0:Int)))
 (
  some ([],(false,())))
 (
  chk (both (iE (0:Int) (IntKind.wrap .i64 (@HAdd.hAdd (Int) (Int) (Int) _ a0.1 (1:Int)))) (both (iE (IntKind.wrap .i64 (@HAdd.hAdd (Int) (Int) (Int) _ a0.1 (1:Int))) (IntKind.wrap .i64 (@HAdd.hAdd (Int) (Int) (Int) _ a0.1 (1:Int)))) (iE ((Int.ofNat 8)*(IntKind.wrap .i64 (@HAdd.hAdd (Int) (Int) (Int) _ a0.1 (1:Int)))) (281474976710656:Int))))<|
  bnd (F1 (a0,())) fun x1=>
  bnd (L6 (x1.1,((0:Int),((List.replicate (Int.toNat (IntKind.wrap .i64 (@HAdd.hAdd (Int) (Int) (Int) _ a0.1 (1:Int)))) (Sh.zero (.int .i64))),())))) fun x2=>
  bnd (L14 (x2.1,((0:Int),((0:Int),(x2.2.1,()))))) fun x3=>
  br (iL (0:Int) x3.1)
  (
   some ([],(false,())))
  (
   some (x3.2.1,(true,()))))
def Zb0x (c0:Zakm) (c1:Zakn) (c2:Zapi) (M6:Zamq) (M9:Zamp) (M14:Zalz) (M18:Zahg) (M24:Zaly):Zaji:=⟨u1 (Zfw c0.F c1.F c2.F M6.L M9.L M14.L M18.L M24.L),pD Tryz.func86 94 (kD c0 (kD c1 (kD c2 k0))) e0 1 (sS (sC M6 (sC M14 l0))) fun d=>by kernel_rfl⟩
def Zanv:Zaji:=Zb0x Zape Zaph Zaw2 Zazp Zat8 Zayy Zase Zasd
abbrev Zil:List Sh:=[Za5]
abbrev Zfx:List Sh:=[(.int .i64)]
abbrev Zadp:=TL Zil→Option (TL Zfx)
abbrev Zacr:=Kd 38 Zil Zfx
def Zl8 (F0:Zanu) (F1:Zaw1) (a0:Sh.T Za5):Option (TL Zfx):=
 bnd (F1 (a0,())) fun x0=>
 br (Bool.not (iQ x0.1 (0:Int)))
 (
  some (x0.1,()))
 (
  bnd (F0 (a0,())) fun x1=>
  br (Bool.not x1.2.1)
  (
   some ((8:Int),()))
  (
   some ((0:Int),())))
def Zb1z (c0:Zaji) (c1:Zapi) :Zacr:=⟨u1 (Zl8 c0.F c1.F),pD Tryz.func38 18 (kD c0 (kD c1 k0)) e0 1 (sS l0) fun d=>by kernel_rfl⟩
def Zadq:Zacr:=Zb1z Zanv Zaw2 
end Go.Proofs.YtkcpdpplobhpaaaGreat.V
