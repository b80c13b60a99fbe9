import Derived.Test.YtkcpdpplobhpaaaGreatKNc
import Derived.Test.YtkcpdpplobhpaaaGreatKNd
import Derived.Test.YtkcpdpplobhpaaaGreatKSa
import Derived.Test.YtkcpdpplobhpaaaGreatKMf
set_option linter.unusedVariables false
set_option linter.unusedSimpArgs false
set_option linter.unnecessarySimpa false
section
namespace Go.Proofs.YtkcpdpplobhpaaaGreat.V
open Go Go.RowKit
set_option maxRecDepth 1000000
abbrev Zazf:List Sh:=[(.int .i64)]
abbrev Zard:List Sh:=[.bool]
abbrev Zb19:=TL Zazf→Option (TL Zard)
abbrev Zax9:=Kd 198 Zazf Zard
def Zax8 (a0:Int):Option (TL Zard):=
 some ((Bool.not (iQ a0 a0)),())
def Zb5q  :Zax9:=⟨u1 Zax8,pD Tryz.func198 6 k0 e0 1 (sS l0) fun d=>by kernel_rfl⟩
def Zb1a:Zax9:=Zb5q  
abbrev Zaye:List Sh:=[(.int .i64),(.int .i64)]
abbrev Zan4:List Sh:=[(.int .i64)]
abbrev Zayl:=TL Zaye→Option (TL Zan4)
abbrev Zau5:=Kd 147 Zaye Zan4
def Zale (F0:Zb19) (a0 a1:Int):Option (TL Zan4):=
 bnd (F0 (a0,())) fun x0=>
 bnd (F0 (a1,())) fun x1=>
 br x0.1
 (
  br x1.1
  (
   some ((0:Int),()))
  (
   some ((Int.negSucc 0),())))
 (
  br x1.1
  (
   some ((1:Int),()))
  (
   br (iL a0 a1)
   (
    some ((Int.negSucc 0),()))
   (
    br (iL a1 a0)
    (
     some ((1:Int),()))
    (
     some ((0:Int),())))))
def Zb4q (c0:Zax9) :Zau5:=⟨u2 (Zale c0.F),pD Tryz.func147 20 (kD c0 k0) e0 1 (sS l0) fun d=>by kernel_rfl⟩
def Zaym:Zau5:=Zb4q Zb1a 
abbrev yRa0:List (Nat×LO):=[(0,.arr Za4 148),(1,.cells [.ptr 2 0] 198),(2,.cells [.int .i64,.fz (.int .i64),.fz Za0,.fz (.int .i64),.fz (.int .i64),.fz (.int .i64),.fz Za1,.fz Za0,.hd 3 (.int .i64),.hd 0 Za4,.hd 4 (.int .u8),.hd 5 (.int .i64)] 224),(3,.arr (.int .i64) 3),(4,.arr (.int .u8) 5),(5,.arr (.int .i64) 3)]
abbrev yRa1:List (Nat×LO):=[(0,.cells [.int .i64,.fz (.int .i64),.fz Za0,.fz (.int .i64),.fz (.int .i64),.fz (.int .i64),.hd 1 Za1,.fz Za0] 27),(1,.opn Za1 [.int .i64,.int .i64,.bool,.hd 2 Zb3,.hd 3 Zb8] 116),(2,.arr Zb3 152),(3,.arr Zb8 175),(4,.cells [.int .i64,.nils,.nils,.nils,.nils,.nils,.nils,.nils] 27)]
abbrev yRa2:List (Nat×LO):=[(0,.cells [.ptr 1 0] 198),(1,.cells [.int .i64,.fz (.int .i64),.fz Za0,.fz (.int .i64),.fz (.int .i64),.fz (.int .i64),.fz Za1,.fz Za0,.hd 2 (.int .i64),.hd 3 Za4,.hd 4 (.int .u8),.hd 5 (.int .i64)] 224),(2,.arr (.int .i64) 3),(3,.arr Za4 148),(4,.arr (.int .u8) 5),(5,.arr (.int .i64) 3)]
abbrev yRa3:Lay:={ T:=[],h:=yRa0,nx:=6 }
abbrev yRa4:Lay:={ T:=[(0,.hd 0 Za4),(1,.int .i64),(2,.int .i64),(3,.int .i64),(4,.func 146 [] [.ptr 1 0])],h:=yRa0,nx:=6 }
abbrev yRa5:List (Nat×LO):=[(0,.cells [.int .i64,.fz (.int .i64),.fz Za0,.fz (.int .i64),.fz (.int .i64),.fz (.int .i64),.hd 1 Za1,.fz Za0] 27),(1,.arr Za1 116),(2,.cells [.int .i64,.nils,.nils,.nils,.nils,.nils,.nils,.nils] 27)]
abbrev yRa6:List (Nat×LO):=[(0,.cells [.int .i64,.int .i64,.mp 1] 220),(1,.map .u64 (.int .u64))]
abbrev yRa7:Lay:={ T:=[(0,.hd 0 Za4),(1,.int .i64),(2,.func 146 [] [.ptr 1 0]),(6,.int .i64),(7,.int .i64),(8,.int .i64)],h:=yRa0,nx:=6 }
abbrev yRa8:Lay:={ T:=[(0,.hd 0 Za4),(1,.int .i64),(2,.int .i64),(3,.func 146 [] [.ptr 1 0]),(8,.int .i64)],h:=yRa0,nx:=6 }
abbrev yRa9:Lay:={ T:=[(0,.hd 0 Za4),(1,.int .i64),(2,.func 146 [] [.ptr 1 0]),(6,.int .i64),(7,.int .i64)],h:=yRa0,nx:=6 }
abbrev yRa10:Lay:={ T:=[(4,.fz (.int .i64)),(6,.fz Za2),(7,.hd 0 Za2),(8,.int .i64)],h:=[(0,.arr Za2 237)],nx:=1 }
abbrev yRa11:List (Nat×LO):=[(0,.arr .bool 4)]
abbrev Zb18:Lay:={ T:=[(0,.agg [.bool,.int .i64,.int .i64]),(1,.agg [.bool,.int .i64,.int .i64]),(2,.ptr 0 0)],h:=yRa2,nx:=6 }
abbrev Zaw7:List (Ev.Ex×Lay):=[(.ret,{ T:=[(0,.int .i64)],h:=yRa2,nx:=6 })]
abbrev Zad7:=TL Zb18.σs→Option (Out Zaw7)
abbrev Zacf:=Kb 146 3 Zb18 1 Zaw7
def Zb6i (F0:Zayl) (F1:Zak5) (t0_0:Bool) (t0_1 t0_2:Int) (t1_0:Bool) (t1_1 t1_2 b1_0:Int) (b1_1:List Int) (b1_2:List (Sh.T Za0)) (b1_3 b1_4 b1_5:List Int) (b1_6:List (Sh.T Za1)) (b1_7:List (Sh.T Za0)) (b2:List Int) (b3:List (Sh.T Za4)) (b4 b5:List Int):Option (Out Zaw7):=
 bnd (F1 (t0_0,(t0_1,(t0_2,(b1_0,(b1_1,(b1_2,(b1_3,(b1_4,(b1_5,(b1_6,(b1_7,(b2,(b3,(b4,(b5,())))))))))))))))) fun x0=>
 chk (inb (0:Int) (List.length x0.1))<|
 chk (inb (gt (.int .i64) x0.1 (0:Int)) (List.length x0.2.2.2.2.2.2.2.2.2.2.2.2.1))<|
 chk (both (bQ t1_0 t1_0) (both (iQ t1_1 t1_1) (both (iQ t1_2 t1_2) true)))<|
 bnd (F1 (t1_0,(t1_1,(t1_2,x0.2)))) fun x1=>
 chk (inb (0:Int) (List.length x1.1))<|
 chk (inb (gt (.int .i64) x1.1 (0:Int)) (List.length x1.2.2.2.2.2.2.2.2.2.2.2.2.1))<|
 chk (inb (0:Int) (List.length x0.1))<|
 chk (Sh.beq (.int .i64) (gt (.int .i64) x0.1 (0:Int)) (gt (.int .i64) x0.1 (0:Int)))<|
 chk (iQ (gt (.int .i64) x0.1 (0:Int)) (gt (.int .i64) x0.1 (0:Int)))<|
 chk (inb (gt (.int .i64) x0.1 (0:Int)) (List.length x1.2.2.2.2.2.2.2.2.2.2.2.2.1))<|
 chk (nQ (Int.toNat (gt (.int .i64) x0.1 (0:Int))) (Int.toNat (gt (.int .i64) x0.1 (0:Int))))<|
 chk (iQ (gt (.int .i64) x0.2.2.2.2.2.2.2.2.2.2.2.2.1 (gt (.int .i64) x0.1 (0:Int))) (gt (.int .i64) x1.2.2.2.2.2.2.2.2.2.2.2.2.1 (gt (.int .i64) x0.1 (0:Int))))<|
 bnd (F0 ((gt (.int .i64) x0.2.2.2.2.2.2.2.2.2.2.2.2.1 (gt (.int .i64) x0.1 (0:Int))),((gt (.int .i64) x1.2.2.2.2.2.2.2.2.2.2.2.2.1 (gt (.int .i64) x1.1 (0:Int))),()))) fun x2=>
 some (x2.1,x1.2)
def Zb6h (c0:Zau5) (c1:Zagt) :Zacf:=⟨u18 (Zb6i c0.F c1.F),pB Tryz.func146 29 (kD c0 (kB c1 k0)) e0 1 (sS l0) fun d=>by kernel_rfl⟩
def Zad8:Zacf:=Zb6h Zaym Zak6 
abbrev Zahy:Lay:=yRa4
abbrev Zacx:List (Ev.Ex×Lay):=[(.ret,yRa3)]
abbrev Zadw:=TL Zahy.σs→Option (Out Zacx)
abbrev Zac0:=Kb 265 5 Zahy 0 Zacx
abbrev Zabb:Lay:={ T:=[(0,.hd 0 Za4),(1,.int .i64),(2,.int .i64),(3,.int .i64),(10,.int .i64)],h:=yRa0,nx:=6 }
abbrev Zab3:List (Ev.Ex×Lay):=[((.exit 0),yRa3)]
abbrev Zaiu:=TL Zabb.σs→Option (Out Zab3)
abbrev Zaix:=Ld 6 38 (Zb5 [0] (Zaa Tryz.f265)) Zabb Zab3
def Zabq (t1 t2 t3 t10:Int) (b0:List (Sh.T Za4)) (b2_0:Int) (b2_1:List Int) (b2_2:List (Sh.T Za0)) (b2_3 b2_4 b2_5:List Int) (b2_6:List (Sh.T Za1)) (b2_7:List (Sh.T Za0)) (b3 b4 b5:List Int):Option (TL Zabb.σs⊕Out Zab3):=
 br (iL t10 t3)
 (
  chk (inb (IntKind.wrap .i64 (t2+t10)) (List.length b0))<|
  chk (inb (IntKind.wrap .i64 (t1+t10)) (List.length b0))<|
  chk (inb (IntKind.wrap .i64 (t1+t10)) (List.length b0))<|
  chk (inb (IntKind.wrap .i64 (t2+t10)) (List.length (List.set b0 (Int.toNat (IntKind.wrap .i64 (t1+t10))) ((gt Za4 b0 (IntKind.wrap .i64 (t2+t10))).1,((gt Za4 b0 (IntKind.wrap .i64 (t2+t10))).2.1,((gt Za4 b0 (IntKind.wrap .i64 (t2+t10))).2.2.1,()))))))<|
  chk (iQ t2 t2)<|
  chk (iQ t10 t10)<|
  chk (iQ (IntKind.wrap .i64 (t2+t10)) (IntKind.wrap .i64 (t2+t10)))<|
  some (.inl (t1,(t2,(t3,((IntKind.wrap .i64 (t10+(1:Int))),((List.set (List.set b0 (Int.toNat (IntKind.wrap .i64 (t1+t10))) ((gt Za4 b0 (IntKind.wrap .i64 (t2+t10))).1,((gt Za4 b0 (IntKind.wrap .i64 (t2+t10))).2.1,((gt Za4 b0 (IntKind.wrap .i64 (t2+t10))).2.2.1,())))) (Int.toNat (IntKind.wrap .i64 (t2+t10))) ((gt Za4 b0 (IntKind.wrap .i64 (t1+t10))).1,((gt Za4 b0 (IntKind.wrap .i64 (t1+t10))).2.1,((gt Za4 b0 (IntKind.wrap .i64 (t1+t10))).2.2.1,())))),(b2_0,(b2_1,(b2_2,(b2_3,(b2_4,(b2_5,(b2_6,(b2_7,(b3,(b4,(b5,()))))))))))))))))))
 (
  some (.inr (b0,(b2_0,(b2_1,(b2_2,(b2_3,(b2_4,(b2_5,(b2_6,(b2_7,(b3,(b4,(b5,()))))))))))))))
def Zaru  :Zaix:=mkL (u16 Zabq) (pL k0 e0 1 l0 fun d=>by kernel_rfl)
def Zas3 (F0:Zad7) (L1:Zaiu) (t1 t2 t3:Int) (b0:List (Sh.T Za4)) (b2_0:Int) (b2_1:List Int) (b2_2:List (Sh.T Za0)) (b2_3 b2_4 b2_5:List Int) (b2_6:List (Sh.T Za1)) (b2_7:List (Sh.T Za0)) (b3 b4 b5:List Int):Option (Out Zacx):=
 bnd (L1 (t1,(t2,(t3,((0:Int),(b0,(b2_0,(b2_1,(b2_2,(b2_3,(b2_4,(b2_5,(b2_6,(b2_7,(b3,(b4,(b5,()))))))))))))))))) fun x0=>
 some x0
def Zas2 (c0:Zacf) (M1:Zaix):Zac0:=⟨u15 (Zas3 c0.F M1.L),pB Tryz.func265 38 (kB c0 k0) e0 1 (sS (sC M1 l0)) fun d=>by kernel_rfl⟩
def Zadx:Zac0:=Zas2 Zad8 Zaru
abbrev Zajy:Lay:=yRa4
abbrev Zaar:List (Ev.Ex×Lay):=[(.ret,yRa3)]
abbrev Zal7:=TL Zajy.σs→Option (Out Zaar)
abbrev Zaev:=Kb 257 5 Zajy 0 Zaar
abbrev Zaas:Lay:={ T:=[(0,.hd 0 Za4),(2,.int .i64),(4,.func 146 [] [.ptr 1 0]),(10,.int .i64),(11,.int .i64)],h:=yRa0,nx:=6 }
abbrev Zaao:List (Ev.Ex×Lay):=[((.exit 0),{ T:=[(0,.hd 0 Za4),(2,.int .i64),(4,.func 146 [] [.ptr 1 0]),(10,.int .i64)],h:=yRa0,nx:=6 })]
abbrev Zakz:=TL Zaas.σs→Option (Out Zaao)
abbrev Zaes:=Ld 6 58 (Zb5 [0] (Zaa Tryz.f257)) Zaas Zaao
def Zaet (F1:Zadw) (t2 t10 t11:Int) (b0:List (Sh.T Za4)) (b2_0:Int) (b2_1:List Int) (b2_2:List (Sh.T Za0)) (b2_3 b2_4 b2_5:List Int) (b2_6:List (Sh.T Za1)) (b2_7:List (Sh.T Za0)) (b3 b4 b5:List Int):Option (TL Zaas.σs⊕Out Zaao):=
 br (Bool.not (iQ t10 t11))
 (
  br (iL t11 t10)
  (
   bnd (F1 ((IntKind.wrap .i64 (t2 - t10)),(t2,(t11,(b0,(b2_0,(b2_1,(b2_2,(b2_3,(b2_4,(b2_5,(b2_6,(b2_7,(b3,(b4,(b5,())))))))))))))))) fun x0=>
   some (.inl (t2,((IntKind.wrap .i64 (t10 - t11)),(t11,x0)))))
  (
   bnd (F1 ((IntKind.wrap .i64 (t2 - t10)),((IntKind.wrap .i64 ((IntKind.wrap .i64 (t2+t11)) - t10)),(t10,(b0,(b2_0,(b2_1,(b2_2,(b2_3,(b2_4,(b2_5,(b2_6,(b2_7,(b3,(b4,(b5,())))))))))))))))) fun x0=>
   some (.inl (t2,(t10,((IntKind.wrap .i64 (t11 - t10)),x0))))))
 (
  some (.inr (t2,(t10,(b0,(b2_0,(b2_1,(b2_2,(b2_3,(b2_4,(b2_5,(b2_6,(b2_7,(b3,(b4,(b5,()))))))))))))))))
def Zato (c1:Zac0) :Zaes:=mkL (u15 (Zaet c1.F)) (pL (kB c1 k0) e0 1 l0 fun d=>by kernel_rfl)
def Zatn:Zaes:=Zato Zadx 
def Zatw (F0:Zad7) (F1:Zadw) (L2:Zakz) (t1 t2 t3:Int) (b0:List (Sh.T Za4)) (b2_0:Int) (b2_1:List Int) (b2_2:List (Sh.T Za0)) (b2_3 b2_4 b2_5:List Int) (b2_6:List (Sh.T Za1)) (b2_7:List (Sh.T Za0)) (b3 b4 b5:List Int):Option (Out Zaar):=
 bnd (L2 (t2,((IntKind.wrap .i64 (t2 - t1)),((IntKind.wrap .i64 (t3 - t2)),(b0,(b2_0,(b2_1,(b2_2,(b2_3,(b2_4,(b2_5,(b2_6,(b2_7,(b3,(b4,(b5,())))))))))))))))) fun x0=>
 bnd (F1 ((IntKind.wrap .i64 (@HSub.hSub (Int) (Int) (Int) _ x0.1 x0.2.1)),x0)) fun x1=>
 some x1
def Zatv (c0:Zacf) (c1:Zac0) (M2:Zaes):Zaev:=⟨u15 (Zatw c0.F c1.F M2.L),pB Tryz.func257 58 (kB c0 (kB c1 k0)) e0 1 (sS (sC M2 l0)) fun d=>by kernel_rfl⟩
def Zal8:Zaev:=Zatv Zad8 Zadx Zatn
abbrev Zafm:Lay:={ T:=[(0,.hd 0 Za4),(1,.int .i64),(2,.int .i64),(3,.func 146 [] [.ptr 1 0])],h:=yRa0,nx:=6 }
abbrev Zac7:List (Ev.Ex×Lay):=[(.ret,yRa3)]
abbrev Zacv:=TL Zafm.σs→Option (Out Zac7)
abbrev Zab4:=Kb 227 4 Zafm 0 Zac7
abbrev Zaap:Lay:=yRa8
abbrev Zaal:List (Ev.Ex×Lay):=[((.exit 0),yRa3)]
abbrev Zag5:=TL Zaap.σs→Option (Out Zaal)
abbrev Zacj:=Ld 6 53 (Zb5 [0] (Zaa Tryz.f227)) Zaap Zaal
abbrev Zaaa:Lay:={ T:=[(0,.hd 0 Za4),(1,.int .i64),(2,.int .i64),(3,.func 146 [] [.ptr 1 0]),(8,.int .i64),(9,.int .i64)],h:=yRa0,nx:=6 }
abbrev Zaa9:List (Ev.Ex×Lay):=[((.exit 2),yRa8)]
abbrev Zach:=TL Zaaa.σs→Option (Out Zaa9)
abbrev Zaav:=Ld 6 53 (Zb5 [0,0] (Zaa Tryz.f227)) Zaaa Zaa9
def Zack (F0:Zad7) (t1 t2 t8 t9:Int) (b0:List (Sh.T Za4)) (b2_0:Int) (b2_1:List Int) (b2_2:List (Sh.T Za0)) (b2_3 b2_4 b2_5:List Int) (b2_6:List (Sh.T Za1)) (b2_7:List (Sh.T Za0)) (b3 b4 b5:List Int):Option (TL Zaaa.σs⊕Out Zaa9):=
 br (iL t1 t9)
 (
  chk (inb t9 (List.length b0))<|
  chk (inb (IntKind.wrap .i64 (t9 - (1:Int))) (List.length b0))<|
  bnd (F0 ((gt Za4 b0 t9).1,((gt Za4 b0 t9).2.1,((gt Za4 b0 t9).2.2.1,((gt Za4 b0 (IntKind.wrap .i64 (t9 - (1:Int)))).1,((gt Za4 b0 (IntKind.wrap .i64 (t9 - (1:Int)))).2.1,((gt Za4 b0 (IntKind.wrap .i64 (t9 - (1:Int)))).2.2.1,(b2_0,(b2_1,(b2_2,(b2_3,(b2_4,(b2_5,(b2_6,(b2_7,(b3,(b0,(b4,(b5,()))))))))))))))))))) fun x0=>
  br (selB true (iL x0.1 (0:Int)) false)
  (
   chk (inb (IntKind.wrap .i64 (t9 - (1:Int))) (List.length x0.2.2.2.2.2.2.2.2.2.2.1))<|
   chk (inb t9 (List.length x0.2.2.2.2.2.2.2.2.2.2.1))<|
   chk (inb t9 (List.length x0.2.2.2.2.2.2.2.2.2.2.1))<|
   chk (inb (IntKind.wrap .i64 (t9 - (1:Int))) (List.length (List.set x0.2.2.2.2.2.2.2.2.2.2.1 (Int.toNat t9) ((gt Za4 x0.2.2.2.2.2.2.2.2.2.2.1 (IntKind.wrap .i64 (t9 - (1:Int)))).1,((gt Za4 x0.2.2.2.2.2.2.2.2.2.2.1 (IntKind.wrap .i64 (t9 - (1:Int)))).2.1,((gt Za4 x0.2.2.2.2.2.2.2.2.2.2.1 (IntKind.wrap .i64 (t9 - (1:Int)))).2.2.1,()))))))<|
   chk (iQ t9 t9)<|
   chk (iQ (IntKind.wrap .i64 (t9 - (1:Int))) (IntKind.wrap .i64 (t9 - (1:Int))))<|
   some (.inl (t1,(t2,(t8,((IntKind.wrap .i64 (t9 - (1:Int))),((List.set (List.set x0.2.2.2.2.2.2.2.2.2.2.1 (Int.toNat t9) ((gt Za4 x0.2.2.2.2.2.2.2.2.2.2.1 (IntKind.wrap .i64 (t9 - (1:Int)))).1,((gt Za4 x0.2.2.2.2.2.2.2.2.2.2.1 (IntKind.wrap .i64 (t9 - (1:Int)))).2.1,((gt Za4 x0.2.2.2.2.2.2.2.2.2.2.1 (IntKind.wrap .i64 (t9 - (1:Int)))).2.2.1,())))) (Int.toNat (IntKind.wrap .i64 (t9 - (1:Int)))) ((gt Za4 x0.2.2.2.2.2.2.2.2.2.2.1 t9).1,((gt Za4 x0.2.2.2.2.2.2.2.2.2.2.1 t9).2.1,((gt Za4 x0.2.2.2.2.2.2.2.2.2.2.1 t9).2.2.1,())))),(x0.2.1,(x0.2.2.1,(x0.2.2.2.1,(x0.2.2.2.2.1,(x0.2.2.2.2.2.1,(x0.2.2.2.2.2.2.1,(x0.2.2.2.2.2.2.2.1,(x0.2.2.2.2.2.2.2.2.1,(x0.2.2.2.2.2.2.2.2.2.1,x0.2.2.2.2.2.2.2.2.2.2.2))))))))))))))))
  (
   some (.inr (t1,(t2,(t8,(x0.2.2.2.2.2.2.2.2.2.2.1,(x0.2.1,(x0.2.2.1,(x0.2.2.2.1,(x0.2.2.2.2.1,(x0.2.2.2.2.2.1,(x0.2.2.2.2.2.2.1,(x0.2.2.2.2.2.2.2.1,(x0.2.2.2.2.2.2.2.2.1,(x0.2.2.2.2.2.2.2.2.2.1,x0.2.2.2.2.2.2.2.2.2.2.2))))))))))))))))
 (
  some (.inr (t1,(t2,(t8,(b0,(b2_0,(b2_1,(b2_2,(b2_3,(b2_4,(b2_5,(b2_6,(b2_7,(b3,(b4,(b5,())))))))))))))))))
def Zaog (c0:Zacf) :Zaav:=mkL (u16 (Zack c0.F)) (pL (kB c0 k0) e0 1 l0 fun d=>by kernel_rfl)
def Zag6:Zaav:=Zaog Zad8 
def Zaaw (L4:Zach) (t1 t2 t8:Int) (b0:List (Sh.T Za4)) (b2_0:Int) (b2_1:List Int) (b2_2:List (Sh.T Za0)) (b2_3 b2_4 b2_5:List Int) (b2_6:List (Sh.T Za1)) (b2_7:List (Sh.T Za0)) (b3 b4 b5:List Int):Option (TL Zaap.σs⊕Out Zaal):=
 br (iL t8 t2)
 (
  bnd (L4 (t1,(t2,(t8,(t8,(b0,(b2_0,(b2_1,(b2_2,(b2_3,(b2_4,(b2_5,(b2_6,(b2_7,(b3,(b4,(b5,()))))))))))))))))) fun x0=>
  some (.inl (x0.1,(x0.2.1,((IntKind.wrap .i64 (@HAdd.hAdd (Int) (Int) (Int) _ x0.2.2.1 (1:Int))),x0.2.2.2)))))
 (
  some (.inr (b0,(b2_0,(b2_1,(b2_2,(b2_3,(b2_4,(b2_5,(b2_6,(b2_7,(b3,(b4,(b5,()))))))))))))))
def Zaoh (M4:Zaav):Zacj:=mkL (u15 (Zaaw M4.L)) (pL k0 e0 1 (sC M4 l0) fun d=>by kernel_rfl)
def Zaof:Zacj:=Zaoh  Zag6
def Zaq2 (F0:Zad7) (L1:Zag5) (L4:Zach) (t1 t2:Int) (b0:List (Sh.T Za4)) (b2_0:Int) (b2_1:List Int) (b2_2:List (Sh.T Za0)) (b2_3 b2_4 b2_5:List Int) (b2_6:List (Sh.T Za1)) (b2_7:List (Sh.T Za0)) (b3 b4 b5:List Int):Option (Out Zac7):=
 bnd (L1 (t1,(t2,((IntKind.wrap .i64 (t1+(1:Int))),(b0,(b2_0,(b2_1,(b2_2,(b2_3,(b2_4,(b2_5,(b2_6,(b2_7,(b3,(b4,(b5,())))))))))))))))) fun x0=>
 some x0
def Zaq1 (c0:Zacf) (M1:Zacj) (M4:Zaav):Zab4:=⟨u14 (Zaq2 c0.F M1.L M4.L),pB Tryz.func227 53 (kB c0 k0) e0 1 (sS (sC M1 l0)) fun d=>by kernel_rfl⟩
def Zacw:Zab4:=Zaq1 Zad8 Zaof Zag6
abbrev Zaip:Lay:=yRa4
abbrev Zabg:List (Ev.Ex×Lay):=[(.ret,yRa3)]
abbrev Zaa1:=TL Zaip.σs→Option (Out Zabg)
abbrev Zaa3:=Kb 228 5 Zaip 0 Zabg
abbrev Zab8:Lay:={ T:=[(0,.hd 0 Za4),(1,.int .i64),(2,.int .i64),(3,.int .i64),(4,.func 146 [] [.ptr 1 0]),(18,.int .i64),(19,.int .i64),(20,.int .i64),(21,.int .i64),(22,.int .i64)],h:=yRa0,nx:=6 }
abbrev Zab0:List (Ev.Ex×Lay):=[((.exit 8),{ T:=[(0,.hd 0 Za4),(1,.int .i64),(2,.int .i64),(3,.int .i64),(4,.func 146 [] [.ptr 1 0]),(18,.int .i64),(19,.int .i64),(20,.int .i64)],h:=yRa0,nx:=6 })]
abbrev Zaiq:=TL Zab8.σs→Option (Out Zab0)
abbrev Zadf:=Ld 6 220 (Zb5 [4] (Zaa Tryz.f228)) Zab8 Zab0
abbrev Zab9:Lay:={ T:=[(0,.hd 0 Za4),(14,.int .i64),(17,.int .i64)],h:=yRa0,nx:=6 }
abbrev Zab1:List (Ev.Ex×Lay):=[((.exit 6),yRa3)]
abbrev Zair:=TL Zab9.σs→Option (Out Zab1)
abbrev Zadg:=Ld 6 220 (Zb5 [3] (Zaa Tryz.f228)) Zab9 Zab1
abbrev Zaba:Lay:={ T:=[(0,.hd 0 Za4),(2,.int .i64),(4,.func 146 [] [.ptr 1 0]),(14,.int .i64),(15,.int .i64)],h:=yRa0,nx:=6 }
abbrev Zab2:List (Ev.Ex×Lay):=[((.exit 4),{ T:=[(0,.hd 0 Za4),(2,.int .i64),(14,.int .i64)],h:=yRa0,nx:=6 })]
abbrev Zais:=TL Zaba.σs→Option (Out Zab2)
abbrev Zadh:=Ld 6 220 (Zb5 [2] (Zaa Tryz.f228)) Zaba Zab2
abbrev Zabh:Lay:={ T:=[(0,.hd 0 Za4),(10,.int .i64),(13,.int .i64)],h:=yRa0,nx:=6 }
abbrev Zab6:List (Ev.Ex×Lay):=[((.exit 2),yRa3)]
abbrev Zajn:=TL Zabh.σs→Option (Out Zab6)
abbrev Zadu:=Ld 6 220 (Zb5 [1] (Zaa Tryz.f228)) Zabh Zab6
abbrev Zabi:Lay:={ T:=[(0,.hd 0 Za4),(1,.int .i64),(4,.func 146 [] [.ptr 1 0]),(10,.int .i64),(11,.int .i64)],h:=yRa0,nx:=6 }
abbrev Zab7:List (Ev.Ex×Lay):=[((.exit 0),{ T:=[(0,.hd 0 Za4),(1,.int .i64),(10,.int .i64)],h:=yRa0,nx:=6 })]
abbrev Zajo:=TL Zabi.σs→Option (Out Zab7)
abbrev Zadv:=Ld 6 220 (Zb5 [0] (Zaa Tryz.f228)) Zabi Zab7
def Zaag (F0:Zad7) (t1 t10 t11:Int) (b0:List (Sh.T Za4)) (b2_0:Int) (b2_1:List Int) (b2_2:List (Sh.T Za0)) (b2_3 b2_4 b2_5:List Int) (b2_6:List (Sh.T Za1)) (b2_7:List (Sh.T Za0)) (b3 b4 b5:List Int):Option (TL Zabi.σs⊕Out Zab7):=
 br (iL t10 t11)
 (
  chk (inb (IntKind.wrap .i64 (Int.fdiv (IntKind.wrap .u64 (IntKind.wrap .i64 (t10+t11))) (HPow.hPow (2:Int) (Min.min (Int.toNat (1:Int)) 64)))) (List.length b0))<|
  chk (inb t1 (List.length b0))<|
  bnd (F0 ((gt Za4 b0 (IntKind.wrap .i64 (Int.fdiv (IntKind.wrap .u64 (IntKind.wrap .i64 (t10+t11))) (HPow.hPow (2:Int) (Min.min (Int.toNat (1:Int)) 64))))).1,((gt Za4 b0 (IntKind.wrap .i64 (Int.fdiv (IntKind.wrap .u64 (IntKind.wrap .i64 (t10+t11))) (HPow.hPow (2:Int) (Min.min (Int.toNat (1:Int)) 64))))).2.1,((gt Za4 b0 (IntKind.wrap .i64 (Int.fdiv (IntKind.wrap .u64 (IntKind.wrap .i64 (t10+t11))) (HPow.hPow (2:Int) (Min.min (Int.toNat (1:Int)) 64))))).2.2.1,((gt Za4 b0 t1).1,((gt Za4 b0 t1).2.1,((gt Za4 b0 t1).2.2.1,(b2_0,(b2_1,(b2_2,(b2_3,(b2_4,(b2_5,(b2_6,(b2_7,(b3,(b0,(b4,(b5,()))))))))))))))))))) fun x0=>
  br (iL x0.1 (0:Int))
  (
   some (.inl (t1,((IntKind.wrap .i64 ((IntKind.wrap .i64 (Int.fdiv (IntKind.wrap .u64 (IntKind.wrap .i64 (t10+t11))) (HPow.hPow (2:Int) (Min.min (Int.toNat (1:Int)) 64))))+(1:Int))),(t11,(x0.2.2.2.2.2.2.2.2.2.2.1,(x0.2.1,(x0.2.2.1,(x0.2.2.2.1,(x0.2.2.2.2.1,(x0.2.2.2.2.2.1,(x0.2.2.2.2.2.2.1,(x0.2.2.2.2.2.2.2.1,(x0.2.2.2.2.2.2.2.2.1,(x0.2.2.2.2.2.2.2.2.2.1,x0.2.2.2.2.2.2.2.2.2.2.2)))))))))))))))
  (
   some (.inl (t1,(t10,((IntKind.wrap .i64 (Int.fdiv (IntKind.wrap .u64 (IntKind.wrap .i64 (t10+t11))) (HPow.hPow (2:Int) (Min.min (Int.toNat (1:Int)) 64)))),(x0.2.2.2.2.2.2.2.2.2.2.1,(x0.2.1,(x0.2.2.1,(x0.2.2.2.1,(x0.2.2.2.2.1,(x0.2.2.2.2.2.1,(x0.2.2.2.2.2.2.1,(x0.2.2.2.2.2.2.2.1,(x0.2.2.2.2.2.2.2.2.1,(x0.2.2.2.2.2.2.2.2.2.1,x0.2.2.2.2.2.2.2.2.2.2.2))))))))))))))))
 (
  some (.inr (t1,(t10,(b0,(b2_0,(b2_1,(b2_2,(b2_3,(b2_4,(b2_5,(b2_6,(b2_7,(b3,(b4,(b5,()))))))))))))))))
def Zas1 (c0:Zacf) :Zadv:=mkL (u15 (Zaag c0.F)) (pL (kB c0 k0) e0 1 l0 fun d=>by kernel_rfl)
def Zarz (s:Zaa3):Zadv:=Zas1 Zad8 
def Zabz (t10 t13:Int) (b0:List (Sh.T Za4)) (b2_0:Int) (b2_1:List Int) (b2_2:List (Sh.T Za0)) (b2_3 b2_4 b2_5:List Int) (b2_6:List (Sh.T Za1)) (b2_7:List (Sh.T Za0)) (b3 b4 b5:List Int):Option (TL Zabh.σs⊕Out Zab6):=
 br (iL t13 (IntKind.wrap .i64 (t10 - (1:Int))))
 (
  chk (inb (IntKind.wrap .i64 (t13+(1:Int))) (List.length b0))<|
  chk (inb t13 (List.length b0))<|
  chk (inb t13 (List.length b0))<|
  chk (inb (IntKind.wrap .i64 (t13+(1:Int))) (List.length (List.set b0 (Int.toNat t13) ((gt Za4 b0 (IntKind.wrap .i64 (t13+(1:Int)))).1,((gt Za4 b0 (IntKind.wrap .i64 (t13+(1:Int)))).2.1,((gt Za4 b0 (IntKind.wrap .i64 (t13+(1:Int)))).2.2.1,()))))))<|
  chk (iQ t13 t13)<|
  chk (iQ (IntKind.wrap .i64 (t13+(1:Int))) (IntKind.wrap .i64 (t13+(1:Int))))<|
  some (.inl (t10,((IntKind.wrap .i64 (t13+(1:Int))),((List.set (List.set b0 (Int.toNat t13) ((gt Za4 b0 (IntKind.wrap .i64 (t13+(1:Int)))).1,((gt Za4 b0 (IntKind.wrap .i64 (t13+(1:Int)))).2.1,((gt Za4 b0 (IntKind.wrap .i64 (t13+(1:Int)))).2.2.1,())))) (Int.toNat (IntKind.wrap .i64 (t13+(1:Int)))) ((gt Za4 b0 t13).1,((gt Za4 b0 t13).2.1,((gt Za4 b0 t13).2.2.1,())))),(b2_0,(b2_1,(b2_2,(b2_3,(b2_4,(b2_5,(b2_6,(b2_7,(b3,(b4,(b5,()))))))))))))))))
 (
  some (.inr (b0,(b2_0,(b2_1,(b2_2,(b2_3,(b2_4,(b2_5,(b2_6,(b2_7,(b3,(b4,(b5,()))))))))))))))
def Zas0  :Zadu:=mkL (u14 Zabz) (pL k0 e0 1 l0 fun d=>by kernel_rfl)
def Zary (s:Zaa3):Zadu:=Zas0  
def Zaac (F0:Zad7) (t2 t14 t15:Int) (b0:List (Sh.T Za4)) (b2_0:Int) (b2_1:List Int) (b2_2:List (Sh.T Za0)) (b2_3 b2_4 b2_5:List Int) (b2_6:List (Sh.T Za1)) (b2_7:List (Sh.T Za0)) (b3 b4 b5:List Int):Option (TL Zaba.σs⊕Out Zab2):=
 br (iL t14 t15)
 (
  chk (inb t2 (List.length b0))<|
  chk (inb (IntKind.wrap .i64 (Int.fdiv (IntKind.wrap .u64 (IntKind.wrap .i64 (t14+t15))) (HPow.hPow (2:Int) (Min.min (Int.toNat (1:Int)) 64)))) (List.length b0))<|
  bnd (F0 ((gt Za4 b0 t2).1,((gt Za4 b0 t2).2.1,((gt Za4 b0 t2).2.2.1,((gt Za4 b0 (IntKind.wrap .i64 (Int.fdiv (IntKind.wrap .u64 (IntKind.wrap .i64 (t14+t15))) (HPow.hPow (2:Int) (Min.min (Int.toNat (1:Int)) 64))))).1,((gt Za4 b0 (IntKind.wrap .i64 (Int.fdiv (IntKind.wrap .u64 (IntKind.wrap .i64 (t14+t15))) (HPow.hPow (2:Int) (Min.min (Int.toNat (1:Int)) 64))))).2.1,((gt Za4 b0 (IntKind.wrap .i64 (Int.fdiv (IntKind.wrap .u64 (IntKind.wrap .i64 (t14+t15))) (HPow.hPow (2:Int) (Min.min (Int.toNat (1:Int)) 64))))).2.2.1,(b2_0,(b2_1,(b2_2,(b2_3,(b2_4,(b2_5,(b2_6,(b2_7,(b3,(b0,(b4,(b5,()))))))))))))))))))) fun x0=>
  br (Bool.not (iL x0.1 (0:Int)))
  (
   some (.inl (t2,((IntKind.wrap .i64 ((IntKind.wrap .i64 (Int.fdiv (IntKind.wrap .u64 (IntKind.wrap .i64 (t14+t15))) (HPow.hPow (2:Int) (Min.min (Int.toNat (1:Int)) 64))))+(1:Int))),(t15,(x0.2.2.2.2.2.2.2.2.2.2.1,(x0.2.1,(x0.2.2.1,(x0.2.2.2.1,(x0.2.2.2.2.1,(x0.2.2.2.2.2.1,(x0.2.2.2.2.2.2.1,(x0.2.2.2.2.2.2.2.1,(x0.2.2.2.2.2.2.2.2.1,(x0.2.2.2.2.2.2.2.2.2.1,x0.2.2.2.2.2.2.2.2.2.2.2)))))))))))))))
  (
   some (.inl (t2,(t14,((IntKind.wrap .i64 (Int.fdiv (IntKind.wrap .u64 (IntKind.wrap .i64 (t14+t15))) (HPow.hPow (2:Int) (Min.min (Int.toNat (1:Int)) 64)))),(x0.2.2.2.2.2.2.2.2.2.2.1,(x0.2.1,(x0.2.2.1,(x0.2.2.2.1,(x0.2.2.2.2.1,(x0.2.2.2.2.2.1,(x0.2.2.2.2.2.2.1,(x0.2.2.2.2.2.2.2.1,(x0.2.2.2.2.2.2.2.2.1,(x0.2.2.2.2.2.2.2.2.2.1,x0.2.2.2.2.2.2.2.2.2.2.2))))))))))))))))
 (
  some (.inr (t2,(t14,(b0,(b2_0,(b2_1,(b2_2,(b2_3,(b2_4,(b2_5,(b2_6,(b2_7,(b3,(b4,(b5,()))))))))))))))))
def Zart (c0:Zacf) :Zadh:=mkL (u15 (Zaac c0.F)) (pL (kB c0 k0) e0 1 l0 fun d=>by kernel_rfl)
def Zarq (s:Zaa3):Zadh:=Zart Zad8 
def Zabp (t14 t17:Int) (b0:List (Sh.T Za4)) (b2_0:Int) (b2_1:List Int) (b2_2:List (Sh.T Za0)) (b2_3 b2_4 b2_5:List Int) (b2_6:List (Sh.T Za1)) (b2_7:List (Sh.T Za0)) (b3 b4 b5:List Int):Option (TL Zab9.σs⊕Out Zab1):=
 br (iL t14 t17)
 (
  chk (inb (IntKind.wrap .i64 (t17 - (1:Int))) (List.length b0))<|
  chk (inb t17 (List.length b0))<|
  chk (inb t17 (List.length b0))<|
  chk (inb (IntKind.wrap .i64 (t17 - (1:Int))) (List.length (List.set b0 (Int.toNat t17) ((gt Za4 b0 (IntKind.wrap .i64 (t17 - (1:Int)))).1,((gt Za4 b0 (IntKind.wrap .i64 (t17 - (1:Int)))).2.1,((gt Za4 b0 (IntKind.wrap .i64 (t17 - (1:Int)))).2.2.1,()))))))<|
  chk (iQ t17 t17)<|
  chk (iQ (IntKind.wrap .i64 (t17 - (1:Int))) (IntKind.wrap .i64 (t17 - (1:Int))))<|
  some (.inl (t14,((IntKind.wrap .i64 (t17 - (1:Int))),((List.set (List.set b0 (Int.toNat t17) ((gt Za4 b0 (IntKind.wrap .i64 (t17 - (1:Int)))).1,((gt Za4 b0 (IntKind.wrap .i64 (t17 - (1:Int)))).2.1,((gt Za4 b0 (IntKind.wrap .i64 (t17 - (1:Int)))).2.2.1,())))) (Int.toNat (IntKind.wrap .i64 (t17 - (1:Int)))) ((gt Za4 b0 t17).1,((gt Za4 b0 t17).2.1,((gt Za4 b0 t17).2.2.1,())))),(b2_0,(b2_1,(b2_2,(b2_3,(b2_4,(b2_5,(b2_6,(b2_7,(b3,(b4,(b5,()))))))))))))))))
 (
  some (.inr (b0,(b2_0,(b2_1,(b2_2,(b2_3,(b2_4,(b2_5,(b2_6,(b2_7,(b3,(b4,(b5,()))))))))))))))
def Zars  :Zadg:=mkL (u14 Zabp) (pL k0 e0 1 l0 fun d=>by kernel_rfl)
def Zarp (s:Zaa3):Zadg:=Zars  
def Zaab (F0:Zad7) (t1 t2 t3 t18 t19 t20 t21 t22:Int) (b0:List (Sh.T Za4)) (b2_0:Int) (b2_1:List Int) (b2_2:List (Sh.T Za0)) (b2_3 b2_4 b2_5:List Int) (b2_6:List (Sh.T Za1)) (b2_7:List (Sh.T Za0)) (b3 b4 b5:List Int):Option (TL Zab8.σs⊕Out Zab0):=
 br (iL t20 t21)
 (
  chk (inb (IntKind.wrap .i64 (t22 - (IntKind.wrap .i64 (Int.fdiv (IntKind.wrap .u64 (IntKind.wrap .i64 (t20+t21))) (HPow.hPow (2:Int) (Min.min (Int.toNat (1:Int)) 64)))))) (List.length b0))<|
  chk (inb (IntKind.wrap .i64 (Int.fdiv (IntKind.wrap .u64 (IntKind.wrap .i64 (t20+t21))) (HPow.hPow (2:Int) (Min.min (Int.toNat (1:Int)) 64)))) (List.length b0))<|
  bnd (F0 ((gt Za4 b0 (IntKind.wrap .i64 (t22 - (IntKind.wrap .i64 (Int.fdiv (IntKind.wrap .u64 (IntKind.wrap .i64 (t20+t21))) (HPow.hPow (2:Int) (Min.min (Int.toNat (1:Int)) 64))))))).1,((gt Za4 b0 (IntKind.wrap .i64 (t22 - (IntKind.wrap .i64 (Int.fdiv (IntKind.wrap .u64 (IntKind.wrap .i64 (t20+t21))) (HPow.hPow (2:Int) (Min.min (Int.toNat (1:Int)) 64))))))).2.1,((gt Za4 b0 (IntKind.wrap .i64 (t22 - (IntKind.wrap .i64 (Int.fdiv (IntKind.wrap .u64 (IntKind.wrap .i64 (t20+t21))) (HPow.hPow (2:Int) (Min.min (Int.toNat (1:Int)) 64))))))).2.2.1,((gt Za4 b0 (IntKind.wrap .i64 (Int.fdiv (IntKind.wrap .u64 (IntKind.wrap .i64 (t20+t21))) (HPow.hPow (2:Int) (Min.min (Int.toNat (1:Int)) 64))))).1,((gt Za4 b0 (IntKind.wrap .i64 (Int.fdiv (IntKind.wrap .u64 (IntKind.wrap .i64 (t20+t21))) (HPow.hPow (2:Int) (Min.min (Int.toNat (1:Int)) 64))))).2.1,((gt Za4 b0 (IntKind.wrap .i64 (Int.fdiv (IntKind.wrap .u64 (IntKind.wrap .i64 (t20+t21))) (HPow.hPow (2:Int) (Min.min (Int.toNat (1:Int)) 64))))).2.2.1,(b2_0,(b2_1,(b2_2,(b2_3,(b2_4,(b2_5,(b2_6,(b2_7,(b3,(b0,(b4,(b5,()))))))))))))))))))) fun x0=>
  br (Bool.not (iL x0.1 (0:Int)))
  (
   some (.inl (t1,(t2,(t3,(t18,(t19,((IntKind.wrap .i64 ((IntKind.wrap .i64 (Int.fdiv (IntKind.wrap .u64 (IntKind.wrap .i64 (t20+t21))) (HPow.hPow (2:Int) (Min.min (Int.toNat (1:Int)) 64))))+(1:Int))),(t21,(t22,(x0.2.2.2.2.2.2.2.2.2.2.1,(x0.2.1,(x0.2.2.1,(x0.2.2.2.1,(x0.2.2.2.2.1,(x0.2.2.2.2.2.1,(x0.2.2.2.2.2.2.1,(x0.2.2.2.2.2.2.2.1,(x0.2.2.2.2.2.2.2.2.1,(x0.2.2.2.2.2.2.2.2.2.1,x0.2.2.2.2.2.2.2.2.2.2.2))))))))))))))))))))
  (
   some (.inl (t1,(t2,(t3,(t18,(t19,(t20,((IntKind.wrap .i64 (Int.fdiv (IntKind.wrap .u64 (IntKind.wrap .i64 (t20+t21))) (HPow.hPow (2:Int) (Min.min (Int.toNat (1:Int)) 64)))),(t22,(x0.2.2.2.2.2.2.2.2.2.2.1,(x0.2.1,(x0.2.2.1,(x0.2.2.2.1,(x0.2.2.2.2.1,(x0.2.2.2.2.2.1,(x0.2.2.2.2.2.2.1,(x0.2.2.2.2.2.2.2.1,(x0.2.2.2.2.2.2.2.2.1,(x0.2.2.2.2.2.2.2.2.2.1,x0.2.2.2.2.2.2.2.2.2.2.2)))))))))))))))))))))
 (
  some (.inr (t1,(t2,(t3,(t18,(t19,(t20,(b0,(b2_0,(b2_1,(b2_2,(b2_3,(b2_4,(b2_5,(b2_6,(b2_7,(b3,(b4,(b5,()))))))))))))))))))))
def Zarr (c0:Zacf) :Zadf:=mkL (u20 (Zaab c0.F)) (pL (kB c0 k0) e0 1 l0 fun d=>by kernel_rfl)
def Zaro (s:Zaa3):Zadf:=Zarr Zad8 
abbrev NdT:=Za4.T
abbrev WkT:=TL [.int .i64,.sl (.int .i64),.sl Za0,.sl (.int .i64),.sl (.int .i64),.sl (.int .i64),.sl Za1,.sl Za0,.sl (.int .i64),.sl (.int .u8),.sl (.int .i64)]
abbrev SymO:=Option (Out Zabg)
def symV (F1:Zaa1) (b mid e:Int) (x:List NdT×WkT):SymO:=
 br (iL mid e) (br (selB true (iL e b) false) (bnd (F1 (mid,(e,(b,(x.1,x.2))))) fun y=>some (y.1,y.2)) (some x)) (some x)
def symU (F1:Zaa1) (a b mid s e:Int) (x:List NdT×WkT):SymO:=
 br (iL a s) (br (selB true (iL s mid) false) (bnd (F1 (a,(s,(mid,(x.1,x.2))))) fun y=>symV F1 b mid e y) (symV F1 b mid e x)) (symV F1 b mid e x)
def symG (F2:Zal7) (F1:Zaa1) (a m b mid s e:Int) (x:List NdT×WkT):SymO:=
 br (iL s m) (br (selB true (iL m e) false) (bnd (F2 (s,(m,(e,(x.1,x.2))))) fun y=>symU F1 a b mid s e y) (symU F1 a b mid s e x)) (symU F1 a b mid s e x)
def symH (F2:Zal7) (F1:Zaa1) (x0:Out Zab0):SymO:=
 symG F2 F1 x0.1 x0.2.1 x0.2.2.1 x0.2.2.2.1 x0.2.2.2.2.2.1 (IntKind.wrap .i64 (@HSub.hSub (Int) (Int) (Int) _ x0.2.2.2.2.1 x0.2.2.2.2.2.1)) x0.2.2.2.2.2.2
def Zaat (F0:Zad7) (F1:Zaa1) (F2:Zal7) (L3:Zajo) (L9:Zajn) (L15:Zais) (L21:Zair) (L33:Zaiq) (t1 t2 t3:Int) (b0:List (Sh.T Za4)) (b2_0:Int) (b2_1:List Int) (b2_2:List (Sh.T Za0)) (b2_3 b2_4 b2_5:List Int) (b2_6:List (Sh.T Za1)) (b2_7:List (Sh.T Za0)) (b3 b4 b5:List Int):Option (Out Zabg):=
 br (iQ (IntKind.wrap .i64 (t2 - t1)) (1:Int))
 (
  bnd (L3 (t1,(t2,(t3,(b0,(b2_0,(b2_1,(b2_2,(b2_3,(b2_4,(b2_5,(b2_6,(b2_7,(b3,(b4,(b5,())))))))))))))))) fun x0=>
  bnd (L9 (x0.2.1,(x0.1,x0.2.2))) fun x1=>
  some x1)
 (
  br (iQ (IntKind.wrap .i64 (t3 - t2)) (1:Int))
  (
   bnd (L15 (t2,(t1,(t2,(b0,(b2_0,(b2_1,(b2_2,(b2_3,(b2_4,(b2_5,(b2_6,(b2_7,(b3,(b4,(b5,())))))))))))))))) fun x0=>
   bnd (L21 (x0.2.1,(x0.1,x0.2.2))) fun x1=>
   some x1)
  (
   br (iL (IntKind.wrap .i64 (Int.fdiv (IntKind.wrap .u64 (IntKind.wrap .i64 (t1+t3))) (HPow.hPow (2:Int) (Min.min (Int.toNat (1:Int)) 64)))) t2)
   (
    bnd (L33 (t1,(t2,(t3,((IntKind.wrap .i64 (Int.fdiv (IntKind.wrap .u64 (IntKind.wrap .i64 (t1+t3))) (HPow.hPow (2:Int) (Min.min (Int.toNat (1:Int)) 64)))),((IntKind.wrap .i64 ((IntKind.wrap .i64 (Int.fdiv (IntKind.wrap .u64 (IntKind.wrap .i64 (t1+t3))) (HPow.hPow (2:Int) (Min.min (Int.toNat (1:Int)) 64))))+t2)),((IntKind.wrap .i64 ((IntKind.wrap .i64 ((IntKind.wrap .i64 (Int.fdiv (IntKind.wrap .u64 (IntKind.wrap .i64 (t1+t3))) (HPow.hPow (2:Int) (Min.min (Int.toNat (1:Int)) 64))))+t2)) - t3)),((IntKind.wrap .i64 (Int.fdiv (IntKind.wrap .u64 (IntKind.wrap .i64 (t1+t3))) (HPow.hPow (2:Int) (Min.min (Int.toNat (1:Int)) 64)))),((IntKind.wrap .i64 ((IntKind.wrap .i64 ((IntKind.wrap .i64 (Int.fdiv (IntKind.wrap .u64 (IntKind.wrap .i64 (t1+t3))) (HPow.hPow (2:Int) (Min.min (Int.toNat (1:Int)) 64))))+t2)) - (1:Int))),(b0,(b2_0,(b2_1,(b2_2,(b2_3,(b2_4,(b2_5,(b2_6,(b2_7,(b3,(b4,(b5,()))))))))))))))))))))) fun x0=>symH F2 F1 x0)
   (
    bnd (L33 (t1,(t2,(t3,((IntKind.wrap .i64 (Int.fdiv (IntKind.wrap .u64 (IntKind.wrap .i64 (t1+t3))) (HPow.hPow (2:Int) (Min.min (Int.toNat (1:Int)) 64)))),((IntKind.wrap .i64 ((IntKind.wrap .i64 (Int.fdiv (IntKind.wrap .u64 (IntKind.wrap .i64 (t1+t3))) (HPow.hPow (2:Int) (Min.min (Int.toNat (1:Int)) 64))))+t2)),(t1,(t2,((IntKind.wrap .i64 ((IntKind.wrap .i64 ((IntKind.wrap .i64 (Int.fdiv (IntKind.wrap .u64 (IntKind.wrap .i64 (t1+t3))) (HPow.hPow (2:Int) (Min.min (Int.toNat (1:Int)) 64))))+t2)) - (1:Int))),(b0,(b2_0,(b2_1,(b2_2,(b2_3,(b2_4,(b2_5,(b2_6,(b2_7,(b3,(b4,(b5,()))))))))))))))))))))) fun x0=>symH F2 F1 x0)))
def Zass (c0:Zacf) (c1:Zaa3) (c2:Zaev) (M3:Zadv) (M9:Zadu) (M15:Zadh) (M21:Zadg) (M33:Zadf):Zaa3:=⟨u15 (Zaat c0.F c1.F c2.F M3.L M9.L M15.L M21.L M33.L),pB Tryz.func228 220 (kB c0 (kB c1 (kB c2 k0))) e0 1 (sS (sC M3 (sC M9 (sC M15 (sC M21 (sC M33 l0)))))) fun d=>by kernel_rfl⟩
def Zaa6:Nat→Zaa3
 | 0=>mk0 Tryz.func228 (by kernel_rfl) (by kernel_rfl)
 | k+1=>Zass Zad8 (Zaa6 k) Zal8 (Zarz (Zaa6 k)) (Zary (Zaa6 k)) (Zarq (Zaa6 k)) (Zarp (Zaa6 k)) (Zaro (Zaa6 k))
def Zac6:Zaa3:=Zaa6 NN
abbrev Zajx:Lay:={ T:=[(0,.hd 0 Za4),(1,.int .i64),(2,.func 146 [] [.ptr 1 0])],h:=yRa0,nx:=6 }
abbrev Zady:List (Ev.Ex×Lay):=[(.ret,yRa3)]
abbrev Zal5:=TL Zajx.σs→Option (Out Zady)
abbrev Zaeu:=Kb 197 3 Zajx 0 Zady
abbrev Zac2:Lay:={ T:=[(0,.hd 0 Za4),(1,.int .i64),(2,.func 146 [] [.ptr 1 0]),(6,.int .i64)],h:=yRa0,nx:=6 }
abbrev Zabs:List (Ev.Ex×Lay):=[((.exit 2),yRa3)]
abbrev Zaku:=TL Zac2.σs→Option (Out Zabs)
abbrev Zaem:=Ld 6 63 (Zb5 [1] (Zaa Tryz.f197)) Zac2 Zabs
abbrev Zac1:Lay:=yRa7
abbrev Zabr:List (Ev.Ex×Lay):=[((.exit 4),yRa9)]
abbrev Zael:=TL Zac1.σs→Option (Out Zabr)
abbrev Zacd:=Ld 6 63 (Zb5 [1,0] (Zaa Tryz.f197)) Zac1 Zabr
abbrev Zac3:Lay:=yRa7
abbrev Zabt:List (Ev.Ex×Lay):=[((.exit 0),yRa9)]
abbrev Zakv:=TL Zac3.σs→Option (Out Zabt)
abbrev Zaen:=Ld 6 63 (Zb5 [0] (Zaa Tryz.f197)) Zac3 Zabt
def Zaeq (F2:Zacv) (t1 t6 t7 t8:Int) (b0:List (Sh.T Za4)) (b2_0:Int) (b2_1:List Int) (b2_2:List (Sh.T Za0)) (b2_3 b2_4 b2_5:List Int) (b2_6:List (Sh.T Za1)) (b2_7:List (Sh.T Za0)) (b3 b4 b5:List Int):Option (TL Zac3.σs⊕Out Zabt):=
 br (iE t8 t1)
 (
  bnd (F2 (t7,(t8,(b0,(b2_0,(b2_1,(b2_2,(b2_3,(b2_4,(b2_5,(b2_6,(b2_7,(b3,(b4,(b5,()))))))))))))))) fun x0=>
  some (.inl (t1,(t6,(t8,((IntKind.wrap .i64 (t8+t6)),x0))))))
 (
  some (.inr (t1,(t6,(t7,(b0,(b2_0,(b2_1,(b2_2,(b2_3,(b2_4,(b2_5,(b2_6,(b2_7,(b3,(b4,(b5,())))))))))))))))))
def Zatl (c2:Zab4) :Zaen:=mkL (u16 (Zaeq c2.F)) (pL (kB c2 k0) e0 1 l0 fun d=>by kernel_rfl)
def Zati:Zaen:=Zatl Zacw 
def Zaeo (F1:Zaa1) (t1 t6 t7 t8:Int) (b0:List (Sh.T Za4)) (b2_0:Int) (b2_1:List Int) (b2_2:List (Sh.T Za0)) (b2_3 b2_4 b2_5:List Int) (b2_6:List (Sh.T Za1)) (b2_7:List (Sh.T Za0)) (b3 b4 b5:List Int):Option (TL Zac1.σs⊕Out Zabr):=
 br (iE t8 t1)
 (
  bnd (F1 (t7,((IntKind.wrap .i64 (t7+t6)),(t8,(b0,(b2_0,(b2_1,(b2_2,(b2_3,(b2_4,(b2_5,(b2_6,(b2_7,(b3,(b4,(b5,())))))))))))))))) fun x0=>
  some (.inl (t1,(t6,(t8,((IntKind.wrap .i64 (t8+(IntKind.wrap .i64 ((2:Int)*t6)))),x0))))))
 (
  some (.inr (t1,(t6,(t7,(b0,(b2_0,(b2_1,(b2_2,(b2_3,(b2_4,(b2_5,(b2_6,(b2_7,(b3,(b4,(b5,())))))))))))))))))
def Zatj (c1:Zaa3) :Zacd:=mkL (u16 (Zaeo c1.F)) (pL (kB c1 k0) e0 1 l0 fun d=>by kernel_rfl)
def Zakw:Zacd:=Zatj Zac6 
def Zaep (F1:Zaa1) (L9:Zael) (t1 t6:Int) (b0:List (Sh.T Za4)) (b2_0:Int) (b2_1:List Int) (b2_2:List (Sh.T Za0)) (b2_3 b2_4 b2_5:List Int) (b2_6:List (Sh.T Za1)) (b2_7:List (Sh.T Za0)) (b3 b4 b5:List Int):Option (TL Zac2.σs⊕Out Zabs):=
 br (iL t6 t1)
 (
  bnd (L9 (t1,(t6,((0:Int),((IntKind.wrap .i64 ((2:Int)*t6)),(b0,(b2_0,(b2_1,(b2_2,(b2_3,(b2_4,(b2_5,(b2_6,(b2_7,(b3,(b4,(b5,()))))))))))))))))) fun x0=>
  br (iL (IntKind.wrap .i64 (@HAdd.hAdd (Int) (Int) (Int) _ x0.2.2.1 x0.2.1)) x0.1)
  (
   bnd (F1 (x0.2.2.1,((IntKind.wrap .i64 (@HAdd.hAdd (Int) (Int) (Int) _ x0.2.2.1 x0.2.1)),(x0.1,x0.2.2.2)))) fun x1=>
   some (.inl (x0.1,((IntKind.wrap .i64 (@HMul.hMul (Int) (Int) (Int) _ x0.2.1 (2:Int))),x1))))
  (
   some (.inl (x0.1,((IntKind.wrap .i64 (@HMul.hMul (Int) (Int) (Int) _ x0.2.1 (2:Int))),x0.2.2.2)))))
 (
  some (.inr (b0,(b2_0,(b2_1,(b2_2,(b2_3,(b2_4,(b2_5,(b2_6,(b2_7,(b3,(b4,(b5,()))))))))))))))
def Zatk (c1:Zaa3) (M9:Zacd):Zaem:=mkL (u14 (Zaep c1.F M9.L)) (pL (kB c1 k0) e0 1 (sC M9 l0) fun d=>by kernel_rfl)
def Zath:Zaem:=Zatk Zac6 Zakw
def Zatu (F0:Zad7) (F1:Zaa1) (F2:Zacv) (L2:Zakv) (L7:Zaku) (L9:Zael) (t1:Int) (b0:List (Sh.T Za4)) (b2_0:Int) (b2_1:List Int) (b2_2:List (Sh.T Za0)) (b2_3 b2_4 b2_5:List Int) (b2_6:List (Sh.T Za1)) (b2_7:List (Sh.T Za0)) (b3 b4 b5:List Int):Option (Out Zady):=
 bnd (L2 (t1,((20:Int),((0:Int),((20:Int),(b0,(b2_0,(b2_1,(b2_2,(b2_3,(b2_4,(b2_5,(b2_6,(b2_7,(b3,(b4,(b5,()))))))))))))))))) fun x0=>
 bnd (F2 (x0.2.2.1,(x0.1,x0.2.2.2))) fun x1=>
 bnd (L7 (x0.1,(x0.2.1,x1))) fun x2=>
 some x2
def Zatt (c0:Zacf) (c1:Zaa3) (c2:Zab4) (M2:Zaen) (M7:Zaem) (M9:Zacd):Zaeu:=⟨u13 (Zatu c0.F c1.F c2.F M2.L M7.L M9.L),pB Tryz.func197 63 (kB c0 (kB c1 (kB c2 k0))) e0 1 (sS (sC M2 (sC M7 l0))) fun d=>by kernel_rfl⟩
def Zal6:Zaeu:=Zatt Zad8 Zac6 Zacw Zati Zath Zakw
abbrev Zadm:Lay:={ T:=[(0,.hd 0 Za4),(1,.func 146 [] [.ptr 1 0])],h:=yRa0,nx:=6 }
abbrev Zab5:List (Ev.Ex×Lay):=[(.ret,yRa3)]
abbrev Zae4:=TL Zadm.σs→Option (Out Zab5)
abbrev Zabj:=Kb 145 2 Zadm 0 Zab5
def Zam5 (F0:Zad7) (F1:Zal5) (b0:List (Sh.T Za4)) (b2_0:Int) (b2_1:List Int) (b2_2:List (Sh.T Za0)) (b2_3 b2_4 b2_5:List Int) (b2_6:List (Sh.T Za1)) (b2_7:List (Sh.T Za0)) (b3 b4 b5:List Int):Option (Out Zab5):=
 bnd (F1 ((Int.ofNat (List.length b0)),(b0,(b2_0,(b2_1,(b2_2,(b2_3,(b2_4,(b2_5,(b2_6,(b2_7,(b3,(b4,(b5,())))))))))))))) fun x0=>
 some x0
def Zam4 (c0:Zacf) (c1:Zaeu) :Zabj:=⟨u12 (Zam5 c0.F c1.F),pB Tryz.func145 9 (kB c0 (kB c1 k0)) e0 1 (sS l0) fun d=>by kernel_rfl⟩
def Zae5:Zabj:=Zam4 Zad8 Zal6 
abbrev Zb4h:List Sh:=[Za5]
abbrev Zb03:List Sh:=[(.sl Za4),.bool]
abbrev Zb5d:=TL Zb4h→Option (TL Zb03)
abbrev Zb2b:=Kd 78 Zb4h Zb03
def Zb7v (F0:Zae4) (F1:Zad7) (F2:Zb3x) (a0:Sh.T Za5):Option (TL Zb03):=
 bnd (F2 a0) fun x0=>
 (match x0 with
 | .inl x1=>
  chk (Bool.not (iQ x1.1 (0:Int)))<|
  some ([],(false,()))
 | .inr x1=>
  br (Bool.not (iQ x1.1 (0:Int)))
  (
   some ([],(false,())))
  (
   bnd (F0 (x1.2.2.2.2.2.2.2.2.2.2.1,(x1.2.1,(x1.2.2.1,(x1.2.2.2.1,(x1.2.2.2.2.1,(x1.2.2.2.2.2.1,(x1.2.2.2.2.2.2.1,(x1.2.2.2.2.2.2.2.1,(x1.2.2.2.2.2.2.2.2.1,(x1.2.2.2.2.2.2.2.2.2.1,x1.2.2.2.2.2.2.2.2.2.2.2))))))))))) fun x2=>
   some (x2.1,(true,())))
 )
def Zb7u (c0:Zabj) (c1:Zacf) (c2:Zb02) :Zb2b:=⟨u1 (Zb7v c0.F c1.F c2.F),pD Tryz.func78 23 (kB c0 (kB c1 (kB c2 k0))) e0 1 (sS l0) fun d=>by kernel_rfl⟩
def Zb5e:Zb2b:=Zb7u Zae5 Zad8 Zb3y 
abbrev Zahf:Lay:=yRa10
abbrev Zafy:List (Ev.Ex×Lay):=[((.exit 0),{ T:=[(7,.hd 0 Za2)],h:=[(0,.arr Za2 237)],nx:=1 })]
abbrev Zaup:=TL Zahf.σs→Option (Out Zafy)
abbrev Zans:=Ld 0 51 (Zb5 [0] (Zaa Tryz.f189)) Zahf Zafy
abbrev Zafz:Lay:={ T:=[(4,.fz (.int .i64)),(6,.fz Za2),(7,.hd 0 Za2),(8,.int .i64),(9,.int .i64)],h:=[(0,.arr Za2 237)],nx:=1 }
abbrev Zafc:List (Ev.Ex×Lay):=[((.exit 2),yRa10)]
abbrev Zamk:=TL Zafz.σs→Option (Out Zafc)
abbrev Zamm:=Ld 0 51 (Zb5 [0,0] (Zaa Tryz.f189)) Zafz Zafc
def Zaij (t4:List Int) (t6:List (Sh.T Za2)) (t8 t9:Int) (b0:List (Sh.T Za2)):Option (TL Zafz.σs⊕Out Zafc):=
 br (iL t9 (Int.ofNat (List.length t6)))
 (
  chk (inb t9 (List.length t6))<|
  chk (inb (0:Int) (List.length (gt Za2 t6 t9).2.2.2.2.1))<|
  chk (inb (gt (.int .i64) (gt Za2 t6 t9).2.2.2.2.1 (0:Int)) (List.length t4))<|
  br (iQ (gt (.int .i64) t4 (gt (.int .i64) (gt Za2 t6 t9).2.2.2.2.1 (0:Int))) t8)
  (
   chk (inb t9 (List.length t6))<|
   chk (room 72 (List.length (ap b0 (((gt Za2 t6 t9).1,((gt Za2 t6 t9).2.1,((gt Za2 t6 t9).2.2.1,((gt Za2 t6 t9).2.2.2.1,((gt Za2 t6 t9).2.2.2.2.1,()))))) :: []))))<|
   some (.inl (t4,(t6,(t8,((IntKind.wrap .i64 (t9+(1:Int))),((ap b0 (((gt Za2 t6 t9).1,((gt Za2 t6 t9).2.1,((gt Za2 t6 t9).2.2.1,((gt Za2 t6 t9).2.2.2.1,((gt Za2 t6 t9).2.2.2.2.1,()))))) :: [])),())))))))
  (
   some (.inl (t4,(t6,(t8,((IntKind.wrap .i64 (t9+(1:Int))),(b0,()))))))))
 (
  some (.inr (t4,(t6,(t8,(b0,()))))))
def Zat5  :Zamm:=mkL (u5 Zaij) (pL k0 e0 1 l0 fun d=>by kernel_rfl)
def Zajh (L10:Zamk) (t4:List Int) (t6:List (Sh.T Za2)) (t8:Int) (b0:List (Sh.T Za2)):Option (TL Zahf.σs⊕Out Zafy):=
 br (iE t8 (Int.ofNat (List.length t6)))
 (
  bnd (L10 (t4,(t6,(t8,((0:Int),(b0,())))))) fun x0=>
  some (.inl (x0.1,(x0.2.1,((IntKind.wrap .i64 (@HAdd.hAdd (Int) (Int) (Int) _ x0.2.2.1 (1:Int))),(x0.2.2.2.1,()))))))
 (
  some (.inr (b0,())))
def Zb0t (M10:Zamm):Zans:=mkL (u4 (Zajh M10.L)) (pL k0 e0 1 (sC M10 l0) fun d=>by kernel_rfl)
def Zb0s:Zans:=Zb0t  Zat5
abbrev Zauo:List Sh:=[Za5]
abbrev Zanr:List Sh:=[(.sl Za2),.bool]
abbrev Zavz:=TL Zauo→Option (TL Zanr)
abbrev Zapf:=Kd 189 Zauo Zanr
def Zb1x (F0:Zapg) (F1:Zanu) (L7:Zaup) (L10:Zamk) (a0:Sh.T Za5):Option (TL Zanr):=
 bnd (F1 (a0,())) fun x0=>
 br (Bool.not x0.2.1)
 (
  some ([],(false,())))
 (
  bnd (F0 (a0,())) fun x1=>
  bnd (L7 (x0.1,(x1.1,((1:Int),([],()))))) fun x2=>
  some (x2.1,(true,())))
def Zb1w (c0:Zakn) (c1:Zaji) (M7:Zans) (M10:Zamm):Zapf:=⟨u1 (Zb1x c0.F c1.F M7.L M10.L),pD Tryz.func189 51 (kD c0 (kD c1 k0)) e0 1 (sS (sC M7 l0)) fun d=>by kernel_rfl⟩
def Zaw0:Zapf:=Zb1w Zaph Zanv Zb0s Zat5
abbrev Zb6b:List Sh:=[(.int .i64)]
abbrev Zb47:List Sh:=[.bool]
abbrev Zb70:=TL Zb6b→Option (TL Zb47)
abbrev Zb55:=Kd 149 Zb6b Zb47
def Zb54 (a0:Int):Option (TL Zb47):=
 some ((iQ (bandI .i64 a0 (1:Int)) (1:Int)),())
def Zb9t  :Zb55:=⟨u1 Zb54,pD Tryz.func149 6 k0 e0 1 (sS l0) fun d=>by kernel_rfl⟩
def Zb71:Zb55:=Zb9t  
abbrev Zb5j:List Sh:=[(.int .i64),(.sl .bool)]
abbrev Zayn:List Sh:=[.bool]
abbrev Zak3:=TL Zb5j→Option (TL Zayn)
abbrev Zaio:=Kd 80 Zb5j Zayn
def Zb4b (F0:Zb70) (F1:Zb3g) (a0:Int) (a1:List Bool):Option (TL Zayn):=
 br (iL a0 (0:Int))
 (
  some (false,()))
 (
  bnd (F1 (a0,())) fun x0=>
  bnd (F0 (a0,())) fun x1=>
  br (iL (0:Int) x0.1)
  (
   br (selB true (iL x0.1 (Int.ofNat (List.length a1))) false)
   (
    chk (inb x0.1 (List.length a1))<|
    some ((Bool.not (@decide _ (Bool.decEq x1.1 (selB true (gt .bool a1 x0.1) false)))),()))
   (
    some ((Bool.not (@decide _ (Bool.decEq x1.1 false))),())))
  (
   some ((Bool.not (@decide _ (Bool.decEq x1.1 false))),())))
def Zb8z (c0:Zb55) (c1:Zazd) :Zaio:=⟨u2 (Zb4b c0.F c1.F),pD Tryz.func80 27 (kD c0 (kD c1 k0)) e0 1 (sS l0) fun d=>by kernel_rfl⟩
def Zak4:Zaio:=Zb8z Zb71 Zb3h 
abbrev Zasq:Lay:={ T:=[(1,.fz .bool),(4,.int .u64),(11,.fz (.int .i64)),(12,.int .i64),(13,.int .i64)],h:=[],nx:=0 }
abbrev Zarh:List (Ev.Ex×Lay):=[((.exit 0),{ T:=[(4,.int .u64)],h:=[],nx:=0 })]
abbrev Zb3u:=TL Zasq.σs→Option (Out Zarh)
abbrev Zayv:=Ld 0 27 (Zb5 [0] (Zaa Tryz.f81)) Zasq Zarh
def Zawk (F0:Zak3) (t1:List Bool) (t4:Int) (t11:List Int) (t12 t13:Int):Option (TL Zasq.σs⊕Out Zarh):=
 br (iL t13 t12)
 (
  chk (inb t13 (List.length t11))<|
  bnd (F0 ((gt (.int .i64) t11 t13),(t1,()))) fun x0=>
  br x0.1
  (
   chk (iE (0:Int) t13)<|
   some (.inl (t1,((borI .u64 t4 (IntKind.wrap .u64 ((1:Int)*(HPow.hPow (2:Int) (Min.min (Int.toNat t13) 64))))),(t11,(t12,((IntKind.wrap .i64 (t13+(1:Int))),())))))))
  (
   some (.inl (t1,(t4,(t11,(t12,((IntKind.wrap .i64 (t13+(1:Int))),()))))))))
 (
  some (.inr (t4,())))
def Zb6v (c0:Zaio) :Zayv:=mkL (u5 (Zawk c0.F)) (pL (kD c0 k0) e0 1 l0 fun d=>by kernel_rfl)
def Zb6u:Zayv:=Zb6v Zak4 
abbrev Zb3t:List Sh:=[(.sl (.int .i64)),(.sl .bool)]
abbrev Zayu:List Sh:=[(.int .u64)]
abbrev Zau6:=TL Zb3t→Option (TL Zayu)
abbrev Zari:=Kd 81 Zb3t Zayu
def Zb0e (F0:Zak3) (L2:Zb3u) (a0:List Int) (a1:List Bool):Option (TL Zayu):=
 chk (both (iE (0:Int) (selI (iL (64:Int) (Int.ofNat (List.length a0))) (64:Int) (Int.ofNat (List.length a0)))) (iE (selI (iL (64:Int) (Int.ofNat (List.length a0))) (64:Int) (Int.ofNat (List.length a0))) (Int.ofNat (List.length a0))))<|
 bnd (L2 (a1,((0:Int),((List.take (Int.toNat (selI (iL (64:Int) (Int.ofNat (List.length a0))) (64:Int) (Int.ofNat (List.length a0)))) a0),((Int.ofNat (List.length (List.take (Int.toNat (selI (iL (64:Int) (Int.ofNat (List.length a0))) (64:Int) (Int.ofNat (List.length a0)))) a0))),((0:Int),())))))) fun x0=>
 some (x0.1,())
def Zb7o (c0:Zaio) (M2:Zayv):Zari:=⟨u2 (Zb0e c0.F M2.L),pD Tryz.func81 27 (kD c0 k0) e0 1 (sS (sC M2 l0)) fun d=>by kernel_rfl⟩
def Zau7:Zari:=Zb7o Zak4 Zb6u
abbrev Zau8:Lay:={ T:=[(0,.int .u64),(4,.hd 0 .bool),(7,.int .i64),(8,.int .i64)],h:=yRa11,nx:=1 }
abbrev Zasr:List (Ev.Ex×Lay):=[((.exit 0),{ T:=[(4,.hd 0 .bool)],h:=yRa11,nx:=1 })]
abbrev Zb4s:=TL Zau8.σs→Option (Out Zasr)
abbrev Zb4t:=Ld 0 21 (Zb5 [0] (Zaa Tryz.f63)) Zau8 Zasr
def Zaxw (t0 t7 t8:Int) (b0:List Bool):Option (TL Zau8.σs⊕Out Zasr):=
 br (iL t8 t7)
 (
  chk (iE (0:Int) t8)<|
  chk (room 1 (List.length (ap b0 ((iQ (bandI .u64 (Int.fdiv t0 (HPow.hPow (2:Int) (Min.min (Int.toNat t8) 64))) (1:Int)) (1:Int)) :: []))))<|
  some (.inl (t0,(t7,((IntKind.wrap .i64 (t8+(1:Int))),((ap b0 ((iQ (bandI .u64 (Int.fdiv t0 (HPow.hPow (2:Int) (Min.min (Int.toNat t8) 64))) (1:Int)) (1:Int)) :: [])),()))))))
 (
  some (.inr (b0,())))
def Zb7p  :Zb4t:=mkL (u4 Zaxw) (pL k0 e0 1 l0 fun d=>by kernel_rfl)
abbrev Zb4r:List Sh:=[(.int .u64),(.int .i64)]
abbrev Zb0f:List Sh:=[(.sl .bool)]
abbrev Zb2u:=TL Zb4r→Option (TL Zb0f)
abbrev Zayo:=Kd 63 Zb4r Zb0f
def Zb2w (F0:Zarf) (L2:Zb4s) (a0 a1:Int):Option (TL Zb0f):=
 bnd (F0 (a1,())) fun x0=>
 bnd (L2 (a0,(x0.1,((0:Int),([],()))))) fun x1=>
 some (x1.1,())
def Zb8f (c0:Zalf) (M2:Zb4t):Zayo:=⟨u2 (Zb2w c0.F M2.L),pD Tryz.func63 21 (kD c0 k0) e0 1 (sS (sC M2 l0)) fun d=>by kernel_rfl⟩
def Zb2v:Zayo:=Zb8f Zarg Zb7p
def Zaxv:Zb2u:=Zb2v.F
abbrev Zawu:List Sh:=[(.int .i64)]
abbrev Zaqy:List Sh:=[.bool]
abbrev Zaxi:=TL Zawu→Option (TL Zaqy)
abbrev Zarw:=Kd 204 Zawu Zaqy
def Zarv (a0:Int):Option (TL Zaqy):=
 some ((iQ (Int.tmod a0 (2:Int)) (1:Int)),())
def Zb3m  :Zarw:=⟨u1 Zarv,pD Tryz.func204 6 k0 e0 1 (sS l0) fun d=>by kernel_rfl⟩
def Zaxj:Zarw:=Zb3m  
abbrev Zavy:List Sh:=[(.int .i64),(.sl .bool)]
abbrev Zakk:List Sh:=[.bool]
abbrev Zaae:=TL Zavy→Option (TL Zakk)
abbrev Zaa8:=Kd 190 Zavy Zakk
def Zaqv (F0:Zaxi) (F1:Zam6) (a0:Int) (a1:List Bool):Option (TL Zakk):=
 br (iL a0 (0:Int))
 (
  some (false,()))
 (
  bnd (F1 (a0,())) fun x0=>
  br (iL (0:Int) x0.1)
  (
   br (selB true (iL x0.1 (Int.ofNat (List.length a1))) false)
   (
    chk (inb x0.1 (List.length a1))<|
    bnd (F0 (a0,())) fun x1=>
    some ((Bool.not (@decide _ (Bool.decEq (selB true (gt .bool a1 x0.1) false) x1.1))),()))
   (
    bnd (F0 (a0,())) fun x1=>
    some ((Bool.not (@decide _ (Bool.decEq false x1.1))),())))
  (
   bnd (F0 (a0,())) fun x1=>
   some ((Bool.not (@decide _ (Bool.decEq false x1.1))),())))
def Zb37 (c0:Zarw) (c1:Zaj2) :Zaa8:=⟨u2 (Zaqv c0.F c1.F),pD Tryz.func190 29 (kD c0 (kD c1 k0)) e0 1 (sS l0) fun d=>by kernel_rfl⟩
def Zaaf:Zaa8:=Zb37 Zaxj Zam7 
abbrev Zaih:Lay:={ T:=[(0,.fz .bool),(3,.int .u64),(4,.int .u64),(5,.int .i64)],h:=[],nx:=0 }
abbrev Zahd:List (Ev.Ex×Lay):=[((.exit 0),{ T:=[(3,.int .u64)],h:=[],nx:=0 })]
abbrev Zavv:=TL Zaih.σs→Option (Out Zahd)
abbrev Zavx:=Ld 0 26 (Zb5 [0] (Zaa Tryz.f121)) Zaih Zahd
def Zakj (t0:List Bool) (t3 t4 t5:Int):Option (TL Zaih.σs⊕Out Zahd):=
 br (iL t5 (Int.ofNat (List.length t0)))
 (
  br (selB true (iL t5 (64:Int)) false)
  (
   chk (inb t5 (List.length t0))<|
   br (gt .bool t0 t5)
   (
    some (.inl (t0,((IntKind.wrap .u64 (t3+t4)),((IntKind.wrap .u64 (t4*(2:Int))),((IntKind.wrap .i64 (t5+(1:Int))),()))))))
   (
    some (.inl (t0,(t3,((IntKind.wrap .u64 (t4*(2:Int))),((IntKind.wrap .i64 (t5+(1:Int))),())))))))
  (
   some (.inr (t3,()))))
 (
  some (.inr (t3,())))
def Zb1t  :Zavx:=mkL (u4 Zakj) (pL k0 e0 1 l0 fun d=>by kernel_rfl)
abbrev Zavu:List Sh:=[(.sl .bool)]
abbrev Zap6:List Sh:=[(.int .u64)]
abbrev Zaws:=TL Zavu→Option (TL Zap6)
abbrev Zaqs:=Kd 121 Zavu Zap6
def Zaqr (L3:Zavv) (a0:List Bool):Option (TL Zap6):=
 bnd (L3 (a0,((0:Int),((1:Int),((0:Int),()))))) fun x0=>
 some (x0.1,())
def Zb36 (M3:Zavx):Zaqs:=⟨u1 (Zaqr M3.L),pD Tryz.func121 26 k0 e0 1 (sS (sC M3 l0)) fun d=>by kernel_rfl⟩
def Zawt:Zaqs:=Zb36  Zb1t
abbrev Zahe:Lay:={ T:=[(0,.int .u64),(1,.int .i64),(5,.hd 0 .bool),(6,.int .i64)],h:=yRa11,nx:=1 }
abbrev Zafx:List (Ev.Ex×Lay):=[((.exit 0),{ T:=[(5,.hd 0 .bool)],h:=yRa11,nx:=1 })]
abbrev Zaul:=TL Zahe.σs→Option (Out Zafx)
abbrev Zaum:=Ld 0 25 (Zb5 [0] (Zaa Tryz.f116)) Zahe Zafx
def Zajg (t0 t1 t6:Int) (b0:List Bool):Option (TL Zahe.σs⊕Out Zafx):=
 br (iL t6 t1)
 (
  br (selB true (iL t6 (64:Int)) false)
  (
   chk (room 1 (List.length (ap b0 ((iQ (Int.tmod t0 (2:Int)) (1:Int)) :: []))))<|
   some (.inl ((IntKind.wrap .u64 (Int.tdiv t0 (2:Int))),(t1,((IntKind.wrap .i64 (t6+(1:Int))),((ap b0 ((iQ (Int.tmod t0 (2:Int)) (1:Int)) :: [])),()))))))
  (
   some (.inr (b0,()))))
 (
  some (.inr (b0,())))
def Zb0p  :Zaum:=mkL (u4 Zajg) (pL k0 e0 1 l0 fun d=>by kernel_rfl)
abbrev Zauk:List Sh:=[(.int .u64),(.int .i64)]
abbrev Zano:List Sh:=[(.sl .bool)]
abbrev Zapa:=TL Zauk→Option (TL Zano)
abbrev Zakl:=Kd 116 Zauk Zano
def Zapc (L3:Zaul) (a0 a1:Int):Option (TL Zano):=
 bnd (L3 (a0,(a1,((0:Int),([],()))))) fun x0=>
 some (x0.1,())
def Zb1u (M3:Zaum):Zakl:=⟨u2 (Zapc M3.L),pD Tryz.func116 25 k0 e0 1 (sS (sC M3 l0)) fun d=>by kernel_rfl⟩
def Zapb:Zakl:=Zb1u  Zb0p
def Zajf:Zapa:=Zapb.F
abbrev Zafw:Lay:={ T:=[(0,.fz (.int .i64)),(1,.fz .bool),(5,.hd 0 .bool),(6,.int .i64)],h:=yRa11,nx:=1 }
abbrev Zaf9:List (Ev.Ex×Lay):=[((.exit 0),{ T:=[(5,.hd 0 .bool)],h:=yRa11,nx:=1 })]
abbrev Zat4:=TL Zafw.σs→Option (Out Zaf9)
abbrev Zamj:=Ld 0 24 (Zb5 [0] (Zaa Tryz.f191)) Zafw Zaf9
def Zaii (F1:Zaae) (t0:List Int) (t1:List Bool) (t6:Int) (b0:List Bool):Option (TL Zafw.σs⊕Out Zaf9):=
 br (iL t6 (Int.ofNat (List.length t0)))
 (
  chk (inb t6 (List.length t0))<|
  bnd (F1 ((gt (.int .i64) t0 t6),(t1,()))) fun x0=>
  chk (room 1 (List.length (ap b0 (x0.1 :: []))))<|
  some (.inl (t0,(t1,((IntKind.wrap .i64 (t6+(1:Int))),((ap b0 (x0.1 :: [])),()))))))
 (
  some (.inr (b0,())))
def Zazn (c1:Zaa8) :Zamj:=mkL (u4 (Zaii c1.F)) (pL (kD c1 k0) e0 1 l0 fun d=>by kernel_rfl)
def Zazm:Zamj:=Zazn Zaaf 
abbrev Zat3:List Sh:=[(.sl (.int .i64)),(.sl .bool)]
abbrev Zamh:List Sh:=[(.int .u64)]
abbrev Zafa:=TL Zat3→Option (TL Zamh)
abbrev Zadc:=Kd 191 Zat3 Zamh
def Zann (F0:Zaws) (F1:Zaae) (L3:Zat4) (a0:List Int) (a1:List Bool):Option (TL Zamh):=
 bnd (L3 (a0,(a1,((0:Int),([],()))))) fun x0=>
 bnd (F0 (x0.1,())) fun x1=>
 some (x1.1,())
def Zb0o (c0:Zaqs) (c1:Zaa8) (M3:Zamj):Zadc:=⟨u2 (Zann c0.F c1.F M3.L),pD Tryz.func191 24 (kD c0 (kD c1 k0)) e0 1 (sS (sC M3 l0)) fun d=>by kernel_rfl⟩
def Zafb:Zadc:=Zb0o Zawt Zaaf Zazm
abbrev Zaig:Lay:={ T:=[(0,.fz Za3),(1,.int .u64),(5,.int .i64)],h:=[],nx:=0 }
abbrev Zae3:List (Ev.Ex×Lay):=[(.ret,{ T:=[(4,.int .u64)],h:=[],nx:=0 }),((.exit 0),{ T:=[],h:=[],nx:=0 })]
abbrev Zavr:=TL Zaig.σs→Option (Out Zae3)
abbrev Zavt:=Ld 0 24 (Zb5 [0] (Zaa Tryz.f188)) Zaig Zae3
def Zaki (t0:List (Sh.T Za3)) (t1 t5:Int):Option (TL Zaig.σs⊕Out Zae3):=
 br (iL t5 (Int.ofNat (List.length t0)))
 (
  chk (inb t5 (List.length t0))<|
  br (iQ (gt Za3 t0 t5).1 t1)
  (
   chk (inb t5 (List.length t0))<|
   some (.inr (.inl ((gt Za3 t0 t5).2.1,()))))
  (
   some (.inl (t0,(t1,((IntKind.wrap .i64 (t5+(1:Int))),()))))))
 (
  some (.inr (.inr ())))
def Zb1s  :Zavt:=mkL (u3 Zaki) (pL k0 e0 1 l0 fun d=>by kernel_rfl)
abbrev Zavq:List Sh:=[(.sl Za3),(.int .u64)]
abbrev Zap5:List Sh:=[(.int .u64)]
abbrev Zaqo:=TL Zavq→Option (TL Zap5)
abbrev Zall:=Kd 188 Zavq Zap5
def Zaqq (L2:Zavr) (a0:List (Sh.T Za3)) (a1:Int):Option (TL Zap5):=
 bnd (L2 (a0,(a1,((0:Int),())))) fun x0=>
 (match x0 with
 | .inl x1=>
  some (x1.1,())
 | .inr x1=>
  some ((0:Int),())
 )
def Zb35 (M2:Zavt):Zall:=⟨u2 (Zaqq M2.L),pD Tryz.func188 24 k0 e0 1 (sS (sC M2 l0)) fun d=>by kernel_rfl⟩
def Zaqp:Zall:=Zb35  Zb1s
abbrev Zahc:Lay:={ T:=[(0,.fz Za3),(1,.int .u64),(2,.int .u64),(7,.hd 0 Za3),(8,.bool),(9,.int .i64)],h:=[(0,.arr Za3 137)],nx:=1 }
abbrev Zafv:List (Ev.Ex×Lay):=[((.exit 0),{ T:=[(1,.int .u64),(2,.int .u64),(7,.hd 0 Za3),(8,.bool)],h:=[(0,.arr Za3 137)],nx:=1 })]
abbrev Zauh:=TL Zahc.σs→Option (Out Zafv)
abbrev Zauj:=Ld 0 58 (Zb5 [0] (Zaa Tryz.f192)) Zahc Zafv
def Zaje (t0:List (Sh.T Za3)) (t1 t2:Int) (t8:Bool) (t9:Int) (b0:List (Sh.T Za3)):Option (TL Zahc.σs⊕Out Zafv):=
 br (iL t9 (Int.ofNat (List.length t0)))
 (
  br (Bool.not t8)
  (
   chk (inb t9 (List.length t0))<|
   br (selB true (iE t1 (gt Za3 t0 t9).1) false)
   (
    chk (room 16 (List.length (ap b0 ((t1,(t2,())) :: []))))<|
    chk (inb t9 (List.length t0))<|
    br (Bool.not (iQ (gt Za3 t0 t9).1 t1))
    (
     chk (inb t9 (List.length t0))<|
     chk (room 16 (List.length (ap (ap b0 ((t1,(t2,())) :: [])) (((gt Za3 t0 t9).1,((gt Za3 t0 t9).2.1,())) :: []))))<|
     some (.inl (t0,(t1,(t2,(true,((IntKind.wrap .i64 (t9+(1:Int))),((ap (ap b0 ((t1,(t2,())) :: [])) (((gt Za3 t0 t9).1,((gt Za3 t0 t9).2.1,())) :: [])),()))))))))
    (
     some (.inl (t0,(t1,(t2,(true,((IntKind.wrap .i64 (t9+(1:Int))),((ap b0 ((t1,(t2,())) :: [])),())))))))))
   (
    chk (inb t9 (List.length t0))<|
    br (Bool.not (iQ (gt Za3 t0 t9).1 t1))
    (
     chk (inb t9 (List.length t0))<|
     chk (room 16 (List.length (ap b0 (((gt Za3 t0 t9).1,((gt Za3 t0 t9).2.1,())) :: []))))<|
     some (.inl (t0,(t1,(t2,(t8,((IntKind.wrap .i64 (t9+(1:Int))),((ap b0 (((gt Za3 t0 t9).1,((gt Za3 t0 t9).2.1,())) :: [])),()))))))))
    (
     some (.inl (t0,(t1,(t2,(t8,((IntKind.wrap .i64 (t9+(1:Int))),(b0,()))))))))))
  (
   chk (inb t9 (List.length t0))<|
   br (Bool.not (iQ (gt Za3 t0 t9).1 t1))
   (
    chk (inb t9 (List.length t0))<|
    chk (room 16 (List.length (ap b0 (((gt Za3 t0 t9).1,((gt Za3 t0 t9).2.1,())) :: []))))<|
    some (.inl (t0,(t1,(t2,(t8,((IntKind.wrap .i64 (t9+(1:Int))),((ap b0 (((gt Za3 t0 t9).1,((gt Za3 t0 t9).2.1,())) :: [])),()))))))))
   (
    some (.inl (t0,(t1,(t2,(t8,((IntKind.wrap .i64 (t9+(1:Int))),(b0,()))))))))))
 (
  some (.inr (t1,(t2,(t8,(b0,()))))))
def Zb0n  :Zauj:=mkL (u6 Zaje) (pL k0 e0 1 l0 fun d=>by kernel_rfl)
abbrev Zaug:List Sh:=[(.sl Za3),(.int .u64),(.int .u64)]
abbrev Zanj:List Sh:=[(.sl Za3)]
abbrev Zap0:=TL Zaug→Option (TL Zanj)
abbrev Zakg:=Kd 192 Zaug Zanj
def Zap2 (L4:Zauh) (a0:List (Sh.T Za3)) (a1 a2:Int):Option (TL Zanj):=
 bnd (L4 (a0,(a1,(a2,((iQ a2 (0:Int)),((0:Int),([],()))))))) fun x0=>
 br (Bool.not x0.2.2.1)
 (
  chk (room 16 (List.length (ap x0.2.2.2.1 ((x0.1,(x0.2.1,())) :: []))))<|
  some ((ap x0.2.2.2.1 ((x0.1,(x0.2.1,())) :: [])),()))
 (
  some (x0.2.2.2.1,()))
def Zb1r (M4:Zauj):Zakg:=⟨u3 (Zap2 M4.L),pD Tryz.func192 58 k0 e0 1 (sS (sC M4 l0)) fun d=>by kernel_rfl⟩
def Zap1:Zakg:=Zb1r  Zb0n
abbrev Zapy:Lay:={ T:=[(0,.fzb (.int .i64))],h:=[],nx:=0 }
abbrev Zain:List (Ev.Ex×Lay):=[(.ret,{ T:=[(0,.hd 0 (.int .i64))],h:=[(0,.arr (.int .i64) 3)],nx:=1 })]
abbrev Zarl:=Kb 131 1 Zapy 1 Zain
def Zayh (t0z:Bool) (t0:List Int):Option (Out Zain):=
 br t0z
 (
  some ([],()))
 (
  chk (room 8 (List.length (ap [] t0)))<|
  some ((ap [] t0),()))
def Zayg  :Zarl:=⟨u2 Zayh,pB Tryz.func131 8 k0 e0 1 (sS l0) fun d=>by kernel_rfl⟩
def Zark:Zarl:=Zayg  
abbrev Zarn:List Sh:=[.sl (.int .i64)]
abbrev Zarm:List Sh:=[.sl (.int .i64)]
abbrev Zagz:=TL Zarn→Option (TL Zarm)
abbrev Zah1:=Kd 131 Zarn Zarm
def Zah0:Zah1:=⟨_,Zb0c Zark.ok rfl (fun L=>rfl) (fun L=>⟨_,_,rfl,rfl,rfl⟩)⟩
abbrev Zagy:Lay:={ T:=[(0,.fzb Za0)],h:=[],nx:=0 }
abbrev Zacm:List (Ev.Ex×Lay):=[(.ret,{ T:=[(0,.hd 0 Za0)],h:=[(0,.arr Za0 95)],nx:=1 })]
abbrev Zai4:=Kb 132 1 Zagy 1 Zacm
def Zar8 (t0z:Bool) (t0:List (Sh.T Za0)):Option (Out Zacm):=
 br t0z
 (
  some ([],()))
 (
  chk (room 24 (List.length (ap [] t0)))<|
  some ((ap [] t0),()))
def Zar7  :Zai4:=⟨u2 Zar8,pB Tryz.func132 8 k0 e0 1 (sS l0) fun d=>by kernel_rfl⟩
def Zai3:Zai4:=Zar7  
abbrev Zai6:List Sh:=[.sl Za0]
abbrev Zai5:List Sh:=[.sl Za0]
abbrev Zaiz:=TL Zai6→Option (TL Zai5)
abbrev Zaj1:=Kd 132 Zai6 Zai5
def Zaj0:Zaj1:=⟨_,Zb0c Zai3.ok rfl (fun L=>rfl) (fun L=>⟨_,_,rfl,rfl,rfl⟩)⟩
abbrev Zajw:Lay:={ T:=[(0,.fzb Za0)],h:=[],nx:=0 }
abbrev Zadl:List (Ev.Ex×Lay):=[(.ret,{ T:=[(0,.hd 0 Za0)],h:=[(0,.arr Za0 150)],nx:=1 })]
abbrev Zal1:=Kb 133 1 Zajw 1 Zadl
def Zatr (t0z:Bool) (t0:List (Sh.T Za0)):Option (Out Zadl):=
 br t0z
 (
  some ([],()))
 (
  chk (room 24 (List.length (ap [] t0)))<|
  some ((ap [] t0),()))
def Zatq  :Zal1:=⟨u2 Zatr,pB Tryz.func133 8 k0 e0 1 (sS l0) fun d=>by kernel_rfl⟩
def Zal0:Zal1:=Zatq  
abbrev Zal3:List Sh:=[.sl Za0]
abbrev Zal2:List Sh:=[.sl Za0]
abbrev Zal9:=TL Zal3→Option (TL Zal2)
abbrev Zalb:=Kd 133 Zal3 Zal2
def Zala:Zalb:=⟨_,Zb0c Zal0.ok rfl (fun L=>rfl) (fun L=>⟨_,_,rfl,rfl,rfl⟩)⟩
abbrev Zafo:Lay:={ T:=[(0,.fzb Za1)],h:=[],nx:=0 }
abbrev Zaaq:List (Ev.Ex×Lay):=[(.ret,{ T:=[(0,.hd 0 Za1)],h:=[(0,.arr Za1 116)],nx:=1 })]
abbrev Zagx:=Kb 134 1 Zafo 1 Zaaq
def Zaq5 (t0z:Bool) (t0:List (Sh.T Za1)):Option (Out Zaaq):=
 br t0z
 (
  some ([],()))
 (
  chk (room 72 (List.length (ap [] t0)))<|
  some ((ap [] t0),()))
def Zaq4  :Zagx:=⟨u2 Zaq5,pB Tryz.func134 8 k0 e0 1 (sS l0) fun d=>by kernel_rfl⟩
def Zagw:Zagx:=Zaq4  
abbrev Zaga:Lay:={ T:=[(0,.fz Za1)],h:=[],nx:=0 }
abbrev Zafp:List (Ev.Ex×Lay):=Zaaq
abbrev Zahq:=TL Zaga.σs→Option (Out Zafp)
abbrev Zahs:=Kb 134 1 Zaga 1 Zafp
def Zahr:Zahs:=mkZ Zagw rfl
abbrev Zai1:Lay:={ T:=[(0,.fzb Zb3)],h:=[],nx:=0 }
abbrev Zabc:List (Ev.Ex×Lay):=[(.ret,{ T:=[(0,.hd 0 Zb3)],h:=[(0,.arr Zb3 152)],nx:=1 })]
abbrev Zajr:=Kb 135 1 Zai1 1 Zabc
def Zas6 (t0z:Bool) (t0:List (Sh.T Zb3)):Option (Out Zabc):=
 br t0z
 (
  some ([],()))
 (
  chk (room 32 (List.length (ap [] t0)))<|
  some ((ap [] t0),()))
def Zas5  :Zajr:=⟨u2 Zas6,pB Tryz.func135 8 k0 e0 1 (sS l0) fun d=>by kernel_rfl⟩
def Zajq:Zajr:=Zas5  
abbrev Zaiy:Lay:={ T:=[(0,.fz Zb3)],h:=[],nx:=0 }
abbrev Zai2:List (Ev.Ex×Lay):=Zabc
abbrev Zae6:=TL Zaiy.σs→Option (Out Zai2)
abbrev Zae8:=Kb 135 1 Zaiy 1 Zai2
def Zae7:Zae8:=mkZ Zajq rfl
abbrev Zagu:Lay:={ T:=[(0,.fzb Zb8)],h:=[],nx:=0 }
abbrev Zaax:List (Ev.Ex×Lay):=[(.ret,{ T:=[(0,.hd 0 Zb8)],h:=[(0,.arr Zb8 175)],nx:=1 })]
abbrev Zai0:=Kb 136 1 Zagu 1 Zaax
def Zar5 (t0z:Bool) (t0:List (Sh.T Zb8)):Option (Out Zaax):=
 br t0z
 (
  some ([],()))
 (
  chk (room 56 (List.length (ap [] t0)))<|
  some ((ap [] t0),()))
def Zar4  :Zai0:=⟨u2 Zar5,pB Tryz.func136 8 k0 e0 1 (sS l0) fun d=>by kernel_rfl⟩
def Zahz:Zai0:=Zar4  
abbrev Zahp:Lay:={ T:=[(0,.fz Zb8)],h:=[],nx:=0 }
abbrev Zagv:List (Ev.Ex×Lay):=Zaax
abbrev Zadi:=TL Zahp.σs→Option (Out Zagv)
abbrev Zadk:=Kb 136 1 Zahp 1 Zagv
def Zadj:Zadk:=mkZ Zahz rfl
abbrev Zawi:Lay:={ T:=[(1,.ptr 0 0),(2,.ptr 2 0),(41,.int .i64),(42,.int .i64)],h:=yRa5,nx:=3 }
abbrev Zau2:List (Ev.Ex×Lay):=[((.exit 2),{ T:=[(1,.ptr 0 0),(2,.ptr 2 0)],h:=yRa5,nx:=3 })]
abbrev Zb5g:=TL Zawi.σs→Option (Out Zau2)
abbrev Zb2r:=Ld 0 123 (Zb5 [1] (Zaa Tryz.f68)) Zawi Zau2
abbrev Zau3:Lay:={ T:=[(1,.ptr 0 0),(2,.ptr 4 0),(6,.eptr 1 5 0),(41,.int .i64),(42,.int .i64),(94,.int .i64),(95,.int .i64)],h:=yRa1,nx:=5 }
abbrev Zaso:List (Ev.Ex×Lay):=[((.exit 6),{ T:=[(1,.ptr 0 0),(2,.ptr 4 0),(41,.int .i64),(42,.int .i64)],h:=yRa1,nx:=5 })]
abbrev Zb08:=TL Zau3.σs→Option (Out Zaso)
abbrev Zaxr:=Ld 0 123 (Zb5 [1,1] (Zaa Tryz.f68)) Zau3 Zaso
abbrev Zau4:Lay:={ T:=[(1,.ptr 0 0),(2,.ptr 4 0),(6,.eptr 1 5 0),(41,.int .i64),(42,.int .i64),(69,.int .i64),(70,.int .i64)],h:=yRa1,nx:=5 }
abbrev Zasp:List (Ev.Ex×Lay):=[((.exit 4),{ T:=[(1,.ptr 0 0),(2,.ptr 4 0),(6,.eptr 1 5 0),(41,.int .i64),(42,.int .i64)],h:=yRa1,nx:=5 })]
abbrev Zb09:=TL Zau4.σs→Option (Out Zasp)
abbrev Zaxs:=Ld 0 123 (Zb5 [1,0] (Zaa Tryz.f68)) Zau4 Zasp
def Zaxu (F2:Zagz) (t6 t41 t42 t69 t70 b0_0:Int) (b0_1:List Int) (b0_2:List (Sh.T Za0)) (b0_3 b0_4 b0_5:List Int) (b0_7:List (Sh.T Za0)) (b1i:Int) (b1:List (Sh.T Za1)) (b1_0 b1_1:Int) (b1_2:Bool) (b2:List (Sh.T Zb3)) (b3:List (Sh.T Zb8)) (b4_0:Int):Option (TL Zau4.σs⊕Out Zasp):=
 br (iL t70 t69)
 (
  chk (Nat.beq (Int.toNat t6) (Int.toNat b1i))<|
  chk (Nat.beq (Int.toNat t6) (Int.toNat b1i))<|
  chk (inb t70 (List.length b2))<|
  bnd (F2 ((gt Zb3 b2 t70).2.1,())) fun x0=>
  chk (inb t70 (List.length b2))<|
  some (.inl ((Int.ofNat (Int.toNat t6)),(t41,(t42,(t69,((IntKind.wrap .i64 (t70+(1:Int))),(b0_0,(b0_1,(b0_2,(b0_3,(b0_4,(b0_5,(b0_7,((Int.ofNat (Int.toNat b1i)),(b1,(b1_0,(b1_1,(b1_2,((List.set b2 (Int.toNat t70) ((gt Zb3 b2 t70).1,(x0.1,()))),(b3,(b4_0,()))))))))))))))))))))))
 (
  some (.inr ((Int.ofNat (Int.toNat t6)),(t41,(t42,(b0_0,(b0_1,(b0_2,(b0_3,(b0_4,(b0_5,(b0_7,((Int.ofNat (Int.toNat b1i)),(b1,(b1_0,(b1_1,(b1_2,(b2,(b3,(b4_0,()))))))))))))))))))))
def Zb7f (c2:Zah1) :Zaxs:=mkL (u20 (Zaxu c2.F)) (pL (kD c2 k0) e0 1 l0 fun d=>by kernel_rfl)
def Zb4m:Zaxs:=Zb7f Zah0 
def Zaxt (F2:Zagz) (t6 t41 t42 t94 t95 b0_0:Int) (b0_1:List Int) (b0_2:List (Sh.T Za0)) (b0_3 b0_4 b0_5:List Int) (b0_7:List (Sh.T Za0)) (b1i:Int) (b1:List (Sh.T Za1)) (b1_0 b1_1:Int) (b1_2:Bool) (b2:List (Sh.T Zb3)) (b3:List (Sh.T Zb8)) (b4_0:Int):Option (TL Zau3.σs⊕Out Zaso):=
 br (iL t95 t94)
 (
  chk (Nat.beq (Int.toNat t6) (Int.toNat b1i))<|
  chk (inb t95 (List.length b3))<|
  bnd (F2 ((gt Zb8 b3 t95).2.1,())) fun x0=>
  bnd (F2 ((gt Zb8 b3 t95).2.2.1,())) fun x1=>
  chk (nQ (Int.toNat t95) (Int.toNat t95))<|
  some (.inl ((Int.ofNat (Int.toNat t6)),(t41,(t42,(t94,((IntKind.wrap .i64 (t95+(1:Int))),(b0_0,(b0_1,(b0_2,(b0_3,(b0_4,(b0_5,(b0_7,((Int.ofNat (Int.toNat b1i)),(b1,(b1_0,(b1_1,(b1_2,(b2,((List.set (List.set b3 (Int.toNat t95) ((gt Zb8 b3 t95).1,(x0.1,((gt Zb8 b3 t95).2.2.1,())))) (Int.toNat t95) ((gt Zb8 (List.set b3 (Int.toNat t95) ((gt Zb8 b3 t95).1,(x0.1,((gt Zb8 b3 t95).2.2.1,())))) t95).1,((gt Zb8 (List.set b3 (Int.toNat t95) ((gt Zb8 b3 t95).1,(x0.1,((gt Zb8 b3 t95).2.2.1,())))) t95).2.1,(x1.1,())))),(b4_0,()))))))))))))))))))))))
 (
  some (.inr (t41,(t42,(b0_0,(b0_1,(b0_2,(b0_3,(b0_4,(b0_5,(b0_7,((Int.ofNat (Int.toNat b1i)),(b1,(b1_0,(b1_1,(b1_2,(b2,(b3,(b4_0,())))))))))))))))))))
def Zb7e (c2:Zah1) :Zaxr:=mkL (u20 (Zaxt c2.F)) (pL (kD c2 k0) e0 1 l0 fun d=>by kernel_rfl)
def Zb4l:Zaxr:=Zb7e Zah0 
def Zayj (F3:Zadi) (F4:Zae6) (L13:Zb09) (L18:Zb08) (t41 t42 b0_0:Int) (b0_1:List Int) (b0_2:List (Sh.T Za0)) (b0_3 b0_4 b0_5:List Int) (b0_7:List (Sh.T Za0)) (b1:List (Sh.T Za1)) (b2_0:Int):Option (TL Zawi.σs⊕Out Zau2):=
 br (iL t42 t41)
 (
  chk (inb t42 (List.length b1))<|
  bnd (F4 ((gt Za1 b1 t42).2.2.2.1,())) fun x0=>
  chk (nQ (Int.toNat t42) (Int.toNat t42))<|
  chk (nQ (Int.toNat t42) (Int.toNat t42))<|
  chk (nQ (Int.toNat t42) (Int.toNat t42))<|
  chk (nQ (Int.toNat t42) (Int.toNat t42))<|
  chk (nQ (Int.toNat t42) (Int.toNat t42))<|
  chk (Zqo (Sh.beq Zb8) (gt Za1 b1 t42).2.2.2.2.1 (gt Za1 b1 t42).2.2.2.2.1)<|
  bnd (F3 ((gt Za1 b1 t42).2.2.2.2.1,())) fun x1=>
  chk (nQ (Int.toNat t42) (Int.toNat t42))<|
  chk (nQ (Int.toNat t42) (Int.toNat t42))<|
  chk (nQ (Int.toNat t42) (Int.toNat t42))<|
  chk (Nat.beq (Int.toNat t42) (Int.toNat t42))<|
  chk (Nat.beq (Int.toNat t42) (Int.toNat t42))<|
  bnd (L13 ((Int.ofNat (Int.toNat t42)),(t41,(t42,((Int.ofNat (List.length x0.1)),((0:Int),(b0_0,(b0_1,(b0_2,(b0_3,(b0_4,(b0_5,(b0_7,((Int.ofNat (Int.toNat t42)),(b1,((gt Za1 b1 t42).1,((gt Za1 b1 t42).2.1,((gt Za1 b1 t42).2.2.1,(x0.1,(x1.1,(b2_0,()))))))))))))))))))))) fun x2=>
  chk (Nat.beq (Int.toNat x2.1) (Int.toNat x2.2.2.2.2.2.2.2.2.2.2.1))<|
  bnd (L18 ((Int.ofNat (Int.toNat x2.1)),(x2.2.1,(x2.2.2.1,((Int.ofNat (List.length x2.2.2.2.2.2.2.2.2.2.2.2.2.2.2.2.2.1)),((0:Int),(x2.2.2.2.1,(x2.2.2.2.2.1,(x2.2.2.2.2.2.1,(x2.2.2.2.2.2.2.1,(x2.2.2.2.2.2.2.2.1,(x2.2.2.2.2.2.2.2.2.1,(x2.2.2.2.2.2.2.2.2.2.1,((Int.ofNat (Int.toNat x2.2.2.2.2.2.2.2.2.2.2.1)),(x2.2.2.2.2.2.2.2.2.2.2.2.1,(x2.2.2.2.2.2.2.2.2.2.2.2.2.1,(x2.2.2.2.2.2.2.2.2.2.2.2.2.2.1,(x2.2.2.2.2.2.2.2.2.2.2.2.2.2.2.1,(x2.2.2.2.2.2.2.2.2.2.2.2.2.2.2.2.1,(x2.2.2.2.2.2.2.2.2.2.2.2.2.2.2.2.2.1,(x2.2.2.2.2.2.2.2.2.2.2.2.2.2.2.2.2.2.1,()))))))))))))))))))))) fun x3=>
  some (.inl (x3.1,((IntKind.wrap .i64 (@HAdd.hAdd (Int) (Int) (Int) _ x3.2.1 (1:Int))),(x3.2.2.1,(x3.2.2.2.1,(x3.2.2.2.2.1,(x3.2.2.2.2.2.1,(x3.2.2.2.2.2.2.1,(x3.2.2.2.2.2.2.2.1,(x3.2.2.2.2.2.2.2.2.1,((List.set x3.2.2.2.2.2.2.2.2.2.2.1 (Int.toNat x3.2.2.2.2.2.2.2.2.2.1) (x3.2.2.2.2.2.2.2.2.2.2.2.1,(x3.2.2.2.2.2.2.2.2.2.2.2.2.1,(x3.2.2.2.2.2.2.2.2.2.2.2.2.2.1,(x3.2.2.2.2.2.2.2.2.2.2.2.2.2.2.1,(x3.2.2.2.2.2.2.2.2.2.2.2.2.2.2.2.1,())))))),(x3.2.2.2.2.2.2.2.2.2.2.2.2.2.2.2.2.1,())))))))))))))
 (
  some (.inr (b0_0,(b0_1,(b0_2,(b0_3,(b0_4,(b0_5,(b0_7,(b1,(b2_0,())))))))))))
def Zb84 (c3:Zadk) (c4:Zae8) (M13:Zaxs) (M18:Zaxr):Zb2r:=mkL (u11 (Zayj c3.F c4.F M13.L M18.L)) (pL (kB c3 (kB c4 k0)) e0 1 (sC M13 (sC M18 l0)) fun d=>by kernel_rfl)
def Zb83:Zb2r:=Zb84 Zadj Zae7 Zb4m Zb4l
abbrev Zb5f:List Sh:=[Za5]
abbrev Zb2q:List Sh:=[Za5]
abbrev Zb69:=TL Zb5f→Option (TL Zb2q)
abbrev Zb46:=Kd 68 Zb5f Zb2q
def Zb8t (F0:Zal9) (F1:Zaiz) (F2:Zagz) (F3:Zadi) (F4:Zae6) (F5:Zahq) (L8:Zb5g) (L13:Zb09) (L18:Zb08) (a0:Sh.T Za5):Option (TL Zb2q):=
 bnd (F2 (a0.2.1,())) fun x0=>
 bnd (F2 (a0.2.2.2.1,())) fun x1=>
 bnd (F2 (a0.2.2.2.2.1,())) fun x2=>
 bnd (F2 (a0.2.2.2.2.2.1,())) fun x3=>
 bnd (F1 (a0.2.2.1,())) fun x4=>
 bnd (F0 (a0.2.2.2.2.2.2.2.1,())) fun x5=>
 bnd (F5 (a0.2.2.2.2.2.2.1,())) fun x6=>
 bnd (L8 ((Int.ofNat (List.length x6.1)),((0:Int),(a0.1,(x0.1,(x4.1,(x1.1,(x2.1,(x3.1,(x5.1,(x6.1,((0:Int),())))))))))))) fun x7=>
 some ((x7.1,(x7.2.1,(x7.2.2.1,(x7.2.2.2.1,(x7.2.2.2.2.1,(x7.2.2.2.2.2.1,(x7.2.2.2.2.2.2.2.1,(x7.2.2.2.2.2.2.1,())))))))),())
def Zb8s (c0:Zalb) (c1:Zaj1) (c2:Zah1) (c3:Zadk) (c4:Zae8) (c5:Zahs) (M8:Zb2r) (M13:Zaxs) (M18:Zaxr):Zb46:=⟨u1 (Zb8t c0.F c1.F c2.F c3.F c4.F c5.F M8.L M13.L M18.L),pD Tryz.func68 123 (kD c0 (kD c1 (kD c2 (kB c3 (kB c4 (kB c5 k0)))))) e0 1 (lS (lU (Zb5 [0] (Zaa Tryz.f68)) 5 (kD c0 (kD c1 (kD c2 (kB c3 (kB c4 (kB c5 k0)))))) e0 1 l0 (by kernel_rfl) (sC M8 l0) (by kernel_rfl)) (by kernel_rfl)) fun d=>by kernel_rfl⟩
def Zb6a:Zb46:=Zb8s Zala Zaj0 Zah0 Zadj Zae7 Zahr Zb83 Zb4m Zb4l
abbrev Zamz:Lay:={ T:=[(0,.fzb .bool)],h:=[],nx:=0 }
abbrev Zada:List (Ev.Ex×Lay):=[(.ret,{ T:=[(0,.hd 0 .bool)],h:=yRa11,nx:=1 })]
abbrev Zaq0:=Kb 73 1 Zamz 1 Zada
def Zaxq (t0z:Bool) (t0:List Bool):Option (Out Zada):=
 br t0z
 (
  some ([],()))
 (
  chk (room 1 (List.length (ap [] t0)))<|
  some ((ap [] t0),()))
def Zaxp  :Zaq0:=⟨u2 Zaxq,pB Tryz.func73 8 k0 e0 1 (sS l0) fun d=>by kernel_rfl⟩
def Zapz:Zaq0:=Zaxp  
abbrev Zaoc:Lay:={ T:=[(0,.fz .bool)],h:=[],nx:=0 }
abbrev Zan1:List (Ev.Ex×Lay):=Zada
abbrev Zaey:=TL Zaoc.σs→Option (Out Zan1)
abbrev Zaez:=Kb 73 1 Zaoc 1 Zan1
def Zacy:Zaez:=mkZ Zapz rfl
abbrev Zan0:Lay:={ T:=[(0,.hd 0 .bool)],h:=yRa11,nx:=1 }
abbrev Zam9:List (Ev.Ex×Lay):=[(.ret,{ T:=[(0,.hd 1 .bool)],h:=[(0,.arr .bool 4),(1,.arr .bool 4)],nx:=2 })]
abbrev Zaj5:=TL Zan0.σs→Option (Out Zam9)
abbrev Zaj7:=Kb 73 1 Zan0 1 Zam9
def Zaj6:Zaj7:=⟨_,Zb8w (by kernel_rfl) Zacy.ok⟩
abbrev Zke:Lay:={ T:=[(0,.ptr 0 0),(1,.int .u64)],h:=yRa6,nx:=2 }
abbrev Zhx:List (Ev.Ex×Lay):=[(.ret,{ T:=[(0,.int .u64)],h:=yRa6,nx:=2 })]
abbrev Zawf:=TL Zke.σs→Option (Out Zhx)
abbrev Zarj:=Kb 75 2 Zke 1 Zhx
def Zq2 (t1 b0_0 b0_1:Int) (b1:List (Sh.T Za3)):Option (Out Zhx):=
 some ((@mget (.int .u64) b1 t1),(b0_0,(b0_1,(b1,()))))
def Zb59  :Zarj:=⟨u4 Zq2,pB Tryz.func75 13 k0 e0 1 (sS l0) fun d=>by kernel_rfl⟩
def Zawg:Zarj:=Zb59  
abbrev Zaxm:Lay:={ T:=[(0,.ptr 0 0)],h:=yRa6,nx:=2 }
abbrev Zax1:List (Ev.Ex×Lay):=[(.ret,{ T:=[(0,.fz Za3)],h:=yRa6,nx:=2 })]
abbrev Zb9j:=TL Zaxm.σs→Option (Out Zax1)
abbrev Zb9k:=Kb 83 1 Zaxm 1 Zax1
end Go.Proofs.YtkcpdpplobhpaaaGreat.V
end
