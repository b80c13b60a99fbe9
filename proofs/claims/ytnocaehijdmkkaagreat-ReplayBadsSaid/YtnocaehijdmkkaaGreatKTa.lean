import Derived.Test.YtnocaehijdmkkaaGreatKNc
import Derived.Test.YtnocaehijdmkkaaGreatKNd
import Derived.Test.YtnocaehijdmkkaaGreatKMf
import Derived.Test.YtnocaehijdmkkaaGreatKNe
set_option linter.unusedSectionVars false
set_option linter.unusedVariables false
set_option linter.unusedSimpArgs false
set_option linter.unnecessarySimpa false
section
namespace Go.Proofs.YtnocaehijdmkkaaGreat.V
open Go Go.RowKit
set_option maxRecDepth 1000000
abbrev Zazf:List Sh:=[(.int .i64)]
abbrev Zard:List Sh:=[.bool]
abbrev Zb19:=TL Zazf→Option (TL Zard)
abbrev Zax9:=Kd 110 Zazf Zard
def Zax8 (a0:Int):Option (TL Zard):=
 some ((Bool.not (iQ a0 a0)),())
def Zb5q  :Zax9:=⟨u1 Zax8,pD Tryz.func110 6 k0 e0 1 (sS l0) fun d=>by kernel_rfl⟩
def Zb1a:Zax9:=Zb5q  
def Zazg:Zb19:=Zb1a.F
abbrev Zaye:List Sh:=[(.int .i64),(.int .i64)]
abbrev Zan4:List Sh:=[(.int .i64)]
abbrev Zayl:=TL Zaye→Option (TL Zan4)
abbrev Zau5:=Kd 77 Zaye Zan4
def Zale (F0:Zb19) (a0 a1:Int):Option (TL Zan4):=
 bnd (F0 (a0,())) fun x0=>
 bnd (F0 (a1,())) fun x1=>
 br x0.1
 (
  br x1.1
  (
   some ((0:Int),()))
  (
   some ((Int.negSucc 0),())))
 (
  br x1.1
  (
   some ((1:Int),()))
  (
   br (iL a0 a1)
   (
    some ((Int.negSucc 0),()))
   (
    br (iL a1 a0)
    (
     some ((1:Int),()))
    (
     some ((0:Int),())))))
def Zb4q (c0:Zax9) :Zau5:=⟨u2 (Zale c0.F),pD Tryz.func77 20 (kD c0 k0) e0 1 (sS l0) fun d=>by kernel_rfl⟩
def Zaym:Zau5:=Zb4q Zb1a 
def Zasv:Zayl:=Zaym.F
abbrev yTa0:List (Nat×LO):=[(0,.arr Za4 135),(1,.cells [.ptr 2 0] 128),(2,.cells [.int .i64,.fz (.int .i64),.fz Za0,.fz (.int .i64),.fz (.int .i64),.fz (.int .i64),.fz Za1,.fz Za0,.hd 3 (.int .i64),.hd 0 Za4,.hd 4 (.int .u8),.hd 5 (.int .i64)] 138),(3,.arr (.int .i64) 3),(4,.arr (.int .u8) 5),(5,.arr (.int .i64) 3)]
abbrev yTa1:List (Nat×LO):=[(0,.cells [.ptr 1 0] 128),(1,.cells [.int .i64,.fz (.int .i64),.fz Za0,.fz (.int .i64),.fz (.int .i64),.fz (.int .i64),.fz Za1,.fz Za0,.hd 2 (.int .i64),.hd 3 Za4,.hd 4 (.int .u8),.hd 5 (.int .i64)] 138),(2,.arr (.int .i64) 3),(3,.arr Za4 135),(4,.arr (.int .u8) 5),(5,.arr (.int .i64) 3)]
abbrev yTa2:Lay:={ T:=[],h:=yTa0,nx:=6 }
abbrev yTa3:Lay:={ T:=[(0,.hd 0 Za4),(1,.int .i64),(2,.int .i64),(3,.int .i64),(4,.func 76 [] [.ptr 1 0])],h:=yTa0,nx:=6 }
abbrev yTa4:Lay:={ T:=[(0,.hd 0 Za4),(1,.int .i64),(2,.func 76 [] [.ptr 1 0]),(6,.int .i64),(7,.int .i64),(8,.int .i64)],h:=yTa0,nx:=6 }
abbrev yTa5:Lay:={ T:=[(0,.hd 0 Za4),(1,.int .i64),(2,.int .i64),(3,.func 76 [] [.ptr 1 0]),(8,.int .i64)],h:=yTa0,nx:=6 }
abbrev yTa6:Lay:={ T:=[(0,.hd 0 Za4),(1,.int .i64),(2,.func 76 [] [.ptr 1 0]),(6,.int .i64),(7,.int .i64)],h:=yTa0,nx:=6 }
abbrev Zb18:Lay:={ T:=[(0,.agg [.bool,.int .i64,.int .i64]),(1,.agg [.bool,.int .i64,.int .i64]),(2,.ptr 0 0)],h:=yTa1,nx:=6 }
abbrev Zaw7:List (Ev.Ex×Lay):=[(.ret,{ T:=[(0,.int .i64)],h:=yTa1,nx:=6 })]
abbrev Zad7:=TL Zb18.σs→Option (Out Zaw7)
abbrev Zacf:=Kb 76 3 Zb18 1 Zaw7
def Zb6i (F0:Zayl) (F1:Zak5) (t0_0:Bool) (t0_1 t0_2:Int) (t1_0:Bool) (t1_1 t1_2 b1_0:Int) (b1_1:List Int) (b1_2:List (Sh.T Za0)) (b1_3 b1_4 b1_5:List Int) (b1_6:List (Sh.T Za1)) (b1_7:List (Sh.T Za0)) (b2:List Int) (b3:List (Sh.T Za4)) (b4 b5:List Int):Option (Out Zaw7):=
 bnd (F1 (t0_0,(t0_1,(t0_2,(b1_0,(b1_1,(b1_2,(b1_3,(b1_4,(b1_5,(b1_6,(b1_7,(b2,(b3,(b4,(b5,())))))))))))))))) fun x0=>
 chk (inb (0:Int) (List.length x0.1))<|
 chk (inb (gt (.int .i64) x0.1 (0:Int)) (List.length x0.2.2.2.2.2.2.2.2.2.2.2.2.1))<|
 chk (both (bQ t1_0 t1_0) (both (iQ t1_1 t1_1) (both (iQ t1_2 t1_2) true)))<|
 bnd (F1 (t1_0,(t1_1,(t1_2,x0.2)))) fun x1=>
 chk (inb (0:Int) (List.length x1.1))<|
 chk (inb (gt (.int .i64) x1.1 (0:Int)) (List.length x1.2.2.2.2.2.2.2.2.2.2.2.2.1))<|
 chk (inb (0:Int) (List.length x0.1))<|
 chk (Sh.beq (.int .i64) (gt (.int .i64) x0.1 (0:Int)) (gt (.int .i64) x0.1 (0:Int)))<|
 chk (iQ (gt (.int .i64) x0.1 (0:Int)) (gt (.int .i64) x0.1 (0:Int)))<|
 chk (inb (gt (.int .i64) x0.1 (0:Int)) (List.length x1.2.2.2.2.2.2.2.2.2.2.2.2.1))<|
 chk (nQ (Int.toNat (gt (.int .i64) x0.1 (0:Int))) (Int.toNat (gt (.int .i64) x0.1 (0:Int))))<|
 chk (iQ (gt (.int .i64) x0.2.2.2.2.2.2.2.2.2.2.2.2.1 (gt (.int .i64) x0.1 (0:Int))) (gt (.int .i64) x1.2.2.2.2.2.2.2.2.2.2.2.2.1 (gt (.int .i64) x0.1 (0:Int))))<|
 bnd (F0 ((gt (.int .i64) x0.2.2.2.2.2.2.2.2.2.2.2.2.1 (gt (.int .i64) x0.1 (0:Int))),((gt (.int .i64) x1.2.2.2.2.2.2.2.2.2.2.2.2.1 (gt (.int .i64) x1.1 (0:Int))),()))) fun x2=>
 some (x2.1,x1.2)
def Zb6h (c0:Zau5) (c1:Zagt) :Zacf:=⟨u18 (Zb6i c0.F c1.F),pB Tryz.func76 29 (kD c0 (kB c1 k0)) e0 1 (sS l0) fun d=>by kernel_rfl⟩
def Zad8:Zacf:=Zb6h Zaym Zak6 
def Zaan:Zad7:=Zad8.F
abbrev Zahy:Lay:=yTa3
abbrev Zacx:List (Ev.Ex×Lay):=[(.ret,yTa2)]
abbrev Zadw:=TL Zahy.σs→Option (Out Zacx)
abbrev Zac0:=Kb 163 5 Zahy 0 Zacx
abbrev Zabb:Lay:={ T:=[(0,.hd 0 Za4),(1,.int .i64),(2,.int .i64),(3,.int .i64),(10,.int .i64)],h:=yTa0,nx:=6 }
abbrev Zab3:List (Ev.Ex×Lay):=[((.exit 0),yTa2)]
abbrev Zaiu:=TL Zabb.σs→Option (Out Zab3)
abbrev Zaix:=Ld 6 38 (Zb5 [0] (Zaa Tryz.f163)) Zabb Zab3
def Zabq (t1 t2 t3 t10:Int) (b0:List (Sh.T Za4)) (b2_0:Int) (b2_1:List Int) (b2_2:List (Sh.T Za0)) (b2_3 b2_4 b2_5:List Int) (b2_6:List (Sh.T Za1)) (b2_7:List (Sh.T Za0)) (b3 b4 b5:List Int):Option (TL Zabb.σs⊕Out Zab3):=
 br (iL t10 t3)
 (
  chk (inb (IntKind.wrap .i64 (t2+t10)) (List.length b0))<|
  chk (inb (IntKind.wrap .i64 (t1+t10)) (List.length b0))<|
  chk (inb (IntKind.wrap .i64 (t1+t10)) (List.length b0))<|
  chk (inb (IntKind.wrap .i64 (t2+t10)) (List.length (List.set b0 (Int.toNat (IntKind.wrap .i64 (t1+t10))) ((gt Za4 b0 (IntKind.wrap .i64 (t2+t10))).1,((gt Za4 b0 (IntKind.wrap .i64 (t2+t10))).2.1,((gt Za4 b0 (IntKind.wrap .i64 (t2+t10))).2.2.1,()))))))<|
  chk (iQ t2 t2)<|
  chk (iQ t10 t10)<|
  chk (iQ (IntKind.wrap .i64 (t2+t10)) (IntKind.wrap .i64 (t2+t10)))<|
  some (.inl (t1,(t2,(t3,((IntKind.wrap .i64 (t10+(1:Int))),((List.set (List.set b0 (Int.toNat (IntKind.wrap .i64 (t1+t10))) ((gt Za4 b0 (IntKind.wrap .i64 (t2+t10))).1,((gt Za4 b0 (IntKind.wrap .i64 (t2+t10))).2.1,((gt Za4 b0 (IntKind.wrap .i64 (t2+t10))).2.2.1,())))) (Int.toNat (IntKind.wrap .i64 (t2+t10))) ((gt Za4 b0 (IntKind.wrap .i64 (t1+t10))).1,((gt Za4 b0 (IntKind.wrap .i64 (t1+t10))).2.1,((gt Za4 b0 (IntKind.wrap .i64 (t1+t10))).2.2.1,())))),(b2_0,(b2_1,(b2_2,(b2_3,(b2_4,(b2_5,(b2_6,(b2_7,(b3,(b4,(b5,()))))))))))))))))))
 (
  some (.inr (b0,(b2_0,(b2_1,(b2_2,(b2_3,(b2_4,(b2_5,(b2_6,(b2_7,(b3,(b4,(b5,()))))))))))))))
def Zaru  :Zaix:=mkL (u16 Zabq) (pL k0 e0 1 l0 fun d=>by kernel_rfl)
def Zaiv:Zaiu:=lpD (u16 Zabq) NN
def Zas3 (F0:Zad7) (L1:Zaiu) (t1 t2 t3:Int) (b0:List (Sh.T Za4)) (b2_0:Int) (b2_1:List Int) (b2_2:List (Sh.T Za0)) (b2_3 b2_4 b2_5:List Int) (b2_6:List (Sh.T Za1)) (b2_7:List (Sh.T Za0)) (b3 b4 b5:List Int):Option (Out Zacx):=
 bnd (L1 (t1,(t2,(t3,((0:Int),(b0,(b2_0,(b2_1,(b2_2,(b2_3,(b2_4,(b2_5,(b2_6,(b2_7,(b3,(b4,(b5,()))))))))))))))))) fun x0=>
 some x0
def Zas2 (c0:Zacf) (M1:Zaix):Zac0:=⟨u15 (Zas3 c0.F M1.L),pB Tryz.func163 38 (kB c0 k0) e0 1 (sS (sC M1 l0)) fun d=>by kernel_rfl⟩
def Zadx:Zac0:=Zas2 Zad8 Zaru
def Zaiw:Zadw:=Zadx.F
abbrev Zajy:Lay:=yTa3
abbrev Zaar:List (Ev.Ex×Lay):=[(.ret,yTa2)]
abbrev Zal7:=TL Zajy.σs→Option (Out Zaar)
abbrev Zaev:=Kb 154 5 Zajy 0 Zaar
abbrev Zaas:Lay:={ T:=[(0,.hd 0 Za4),(2,.int .i64),(4,.func 76 [] [.ptr 1 0]),(10,.int .i64),(11,.int .i64)],h:=yTa0,nx:=6 }
abbrev Zaao:List (Ev.Ex×Lay):=[((.exit 0),{ T:=[(0,.hd 0 Za4),(2,.int .i64),(4,.func 76 [] [.ptr 1 0]),(10,.int .i64)],h:=yTa0,nx:=6 })]
abbrev Zakz:=TL Zaas.σs→Option (Out Zaao)
abbrev Zaes:=Ld 6 58 (Zb5 [0] (Zaa Tryz.f154)) Zaas Zaao
def Zaet (F1:Zadw) (t2 t10 t11:Int) (b0:List (Sh.T Za4)) (b2_0:Int) (b2_1:List Int) (b2_2:List (Sh.T Za0)) (b2_3 b2_4 b2_5:List Int) (b2_6:List (Sh.T Za1)) (b2_7:List (Sh.T Za0)) (b3 b4 b5:List Int):Option (TL Zaas.σs⊕Out Zaao):=
 br (Bool.not (iQ t10 t11))
 (
  br (iL t11 t10)
  (
   bnd (F1 ((IntKind.wrap .i64 (t2 - t10)),(t2,(t11,(b0,(b2_0,(b2_1,(b2_2,(b2_3,(b2_4,(b2_5,(b2_6,(b2_7,(b3,(b4,(b5,())))))))))))))))) fun x0=>
   some (.inl (t2,((IntKind.wrap .i64 (t10 - t11)),(t11,x0)))))
  (
   bnd (F1 ((IntKind.wrap .i64 (t2 - t10)),((IntKind.wrap .i64 ((IntKind.wrap .i64 (t2+t11)) - t10)),(t10,(b0,(b2_0,(b2_1,(b2_2,(b2_3,(b2_4,(b2_5,(b2_6,(b2_7,(b3,(b4,(b5,())))))))))))))))) fun x0=>
   some (.inl (t2,(t10,((IntKind.wrap .i64 (t11 - t10)),x0))))))
 (
  some (.inr (t2,(t10,(b0,(b2_0,(b2_1,(b2_2,(b2_3,(b2_4,(b2_5,(b2_6,(b2_7,(b3,(b4,(b5,()))))))))))))))))
def Zato (c1:Zac0) :Zaes:=mkL (u15 (Zaet c1.F)) (pL (kB c1 k0) e0 1 l0 fun d=>by kernel_rfl)
def Zatn:Zaes:=Zato Zadx 
def Zaer:Zakz:=lpD (u15 (Zaet Zaiw)) NN
def Zatw (F0:Zad7) (F1:Zadw) (L2:Zakz) (t1 t2 t3:Int) (b0:List (Sh.T Za4)) (b2_0:Int) (b2_1:List Int) (b2_2:List (Sh.T Za0)) (b2_3 b2_4 b2_5:List Int) (b2_6:List (Sh.T Za1)) (b2_7:List (Sh.T Za0)) (b3 b4 b5:List Int):Option (Out Zaar):=
 bnd (L2 (t2,((IntKind.wrap .i64 (t2 - t1)),((IntKind.wrap .i64 (t3 - t2)),(b0,(b2_0,(b2_1,(b2_2,(b2_3,(b2_4,(b2_5,(b2_6,(b2_7,(b3,(b4,(b5,())))))))))))))))) fun x0=>
 bnd (F1 ((IntKind.wrap .i64 (@HSub.hSub (Int) (Int) (Int) _ x0.1 x0.2.1)),x0)) fun x1=>
 some x1
def Zatv (c0:Zacf) (c1:Zac0) (M2:Zaes):Zaev:=⟨u15 (Zatw c0.F c1.F M2.L),pB Tryz.func154 58 (kB c0 (kB c1 k0)) e0 1 (sS (sC M2 l0)) fun d=>by kernel_rfl⟩
def Zal8:Zaev:=Zatv Zad8 Zadx Zatn
def Zace:Zal7:=Zal8.F
abbrev Zafm:Lay:={ T:=[(0,.hd 0 Za4),(1,.int .i64),(2,.int .i64),(3,.func 76 [] [.ptr 1 0])],h:=yTa0,nx:=6 }
abbrev Zac7:List (Ev.Ex×Lay):=[(.ret,yTa2)]
abbrev Zacv:=TL Zafm.σs→Option (Out Zac7)
abbrev Zab4:=Kb 130 4 Zafm 0 Zac7
abbrev Zaap:Lay:=yTa5
abbrev Zaal:List (Ev.Ex×Lay):=[((.exit 0),yTa2)]
abbrev Zag5:=TL Zaap.σs→Option (Out Zaal)
abbrev Zacj:=Ld 6 53 (Zb5 [0] (Zaa Tryz.f130)) Zaap Zaal
abbrev Zaaa:Lay:={ T:=[(0,.hd 0 Za4),(1,.int .i64),(2,.int .i64),(3,.func 76 [] [.ptr 1 0]),(8,.int .i64),(9,.int .i64)],h:=yTa0,nx:=6 }
abbrev Zaa9:List (Ev.Ex×Lay):=[((.exit 2),yTa5)]
abbrev Zach:=TL Zaaa.σs→Option (Out Zaa9)
abbrev Zaav:=Ld 6 53 (Zb5 [0,0] (Zaa Tryz.f130)) Zaaa Zaa9
def Zack (F0:Zad7) (t1 t2 t8 t9:Int) (b0:List (Sh.T Za4)) (b2_0:Int) (b2_1:List Int) (b2_2:List (Sh.T Za0)) (b2_3 b2_4 b2_5:List Int) (b2_6:List (Sh.T Za1)) (b2_7:List (Sh.T Za0)) (b3 b4 b5:List Int):Option (TL Zaaa.σs⊕Out Zaa9):=
 br (iL t1 t9)
 (
  chk (inb t9 (List.length b0))<|
  chk (inb (IntKind.wrap .i64 (t9 - (1:Int))) (List.length b0))<|
  bnd (F0 ((gt Za4 b0 t9).1,((gt Za4 b0 t9).2.1,((gt Za4 b0 t9).2.2.1,((gt Za4 b0 (IntKind.wrap .i64 (t9 - (1:Int)))).1,((gt Za4 b0 (IntKind.wrap .i64 (t9 - (1:Int)))).2.1,((gt Za4 b0 (IntKind.wrap .i64 (t9 - (1:Int)))).2.2.1,(b2_0,(b2_1,(b2_2,(b2_3,(b2_4,(b2_5,(b2_6,(b2_7,(b3,(b0,(b4,(b5,()))))))))))))))))))) fun x0=>
  br (selB true (iL x0.1 (0:Int)) false)
  (
   chk (inb (IntKind.wrap .i64 (t9 - (1:Int))) (List.length x0.2.2.2.2.2.2.2.2.2.2.1))<|
   chk (inb t9 (List.length x0.2.2.2.2.2.2.2.2.2.2.1))<|
   chk (inb t9 (List.length x0.2.2.2.2.2.2.2.2.2.2.1))<|
   chk (inb (IntKind.wrap .i64 (t9 - (1:Int))) (List.length (List.set x0.2.2.2.2.2.2.2.2.2.2.1 (Int.toNat t9) ((gt Za4 x0.2.2.2.2.2.2.2.2.2.2.1 (IntKind.wrap .i64 (t9 - (1:Int)))).1,((gt Za4 x0.2.2.2.2.2.2.2.2.2.2.1 (IntKind.wrap .i64 (t9 - (1:Int)))).2.1,((gt Za4 x0.2.2.2.2.2.2.2.2.2.2.1 (IntKind.wrap .i64 (t9 - (1:Int)))).2.2.1,()))))))<|
   chk (iQ t9 t9)<|
   chk (iQ (IntKind.wrap .i64 (t9 - (1:Int))) (IntKind.wrap .i64 (t9 - (1:Int))))<|
   some (.inl (t1,(t2,(t8,((IntKind.wrap .i64 (t9 - (1:Int))),((List.set (List.set x0.2.2.2.2.2.2.2.2.2.2.1 (Int.toNat t9) ((gt Za4 x0.2.2.2.2.2.2.2.2.2.2.1 (IntKind.wrap .i64 (t9 - (1:Int)))).1,((gt Za4 x0.2.2.2.2.2.2.2.2.2.2.1 (IntKind.wrap .i64 (t9 - (1:Int)))).2.1,((gt Za4 x0.2.2.2.2.2.2.2.2.2.2.1 (IntKind.wrap .i64 (t9 - (1:Int)))).2.2.1,())))) (Int.toNat (IntKind.wrap .i64 (t9 - (1:Int)))) ((gt Za4 x0.2.2.2.2.2.2.2.2.2.2.1 t9).1,((gt Za4 x0.2.2.2.2.2.2.2.2.2.2.1 t9).2.1,((gt Za4 x0.2.2.2.2.2.2.2.2.2.2.1 t9).2.2.1,())))),(x0.2.1,(x0.2.2.1,(x0.2.2.2.1,(x0.2.2.2.2.1,(x0.2.2.2.2.2.1,(x0.2.2.2.2.2.2.1,(x0.2.2.2.2.2.2.2.1,(x0.2.2.2.2.2.2.2.2.1,(x0.2.2.2.2.2.2.2.2.2.1,x0.2.2.2.2.2.2.2.2.2.2.2))))))))))))))))
  (
   some (.inr (t1,(t2,(t8,(x0.2.2.2.2.2.2.2.2.2.2.1,(x0.2.1,(x0.2.2.1,(x0.2.2.2.1,(x0.2.2.2.2.1,(x0.2.2.2.2.2.1,(x0.2.2.2.2.2.2.1,(x0.2.2.2.2.2.2.2.1,(x0.2.2.2.2.2.2.2.2.1,(x0.2.2.2.2.2.2.2.2.2.1,x0.2.2.2.2.2.2.2.2.2.2.2))))))))))))))))
 (
  some (.inr (t1,(t2,(t8,(b0,(b2_0,(b2_1,(b2_2,(b2_3,(b2_4,(b2_5,(b2_6,(b2_7,(b3,(b4,(b5,())))))))))))))))))
def Zaog (c0:Zacf) :Zaav:=mkL (u16 (Zack c0.F)) (pL (kB c0 k0) e0 1 l0 fun d=>by kernel_rfl)
def Zag6:Zaav:=Zaog Zad8 
def Zaci:Zach:=lpD (u16 (Zack Zaan)) NN
def Zaaw (L4:Zach) (t1 t2 t8:Int) (b0:List (Sh.T Za4)) (b2_0:Int) (b2_1:List Int) (b2_2:List (Sh.T Za0)) (b2_3 b2_4 b2_5:List Int) (b2_6:List (Sh.T Za1)) (b2_7:List (Sh.T Za0)) (b3 b4 b5:List Int):Option (TL Zaap.σs⊕Out Zaal):=
 br (iL t8 t2)
 (
  bnd (L4 (t1,(t2,(t8,(t8,(b0,(b2_0,(b2_1,(b2_2,(b2_3,(b2_4,(b2_5,(b2_6,(b2_7,(b3,(b4,(b5,()))))))))))))))))) fun x0=>
  some (.inl (x0.1,(x0.2.1,((IntKind.wrap .i64 (@HAdd.hAdd (Int) (Int) (Int) _ x0.2.2.1 (1:Int))),x0.2.2.2)))))
 (
  some (.inr (b0,(b2_0,(b2_1,(b2_2,(b2_3,(b2_4,(b2_5,(b2_6,(b2_7,(b3,(b4,(b5,()))))))))))))))
def Zaoh (M4:Zaav):Zacj:=mkL (u15 (Zaaw M4.L)) (pL k0 e0 1 (sC M4 l0) fun d=>by kernel_rfl)
def Zaof:Zacj:=Zaoh  Zag6
def Zaau:Zag5:=lpD (u15 (Zaaw Zaci)) NN
def Zaq2 (F0:Zad7) (L1:Zag5) (L4:Zach) (t1 t2:Int) (b0:List (Sh.T Za4)) (b2_0:Int) (b2_1:List Int) (b2_2:List (Sh.T Za0)) (b2_3 b2_4 b2_5:List Int) (b2_6:List (Sh.T Za1)) (b2_7:List (Sh.T Za0)) (b3 b4 b5:List Int):Option (Out Zac7):=
 bnd (L1 (t1,(t2,((IntKind.wrap .i64 (t1+(1:Int))),(b0,(b2_0,(b2_1,(b2_2,(b2_3,(b2_4,(b2_5,(b2_6,(b2_7,(b3,(b4,(b5,())))))))))))))))) fun x0=>
 some x0
def Zaq1 (c0:Zacf) (M1:Zacj) (M4:Zaav):Zab4:=⟨u14 (Zaq2 c0.F M1.L M4.L),pB Tryz.func130 53 (kB c0 k0) e0 1 (sS (sC M1 l0)) fun d=>by kernel_rfl⟩
def Zacw:Zab4:=Zaq1 Zad8 Zaof Zag6
def Zag7:Zacv:=Zacw.F
abbrev Zaip:Lay:=yTa3
abbrev Zabg:List (Ev.Ex×Lay):=[(.ret,yTa2)]
abbrev Zaa1:=TL Zaip.σs→Option (Out Zabg)
abbrev Zaa3:=Kb 131 5 Zaip 0 Zabg
abbrev Zab8:Lay:={ T:=[(0,.hd 0 Za4),(1,.int .i64),(2,.int .i64),(3,.int .i64),(4,.func 76 [] [.ptr 1 0]),(18,.int .i64),(19,.int .i64),(20,.int .i64),(21,.int .i64),(22,.int .i64)],h:=yTa0,nx:=6 }
abbrev Zab0:List (Ev.Ex×Lay):=[((.exit 8),{ T:=[(0,.hd 0 Za4),(1,.int .i64),(2,.int .i64),(3,.int .i64),(4,.func 76 [] [.ptr 1 0]),(18,.int .i64),(19,.int .i64),(20,.int .i64)],h:=yTa0,nx:=6 })]
abbrev Zaiq:=TL Zab8.σs→Option (Out Zab0)
abbrev Zadf:=Ld 6 220 (Zb5 [4] (Zaa Tryz.f131)) Zab8 Zab0
abbrev Zab9:Lay:={ T:=[(0,.hd 0 Za4),(14,.int .i64),(17,.int .i64)],h:=yTa0,nx:=6 }
abbrev Zab1:List (Ev.Ex×Lay):=[((.exit 6),yTa2)]
abbrev Zair:=TL Zab9.σs→Option (Out Zab1)
abbrev Zadg:=Ld 6 220 (Zb5 [3] (Zaa Tryz.f131)) Zab9 Zab1
abbrev Zaba:Lay:={ T:=[(0,.hd 0 Za4),(2,.int .i64),(4,.func 76 [] [.ptr 1 0]),(14,.int .i64),(15,.int .i64)],h:=yTa0,nx:=6 }
abbrev Zab2:List (Ev.Ex×Lay):=[((.exit 4),{ T:=[(0,.hd 0 Za4),(2,.int .i64),(14,.int .i64)],h:=yTa0,nx:=6 })]
abbrev Zais:=TL Zaba.σs→Option (Out Zab2)
abbrev Zadh:=Ld 6 220 (Zb5 [2] (Zaa Tryz.f131)) Zaba Zab2
abbrev Zabh:Lay:={ T:=[(0,.hd 0 Za4),(10,.int .i64),(13,.int .i64)],h:=yTa0,nx:=6 }
abbrev Zab6:List (Ev.Ex×Lay):=[((.exit 2),yTa2)]
abbrev Zajn:=TL Zabh.σs→Option (Out Zab6)
abbrev Zadu:=Ld 6 220 (Zb5 [1] (Zaa Tryz.f131)) Zabh Zab6
abbrev Zabi:Lay:={ T:=[(0,.hd 0 Za4),(1,.int .i64),(4,.func 76 [] [.ptr 1 0]),(10,.int .i64),(11,.int .i64)],h:=yTa0,nx:=6 }
abbrev Zab7:List (Ev.Ex×Lay):=[((.exit 0),{ T:=[(0,.hd 0 Za4),(1,.int .i64),(10,.int .i64)],h:=yTa0,nx:=6 })]
abbrev Zajo:=TL Zabi.σs→Option (Out Zab7)
abbrev Zadv:=Ld 6 220 (Zb5 [0] (Zaa Tryz.f131)) Zabi Zab7
def Zaag (F0:Zad7) (t1 t10 t11:Int) (b0:List (Sh.T Za4)) (b2_0:Int) (b2_1:List Int) (b2_2:List (Sh.T Za0)) (b2_3 b2_4 b2_5:List Int) (b2_6:List (Sh.T Za1)) (b2_7:List (Sh.T Za0)) (b3 b4 b5:List Int):Option (TL Zabi.σs⊕Out Zab7):=
 br (iL t10 t11)
 (
  chk (inb (IntKind.wrap .i64 (Int.fdiv (IntKind.wrap .u64 (IntKind.wrap .i64 (t10+t11))) (HPow.hPow (2:Int) (Min.min (Int.toNat (1:Int)) 64)))) (List.length b0))<|
  chk (inb t1 (List.length b0))<|
  bnd (F0 ((gt Za4 b0 (IntKind.wrap .i64 (Int.fdiv (IntKind.wrap .u64 (IntKind.wrap .i64 (t10+t11))) (HPow.hPow (2:Int) (Min.min (Int.toNat (1:Int)) 64))))).1,((gt Za4 b0 (IntKind.wrap .i64 (Int.fdiv (IntKind.wrap .u64 (IntKind.wrap .i64 (t10+t11))) (HPow.hPow (2:Int) (Min.min (Int.toNat (1:Int)) 64))))).2.1,((gt Za4 b0 (IntKind.wrap .i64 (Int.fdiv (IntKind.wrap .u64 (IntKind.wrap .i64 (t10+t11))) (HPow.hPow (2:Int) (Min.min (Int.toNat (1:Int)) 64))))).2.2.1,((gt Za4 b0 t1).1,((gt Za4 b0 t1).2.1,((gt Za4 b0 t1).2.2.1,(b2_0,(b2_1,(b2_2,(b2_3,(b2_4,(b2_5,(b2_6,(b2_7,(b3,(b0,(b4,(b5,()))))))))))))))))))) fun x0=>
  br (iL x0.1 (0:Int))
  (
   some (.inl (t1,((IntKind.wrap .i64 ((IntKind.wrap .i64 (Int.fdiv (IntKind.wrap .u64 (IntKind.wrap .i64 (t10+t11))) (HPow.hPow (2:Int) (Min.min (Int.toNat (1:Int)) 64))))+(1:Int))),(t11,(x0.2.2.2.2.2.2.2.2.2.2.1,(x0.2.1,(x0.2.2.1,(x0.2.2.2.1,(x0.2.2.2.2.1,(x0.2.2.2.2.2.1,(x0.2.2.2.2.2.2.1,(x0.2.2.2.2.2.2.2.1,(x0.2.2.2.2.2.2.2.2.1,(x0.2.2.2.2.2.2.2.2.2.1,x0.2.2.2.2.2.2.2.2.2.2.2)))))))))))))))
  (
   some (.inl (t1,(t10,((IntKind.wrap .i64 (Int.fdiv (IntKind.wrap .u64 (IntKind.wrap .i64 (t10+t11))) (HPow.hPow (2:Int) (Min.min (Int.toNat (1:Int)) 64)))),(x0.2.2.2.2.2.2.2.2.2.2.1,(x0.2.1,(x0.2.2.1,(x0.2.2.2.1,(x0.2.2.2.2.1,(x0.2.2.2.2.2.1,(x0.2.2.2.2.2.2.1,(x0.2.2.2.2.2.2.2.1,(x0.2.2.2.2.2.2.2.2.1,(x0.2.2.2.2.2.2.2.2.2.1,x0.2.2.2.2.2.2.2.2.2.2.2))))))))))))))))
 (
  some (.inr (t1,(t10,(b0,(b2_0,(b2_1,(b2_2,(b2_3,(b2_4,(b2_5,(b2_6,(b2_7,(b3,(b4,(b5,()))))))))))))))))
def Zas1 (c0:Zacf) :Zadv:=mkL (u15 (Zaag c0.F)) (pL (kB c0 k0) e0 1 l0 fun d=>by kernel_rfl)
def Zarz (s:Zaa3):Zadv:=Zas1 Zad8 
def Zajp (F:Zaa1):Zajo:=lpD (fun d=>Zaag Zaan  d.1 d.2.1 d.2.2.1 d.2.2.2.1 d.2.2.2.2.1 d.2.2.2.2.2.1 d.2.2.2.2.2.2.1 d.2.2.2.2.2.2.2.1 d.2.2.2.2.2.2.2.2.1 d.2.2.2.2.2.2.2.2.2.1 d.2.2.2.2.2.2.2.2.2.2.1 d.2.2.2.2.2.2.2.2.2.2.2.1 d.2.2.2.2.2.2.2.2.2.2.2.2.1 d.2.2.2.2.2.2.2.2.2.2.2.2.2.1 d.2.2.2.2.2.2.2.2.2.2.2.2.2.2.1) NN
def Zabz (t10 t13:Int) (b0:List (Sh.T Za4)) (b2_0:Int) (b2_1:List Int) (b2_2:List (Sh.T Za0)) (b2_3 b2_4 b2_5:List Int) (b2_6:List (Sh.T Za1)) (b2_7:List (Sh.T Za0)) (b3 b4 b5:List Int):Option (TL Zabh.σs⊕Out Zab6):=
 br (iL t13 (IntKind.wrap .i64 (t10 - (1:Int))))
 (
  chk (inb (IntKind.wrap .i64 (t13+(1:Int))) (List.length b0))<|
  chk (inb t13 (List.length b0))<|
  chk (inb t13 (List.length b0))<|
  chk (inb (IntKind.wrap .i64 (t13+(1:Int))) (List.length (List.set b0 (Int.toNat t13) ((gt Za4 b0 (IntKind.wrap .i64 (t13+(1:Int)))).1,((gt Za4 b0 (IntKind.wrap .i64 (t13+(1:Int)))).2.1,((gt Za4 b0 (IntKind.wrap .i64 (t13+(1:Int)))).2.2.1,()))))))<|
  chk (iQ t13 t13)<|
  chk (iQ (IntKind.wrap .i64 (t13+(1:Int))) (IntKind.wrap .i64 (t13+(1:Int))))<|
  some (.inl (t10,((IntKind.wrap .i64 (t13+(1:Int))),((List.set (List.set b0 (Int.toNat t13) ((gt Za4 b0 (IntKind.wrap .i64 (t13+(1:Int)))).1,((gt Za4 b0 (IntKind.wrap .i64 (t13+(1:Int)))).2.1,((gt Za4 b0 (IntKind.wrap .i64 (t13+(1:Int)))).2.2.1,())))) (Int.toNat (IntKind.wrap .i64 (t13+(1:Int)))) ((gt Za4 b0 t13).1,((gt Za4 b0 t13).2.1,((gt Za4 b0 t13).2.2.1,())))),(b2_0,(b2_1,(b2_2,(b2_3,(b2_4,(b2_5,(b2_6,(b2_7,(b3,(b4,(b5,()))))))))))))))))
 (
  some (.inr (b0,(b2_0,(b2_1,(b2_2,(b2_3,(b2_4,(b2_5,(b2_6,(b2_7,(b3,(b4,(b5,()))))))))))))))
def Zas0  :Zadu:=mkL (u14 Zabz) (pL k0 e0 1 l0 fun d=>by kernel_rfl)
def Zary (s:Zaa3):Zadu:=Zas0  
def Zads (F:Zaa1):Zajn:=lpD (fun d=>Zabz   d.1 d.2.1 d.2.2.1 d.2.2.2.1 d.2.2.2.2.1 d.2.2.2.2.2.1 d.2.2.2.2.2.2.1 d.2.2.2.2.2.2.2.1 d.2.2.2.2.2.2.2.2.1 d.2.2.2.2.2.2.2.2.2.1 d.2.2.2.2.2.2.2.2.2.2.1 d.2.2.2.2.2.2.2.2.2.2.2.1 d.2.2.2.2.2.2.2.2.2.2.2.2.1 d.2.2.2.2.2.2.2.2.2.2.2.2.2.1) NN
def Zaac (F0:Zad7) (t2 t14 t15:Int) (b0:List (Sh.T Za4)) (b2_0:Int) (b2_1:List Int) (b2_2:List (Sh.T Za0)) (b2_3 b2_4 b2_5:List Int) (b2_6:List (Sh.T Za1)) (b2_7:List (Sh.T Za0)) (b3 b4 b5:List Int):Option (TL Zaba.σs⊕Out Zab2):=
 br (iL t14 t15)
 (
  chk (inb t2 (List.length b0))<|
  chk (inb (IntKind.wrap .i64 (Int.fdiv (IntKind.wrap .u64 (IntKind.wrap .i64 (t14+t15))) (HPow.hPow (2:Int) (Min.min (Int.toNat (1:Int)) 64)))) (List.length b0))<|
  bnd (F0 ((gt Za4 b0 t2).1,((gt Za4 b0 t2).2.1,((gt Za4 b0 t2).2.2.1,((gt Za4 b0 (IntKind.wrap .i64 (Int.fdiv (IntKind.wrap .u64 (IntKind.wrap .i64 (t14+t15))) (HPow.hPow (2:Int) (Min.min (Int.toNat (1:Int)) 64))))).1,((gt Za4 b0 (IntKind.wrap .i64 (Int.fdiv (IntKind.wrap .u64 (IntKind.wrap .i64 (t14+t15))) (HPow.hPow (2:Int) (Min.min (Int.toNat (1:Int)) 64))))).2.1,((gt Za4 b0 (IntKind.wrap .i64 (Int.fdiv (IntKind.wrap .u64 (IntKind.wrap .i64 (t14+t15))) (HPow.hPow (2:Int) (Min.min (Int.toNat (1:Int)) 64))))).2.2.1,(b2_0,(b2_1,(b2_2,(b2_3,(b2_4,(b2_5,(b2_6,(b2_7,(b3,(b0,(b4,(b5,()))))))))))))))))))) fun x0=>
  br (Bool.not (iL x0.1 (0:Int)))
  (
   some (.inl (t2,((IntKind.wrap .i64 ((IntKind.wrap .i64 (Int.fdiv (IntKind.wrap .u64 (IntKind.wrap .i64 (t14+t15))) (HPow.hPow (2:Int) (Min.min (Int.toNat (1:Int)) 64))))+(1:Int))),(t15,(x0.2.2.2.2.2.2.2.2.2.2.1,(x0.2.1,(x0.2.2.1,(x0.2.2.2.1,(x0.2.2.2.2.1,(x0.2.2.2.2.2.1,(x0.2.2.2.2.2.2.1,(x0.2.2.2.2.2.2.2.1,(x0.2.2.2.2.2.2.2.2.1,(x0.2.2.2.2.2.2.2.2.2.1,x0.2.2.2.2.2.2.2.2.2.2.2)))))))))))))))
  (
   some (.inl (t2,(t14,((IntKind.wrap .i64 (Int.fdiv (IntKind.wrap .u64 (IntKind.wrap .i64 (t14+t15))) (HPow.hPow (2:Int) (Min.min (Int.toNat (1:Int)) 64)))),(x0.2.2.2.2.2.2.2.2.2.2.1,(x0.2.1,(x0.2.2.1,(x0.2.2.2.1,(x0.2.2.2.2.1,(x0.2.2.2.2.2.1,(x0.2.2.2.2.2.2.1,(x0.2.2.2.2.2.2.2.1,(x0.2.2.2.2.2.2.2.2.1,(x0.2.2.2.2.2.2.2.2.2.1,x0.2.2.2.2.2.2.2.2.2.2.2))))))))))))))))
 (
  some (.inr (t2,(t14,(b0,(b2_0,(b2_1,(b2_2,(b2_3,(b2_4,(b2_5,(b2_6,(b2_7,(b3,(b4,(b5,()))))))))))))))))
def Zart (c0:Zacf) :Zadh:=mkL (u15 (Zaac c0.F)) (pL (kB c0 k0) e0 1 l0 fun d=>by kernel_rfl)
def Zarq (s:Zaa3):Zadh:=Zart Zad8 
def Zait (F:Zaa1):Zais:=lpD (fun d=>Zaac Zaan  d.1 d.2.1 d.2.2.1 d.2.2.2.1 d.2.2.2.2.1 d.2.2.2.2.2.1 d.2.2.2.2.2.2.1 d.2.2.2.2.2.2.2.1 d.2.2.2.2.2.2.2.2.1 d.2.2.2.2.2.2.2.2.2.1 d.2.2.2.2.2.2.2.2.2.2.1 d.2.2.2.2.2.2.2.2.2.2.2.1 d.2.2.2.2.2.2.2.2.2.2.2.2.1 d.2.2.2.2.2.2.2.2.2.2.2.2.2.1 d.2.2.2.2.2.2.2.2.2.2.2.2.2.2.1) NN
def Zabp (t14 t17:Int) (b0:List (Sh.T Za4)) (b2_0:Int) (b2_1:List Int) (b2_2:List (Sh.T Za0)) (b2_3 b2_4 b2_5:List Int) (b2_6:List (Sh.T Za1)) (b2_7:List (Sh.T Za0)) (b3 b4 b5:List Int):Option (TL Zab9.σs⊕Out Zab1):=
 br (iL t14 t17)
 (
  chk (inb (IntKind.wrap .i64 (t17 - (1:Int))) (List.length b0))<|
  chk (inb t17 (List.length b0))<|
  chk (inb t17 (List.length b0))<|
  chk (inb (IntKind.wrap .i64 (t17 - (1:Int))) (List.length (List.set b0 (Int.toNat t17) ((gt Za4 b0 (IntKind.wrap .i64 (t17 - (1:Int)))).1,((gt Za4 b0 (IntKind.wrap .i64 (t17 - (1:Int)))).2.1,((gt Za4 b0 (IntKind.wrap .i64 (t17 - (1:Int)))).2.2.1,()))))))<|
  chk (iQ t17 t17)<|
  chk (iQ (IntKind.wrap .i64 (t17 - (1:Int))) (IntKind.wrap .i64 (t17 - (1:Int))))<|
  some (.inl (t14,((IntKind.wrap .i64 (t17 - (1:Int))),((List.set (List.set b0 (Int.toNat t17) ((gt Za4 b0 (IntKind.wrap .i64 (t17 - (1:Int)))).1,((gt Za4 b0 (IntKind.wrap .i64 (t17 - (1:Int)))).2.1,((gt Za4 b0 (IntKind.wrap .i64 (t17 - (1:Int)))).2.2.1,())))) (Int.toNat (IntKind.wrap .i64 (t17 - (1:Int)))) ((gt Za4 b0 t17).1,((gt Za4 b0 t17).2.1,((gt Za4 b0 t17).2.2.1,())))),(b2_0,(b2_1,(b2_2,(b2_3,(b2_4,(b2_5,(b2_6,(b2_7,(b3,(b4,(b5,()))))))))))))))))
 (
  some (.inr (b0,(b2_0,(b2_1,(b2_2,(b2_3,(b2_4,(b2_5,(b2_6,(b2_7,(b3,(b4,(b5,()))))))))))))))
def Zars  :Zadg:=mkL (u14 Zabp) (pL k0 e0 1 l0 fun d=>by kernel_rfl)
def Zarp (s:Zaa3):Zadg:=Zars  
def Zade (F:Zaa1):Zair:=lpD (fun d=>Zabp   d.1 d.2.1 d.2.2.1 d.2.2.2.1 d.2.2.2.2.1 d.2.2.2.2.2.1 d.2.2.2.2.2.2.1 d.2.2.2.2.2.2.2.1 d.2.2.2.2.2.2.2.2.1 d.2.2.2.2.2.2.2.2.2.1 d.2.2.2.2.2.2.2.2.2.2.1 d.2.2.2.2.2.2.2.2.2.2.2.1 d.2.2.2.2.2.2.2.2.2.2.2.2.1 d.2.2.2.2.2.2.2.2.2.2.2.2.2.1) NN
def Zaab (F0:Zad7) (t1 t2 t3 t18 t19 t20 t21 t22:Int) (b0:List (Sh.T Za4)) (b2_0:Int) (b2_1:List Int) (b2_2:List (Sh.T Za0)) (b2_3 b2_4 b2_5:List Int) (b2_6:List (Sh.T Za1)) (b2_7:List (Sh.T Za0)) (b3 b4 b5:List Int):Option (TL Zab8.σs⊕Out Zab0):=
 br (iL t20 t21)
 (
  chk (inb (IntKind.wrap .i64 (t22 - (IntKind.wrap .i64 (Int.fdiv (IntKind.wrap .u64 (IntKind.wrap .i64 (t20+t21))) (HPow.hPow (2:Int) (Min.min (Int.toNat (1:Int)) 64)))))) (List.length b0))<|
  chk (inb (IntKind.wrap .i64 (Int.fdiv (IntKind.wrap .u64 (IntKind.wrap .i64 (t20+t21))) (HPow.hPow (2:Int) (Min.min (Int.toNat (1:Int)) 64)))) (List.length b0))<|
  bnd (F0 ((gt Za4 b0 (IntKind.wrap .i64 (t22 - (IntKind.wrap .i64 (Int.fdiv (IntKind.wrap .u64 (IntKind.wrap .i64 (t20+t21))) (HPow.hPow (2:Int) (Min.min (Int.toNat (1:Int)) 64))))))).1,((gt Za4 b0 (IntKind.wrap .i64 (t22 - (IntKind.wrap .i64 (Int.fdiv (IntKind.wrap .u64 (IntKind.wrap .i64 (t20+t21))) (HPow.hPow (2:Int) (Min.min (Int.toNat (1:Int)) 64))))))).2.1,((gt Za4 b0 (IntKind.wrap .i64 (t22 - (IntKind.wrap .i64 (Int.fdiv (IntKind.wrap .u64 (IntKind.wrap .i64 (t20+t21))) (HPow.hPow (2:Int) (Min.min (Int.toNat (1:Int)) 64))))))).2.2.1,((gt Za4 b0 (IntKind.wrap .i64 (Int.fdiv (IntKind.wrap .u64 (IntKind.wrap .i64 (t20+t21))) (HPow.hPow (2:Int) (Min.min (Int.toNat (1:Int)) 64))))).1,((gt Za4 b0 (IntKind.wrap .i64 (Int.fdiv (IntKind.wrap .u64 (IntKind.wrap .i64 (t20+t21))) (HPow.hPow (2:Int) (Min.min (Int.toNat (1:Int)) 64))))).2.1,((gt Za4 b0 (IntKind.wrap .i64 (Int.fdiv (IntKind.wrap .u64 (IntKind.wrap .i64 (t20+t21))) (HPow.hPow (2:Int) (Min.min (Int.toNat (1:Int)) 64))))).2.2.1,(b2_0,(b2_1,(b2_2,(b2_3,(b2_4,(b2_5,(b2_6,(b2_7,(b3,(b0,(b4,(b5,()))))))))))))))))))) fun x0=>
  br (Bool.not (iL x0.1 (0:Int)))
  (
   some (.inl (t1,(t2,(t3,(t18,(t19,((IntKind.wrap .i64 ((IntKind.wrap .i64 (Int.fdiv (IntKind.wrap .u64 (IntKind.wrap .i64 (t20+t21))) (HPow.hPow (2:Int) (Min.min (Int.toNat (1:Int)) 64))))+(1:Int))),(t21,(t22,(x0.2.2.2.2.2.2.2.2.2.2.1,(x0.2.1,(x0.2.2.1,(x0.2.2.2.1,(x0.2.2.2.2.1,(x0.2.2.2.2.2.1,(x0.2.2.2.2.2.2.1,(x0.2.2.2.2.2.2.2.1,(x0.2.2.2.2.2.2.2.2.1,(x0.2.2.2.2.2.2.2.2.2.1,x0.2.2.2.2.2.2.2.2.2.2.2))))))))))))))))))))
  (
   some (.inl (t1,(t2,(t3,(t18,(t19,(t20,((IntKind.wrap .i64 (Int.fdiv (IntKind.wrap .u64 (IntKind.wrap .i64 (t20+t21))) (HPow.hPow (2:Int) (Min.min (Int.toNat (1:Int)) 64)))),(t22,(x0.2.2.2.2.2.2.2.2.2.2.1,(x0.2.1,(x0.2.2.1,(x0.2.2.2.1,(x0.2.2.2.2.1,(x0.2.2.2.2.2.1,(x0.2.2.2.2.2.2.1,(x0.2.2.2.2.2.2.2.1,(x0.2.2.2.2.2.2.2.2.1,(x0.2.2.2.2.2.2.2.2.2.1,x0.2.2.2.2.2.2.2.2.2.2.2)))))))))))))))))))))
 (
  some (.inr (t1,(t2,(t3,(t18,(t19,(t20,(b0,(b2_0,(b2_1,(b2_2,(b2_3,(b2_4,(b2_5,(b2_6,(b2_7,(b3,(b4,(b5,()))))))))))))))))))))
def Zarr (c0:Zacf) :Zadf:=mkL (u20 (Zaab c0.F)) (pL (kB c0 k0) e0 1 l0 fun d=>by kernel_rfl)
def Zaro (s:Zaa3):Zadf:=Zarr Zad8 
def Zabo (F:Zaa1):Zaiq:=lpD (fun d=>Zaab Zaan  d.1 d.2.1 d.2.2.1 d.2.2.2.1 d.2.2.2.2.1 d.2.2.2.2.2.1 d.2.2.2.2.2.2.1 d.2.2.2.2.2.2.2.1 d.2.2.2.2.2.2.2.2.1 d.2.2.2.2.2.2.2.2.2.1 d.2.2.2.2.2.2.2.2.2.2.1 d.2.2.2.2.2.2.2.2.2.2.2.1 d.2.2.2.2.2.2.2.2.2.2.2.2.1 d.2.2.2.2.2.2.2.2.2.2.2.2.2.1 d.2.2.2.2.2.2.2.2.2.2.2.2.2.2.1 d.2.2.2.2.2.2.2.2.2.2.2.2.2.2.2.1 d.2.2.2.2.2.2.2.2.2.2.2.2.2.2.2.2.1 d.2.2.2.2.2.2.2.2.2.2.2.2.2.2.2.2.2.1 d.2.2.2.2.2.2.2.2.2.2.2.2.2.2.2.2.2.2.1 d.2.2.2.2.2.2.2.2.2.2.2.2.2.2.2.2.2.2.2.1) NN
abbrev NdT:=Za4.T
abbrev WkT:=TL [.int .i64,.sl (.int .i64),.sl Za0,.sl (.int .i64),.sl (.int .i64),.sl (.int .i64),.sl Za1,.sl Za0,.sl (.int .i64),.sl (.int .u8),.sl (.int .i64)]
abbrev SymO:=Option (Out Zabg)
def symV (F1:Zaa1) (b mid e:Int) (x:List NdT×WkT):SymO:=
 br (iL mid e) (br (selB true (iL e b) false) (bnd (F1 (mid,(e,(b,(x.1,x.2))))) fun y=>some (y.1,y.2)) (some x)) (some x)
def symU (F1:Zaa1) (a b mid s e:Int) (x:List NdT×WkT):SymO:=
 br (iL a s) (br (selB true (iL s mid) false) (bnd (F1 (a,(s,(mid,(x.1,x.2))))) fun y=>symV F1 b mid e y) (symV F1 b mid e x)) (symV F1 b mid e x)
def symG (F2:Zal7) (F1:Zaa1) (a m b mid s e:Int) (x:List NdT×WkT):SymO:=
 br (iL s m) (br (selB true (iL m e) false) (bnd (F2 (s,(m,(e,(x.1,x.2))))) fun y=>symU F1 a b mid s e y) (symU F1 a b mid s e x)) (symU F1 a b mid s e x)
def symH (F2:Zal7) (F1:Zaa1) (x0:Out Zab0):SymO:=
 symG F2 F1 x0.1 x0.2.1 x0.2.2.1 x0.2.2.2.1 x0.2.2.2.2.2.1 (IntKind.wrap .i64 (@HSub.hSub (Int) (Int) (Int) _ x0.2.2.2.2.1 x0.2.2.2.2.2.1)) x0.2.2.2.2.2.2
def Zaat (F0:Zad7) (F1:Zaa1) (F2:Zal7) (L3:Zajo) (L9:Zajn) (L15:Zais) (L21:Zair) (L33:Zaiq) (t1 t2 t3:Int) (b0:List (Sh.T Za4)) (b2_0:Int) (b2_1:List Int) (b2_2:List (Sh.T Za0)) (b2_3 b2_4 b2_5:List Int) (b2_6:List (Sh.T Za1)) (b2_7:List (Sh.T Za0)) (b3 b4 b5:List Int):Option (Out Zabg):=
 br (iQ (IntKind.wrap .i64 (t2 - t1)) (1:Int))
 (
  bnd (L3 (t1,(t2,(t3,(b0,(b2_0,(b2_1,(b2_2,(b2_3,(b2_4,(b2_5,(b2_6,(b2_7,(b3,(b4,(b5,())))))))))))))))) fun x0=>
  bnd (L9 (x0.2.1,(x0.1,x0.2.2))) fun x1=>
  some x1)
 (
  br (iQ (IntKind.wrap .i64 (t3 - t2)) (1:Int))
  (
   bnd (L15 (t2,(t1,(t2,(b0,(b2_0,(b2_1,(b2_2,(b2_3,(b2_4,(b2_5,(b2_6,(b2_7,(b3,(b4,(b5,())))))))))))))))) fun x0=>
   bnd (L21 (x0.2.1,(x0.1,x0.2.2))) fun x1=>
   some x1)
  (
   br (iL (IntKind.wrap .i64 (Int.fdiv (IntKind.wrap .u64 (IntKind.wrap .i64 (t1+t3))) (HPow.hPow (2:Int) (Min.min (Int.toNat (1:Int)) 64)))) t2)
   (
    bnd (L33 (t1,(t2,(t3,((IntKind.wrap .i64 (Int.fdiv (IntKind.wrap .u64 (IntKind.wrap .i64 (t1+t3))) (HPow.hPow (2:Int) (Min.min (Int.toNat (1:Int)) 64)))),((IntKind.wrap .i64 ((IntKind.wrap .i64 (Int.fdiv (IntKind.wrap .u64 (IntKind.wrap .i64 (t1+t3))) (HPow.hPow (2:Int) (Min.min (Int.toNat (1:Int)) 64))))+t2)),((IntKind.wrap .i64 ((IntKind.wrap .i64 ((IntKind.wrap .i64 (Int.fdiv (IntKind.wrap .u64 (IntKind.wrap .i64 (t1+t3))) (HPow.hPow (2:Int) (Min.min (Int.toNat (1:Int)) 64))))+t2)) - t3)),((IntKind.wrap .i64 (Int.fdiv (IntKind.wrap .u64 (IntKind.wrap .i64 (t1+t3))) (HPow.hPow (2:Int) (Min.min (Int.toNat (1:Int)) 64)))),((IntKind.wrap .i64 ((IntKind.wrap .i64 ((IntKind.wrap .i64 (Int.fdiv (IntKind.wrap .u64 (IntKind.wrap .i64 (t1+t3))) (HPow.hPow (2:Int) (Min.min (Int.toNat (1:Int)) 64))))+t2)) - (1:Int))),(b0,(b2_0,(b2_1,(b2_2,(b2_3,(b2_4,(b2_5,(b2_6,(b2_7,(b3,(b4,(b5,()))))))))))))))))))))) fun x0=>symH F2 F1 x0)
   (
    bnd (L33 (t1,(t2,(t3,((IntKind.wrap .i64 (Int.fdiv (IntKind.wrap .u64 (IntKind.wrap .i64 (t1+t3))) (HPow.hPow (2:Int) (Min.min (Int.toNat (1:Int)) 64)))),((IntKind.wrap .i64 ((IntKind.wrap .i64 (Int.fdiv (IntKind.wrap .u64 (IntKind.wrap .i64 (t1+t3))) (HPow.hPow (2:Int) (Min.min (Int.toNat (1:Int)) 64))))+t2)),(t1,(t2,((IntKind.wrap .i64 ((IntKind.wrap .i64 ((IntKind.wrap .i64 (Int.fdiv (IntKind.wrap .u64 (IntKind.wrap .i64 (t1+t3))) (HPow.hPow (2:Int) (Min.min (Int.toNat (1:Int)) 64))))+t2)) - (1:Int))),(b0,(b2_0,(b2_1,(b2_2,(b2_3,(b2_4,(b2_5,(b2_6,(b2_7,(b3,(b4,(b5,()))))))))))))))))))))) fun x0=>symH F2 F1 x0)))
def Zass (c0:Zacf) (c1:Zaa3) (c2:Zaev) (M3:Zadv) (M9:Zadu) (M15:Zadh) (M21:Zadg) (M33:Zadf):Zaa3:=⟨u15 (Zaat c0.F c1.F c2.F M3.L M9.L M15.L M21.L M33.L),pB Tryz.func131 220 (kB c0 (kB c1 (kB c2 k0))) e0 1 (sS (sC M3 (sC M9 (sC M15 (sC M21 (sC M33 l0)))))) fun d=>by kernel_rfl⟩
def Zaa6:Nat→Zaa3
 | 0=>mk0 Tryz.func131 (by kernel_rfl) (by kernel_rfl)
 | k+1=>Zass Zad8 (Zaa6 k) Zal8 (Zarz (Zaa6 k)) (Zary (Zaa6 k)) (Zarq (Zaa6 k)) (Zarp (Zaa6 k)) (Zaro (Zaa6 k))
def Zaa2 (k:Nat):Zaa1:=(Zaa6 k).F
def Zac6:Zaa3:=Zaa6 NN
def Zadt:Zaa1:=Zac6.F
abbrev Zajx:Lay:={ T:=[(0,.hd 0 Za4),(1,.int .i64),(2,.func 76 [] [.ptr 1 0])],h:=yTa0,nx:=6 }
abbrev Zady:List (Ev.Ex×Lay):=[(.ret,yTa2)]
abbrev Zal5:=TL Zajx.σs→Option (Out Zady)
abbrev Zaeu:=Kb 109 3 Zajx 0 Zady
abbrev Zac2:Lay:={ T:=[(0,.hd 0 Za4),(1,.int .i64),(2,.func 76 [] [.ptr 1 0]),(6,.int .i64)],h:=yTa0,nx:=6 }
abbrev Zabs:List (Ev.Ex×Lay):=[((.exit 2),yTa2)]
abbrev Zaku:=TL Zac2.σs→Option (Out Zabs)
abbrev Zaem:=Ld 6 63 (Zb5 [1] (Zaa Tryz.f109)) Zac2 Zabs
abbrev Zac1:Lay:=yTa4
abbrev Zabr:List (Ev.Ex×Lay):=[((.exit 4),yTa6)]
abbrev Zael:=TL Zac1.σs→Option (Out Zabr)
abbrev Zacd:=Ld 6 63 (Zb5 [1,0] (Zaa Tryz.f109)) Zac1 Zabr
abbrev Zac3:Lay:=yTa4
abbrev Zabt:List (Ev.Ex×Lay):=[((.exit 0),yTa6)]
abbrev Zakv:=TL Zac3.σs→Option (Out Zabt)
abbrev Zaen:=Ld 6 63 (Zb5 [0] (Zaa Tryz.f109)) Zac3 Zabt
def Zaeq (F2:Zacv) (t1 t6 t7 t8:Int) (b0:List (Sh.T Za4)) (b2_0:Int) (b2_1:List Int) (b2_2:List (Sh.T Za0)) (b2_3 b2_4 b2_5:List Int) (b2_6:List (Sh.T Za1)) (b2_7:List (Sh.T Za0)) (b3 b4 b5:List Int):Option (TL Zac3.σs⊕Out Zabt):=
 br (iE t8 t1)
 (
  bnd (F2 (t7,(t8,(b0,(b2_0,(b2_1,(b2_2,(b2_3,(b2_4,(b2_5,(b2_6,(b2_7,(b3,(b4,(b5,()))))))))))))))) fun x0=>
  some (.inl (t1,(t6,(t8,((IntKind.wrap .i64 (t8+t6)),x0))))))
 (
  some (.inr (t1,(t6,(t7,(b0,(b2_0,(b2_1,(b2_2,(b2_3,(b2_4,(b2_5,(b2_6,(b2_7,(b3,(b4,(b5,())))))))))))))))))
def Zatl (c2:Zab4) :Zaen:=mkL (u16 (Zaeq c2.F)) (pL (kB c2 k0) e0 1 l0 fun d=>by kernel_rfl)
def Zati:Zaen:=Zatl Zacw 
def Zaky:Zakv:=lpD (u16 (Zaeq Zag7)) NN
def Zaeo (F1:Zaa1) (t1 t6 t7 t8:Int) (b0:List (Sh.T Za4)) (b2_0:Int) (b2_1:List Int) (b2_2:List (Sh.T Za0)) (b2_3 b2_4 b2_5:List Int) (b2_6:List (Sh.T Za1)) (b2_7:List (Sh.T Za0)) (b3 b4 b5:List Int):Option (TL Zac1.σs⊕Out Zabr):=
 br (iE t8 t1)
 (
  bnd (F1 (t7,((IntKind.wrap .i64 (t7+t6)),(t8,(b0,(b2_0,(b2_1,(b2_2,(b2_3,(b2_4,(b2_5,(b2_6,(b2_7,(b3,(b4,(b5,())))))))))))))))) fun x0=>
  some (.inl (t1,(t6,(t8,((IntKind.wrap .i64 (t8+(IntKind.wrap .i64 ((2:Int)*t6)))),x0))))))
 (
  some (.inr (t1,(t6,(t7,(b0,(b2_0,(b2_1,(b2_2,(b2_3,(b2_4,(b2_5,(b2_6,(b2_7,(b3,(b4,(b5,())))))))))))))))))
def Zatj (c1:Zaa3) :Zacd:=mkL (u16 (Zaeo c1.F)) (pL (kB c1 k0) e0 1 l0 fun d=>by kernel_rfl)
def Zakw:Zacd:=Zatj Zac6 
def Zacc:Zael:=lpD (u16 (Zaeo Zadt)) NN
def Zaep (F1:Zaa1) (L9:Zael) (t1 t6:Int) (b0:List (Sh.T Za4)) (b2_0:Int) (b2_1:List Int) (b2_2:List (Sh.T Za0)) (b2_3 b2_4 b2_5:List Int) (b2_6:List (Sh.T Za1)) (b2_7:List (Sh.T Za0)) (b3 b4 b5:List Int):Option (TL Zac2.σs⊕Out Zabs):=
 br (iL t6 t1)
 (
  bnd (L9 (t1,(t6,((0:Int),((IntKind.wrap .i64 ((2:Int)*t6)),(b0,(b2_0,(b2_1,(b2_2,(b2_3,(b2_4,(b2_5,(b2_6,(b2_7,(b3,(b4,(b5,()))))))))))))))))) fun x0=>
  br (iL (IntKind.wrap .i64 (@HAdd.hAdd (Int) (Int) (Int) _ x0.2.2.1 x0.2.1)) x0.1)
  (
   bnd (F1 (x0.2.2.1,((IntKind.wrap .i64 (@HAdd.hAdd (Int) (Int) (Int) _ x0.2.2.1 x0.2.1)),(x0.1,x0.2.2.2)))) fun x1=>
   some (.inl (x0.1,((IntKind.wrap .i64 (@HMul.hMul (Int) (Int) (Int) _ x0.2.1 (2:Int))),x1))))
  (
   some (.inl (x0.1,((IntKind.wrap .i64 (@HMul.hMul (Int) (Int) (Int) _ x0.2.1 (2:Int))),x0.2.2.2)))))
 (
  some (.inr (b0,(b2_0,(b2_1,(b2_2,(b2_3,(b2_4,(b2_5,(b2_6,(b2_7,(b3,(b4,(b5,()))))))))))))))
def Zatk (c1:Zaa3) (M9:Zacd):Zaem:=mkL (u14 (Zaep c1.F M9.L)) (pL (kB c1 k0) e0 1 (sC M9 l0) fun d=>by kernel_rfl)
def Zath:Zaem:=Zatk Zac6 Zakw
def Zakx:Zaku:=lpD (u14 (Zaep Zadt Zacc)) NN
def Zatu (F0:Zad7) (F1:Zaa1) (F2:Zacv) (L2:Zakv) (L7:Zaku) (L9:Zael) (t1:Int) (b0:List (Sh.T Za4)) (b2_0:Int) (b2_1:List Int) (b2_2:List (Sh.T Za0)) (b2_3 b2_4 b2_5:List Int) (b2_6:List (Sh.T Za1)) (b2_7:List (Sh.T Za0)) (b3 b4 b5:List Int):Option (Out Zady):=
 bnd (L2 (t1,((20:Int),((0:Int),((20:Int),(b0,(b2_0,(b2_1,(b2_2,(b2_3,(b2_4,(b2_5,(b2_6,(b2_7,(b3,(b4,(b5,()))))))))))))))))) fun x0=>
 bnd (F2 (x0.2.2.1,(x0.1,x0.2.2.2))) fun x1=>
 bnd (L7 (x0.1,(x0.2.1,x1))) fun x2=>
 some x2
def Zatt (c0:Zacf) (c1:Zaa3) (c2:Zab4) (M2:Zaen) (M7:Zaem) (M9:Zacd):Zaeu:=⟨u13 (Zatu c0.F c1.F c2.F M2.L M7.L M9.L),pB Tryz.func109 63 (kB c0 (kB c1 (kB c2 k0))) e0 1 (sS (sC M2 (sC M7 l0))) fun d=>by kernel_rfl⟩
def Zal6:Zaeu:=Zatt Zad8 Zac6 Zacw Zati Zath Zakw
def Zatm:Zal5:=Zal6.F
abbrev Zadm:Lay:={ T:=[(0,.hd 0 Za4),(1,.func 76 [] [.ptr 1 0])],h:=yTa0,nx:=6 }
abbrev Zab5:List (Ev.Ex×Lay):=[(.ret,yTa2)]
abbrev Zae4:=TL Zadm.σs→Option (Out Zab5)
abbrev Zabj:=Kb 75 2 Zadm 0 Zab5
def Zam5 (F0:Zad7) (F1:Zal5) (b0:List (Sh.T Za4)) (b2_0:Int) (b2_1:List Int) (b2_2:List (Sh.T Za0)) (b2_3 b2_4 b2_5:List Int) (b2_6:List (Sh.T Za1)) (b2_7:List (Sh.T Za0)) (b3 b4 b5:List Int):Option (Out Zab5):=
 bnd (F1 ((Int.ofNat (List.length b0)),(b0,(b2_0,(b2_1,(b2_2,(b2_3,(b2_4,(b2_5,(b2_6,(b2_7,(b3,(b4,(b5,())))))))))))))) fun x0=>
 some x0
def Zam4 (c0:Zacf) (c1:Zaeu) :Zabj:=⟨u12 (Zam5 c0.F c1.F),pB Tryz.func75 9 (kB c0 (kB c1 k0)) e0 1 (sS l0) fun d=>by kernel_rfl⟩
def Zae5:Zabj:=Zam4 Zad8 Zal6 
def Zalq:Zae4:=Zae5.F
abbrev Zb4h:List Sh:=[Za5]
abbrev Zb03:List Sh:=[(.sl Za4),.bool]
abbrev Zb5d:=TL Zb4h→Option (TL Zb03)
abbrev Zb2b:=Kd 50 Zb4h Zb03
def Zb7v (F0:Zae4) (F1:Zad7) (F2:Zb3x) (a0:Sh.T Za5):Option (TL Zb03):=
 bnd (F2 a0) fun x0=>
 (match x0 with
 | .inl x1=>
  chk (Bool.not (iQ x1.1 (0:Int)))<|
  some ([],(false,()))
 | .inr x1=>
  br (Bool.not (iQ x1.1 (0:Int)))
  (
   some ([],(false,())))
  (
   bnd (F0 (x1.2.2.2.2.2.2.2.2.2.2.1,(x1.2.1,(x1.2.2.1,(x1.2.2.2.1,(x1.2.2.2.2.1,(x1.2.2.2.2.2.1,(x1.2.2.2.2.2.2.1,(x1.2.2.2.2.2.2.2.1,(x1.2.2.2.2.2.2.2.2.1,(x1.2.2.2.2.2.2.2.2.2.1,x1.2.2.2.2.2.2.2.2.2.2.2))))))))))) fun x2=>
   some (x2.1,(true,())))
 )
def Zb7u (c0:Zabj) (c1:Zacf) (c2:Zb02) :Zb2b:=⟨u1 (Zb7v c0.F c1.F c2.F),pD Tryz.func50 23 (kB c0 (kB c1 (kB c2 k0))) e0 1 (sS l0) fun d=>by kernel_rfl⟩
def Zb5e:Zb2b:=Zb7u Zae5 Zad8 Zb3y 
def Zb78:Zb5d:=Zb5e.F
end Go.Proofs.YtnocaehijdmkkaaGreat.V
end
section
namespace Go.Proofs.YtnocaehijdmkkaaGreat.Pl
section
variable {α:Type} (key:α→Int)
def Srt (L:List α):Prop:=L.Pairwise (fun x y=>key x≤key y)
def fk (k:Int) (L:List α):List α:=L.filter (fun x=>decide (key x=k))
structure Sst (S S':List α):Prop where
 srt:Srt key S'
 len:S'.length=S.length
 flt:∀k,fk key k S'=fk key k S
variable {key}
theorem Zaze (k:Int) (A B:List α):fk key k (A++B)=fk key k A++fk key k B:=List.filter_append A B
theorem mem_fk {k:Int} {L:List α} {x:α}:x∈fk key k L↔x∈L∧key x=k:=by unfold fk;simp
theorem fk_nil {k:Int} {L:List α} (h:∀x∈L,key x≠k):fk key k L=[]:=by
 unfold fk
 rw [List.filter_eq_nil_iff]
 intro x hx
 simpa using h x hx
theorem Zb86 {S S':List α} (h:∀k,fk key k S'=fk key k S) {x:α} (hx:x∈S'):x∈S:=by
 have:x∈fk key (key x) S':=mem_fk.2 ⟨hx,rfl⟩
 rw [h] at this
 exact (mem_fk.1 this).1
theorem Sst.mem {S S':List α} (h:Sst key S S') {x:α}:x∈S'↔x∈S:=⟨Zb86 h.flt,Zb86 (fun k=>(h.flt k).symm)⟩
theorem Sst.refl {S:List α} (h:Srt key S):Sst key S S:=⟨h,rfl,fun _=>rfl⟩
theorem Zax2 {A B:List α}:Srt key (A++B)↔Srt key A∧Srt key B∧∀x∈A,∀y∈B,key x≤key y:=by
 unfold Srt;rw [List.pairwise_append]
theorem Zb79 {x:α} {B:List α}:Srt key (x :: B)↔(∀y∈B,key x≤key y)∧Srt key B:=by
 unfold Srt;rw [List.pairwise_cons]
theorem Zbau {A B:List α} (h:∀x∈A,∀y∈B,key y<key x) (k:Int):fk key k (A++B)=fk key k (B++A):=by
 rw [Zaze,Zaze]
 by_cases q:∃x∈A,key x=k
 ·obtain ⟨x,hx,hk⟩:=q
  have:fk key k B=[]:=fk_nil (fun y hy=>by have:=h x hx y hy;omega)
  rw [this];simp
 ·have:fk key k A=[]:=fk_nil (fun x hx hk=>q ⟨x,hx,hk⟩)
  rw [this];simp
theorem Zb4u {T0 T1 T2:List α} {x:α} (h:Sst key T0 (T1++T2)) (h1:∀y∈T1,key y≤key x) (h2:∀y∈T2,key x<key y):Sst key (T0++[x]) (T1++x :: T2):=by
 obtain ⟨s1,s2,s3⟩:=Zax2.1 h.srt
 refine ⟨?_,?_,?_⟩
 ·refine Zax2.2 ⟨s1,Zb79.2 ⟨fun y hy=>Int.le_of_lt (h2 y hy),s2⟩,?_⟩
  intro a ha b hb
  rcases List.mem_cons.1 hb with rfl | hb
  ·exact h1 a ha
  ·exact s3 a ha b hb
 ·have:=h.len
  simp only [List.length_append,List.length_cons,List.length_nil] at *
  omega
 ·intro k
  have e:fk key k (x :: T2)=fk key k (T2++[x]):=by
   have:=Zbau (key:=key) (A:=T2) (B:=[x]) (fun a ha b hb=>by simp at hb;subst hb;exact h2 a ha) k
   rw [this];rfl
  rw [Zaze,e,Zaze,←List.append_assoc,←Zaze,h.flt,←Zaze]
theorem sst_app {A B A' B':List α} (ha:Sst key A A') (hb:Sst key B B') (h:∀x∈A,∀y∈B,key x≤key y):Sst key (A++B) (A'++B'):=by
 refine ⟨Zax2.2 ⟨ha.srt,hb.srt,fun x hx y hy=>h x (ha.mem.1 hx) y (hb.mem.1 hy)⟩,?_,?_⟩
 ·have:=ha.len;have:=hb.len
  simp only [List.length_append];omega
 ·intro k
  rw [Zaze,Zaze,ha.flt,hb.flt]
theorem Sst.of_fk {A B C:List α} (hl:B.length=A.length) (h:∀k,fk key k B=fk key k A) (g:Sst key B C):Sst key A C:=⟨g.srt,g.len.trans hl,fun k=>(g.flt k).trans (h k)⟩
theorem Zaxz {P1 P2 Q1 Q2 R1 R2:List α} (hp:Srt key (P1++P2)) (hq:Srt key (Q1++Q2)) (h1:∀x∈P1,∀y∈Q2,key x≤key y) (h2:∀x∈P2,∀y∈Q1,key y<key x)
  (r1:Sst key (P1++Q1) R1) (r2:Sst key (P2++Q2) R2):Sst key ((P1++P2)++(Q1++Q2)) (R1++R2):=by
 obtain ⟨p1,p2,p3⟩:=Zax2.1 hp
 obtain ⟨q1,q2,q3⟩:=Zax2.1 hq
 refine Sst.of_fk (B:=(P1++Q1)++(P2++Q2)) ?_ ?_ (sst_app r1 r2 ?_)
 ·simp only [List.length_append];omega
 ·intro k
  have e:=Zbau (key:=key) (A:=P2) (B:=Q1) h2 k
  rw [Zaze,Zaze] at e
  simp only [Zaze,List.append_assoc]
  rw [←List.append_assoc (fk key k Q1),←e,List.append_assoc]
 ·intro x hx y hy
  rcases List.mem_append.1 hx with hx | hx<;>rcases List.mem_append.1 hy with hy | hy
  ·exact p3 x hx y hy
  ·exact h1 x hx y hy
  ·exact Int.le_of_lt (h2 y hy x hx)
  ·exact q3 x hx y hy
theorem srt_flat {S:List α} (h:Srt key S):∀(n:Nat),(∀x∈S,1≤key x∧key x≤(n:Int))→S=(List.range n).flatMap (fun (i:Nat)=>fk key ((i:Int)+1) S):=by
 intro n
 induction n generalizing S with
 | zero=>
  intro hb
  cases S with
  | nil=>rfl
  | cons x S=>have:=hb x (by simp);omega
 | succ n ih=>
  intro hb
  have split:∀{S:List α},Srt key S→(∀x∈S,key x≤((n+1:Nat):Int))→S=S.filter (fun x=>decide (key x≤(n:Int)))++fk key ((n:Int)+1) S:=by
   intro S
   induction S with
   | nil=>intro _ _;rfl
   | cons x S ihS=>
    intro hs hb
    obtain ⟨a,b⟩:=Zb79.1 hs
    have e:=ihS b (fun y hy=>hb y (by simp [hy]))
    by_cases q:key x≤(n:Int)
    ·unfold fk
     rw [List.filter_cons_of_pos (by simpa using q),List.filter_cons_of_neg (by simp;omega)]
     have e':=congrArg (List.cons x) e
     exact e'
    ·have hk:key x=(n:Int)+1:=by have:=hb x (by simp);omega
     have all:∀y∈S,key y=(n:Int)+1:=fun y hy=>by
      have:=a y hy
      have:=hb y (by simp [hy])
      omega
     have f0:S.filter (fun x=>decide (key x≤(n:Int)))=[]:=by
      rw [List.filter_eq_nil_iff];intro y hy;have:=all y hy;simp;omega
     have f1:fk key ((n:Int)+1) S=S:=by
      unfold fk
      rw [List.filter_eq_self];intro y hy;simpa using all y hy
     have g0:(x :: S).filter (fun x=>decide (key x≤(n:Int)))=[]:=by
      rw [List.filter_cons_of_neg (by simp;omega),f0]
     have g1:fk key ((n:Int)+1) (x :: S)=x :: fk key ((n:Int)+1) S:=by
      unfold fk;rw [List.filter_cons_of_pos (by simpa using hk)]
     rw [g0,g1,f1];rfl
  have e:=split h (fun x hx=>(hb x hx).2)
  have hs':Srt key (S.filter (fun x=>decide (key x≤(n:Int)))):=List.Pairwise.filter _ h
  have ih':=ih hs' (fun x hx=>by
   have:=List.mem_filter.1 hx
   exact ⟨(hb x this.1).1,by simpa using this.2⟩)
  rw [List.range_succ,List.flatMap_append,List.flatMap_singleton]
  have e2:(List.range n).flatMap (fun (i:Nat)=>fk key ((i:Int)+1) S)=(List.range n).flatMap (fun (i:Nat)=>fk key ((i:Int)+1) (S.filter (fun x=>decide (key x≤(n:Int))))):=by
   have:∀(l:List Nat),(∀i∈l,i<n)→l.flatMap (fun (i:Nat)=>fk key ((i:Int)+1) S)=l.flatMap (fun (i:Nat)=>fk key ((i:Int)+1) (S.filter (fun x=>decide (key x≤(n:Int))))):=by
    intro l
    induction l with
    | nil=>intro _;rfl
    | cons i l il=>
     intro hi
     rw [List.flatMap_cons,List.flatMap_cons,il (fun j hj=>hi j (by simp [hj]))]
     congr 1
     unfold fk
     rw [List.filter_filter]
     apply List.filter_congr
     intro x hx
     have:=hi i (by simp)
     by_cases q:key x=(i:Int)+1
     ·have:key x≤(n:Int):=by omega
      simp [q];omega
     ·simp [q]
   exact this _ (fun i hi=>List.mem_range.1 hi)
  rw [e2,←ih']
  exact e
theorem Sst.flat {S S':List α} (h:Sst key S S') (n:Nat) (hb:∀x∈S,1≤key x∧key x≤(n:Int)):S'=(List.range n).flatMap (fun (i:Nat)=>fk key ((i:Int)+1) S):=by
 have e:=srt_flat h.srt n (fun x hx=>hb x (h.mem.1 hx))
 rw [e]
 have:∀(l:List Nat),l.flatMap (fun (i:Nat)=>fk key ((i:Int)+1) S')=l.flatMap (fun (i:Nat)=>fk key ((i:Int)+1) S):=by
  intro l
  induction l with
  | nil=>rfl
  | cons i l il=>rw [List.flatMap_cons,List.flatMap_cons,il,h.flt]
 rw [←e]
 exact e.trans (this _)
end
end Go.Proofs.YtnocaehijdmkkaaGreat.Pl
end
section
namespace Go.Proofs.YtnocaehijdmkkaaGreat.V
open Go Go.RowKit
theorem i64n {x:Int} {n:Nat} (e:x=(n:Int)) (h:n≤1000000000):IntKind.wrap .i64 x=(n:Int):=by rw [e];exact i64w (by omega)
theorem gtX {σ:Sh} {X Z:List σ.T} {p:σ.T} {u:Nat} (hu:X.length=u):gt σ (X++p :: Z) (u:Int)=p:=by
 refine gt_at ?_
 rw [List.getElem?_append_right (by omega),hu];simp
theorem setX {α:Type} {X Z:List α} {p q:α} {u:Nat} (hu:X.length=u):(X++p :: Z).set u q=X++q :: Z:=by
 rw [List.set_append_right _ _ (by omega),hu];simp
theorem sw2 {α:Type} {X M Y:List α} {p q:α} {u v:Nat} (hu:X.length=u) (hv:X.length+1+M.length=v):((X++p :: (M++q :: Y)).set u q).set v p=X++q :: (M++p :: Y):=by
 rw [setX hu]
 have e:X++q :: (M++q :: Y)=(X++q :: M)++q :: Y:=by simp
 rw [e,setX (by simp;omega)]
 simp
theorem Zawe {α:Type} {L:List α} {i:Nat} (h:i<L.length):L.drop i=L[i] :: L.drop (i+1):=List.drop_eq_getElem_cons h
theorem Zb94 {R:Type} {L X M Y:List NdT} {p q:NdT} {u v:Nat} (hL:L=X++p :: (M++q :: Y)) (hu:X.length=u) (hv:X.length+1+M.length=v) {U V:Int} (eU:U=(u:Int)) (eV:V=(v:Int)) {y z:Option R}
  (h:List.set (List.set L (Int.toNat U) ((gt Za4 L V).1,((gt Za4 L V).2.1,((gt Za4 L V).2.2.1,())))) (Int.toNat V) ((gt Za4 L U).1,((gt Za4 L U).2.1,((gt Za4 L U).2.2.1,())))=X++q :: (M++p :: Y)→y=z) :
  (chk (inb V (List.length L)) <| chk (inb U (List.length L)) <| chk (inb U (List.length L)) <| chk (inb V (List.length (List.set L (Int.toNat U) ((gt Za4 L V).1,((gt Za4 L V).2.1,((gt Za4 L V).2.2.1,())))))) <| y)=z:=by
 subst hL;subst eU;subst eV
 have hlen:List.length (X++p :: (M++q :: Y))=X.length+(1+(M.length+(1+Y.length))):=by simp;omega
 have gu:gt Za4 (X++p :: (M++q :: Y)) (u:Int)=p:=gtX hu
 have gv:gt Za4 (X++p :: (M++q :: Y)) (v:Int)=q:=by
  have e:X++p :: (M++q :: Y)=(X++p :: M)++q :: Y:=by simp
  rw [e];exact gtX (by simp;omega)
 have i1:inb (v:Int) (List.length (X++p :: (M++q :: Y)))=true:=Zar ⟨by omega,by rw [hlen];omega⟩
 have i2:inb (u:Int) (List.length (X++p :: (M++q :: Y)))=true:=Zar ⟨by omega,by rw [hlen];omega⟩
 have hs:∀z:NdT,inb (v:Int) (List.length (List.set (X++p :: (M++q :: Y)) (Int.toNat (u:Int)) z))=true:=fun z=>(congrArg (inb (v:Int)) List.length_set).trans i1
 refine Zaj i1 (Zaj i2 (Zaj i2 (Zaj (hs _) (h ?_))))
 rw [gu,gv,Int.toNat_natCast,Int.toNat_natCast]
 exact sw2 hu hv
theorem Zba3 (W:WkT) (X P M Q Y:List NdT) (a b n:Nat) (ha:X.length=a) (hp:P.length=n) (hq:Q.length=n) (hb:X.length+P.length+M.length=b) (hl:b+n≤1000000) :
  Zaiv ((a:Int),((b:Int),((n:Int),((0:Int),(X++(P++(M++(Q++Y))),W)))))=some (X++(Q++(M++(P++Y))),W):=by
 unfold Zaiv;delta u16
 refine Zif (fun i:Nat=>((a:Int),((b:Int),((n:Int),((i:Int),(X++(Q.take i++(P.drop i++(M++(P.take i++(Q.drop i++Y))))),W)))))) n rfl ?_ ?_ (Ze8 (by omega))
 ·intro i hi
  try dsimp only
  unfold Zabq
  have hpi:i<P.length:=by omega
  have hqi:i<Q.length:=by omega
  refine br_tt (dec_t (show (i:Int)<(n:Int) by omega)) ?_
  refine Zb94 (X:=X++Q.take i) (p:=P[i]) (M:=P.drop (i+1)++(M++P.take i)) (q:=Q[i]) (Y:=Q.drop (i+1)++Y) (u:=a+i) (v:=b+i) ?_ ?_ ?_ ?_ ?_ (fun hset=>?_)
  ·rw [Zawe hpi,Zawe hqi];simp only [List.append_assoc,List.cons_append]
  ·simp;omega
  ·simp;omega
  ·exact i64n (by omega) (by omega)
  ·exact i64n (by omega) (by omega)
  ·refine Zaj (dec_t rfl) (Zaj (dec_t rfl) (Zaj (dec_t rfl) ?_))
   have e:∀(u v:Int) (A B:List NdT),u=v→A=B→(some (.inl ((a:Int),((b:Int),((n:Int),(u,(A,W)))))):Option (TL Zabb.σs⊕Out Zab3))=some (.inl ((a:Int),((b:Int),((n:Int),(v,(B,W)))))):=by rintro _ _ _ _ rfl rfl;rfl
   refine e _ _ _ _ (i64n (n:=i+1) (by omega) (by omega)) (hset.trans ?_)
   rw [List.take_succ_eq_append_getElem hpi,List.take_succ_eq_append_getElem hqi]
   simp only [List.append_assoc,List.cons_append,List.nil_append]
 ·try dsimp only
  unfold Zabq
  refine br_ff (dec_f (show ¬(n:Int)<(n:Int) by omega)) ?_
  have e1:P.drop n=[]:=List.drop_eq_nil_of_le (by omega)
  have e2:Q.drop n=[]:=List.drop_eq_nil_of_le (by omega)
  have e3:P.take n=P:=List.take_of_length_le (by omega)
  have e4:Q.take n=Q:=List.take_of_length_le (by omega)
  rw [e1,e2,e3,e4]
  rfl
theorem Zb8m (W:WkT) (X P M Q Y:List NdT) {A B N:Int} (a b n:Nat) (eA:A=(a:Int)) (eB:B=(b:Int)) (eN:N=(n:Int)) (ha:X.length=a) (hp:P.length=n) (hq:Q.length=n) (hb:X.length+P.length+M.length=b) (hl:b+n≤1000000) {L:List NdT} (hL:L=X++(P++(M++(Q++Y)))) :
  Zaiw (A,(B,(N,(L,W))))=some (X++(Q++(M++(P++Y))),W):=by
 subst eA;subst eB;subst eN;subst hL
 exact Zba (Zba3 W X P M Q Y a b n ha hp hq hb hl) rfl
theorem rot_loop (W:WkT) (m:Nat) (G:List NdT) (hG:G.length≤400000) {X P Q Y:List NdT} (hp:0<P.length) (hq:0<Q.length) (hm:X.length+P.length=m) (hg:X++(Q++(P++Y))=G) :
  ∃o,Zaer ((m:Int),((P.length:Int),((Q.length:Int),(X++(P++(Q++Y)),W))))=some o ∧
   ∃X P Q Y:List NdT,o=((m:Int),((P.length:Int),(X++(P++(Q++Y)),W)))∧Q.length=P.length∧X.length+P.length=m∧X++(Q++(P++Y))=G:=by
 unfold Zaer;delta u15
 refine Za80 (fun d=>∃X P Q Y:List NdT,d=((m:Int),((P.length:Int),((Q.length:Int),(X++(P++(Q++Y)),W))))∧0<P.length∧0<Q.length∧X.length+P.length=m∧X++(Q++(P++Y))=G)
  (fun o=>∃X P Q Y:List NdT,o=((m:Int),((P.length:Int),(X++(P++(Q++Y)),W)))∧Q.length=P.length∧X.length+P.length=m∧X++(Q++(P++Y))=G)
  (fun d=>d.2.1.toNat+d.2.2.1.toNat) ?_ NN _ ⟨X,P,Q,Y,rfl,hp,hq,hm,hg⟩ (Ze8 (by
   have:=congrArg List.length hg
   simp only [List.length_append] at this
   show ((P.length:Int)).toNat+((Q.length:Int)).toNat≤_
   omega))
 rintro d ⟨X,P,Q,Y,rfl,hp,hq,hm,hg⟩
 have hlen:X.length+(Q.length+(P.length+Y.length))≤400000:=by
  have:=congrArg List.length hg
  simp only [List.length_append] at this
  omega
 try dsimp only
 unfold Zaet
 rcases Nat.lt_trichotomy P.length Q.length with h | h | h
 ·-- the second one is longer
  right
  obtain ⟨Q1,Q2,hQ,h1,h2⟩:∃Q1 Q2:List NdT,Q=Q1++Q2∧Q1.length=Q.length - P.length∧Q2.length=P.length:=⟨Q.take (Q.length - P.length),Q.drop (Q.length - P.length),(List.take_append_drop _ _).symm,by simp,by simp;omega⟩
  have es:=Zb8m W X P Q1 Q2 Y (A:=IntKind.wrap .i64 ((m:Int) - (P.length:Int))) (B:=IntKind.wrap .i64 ((IntKind.wrap .i64 ((m:Int)+(Q.length:Int))) - (P.length:Int))) (N:=(P.length:Int)) X.length (m+Q.length - P.length) P.length
   (i64n (by omega) (by omega)) (by rw [i64n (x:=(m:Int)+(Q.length:Int)) (n:=m+Q.length) (by omega) (by omega)];exact i64n (by omega) (by omega)) rfl rfl rfl h2 (by omega) (by omega) (L:=X++(P++(Q++Y))) (by rw [hQ];simp only [List.append_assoc])
  refine ⟨((m:Int),((Q2.length:Int),((Q1.length:Int),(X++(Q2++(Q1++(P++Y))),W)))),?_,⟨X,Q2,Q1,P++Y,rfl,by omega,by omega,by omega,?_⟩,?_⟩
  ·refine br_tt (not_t (dec_f (show ¬(P.length:Int)=(Q.length:Int) by omega))) (br_ff (dec_f (show ¬(Q.length:Int)<(P.length:Int) by omega)) (Zba es ?_))
   have e:∀(u v u' v':Int) (A:List NdT),u=u'→v=v'→(some (.inl ((m:Int),(u,(v,(A,W))))):Option (TL Zaas.σs⊕Out Zaao))=some (.inl ((m:Int),(u',(v',(A,W))))):=by rintro _ _ _ _ _ rfl rfl;rfl
   exact e _ _ _ _ _ (by omega) (i64n (by omega) (by omega))
  ·rw [←hg,hQ];simp only [List.append_assoc]
  ·show ((Q2.length:Int)).toNat+((Q1.length:Int)).toNat<((P.length:Int)).toNat+((Q.length:Int)).toNat
   omega
 ·left
  refine ⟨((m:Int),((P.length:Int),(X++(P++(Q++Y)),W))),br_ff (not_f (dec_t (show (P.length:Int)=(Q.length:Int) by omega))) rfl,X,P,Q,Y,rfl,h.symm,hm,hg⟩
 ·-- the first one is longer
  right
  obtain ⟨P1,P2,hP,h1,h2⟩:∃P1 P2:List NdT,P=P1++P2∧P1.length=Q.length∧P2.length=P.length - Q.length:=⟨P.take Q.length,P.drop Q.length,(List.take_append_drop _ _).symm,by simp;omega,by simp⟩
  have es:=Zb8m W X P1 P2 Q Y (A:=IntKind.wrap .i64 ((m:Int) - (P.length:Int))) (B:=(m:Int)) (N:=(Q.length:Int)) X.length m Q.length
   (i64n (by omega) (by omega)) rfl rfl rfl h1 rfl (by omega) (by omega) (L:=X++(P++(Q++Y))) (by rw [hP];simp only [List.append_assoc])
  refine ⟨((m:Int),((P2.length:Int),((P1.length:Int),((X++Q)++(P2++(P1++Y)),W)))),?_,⟨X++Q,P2,P1,Y,rfl,by omega,by omega,by simp only [List.length_append];omega,?_⟩,?_⟩
  ·refine br_tt (not_t (dec_f (show ¬(P.length:Int)=(Q.length:Int) by omega))) (br_tt (dec_t (show (Q.length:Int)<(P.length:Int) by omega)) (Zba es ?_))
   have e:∀(u v u' v':Int) (A A':List NdT),u=u'→v=v'→A=A'→(some (.inl ((m:Int),(u,(v,(A,W))))):Option (TL Zaas.σs⊕Out Zaao))=some (.inl ((m:Int),(u',(v',(A',W))))):=by rintro _ _ _ _ _ _ rfl rfl rfl;rfl
   exact e _ _ _ _ _ _ (i64n (by omega) (by omega)) (by omega) (by simp only [List.append_assoc])
  ·rw [←hg,hP];simp only [List.append_assoc]
  ·show ((P2.length:Int)).toNat+((P1.length:Int)).toNat<((P.length:Int)).toNat+((Q.length:Int)).toNat
   omega
theorem rot_is (W:WkT) {X P Q Y L:List NdT} {A M B:Int} (hp:0<P.length) (hq:0<Q.length) (eA:A=(X.length:Int)) (eM:M=((X.length+P.length:Nat):Int)) (eB:B=((X.length+P.length+Q.length:Nat):Int)) (hl:L.length≤400000) (hL:L=X++(P++(Q++Y))) :
  Zace (A,(M,(B,(L,W))))=some (X++(Q++(P++Y)),W):=by
 subst eA;subst eM;subst eB;subst hL
 have hlen:X.length+(P.length+(Q.length+Y.length))≤400000:=by simpa only [List.length_append] using hl
 obtain ⟨o,e1,X',P',Q',Y',rfl,h1,h2,h3⟩:=rot_loop W (X.length+P.length) (X++(Q++(P++Y))) (by simp only [List.length_append];omega) hp hq rfl rfl (Y:=Y)
 have hlen':X'.length+(P'.length+(Q'.length+Y'.length))≤400000:=by
  have:=congrArg List.length h3
  simp only [List.length_append] at this
  omega
 have es:=Zb8m W X' P' [] Q' Y' (A:=IntKind.wrap .i64 (((X.length+P.length:Nat):Int) - (P'.length:Int))) (B:=((X.length+P.length:Nat):Int)) (N:=(P'.length:Int)) X'.length (X.length+P.length) P'.length
  (i64n (by omega) (by omega)) rfl rfl rfl rfl h1 (by simp only [List.length_nil];omega) (by omega) (L:=X'++(P'++(Q'++Y'))) rfl
 have e0:Zaer (((X.length+P.length:Nat):Int),(IntKind.wrap .i64 (((X.length+P.length:Nat):Int) - (X.length:Int)),(IntKind.wrap .i64 (((X.length+P.length+Q.length:Nat):Int) - ((X.length+P.length:Nat):Int)),(X++(P++(Q++Y)),W))))=some (((X.length+P.length:Nat):Int),((P'.length:Int),(X'++(P'++(Q'++Y')),W))):=by
  rw [i64n (x:=((X.length+P.length:Nat):Int) - (X.length:Int)) (n:=P.length) (by omega) (by omega),i64n (x:=((X.length+P.length+Q.length:Nat):Int) - ((X.length+P.length:Nat):Int)) (n:=Q.length) (by omega) (by omega)]
  exact e1
 refine Zba e0 (Zba es ?_)
 have e:∀(A A':List NdT),A=A'→(some (A,W):Option (Out Zaar))=some (A',W):=by rintro _ _ rfl;rfl
 exact e _ _ (by rw [List.nil_append];exact h3)
end Go.Proofs.YtnocaehijdmkkaaGreat.V
end
section
namespace Go.Proofs.YtnocaehijdmkkaaGreat.V
open Go Go.RowKit
open Pl (Sst Srt Zb4u)
def wIn (W:WkT) (L:List NdT):TL [.int .i64,.sl (.int .i64),.sl Za0,.sl (.int .i64),.sl (.int .i64),.sl (.int .i64),.sl Za1,.sl Za0,.sl (.int .i64),.sl Za4,.sl (.int .u8),.sl (.int .i64)]:=
 (W.1,(W.2.1,(W.2.2.1,(W.2.2.2.1,(W.2.2.2.2.1,(W.2.2.2.2.2.1,(W.2.2.2.2.2.2.1,(W.2.2.2.2.2.2.2.1,(W.2.2.2.2.2.2.2.2.1,(L,(W.2.2.2.2.2.2.2.2.2.1,(W.2.2.2.2.2.2.2.2.2.2.1,()))))))))))))
structure CmpOk (W:WkT) (key:NdT→Int) (V:NdT→Prop):Prop where
 cmp:∀(L:List NdT) (x y:NdT),V x→V y→∃c:Int,Zaan (x.1,(x.2.1,(x.2.2.1,(y.1,(y.2.1,(y.2.2.1,wIn W L))))))=some (c,wIn W L)∧(c<0↔key x<key y)
theorem Zb95 {R:Type} {L X Y:List NdT} {p q:NdT} {u v:Nat} (hL:L=X++q :: (p :: Y)) (hv:X.length=v) (hu:v+1=u) {U V:Int} (eU:U=(u:Int)) (eV:V=(v:Int)) {y z:Option R}
  (h:List.set (List.set L (Int.toNat U) ((gt Za4 L V).1,((gt Za4 L V).2.1,((gt Za4 L V).2.2.1,())))) (Int.toNat V) ((gt Za4 L U).1,((gt Za4 L U).2.1,((gt Za4 L U).2.2.1,())))=X++p :: (q :: Y)→y=z) :
  (chk (inb V (List.length L)) <| chk (inb U (List.length L)) <| chk (inb U (List.length L)) <| chk (inb V (List.length (List.set L (Int.toNat U) ((gt Za4 L V).1,((gt Za4 L V).2.1,((gt Za4 L V).2.2.1,())))))) <| y)=z:=by
 subst hL;subst eU;subst eV;subst hu
 have hlen:List.length (X++q :: (p :: Y))=X.length+(1+(1+Y.length)):=by simp;omega
 have gv:gt Za4 (X++q :: (p :: Y)) (v:Int)=q:=gtX hv
 have e:X++q :: (p :: Y)=(X++[q])++p :: Y:=by simp
 have gu:gt Za4 (X++q :: (p :: Y)) ((v+1:Nat):Int)=p:=by
  rw [e];exact gtX (by simp;omega)
 have i1:inb (v:Int) (List.length (X++q :: (p :: Y)))=true:=Zar ⟨by omega,by rw [hlen];omega⟩
 have i2:inb ((v+1:Nat):Int) (List.length (X++q :: (p :: Y)))=true:=Zar ⟨by omega,by rw [hlen];omega⟩
 have hs:∀z:NdT,inb (v:Int) (List.length (List.set (X++q :: (p :: Y)) (Int.toNat ((v+1:Nat):Int)) z))=true:=fun z=>(congrArg (inb (v:Int)) List.length_set).trans i1
 refine Zaj i1 (Zaj i2 (Zaj i2 (Zaj (hs _) (h ?_))))
 rw [gu,gv,Int.toNat_natCast,Int.toNat_natCast]
 have e2:(X++q :: (p :: Y)).set (v+1) q=X++q :: (q :: Y):=by
  rw [e,setX (by simp;omega)];simp
 exact (congrArg (fun l:List NdT=>l.set v p) e2).trans (setX hv)
section
variable {W:WkT} {key:NdT→Int} {V:NdT→Prop}
theorem ins_loop (C:CmpOk W key V) (X T T0 Y:List NdT) (x:NdT) (A B I:Int) (i:Nat) (hA:A=(X.length:Int)) (hi:X.length+T.length=i) (hl:X.length+(T.length+Y.length)≤400000) (hT:Sst key T0 T) (hV:∀y∈T,V y) (hx:V x) :
  ∃o,Zaci (A,(B,(I,((i:Int),(X++(T++(x :: Y)),W)))))=some o∧∃S,o=(A,(B,(I,(X++(S++Y),W))))∧Sst key (T0++[x]) S:=by
 unfold Zaci;delta u16
 refine Za80 (fun d=>∃T1 T2:List NdT,d=(A,(B,(I,(((X.length+T1.length:Nat):Int),(X++(T1++(x :: (T2++Y))),W)))))∧T1++T2=T∧∀y∈T2,key x<key y)
  (fun o=>∃S,o=(A,(B,(I,(X++(S++Y),W))))∧Sst key (T0++[x]) S) (fun d=>d.2.2.2.1.toNat) ?_ NN _ ⟨T,[],by subst hi;rfl,by simp,by simp⟩ (Ze8 (by show ((i:Int)).toNat≤_;omega))
 rintro d ⟨T1,T2,rfl,hTT,h2⟩
 have hlT:T1.length+T2.length=T.length:=by rw [←hTT,List.length_append]
 try dsimp only
 unfold Zack
 rcases List.eq_nil_or_concat T1 with rfl | ⟨T1',q,rfl⟩
 ·left
  refine ⟨_,br_ff (dec_f (by rw [hA];simp)) rfl,x :: T2,rfl,?_⟩
  have:=Zb4u (T1:=[]) (T2:=T2) (x:=x) (T0:=T0) (key:=key) (by rw [hTT];exact hT) (by simp) h2
  exact this
 ·have hj:(X.length+(T1'.concat q).length:Nat)=X.length+T1'.length+1:=by simp;omega
  have hq:V q:=hV q (by rw [←hTT];simp)
  have eL:X++(T1'.concat q++(x :: (T2++Y)))=(X++T1')++q :: (x :: (T2++Y)):=by simp
  obtain ⟨c,ec,hc⟩:=C.cmp (X++(T1'.concat q++(x :: (T2++Y)))) x q hx hq
  rw [hj]
  have w1:IntKind.wrap .i64 (((X.length+T1'.length+1:Nat):Int) - 1)=((X.length+T1'.length:Nat):Int):=i64n (by omega) (by simp only [List.length_concat] at hlT;omega)
  have gx:gt Za4 (X++(T1'.concat q++(x :: (T2++Y)))) ((X.length+T1'.length+1:Nat):Int)=x:=by
   have e:X++(T1'.concat q++(x :: (T2++Y)))=(X++T1'++[q])++x :: (T2++Y):=by simp
   rw [e];exact gtX (by simp;omega)
  have gq:gt Za4 (X++(T1'.concat q++(x :: (T2++Y)))) (IntKind.wrap .i64 (((X.length+T1'.length+1:Nat):Int) - 1))=q:=by
   rw [w1,eL];exact gtX (by simp)
  have hlen:List.length (X++(T1'.concat q++(x :: (T2++Y))))=X.length+T1'.length+2+(T2.length+Y.length):=by simp;omega
  have i1:inb ((X.length+T1'.length+1:Nat):Int) (List.length (X++(T1'.concat q++(x :: (T2++Y)))))=true:=Zar ⟨by omega,by rw [hlen];omega⟩
  have i2:inb (IntKind.wrap .i64 (((X.length+T1'.length+1:Nat):Int) - 1)) (List.length (X++(T1'.concat q++(x :: (T2++Y)))))=true:=by rw [w1];exact Zar ⟨by omega,by rw [hlen];omega⟩
  have ec':Zaan ((gt Za4 (X++(T1'.concat q++(x :: (T2++Y)))) ((X.length+T1'.length+1:Nat):Int)).1,((gt Za4 (X++(T1'.concat q++(x :: (T2++Y)))) ((X.length+T1'.length+1:Nat):Int)).2.1,((gt Za4 (X++(T1'.concat q++(x :: (T2++Y)))) ((X.length+T1'.length+1:Nat):Int)).2.2.1,
    ((gt Za4 (X++(T1'.concat q++(x :: (T2++Y)))) (IntKind.wrap .i64 (((X.length+T1'.length+1:Nat):Int) - 1))).1,((gt Za4 (X++(T1'.concat q++(x :: (T2++Y)))) (IntKind.wrap .i64 (((X.length+T1'.length+1:Nat):Int) - 1))).2.1,((gt Za4 (X++(T1'.concat q++(x :: (T2++Y)))) (IntKind.wrap .i64 (((X.length+T1'.length+1:Nat):Int) - 1))).2.2.1,wIn W (X++(T1'.concat q++(x :: (T2++Y))))))))))
    = some (c,wIn W (X++(T1'.concat q++(x :: (T2++Y))))):=by rw [gx,gq];exact ec
  have hA':A<((X.length+T1'.length+1:Nat):Int):=by rw [hA];omega
  by_cases hk:key x<key q
  ·right
   refine ⟨(A,(B,(I,(((X.length+T1'.length:Nat):Int),(X++(T1'++(x :: (q :: T2++Y))),W))))),?_,⟨T1',q :: T2,rfl,by rw [←hTT];simp,?_⟩,?_⟩
   ·refine br_tt (dec_t hA') (Zaj i1 (Zaj i2 (Zba ec' (br_tt (show selB true (iL c 0) false=true from dec_t (hc.2 hk)) ?_))))
    refine Zb95 (X:=X++T1') (q:=q) (p:=x) (Y:=T2++Y) (v:=X.length+T1'.length) (u:=X.length+T1'.length+1) eL (by simp) rfl rfl w1 (fun hset=>?_)
    refine Zaj (dec_t rfl) (Zaj (dec_t rfl) ?_)
    have e:∀(u u':Int) (L L':List NdT),u=u'→L=L'→(some (.inl (A,(B,(I,(u,(L,W)))))):Option (TL Zaaa.σs⊕Out Zaa9))=some (.inl (A,(B,(I,(u',(L',W)))))):=by rintro _ _ _ _ rfl rfl;rfl
    exact e _ _ _ _ w1 (hset.trans (by simp))
   ·intro y hy
    rcases List.mem_cons.1 hy with rfl | hy
    ·exact hk
    ·exact h2 y hy
   ·show (((X.length+T1'.length:Nat):Int)).toNat<(((X.length+T1'.length+1:Nat):Int)).toNat
    omega
  ·left
   refine ⟨(A,(B,(I,(X++((T1'.concat q++x :: T2)++Y),W)))),?_,_,rfl,?_⟩
   ·refine br_tt (dec_t hA') (Zaj i1 (Zaj i2 (Zba ec' (br_ff (show selB true (iL c 0) false=false from dec_f (fun q=>hk (hc.1 q))) ?_))))
    have e:∀(L L':List NdT),L=L'→(some (.inr (A,(B,(I,(L,W))))):Option (TL Zaaa.σs⊕Out Zaa9))=some (.inr (A,(B,(I,(L',W))))):=by rintro _ _ rfl;rfl
    exact e _ _ (show X++(T1'.concat q++(x :: (T2++Y)))=_ from by simp)
   ·refine Zb4u (by rw [hTT];exact hT) ?_ h2
    intro y hy
    have hs:Srt key (T1'.concat q):=(Pl.Zax2.1 (by rw [hTT];exact hT.srt:Srt key (T1'.concat q++T2))).1
    rw [List.concat_eq_append] at hy hs
    obtain ⟨_,_,h3⟩:=Pl.Zax2.1 hs
    rcases List.mem_append.1 hy with hy | hy
    ·have:=h3 y hy q (by simp);omega
    ·simp at hy;subst hy;omega
theorem ins_is (C:CmpOk W key V) {X S Y L:List NdT} {A B:Int} (eA:A=(X.length:Int)) (eB:B=((X.length+S.length:Nat):Int)) (hL:L=X++(S++Y)) (hl:L.length≤400000) (hV:∀y∈S,V y) :
  ∃S',Zag7 (A,(B,(L,W)))=some (X++(S'++Y),W)∧Sst key S S':=by
 subst eA;subst eB;subst hL
 have hlen:X.length+(S.length+Y.length)≤400000:=by simpa only [List.length_append] using hl
 have w0:IntKind.wrap .i64 ((X.length:Int)+1)=((X.length+1:Nat):Int):=i64n (by omega) (by omega)
 cases S with
 | nil=>
  refine ⟨[],?_,Sst.refl (List.Pairwise.nil)⟩
  have e1:Zaau ((X.length:Int),(((X.length+([]:List NdT).length:Nat):Int),(IntKind.wrap .i64 ((X.length:Int)+1),(X++([]++Y),W))))=some (X++([]++Y),W):=by
   unfold Zaau;delta u15
   refine Zif (fun _=>_) 0 rfl (fun i hi=>absurd hi (Nat.not_lt_zero i)) ?_ (Ze8 (by omega))
   try dsimp only
   unfold Zaaw
   exact br_ff (dec_f (by rw [w0];simp only [List.length_nil];omega)) rfl
  exact Zba e1 rfl
 | cons s S=>
  have e1:∃o,Zaau ((X.length:Int),(((X.length+(s :: S).length:Nat):Int),(IntKind.wrap .i64 ((X.length:Int)+1),(X++(s :: S++Y),W))))=some o∧∃S',o=(X++(S'++Y),W)∧Sst key (s :: S) S':=by
   unfold Zaau;delta u15
   refine Za80 (fun d=>∃T0 T R:List NdT,d=((X.length:Int),(((X.length+(s :: S).length:Nat):Int),(((X.length+T.length:Nat):Int),(X++(T++(R++Y)),W))))∧T0++R=s :: S∧Sst key T0 T)
    (fun o=>∃S',o=(X++(S'++Y),W)∧Sst key (s :: S) S') (fun d=>(X.length+(s :: S).length) - d.2.2.1.toNat) ?_ NN _ ⟨[s],[s],S,by rw [w0];rfl,rfl,Sst.refl (by unfold Srt;simp)⟩ (Ze8 (by
     have:List.length (s :: S)≤400000:=by omega
     omega))
   rintro d ⟨T0,T,R,rfl,hTR,hT⟩
   have hlT:=hT.len
   have hlR:T0.length+R.length=(s :: S).length:=by rw [←hTR,List.length_append]
   try dsimp only
   unfold Zaaw
   cases R with
   | nil=>
    left
    refine ⟨_,br_ff (dec_f (by simp only [List.length_nil] at hlR;omega)) rfl,T,rfl,?_⟩
    rw [List.append_nil] at hTR
    rw [←hTR];exact hT
   | cons r R=>
    right
    simp only [List.length_cons] at hlR
    have hVT:∀y∈T,V y:=fun y hy=>hV y (by rw [←hTR];simp [hT.mem.1 hy])
    obtain ⟨o,e4,S',rfl,hS'⟩:=ins_loop C X T T0 (R++Y) r (X.length:Int) ((X.length+(s :: S).length:Nat):Int) ((X.length+T.length:Nat):Int) (X.length+T.length) rfl rfl (by simp only [List.length_append,List.length_cons] at *;omega) hT hVT (hV r (by rw [←hTR];simp))
    have hl':=hS'.len
    simp only [List.length_append,List.length_cons,List.length_nil] at hl'
    refine ⟨((X.length:Int),(((X.length+(s :: S).length:Nat):Int),(((X.length+S'.length:Nat):Int),(X++(S'++(R++Y)),W)))),?_,⟨T0++[r],S',R,rfl,by rw [←hTR];simp,hS'⟩,?_⟩
    ·refine br_tt (dec_t (by simp only [List.length_cons] at *;omega)) (Zba e4 ?_)
     have e:∀(u u':Int),u=u'→(some (.inl ((X.length:Int),(((X.length+(s :: S).length:Nat):Int),(u,(X++(S'++(R++Y)),W))))):Option (TL Zaap.σs⊕Out Zaal))=some (.inl ((X.length:Int),(((X.length+(s :: S).length:Nat):Int),(u',(X++(S'++(R++Y)),W))))):=by rintro _ _ rfl;rfl
     exact e _ _ (show IntKind.wrap .i64 (((X.length+T.length:Nat):Int)+1)=_ from i64n (by omega) (by simp only [List.length_append,List.length_cons] at *;omega))
    ·show (X.length+(s :: S).length) - (((X.length+S'.length:Nat):Int)).toNat<(X.length+(s :: S).length) - (((X.length+T.length:Nat):Int)).toNat
     simp only [List.length_cons] at *
     omega
  obtain ⟨o,e1,S',rfl,hS⟩:=e1
  exact ⟨S',Zba e1 rfl,hS⟩
end
end Go.Proofs.YtnocaehijdmkkaaGreat.V
end
section
namespace Go.Proofs.YtnocaehijdmkkaaGreat.V
open Go Go.RowKit
open Pl (Sst Srt Zaxz)
abbrev hf (i j:Int):Int:=IntKind.wrap .i64 (Int.fdiv (IntKind.wrap .u64 (IntKind.wrap .i64 (i+j))) (HPow.hPow (2:Int) (Min.min (Int.toNat (1:Int)) 64)))
theorem Zb7l {i j:Nat} (h:i+j≤1000000):hf (i:Int) (j:Int)=(((i+j) / 2:Nat):Int):=by
 unfold hf
 rw [i64n (x:=(i:Int)+(j:Int)) (n:=i+j) (by omega) (by omega)]
 have e1:IntKind.wrap .u64 ((i+j:Nat):Int)=((i+j:Nat):Int):=by
  unfold IntKind.wrap
  simp [IntKind.bits,IntKind.signed]
  omega
 rw [e1]
 have e2:(HPow.hPow (2:Int) (Min.min (Int.toNat (1:Int)) 64):Int)=2:=rfl
 rw [e2,Int.fdiv_eq_ediv_of_nonneg _ (by decide)]
 exact i64n (by omega) (by omega)
theorem Zb58 {D O:Type} {B:D→Option (D⊕O)} (st:Nat→Nat→D) (fin:Nat→O) (pr:Nat→Prop) {lo hi:Nat} (hlh:lo≤hi) (hb:hi≤1000000)
  (hm:∀c d,lo≤c→c≤d→d<hi→pr d→pr c)
  (hs1:∀i j,lo≤i→i<j→j≤hi→pr ((i+j) / 2)→B (st i j)=some (.inl (st ((i+j) / 2+1) j)))
  (hs2:∀i j,lo≤i→i<j→j≤hi→¬pr ((i+j) / 2)→B (st i j)=some (.inl (st i ((i+j) / 2))))
  (he:∀i,lo≤i→i≤hi→B (st i i)=some (.inr (fin i))) :
  ∃s,lo≤s∧s≤hi∧lpD B NN (st lo hi)=some (fin s)∧(∀c,lo≤c→c<s→pr c)∧∀c,s≤c→c<hi→¬pr c:=by
 have key:∀k i j,lo≤i→i≤j→j≤hi→j - i=k→(∀c,lo≤c→c<i→pr c)→(∀c,j≤c→c<hi→¬pr c)→∀N,k<N →
   ∃s,i≤s∧s≤j∧lpD B N (st i j)=some (fin s)∧(∀c,lo≤c→c<s→pr c)∧∀c,s≤c→c<hi→¬pr c:=by
  intro k
  induction k using Nat.strongRecOn with
  | _ k ih=>
   intro i j h1 h2 h3 hk ha hb N hN
   obtain ⟨M,rfl⟩:∃M,N=M+1:=⟨N - 1,by omega⟩
   rcases Nat.lt_or_ge i j with q | q
   ·rcases Classical.em (pr ((i+j) / 2)) with hp | hp
    ·obtain ⟨s,g1,g2,g3,g4⟩:=ih (j - ((i+j) / 2+1)) (by omega) ((i+j) / 2+1) j (by omega) (by omega) h3 rfl (fun c c1 c2=>hm c ((i+j) / 2) c1 (by omega) (by omega) hp) hb M (by omega)
     exact ⟨s,by omega,g2,by simp only [lpD,hs1 i j h1 q h3 hp];exact g3,g4⟩
    ·obtain ⟨s,g1,g2,g3,g4⟩:=ih ((i+j) / 2 - i) (by omega) i ((i+j) / 2) h1 (by omega) (by omega) rfl ha (fun c c1 c2 hc=>hp (hm ((i+j) / 2) c (by omega) c1 c2 hc)) M (by omega)
     exact ⟨s,g1,by omega,by simp only [lpD,hs2 i j h1 q h3 hp];exact g3,g4⟩
   ·have:i=j:=by omega
    subst this
    exact ⟨i,Nat.le_refl _,Nat.le_refl _,by simp only [lpD,he i h1 h3],ha,hb⟩
 exact key (hi - lo) lo hi (Nat.le_refl _) hlh (Nat.le_refl _) rfl (fun c c1 c2=>by omega) (fun c c1 c2=>by omega) NN (Ze8 (by omega))
abbrev symT:=symG Zace
def SymIs (W:WkT) (key:NdT→Int) (V:NdT→Prop) (F:Zaa1) (k:Nat):Prop:=
 ∀(X P Q Y L:List NdT) (A M B:Int),0<P.length→0<Q.length→P.length+Q.length≤k→A=(X.length:Int)→M=((X.length+P.length:Nat):Int)→B=((X.length+P.length+Q.length:Nat):Int)→L=X++(P++(Q++Y))→L.length≤400000 →
  Srt key P→Srt key Q→(∀x∈P,V x)→(∀x∈Q,V x)→∃R,F (A,(M,(B,(L,W))))=some (X++(R++Y),W)∧Sst key (P++Q) R
section
variable {W:WkT} {key:NdT→Int} {V:NdT→Prop}
theorem symV_is {F1:Zaa1} {k:Nat} (ih:SymIs W key V F1 k) {X P Q Y L:List NdT} {b mid e:Int} (em:mid=(X.length:Int)) (ee:e=((X.length+P.length:Nat):Int)) (eb:b=((X.length+P.length+Q.length:Nat):Int)) (hL:L=X++(P++(Q++Y))) (hl:L.length≤400000)
  (hk:P.length+Q.length≤k) (hp:Srt key P) (hq:Srt key Q) (hP:∀x∈P,V x) (hQ:∀x∈Q,V x):∃R,symV F1 b mid e (L,W)=some (X++(R++Y),W)∧Sst key (P++Q) R:=by
 unfold symV
 rcases Nat.eq_zero_or_pos P.length with h1 | h1
 ·have:P=[]:=List.eq_nil_of_length_eq_zero h1
  subst this
  refine ⟨Q,br_ff (dec_f (by rw [em,ee];simp only [List.length_nil];omega)) ?_,Sst.refl hq⟩
  rw [hL];rfl
 ·rcases Nat.eq_zero_or_pos Q.length with h2 | h2
  ·have:Q=[]:=List.eq_nil_of_length_eq_zero h2
   subst this
   refine ⟨P,br_tt (dec_t (by rw [em,ee];omega)) (br_ff (show selB true (iL e b) false=false from dec_f (by rw [ee,eb];simp only [List.length_nil];omega)) ?_),by rw [List.append_nil];exact Sst.refl hp⟩
   rw [hL];rfl
  ·obtain ⟨R,e1,e2⟩:=ih X P Q Y L mid e b h1 h2 hk em ee eb hL hl hp hq hP hQ
   exact ⟨R,br_tt (dec_t (by rw [em,ee];omega)) (br_tt (show selB true (iL e b) false=true from dec_t (by rw [ee,eb];omega)) (Zba e1 rfl)),e2⟩
theorem symT_is {F1:Zaa1} {k:Nat} (ih:SymIs W key V F1 k) {X P1 P2 Q1 Q2 Y L:List NdT} {a m b mid s e:Int} (ea:a=(X.length:Int)) (es:s=((X.length+P1.length:Nat):Int)) (emm:m=((X.length+P1.length+P2.length:Nat):Int)) (em:mid=((X.length+P1.length+Q1.length:Nat):Int))
  (ee:e=((X.length+P1.length+Q1.length+P2.length:Nat):Int)) (eb:b=((X.length+P1.length+P2.length+Q1.length+Q2.length:Nat):Int)) (hL:L=X++(P1++(P2++(Q1++(Q2++Y))))) (hl:L.length≤400000)
  (hk1:P1.length+Q1.length≤k) (hk2:P2.length+Q2.length≤k) (hp:Srt key (P1++P2)) (hq:Srt key (Q1++Q2)) (hP:∀x∈P1++P2,V x) (hQ:∀x∈Q1++Q2,V x)
  (h1:∀x∈P1,∀y∈Q2,key x≤key y) (h2:∀x∈P2,∀y∈Q1,key y<key x):∃R,symT F1 a m b mid s e (L,W)=some (X++(R++Y),W)∧Sst key ((P1++P2)++(Q1++Q2)) R:=by
 have hlen:X.length+(P1.length+(P2.length+(Q1.length+(Q2.length+Y.length))))≤400000:=by rw [hL] at hl;simpa only [List.length_append] using hl
 obtain ⟨p1,p2,_⟩:=Pl.Zax2.1 hp
 obtain ⟨q1,q2,_⟩:=Pl.Zax2.1 hq
 have hU:∃R,symU F1 a b mid s e (X++(P1++(Q1++(P2++(Q2++Y)))),W)=some (X++(R++Y),W)∧Sst key ((P1++P2)++(Q1++Q2)) R:=by
  have hV:∀R1:List NdT,Sst key (P1++Q1) R1→∃R,symV F1 b mid e (X++(R1++(P2++(Q2++Y))),W)=some (X++(R++Y),W)∧Sst key ((P1++P2)++(Q1++Q2)) R:=by
   intro R1 hR1
   have hl1:=hR1.len
   simp only [List.length_append] at hl1
   obtain ⟨R2,e1,e2⟩:=symV_is ih (X:=X++R1) (P:=P2) (Q:=Q2) (Y:=Y) (L:=X++(R1++(P2++(Q2++Y)))) (b:=b) (mid:=mid) (e:=e) (by rw [em];simp only [List.length_append];omega) (by rw [ee];simp only [List.length_append];omega) (by rw [eb];simp only [List.length_append];omega)
    (by simp only [List.append_assoc]) (by simp only [List.length_append];omega) hk2 p2 q2 (fun x hx=>hP x (by simp [hx])) (fun x hx=>hQ x (by simp [hx]))
   refine ⟨R1++R2,e1.trans (congrArg (fun l:List NdT=>(some (l,W):SymO)) ?_),Zaxz hp hq h1 h2 hR1 e2⟩
   simp only [List.append_assoc]
  unfold symU
  rcases Nat.eq_zero_or_pos P1.length with g1 | g1
  ·have:P1=[]:=List.eq_nil_of_length_eq_zero g1
   subst this
   obtain ⟨R,e1,e2⟩:=hV Q1 (Sst.refl q1)
   exact ⟨R,br_ff (dec_f (by rw [ea,es];simp only [List.length_nil];omega)) e1,e2⟩
  ·rcases Nat.eq_zero_or_pos Q1.length with g2 | g2
   ·have:Q1=[]:=List.eq_nil_of_length_eq_zero g2
    subst this
    obtain ⟨R,e1,e2⟩:=hV P1 (by rw [List.append_nil];exact Sst.refl p1)
    exact ⟨R,br_tt (dec_t (by rw [ea,es];omega)) (br_ff (show selB true (iL s mid) false=false from dec_f (by rw [es,em];simp only [List.length_nil];omega)) e1),e2⟩
   ·obtain ⟨R1,e0,hR1⟩:=ih X P1 Q1 (P2++(Q2++Y)) (X++(P1++(Q1++(P2++(Q2++Y))))) a s mid g1 g2 hk1 ea es (by rw [em]) rfl (by simp only [List.length_append];omega) p1 q1 (fun x hx=>hP x (by simp [hx])) (fun x hx=>hQ x (by simp [hx]))
    obtain ⟨R,e1,e2⟩:=hV R1 hR1
    exact ⟨R,br_tt (dec_t (by rw [ea,es];omega)) (br_tt (show selB true (iL s mid) false=true from dec_t (by rw [es,em];omega)) (Zba e0 e1)),e2⟩
 obtain ⟨R,e1,e2⟩:=hU
 refine ⟨R,?_,e2⟩
 unfold symT symG
 subst hL
 rcases Nat.eq_zero_or_pos P2.length with g1 | g1
 ·have:P2=[]:=List.eq_nil_of_length_eq_zero g1
  subst this
  exact br_ff (dec_f (by rw [es,emm];simp only [List.length_nil];omega)) e1
 ·rcases Nat.eq_zero_or_pos Q1.length with g2 | g2
  ·have:Q1=[]:=List.eq_nil_of_length_eq_zero g2
   subst this
   exact br_tt (dec_t (by rw [es,emm];omega)) (br_ff (show selB true (iL m e) false=false from dec_f (by rw [ee,emm];simp only [List.length_nil];omega)) e1)
  ·have er:=rot_is W (X:=X++P1) (P:=P2) (Q:=Q1) (Y:=Q2++Y) (L:=X++(P1++(P2++(Q1++(Q2++Y))))) (A:=s) (M:=m) (B:=e) g1 g2 (by rw [es];simp only [List.length_append]) (by rw [emm];simp only [List.length_append]) (by rw [ee];simp only [List.length_append];omega) hl (by simp only [List.append_assoc])
   have er':Zace (s,(m,(e,(X++(P1++(P2++(Q1++(Q2++Y)))),W))))=some (X++(P1++(Q1++(P2++(Q2++Y)))),W):=er.trans (congrArg (fun l:List NdT=>(some (l,W):Option (Out Zaar))) (by simp only [List.append_assoc]))
   exact br_tt (dec_t (by rw [es,emm];omega)) (br_tt (show selB true (iL m e) false=true from dec_t (by rw [ee,emm];omega)) (Zba er' e1))
end
theorem Zb2c {key:NdT→Int} {L:List NdT} (h:Srt key L) {i j:Nat} (hij:i≤j) (hj:j<L.length):key L[i]≤key L[j]:=by
 rcases Nat.lt_or_ge i j with q | q
 ·exact (List.pairwise_iff_getElem.1 h) i j (by omega) hj q
 ·have:i=j:=by omega
  subst this;exact Int.le_refl _
section
variable {X P Q Y L:List NdT}
theorem at_P (hL:L=X++(P++(Q++Y))) {t c:Nat} (ht:t<P.length) (hc:c=X.length+t):gt Za4 L (c:Int)=P[t]:=by
 subst hL;subst hc
 refine gt_at ?_
 rw [List.getElem?_append_right (by omega),Nat.add_sub_cancel_left,List.getElem?_append_left ht,List.getElem?_eq_getElem ht]
theorem at_Q (hL:L=X++(P++(Q++Y))) {t c:Nat} (ht:t<Q.length) (hc:c=X.length+P.length+t):gt Za4 L (c:Int)=Q[t]:=by
 subst hL;subst hc
 refine gt_at ?_
 rw [List.getElem?_append_right (by omega),List.getElem?_append_right (by omega)]
 have:X.length+P.length+t - X.length - P.length=t:=by omega
 rw [this,List.getElem?_append_left ht,List.getElem?_eq_getElem ht]
theorem len_L (hL:L=X++(P++(Q++Y))):L.length=X.length+P.length+Q.length+Y.length:=by
 subst hL;simp only [List.length_append];omega
variable {W:WkT} {key:NdT→Int} {V:NdT→Prop}
theorem L3_is (C:CmpOk W key V) (F:Zaa1) {x:NdT} (hL:L=X++([x]++(Q++Y))) (hl:L.length≤400000) (hq:Srt key Q) (hx:V x) (hQ:∀y∈Q,V y) :
  ∃k,k≤Q.length∧Zajp F ((X.length:Int),(((X.length+1:Nat):Int),(((X.length+1+Q.length:Nat):Int),(L,W))))=some ((X.length:Int),(((X.length+1+k:Nat):Int),(L,W)))∧(∀y∈Q.take k,key y<key x)∧∀y∈Q.drop k,key x≤key y:=by
 have hlen:=len_L hL
 simp only [List.length_cons,List.length_nil] at hlen
 have gQ:∀c,(h0:X.length+1≤c)→(h:c<X.length+1+Q.length)→gt Za4 L (c:Int)=Q[c - X.length - 1]'(by omega):=fun c h1 h2=>at_Q hL (t:=c - X.length - 1) (by omega) (by simp only [List.length_cons,List.length_nil];omega)
 have gx:gt Za4 L (X.length:Int)=x:=at_P hL (t:=0) (by simp) rfl
 have step:∀i j:Nat,X.length+1≤i→i<j→j≤X.length+1+Q.length→∃c:Int,(c<0↔key (gt Za4 L (((i+j) / 2:Nat):Int))<key x) ∧
   Zaag Zaan (X.length:Int) (i:Int) (j:Int) L W.1 W.2.1 W.2.2.1 W.2.2.2.1 W.2.2.2.2.1 W.2.2.2.2.2.1 W.2.2.2.2.2.2.1 W.2.2.2.2.2.2.2.1 W.2.2.2.2.2.2.2.2.1 W.2.2.2.2.2.2.2.2.2.1 W.2.2.2.2.2.2.2.2.2.2.1 =
    br (iL c 0) (some (.inl ((X.length:Int),((((i+j) / 2+1:Nat):Int),((j:Int),(L,W)))))) (some (.inl ((X.length:Int),((i:Int),((((i+j) / 2:Nat):Int),(L,W)))))):=by
  intro i j h1 h2 h3
  have hw:hf (i:Int) (j:Int)=(((i+j) / 2:Nat):Int):=Zb7l (by omega)
  have gh:=gQ ((i+j) / 2) (by omega) (by omega)
  obtain ⟨c,e1,e2⟩:=C.cmp L (gt Za4 L (((i+j) / 2:Nat):Int)) (gt Za4 L (X.length:Int)) (by rw [gh];exact hQ _ (List.getElem_mem _)) (by rw [gx];exact hx)
  refine ⟨c,by rw [←gx];exact e2,?_⟩
  have i1:inb (hf (i:Int) (j:Int)) (List.length L)=true:=by rw [hw];exact Zar ⟨by omega,by omega⟩
  have i2:inb (X.length:Int) (List.length L)=true:=Zar ⟨by omega,by omega⟩
  have e1':Zaan ((gt Za4 L (hf (i:Int) (j:Int))).1,((gt Za4 L (hf (i:Int) (j:Int))).2.1,((gt Za4 L (hf (i:Int) (j:Int))).2.2.1,((gt Za4 L (X.length:Int)).1,((gt Za4 L (X.length:Int)).2.1,((gt Za4 L (X.length:Int)).2.2.1,wIn W L))))))=some (c,wIn W L):=by rw [hw];exact e1
  unfold Zaag
  refine br_tt (dec_t (show (i:Int)<(j:Int) by omega)) (Zaj i1 (Zaj i2 (Zba e1' ?_)))
  have e:∀(u v u' v':Int),u=u'→v=v'→(br (iL c 0) (some (.inl ((X.length:Int),(u,((j:Int),(L,W)))))) (some (.inl ((X.length:Int),((i:Int),(v,(L,W)))))):Option (TL Zabi.σs⊕Out Zab7))=br (iL c 0) (some (.inl ((X.length:Int),(u',((j:Int),(L,W)))))) (some (.inl ((X.length:Int),((i:Int),(v',(L,W)))))):=by rintro _ _ _ _ rfl rfl;rfl
  exact e _ _ _ _ (by show IntKind.wrap .i64 (hf (i:Int) (j:Int)+1)=_;rw [hw];exact i64n (by omega) (by omega)) hw
 obtain ⟨s,s1,s2,es,hs1,hs2⟩:=Zb58 (B:=fun d=>Zaag Zaan d.1 d.2.1 d.2.2.1 d.2.2.2.1 d.2.2.2.2.1 d.2.2.2.2.2.1 d.2.2.2.2.2.2.1 d.2.2.2.2.2.2.2.1 d.2.2.2.2.2.2.2.2.1 d.2.2.2.2.2.2.2.2.2.1 d.2.2.2.2.2.2.2.2.2.2.1 d.2.2.2.2.2.2.2.2.2.2.2.1 d.2.2.2.2.2.2.2.2.2.2.2.2.1 d.2.2.2.2.2.2.2.2.2.2.2.2.2.1 d.2.2.2.2.2.2.2.2.2.2.2.2.2.2.1)
  (fun i j:Nat=>((X.length:Int),((i:Int),((j:Int),(L,W))))) (fun i:Nat=>((X.length:Int),((i:Int),(L,W)))) (fun c=>key (gt Za4 L (c:Int))<key x) (lo:=X.length+1) (hi:=X.length+1+Q.length) (by omega) (by omega)
  (fun c d h1 h2 h3 hd=>by
   rw [gQ d (by omega) h3] at hd
   rw [gQ c h1 (by omega)]
   exact Int.lt_of_le_of_lt (Zb2c hq (i:=c - X.length - 1) (j:=d - X.length - 1) (by omega) (by omega)) hd)
  (fun i j h1 h2 h3 hp=>by
   obtain ⟨c,hc,e⟩:=step i j h1 h2 h3
   exact e.trans (br_t (dec_t (hc.2 hp))))
  (fun i j h1 h2 h3 hp=>by
   obtain ⟨c,hc,e⟩:=step i j h1 h2 h3
   exact e.trans (br_f (dec_f (fun q=>hp (hc.1 q)))))
  (fun i h1 h2=>by
   try dsimp only
   unfold Zaag
   exact br_ff (dec_f (show ¬(i:Int)<(i:Int) by omega)) rfl)
 refine ⟨s - X.length - 1,by omega,?_,?_,?_⟩
 ·have:X.length+1+(s - X.length - 1)=s:=by omega
  rw [this]
  exact es
 ·intro y hy
  obtain ⟨i,hi,rfl⟩:=List.mem_take_iff_getElem.1 hy
  have:=hs1 (X.length+1+i) (by omega) (by omega)
  rw [gQ _ (by omega) (by omega)] at this
  have e:X.length+1+i - X.length - 1=i:=by omega
  simpa only [e] using this
 ·intro y hy
  obtain ⟨i,hi,rfl⟩:=List.mem_drop_iff_getElem.1 hy
  have:=hs2 (X.length+1+(s - X.length - 1+i)) (by omega) (by omega)
  rw [gQ _ (by omega) (by omega)] at this
  have e:X.length+1+(s - X.length - 1+i) - X.length - 1=s - X.length - 1+i:=by omega
  simp only [e] at this
  omega
end
section
variable {X P Q Y L:List NdT} {W:WkT} {key:NdT→Int} {V:NdT→Prop}
theorem L9_is (F:Zaa1) {x:NdT} {Q1 Z:List NdT} (hl:X.length+Q1.length≤400000) :
  Zads F (((X.length+1+Q1.length:Nat):Int),((X.length:Int),(X++(x :: (Q1++Z)),W)))=some (X++(Q1++(x :: Z)),W):=by
 unfold Zads
 have w0:IntKind.wrap .i64 (((X.length+1+Q1.length:Nat):Int) - 1)=((X.length+Q1.length:Nat):Int):=i64n (by omega) (by omega)
 refine Zif (fun t:Nat=>(((X.length+1+Q1.length:Nat):Int),(((X.length+t:Nat):Int),(X++(Q1.take t++(x :: (Q1.drop t++Z))),W)))) Q1.length rfl ?_ ?_ (Ze8 (by omega))
 ·intro t ht
  try dsimp only
  unfold Zabz
  refine br_tt (dec_t (by rw [w0];omega)) ?_
  refine Zb94 (X:=X++Q1.take t) (p:=x) (M:=[]) (q:=Q1[t]) (Y:=Q1.drop (t+1)++Z) (u:=X.length+t) (v:=X.length+t+1) ?_ ?_ ?_ rfl ?_ (fun hset=>?_)
  ·rw [Zawe ht];simp only [List.append_assoc,List.cons_append,List.nil_append]
  ·simp;omega
  ·simp;omega
  ·exact i64n (by omega) (by omega)
  ·refine Zaj (dec_t rfl) (Zaj (dec_t rfl) ?_)
   have e:∀(u v:Int) (A B:List NdT),u=v→A=B→(some (.inl (((X.length+1+Q1.length:Nat):Int),(u,(A,W)))):Option (TL Zabh.σs⊕Out Zab6))=some (.inl (((X.length+1+Q1.length:Nat):Int),(v,(B,W)))):=by rintro _ _ _ _ rfl rfl;rfl
   refine e _ _ _ _ (show IntKind.wrap .i64 (((X.length+t:Nat):Int)+1)=((X.length+(t+1):Nat):Int) from i64n (by omega) (by omega)) (hset.trans ?_)
   rw [List.take_succ_eq_append_getElem ht]
   simp only [List.append_assoc,List.cons_append,List.nil_append]
 ·try dsimp only
  unfold Zabz
  refine br_ff (dec_f (by rw [w0];omega)) ?_
  have e1:Q1.drop Q1.length=[]:=List.drop_eq_nil_of_le (Nat.le_refl _)
  have e2:Q1.take Q1.length=Q1:=List.take_of_length_le (Nat.le_refl _)
  rw [e1,e2]
  rfl
theorem L15_is (C:CmpOk W key V) (F:Zaa1) {x:NdT} (hL:L=X++(P++([x]++Y))) (hl:L.length≤400000) (hp:Srt key P) (hx:V x) (hP:∀y∈P,V y) :
  ∃k,k≤P.length∧Zait F (((X.length+P.length:Nat):Int),((X.length:Int),(((X.length+P.length:Nat):Int),(L,W))))=some (((X.length+P.length:Nat):Int),(((X.length+k:Nat):Int),(L,W)))∧(∀y∈P.take k,key y≤key x)∧∀y∈P.drop k,key x<key y:=by
 have hlen:=len_L hL
 simp only [List.length_cons,List.length_nil] at hlen
 have gP:∀c,(h0:X.length≤c)→(h:c<X.length+P.length)→gt Za4 L (c:Int)=P[c - X.length]'(by omega):=fun c h1 h2=>at_P hL (t:=c - X.length) (by omega) (by omega)
 have gx:gt Za4 L ((X.length+P.length:Nat):Int)=x:=at_Q hL (t:=0) (by simp) rfl
 have step:∀i j:Nat,X.length≤i→i<j→j≤X.length+P.length→∃c:Int,(c<0↔key x<key (gt Za4 L (((i+j) / 2:Nat):Int))) ∧
   Zaac Zaan ((X.length+P.length:Nat):Int) (i:Int) (j:Int) L W.1 W.2.1 W.2.2.1 W.2.2.2.1 W.2.2.2.2.1 W.2.2.2.2.2.1 W.2.2.2.2.2.2.1 W.2.2.2.2.2.2.2.1 W.2.2.2.2.2.2.2.2.1 W.2.2.2.2.2.2.2.2.2.1 W.2.2.2.2.2.2.2.2.2.2.1 =
    br (Bool.not (iL c 0)) (some (.inl (((X.length+P.length:Nat):Int),((((i+j) / 2+1:Nat):Int),((j:Int),(L,W)))))) (some (.inl (((X.length+P.length:Nat):Int),((i:Int),((((i+j) / 2:Nat):Int),(L,W)))))):=by
  intro i j h1 h2 h3
  have hw:hf (i:Int) (j:Int)=(((i+j) / 2:Nat):Int):=Zb7l (by omega)
  have gh:=gP ((i+j) / 2) (by omega) (by omega)
  obtain ⟨c,e1,e2⟩:=C.cmp L (gt Za4 L ((X.length+P.length:Nat):Int)) (gt Za4 L (((i+j) / 2:Nat):Int)) (by rw [gx];exact hx) (by rw [gh];exact hP _ (List.getElem_mem _))
  refine ⟨c,by rw [←gx];exact e2,?_⟩
  have i1:inb (hf (i:Int) (j:Int)) (List.length L)=true:=by rw [hw];exact Zar ⟨by omega,by omega⟩
  have i2:inb ((X.length+P.length:Nat):Int) (List.length L)=true:=Zar ⟨by omega,by omega⟩
  have e1':Zaan ((gt Za4 L ((X.length+P.length:Nat):Int)).1,((gt Za4 L ((X.length+P.length:Nat):Int)).2.1,((gt Za4 L ((X.length+P.length:Nat):Int)).2.2.1,((gt Za4 L (hf (i:Int) (j:Int))).1,((gt Za4 L (hf (i:Int) (j:Int))).2.1,((gt Za4 L (hf (i:Int) (j:Int))).2.2.1,wIn W L))))))=some (c,wIn W L):=by rw [hw];exact e1
  unfold Zaac
  refine br_tt (dec_t (show (i:Int)<(j:Int) by omega)) (Zaj i2 (Zaj i1 (Zba e1' ?_)))
  have e:∀(u v u' v':Int),u=u'→v=v'→(br (Bool.not (iL c 0)) (some (.inl (((X.length+P.length:Nat):Int),(u,((j:Int),(L,W)))))) (some (.inl (((X.length+P.length:Nat):Int),((i:Int),(v,(L,W)))))):Option (TL Zaba.σs⊕Out Zab2))=br (Bool.not (iL c 0)) (some (.inl (((X.length+P.length:Nat):Int),(u',((j:Int),(L,W)))))) (some (.inl (((X.length+P.length:Nat):Int),((i:Int),(v',(L,W)))))):=by rintro _ _ _ _ rfl rfl;rfl
  exact e _ _ _ _ (by show IntKind.wrap .i64 (hf (i:Int) (j:Int)+1)=_;rw [hw];exact i64n (by omega) (by omega)) hw
 obtain ⟨s,s1,s2,es,hs1,hs2⟩:=Zb58 (B:=fun d=>Zaac Zaan d.1 d.2.1 d.2.2.1 d.2.2.2.1 d.2.2.2.2.1 d.2.2.2.2.2.1 d.2.2.2.2.2.2.1 d.2.2.2.2.2.2.2.1 d.2.2.2.2.2.2.2.2.1 d.2.2.2.2.2.2.2.2.2.1 d.2.2.2.2.2.2.2.2.2.2.1 d.2.2.2.2.2.2.2.2.2.2.2.1 d.2.2.2.2.2.2.2.2.2.2.2.2.1 d.2.2.2.2.2.2.2.2.2.2.2.2.2.1 d.2.2.2.2.2.2.2.2.2.2.2.2.2.2.1)
  (fun i j:Nat=>(((X.length+P.length:Nat):Int),((i:Int),((j:Int),(L,W))))) (fun i:Nat=>(((X.length+P.length:Nat):Int),((i:Int),(L,W)))) (fun c=>¬key x<key (gt Za4 L (c:Int))) (lo:=X.length) (hi:=X.length+P.length) (by omega) (by omega)
  (fun c d h1 h2 h3 hd=>by
   rw [gP d (by omega) h3] at hd
   rw [gP c h1 (by omega)]
   have:=Zb2c hp (i:=c - X.length) (j:=d - X.length) (by omega) (by omega)
   omega)
  (fun i j h1 h2 h3 hp=>by
   obtain ⟨c,hc,e⟩:=step i j h1 h2 h3
   exact e.trans (br_t (not_t (dec_f (fun q=>hp (hc.1 q))))))
  (fun i j h1 h2 h3 hp=>by
   obtain ⟨c,hc,e⟩:=step i j h1 h2 h3
   exact e.trans (br_f (not_f (dec_t (hc.2 (Classical.not_not.1 hp))))))
  (fun i h1 h2=>by
   try dsimp only
   unfold Zaac
   exact br_ff (dec_f (show ¬(i:Int)<(i:Int) by omega)) rfl)
 refine ⟨s - X.length,by omega,?_,?_,?_⟩
 ·have:X.length+(s - X.length)=s:=by omega
  rw [this]
  exact es
 ·intro y hy
  obtain ⟨i,hi,rfl⟩:=List.mem_take_iff_getElem.1 hy
  have:=hs1 (X.length+i) (by omega) (by omega)
  rw [gP _ (by omega) (by omega)] at this
  have e:X.length+i - X.length=i:=by omega
  simp only [e] at this
  omega
 ·intro y hy
  obtain ⟨i,hi,rfl⟩:=List.mem_drop_iff_getElem.1 hy
  have:=hs2 (X.length+(s - X.length+i)) (by omega) (by omega)
  rw [gP _ (by omega) (by omega)] at this
  have e:X.length+(s - X.length+i) - X.length=s - X.length+i:=by omega
  simp only [e] at this
  omega
theorem L21_is (F:Zaa1) {x:NdT} {P1 P2:List NdT} (hl:X.length+P1.length+P2.length≤400000) :
  Zade F (((X.length+P1.length:Nat):Int),(((X.length+P1.length+P2.length:Nat):Int),(X++(P1++(P2++(x :: Y))),W)))=some (X++(P1++(x :: (P2++Y))),W):=by
 unfold Zade
 refine Zif (fun t:Nat=>(((X.length+P1.length:Nat):Int),(((X.length+P1.length+(P2.length - t):Nat):Int),(X++(P1++(P2.take (P2.length - t)++(x :: (P2.drop (P2.length - t)++Y)))),W)))) P2.length ?_ ?_ ?_ (Ze8 (by omega))
 ·have e1:P2.drop P2.length=[]:=List.drop_eq_nil_of_le (Nat.le_refl _)
  have e2:P2.take P2.length=P2:=List.take_of_length_le (Nat.le_refl _)
  simp only [Nat.sub_zero,e1,e2]
  rfl
 ·intro t ht
  try dsimp only
  unfold Zabp
  obtain ⟨j,hj⟩:∃j,P2.length - t=j+1:=⟨P2.length - t - 1,by omega⟩
  have hj':P2.length - (t+1)=j:=by omega
  have hjl:j<P2.length:=by omega
  rw [hj,hj']
  have w1:IntKind.wrap .i64 (((X.length+P1.length+(j+1):Nat):Int) - 1)=((X.length+P1.length+j:Nat):Int):=i64n (by omega) (by omega)
  refine br_tt (dec_t (by omega)) ?_
  refine Zb95 (X:=X++(P1++P2.take j)) (q:=P2[j]) (p:=x) (Y:=P2.drop (j+1)++Y) (v:=X.length+P1.length+j) (u:=X.length+P1.length+(j+1)) ?_ ?_ rfl rfl w1 (fun hset=>?_)
  ·rw [List.take_succ_eq_append_getElem hjl];simp only [List.append_assoc,List.cons_append,List.nil_append]
  ·simp;omega
  ·refine Zaj (dec_t rfl) (Zaj (dec_t rfl) ?_)
   have e:∀(u v:Int) (A B:List NdT),u=v→A=B→(some (.inl (((X.length+P1.length:Nat):Int),(u,(A,W)))):Option (TL Zab9.σs⊕Out Zab1))=some (.inl (((X.length+P1.length:Nat):Int),(v,(B,W)))):=by rintro _ _ _ _ rfl rfl;rfl
   refine e _ _ _ _ w1 (hset.trans ?_)
   rw [Zawe hjl]
   simp only [List.append_assoc,List.cons_append,List.nil_append]
 ·try dsimp only
  unfold Zabp
  rw [Nat.sub_self]
  exact br_ff (dec_f (by omega)) rfl
end
section
variable {X P Q Y L:List NdT} {W:WkT} {key:NdT→Int} {V:NdT→Prop}
theorem L33_is (C:CmpOk W key V) (F:Zaa1) (hL:L=X++(P++(Q++Y))) (hl:L.length≤400000) (hp:Srt key P) (hq:Srt key Q) (hP:∀y∈P,V y) (hQ:∀y∈Q,V y) (a m b mid n:Int) {lo hi p:Nat}
  (h1:X.length≤lo) (h2:lo≤hi) (h3:hi≤X.length+P.length) (h4:hi+X.length+P.length≤p+1) (h5:p<X.length+P.length+Q.length+lo) :
  ∃s,lo≤s∧s≤hi∧Zabo F (a,(m,(b,(mid,(n,((lo:Int),((hi:Int),((p:Int),(L,W)))))))))=some (a,(m,(b,(mid,(n,((s:Int),(L,W))))))) ∧
   (∀c,lo≤c→c<s→¬key (gt Za4 L ((p - c:Nat):Int))<key (gt Za4 L (c:Int)))∧∀c,s≤c→c<hi→key (gt Za4 L ((p - c:Nat):Int))<key (gt Za4 L (c:Int)):=by
 have hlen:=len_L hL
 have gP:∀c,(h0:X.length≤c)→(h:c<X.length+P.length)→gt Za4 L (c:Int)=P[c - X.length]'(by omega):=fun c h1 h2=>at_P hL (t:=c - X.length) (by omega) (by omega)
 have gQ:∀c,(h0:X.length+P.length≤c)→(h:c<X.length+P.length+Q.length)→gt Za4 L (c:Int)=Q[c - X.length - P.length]'(by omega):=fun c h1 h2=>at_Q hL (t:=c - X.length - P.length) (by omega) (by omega)
 have step:∀i j:Nat,lo≤i→i<j→j≤hi→∃c:Int,(c<0↔key (gt Za4 L ((p - (i+j) / 2:Nat):Int))<key (gt Za4 L (((i+j) / 2:Nat):Int))) ∧
   Zaab Zaan a m b mid n (i:Int) (j:Int) (p:Int) L W.1 W.2.1 W.2.2.1 W.2.2.2.1 W.2.2.2.2.1 W.2.2.2.2.2.1 W.2.2.2.2.2.2.1 W.2.2.2.2.2.2.2.1 W.2.2.2.2.2.2.2.2.1 W.2.2.2.2.2.2.2.2.2.1 W.2.2.2.2.2.2.2.2.2.2.1 =
    br (Bool.not (iL c 0)) (some (.inl (a,(m,(b,(mid,(n,((((i+j) / 2+1:Nat):Int),((j:Int),((p:Int),(L,W))))))))))) (some (.inl (a,(m,(b,(mid,(n,((i:Int),((((i+j) / 2:Nat):Int),((p:Int),(L,W))))))))))):=by
  intro i j q1 q2 q3
  have hw:hf (i:Int) (j:Int)=(((i+j) / 2:Nat):Int):=Zb7l (by omega)
  have hv:IntKind.wrap .i64 ((p:Int) - hf (i:Int) (j:Int))=((p - (i+j) / 2:Nat):Int):=by rw [hw];exact i64n (by omega) (by omega)
  have gh:=gP ((i+j) / 2) (by omega) (by omega)
  have gv:=gQ (p - (i+j) / 2) (by omega) (by omega)
  obtain ⟨c,e1,e2⟩:=C.cmp L (gt Za4 L ((p - (i+j) / 2:Nat):Int)) (gt Za4 L (((i+j) / 2:Nat):Int)) (by rw [gv];exact hQ _ (List.getElem_mem _)) (by rw [gh];exact hP _ (List.getElem_mem _))
  refine ⟨c,e2,?_⟩
  have i1:inb (hf (i:Int) (j:Int)) (List.length L)=true:=by rw [hw];exact Zar ⟨by omega,by omega⟩
  have i2:inb (IntKind.wrap .i64 ((p:Int) - hf (i:Int) (j:Int))) (List.length L)=true:=by rw [hv];exact Zar ⟨by omega,by omega⟩
  have e1':Zaan ((gt Za4 L (IntKind.wrap .i64 ((p:Int) - hf (i:Int) (j:Int)))).1,((gt Za4 L (IntKind.wrap .i64 ((p:Int) - hf (i:Int) (j:Int)))).2.1,((gt Za4 L (IntKind.wrap .i64 ((p:Int) - hf (i:Int) (j:Int)))).2.2.1,((gt Za4 L (hf (i:Int) (j:Int))).1,((gt Za4 L (hf (i:Int) (j:Int))).2.1,((gt Za4 L (hf (i:Int) (j:Int))).2.2.1,wIn W L))))))=some (c,wIn W L):=by rw [hv,hw];exact e1
  unfold Zaab
  refine br_tt (dec_t (show (i:Int)<(j:Int) by omega)) (Zaj i2 (Zaj i1 (Zba e1' ?_)))
  have e:∀(u v u' v':Int),u=u'→v=v'→(br (Bool.not (iL c 0)) (some (.inl (a,(m,(b,(mid,(n,(u,((j:Int),((p:Int),(L,W)))))))))))  (some (.inl (a,(m,(b,(mid,(n,((i:Int),(v,((p:Int),(L,W))))))))))):Option (TL Zab8.σs⊕Out Zab0))=br (Bool.not (iL c 0)) (some (.inl (a,(m,(b,(mid,(n,(u',((j:Int),((p:Int),(L,W)))))))))))  (some (.inl (a,(m,(b,(mid,(n,((i:Int),(v',((p:Int),(L,W))))))))))):=by rintro _ _ _ _ rfl rfl;rfl
  exact e _ _ _ _ (by show IntKind.wrap .i64 (hf (i:Int) (j:Int)+1)=_;rw [hw];exact i64n (by omega) (by omega)) hw
 obtain ⟨s,s1,s2,es,hs1,hs2⟩:=Zb58 (B:=fun d=>Zaab Zaan d.1 d.2.1 d.2.2.1 d.2.2.2.1 d.2.2.2.2.1 d.2.2.2.2.2.1 d.2.2.2.2.2.2.1 d.2.2.2.2.2.2.2.1 d.2.2.2.2.2.2.2.2.1 d.2.2.2.2.2.2.2.2.2.1 d.2.2.2.2.2.2.2.2.2.2.1 d.2.2.2.2.2.2.2.2.2.2.2.1 d.2.2.2.2.2.2.2.2.2.2.2.2.1 d.2.2.2.2.2.2.2.2.2.2.2.2.2.1 d.2.2.2.2.2.2.2.2.2.2.2.2.2.2.1 d.2.2.2.2.2.2.2.2.2.2.2.2.2.2.2.1 d.2.2.2.2.2.2.2.2.2.2.2.2.2.2.2.2.1 d.2.2.2.2.2.2.2.2.2.2.2.2.2.2.2.2.2.1 d.2.2.2.2.2.2.2.2.2.2.2.2.2.2.2.2.2.2.1 d.2.2.2.2.2.2.2.2.2.2.2.2.2.2.2.2.2.2.2.1)
  (fun i j:Nat=>(a,(m,(b,(mid,(n,((i:Int),((j:Int),((p:Int),(L,W)))))))))) (fun i:Nat=>(a,(m,(b,(mid,(n,((i:Int),(L,W)))))))) (fun c=>¬key (gt Za4 L ((p - c:Nat):Int))<key (gt Za4 L (c:Int))) (lo:=lo) (hi:=hi) h2 (by omega)
  (fun c d q1 q2 q3 hd=>by
   rw [gP d (by omega) (by omega),gQ (p - d) (by omega) (by omega)] at hd
   rw [gP c (by omega) (by omega),gQ (p - c) (by omega) (by omega)]
   have g1:=Zb2c hp (i:=c - X.length) (j:=d - X.length) (by omega) (by omega)
   have g2:=Zb2c hq (i:=p - d - X.length - P.length) (j:=p - c - X.length - P.length) (by omega) (by omega)
   omega)
  (fun i j q1 q2 q3 hp=>by
   obtain ⟨c,hc,e⟩:=step i j q1 q2 q3
   exact e.trans (br_t (not_t (dec_f (fun q=>hp (hc.1 q))))))
  (fun i j q1 q2 q3 hp=>by
   obtain ⟨c,hc,e⟩:=step i j q1 q2 q3
   exact e.trans (br_f (not_f (dec_t (hc.2 (Classical.not_not.1 hp))))))
  (fun i q1 q2=>by
   try dsimp only
   unfold Zaab
   exact br_ff (dec_f (show ¬(i:Int)<(i:Int) by omega)) rfl)
 exact ⟨s,s1,s2,es,hs1,fun c q1 q2=>Classical.not_not.1 (hs2 c q1 q2)⟩
theorem cut_is (hL:L=X++(P++(Q++Y))) (hp:Srt key P) (hq:Srt key Q) {lo hi mid s:Nat} (hmid:mid=(X.length+X.length+P.length+Q.length) / 2) (hP2:2≤P.length) (hQ2:2≤Q.length)
  (hlo:(mid<X.length+P.length∧lo=mid+(X.length+P.length) - (X.length+P.length+Q.length)∧hi=mid)∨(X.length+P.length≤mid∧lo=X.length∧hi=X.length+P.length)) (h1:lo≤s) (h2:s≤hi)
  (g1:∀c,lo≤c→c<s→¬key (gt Za4 L ((mid+(X.length+P.length) - 1 - c:Nat):Int))<key (gt Za4 L (c:Int))) (g2:∀c,s≤c→c<hi→key (gt Za4 L ((mid+(X.length+P.length) - 1 - c:Nat):Int))<key (gt Za4 L (c:Int))) :
  (∀x∈P.take (s - X.length),∀y∈Q.drop (mid - s),key x≤key y)∧∀x∈P.drop (s - X.length),∀y∈Q.take (mid - s),key y<key x:=by
 have gP:∀c,(h0:X.length≤c)→(h:c<X.length+P.length)→gt Za4 L (c:Int)=P[c - X.length]'(by omega):=fun c h1 h2=>at_P hL (t:=c - X.length) (by omega) (by omega)
 have gQ:∀c,(h0:X.length+P.length≤c)→(h:c<X.length+P.length+Q.length)→gt Za4 L (c:Int)=Q[c - X.length - P.length]'(by omega):=fun c h1 h2=>at_Q hL (t:=c - X.length - P.length) (by omega) (by omega)
 constructor
 ·intro x hx y hy
  obtain ⟨i,hi',rfl⟩:=List.mem_take_iff_getElem.1 hx
  obtain ⟨j,hj,rfl⟩:=List.mem_drop_iff_getElem.1 hy
  have hs:lo<s:=by omega
  have q:=g1 (s - 1) (by omega) (by omega)
  rw [gP (s - 1) (by omega) (by omega),gQ (mid+(X.length+P.length) - 1 - (s - 1)) (by omega) (by omega)] at q
  have r1:=Zb2c hp (i:=i) (j:=s - 1 - X.length) (by omega) (by omega)
  have r2:=Zb2c hq (i:=mid+(X.length+P.length) - 1 - (s - 1) - X.length - P.length) (j:=mid - s+j) (by omega) (by omega)
  omega
 ·intro x hx y hy
  obtain ⟨i,hi',rfl⟩:=List.mem_drop_iff_getElem.1 hx
  obtain ⟨j,hj,rfl⟩:=List.mem_take_iff_getElem.1 hy
  have hs:s<hi:=by omega
  have q:=g2 s (by omega) (by omega)
  rw [gP s (by omega) (by omega),gQ (mid+(X.length+P.length) - 1 - s) (by omega) (by omega)] at q
  have r1:=Zb2c hp (i:=s - X.length) (j:=s - X.length+i) (by omega) (by omega)
  have r2:=Zb2c hq (i:=j) (j:=mid+(X.length+P.length) - 1 - s - X.length - P.length) (by omega) (by omega)
  omega
set_option maxHeartbeats 4000000 in
theorem sym_step (C:CmpOk W key V) {k:Nat} (ih:SymIs W key V (Zaa2 k) k):SymIs W key V (Zaa2 (k+1)) (k+1):=by
 intro X P Q Y L A M B hp0 hq0 hk eA eM eB hL hl hp hq hP hQ
 subst eA;subst eM;subst eB
 have hlen:=len_L hL
 show ∃R,Zaat Zaan (Zaa2 k) Zace (Zajp (Zaa2 k)) (Zads (Zaa2 k)) (Zait (Zaa2 k)) (Zade (Zaa2 k)) (Zabo (Zaa2 k))
  (X.length:Int) ((X.length+P.length:Nat):Int) ((X.length+P.length+Q.length:Nat):Int) L W.1 W.2.1 W.2.2.1 W.2.2.2.1 W.2.2.2.2.1 W.2.2.2.2.2.1 W.2.2.2.2.2.2.1 W.2.2.2.2.2.2.2.1 W.2.2.2.2.2.2.2.2.1 W.2.2.2.2.2.2.2.2.2.1 W.2.2.2.2.2.2.2.2.2.2.1=some (X++(R++Y),W)∧_
 have wP:IntKind.wrap .i64 (((X.length+P.length:Nat):Int) - (X.length:Int))=(P.length:Int):=i64n (by omega) (by omega)
 have wQ:IntKind.wrap .i64 (((X.length+P.length+Q.length:Nat):Int) - ((X.length+P.length:Nat):Int))=(Q.length:Int):=i64n (by omega) (by omega)
 rcases Nat.lt_or_ge 1 P.length with a1 | a1
 ·rcases Nat.lt_or_ge 1 Q.length with a2 | a2
  ·-- two stretches of two at least
   obtain ⟨mid,hmid⟩:∃mid,mid=(X.length+X.length+P.length+Q.length) / 2:=⟨_,rfl⟩
   have hw:hf (X.length:Int) ((X.length+P.length+Q.length:Nat):Int)=(mid:Int):=by rw [Zb7l (by omega),hmid];congr 2;omega
   have w1:IntKind.wrap .i64 (hf (X.length:Int) ((X.length+P.length+Q.length:Nat):Int)+((X.length+P.length:Nat):Int))=((mid+(X.length+P.length):Nat):Int):=by rw [hw];exact i64n (by omega) (by omega)
   have w2:IntKind.wrap .i64 (IntKind.wrap .i64 (hf (X.length:Int) ((X.length+P.length+Q.length:Nat):Int)+((X.length+P.length:Nat):Int)) - 1)=((mid+(X.length+P.length) - 1:Nat):Int):=by rw [w1];exact i64n (by omega) (by omega)
   have tail:∀lo hi s:Nat,((mid<X.length+P.length∧lo=mid+(X.length+P.length) - (X.length+P.length+Q.length)∧hi=mid)∨(X.length+P.length≤mid∧lo=X.length∧hi=X.length+P.length))→lo≤s→s≤hi →
     (∀c,lo≤c→c<s→¬key (gt Za4 L ((mid+(X.length+P.length) - 1 - c:Nat):Int))<key (gt Za4 L (c:Int)))→(∀c,s≤c→c<hi→key (gt Za4 L ((mid+(X.length+P.length) - 1 - c:Nat):Int))<key (gt Za4 L (c:Int))) →
     ∃R,symT (Zaa2 k) (X.length:Int) ((X.length+P.length:Nat):Int) ((X.length+P.length+Q.length:Nat):Int) (mid:Int) (s:Int) (IntKind.wrap .i64 (((mid+(X.length+P.length):Nat):Int) - (s:Int))) (L,W)=some (X++(R++Y),W)∧Sst key (P++Q) R:=by
    intro lo hi s hlh s1 s2 g1 g2
    obtain ⟨c1,c2⟩:=cut_is hL hp hq hmid a1 a2 hlh s1 s2 g1 g2
    have tP:(P.take (s - X.length)).length=s - X.length:=by rw [List.length_take];omega
    have dP:(P.drop (s - X.length)).length=P.length - (s - X.length):=by rw [List.length_drop]
    have tQ:(Q.take (mid - s)).length=mid - s:=by rw [List.length_take];omega
    have dQ:(Q.drop (mid - s)).length=Q.length - (mid - s):=by rw [List.length_drop]
    have eP:P.take (s - X.length)++P.drop (s - X.length)=P:=List.take_append_drop _ _
    have eQ:Q.take (mid - s)++Q.drop (mid - s)=Q:=List.take_append_drop _ _
    obtain ⟨R,r1,r2⟩:=symT_is (W:=W) (V:=V) ih (X:=X) (P1:=P.take (s - X.length)) (P2:=P.drop (s - X.length)) (Q1:=Q.take (mid - s)) (Q2:=Q.drop (mid - s)) (Y:=Y) (L:=L) (a:=(X.length:Int)) (m:=((X.length+P.length:Nat):Int)) (b:=((X.length+P.length+Q.length:Nat):Int)) (mid:=(mid:Int)) (s:=(s:Int)) (e:=IntKind.wrap .i64 (((mid+(X.length+P.length):Nat):Int) - (s:Int)))
     rfl (by rw [tP];omega) (by rw [tP,dP];omega) (by rw [tP,tQ];omega) (by rw [tP,tQ,dP];exact i64n (by omega) (by omega)) (by rw [tP,tQ,dP,dQ];omega) (by
      rw [hL]
      conv=>lhs;rw [←eP,←eQ]
      simp only [List.append_assoc]) hl (by rw [tP,tQ];omega) (by rw [dP,dQ];omega) (by rw [eP];exact hp) (by rw [eQ];exact hq) (by rw [eP];exact hP) (by rw [eQ];exact hQ) c1 c2
    rw [eP,eQ] at r2
    exact ⟨R,r1,r2⟩
   unfold Zaat
   rcases Nat.lt_or_ge mid (X.length+P.length) with b1 | b1
   ·have w3:IntKind.wrap .i64 (IntKind.wrap .i64 (hf (X.length:Int) ((X.length+P.length+Q.length:Nat):Int)+((X.length+P.length:Nat):Int)) - ((X.length+P.length+Q.length:Nat):Int))=((mid+(X.length+P.length) - (X.length+P.length+Q.length):Nat):Int):=by rw [w1];exact i64n (by omega) (by omega)
    obtain ⟨s,s1,s2,es,g1,g2⟩:=L33_is C (Zaa2 k) hL hl hp hq hP hQ (X.length:Int) ((X.length+P.length:Nat):Int) ((X.length+P.length+Q.length:Nat):Int) (mid:Int) ((mid+(X.length+P.length):Nat):Int) (lo:=mid+(X.length+P.length) - (X.length+P.length+Q.length)) (hi:=mid) (p:=mid+(X.length+P.length) - 1) (by omega) (by omega) (by omega) (by omega) (by omega)
    obtain ⟨R,r1,r2⟩:=tail _ _ s (.inl ⟨b1,rfl,rfl⟩) s1 s2 g1 g2
    have es':Zabo (Zaa2 k) ((X.length:Int),(((X.length+P.length:Nat):Int),(((X.length+P.length+Q.length:Nat):Int),(hf (X.length:Int) ((X.length+P.length+Q.length:Nat):Int),(IntKind.wrap .i64 (hf (X.length:Int) ((X.length+P.length+Q.length:Nat):Int)+((X.length+P.length:Nat):Int)),(IntKind.wrap .i64 (IntKind.wrap .i64 (hf (X.length:Int) ((X.length+P.length+Q.length:Nat):Int)+((X.length+P.length:Nat):Int)) - ((X.length+P.length+Q.length:Nat):Int)),
     (hf (X.length:Int) ((X.length+P.length+Q.length:Nat):Int),(IntKind.wrap .i64 (IntKind.wrap .i64 (hf (X.length:Int) ((X.length+P.length+Q.length:Nat):Int)+((X.length+P.length:Nat):Int)) - 1),(L,W)))))))))=some ((X.length:Int),(((X.length+P.length:Nat):Int),(((X.length+P.length+Q.length:Nat):Int),((mid:Int),(((mid+(X.length+P.length):Nat):Int),((s:Int),(L,W))))))):=by rw [w2,w3,w1,hw];exact es
    refine ⟨R,br_ff (dec_f (by rw [wP];omega)) (br_ff (dec_f (by rw [wQ];omega)) (br_tt (dec_t (show hf (X.length:Int) ((X.length+P.length+Q.length:Nat):Int)<((X.length+P.length:Nat):Int) by rw [hw];omega)) (Zba es' ?_))),r2⟩
    exact r1
   ·obtain ⟨s,s1,s2,es,g1,g2⟩:=L33_is C (Zaa2 k) hL hl hp hq hP hQ (X.length:Int) ((X.length+P.length:Nat):Int) ((X.length+P.length+Q.length:Nat):Int) (mid:Int) ((mid+(X.length+P.length):Nat):Int) (lo:=X.length) (hi:=X.length+P.length) (p:=mid+(X.length+P.length) - 1) (by omega) (by omega) (by omega) (by omega) (by omega)
    obtain ⟨R,r1,r2⟩:=tail _ _ s (.inr ⟨b1,rfl,rfl⟩) s1 s2 g1 g2
    have es':Zabo (Zaa2 k) ((X.length:Int),(((X.length+P.length:Nat):Int),(((X.length+P.length+Q.length:Nat):Int),(hf (X.length:Int) ((X.length+P.length+Q.length:Nat):Int),(IntKind.wrap .i64 (hf (X.length:Int) ((X.length+P.length+Q.length:Nat):Int)+((X.length+P.length:Nat):Int)),((X.length:Int),
     (((X.length+P.length:Nat):Int),(IntKind.wrap .i64 (IntKind.wrap .i64 (hf (X.length:Int) ((X.length+P.length+Q.length:Nat):Int)+((X.length+P.length:Nat):Int)) - 1),(L,W)))))))))=some ((X.length:Int),(((X.length+P.length:Nat):Int),(((X.length+P.length+Q.length:Nat):Int),((mid:Int),(((mid+(X.length+P.length):Nat):Int),((s:Int),(L,W))))))):=by rw [w2,w1,hw];exact es
    refine ⟨R,br_ff (dec_f (by rw [wP];omega)) (br_ff (dec_f (by rw [wQ];omega)) (br_ff (dec_f (show ¬hf (X.length:Int) ((X.length+P.length+Q.length:Nat):Int)<((X.length+P.length:Nat):Int) by rw [hw];omega)) (Zba es' ?_))),r2⟩
    exact r1
  ·-- one behind
   obtain ⟨x,rfl⟩:∃x,Q=[x]:=List.length_eq_one_iff.1 (by omega)
   have hx:=hQ x (by simp)
   obtain ⟨j,j1,e15,g1,g2⟩:=L15_is C (Zaa2 k) hL hl hp hx hP
   have tP:(P.take j).length=j:=by rw [List.length_take];omega
   have dP:(P.drop j).length=P.length - j:=by rw [List.length_drop]
   have eP:P.take j++P.drop j=P:=List.take_append_drop _ _
   have e21:=L21_is (W:=W) (Y:=Y) (Zaa2 k) (X:=X) (x:=x) (P1:=P.take j) (P2:=P.drop j) (by omega)
   have eL:X++(P.take j++(P.drop j++(x :: Y)))=L:=by
    rw [hL,←List.append_assoc (P.take j),eP];rfl
   rw [eL,tP,dP] at e21
   have em:X.length+j+(P.length - j)=X.length+P.length:=by omega
   rw [em] at e21
   unfold Zaat
   refine ⟨(P.take j++[x])++P.drop j,br_ff (dec_f (by rw [wP];omega)) (br_tt (dec_t (by rw [wQ];rfl)) (Zba e15 (Zba e21 ?_))),?_⟩
   ·refine (congrArg (fun l:List NdT=>(some (l,W):SymO)) ?_)
    simp only [List.append_assoc,List.cons_append,List.nil_append]
   ·have sp:=Pl.Zax2.1 (by rw [eP];exact hp:Srt key (P.take j++P.drop j))
    have:=Zaxz (key:=key) (P1:=P.take j) (P2:=P.drop j) (Q1:=[x]) (Q2:=[]) (R1:=P.take j++[x]) (R2:=P.drop j) (by rw [eP];exact hp) (by rw [List.append_nil];exact hq) (fun _ _ y hy=>by cases hy) (fun y hy z hz=>by simp at hz;subst hz;exact g2 y hy)
     (Sst.refl (Pl.Zax2.2 ⟨sp.1,hq,fun y hy z hz=>by simp at hz;subst hz;exact g1 y hy⟩)) (by rw [List.append_nil];exact Sst.refl sp.2.1)
    rw [eP,List.append_nil] at this
    exact this
 ·-- one ahead
  obtain ⟨x,rfl⟩:∃x,P=[x]:=List.length_eq_one_iff.1 (by omega)
  have hx:=hP x (by simp)
  obtain ⟨j,j1,e3,g1,g2⟩:=L3_is C (Zaa2 k) hL hl hq hx hQ
  have tQ:(Q.take j).length=j:=by rw [List.length_take];omega
  have eQ:Q.take j++Q.drop j=Q:=List.take_append_drop _ _
  have e9:=L9_is (W:=W) (Zaa2 k) (X:=X) (x:=x) (Q1:=Q.take j) (Z:=Q.drop j++Y) (by omega)
  have eL:X++(x :: (Q.take j++(Q.drop j++Y)))=L:=by rw [hL,←List.append_assoc (Q.take j),eQ];rfl
  rw [eL,tQ] at e9
  unfold Zaat
  refine ⟨Q.take j++(x :: Q.drop j),br_tt (dec_t (by rw [wP];rfl)) (Zba e3 (Zba e9 ?_)),?_⟩
  ·refine (congrArg (fun l:List NdT=>(some (l,W):SymO)) ?_)
   simp only [List.append_assoc,List.cons_append]
  ·have sq:=Pl.Zax2.1 (by rw [eQ];exact hq:Srt key (Q.take j++Q.drop j))
   have:=Zaxz (key:=key) (P1:=[]) (P2:=[x]) (Q1:=Q.take j) (Q2:=Q.drop j) (R1:=Q.take j) (R2:=x :: Q.drop j) hp (by rw [eQ];exact hq) (fun y hy=>by cases hy) (fun y hy z hz=>by simp at hy;subst hy;exact g1 z hz)
    (Sst.refl sq.1) (Sst.refl (Pl.Zb79.2 ⟨g2,sq.2.1⟩))
   rw [eQ] at this
   exact this
theorem sym_is (C:CmpOk W key V):∀k,SymIs W key V (Zaa2 k) k
 | 0=>by
  intro X P Q Y L A M B h1 h2 h3
  omega
 | k+1=>sym_step C (sym_is C k)
theorem Zb93 (C:CmpOk W key V):SymIs W key V Zadt 1000000:=by
 intro X P Q Y L A M B h1 h2 h3
 exact sym_is C NN X P Q Y L A M B h1 h2 (Nat.le_trans h3 (Nat.le_of_lt (Ze8 (by omega))))
end
end Go.Proofs.YtnocaehijdmkkaaGreat.V
end
section
namespace Go.Proofs.YtnocaehijdmkkaaGreat.V
open Go Go.RowKit
open Pl (Sst Srt)
abbrev Blk2:=List (List NdT×List NdT)
def f0 (bl:Blk2):List NdT:=bl.flatMap (·.1)
def f1 (bl:Blk2):List NdT:=bl.flatMap (·.2)
def FullL (key:NdT→Int) (bs:Nat) (bl:Blk2):Prop:=∀p∈bl,p.1.length=bs∧Sst key p.1 p.2
theorem f0_app (a b:Blk2):f0 (a++b)=f0 a++f0 b:=by unfold f0;simp
theorem f1_app (a b:Blk2):f1 (a++b)=f1 a++f1 b:=by unfold f1;simp
theorem Zb56 (p:List NdT×List NdT) (b:Blk2):f0 (p :: b)=p.1++f0 b:=rfl
theorem Zb8u (p:List NdT×List NdT) (b:Blk2):f1 (p :: b)=p.2++f1 b:=rfl
theorem Zb8c (p:List NdT×List NdT):f1 [p]=p.2:=by simp [f1]
theorem Zb8d (p:List NdT×List NdT):f0 [p]=p.1:=by simp [f0]
section
variable {W:WkT} {key:NdT→Int} {V:NdT→Prop}
theorem FullL.len0 {bs:Nat}:∀{bl:Blk2},FullL key bs bl→(f0 bl).length=bl.length*bs
 | [],_=>by simp [f0]
 | p :: bl,h=>by
  rw [Zb56,List.length_append,(h p (by simp)).1,FullL.len0 (fun q hq=>h q (by simp [hq])),List.length_cons,Nat.add_mul]
  omega
theorem FullL.len1 {bs:Nat}:∀{bl:Blk2},FullL key bs bl→(f1 bl).length=bl.length*bs
 | [],_=>by simp [f1]
 | p :: bl,h=>by
  rw [Zb8u,List.length_append,(h p (by simp)).2.len,(h p (by simp)).1,FullL.len1 (fun q hq=>h q (by simp [hq])),List.length_cons,Nat.add_mul]
  omega
theorem FullL.app {bs:Nat} {a b:Blk2} (h:FullL key bs a) (g:FullL key bs b):FullL key bs (a++b):=by
 intro p hp
 rcases List.mem_append.1 hp with q | q
 ·exact h p q
 ·exact g p q
theorem FullL.one {bs:Nat} {A A':List NdT} (h:A.length=bs) (g:Sst key A A'):FullL key bs [(A,A')]:=by
 intro p hp
 simp at hp;subst hp
 exact ⟨h,g⟩
theorem Zb96 {A A' B B' R:List NdT} (ha:Sst key A A') (hb:Sst key B B') (h:Sst key (A'++B') R):Sst key (A++B) R:=
 Sst.of_fk (by simp only [List.length_append,ha.len,hb.len]) (fun k=>by rw [Pl.Zaze,Pl.Zaze,ha.flt,hb.flt]) h
theorem stab_L2 (C:CmpOk W key V) {S:List NdT} (hl:S.length≤400000) (hV:∀x∈S,V x) :
  ∃o,Zaky ((S.length:Int),((20:Int),((0:Int),((20:Int),(S,W)))))=some o∧∃(bl:Blk2) (R:List NdT),o=((S.length:Int),((20:Int),(((f1 bl).length:Int),(f1 bl++R,W))))∧FullL key 20 bl∧S=f0 bl++R∧R.length<20:=by
 unfold Zaky;delta u16
 refine Za80 (fun d=>∃(bl:Blk2) (R:List NdT),d=((S.length:Int),((20:Int),(((f1 bl).length:Int),((((f1 bl).length+20:Nat):Int),(f1 bl++R,W)))))∧FullL key 20 bl∧S=f0 bl++R)
  (fun o=>∃(bl:Blk2) (R:List NdT),o=((S.length:Int),((20:Int),(((f1 bl).length:Int),(f1 bl++R,W))))∧FullL key 20 bl∧S=f0 bl++R∧R.length<20) (fun d=>S.length - d.2.2.1.toNat) ?_ NN _ ⟨[],S,rfl,(fun p hp=>by cases hp),rfl⟩ (Ze8 (by omega))
 rintro d ⟨bl,R,rfl,hF,hS⟩
 have l0:=hF.len0
 have l1:=hF.len1
 have hn:S.length=(f0 bl).length+R.length:=by rw [hS,List.length_append]
 try dsimp only
 unfold Zaeq
 rcases Nat.lt_or_ge R.length 20 with q | q
 ·left
  exact ⟨_,br_ff (dec_f (by omega)) rfl,bl,R,rfl,hF,hS,q⟩
 ·right
  have eR:R.take 20++R.drop 20=R:=List.take_append_drop _ _
  have tR:(R.take 20).length=20:=by rw [List.length_take];omega
  obtain ⟨A',e1,hA⟩:=ins_is C (X:=f1 bl) (S:=R.take 20) (Y:=R.drop 20) (L:=f1 bl++R) (A:=((f1 bl).length:Int)) (B:=(((f1 bl).length+20:Nat):Int)) rfl (by rw [tR]) (by rw [eR]) (by rw [List.length_append];omega) (fun y hy=>hV y (by rw [hS];simp [List.mem_of_mem_take hy]))
  have lA:A'.length=20:=hA.len.trans tR
  have ef1:f1 (bl++[(R.take 20,A')])=f1 bl++A':=by rw [f1_app,Zb8c]
  refine ⟨((S.length:Int),((20:Int),(((f1 (bl++[(R.take 20,A')])).length:Int),((((f1 (bl++[(R.take 20,A')])).length+20:Nat):Int),(f1 (bl++[(R.take 20,A')])++R.drop 20,W))))),?_,⟨_,R.drop 20,rfl,hF.app (FullL.one tR hA),?_⟩,?_⟩
  ·refine br_tt (dec_t (by omega)) (Zba e1 ?_)
   have e:∀(u v u' v':Int) (A B:List NdT),u=u'→v=v'→A=B→(some (.inl ((S.length:Int),((20:Int),(u,(v,(A,W)))))):Option (TL Zac3.σs⊕Out Zabt))=some (.inl ((S.length:Int),((20:Int),(u',(v',(B,W)))))):=by rintro _ _ _ _ _ _ rfl rfl rfl;rfl
   refine e _ _ _ _ _ _ ?_ ?_ ?_
   ·rw [ef1,List.length_append,lA]
   ·rw [ef1,List.length_append,lA]
    exact i64n (by omega) (by omega)
   ·rw [ef1,List.append_assoc]
  ·rw [f0_app,Zb8d,List.append_assoc,eR];exact hS
  ·show S.length - (((f1 (bl++[(R.take 20,A')])).length:Int)).toNat<S.length - (((f1 bl).length:Int)).toNat
   rw [ef1,List.length_append,lA]
   omega
theorem stab_L9 (C:CmpOk W key V) {S:List NdT} (hl:S.length≤400000) (hV:∀x∈S,V x) {bs:Nat} (hbs:20≤bs) (hb2:bs≤400000) {bl:Blk2} {R0 R:List NdT} (hF:FullL key bs bl) (hR:Sst key R0 R) (hRl:R0.length<bs) (hS:S=f0 bl++R0) :
  ∃o,Zacc ((S.length:Int),((bs:Int),((0:Int),(((2*bs:Nat):Int),(f1 bl++R,W)))))=some o∧∃(ul bl:Blk2),o=((S.length:Int),((bs:Int),(((f1 ul).length:Int),(f1 ul++(f1 bl++R),W))))∧FullL key (2*bs) ul∧FullL key bs bl∧S=f0 ul++(f0 bl++R0)∧(f1 bl).length+R.length<2*bs:=by
 unfold Zacc;delta u16
 refine Za80 (fun d=>∃(ul bl:Blk2),d=((S.length:Int),((bs:Int),(((f1 ul).length:Int),((((f1 ul).length+2*bs:Nat):Int),(f1 ul++(f1 bl++R),W)))))∧FullL key (2*bs) ul∧FullL key bs bl∧S=f0 ul++(f0 bl++R0))
  (fun o=>∃(ul bl:Blk2),o=((S.length:Int),((bs:Int),(((f1 ul).length:Int),(f1 ul++(f1 bl++R),W))))∧FullL key (2*bs) ul∧FullL key bs bl∧S=f0 ul++(f0 bl++R0)∧(f1 bl).length+R.length<2*bs)
  (fun d=>S.length - d.2.2.1.toNat) ?_ NN _ ⟨[],bl,by
   show _=((S.length:Int),((bs:Int),(((0:Nat):Int),(((0+2*bs:Nat):Int),([]++(f1 bl++R),W)))))
   rw [Nat.zero_add];rfl,(fun p hp=>by cases hp),hF,hS⟩ (Ze8 (by omega))
 rintro d ⟨ul,bl,rfl,hU,hF,hS⟩
 have u0:=hU.len0
 have u1:=hU.len1
 have l0:=hF.len0
 have l1:=hF.len1
 have lR:=hR.len
 have hn:S.length=(f0 ul).length+((f0 bl).length+R0.length):=by rw [hS,List.length_append,List.length_append]
 try dsimp only
 unfold Zaeo
 rcases Nat.lt_or_ge ((f1 bl).length+R.length) (2*bs) with q | q
 ·left
  exact ⟨_,br_ff (dec_f (by omega)) rfl,ul,bl,rfl,hU,hF,hS,q⟩
 ·right
  match bl,hF,hS,l0,l1,hn,q with
  | [],hF,hS,l0,l1,hn,q=>simp [f1] at q;omega
  | [p],hF,hS,l0,l1,hn,q=>
   simp only [List.length_cons,List.length_nil] at l1
   omega
  | p :: p2 :: bl,hF,hS,l0,l1,hn,q=>
   obtain ⟨hp1,hp2⟩:=hF p (by simp)
   obtain ⟨hq1,hq2⟩:=hF p2 (by simp)
   have lp:=hp2.len
   have lq:=hq2.len
   have hF':FullL key bs bl:=fun x hx=>hF x (by simp [hx])
   have l0':=hF'.len0
   have l1':=hF'.len1
   have eL:f1 ul++(f1 (p :: p2 :: bl)++R)=f1 ul++(p.2++(p2.2++(f1 bl++R))):=by rw [Zb8u,Zb8u];simp only [List.append_assoc]
   have lL:(f1 ul++(f1 (p :: p2 :: bl)++R)).length≤400000:=by simp only [List.length_append];omega
   obtain ⟨R1,e1,hR1⟩:=Zb93 C (f1 ul) p.2 p2.2 (f1 bl++R) (f1 ul++(f1 (p :: p2 :: bl)++R)) ((f1 ul).length:Int) (IntKind.wrap .i64 (((f1 ul).length:Int)+(bs:Int))) (((f1 ul).length+2*bs:Nat):Int) (by omega) (by omega) (by omega) rfl (i64n (by omega) (by omega)) (by omega) eL lL hp2.srt hq2.srt
    (fun x hx=>hV x (by rw [hS,Zb56];simp [hp2.mem.1 hx])) (fun x hx=>hV x (by rw [hS,Zb56,Zb56];simp [hq2.mem.1 hx]))
   have lR1:R1.length=2*bs:=by rw [hR1.len,List.length_append];omega
   have hSS:Sst key (p.1++p2.1) R1:=Zb96 hp2 hq2 hR1
   have ef1:f1 (ul++[(p.1++p2.1,R1)])=f1 ul++R1:=by rw [f1_app,Zb8c]
   refine ⟨((S.length:Int),((bs:Int),(((f1 (ul++[(p.1++p2.1,R1)])).length:Int),((((f1 (ul++[(p.1++p2.1,R1)])).length+2*bs:Nat):Int),(f1 (ul++[(p.1++p2.1,R1)])++(f1 bl++R),W))))),?_,⟨_,bl,rfl,hU.app (FullL.one (by rw [List.length_append];omega) hSS),hF',?_⟩,?_⟩
   ·refine br_tt (dec_t (by simp only [List.length_cons] at *;omega)) (Zba e1 ?_)
    have e:∀(u v u' v':Int) (A B:List NdT),u=u'→v=v'→A=B→(some (.inl ((S.length:Int),((bs:Int),(u,(v,(A,W)))))):Option (TL Zac1.σs⊕Out Zabr))=some (.inl ((S.length:Int),((bs:Int),(u',(v',(B,W)))))):=by rintro _ _ _ _ _ _ rfl rfl rfl;rfl
    refine e _ _ _ _ _ _ ?_ ?_ ?_
    ·rw [ef1,List.length_append,lR1]
    ·rw [ef1,List.length_append,lR1]
     have w2:IntKind.wrap .i64 ((2:Int)*(bs:Int))=((2*bs:Nat):Int):=i64n (by omega) (by omega)
     have:IntKind.wrap .i64 ((((f1 ul).length+2*bs:Nat):Int)+IntKind.wrap .i64 ((2:Int)*(bs:Int)))=(((f1 ul).length+2*bs+2*bs:Nat):Int):=by rw [w2];exact i64n (by omega) (by omega)
     exact this
    ·rw [ef1,List.append_assoc]
   ·rw [f0_app,Zb8d,hS,Zb56,Zb56];simp only [List.append_assoc]
   ·show S.length - (((f1 (ul++[(p.1++p2.1,R1)])).length:Int)).toNat<S.length - (((f1 ul).length:Int)).toNat
    rw [ef1,List.length_append,lR1]
    simp only [List.length_cons] at *
    omega
end
section
variable {W:WkT} {key:NdT→Int} {V:NdT→Prop}
theorem stab_L7 (C:CmpOk W key V) {S:List NdT} (hl:S.length≤100000) (hV:∀x∈S,V x) {bl:Blk2} {R0 R:List NdT} (hF:FullL key 20 bl) (hR:Sst key R0 R) (hRl:R0.length<20) (hS:S=f0 bl++R0) :
  ∃o,Zakx ((S.length:Int),((20:Int),(f1 bl++R,W)))=some o∧∃S',o=(S',W)∧Sst key S S':=by
 unfold Zakx;delta u14
 refine Za80 (fun d=>∃(bs:Nat) (bl:Blk2) (R0 R:List NdT),d=((S.length:Int),((bs:Int),(f1 bl++R,W)))∧20≤bs∧bs≤400000∧FullL key bs bl∧Sst key R0 R∧R0.length<bs∧S=f0 bl++R0)
  (fun o=>∃S',o=(S',W)∧Sst key S S') (fun d=>S.length - d.2.1.toNat) ?_ NN _ ⟨20,bl,R0,R,rfl,Nat.le_refl _,by decide,hF,hR,hRl,hS⟩ (Ze8 (by omega))
 rintro d ⟨bs,bl,R0,R,rfl,hbs,hb2,hF,hR,hRl,hS⟩
 have l0:=hF.len0
 have l1:=hF.len1
 have lR:=hR.len
 have hn:S.length=(f0 bl).length+R0.length:=by rw [hS,List.length_append]
 try dsimp only
 unfold Zaep
 rcases Nat.lt_or_ge bs S.length with q | q
 ·right
  obtain ⟨o,e9,ul,bl',rfl,hU,hF',hS',hlt⟩:=stab_L9 C (by omega) hV hbs hb2 hF hR hRl hS
  have u0:=hU.len0
  have u1:=hU.len1
  have l0':=hF'.len0
  have l1':=hF'.len1
  have hn':S.length=(f0 ul).length+((f0 bl').length+R0.length):=by rw [hS',List.length_append,List.length_append]
  have w2:IntKind.wrap .i64 ((2:Int)*(bs:Int))=((2*bs:Nat):Int):=i64n (by omega) (by omega)
  have w3:IntKind.wrap .i64 ((bs:Int)*(2:Int))=((2*bs:Nat):Int):=i64n (by omega) (by omega)
  have wm:IntKind.wrap .i64 (((f1 ul).length:Int)+(bs:Int))=(((f1 ul).length+bs:Nat):Int):=i64n (by omega) (by omega)
  have e9':Zacc ((S.length:Int),((bs:Int),((0:Int),(IntKind.wrap .i64 ((2:Int)*(bs:Int)),(f1 bl++R,W)))))=some ((S.length:Int),((bs:Int),(((f1 ul).length:Int),(f1 ul++(f1 bl'++R),W)))):=by rw [w2];exact e9
  have e:∀(u u':Int) (A B:List NdT),u=u'→A=B→(some (.inl ((S.length:Int),(u,(A,W)))):Option (TL Zac2.σs⊕Out Zabs))=some (.inl ((S.length:Int),(u',(B,W)))):=by rintro _ _ _ _ rfl rfl;rfl
  rcases Nat.lt_or_ge bs ((f1 bl').length+R.length) with g | g
  ·match bl',hF',hS',l0',l1',hn',hlt,g,e9' with
   | [],hF',hS',l0',l1',hn',hlt,g,e9'=>simp [f1] at g;omega
   | p :: p2 :: bl',hF',hS',l0',l1',hn',hlt,g,e9'=>
    simp only [List.length_cons,Nat.add_mul] at l1'
    omega
   | [p],hF',hS',l0',l1',hn',hlt,g,e9'=>
    obtain ⟨hp1,hp2⟩:=hF' p (by simp)
    have lp:=hp2.len
    rw [Zb8c] at g l1' hlt e9'
    rw [Zb8d] at l0' hS' hn'
    simp only [List.length_cons,List.length_nil] at l1' l0'
    have lL:(f1 ul++(p.2++R)).length≤400000:=by simp only [List.length_append];omega
    obtain ⟨R1,e1,hR1⟩:=Zb93 C (f1 ul) p.2 R [] (f1 ul++(p.2++R)) ((f1 ul).length:Int) (IntKind.wrap .i64 (((f1 ul).length:Int)+(bs:Int))) (S.length:Int) (by omega) (by omega) (by omega) rfl (by rw [wm];congr 2;omega) (by congr 1;omega) (by rw [List.append_nil]) lL hp2.srt hR.srt
     (fun x hx=>hV x (by rw [hS'];simp [hp2.mem.1 hx])) (fun x hx=>hV x (by rw [hS'];simp [hR.mem.1 hx]))
    refine ⟨((S.length:Int),(((2*bs:Nat):Int),(f1 ul++R1,W))),br_tt (dec_t (by omega)) (Zba e9' (br_tt (dec_t (show IntKind.wrap .i64 (((f1 ul).length:Int)+(bs:Int))<(S.length:Int) by rw [wm];omega)) (Zba e1 (e _ _ _ _ w3 (by rw [List.append_nil]))))),⟨2*bs,ul,p.1++R0,R1,rfl,by omega,by omega,hU,Zb96 hp2 hR hR1,by simp only [List.length_append];omega,hS'⟩,?_⟩
    show S.length - (((2*bs:Nat):Int)).toNat<S.length - ((bs:Int)).toNat
    omega
  ·-- one block at most,and nothing behind it
   have hrest:Sst key (f0 bl'++R0) (f1 bl'++R):=by
    match bl',hF',l1',g with
    | [],hF',l1',g=>exact hR
    | [p],hF',l1',g=>
     obtain ⟨hp1,hp2⟩:=hF' p (by simp)
     rw [Zb8c] at g l1' ⊢
     rw [Zb8d]
     simp only [List.length_cons,List.length_nil] at l1'
     have h0:R0=[]:=List.eq_nil_of_length_eq_zero (by omega)
     have h1:R=[]:=List.eq_nil_of_length_eq_zero (by omega)
     rw [h0,h1,List.append_nil,List.append_nil]
     exact hp2
    | p :: p2 :: bl',hF',l1',g=>
     simp only [List.length_cons,Nat.add_mul] at l1'
     omega
   refine ⟨((S.length:Int),(((2*bs:Nat):Int),(f1 ul++(f1 bl'++R),W))),br_tt (dec_t (by omega)) (Zba e9' (br_ff (dec_f (show ¬IntKind.wrap .i64 (((f1 ul).length:Int)+(bs:Int))<(S.length:Int) by rw [wm];omega)) (e _ _ _ _ w3 rfl))),⟨2*bs,ul,f0 bl'++R0,f1 bl'++R,rfl,by omega,by omega,hU,hrest,by simp only [List.length_append];omega,hS'⟩,?_⟩
   show S.length - (((2*bs:Nat):Int)).toNat<S.length - ((bs:Int)).toNat
   omega
 ·left
  refine ⟨(f1 bl++R,W),br_ff (dec_f (by omega)) rfl,_,rfl,?_⟩
  rw [hS]
  match bl,hF,l0,l1,hn with
  | [],hF,l0,l1,hn=>exact hR
  | [p],hF,l0,l1,hn=>
   obtain ⟨hp1,hp2⟩:=hF p (by simp)
   rw [Zb8d] at hn l0 ⊢
   rw [Zb8c]
   simp only [List.length_cons,List.length_nil] at l0
   have h0:R0=[]:=List.eq_nil_of_length_eq_zero (by omega)
   have h1:R=[]:=List.eq_nil_of_length_eq_zero (by omega)
   rw [h0,h1,List.append_nil,List.append_nil]
   exact hp2
  | p :: p2 :: bl,hF,l0,l1,hn=>
   simp only [List.length_cons,Nat.add_mul] at l0
   omega
theorem Zba5 (C:CmpOk W key V) {S:List NdT} (hl:S.length≤100000) (hV:∀x∈S,V x):∃S',Zalq (S,W)=some (S',W)∧Sst key S S':=by
 obtain ⟨o,e2,bl,R,rfl,hF,hS,hR⟩:=stab_L2 C (by omega) hV
 have l0:=hF.len0
 have l1:=hF.len1
 have hn:S.length=(f0 bl).length+R.length:=by
  have:=congrArg List.length hS
  rwa [List.length_append] at this
 obtain ⟨R',e3,hR'⟩:=ins_is C (X:=f1 bl) (S:=R) (Y:=[]) (L:=f1 bl++R) (A:=((f1 bl).length:Int)) (B:=(S.length:Int)) rfl (by congr 1;omega) (by rw [List.append_nil]) (by rw [List.length_append];omega) (fun y hy=>hV y (by rw [hS];simp [hy]))
 obtain ⟨o,e7,S',rfl,hS'⟩:=stab_L7 C hl hV hF hR' (by omega) hS
 rw [List.append_nil] at e3
 have e:Zatm ((S.length:Int),(S,W))=some (S',W):=Zba e2 (Zba e3 (Zba e7 rfl))
 exact ⟨S',Zba e rfl,hS'⟩
end
end Go.Proofs.YtnocaehijdmkkaaGreat.V
end
section
namespace Go.Proofs.YtnocaehijdmkkaaGreat.V
open Go Go.RowKit
open Go.Proofs.YtnocaehijdmkkaaGreat.Pl
theorem Zb7n {R:Type} {a b:Bool} {y z:Option R} (ha:a=true) (h:chk b y=z):chk (both a b) y=z:=by subst ha;exact h
theorem cmp_int (a b:Int):∃c:Int,Zasv (a,(b,()))=some (c,())∧(c<0↔a<b):=by
 have nn:∀x:Int,Zazg (x,())=some (false,()):=fun x=>by
  show Zax8 x=_
  unfold Zax8
  have e:∀b:Bool,b=true→(some (Bool.not b,()):Option (TL Zard))=some (false,()):=by rintro _ rfl;rfl
  exact e _ (dec_t rfl)
 have un:∀c:Option (TL Zan4),Zale Zazg a b=c→Zasv (a,(b,()))=c:=fun c h=>h
 rcases Int.lt_trichotomy a b with h | h | h
 ·refine ⟨-1,un _ ?_,by omega⟩
  unfold Zale
  exact Zba (nn a) (Zba (nn b) (br_ff rfl (br_ff rfl (br_tt (dec_t h) rfl))))
 ·refine ⟨0,un _ ?_,by omega⟩
  unfold Zale
  exact Zba (nn a) (Zba (nn b) (br_ff rfl (br_ff rfl (br_ff (dec_f (by omega)) (br_ff (dec_f (by omega)) rfl)))))
 ·refine ⟨1,un _ ?_,by omega⟩
  unfold Zale
  exact Zba (nn a) (Zba (nn b) (br_ff rfl (br_ff rfl (br_ff (dec_f (by omega)) (br_tt (dec_t h) rfl)))))
def wR (n:NetD) (of m lv:List Int):WkT:=
 (n.vars,(n.inputs,(n.latches.map latT,(n.outputs,(n.bads,(n.constraints,(n.mems.map memT,(n.ands.map andT,(of,(m,(lv,())))))))))))
def nI (n:NetD) (x:NdT):NodeI:=
 match x.1 with
 | true=>(match n.mems[x.2.1.toNat]? with | some M=>(match M.reads[x.2.2.1.toNat]? with | some r=>readI M.word r | none=>⟨[],[]⟩) | none=>⟨[],[]⟩)
 | false=>(match n.ands[x.2.2.1.toNat]? with | some a=>andI a | none=>⟨[],[]⟩)
theorem nI_is {n:NetD} {y:NodeD} {i:NodeI} (h:y.is n i):nI n (nodeT y)=i:=by
 rcases h with ⟨h,a,ha,rfl⟩ | ⟨h,M,r,hM,hr,rfl⟩
 ·unfold nI nodeT;simp only [h,Int.toNat_natCast,ha]
 ·unfold nI nodeT;simp only [h,Int.toNat_natCast,hM,hr]
def lk (lv:List Int) (i:NodeI):Int:=lat lv (i.to.headD 0).toNat
theorem toL_is {n:NetD} {of m lv:List Int} {L:List NdT} {x:NodeD} {i:NodeI} (h:x.is n i) (ft:Fit n) (hw:∀M∈n.mems,0≤M.word) :
  Zaf (x.rd,((x.mem:Int),((x.pos:Int),wIn (wR n of m lv) L)))=some (i.to,wIn (wR n of m lv) L):=by
 show Zir Zmw x.rd (x.mem:Int) (x.pos:Int) n.vars n.inputs (n.latches.map latT) n.outputs n.bads n.constraints (n.mems.map memT) (n.ands.map andT) of L m lv=_
 unfold Zir
 rcases h with ⟨h,a,ha,rfl⟩ | ⟨h,M,r,hM,hr,rfl⟩
 ·have ha':(n.ands.map andT)[x.pos]?=some (andT a):=by rw [List.getElem?_map,ha];rfl
  have hl:=Zhb ha'
  rw [h,br_f rfl,chk_t (Zar ⟨by omega,by omega⟩),gt_at ha']
  rfl
 ·have hM':(n.mems.map memT)[x.mem]?=some (memT M):=by rw [List.getElem?_map,hM];rfl
  have hl:=Zhb hM'
  have hmem:=List.mem_of_getElem? hM
  have hf:=ft.mems.2 M hmem
  have hr2:=hf.rds r (List.mem_of_getElem? hr)
  rw [h,br_t rfl,chk_t (Zar ⟨by omega,by omega⟩),gt_at hM']
  exact (bnd_s (Za3i M x.pos r hr ⟨hw M hmem,hf.word.2⟩ ⟨hr2.2.1,hr2.2.2.1⟩)).trans rfl
theorem cmpOk {n:NetD} {V:Nat} (hs:Snd n V) (ft:Fit n) {of m lv:List Int} (hl:lv.length=V+1) (key:NdT→Int) (hk:∀x∈n6 n,key (nodeT x.1)=lk lv x.2) (his:∀x∈n6 n,x.1.is n x.2) :
  CmpOk (wR n of m lv) key (fun x=>∃y∈n6 n,x=nodeT y.1):=by
 refine ⟨fun L x y hx hy=>?_⟩
 obtain ⟨x,hx,rfl⟩:=hx
 obtain ⟨y,hy,rfl⟩:=hy
 have hw:∀M∈n.mems,0≤M.word:=fun M hM=>by have:=(hs.mems M hM).2.2.1;omega
 have hd:∀z∈n6 n,∃(v:Nat) (t:List Int),z.2.to=(v:Int) :: t∧v≤V∧key (nodeT z.1)=lat lv v:=by
  intro z hz
  have hm:z.2∈Zj5 n:=by rw [←Zb4n];exact List.mem_map_of_mem hz
  have h1:=hs.toNe hm
  have h2:=hk z hz
  unfold lk at h2
  match e:z.2.to with
  | []=>exact absurd e h1
  | v :: t=>
   have h3:=hs.toRng hm (v:=v) (by rw [e];simp)
   obtain ⟨u,hu⟩:=Int.eq_ofNat_of_zero_le (show 0≤v by omega)
   rw [e,List.headD_cons,hu,Int.toNat_natCast] at h2
   exact ⟨u,t,by rw [hu],by omega,h2⟩
 obtain ⟨vx,tx,ex,bx,kx⟩:=hd x hx
 obtain ⟨vy,ty,ey,bY,ky⟩:=hd y hy
 have f1:=toL_is (of:=of) (m:=m) (lv:=lv) (L:=L) (his x hx) ft hw
 have f2:=toL_is (of:=of) (m:=m) (lv:=lv) (L:=L) (his y hy) ft hw
 obtain ⟨c,hc,hiff⟩:=cmp_int (lat lv vx) (lat lv vy)
 refine ⟨c,?_,by rw [kx,ky];exact hiff⟩
 have g0:gt (.int .i64) x.2.to (0:Int)=(vx:Int):=gt_at (σ:=.int .i64) (i:=0) (by rw [ex];rfl)
 have g1:gt (.int .i64) y.2.to (0:Int)=(vy:Int):=gt_at (σ:=.int .i64) (i:=0) (by rw [ey];rfl)
 have gx:gt (.int .i64) lv (vx:Int)=lat lv vx:=gt_at (σ:=.int .i64) (Za3p (by omega))
 have gy:gt (.int .i64) lv (vy:Int)=lat lv vy:=gt_at (σ:=.int .i64) (Za3p (by omega))
 have ix:inb (vx:Int) (List.length lv)=true:=Zar ⟨by omega,by omega⟩
 have iy:inb (vy:Int) (List.length lv)=true:=Zar ⟨by omega,by omega⟩
 have nx:inb (0:Int) (List.length x.2.to)=true:=Zar ⟨by omega,by rw [ex];simp⟩
 have ny:inb (0:Int) (List.length y.2.to)=true:=Zar ⟨by omega,by rw [ey];simp⟩
 have jx:inb (gt (.int .i64) x.2.to (0:Int)) (List.length lv)=true:=by rw [g0];exact ix
 have jy:inb (gt (.int .i64) y.2.to (0:Int)) (List.length lv)=true:=by rw [g1];exact iy
 have hc':Zasv ((gt (.int .i64) lv (gt (.int .i64) x.2.to (0:Int))),((gt (.int .i64) lv (gt (.int .i64) y.2.to (0:Int))),()))=some (c,()):=by rw [g0,g1,gx,gy];exact hc
 refine Zba f1 (Zaj nx (Zaj jx (Zb7n (dec_t rfl) (Zb7n (dec_t rfl) (Zb7n (dec_t rfl) (Zaj rfl (Zba f2 (Zaj ny (Zaj jy (Zaj nx (Zaj (dec_t rfl) (Zaj (dec_t rfl) (Zaj jx (Zaj (dec_t rfl) (Zaj (dec_t rfl) (Zba hc' rfl))))))))))))))))
theorem n6_fst (n:NetD):(n6 n).map (fun x:NodeD×NodeI=>x.1)=Zha n:=by
 unfold n6 A6 M6 Zha
 rw [List.map_append,List.take_length,List.take_length]
 congr 1
 ·exact List.map_fst_zip (by rw [Zmx,List.length_map];omega)
 ·exact List.map_fst_zip (by rw [Zlt];omega)
theorem n6_is (n:NetD) {x:NodeD×NodeI} (h:x∈n6 n):x.1.is n x.2:=by
 obtain ⟨i,hi⟩:=List.getElem?_of_mem h
 have h1:(Zha n)[i]?=some x.1:=by rw [←n6_fst,List.getElem?_map,hi];rfl
 have h2:(Zj5 n)[i]?=some x.2:=by rw [←Zb4n,List.getElem?_map,hi];rfl
 obtain ⟨y,e,hy⟩:=Za4z n h1
 rw [h2] at e
 injection e with e
 rw [e];exact hy
def lvl (n:NetD) (V:Nat):List Int:=Zid (ndL n) ((n6 n).length+1) (out0 (ndL n) V)
def ordF (n:NetD) (V:Nat):List (NodeD×NodeI):=(List.range (n6 n).length).flatMap fun (i:Nat)=>(n6 n).filter fun x=>decide (lk (lvl n V) x.2=(i:Int)+1)
theorem lvl_at {n:NetD} {V:Nat} (hs:Snd n V) {v k:Nat} (hv:v≤V) (hl:Lev (ndL n) v k):lat (lvl n V) v=(k:Int):=by
 unfold lvl
 have:(n6 n).length=(ndL n).length:=by rw [←n6_nd,List.length_map]
 rw [this]
 exact Zb7a hs.apart hs.hin hv hl
theorem Zbas {n:NetD} {V:Nat} (hs:Snd n V) {x:NodeD×NodeI} (h:x∈n6 n):(x.2.to.headD 0).toNat≤V∧(x.2.to.headD 0).toNat∈x.2.nd.to∧x.2.nd∈ndL n:=by
 have hm:x.2∈Zj5 n:=by rw [←Zb4n];exact List.mem_map_of_mem h
 have h1:=hs.toNe hm
 refine ⟨?_,?_,?_⟩
 ·match e:x.2.to with
  | []=>exact absurd e h1
  | v :: t=>
   have h3:=hs.toRng hm (v:=v) (by rw [e];simp)
   rw [List.headD_cons];omega
 ·unfold NodeI.nd
  match e:x.2.to with
  | []=>exact absurd e h1
  | v :: t=>simp
 ·unfold ndL;exact List.mem_map_of_mem hm
theorem lk_rng {n:NetD} {V:Nat} (hs:Snd n V) (ha:acyB (ndL n) V=true) {x:NodeD×NodeI} (h:x∈n6 n):1≤lk (lvl n V) x.2∧lk (lvl n V) x.2≤((n6 n).length:Int):=by
 obtain ⟨h1,h2,h3⟩:=Zbas hs h
 obtain ⟨k,hk⟩:=(Za0m hs.apart V).1 ha _ h1
 unfold lk
 rw [lvl_at hs h1 hk]
 have:(n6 n).length=(ndL n).length:=by rw [←n6_nd,List.length_map]
 have hle:=hk.le hs.apart
 obtain ⟨f,_,e⟩:=hk.inv hs.apart h3 h2
 omega
theorem Zb77 {n:NetD} {V:Nat} (hs:Snd n V) (ft:Fit n) (h0:Zj3 n=0) :
  Zb78 (netT n,())=some (if acyB (ndL n) V then ((ordF n V).map (fun x=>nodeT x.1),(true,())) else ([],(false,()))):=by
 have es:Zfd (netT n,())=some (Zj3 n,()):=by
  unfold Zfd
  rw [show netD ((netT n,()):TL [Za5]).1=n from Zww n,Za3w ft]
  rfl
 have ew:=Zba1 hs ft
 obtain ⟨m,lv,ea,hlv⟩:=all_is hs ft
 by_cases ha:acyB (ndL n) V=true
 ·obtain ⟨hll,hlv⟩:=hlv ha
  have et:Zkf (nt n ())=some (.inr ((0:Int),wk n V m lv)):=by
   refine Zba es (br_ff (by rw [h0];rfl) (Zba ew (Zba ea (br_ff (by rw [ha];rfl) rfl))))
  rw [if_pos ha]
  let key:NdT→Int:=fun x=>lk (lvl n V) (nI n x)
  have hkey:∀x∈n6 n,key (nodeT x.1)=lk (lvl n V) x.2:=fun x hx=>by
   show lk (lvl n V) (nI n (nodeT x.1))=_
   rw [nI_is (n6_is n hx)]
  have hk:∀x∈n6 n,key (nodeT x.1)=lk lv x.2:=fun x hx=>by
   rw [hkey x hx]
   obtain ⟨h1,h2,h3⟩:=Zbas hs hx
   unfold lk
   obtain ⟨k,e1,e2⟩:=hlv _ h1
   rw [e1,lvl_at hs h1 e2]
  have hN:(Zha n).map nodeT=(n6 n).map (fun x=>nodeT x.1):=by rw [←n6_fst,List.map_map];rfl
  have hlen:(n6 n).length≤3000:=(n6_ok hs).len
  obtain ⟨S',e1,hS⟩:=Zba5 (cmpOk hs ft (of:=ofU (ndL n) V (ndL n).length) (m:=m) hll key hk (fun x hx=>n6_is n hx)) (S:=(Zha n).map nodeT) (by rw [hN,List.length_map];omega) (fun x hx=>by
   rw [hN] at hx
   obtain ⟨y,hy,rfl⟩:=List.mem_map.1 hx
   exact ⟨y,hy,rfl⟩)
  have hS':S'=(ordF n V).map (fun x=>nodeT x.1):=by
   refine (hS.flat (n6 n).length (fun x hx=>?_)).trans ?_
   ·rw [hN] at hx
    obtain ⟨y,hy,rfl⟩:=List.mem_map.1 hx
    rw [hkey y hy]
    exact lk_rng hs ha hy
   ·unfold ordF
    rw [List.map_flatMap,hN]
    congr 1
    funext i
    unfold fk
    rw [List.filter_map]
    congr 1
    refine List.filter_congr fun x hx=>?_
    show decide (key (nodeT x.1)=_)=_
    rw [hkey x hx]
  rw [←hS']
  refine Zba et (br_ff rfl ?_)
  exact Zba e1 rfl
 ·rw [if_neg ha]
  have hc:acyB (ndL n) V=false:=by simpa using ha
  have et:Zkf (nt n ())=some (.inl ((8:Int),())):=by
   refine Zba es (br_ff (by rw [h0];rfl) (Zba ew (Zba ea (br_tt (by rw [hc];rfl) rfl))))
  exact Zba et (Zaj rfl rfl)
end Go.Proofs.YtnocaehijdmkkaaGreat.V
end
