import Derived.Test.YtnocaehijdmkkaaGreatKTa
import Derived.Test.YtnocaehijdmkkaaGreatKSa
import Derived.Test.YtnocaehijdmkkaaGreatKTb
set_option linter.unusedSectionVars false
set_option linter.unusedVariables false
set_option linter.unusedSimpArgs false
set_option linter.unnecessarySimpa false
section
namespace Go.Proofs.YtnocaehijdmkkaaGreat.V
open Go Go.RowKit
set_option maxRecDepth 1000000
abbrev Zb5w:Lay:={ T:=[(0,.agg lNet),(1,.agg [.fz .bool,.fz (.sl Za3)])],h:=[],nx:=0 }
abbrev yTc0:List LA:=[.int .i64,.fz (.int .i64),.fz Za0,.fz (.int .i64),.fz (.int .i64),.fz (.int .i64),.fz Za1,.fz Za0,.fz Za4,.hd 1 .bool,.rhd 2]
abbrev yTc1:List (Nat×LO):=[(0,.cells yTc0 90),(1,.arr .bool 4),(2,.rams 157),(3,.cells [.hd 4 .bool,.bool] 58),(4,.arr .bool 4),(5,.arr .bool 4)]
abbrev yTc2:List (Nat×LO):=[(0,.cells yTc0 90),(1,.arr .bool 4),(2,.rams 157),(3,.cells [.hd 4 .bool] 28),(4,.arr .bool 4)]
abbrev yTc3:List (Nat×LO):=[(0,.cells yTc0 90),(1,.arr .bool 4),(2,.rams 157),(3,.arr .bool 4)]
abbrev yTc4:Lay:={ T:=[(0,.ptr 0 0),(1,.fz .bool)],h:=[(0,.cells yTc0 90),(1,.arr .bool 4),(2,.rams 157)],nx:=3 }
abbrev yTc5:List (Nat×LO):=[(0,.cells yTc0 90),(1,.arr .bool 4),(2,.rams 157),(3,.cells [.nils,.bool] 58),(4,.arr .bool 4)]
abbrev Zayi:List (Ev.Ex×Lay):=[(.ret,{ T:=[(0,.nilp),(1,.int .i64)],h:=[],nx:=0 }),(.ret,{ T:=[(0,.ptr 0 0),(1,.int .i64)],h:=[(0,.cells yTc0 90),(1,.arr .bool 4),(2,.rams 157)],nx:=3 })]
abbrev Zb7x:=TL Zb5w.σs→Option (Out Zayi)
abbrev Zb5x:=Kb 20 2 Zb5w 2 Zayi
def Zba9 (F0:Zb69) (F1:Zb5d) (F2:Zaq7) (F3:Zaj5) (F4:Zaey) (F5:Zaxx) (t0_0:Int) (t0_1:List Int) (t0_2:List (Sh.T Za0)) (t0_3 t0_4 t0_5:List Int) (t0_6:List (Sh.T Za1)) (t0_7:List (Sh.T Za0)) (t1_0:List Bool) (t1_1:List (List (Sh.T Za3))):Option (Out Zayi):=
 bnd (F2 ((t0_0,(t0_1,(t0_2,(t0_3,(t0_4,(t0_5,(t0_6,(t0_7,())))))))),())) fun x0=>
 br (Bool.not (iQ x0.1 (0:Int)))
 (
  some (.inl (x0.1,())))
 (
  bnd (F5 (t0_0,(t0_1,(t0_2,(t0_3,(t0_4,(t0_5,(t0_6,(t0_7,(t1_0,(t1_1,()))))))))))) fun x1=>
  br (Bool.not (iQ x1.1 (0:Int)))
  (
   some (.inl (x1.1,())))
  (
   bnd (F1 ((t0_0,(t0_1,(t0_2,(t0_3,(t0_4,(t0_5,(t0_6,(t0_7,())))))))),())) fun x2=>
   bnd (F0 ((t0_0,(t0_1,(t0_2,(t0_3,(t0_4,(t0_5,(t0_6,(t0_7,())))))))),())) fun x3=>
   bnd (F4 (t1_0,())) fun x4=>
   chk (Zqo (Sh.beq Za4) x2.1 x2.1)<|
   some (.inr ((0:Int),(x3.1.1,(x3.1.2.1,(x3.1.2.2.1,(x3.1.2.2.2.1,(x3.1.2.2.2.2.1,(x3.1.2.2.2.2.2.1,(x3.1.2.2.2.2.2.2.1,(x3.1.2.2.2.2.2.2.2.1,(x2.1,(x4.1,(x1.2.1,())))))))))))))))
def Zba8 (c0:Zb46) (c1:Zb2b) (c2:Zamw) (c3:Zaj7) (c4:Zaez) (c5:Zasw) :Zb5x:=⟨u10 (Zba9 c0.F c1.F c2.F c3.F c4.F c5.F),pB Tryz.func20 39 (kD c0 (kD c1 (kD c2 (kB c3 (kB c4 (kB c5 k0)))))) e0 1 (sS l0) fun d=>by kernel_rfl⟩
def Zb7y:Zb5x:=Zba8 Zb6a Zb5e Zaq8 Zaj6 Zacy Zaxy 
def Zb4z:Zb7x:=Zb7y.F
abbrev Zash:Lay:=yTc4
abbrev Zal4:List (Ev.Ex×Lay):=[(.ret,{ T:=[(0,.hd 3 .bool),(1,.int .i64)],h:=yTc3,nx:=4 })]
abbrev Zav0:=TL Zash.σs→Option (Out Zal4)
abbrev Zao5:=Kb 56 2 Zash 2 Zal4
abbrev Zafj:Lay:={ T:=[(0,.ptr 0 0),(6,.ptr 3 0),(11,.func 89 [] [.ptr 3 0]),(84,.fz Za4),(85,.int .i64),(86,.int .i64)],h:=yTc2,nx:=5 }
abbrev Zaej:List (Ev.Ex×Lay):=[((.exit 4),{ T:=[(6,.ptr 3 0)],h:=yTc2,nx:=5 })]
abbrev Zasi:=TL Zafj.σs→Option (Out Zaej)
abbrev Zam3:=Ld 3 155 (Zb5 [2] (Zaa Tryz.f56)) Zafj Zaej
abbrev Zafk:Lay:={ T:=[(0,.ptr 0 0),(6,.ptr 3 0),(60,.hd 1 .bool),(61,.int .i64),(62,.int .i64)],h:=yTc2,nx:=5 }
abbrev Zaek:List (Ev.Ex×Lay):=[((.exit 2),{ T:=[(0,.ptr 0 0),(6,.ptr 3 0)],h:=yTc2,nx:=5 })]
abbrev Zasj:=TL Zafk.σs→Option (Out Zaek)
abbrev Zask:=Ld 3 155 (Zb5 [1] (Zaa Tryz.f56)) Zafk Zaek
abbrev Zag1:Lay:={ T:=[(0,.ptr 0 0),(6,.ptr 3 0),(38,.fz .bool),(39,.int .i64),(40,.int .i64)],h:=yTc2,nx:=5 }
abbrev Zafi:List (Ev.Ex×Lay):=[((.exit 0),{ T:=[(0,.ptr 0 0),(6,.ptr 3 0)],h:=yTc2,nx:=5 })]
abbrev Zate:=TL Zag1.σs→Option (Out Zafi)
abbrev Zatg:=Ld 3 155 (Zb5 [0] (Zaa Tryz.f56)) Zag1 Zafi
def Zail (t38:List Bool) (t39 t40 b0_0:Int) (b0_1:List Int) (b0_2:List (Sh.T Za0)) (b0_3 b0_4 b0_5:List Int) (b0_6:List (Sh.T Za1)) (b0_7:List (Sh.T Za0)) (b0_8:List (Sh.T Za4)) (b1:List Bool) (b2:List (Sh.T (.agg [(.int .i64),(.int .i64),(.sl Za3)]))) (b4:List Bool):Option (TL Zag1.σs⊕Out Zafi):=
 br (iL t40 t39)
 (
  chk (inb t40 (List.length t38))<|
  chk (inb t40 (List.length b0_1))<|
  chk (inb (gt (.int .i64) b0_1 t40) (List.length b4))<|
  some (.inl (t38,(t39,((IntKind.wrap .i64 (t40+(1:Int))),(b0_0,(b0_1,(b0_2,(b0_3,(b0_4,(b0_5,(b0_6,(b0_7,(b0_8,(b1,(b2,((List.set b4 (Int.toNat (gt (.int .i64) b0_1 t40)) (gt .bool t38 t40)),())))))))))))))))))
 (
  some (.inr (b0_0,(b0_1,(b0_2,(b0_3,(b0_4,(b0_5,(b0_6,(b0_7,(b0_8,(b1,(b2,(b4,()))))))))))))))
def Zazw  :Zatg:=mkL (u15 Zail) (pL k0 (eC Tryz.func89 (by kernel_rfl) e0) 5 l0 fun d=>by kernel_rfl)
def Zamu:Zate:=lpD (u15 Zail) NN
def Zahj (t61 t62 b0_0:Int) (b0_1:List Int) (b0_2:List (Sh.T Za0)) (b0_3 b0_4 b0_5:List Int) (b0_6:List (Sh.T Za1)) (b0_7:List (Sh.T Za0)) (b0_8:List (Sh.T Za4)) (b1:List Bool) (b2:List (Sh.T (.agg [(.int .i64),(.int .i64),(.sl Za3)]))) (b4:List Bool):Option (TL Zafk.σs⊕Out Zaek):=
 br (iL t62 t61)
 (
  chk (inb t62 (List.length b1))<|
  chk (inb t62 (List.length b0_2))<|
  chk (inb (gt Za0 b0_2 t62).1 (List.length b4))<|
  some (.inl (t61,((IntKind.wrap .i64 (t62+(1:Int))),(b0_0,(b0_1,(b0_2,(b0_3,(b0_4,(b0_5,(b0_6,(b0_7,(b0_8,(b1,(b2,((List.set b4 (Int.toNat (gt Za0 b0_2 t62).1) (gt .bool b1 t62)),()))))))))))))))))
 (
  some (.inr (b0_0,(b0_1,(b0_2,(b0_3,(b0_4,(b0_5,(b0_6,(b0_7,(b0_8,(b1,(b2,(b4,()))))))))))))))
def Zaz3  :Zask:=mkL (u14 Zahj) (pL k0 (eC Tryz.func89 (by kernel_rfl) e0) 5 l0 fun d=>by kernel_rfl)
def Zam2:Zasj:=lpD (u14 Zahj) NN
def Zahi (F0:Zak3) (F1:Zb2u) (F2:Zau6) (F3:Zawf) (t84:List (Sh.T Za4)) (t85 t86 b0_0:Int) (b0_1:List Int) (b0_2:List (Sh.T Za0)) (b0_3 b0_4 b0_5:List Int) (b0_6:List (Sh.T Za1)) (b0_7:List (Sh.T Za0)) (b0_8:List (Sh.T Za4)) (b1:List Bool) (b2:List (Sh.T (.agg [(.int .i64),(.int .i64),(.sl Za3)]))) (b4:List Bool):Option (TL Zafj.σs⊕Out Zaej):=
 br (iL t86 t85)
 (
  chk (inb t86 (List.length t84))<|
  br (Bool.not (gt Za4 t84 t86).1)
  (
   chk (inb (gt Za4 t84 t86).2.2.1 (List.length b0_7))<|
   bnd (F0 ((gt Za0 b0_7 (gt Za4 t84 t86).2.2.1).2.1,(b4,()))) fun x0=>
   br x0.1
   (
    chk (iQ (gt Za0 b0_7 (gt Za4 t84 t86).2.2.1).1 (gt Za0 b0_7 (gt Za4 t84 t86).2.2.1).1)<|
    bnd (F0 ((gt Za0 b0_7 (gt Za4 t84 t86).2.2.1).2.2.1,(b4,()))) fun x1=>
    chk (inb (gt Za0 b0_7 (gt Za4 t84 t86).2.2.1).1 (List.length b4))<|
    chk (iQ (gt Za0 b0_7 (gt Za4 t84 t86).2.2.1).1 (gt Za0 b0_7 (gt Za4 t84 t86).2.2.1).1)<|
    some (.inl (t84,(t85,((IntKind.wrap .i64 (t86+(1:Int))),(b0_0,(b0_1,(b0_2,(b0_3,(b0_4,(b0_5,(b0_6,(b0_7,(b0_8,(b1,(b2,((List.set b4 (Int.toNat (gt Za0 b0_7 (gt Za4 t84 t86).2.2.1).1) (selB true x1.1 false)),())))))))))))))))))
   (
    chk (iQ (gt Za0 b0_7 (gt Za4 t84 t86).2.2.1).1 (gt Za0 b0_7 (gt Za4 t84 t86).2.2.1).1)<|
    chk (inb (gt Za0 b0_7 (gt Za4 t84 t86).2.2.1).1 (List.length b4))<|
    some (.inl (t84,(t85,((IntKind.wrap .i64 (t86+(1:Int))),(b0_0,(b0_1,(b0_2,(b0_3,(b0_4,(b0_5,(b0_6,(b0_7,(b0_8,(b1,(b2,((List.set b4 (Int.toNat (gt Za0 b0_7 (gt Za4 t84 t86).2.2.1).1) false),()))))))))))))))))))
  (
   chk (inb (gt Za4 t84 t86).2.1 (List.length b0_6))<|
   chk (inb (gt Za4 t84 t86).2.2.1 (List.length (gt Za1 b0_6 (gt Za4 t84 t86).2.1).2.2.2.1))<|
   chk (inb (gt Za4 t84 t86).2.1 (List.length b2))<|
   bnd (F2 ((gt Zb3 (gt Za1 b0_6 (gt Za4 t84 t86).2.1).2.2.2.1 (gt Za4 t84 t86).2.2.1).2.1,(b4,()))) fun x0=>
   bnd (F3 (x0.1,((List.getD b2 (Int.toNat (gt Za4 t84 t86).2.1) (zR)).1,((List.getD b2 (Int.toNat (gt Za4 t84 t86).2.1) (zR)).2.1,((List.getD b2 (Int.toNat (gt Za4 t84 t86).2.1) (zR)).2.2.1,()))))) fun x1=>
   chk (both (iE (0:Int) (gt Zb3 (gt Za1 b0_6 (gt Za4 t84 t86).2.1).2.2.2.1 (gt Za4 t84 t86).2.2.1).1) (iE (gt Zb3 (gt Za1 b0_6 (gt Za4 t84 t86).2.1).2.2.2.1 (gt Za4 t84 t86).2.2.1).1 (Int.ofNat (List.length b4))))<|
   bnd (F1 (x1.1,((gt Za1 b0_6 (gt Za4 t84 t86).2.1).2.1,()))) fun x2=>
   some (.inl (t84,(t85,((IntKind.wrap .i64 (t86+(1:Int))),(b0_0,(b0_1,(b0_2,(b0_3,(b0_4,(b0_5,(b0_6,(b0_7,(b0_8,(b1,((List.set b2 (Int.toNat (gt Za4 t84 t86).2.1) x1.2),((cpyL b4 (Int.toNat (gt Zb3 (gt Za1 b0_6 (gt Za4 t84 t86).2.1).2.2.2.1 (gt Za4 t84 t86).2.2.1).1) (List.take (@HSub.hSub (Nat) (Nat) (Nat) _ (List.length b4) (Int.toNat (gt Zb3 (gt Za1 b0_6 (gt Za4 t84 t86).2.1).2.2.2.1 (gt Za4 t84 t86).2.2.1).1)) x2.1)),()))))))))))))))))))
 (
  some (.inr (b0_0,(b0_1,(b0_2,(b0_3,(b0_4,(b0_5,(b0_6,(b0_7,(b0_8,(b1,(b2,(b4,()))))))))))))))
def Zaz4 (c0:Zaio) (c1:Zayo) (c2:Zari) (c3:Zarj) :Zam3:=mkL (u15 (Zahi c0.F c1.F c2.F c3.F)) (pL (kD c0 (kD c1 (kD c2 (kB c3 k0)))) (eC Tryz.func89 (by kernel_rfl) e0) 5 l0 fun d=>by kernel_rfl)
def Zaz2:Zam3:=Zaz4 Zak4 Zb2v Zau7 Zawg 
def Zam1:Zasi:=lpD (u15 (Zahi Zacg Zaxv Zalr Ztu)) NN
def Zao4 (F0:Zak3) (F1:Zb2u) (F2:Zau6) (F3:Zawf) (L5:Zate) (L10:Zasj) (L16:Zasi) (t1:List Bool) (b0_0:Int) (b0_1:List Int) (b0_2:List (Sh.T Za0)) (b0_3 b0_4 b0_5:List Int) (b0_6:List (Sh.T Za1)) (b0_7:List (Sh.T Za0)) (b0_8:List (Sh.T Za4)) (b1:List Bool) (b2:List (Sh.T (.agg [(.int .i64),(.int .i64),(.sl Za3)]))):Option (Out Zal4):=
 br (selB false true (Bool.not (iQ (Int.ofNat (List.length t1)) (Int.ofNat (List.length b0_1)))))
 (
  some ((1:Int),(b0_0,(b0_1,(b0_2,(b0_3,(b0_4,(b0_5,(b0_6,(b0_7,(b0_8,(b1,(b2,([],()))))))))))))))
 (
  chk (both (iE (0:Int) (IntKind.wrap .i64 (b0_0+(1:Int)))) (both (iE (IntKind.wrap .i64 (b0_0+(1:Int))) (IntKind.wrap .i64 (b0_0+(1:Int)))) (iE ((Int.ofNat 1)*(IntKind.wrap .i64 (b0_0+(1:Int)))) (281474976710656:Int))))<|
  bnd (L5 (t1,((Int.ofNat (List.length t1)),((0:Int),(b0_0,(b0_1,(b0_2,(b0_3,(b0_4,(b0_5,(b0_6,(b0_7,(b0_8,(b1,(b2,((List.replicate (Int.toNat (IntKind.wrap .i64 (b0_0+(1:Int)))) (Sh.zero .bool)),())))))))))))))))) fun x0=>
  bnd (L10 ((Int.ofNat (List.length x0.2.2.2.2.2.2.2.2.2.1)),((0:Int),x0))) fun x1=>
  bnd (L16 (x1.2.2.2.2.2.2.2.2.1,((Int.ofNat (List.length x1.2.2.2.2.2.2.2.2.1)),((0:Int),x1)))) fun x2=>
  some ((0:Int),x2))
def Zb11 (c0:Zaio) (c1:Zayo) (c2:Zari) (c3:Zarj) (M5:Zatg) (M10:Zask) (M16:Zam3):Zao5:=⟨u12 (Zao4 c0.F c1.F c2.F c3.F M5.L M10.L M16.L),pB Tryz.func56 155 (kD c0 (kD c1 (kD c2 (kB c3 k0)))) (eC Tryz.func89 (by kernel_rfl) e0) 5 (sS (sC M5 (sC M10 (sC M16 l0)))) fun d=>by kernel_rfl⟩
def Zav1:Zao5:=Zb11 Zak4 Zb2v Zau7 Zawg Zazw Zaz3 Zaz2
def Zatf:Zav0:=Zav1.F
abbrev Zatd:Lay:={ T:=[(0,.ptr 0 0),(1,.int .i64),(2,.hd 3 .bool)],h:=yTc3,nx:=4 }
abbrev Zam0:List (Ev.Ex×Lay):=[(.ret,{ T:=[],h:=yTc3,nx:=4 })]
abbrev Zapr:=TL Zatd.σs→Option (Out Zam0)
abbrev Zaks:=Kb 94 3 Zatd 0 Zam0
abbrev Zahh:Lay:={ T:=[(2,.hd 3 .bool),(6,.func 118 [.rp 2] []),(25,.fz Zb8),(26,.int .i64),(27,.int .i64)],h:=yTc3,nx:=4 }
abbrev Zag0:List (Ev.Ex×Lay):=[((.exit 0),{ T:=[],h:=yTc3,nx:=4 })]
abbrev Zauy:=TL Zahh.σs→Option (Out Zag0)
abbrev Zao3:=Ld 4 46 (Zb5 [0] (Zaa Tryz.f94)) Zahh Zag0
def Zajj (F0:Zau6) (F1:Zak3) (F2:Zalo) (t6_0:Int) (t25:List (Sh.T Zb8)) (t26 t27 b0_0:Int) (b0_1:List Int) (b0_2:List (Sh.T Za0)) (b0_3 b0_4 b0_5:List Int) (b0_6:List (Sh.T Za1)) (b0_7:List (Sh.T Za0)) (b0_8:List (Sh.T Za4)) (b1:List Bool) (b2:List (Sh.T (.agg [(.int .i64),(.int .i64),(.sl Za3)]))) (b3:List Bool):Option (TL Zahh.σs⊕Out Zag0):=
 br (iL t27 t26)
 (
  chk (inb t27 (List.length t25))<|
  bnd (F1 ((gt Zb8 t25 t27).1,(b3,()))) fun x0=>
  br x0.1
  (
   bnd (F0 ((gt Zb8 t25 t27).2.1,(b3,()))) fun x1=>
   bnd (F0 ((gt Zb8 t25 t27).2.2.1,(b3,()))) fun x2=>
   bnd (F2 (x1.1,(x2.1,((List.getD b2 (Int.toNat t6_0) (zR)).1,((List.getD b2 (Int.toNat t6_0) (zR)).2.1,((List.getD b2 (Int.toNat t6_0) (zR)).2.2.1,())))))) fun x3=>
   some (.inl ((Int.ofNat (Int.toNat t6_0)),(t25,(t26,((IntKind.wrap .i64 (t27+(1:Int))),(b0_0,(b0_1,(b0_2,(b0_3,(b0_4,(b0_5,(b0_6,(b0_7,(b0_8,(b1,((List.set b2 (Int.toNat t6_0) x3.2),(b3,()))))))))))))))))))
  (
   some (.inl ((Int.ofNat (Int.toNat t6_0)),(t25,(t26,((IntKind.wrap .i64 (t27+(1:Int))),(b0_0,(b0_1,(b0_2,(b0_3,(b0_4,(b0_5,(b0_6,(b0_7,(b0_8,(b1,(b2,(b3,())))))))))))))))))))
 (
  some (.inr (b0_0,(b0_1,(b0_2,(b0_3,(b0_4,(b0_5,(b0_6,(b0_7,(b0_8,(b1,(b2,(b3,()))))))))))))))
def Zb10 (c0:Zari) (c1:Zaio) (c2:Zafl) :Zao3:=mkL (u16 (Zajj c0.F c1.F c2.F)) (pL (kD c0 (kD c1 (kB c2 k0))) e0 1 l0 fun d=>by kernel_rfl)
def Zb0z:Zao3:=Zb10 Zau7 Zak4 Zalp 
def Zao2:Zauy:=lpD (u16 (Zajj Zalr Zacg Zt0)) NN
def Zb27 (F0:Zau6) (F1:Zak3) (F2:Zalo) (L2:Zauy) (t1 b0_0:Int) (b0_1:List Int) (b0_2:List (Sh.T Za0)) (b0_3 b0_4 b0_5:List Int) (b0_6:List (Sh.T Za1)) (b0_7:List (Sh.T Za0)) (b0_8:List (Sh.T Za4)) (b1:List Bool) (b2:List (Sh.T (.agg [(.int .i64),(.int .i64),(.sl Za3)]))) (b3:List Bool):Option (Out Zam0):=
 chk (inb t1 (List.length b2))<|
 chk (inb t1 (List.length b0_6))<|
 bnd (L2 ((Int.ofNat (Int.toNat t1)),((gt Za1 b0_6 t1).2.2.2.2.1,((Int.ofNat (List.length (gt Za1 b0_6 t1).2.2.2.2.1)),((0:Int),(b0_0,(b0_1,(b0_2,(b0_3,(b0_4,(b0_5,(b0_6,(b0_7,(b0_8,(b1,(b2,(b3,()))))))))))))))))) fun x0=>
 some x0
def Zb26 (c0:Zari) (c1:Zaio) (c2:Zafl) (M2:Zao3):Zaks:=⟨u13 (Zb27 c0.F c1.F c2.F M2.L),pB Tryz.func94 46 (kD c0 (kD c1 (kB c2 k0))) e0 1 (sS (sC M2 l0)) fun d=>by kernel_rfl⟩
def Zaps:Zaks:=Zb26 Zau7 Zak4 Zalp Zb0z
def Zauz:Zapr:=Zaps.F
abbrev Zav2:Lay:=yTc4
abbrev Zamv:List (Ev.Ex×Lay):=[(.ret,{ T:=[(0,.agg [.hd 3 .bool,.bool]),(1,.int .i64)],h:=yTc3,nx:=4 })]
abbrev Zar1:=TL Zav2.σs→Option (Out Zamv)
abbrev Zaln:=Kb 57 2 Zav2 2 Zamv
abbrev Zahl:Lay:={ T:=[(0,.ptr 0 0),(4,.ptr 3 0),(6,.hd 5 .bool),(89,.int .i64),(90,.int .i64)],h:=yTc1,nx:=6 }
abbrev Zag2:List (Ev.Ex×Lay):=[((.exit 6),{ T:=[(4,.ptr 3 0)],h:=[(0,.cells yTc0 90),(1,.arr .bool 4),(2,.rams 157),(3,.cells [.hd 4 .bool,.bool] 58),(4,.arr .bool 4)],nx:=5 })]
abbrev Zav3:=TL Zahl.σs→Option (Out Zag2)
abbrev Zao6:=Ld 3 99 (Zb5 [3] (Zaa Tryz.f57)) Zahl Zag2
abbrev Zahm:Lay:={ T:=[(0,.ptr 0 0),(4,.ptr 3 0),(6,.hd 5 .bool),(67,.fz Za0),(68,.int .i64),(69,.int .i64)],h:=yTc1,nx:=6 }
abbrev Zag3:List (Ev.Ex×Lay):=[((.exit 4),{ T:=[(0,.ptr 0 0),(4,.ptr 3 0),(6,.hd 5 .bool)],h:=yTc1,nx:=6 })]
abbrev Zav4:=TL Zahm.σs→Option (Out Zag3)
abbrev Zao7:=Ld 3 99 (Zb5 [2] (Zaa Tryz.f57)) Zahm Zag3
abbrev Zahn:Lay:={ T:=[(0,.ptr 0 0),(4,.ptr 3 0),(6,.hd 5 .bool),(48,.fz (.int .i64)),(49,.int .i64),(50,.int .i64)],h:=yTc1,nx:=6 }
abbrev Zag4:List (Ev.Ex×Lay):=[((.exit 2),{ T:=[(0,.ptr 0 0),(4,.ptr 3 0),(6,.hd 5 .bool)],h:=yTc1,nx:=6 })]
abbrev Zav5:=TL Zahn.σs→Option (Out Zag4)
abbrev Zao8:=Ld 3 99 (Zb5 [1] (Zaa Tryz.f57)) Zahn Zag4
abbrev Zaim:Lay:={ T:=[(0,.ptr 0 0),(4,.ptr 3 0),(6,.hd 4 .bool),(29,.fz (.int .i64)),(30,.int .i64),(31,.int .i64)],h:=yTc5,nx:=5 }
abbrev Zahk:List (Ev.Ex×Lay):=[((.exit 0),{ T:=[(0,.ptr 0 0),(4,.ptr 3 0),(6,.hd 4 .bool)],h:=yTc5,nx:=5 })]
abbrev Zaw5:=TL Zaim.σs→Option (Out Zahk)
abbrev Zapt:=Ld 3 99 (Zb5 [0] (Zaa Tryz.f57)) Zaim Zahk
def Zakt (F0:Zak3) (t29:List Int) (t30 t31 b0_0:Int) (b0_1:List Int) (b0_2:List (Sh.T Za0)) (b0_3 b0_4 b0_5:List Int) (b0_6:List (Sh.T Za1)) (b0_7:List (Sh.T Za0)) (b0_8:List (Sh.T Za4)) (b1:List Bool) (b2:List (Sh.T (.agg [(.int .i64),(.int .i64),(.sl Za3)]))) (b3_1:Bool) (b4:List Bool):Option (TL Zaim.σs⊕Out Zahk):=
 br (iL t31 t30)
 (
  chk (inb t31 (List.length t29))<|
  br b3_1
  (
   bnd (F0 ((gt (.int .i64) t29 t31),(b4,()))) fun x0=>
   some (.inl (t29,(t30,((IntKind.wrap .i64 (t31+(1:Int))),(b0_0,(b0_1,(b0_2,(b0_3,(b0_4,(b0_5,(b0_6,(b0_7,(b0_8,(b1,(b2,((selB true x0.1 false),(b4,()))))))))))))))))))
  (
   some (.inl (t29,(t30,((IntKind.wrap .i64 (t31+(1:Int))),(b0_0,(b0_1,(b0_2,(b0_3,(b0_4,(b0_5,(b0_6,(b0_7,(b0_8,(b1,(b2,(false,(b4,())))))))))))))))))))
 (
  some (.inr (b0_0,(b0_1,(b0_2,(b0_3,(b0_4,(b0_5,(b0_6,(b0_7,(b0_8,(b1,(b2,(b3_1,(b4,())))))))))))))))
def Zb29 (c0:Zaio) :Zapt:=mkL (u16 (Zakt c0.F)) (pL (kD c0 k0) e0 1 l0 fun d=>by kernel_rfl)
def Zb28:Zapt:=Zb29 Zak4 
def Zaw6:Zaw5:=lpD (u16 (Zakt Zacg)) NN
def Zajm (F0:Zak3) (t48:List Int) (t49 t50 b0_0:Int) (b0_1:List Int) (b0_2:List (Sh.T Za0)) (b0_3 b0_4 b0_5:List Int) (b0_6:List (Sh.T Za1)) (b0_7:List (Sh.T Za0)) (b0_8:List (Sh.T Za4)) (b1:List Bool) (b2:List (Sh.T (.agg [(.int .i64),(.int .i64),(.sl Za3)]))) (b3_1:Bool) (b4 b5:List Bool):Option (TL Zahn.σs⊕Out Zag4):=
 br (iL t50 t49)
 (
  chk (inb t50 (List.length t48))<|
  bnd (F0 ((gt (.int .i64) t48 t50),(b5,()))) fun x0=>
  chk (room 1 (List.length (ap b4 (x0.1 :: []))))<|
  some (.inl (t48,(t49,((IntKind.wrap .i64 (t50+(1:Int))),(b0_0,(b0_1,(b0_2,(b0_3,(b0_4,(b0_5,(b0_6,(b0_7,(b0_8,(b1,(b2,(b3_1,((ap b4 (x0.1 :: [])),(b5,())))))))))))))))))))
 (
  some (.inr (b0_0,(b0_1,(b0_2,(b0_3,(b0_4,(b0_5,(b0_6,(b0_7,(b0_8,(b1,(b2,(b3_1,(b4,(b5,()))))))))))))))))
def Zb17 (c0:Zaio) :Zao8:=mkL (u17 (Zajm c0.F)) (pL (kD c0 k0) e0 1 l0 fun d=>by kernel_rfl)
def Zb14:Zao8:=Zb17 Zak4 
def Zav8:Zav5:=lpD (u17 (Zajm Zacg)) NN
def Zajl (F0:Zak3) (t67:List (Sh.T Za0)) (t68 t69 b0_0:Int) (b0_1:List Int) (b0_2:List (Sh.T Za0)) (b0_3 b0_4 b0_5:List Int) (b0_6:List (Sh.T Za1)) (b0_7:List (Sh.T Za0)) (b0_8:List (Sh.T Za4)) (b1:List Bool) (b2:List (Sh.T (.agg [(.int .i64),(.int .i64),(.sl Za3)]))) (b3_1:Bool) (b4 b5:List Bool):Option (TL Zahm.σs⊕Out Zag3):=
 br (iL t69 t68)
 (
  chk (inb t69 (List.length t67))<|
  bnd (F0 ((gt Za0 t67 t69).2.1,(b5,()))) fun x0=>
  chk (inb t69 (List.length b1))<|
  some (.inl (t67,(t68,((IntKind.wrap .i64 (t69+(1:Int))),(b0_0,(b0_1,(b0_2,(b0_3,(b0_4,(b0_5,(b0_6,(b0_7,(b0_8,((List.set b1 (Int.toNat t69) x0.1),(b2,(b3_1,(b4,(b5,())))))))))))))))))))
 (
  some (.inr (b0_0,(b0_1,(b0_2,(b0_3,(b0_4,(b0_5,(b0_6,(b0_7,(b0_8,(b1,(b2,(b3_1,(b4,(b5,()))))))))))))))))
def Zb16 (c0:Zaio) :Zao7:=mkL (u17 (Zajl c0.F)) (pL (kD c0 k0) e0 1 l0 fun d=>by kernel_rfl)
def Zb13:Zao7:=Zb16 Zak4 
def Zav7:Zav4:=lpD (u17 (Zajl Zacg)) NN
def Zajk (F1:Zapr) (t89 t90 b0_0:Int) (b0_1:List Int) (b0_2:List (Sh.T Za0)) (b0_3 b0_4 b0_5:List Int) (b0_6:List (Sh.T Za1)) (b0_7:List (Sh.T Za0)) (b0_8:List (Sh.T Za4)) (b1:List Bool) (b2:List (Sh.T (.agg [(.int .i64),(.int .i64),(.sl Za3)]))) (b3_1:Bool) (b4 b5:List Bool):Option (TL Zahl.σs⊕Out Zag2):=
 br (iL t90 t89)
 (
  bnd (F1 (t90,(b0_0,(b0_1,(b0_2,(b0_3,(b0_4,(b0_5,(b0_6,(b0_7,(b0_8,(b1,(b2,(b5,())))))))))))))) fun x0=>
  some (.inl (t89,((IntKind.wrap .i64 (t90+(1:Int))),(x0.1,(x0.2.1,(x0.2.2.1,(x0.2.2.2.1,(x0.2.2.2.2.1,(x0.2.2.2.2.2.1,(x0.2.2.2.2.2.2.1,(x0.2.2.2.2.2.2.2.1,(x0.2.2.2.2.2.2.2.2.1,(x0.2.2.2.2.2.2.2.2.2.1,(x0.2.2.2.2.2.2.2.2.2.2.1,(b3_1,(b4,(x0.2.2.2.2.2.2.2.2.2.2.2.1,()))))))))))))))))))
 (
  some (.inr (b0_0,(b0_1,(b0_2,(b0_3,(b0_4,(b0_5,(b0_6,(b0_7,(b0_8,(b1,(b2,(b3_1,(b4,())))))))))))))))
def Zb15 (c1:Zaks) :Zao6:=mkL (u16 (Zajk c1.F)) (pL (kB c1 k0) e0 1 l0 fun d=>by kernel_rfl)
def Zb12:Zao6:=Zb15 Zaps 
def Zav6:Zav3:=lpD (u16 (Zajk Zauz)) NN
def Zb3d (F0:Zak3) (F1:Zapr) (F2:Zav0) (L6:Zaw5) (L11:Zav5) (L16:Zav4) (L21:Zav3) (t1:List Bool) (b0_0:Int) (b0_1:List Int) (b0_2:List (Sh.T Za0)) (b0_3 b0_4 b0_5:List Int) (b0_6:List (Sh.T Za1)) (b0_7:List (Sh.T Za0)) (b0_8:List (Sh.T Za4)) (b1:List Bool) (b2:List (Sh.T (.agg [(.int .i64),(.int .i64),(.sl Za3)]))):Option (Out Zamv):=
 bnd (F2 (t1,(b0_0,(b0_1,(b0_2,(b0_3,(b0_4,(b0_5,(b0_6,(b0_7,(b0_8,(b1,(b2,()))))))))))))) fun x0=>
 br (Bool.not (iQ x0.1 (0:Int)))
 (
  some (false,(x0.1,(x0.2.1,(x0.2.2.1,(x0.2.2.2.1,(x0.2.2.2.2.1,(x0.2.2.2.2.2.1,(x0.2.2.2.2.2.2.1,(x0.2.2.2.2.2.2.2.1,(x0.2.2.2.2.2.2.2.2.1,(x0.2.2.2.2.2.2.2.2.2.1,(x0.2.2.2.2.2.2.2.2.2.2.1,(x0.2.2.2.2.2.2.2.2.2.2.2.1,([],())))))))))))))))
 (
  bnd (L6 (x0.2.2.2.2.2.2.1,((Int.ofNat (List.length x0.2.2.2.2.2.2.1)),((0:Int),(x0.2.1,(x0.2.2.1,(x0.2.2.2.1,(x0.2.2.2.2.1,(x0.2.2.2.2.2.1,(x0.2.2.2.2.2.2.1,(x0.2.2.2.2.2.2.2.1,(x0.2.2.2.2.2.2.2.2.1,(x0.2.2.2.2.2.2.2.2.2.1,(x0.2.2.2.2.2.2.2.2.2.2.1,(x0.2.2.2.2.2.2.2.2.2.2.2.1,(true,(x0.2.2.2.2.2.2.2.2.2.2.2.2.1,()))))))))))))))))) fun x1=>
  bnd (L11 (x1.2.2.2.2.1,((Int.ofNat (List.length x1.2.2.2.2.1)),((0:Int),(x1.1,(x1.2.1,(x1.2.2.1,(x1.2.2.2.1,(x1.2.2.2.2.1,(x1.2.2.2.2.2.1,(x1.2.2.2.2.2.2.1,(x1.2.2.2.2.2.2.2.1,(x1.2.2.2.2.2.2.2.2.1,(x1.2.2.2.2.2.2.2.2.2.1,(x1.2.2.2.2.2.2.2.2.2.2.1,(x1.2.2.2.2.2.2.2.2.2.2.2.1,([],(x1.2.2.2.2.2.2.2.2.2.2.2.2.1,())))))))))))))))))) fun x2=>
  bnd (L16 (x2.2.2.1,((Int.ofNat (List.length x2.2.2.1)),((0:Int),x2)))) fun x3=>
  bnd (L21 ((Int.ofNat (List.length x3.2.2.2.2.2.2.2.2.2.2.1)),((0:Int),x3))) fun x4=>
  some (x4.2.2.2.2.2.2.2.2.2.2.2.1,((0:Int),(x4.1,(x4.2.1,(x4.2.2.1,(x4.2.2.2.1,(x4.2.2.2.2.1,(x4.2.2.2.2.2.1,(x4.2.2.2.2.2.2.1,(x4.2.2.2.2.2.2.2.1,(x4.2.2.2.2.2.2.2.2.1,(x4.2.2.2.2.2.2.2.2.2.1,(x4.2.2.2.2.2.2.2.2.2.2.1,(x4.2.2.2.2.2.2.2.2.2.2.2.2.1,())))))))))))))))
def Zb3c (c0:Zaio) (c1:Zaks) (c2:Zao5) (M6:Zapt) (M11:Zao8) (M16:Zao7) (M21:Zao6):Zaln:=⟨u12 (Zb3d c0.F c1.F c2.F M6.L M11.L M16.L M21.L),pB Tryz.func57 99 (kD c0 (kB c1 (kB c2 k0))) e0 1 (sS (sC M6 (sC M11 (sC M16 (sC M21 l0))))) fun d=>by kernel_rfl⟩
def Zar2:Zaln:=Zb3c Zak4 Zaps Zav1 Zb28 Zb14 Zb13 Zb12
def Zaak:Zar1:=Zar2.F
end Go.Proofs.YtnocaehijdmkkaaGreat.V
end
section
namespace Go.Proofs.YtnocaehijdmkkaaGreat.V
open Go Go.RowKit
open Go.Proofs.YtnocaehijdmkkaaGreat.Pl
def setZ (v:List Bool) (l:List (Int×Bool)):List Bool:=l.foldl (fun v p=>v.set p.1.toNat p.2) v
theorem Zak1:∀(l:List (Int×Bool)) (v:List Bool),(setZ v l).length=v.length
 | [],v=>rfl
 | p :: l,v=>by
  show (setZ (v.set p.1.toNat p.2) l).length=_
  rw [Zak1 l,List.length_set]
theorem Zaz8 (v:List Bool) (l:List (Int×Bool)) (p:Int×Bool):setZ v (l++[p])=(setZ v l).set p.1.toNat p.2:=by
 unfold setZ;rw [List.foldl_append];rfl
def val0 (n:NetD) (ls ins:List Bool):List Bool:=setZ (setZ (List.replicate (n.vars.toNat+1) false) (n.inputs.zip ins)) ((n.latches.map (·.var)).zip ls)
def nodeV (n:NetD) (cs:List (List CellT)) (v:List Bool) (x:NodeD×NodeI):List Bool:=
 if x.1.rd=false then v.set (x.2.to.headD 0).toNat (evF (x.2.frm.getD 0 0) v&&evF (x.2.frm.getD 1 0) v)
 else setZ v (x.2.to.zip (Zaqa (rd (cs.getD x.1.mem []) (wordF (x.2.frm.map (evF · v)))).toNat x.2.to.length))
theorem Zb82 (n:NetD) (cs:List (List CellT)) (v:List Bool) (x:NodeD×NodeI):(nodeV n cs v x).length=v.length:=by
 unfold nodeV
 split
 ·rw [List.length_set]
 ·rw [Zak1]
def valF (n:NetD) (ls:List Bool) (cs:List (List CellT)) (ins:List Bool):List Bool:=(ordF n n.vars.toNat).foldl (nodeV n cs) (val0 n ls ins)
theorem Zayk (n:NetD) (cs:List (List CellT)):∀(l:List (NodeD×NodeI)) (v:List Bool),(l.foldl (nodeV n cs) v).length=v.length
 | [],v=>rfl
 | x :: l,v=>by rw [List.foldl_cons,Zayk n cs l,Zb82]
theorem Zb3v (n:NetD) (ls ins:List Bool):(val0 n ls ins).length=n.vars.toNat+1:=by
 unfold val0;rw [Zak1,Zak1,List.length_replicate]
structure Zb3e (m:MemD) (k:Nat) (c:List CellT):Prop where
 sor:Sor c
 len:c.length≤k
 at_:∀p∈c,0≤p.1∧p.1<2^m.addr.toNat
 wd:∀p∈c,0<p.2.1∧p.2.1<2^m.word.toNat
structure StOk (n:NetD) (k:Nat) (ls:List Bool) (cs:List (List CellT)):Prop where
 lsL:ls.length=n.latches.length
 csL:cs.length=n.mems.length
 ok:∀(i:Nat) (m:MemD) (c:List CellT),n.mems[i]?=some m→cs[i]?=some c→Zb3e m k c
theorem rd_mem (c:List CellT) (a:Int):rd c a=0∨∃p∈c,rd c a=p.2.1:=by
 induction c with
 | nil=>exact .inl rfl
 | cons p c ih=>
  rw [Zbag]
  by_cases q:p.1=a
  ·rw [if_pos q];exact .inr ⟨p,by simp,rfl⟩
  ·rw [if_neg q]
   rcases ih with h | ⟨r,hr,h⟩
   ·exact .inl h
   ·exact .inr ⟨r,by simp [hr],h⟩
theorem rd_rng {m:MemD} {k:Nat} {c:List CellT} (h:Zb3e m k c) (hw:m.word≤64) (a:Int):0≤rd c a∧rd c a<18446744073709551616:=by
 rcases rd_mem c a with e | ⟨p,hp,e⟩
 ·omega
 ·have:=h.wd p hp
  have h2:(2:Int)^m.word.toNat≤2^64:=by
   have:=Nat.pow_le_pow_right (n:=2) (by decide) (show m.word.toNat≤64 by omega)
   exact_mod_cast this
  have h3:(2:Int)^64=18446744073709551616:=by decide
  omega
theorem Zb9b {n:NetD} {V:Nat} {x:NodeD×NodeI} (h:x∈ordF n V):x∈n6 n:=by
 unfold ordF at h
 obtain ⟨i,_,hx⟩:=List.mem_flatMap.1 h
 exact (List.mem_filter.1 hx).1
theorem Zb9c {n:NetD} {V:Nat} (hs:Snd n V):(ordF n V).length≤9000000:=by
 have h:=(n6_ok hs).len
 unfold ordF
 have:=Za05 (fun (i:Nat)=>(n6 n).filter fun x=>decide (lk (lvl n V) x.2=(i:Int)+1)) (List.range (n6 n).length) 3000 (fun i _=>Nat.le_trans (List.length_filter_le _ _) h)
 rw [List.length_range] at this
 have h2:(n6 n).length*3000≤3000*3000:=Nat.mul_le_mul_right _ h
 omega
section
variable {n:NetD} {V:Nat} (hs:Snd n V) (ft:Fit n)
include hs
include ft
end
def rms (n:NetD) (cs:List (List CellT)):List RamT:=List.zipWith (fun (m:MemD) (c:List CellT)=>(m.addr,(m.word,(c,())))) n.mems cs
theorem Zb3f {n:NetD} {cs:List (List CellT)} (h:cs.length=n.mems.length):(rms n cs).length=n.mems.length:=by
 unfold rms;rw [List.length_zipWith];omega
theorem Zb99 {n:NetD} {cs:List (List CellT)} {i:Nat} {m:MemD} {c:List CellT} (h1:n.mems[i]?=some m) (h2:cs[i]?=some c):(rms n cs)[i]?=some (m.addr,(m.word,(c,()))):=by
 unfold rms;rw [List.getElem?_zipWith,h1,h2]
theorem Zbaz {u A:List Bool} {b:Bool} {off:Nat} (h:off+A.length<u.length):cpyL u off (A++[b])=(cpyL u off A).set (off+A.length) b:=by
 unfold cpyL
 have hd:=Zawe (L:=u) (i:=off+A.length) h
 have e:u.take off++(A++u.drop (off+A.length))=(u.take off++A)++u[off+A.length] :: u.drop (off+A.length+1):=by rw [hd];simp
 rw [e,setX (by rw [List.length_append,List.length_take];omega)]
 simp [Nat.add_assoc]
theorem cpy_set {u bs:List Bool} {off:Nat} (h:off+bs.length≤u.length):cpyL u off bs=setZ u ((dataL (off:Int) bs.length).zip bs):=by
 have hz:((dataL (off:Int) bs.length).zip bs).length=bs.length:=by rw [List.length_zip,Zol];omega
 have main:∀k,k≤bs.length→cpyL u off (bs.take k)=setZ u (((dataL (off:Int) bs.length).zip bs).take k):=by
  intro k
  induction k with
  | zero=>intro _;rw [List.take_zero,List.take_zero,Zb9g];rfl
  | succ k ih=>
   intro hk
   have h1:=List.getElem?_eq_getElem (l:=bs) (i:=k) (by omega)
   have h2:(dataL (off:Int) bs.length)[k]?=some ((off:Int)+(k:Int)):=by
    unfold dataL;rw [List.getElem?_map,List.getElem?_range (by omega)];rfl
   have h3:((dataL (off:Int) bs.length).zip bs)[k]?=some ((off:Int)+(k:Int),bs[k]):=by rw [List.getElem?_zip_eq_some];exact ⟨h2,h1⟩
   have hl:(bs.take k).length=k:=by rw [List.length_take];omega
   rw [Pl.Zd8 h1,Pl.Zd8 h3,Zaz8,←ih (by omega),Zbaz (by rw [hl];omega),hl]
   congr 1
 have:=main bs.length (Nat.le_refl _)
 rw [List.take_length] at this
 rw [this,List.take_of_length_le (Nat.le_of_eq hz)]
theorem Zb9p (a ad w:Int) (M:List CellT):Ztu (a,(ad,(w,(M,()))))=some (rd M a,(ad,(w,(M,())))):=by
 show Zq2 a ad w M=_
 unfold Zq2
 exact congrArg (fun z:Int=>(some (z,(ad,(w,(M,())))):Option (Out Zhx))) (mget_c M a)
def mc {α:Type} (n:NetD) (ord:List (NodeD×NodeI)) (ls:List Bool) (rs:List RamT) (r:α):=nt n (ord.map (fun x=>nodeT x.1),(ls,(rs,r)))
section
variable {n:NetD} {V:Nat} (hs:Snd n V) (ft:Fit n)
include hs
theorem vS_5 (ord:List (NodeD×NodeI)) (ls ins:List Bool) (rs:List RamT) (v:List Bool) (hv:v.length=V+1) (hi:ins.length=n.inputs.length) :
  Zamu (ins,((ins.length:Int),((0:Int),mc n ord ls rs (v,()))))=some (mc n ord ls rs (setZ v (n.inputs.zip ins),())):=by
 have hl:=hs.lens.1
 have hz:(n.inputs.zip ins).length=n.inputs.length:=by rw [List.length_zip];omega
 unfold Zamu;delta u15
 refine Zif (fun k:Nat=>(ins,((ins.length:Int),((k:Int),mc n ord ls rs (setZ v ((n.inputs.zip ins).take k),()))))) n.inputs.length rfl ?_ ?_ (Ze8 (by omega))
 ·intro k hk
  have h1:=List.getElem?_eq_getElem hk
  have h2:=List.getElem?_eq_getElem (l:=ins) (i:=k) (by omega)
  have h3:(n.inputs.zip ins)[k]?=some (n.inputs[k],ins[k]):=by rw [List.getElem?_zip_eq_some];exact ⟨h1,h2⟩
  have hr:=hs.rng n.inputs[k] (by unfold Zbm;simp)
  have e:∀(a b:List Bool) (p q:Int),a=b→p=q→(some (.inl (ins,((ins.length:Int),(p,mc n ord ls rs (a,()))))):Option (TL Zag1.σs⊕Out Zafi))=some (.inl (ins,((ins.length:Int),(q,mc n ord ls rs (b,()))))):=by rintro _ _ _ _ rfl rfl;rfl
  unfold mc nt
  try dsimp only
  unfold Zail
  have g1:gt (.int .i64) n.inputs (k:Int)=n.inputs[k]:=gt_at (σ:=.int .i64) h1
  refine br_tt (dec_t (show (k:Int)<(ins.length:Int) by omega)) (Zaj (Zar ⟨by omega,by omega⟩) (Zaj (Zar ⟨by omega,by omega⟩) (Zaj ?_ (e _ _ _ _ ?_ (i64n (by omega) (by omega))))))
  ·rw [g1];exact Zar ⟨by omega,by rw [Zak1,hv];omega⟩
  ·rw [Pl.Zd8 h3,Zaz8,g1]
   have g2:gt .bool ins (k:Int)=ins[k]:=gt_at (σ:=.bool) h2
   rw [g2];rfl
 ·unfold mc nt
  try dsimp only
  unfold Zail
  rw [←hz,List.take_length,hz]
  exact br_ff (dec_f (show ¬(n.inputs.length:Int)<(ins.length:Int) by omega)) rfl
theorem vS_10 (ord:List (NodeD×NodeI)) (ls:List Bool) (rs:List RamT) (v:List Bool) (hv:v.length=V+1) (hi:ls.length=n.latches.length) :
  Zam2 ((ls.length:Int),((0:Int),mc n ord ls rs (v,())))=some (mc n ord ls rs (setZ v ((n.latches.map (·.var)).zip ls),())):=by
 have hl:=hs.lens.2.1
 have hz:((n.latches.map (·.var)).zip ls).length=n.latches.length:=by rw [List.length_zip,List.length_map];omega
 unfold Zam2;delta u14
 refine Zif (fun k:Nat=>((ls.length:Int),((k:Int),mc n ord ls rs (setZ v (((n.latches.map (·.var)).zip ls).take k),())))) n.latches.length rfl ?_ ?_ (Ze8 (by omega))
 ·intro k hk
  have h1:=List.getElem?_eq_getElem hk
  have h1':(n.latches.map latT)[k]?=some (latT n.latches[k]):=by rw [List.getElem?_map,h1];rfl
  have h2:=List.getElem?_eq_getElem (l:=ls) (i:=k) (by omega)
  have h3:((n.latches.map (·.var)).zip ls)[k]?=some (n.latches[k].var,ls[k]):=by rw [List.getElem?_zip_eq_some,List.getElem?_map,h1];exact ⟨rfl,h2⟩
  have hr:=hs.rng n.latches[k].var (by unfold Zbm;simp only [List.mem_append];exact .inl (.inl (.inr (List.mem_map.2 ⟨_,List.getElem_mem hk,rfl⟩))))
  have e:∀(a b:List Bool) (p q:Int),a=b→p=q→(some (.inl ((ls.length:Int),(p,mc n ord ls rs (a,())))):Option (TL Zafk.σs⊕Out Zaek))=some (.inl ((ls.length:Int),(q,mc n ord ls rs (b,())))):=by rintro _ _ _ _ rfl rfl;rfl
  have hL:((n.latches.map latT).length:Int)=(n.latches.length:Int):=by rw [List.length_map]
  unfold mc nt
  try dsimp only
  unfold Zahj
  have g1:(gt Za0 (n.latches.map latT) (k:Int)).1=n.latches[k].var:=by rw [gt_at (σ:=Za0) h1'];rfl
  refine br_tt (dec_t (show (k:Int)<(ls.length:Int) by omega)) (Zaj (Zar ⟨by omega,by omega⟩) (Zaj (Zar ⟨by omega,by omega⟩) (Zaj ?_ (e _ _ _ _ ?_ (i64n (by omega) (by omega))))))
  ·rw [g1];exact Zar ⟨by omega,by rw [Zak1,hv];omega⟩
  ·rw [Pl.Zd8 h3,Zaz8,g1]
   have g2:gt .bool ls (k:Int)=ls[k]:=gt_at (σ:=.bool) h2
   rw [g2];rfl
 ·unfold mc nt
  try dsimp only
  unfold Zahj
  rw [←hz,List.take_length,hz]
  exact br_ff (dec_f (show ¬(n.latches.length:Int)<(ls.length:Int) by omega)) rfl
include ft
theorem vS_16 {K:Nat} (hK:K≤5000) (ls:List Bool) (cs:List (List CellT)) (ok:StOk n K ls cs) (v:List Bool) (hv:v.length=V+1) :
  Zam1 ((ordF n V).map (fun x=>nodeT x.1),(((ordF n V).length:Int),((0:Int),mc n (ordF n V) ls (rms n cs) (v,()))))=some (mc n (ordF n V) ls (rms n cs) ((ordF n V).foldl (nodeV n cs) v,())):=by
 have hol:=Zb9c hs
 have h6:=n6_ok hs
 unfold Zam1;delta u15
 refine Zif (fun k:Nat=>((ordF n V).map (fun x=>nodeT x.1),(((ordF n V).length:Int),((k:Int),mc n (ordF n V) ls (rms n cs) (((ordF n V).take k).foldl (nodeV n cs) v,()))))) (ordF n V).length rfl ?_ ?_ (Ze8 (by omega))
 ·intro k hk
  have hx:=List.getElem?_eq_getElem hk
  have hm:=Zb9b (List.getElem_mem hk)
  have hst:((ordF n V).take (k+1)).foldl (nodeV n cs) v=nodeV n cs (((ordF n V).take k).foldl (nodeV n cs) v) (ordF n V)[k]:=by
   rw [Pl.Zd8 hx,List.foldl_append];rfl
  have hlen:(((ordF n V).take k).foldl (nodeV n cs) v).length=V+1:=by rw [Zayk,hv]
  generalize ((ordF n V).take k).foldl (nodeV n cs) v=u at hst hlen
  have hx':((ordF n V).map (fun x=>nodeT x.1))[k]?=some (nodeT (ordF n V)[k].1):=by rw [List.getElem?_map,hx];rfl
  generalize (ordF n V)[k]=x at hx' hm hst
  have hi:=Zhb hx'
  have his:=n6_is n hm
  have hmI:x.2∈Zj5 n:=by rw [←Zb4n];exact List.mem_map_of_mem hm
  have hg:gt Za4 ((ordF n V).map (fun x=>nodeT x.1)) (k:Int)=nodeT x.1:=gt_at (σ:=Za4) hx'
  have hin:inb (k:Int) (List.length ((ordF n V).map (fun x=>nodeT x.1)))=true:=Zar ⟨by omega,by omega⟩
  have e:∀(a b:List Bool) (p q:Int) (R R':List RamT),a=b→p=q→R=R'→(some (.inl ((ordF n V).map (fun x=>nodeT x.1),(((ordF n V).length:Int),(p,mc n (ordF n V) ls R (a,()))))):Option (TL Zafj.σs⊕Out Zaej))=some (.inl ((ordF n V).map (fun x=>nodeT x.1),(((ordF n V).length:Int),(q,mc n (ordF n V) ls R' (b,()))))):=by rintro _ _ _ _ _ _ rfl rfl rfl;rfl
  have hk1:IntKind.wrap .i64 ((k:Int)+(1:Int))=((k+1:Nat):Int):=i64n (by omega) (by omega)
  rw [hst]
  unfold mc nt
  try dsimp only
  unfold Zahi
  rw [hg]
  refine br_tt (dec_t (show (k:Int)<((ordF n V).length:Int) by omega)) (Zaj hin ?_)
  have hf:=h6.frm x hm
  have hv2:=hs.v2
  rcases his with ⟨h,a,ha,hI⟩ | ⟨h,M,r,hM,hr,hI⟩
  ·-- a gate
   have hto:x.2.to=[a.var]:=by rw [hI];rfl
   have hfr:x.2.frm=[a.a,a.b]:=by rw [hI];rfl
   have ra:=hf.2 a.a (by rw [hfr];simp)
   have rb:=hf.2 a.b (by rw [hfr];simp)
   have rv:=hs.toRng hmI (v:=a.var) (by rw [hto];simp)
   have ha':(n.ands.map andT)[x.1.pos]?=some (andT a):=by rw [List.getElem?_map,ha];rfl
   have hal:=Zhb ha'
   have gA:gt Za0 (n.ands.map andT) (x.1.pos:Int)=andT a:=gt_at (σ:=Za0) ha'
   have e0:Zacg ((gt Za0 (n.ands.map andT) (x.1.pos:Int)).2.1,(u,()))=some (evF a.a u,()):=by rw [gA];exact Zb49 a.a u (by omega)
   have e1:Zacg ((gt Za0 (n.ands.map andT) (x.1.pos:Int)).2.2.1,(u,()))=some (evF a.b u,()):=by rw [gA];exact Zb49 a.b u (by omega)
   have gv:(gt Za0 (n.ands.map andT) (x.1.pos:Int)).1=a.var:=by rw [gA];rfl
   have iv:inb (gt Za0 (n.ands.map andT) (x.1.pos:Int)).1 (List.length u)=true:=by rw [gv];exact Zar ⟨by omega,by omega⟩
   have hn:nodeV n cs u x=u.set a.var.toNat (evF a.a u&&evF a.b u):=by
    unfold nodeV;rw [if_pos h,hto,hfr];rfl
   have ee:∀(p q:Int) (c d:Bool),p=q→c=d→List.set u (Int.toNat p) c=List.set u (Int.toNat q) d:=by rintro _ _ _ _ rfl rfl;rfl
   refine br_tt (show Bool.not x.1.rd=true by rw [h];rfl) (Zaj (show inb (x.1.pos:Int) (List.length (n.ands.map andT))=true from Zar ⟨by omega,by omega⟩) (Zba e0 ?_))
   cases hA:evF a.a u with
   | true=>
    refine br_tt rfl (Zaj (dec_t rfl) (Zba e1 (Zaj iv (Zaj (dec_t rfl) (e _ _ _ _ _ _ ?_ hk1 rfl)))))
    rw [hn,hA]
    exact ee _ _ _ _ gv (by cases evF a.b u<;>rfl)
   | false=>
    refine br_ff rfl (Zaj (dec_t rfl) (Zaj iv (e _ _ _ _ _ _ ?_ hk1 rfl)))
    rw [hn,hA]
    exact ee _ _ _ _ gv rfl
  ·-- a port
   have hMm:=List.mem_of_getElem? hM
   obtain ⟨hm1,hm2,hm3,hm4,hm5,hm6,_⟩:=hs.mems M hMm
   have hrm:=List.mem_of_getElem? hr
   have hto:x.2.to=dataL r.var M.word.toNat:=by rw [hI];rfl
   have hfr:x.2.frm=r.addr:=by rw [hI];rfl
   have hfl:=hm5 r hrm
   have hml:=Zhb hM
   have hcs:=ok.csL
   have hcc:=List.getElem?_eq_getElem (l:=cs) (i:=x.1.mem) (by omega)
   have hcok:=ok.ok x.1.mem M cs[x.1.mem] hM hcc
   have hM':(n.mems.map memT)[x.1.mem]?=some (memT M):=by rw [List.getElem?_map,hM];rfl
   have hR':(M.reads.map readT)[x.1.pos]?=some (readT r):=by rw [List.getElem?_map,hr];rfl
   have hrl:=Zhb hR'
   have gM:gt Za1 (n.mems.map memT) (x.1.mem:Int)=memT M:=gt_at (σ:=Za1) hM'
   have gR:gt Zb3 (gt Za1 (n.mems.map memT) (x.1.mem:Int)).2.2.2.1 (x.1.pos:Int)=readT r:=by rw [gM];exact gt_at (σ:=Zb3) hR'
   obtain ⟨W,hW⟩:=Int.eq_ofNat_of_zero_le (show 0≤M.word by omega)
   have htl:x.2.to.length=W:=by rw [hto,Zol,hW];rfl
   have rv0:=hs.toRng hmI (v:=r.var) (by rw [hto];unfold dataL;exact List.mem_map.2 ⟨0,List.mem_range.2 (by omega),by simp⟩)
   have rv1:=hs.toRng hmI (v:=r.var+((W - 1:Nat):Int)) (by rw [hto];unfold dataL;exact List.mem_map.2 ⟨W - 1,List.mem_range.2 (by omega),rfl⟩)
   obtain ⟨p,hp⟩:=Int.eq_ofNat_of_zero_le (show 0≤r.var by omega)
   have e2:Zalr ((gt Zb3 (gt Za1 (n.mems.map memT) (x.1.mem:Int)).2.2.2.1 (x.1.pos:Int)).2.1,(u,()))=some ((wordF (x.2.frm.map (evF · u)):Int),()):=by
    rw [gR,hfr]
    exact Zb6d r.addr u (by omega) (fun l hl=>by have:=hf.2 l (by rw [hfr];exact hl);omega)
   have hra:=Zb99 (n:=n) (cs:=cs) hM hcc
   have hrd:List.getD (rms n cs) (Int.toNat (x.1.mem:Int)) zR=(M.addr,(M.word,(cs[x.1.mem],()))):=by
    rw [List.getD_eq_getElem?_getD,Int.toNat_natCast,hra];rfl
   have e1:Ztu ((wordF (x.2.frm.map (evF · u)):Int),((List.getD (rms n cs) (Int.toNat (x.1.mem:Int)) zR).1,((List.getD (rms n cs) (Int.toNat (x.1.mem:Int)) zR).2.1,((List.getD (rms n cs) (Int.toNat (x.1.mem:Int)) zR).2.2.1,()))))=some (rd cs[x.1.mem] (wordF (x.2.frm.map (evF · u))),(M.addr,(M.word,(cs[x.1.mem],())))):=by
    rw [hrd];exact Zb9p _ _ _ _
   have hrr:=rd_rng hcok (by omega) (wordF (x.2.frm.map (evF · u)))
   obtain ⟨q,hq⟩:=Int.eq_ofNat_of_zero_le hrr.1
   have e0:Zaxv (rd cs[x.1.mem] (wordF (x.2.frm.map (evF · u))),((gt Za1 (n.mems.map memT) (x.1.mem:Int)).2.1,()))=some (Zaqa q W,()):=by
    have gw:(gt Za1 (n.mems.map memT) (x.1.mem:Int)).2.1=M.word:=by rw [gM];rfl
    rw [gw,hq,hW];exact bools_is q W (by omega) (by omega)
   have hn:nodeV n cs u x=setZ u (x.2.to.zip (Zaqa q W)):=by
    unfold nodeV
    rw [if_neg (by rw [h];simp),List.getD_eq_getElem?_getD,hcc,htl]
    show setZ u (x.2.to.zip (Zaqa (rd cs[x.1.mem] _).toNat W))=_
    rw [hq];rfl
   have gvr:(gt Zb3 (gt Za1 (n.mems.map memT) (x.1.mem:Int)).2.2.2.1 (x.1.pos:Int)).1=(p:Int):=by rw [gR,←hp];rfl
   have hcp:cpyL u p (List.take (u.length - p) (Zaqa q W))=nodeV n cs u x:=by
    rw [List.take_of_length_le (by rw [Zare];omega),hn,cpy_set (by rw [Zare];omega),Zare,hto,hp,hW];rfl
   have hset:List.set (rms n cs) (Int.toNat (x.1.mem:Int)) (M.addr,(M.word,(cs[x.1.mem],())))=rms n cs:=by
    rw [Int.toNat_natCast]
    have hlt:=Zhb hra
    rw [List.getElem?_eq_getElem hlt] at hra
    injection hra with hra
    rw [←hra];exact List.set_getElem_self hlt
   have hb:∀y:Int,y=(p:Int)→both (iE (0:Int) y) (iE y (Int.ofNat (List.length u)))=true:=by
    rintro _ rfl
    show both (decide _) (decide _)=true
    rw [decide_eq_true (by omega),decide_eq_true (by show (p:Int)≤(u.length:Int);omega)];rfl
   have ee:∀(y:Int),y=(p:Int)→cpyL u (Int.toNat y) (List.take (u.length - Int.toNat y) (Zaqa q W))=nodeV n cs u x:=by rintro _ rfl;rw [Int.toNat_natCast];exact hcp
   refine br_ff (show Bool.not x.1.rd=false by rw [h];rfl) (Zaj (show inb (x.1.mem:Int) (List.length (n.mems.map memT))=true from Zar ⟨by omega,by rw [List.length_map];omega⟩) (Zaj (show inb (x.1.pos:Int) (List.length (gt Za1 (n.mems.map memT) (x.1.mem:Int)).2.2.2.1)=true by rw [gM];exact Zar ⟨by omega,by show _<((M.reads.map readT).length:Int);omega⟩)
    (Zaj (show inb (x.1.mem:Int) (List.length (rms n cs))=true from Zar ⟨by omega,by rw [Zb3f ok.csL];omega⟩) (Zba e2 (Zba e1 (Zaj (hb _ gvr) (Zba e0 (e _ _ _ _ _ _ (ee _ gvr) hk1 hset))))))))
 ·unfold mc nt
  try dsimp only
  unfold Zahi
  rw [List.take_length]
  exact br_ff (dec_f (show ¬((ordF n V).length:Int)<((ordF n V).length:Int) by omega)) rfl
theorem Zb9n {K:Nat} (hK:K≤5000) (ls ins:List Bool) (cs:List (List CellT)) (ok:StOk n K ls cs) (hi:ins.length=n.inputs.length) :
  Zatf (ins,mc n (ordF n V) ls (rms n cs) ())=some ((0:Int),mc n (ordF n V) ls (rms n cs) (valF n ls cs ins,())):=by
 have hv2:=hs.v2
 have hV:n.vars.toNat=V:=by rw [hs.vars];rfl
 have hw:IntKind.wrap (.i64:IntKind) (n.vars+1)=((V+1:Nat):Int):=by rw [hs.vars,i64w (by omega)];omega
 have e5:=vS_5 hs (ordF n V) ls ins (rms n cs) (List.replicate (V+1) false) (by simp) hi
 have e10:=vS_10 hs (ordF n V) ls (rms n cs) (setZ (List.replicate (V+1) false) (n.inputs.zip ins)) (by rw [Zak1];simp) ok.lsL
 have hval:setZ (setZ (List.replicate (V+1) false) (n.inputs.zip ins)) ((n.latches.map (·.var)).zip ls)=val0 n ls ins:=by unfold val0;rw [hV]
 rw [hval] at e10
 have e16:=vS_16 hs ft hK ls cs ok (val0 n ls ins) (by rw [Zb3v,hV])
 have hfin:(ordF n V).foldl (nodeV n cs) (val0 n ls ins)=valF n ls cs ins:=by unfold valF;rw [hV]
 rw [hfin] at e16
 have hol:((ordF n V).length:Int)=((((ordF n V).map (fun x=>nodeT x.1)).length:Nat):Int):=by rw [List.length_map]
 rw [hol] at e16
 show Zao4 Zacg Zaxv Zalr Ztu Zamu Zam2 Zam1 ins n.vars n.inputs (n.latches.map latT) n.outputs n.bads n.constraints (n.mems.map memT) (n.ands.map andT) ((ordF n V).map (fun x=>nodeT x.1)) ls (rms n cs)=_
 unfold Zao4
 have q1:(iQ (Int.ofNat (List.length ins)) (Int.ofNat (List.length n.inputs)))=true:=dec_t (by rw [hi])
 rw [hw]
 refine br_ff (by rw [q1];rfl) (Zaj (by show both (decide _) (both (decide _) (decide _))=true;rw [decide_eq_true (by omega),decide_eq_true (by omega),decide_eq_true (by show (1:Int)*_≤_;omega)];rfl) (Zba e5 (Zba e10 (Zba e16 rfl))))
end
def wrP (v:List Bool) (c:List CellT) (w:Zz7):List CellT:=
 if evF w.on v=true then wr c (wordF (w.addr.map (evF · v))) (wordF (w.data.map (evF · v))) else c
def nextC (v:List Bool) (m:MemD) (c:List CellT):List CellT:=m.writes.foldl (wrP v) c
def nextL (n:NetD) (v:List Bool):List Bool:=n.latches.map fun l=>evF l.next v
def nextM (n:NetD) (cs:List (List CellT)) (v:List Bool):List (List CellT):=List.zipWith (nextC v) n.mems cs
def badsF (n:NetD) (v:List Bool):List Bool:=n.bads.map (evF · v)
def fineF (n:NetD) (v:List Bool):Bool:=n.constraints.all (evF · v)
theorem Zb9i {a:Int} {q:CellT}:∀{L:List CellT},q∈cdel a L→q∈L
 | [],h=>h
 | p :: M,h=>by
  rw [Zb2s] at h
  split at h
  ·simp [h]
  ·rcases List.mem_cons.1 h with h | h
   ·simp [h]
   ·simp [Zb9i h]
theorem Zb9h {a w:Int} {q:CellT}:∀{L:List CellT},q∈cput a w L→q=(a,w,())∨q∈L
 | [],h=>by
  have:q∈[((a,w,()):CellT)]:=h
  simp at this;exact .inl this
 | p :: M,h=>by
  rw [Zazc] at h
  split at h
  ·rcases List.mem_cons.1 h with h | h
   ·exact .inl h
   ·exact .inr h
  ·split at h
   ·rcases List.mem_cons.1 h with h | h
    ·exact .inl h
    ·exact .inr (by simp [h])
   ·rcases List.mem_cons.1 h with h | h
    ·exact .inr (by simp [h])
    ·rcases Zb9h h with h | h
     ·exact .inl h
     ·exact .inr (by simp [h])
theorem wr_mem {a w:Int} {q:CellT} {L:List CellT} (h:q∈wr L a w):(w≠0∧q=(a,w,()))∨q∈L:=by
 unfold wr at h
 split at h
 ·exact .inr (Zb9i h)
 ·rename_i h0
  rcases Zb9h h with h | h
  ·exact .inl ⟨h0,h⟩
  ·exact .inr h
theorem Zb4d {l:List Bool} {k:Int} (h:(l.length:Int)=k):((wordF l:Nat):Int)<2^k.toNat:=by
 have e:k.toNat=l.length:=by omega
 have:=Zb74 l
 rw [e]
 exact_mod_cast this
theorem wrP_ok {m:MemD} {k:Nat} {c:List CellT} {v:List Bool} {w:Zz7} (h:Zb3e m k c) (ha:(w.addr.length:Int)=m.addr) (hd:(w.data.length:Int)=m.word):Zb3e m (k+1) (wrP v c w):=by
 unfold wrP
 split
 ·refine ⟨wr_sor h.sor,Nat.le_trans (wr_len _ _ _) (by have:=h.len;omega),fun p hp=>?_,fun p hp=>?_⟩
  ·rcases wr_mem hp with ⟨h0,rfl⟩ | hp
   ·exact ⟨by show (0:Int)≤((wordF _:Nat):Int);omega,Zb4d (by rw [List.length_map];exact ha)⟩
   ·exact h.at_ p hp
  ·rcases wr_mem hp with ⟨h0,rfl⟩ | hp
   ·exact ⟨by show (0:Int)<((wordF _:Nat):Int);omega,Zb4d (by rw [List.length_map];exact hd)⟩
   ·exact h.wd p hp
 ·exact ⟨h.sor,by have:=h.len;omega,h.at_,h.wd⟩
theorem Zb7d {m:MemD} {v:List Bool}:∀{l:List Zz7} {k:Nat} {c:List CellT},Zb3e m k c→(∀w∈l,(w.addr.length:Int)=m.addr∧(w.data.length:Int)=m.word)→Zb3e m (k+l.length) (l.foldl (wrP v) c)
 | [],k,c,h,_=>h
 | w :: l,k,c,h,hw=>by
  have:=Zb7d (v:=v) (l:=l) (wrP_ok (v:=v) h (hw w (by simp)).1 (hw w (by simp)).2) (fun x hx=>hw x (by simp [hx]))
  rw [List.foldl_cons,List.length_cons]
  rw [show k+1+l.length=k+(l.length+1) by omega] at this
  exact this
theorem Zbak {n:NetD} {V:Nat} (hs:Snd n V) {K:Nat} {ls:List Bool} {cs:List (List CellT)} (ok:StOk n K ls cs) (v:List Bool):StOk n (K+4) (nextL n v) (nextM n cs v):=by
 refine ⟨by unfold nextL;rw [List.length_map],by unfold nextM;rw [List.length_zipWith];have:=ok.csL;omega,fun i m c hm hc=>?_⟩
 unfold nextM at hc
 rw [List.getElem?_zipWith,hm] at hc
 have hlt:=Zhb hm
 have hlc:i<cs.length:=by have:=ok.csL;omega
 have h2:=List.getElem?_eq_getElem hlc
 rw [h2] at hc
 injection hc with hc
 obtain ⟨_,_,_,_,_,h6,_,h8⟩:=hs.mems m (List.mem_of_getElem? hm)
 have:=Zb7d (v:=v) (ok.ok i m cs[i] hm h2) h6
 rw [←hc]
 exact ⟨this.sor,by have:=this.len;unfold nextC;omega,this.at_,this.wd⟩
section
variable {n:NetD} {V:Nat} (hs:Snd n V)
include hs
theorem Zb4o {l:Int} (h:l∈Zch n):l<9223372036854775808:=by
 have:=hs.lits l h
 have:=hs.v2
 omega
theorem Zb80 {m:MemD} {w:Zz7} (hm:m∈n.mems) (hw:w∈m.writes):w.on<9223372036854775808∧(∀l∈w.addr,l<9223372036854775808)∧∀l∈w.data,l<9223372036854775808:=by
 have hin:∀l∈Za4e w,l∈Zch n:=fun l hl=>by
  unfold Zch;simp only [List.mem_append]
  refine .inl (.inr (List.mem_flatMap.2 ⟨m,hm,?_⟩))
  unfold memL;rw [List.mem_append]
  exact .inr (List.mem_flatMap.2 ⟨w,hw,hl⟩)
 exact ⟨Zb4o hs (hin _ (by unfold Za4e;simp)),fun l hl=>Zb4o hs (hin _ (by unfold Za4e;simp [hl])),fun l hl=>Zb4o hs (hin _ (by unfold Za4e;simp [hl]))⟩
end
theorem Zbav {x k:Int} (h0:0≤x) (h:x<2^k.toNat):fitB2 x k=true:=by
 unfold fitB2
 rw [decide_eq_true (Int.ediv_eq_zero_of_lt h0 h)]
theorem Zb8o {m:MemD} {a w:Nat} {M:List CellT} (m1:1≤m.addr∧m.addr≤62) (m2:1≤m.word∧m.word≤64) (ha:(a:Int)<2^m.addr.toNat) (hw:(w:Int)<2^m.word.toNat) :
  Zt0 ((a:Int),((w:Int),(m.addr,(m.word,(M,())))))=some (true,(m.addr,(m.word,(wr M a w,())))):=by
 have f1:=Zvu (v:=(a:Int)) (w:=m.addr) ⟨by omega,by omega⟩
 have f2:=Zvu (v:=(w:Int)) (w:=m.word) ⟨by omega,by omega⟩
 rw [Zbav (by omega) ha] at f1
 rw [Zbav (by omega) hw] at f2
 show Zoo Zhe (a:Int) (w:Int) m.addr m.word M=_
 unfold Zoo
 have e:∀A B:List CellT,A=B→(some (true,(m.addr,(m.word,(A,())))):Option (Out Zhk))=some (true,(m.addr,(m.word,(B,())))):=by rintro _ _ rfl;rfl
 refine Zba f1 (br_ff rfl (Zba f2 (br_ff rfl ?_)))
 unfold wr
 by_cases h0:(w:Int)=0
 ·rw [if_pos h0];exact br_tt (dec_t h0) (e _ _ (Zbao _ _))
 ·rw [if_neg h0];exact br_ff (dec_f h0) (e _ _ (Zban _ _ _))
section
variable {n:NetD} {V:Nat} (hs:Snd n V)
include hs
theorem writeS_2 (ord:List (NodeD×NodeI)) (ls:List Bool) (rs:List RamT) (v:List Bool) {i K:Nat} {m:MemD} {c:List CellT} (hm:n.mems[i]?=some m) (hc:Zb3e m K c) (hK:K≤5000) (hr:i<rs.length) :
  Zao2 ((i:Int),(m.writes.map Zt4,((m.writes.length:Int),((0:Int),mc n ord ls (rs.set i (m.addr,(m.word,(c,())))) (v,())))))=some (mc n ord ls (rs.set i (m.addr,(m.word,(nextC v m c,())))) (v,())):=by
 have hmm:=List.mem_of_getElem? hm
 obtain ⟨m1,m2,m3,m4,_,h6,_,h8⟩:=hs.mems m hmm
 unfold Zao2;delta u16
 refine Zif (fun k:Nat=>((i:Int),(m.writes.map Zt4,((m.writes.length:Int),((k:Int),mc n ord ls (rs.set i (m.addr,(m.word,((m.writes.take k).foldl (wrP v) c,())))) (v,())))))) m.writes.length rfl ?_ ?_ (Ze8 (by omega))
 ·intro k hk
  have hx:=List.getElem?_eq_getElem hk
  have hwm:=List.getElem_mem hk
  have hst:(m.writes.take (k+1)).foldl (wrP v) c=wrP v ((m.writes.take k).foldl (wrP v) c) m.writes[k]:=by rw [Pl.Zd8 hx,List.foldl_append];rfl
  rw [hst]
  generalize (m.writes.take k).foldl (wrP v) c=u
  obtain ⟨l1,l2,l3⟩:=Zb80 hs hmm hwm
  obtain ⟨a1,a2⟩:=h6 _ hwm
  have hw':(m.writes.map Zt4)[k]?=some (Zt4 m.writes[k]):=by rw [List.getElem?_map,hx];rfl
  have hwl:=Zhb hw'
  generalize m.writes[k]=w at l1 l2 l3 a1 a2 hw'
  have gW:gt Zb8 (m.writes.map Zt4) (k:Int)=Zt4 w:=gt_at (σ:=Zb8) hw'
  have e0:Zacg ((gt Zb8 (m.writes.map Zt4) (k:Int)).1,(v,()))=some (evF w.on v,()):=by rw [gW];exact Zb49 w.on v l1
  have e1:Zalr ((gt Zb8 (m.writes.map Zt4) (k:Int)).2.1,(v,()))=some ((wordF (w.addr.map (evF · v)):Int),()):=by rw [gW];exact Zb6d w.addr v (by omega) l2
  have e2:Zalr ((gt Zb8 (m.writes.map Zt4) (k:Int)).2.2.1,(v,()))=some ((wordF (w.data.map (evF · v)):Int),()):=by rw [gW];exact Zb6d w.data v (by omega) l3
  have hg:List.getD (rs.set i (m.addr,(m.word,(u,())))) (Int.toNat (i:Int)) zR=(m.addr,(m.word,(u,()))):=by
   rw [List.getD_eq_getElem?_getD,Int.toNat_natCast,List.getElem?_set_self hr];rfl
  have e3:Zt0 ((wordF (w.addr.map (evF · v)):Int),((wordF (w.data.map (evF · v)):Int),((List.getD (rs.set i (m.addr,(m.word,(u,())))) (Int.toNat (i:Int)) zR).1,((List.getD (rs.set i (m.addr,(m.word,(u,())))) (Int.toNat (i:Int)) zR).2.1,((List.getD (rs.set i (m.addr,(m.word,(u,())))) (Int.toNat (i:Int)) zR).2.2.1,())))))=some (true,(m.addr,(m.word,(wr u (wordF (w.addr.map (evF · v))) (wordF (w.data.map (evF · v))),())))):=by
   rw [hg]
   exact Zb8o ⟨m1,m2⟩ ⟨m3,m4⟩ (Zb4d (by rw [List.length_map];exact a1)) (Zb4d (by rw [List.length_map];exact a2))
  have e:∀(A B:List RamT) (p q:Int),A=B→p=q→(some (.inl ((i:Int),(m.writes.map Zt4,((m.writes.length:Int),(p,mc n ord ls A (v,())))))):Option (TL Zahh.σs⊕Out Zag0))=some (.inl ((i:Int),(m.writes.map Zt4,((m.writes.length:Int),(q,mc n ord ls B (v,())))))):=by rintro _ _ _ _ rfl rfl;rfl
  unfold mc nt
  try dsimp only
  unfold Zajj
  refine br_tt (dec_t (show (k:Int)<(m.writes.length:Int) by omega)) (Zaj (Zar ⟨by omega,by omega⟩) (Zba e0 ?_))
  unfold wrP
  cases hon:evF w.on v with
  | true=>
   rw [if_pos rfl]
   refine br_tt rfl (Zba e1 (Zba e2 (Zba e3 (e _ _ _ _ ?_ (i64n (by omega) (by omega))))))
   exact List.set_set _
  | false=>rw [if_neg (by simp)];exact br_ff rfl (e _ _ _ _ rfl (i64n (by omega) (by omega)))
 ·unfold mc nt
  try dsimp only
  unfold Zajj
  rw [List.take_length]
  exact br_ff (dec_f (show ¬(m.writes.length:Int)<(m.writes.length:Int) by omega)) rfl
theorem Zb9y (ord:List (NodeD×NodeI)) (ls:List Bool) (rs:List RamT) (v:List Bool) {i K:Nat} {m:MemD} {c:List CellT} (hm:n.mems[i]?=some m) (hc:Zb3e m K c) (hK:K≤5000) (hr:rs[i]?=some (m.addr,(m.word,(c,())))) :
  Zauz ((i:Int),mc n ord ls rs (v,()))=some (mc n ord ls (rs.set i (m.addr,(m.word,(nextC v m c,())))) (v,())):=by
 have hm':(n.mems.map memT)[i]?=some (memT m):=by rw [List.getElem?_map,hm];rfl
 have hi:=Zhb hm'
 have hri:=Zhb hr
 have hset:rs.set i (m.addr,(m.word,(c,())))=rs:=by
  rw [List.getElem?_eq_getElem hri] at hr
  injection hr with hr
  rw [←hr];exact List.set_getElem_self hri
 have e2:=writeS_2 hs ord ls rs v hm hc hK hri
 rw [hset] at e2
 have gM:gt Za1 (n.mems.map memT) (i:Int)=memT m:=gt_at (σ:=Za1) hm'
 have hwl:((gt Za1 (n.mems.map memT) (i:Int)).2.2.2.2.1)=m.writes.map Zt4:=by rw [gM];rfl
 have ee:∀(L:List Zb8.T),L=m.writes.map Zt4→Zao2 ((Int.ofNat (Int.toNat (i:Int))),(L,((Int.ofNat L.length),((0:Int),mc n ord ls rs (v,())))))=some (mc n ord ls (rs.set i (m.addr,(m.word,(nextC v m c,())))) (v,())):=by
  rintro _ rfl
  have hl:Int.ofNat (m.writes.map Zt4).length=(m.writes.length:Int):=by rw [List.length_map];rfl
  rw [hl];exact e2
 exact Zaj (show inb (i:Int) (List.length rs)=true from Zar ⟨by omega,by omega⟩) (Zaj (show inb (i:Int) (List.length (n.mems.map memT))=true from Zar ⟨by omega,by omega⟩) (Zba (ee _ hwl) rfl))
theorem stepS_6 (ord:List (NodeD×NodeI)) (ls:List Bool) (rs:List RamT) (v:List Bool) :
  Zaw6 (n.constraints,((n.constraints.length:Int),((0:Int),mc n ord ls rs (true,(v,())))))=some (mc n ord ls rs (fineF n v,(v,()))):=by
 have hl:=hs.lens.2.2.2.1
 unfold Zaw6;delta u16
 refine Zif (fun k:Nat=>(n.constraints,((n.constraints.length:Int),((k:Int),mc n ord ls rs ((n.constraints.take k).all (evF · v),(v,())))))) n.constraints.length rfl ?_ ?_ (Ze8 (by omega))
 ·intro k hk
  have hx:=List.getElem?_eq_getElem hk
  have hm:n.constraints[k]∈Zch n:=by unfold Zch;simp only [List.mem_append];exact .inl (.inl (.inr (List.getElem_mem hk)))
  have e1:Zacg (gt (.int .i64) n.constraints (k:Int),(v,()))=some (evF n.constraints[k] v,()):=by rw [gt_at (σ:=.int .i64) hx];exact Zb49 _ _ (Zb4o hs hm)
  have ht:(n.constraints.take (k+1)).all (evF · v)=((n.constraints.take k).all (evF · v)&&evF n.constraints[k] v):=by rw [Pl.Zd8 hx,List.all_append];simp
  have e:∀(a b:Bool) (p q:Int),a=b→p=q→(some (.inl (n.constraints,((n.constraints.length:Int),(p,mc n ord ls rs (a,(v,())))))):Option (TL Zaim.σs⊕Out Zahk))=some (.inl (n.constraints,((n.constraints.length:Int),(q,mc n ord ls rs (b,(v,())))))):=by rintro _ _ _ _ rfl rfl;rfl
  rw [ht]
  unfold mc nt
  try dsimp only
  unfold Zakt
  refine br_tt (dec_t (show (k:Int)<(n.constraints.length:Int) by omega)) (Zaj (Zar ⟨by omega,by omega⟩) ?_)
  cases (n.constraints.take k).all (evF · v) with
  | true=>exact br_tt rfl (Zba e1 (e _ _ _ _ (by cases evF n.constraints[k] v<;>rfl) (i64n (by omega) (by omega))))
  | false=>exact br_ff rfl (e _ _ _ _ rfl (i64n (by omega) (by omega)))
 ·unfold mc nt
  try dsimp only
  unfold Zakt
  rw [List.take_length]
  exact br_ff (dec_f (show ¬(n.constraints.length:Int)<(n.constraints.length:Int) by omega)) rfl
theorem stepS_11 (ord:List (NodeD×NodeI)) (ls:List Bool) (rs:List RamT) (f:Bool) (v:List Bool) :
  Zav8 (n.bads,((n.bads.length:Int),((0:Int),mc n ord ls rs (f,([],(v,()))))))=some (mc n ord ls rs (f,(badsF n v,(v,())))):=by
 have hl:=hs.lens.2.2.2.1
 unfold Zav8;delta u17
 refine Zif (fun k:Nat=>(n.bads,((n.bads.length:Int),((k:Int),mc n ord ls rs (f,((n.bads.take k).map (evF · v),(v,()))))))) n.bads.length rfl ?_ ?_ (Ze8 (by omega))
 ·intro k hk
  have hx:=List.getElem?_eq_getElem hk
  have hm:n.bads[k]∈Zch n:=by unfold Zch;simp only [List.mem_append];exact .inl (.inl (.inl (.inr (List.getElem_mem hk))))
  have e1:Zacg (gt (.int .i64) n.bads (k:Int),(v,()))=some (evF n.bads[k] v,()):=by rw [gt_at (σ:=.int .i64) hx];exact Zb49 _ _ (Zb4o hs hm)
  have ht:(n.bads.take (k+1)).map (evF · v)=(n.bads.take k).map (evF · v)++[evF n.bads[k] v]:=by rw [Pl.Zd8 hx,List.map_append];rfl
  have e:∀(a b:List Bool) (p q:Int),a=b→p=q→(some (.inl (n.bads,((n.bads.length:Int),(p,mc n ord ls rs (f,(a,(v,()))))))):Option (TL Zahn.σs⊕Out Zag4))=some (.inl (n.bads,((n.bads.length:Int),(q,mc n ord ls rs (f,(b,(v,()))))))):=by rintro _ _ _ _ rfl rfl;rfl
  unfold mc nt
  try dsimp only
  unfold Zajm
  exact br_tt (dec_t (show (k:Int)<(n.bads.length:Int) by omega)) (Zaj (Zar ⟨by omega,by omega⟩) (Zba e1 (Zaj (room1 _ _ (by rw [List.length_map,List.length_take];omega)) (e _ _ _ _ ht.symm (i64n (by omega) (by omega))))))
 ·unfold mc nt
  try dsimp only
  unfold Zajm
  rw [List.take_length]
  exact br_ff (dec_f (show ¬(n.bads.length:Int)<(n.bads.length:Int) by omega)) rfl
theorem Zbaa {α:Type} {A B:List α} {k:Nat} {x:α} (hA:A[k]?=some x) (hB:k<B.length):(A.take k++B.drop k).set k x=A.take (k+1)++B.drop (k+1):=by
 have hk:=(List.getElem?_eq_some_iff.1 hA).1
 rw [Zawe hB,setX (by rw [List.length_take];omega),Pl.Zd8 hA]
 simp
theorem stepS_16 (ord:List (NodeD×NodeI)) (ls:List Bool) (rs:List RamT) (f:Bool) (bs v:List Bool) (hls:ls.length=n.latches.length) :
  Zav7 (n.latches.map latT,(((n.latches.map latT).length:Int),((0:Int),mc n ord ls rs (f,(bs,(v,()))))))=some (mc n ord (nextL n v) rs (f,(bs,(v,())))):=by
 have hl:=hs.lens.2.1
 have hL:((n.latches.map latT).length:Int)=(n.latches.length:Int):=by rw [List.length_map]
 have hnl:(nextL n v).length=n.latches.length:=by unfold nextL;rw [List.length_map]
 unfold Zav7;delta u17
 refine Zif (fun k:Nat=>(n.latches.map latT,(((n.latches.map latT).length:Int),((k:Int),mc n ord ((nextL n v).take k++ls.drop k) rs (f,(bs,(v,()))))))) n.latches.length rfl ?_ ?_ (Ze8 (by omega))
 ·intro k hk
  have hx:=List.getElem?_eq_getElem hk
  have hx':(n.latches.map latT)[k]?=some (latT n.latches[k]):=by rw [List.getElem?_map,hx];rfl
  have hn:(nextL n v)[k]?=some (evF n.latches[k].next v):=by unfold nextL;rw [List.getElem?_map,hx];rfl
  have hm:n.latches[k].next∈Zch n:=by unfold Zch;simp only [List.mem_append];exact .inl (.inl (.inl (.inl (.inl (List.mem_map.2 ⟨_,List.getElem_mem hk,rfl⟩)))))
  have e1:Zacg ((gt Za0 (n.latches.map latT) (k:Int)).2.1,(v,()))=some (evF n.latches[k].next v,()):=by rw [gt_at (σ:=Za0) hx'];exact Zb49 n.latches[k].next v (Zb4o hs hm)
  have hmix:((nextL n v).take k++ls.drop k).set k (evF n.latches[k].next v)=(nextL n v).take (k+1)++ls.drop (k+1):=Zbaa hs hn (by omega)
  have hml:((nextL n v).take k++ls.drop k).length=n.latches.length:=by rw [List.length_append,List.length_take,List.length_drop];omega
  have e:∀(a b:List Bool) (p q:Int),a=b→p=q→(some (.inl (n.latches.map latT,(((n.latches.map latT).length:Int),(p,mc n ord a rs (f,(bs,(v,()))))))):Option (TL Zahm.σs⊕Out Zag3))=some (.inl (n.latches.map latT,(((n.latches.map latT).length:Int),(q,mc n ord b rs (f,(bs,(v,()))))))):=by rintro _ _ _ _ rfl rfl;rfl
  unfold mc nt
  try dsimp only
  unfold Zajl
  exact br_tt (dec_t (show (k:Int)<((n.latches.map latT).length:Int) by omega)) (Zaj (Zar ⟨by omega,by omega⟩) (Zba e1 (Zaj (Zar ⟨by omega,by omega⟩) (e _ _ _ _ hmix (i64n (by omega) (by omega))))))
 ·have hfin:(nextL n v).take n.latches.length++ls.drop n.latches.length=nextL n v:=by
   rw [List.drop_eq_nil_of_le (by omega),List.append_nil,List.take_of_length_le (by omega)]
  rw [hfin]
  unfold mc nt
  try dsimp only
  unfold Zajl
  exact br_ff (dec_f (show ¬(n.latches.length:Int)<((n.latches.map latT).length:Int) by omega)) rfl
theorem stepS_21 (ord:List (NodeD×NodeI)) (ls nl:List Bool) (cs:List (List CellT)) {K:Nat} (hK:K≤5000) (ok:StOk n K ls cs) (f:Bool) (bs v:List Bool) :
  Zav6 (((rms n cs).length:Int),((0:Int),mc n ord nl (rms n cs) (f,(bs,(v,())))))=some (mc n ord nl (rms n (nextM n cs v)) (f,(bs,()))):=by
 have hM:=hs.lens.2.2.2.2
 have hcl:=ok.csL
 have hz:(nextM n cs v).length=n.mems.length:=by unfold nextM;rw [List.length_zipWith];omega
 have hr1:=Zb3f hcl
 have hr2:=Zb3f hz
 unfold Zav6;delta u16
 refine Zif (fun k:Nat=>(((rms n cs).length:Int),((k:Int),mc n ord nl ((rms n (nextM n cs v)).take k++(rms n cs).drop k) (f,(bs,(v,())))))) n.mems.length rfl ?_ ?_ (Ze8 (by omega))
 ·intro k hk
  have hx:=List.getElem?_eq_getElem hk
  have hkc:k<cs.length:=by omega
  have hy:=List.getElem?_eq_getElem hkc
  have hn:(nextM n cs v)[k]?=some (nextC v n.mems[k] cs[k]):=by unfold nextM;rw [List.getElem?_zipWith,hx,hy]
  have ha:=Zb99 hx hy
  have hb:=Zb99 hx hn
  have hmid:((rms n (nextM n cs v)).take k++(rms n cs).drop k)[k]?=some (n.mems[k].addr,(n.mems[k].word,(cs[k],()))):=by
   rw [List.getElem?_append_right (by rw [List.length_take];omega),List.length_take,Nat.min_eq_left (by omega),Nat.sub_self,List.getElem?_drop]
   exact ha
  have ew:=Zb9y hs ord nl ((rms n (nextM n cs v)).take k++(rms n cs).drop k) v hx (ok.ok k _ _ hx hy) hK hmid
  rw [Zbaa hs hb (by omega)] at ew
  have e:∀(p q:Int) (R:List RamT),p=q→(some (.inl (((rms n cs).length:Int),(p,mc n ord nl R (f,(bs,(v,())))))):Option (TL Zahl.σs⊕Out Zag2))=some (.inl (((rms n cs).length:Int),(q,mc n ord nl R (f,(bs,(v,())))))):=by rintro _ _ _ rfl;rfl
  unfold mc nt
  try dsimp only
  unfold Zajk
  exact br_tt (dec_t (show (k:Int)<((rms n cs).length:Int) by omega)) (Zba ew (e _ _ _ (i64n (by omega) (by omega))))
 ·have hfin:(rms n (nextM n cs v)).take n.mems.length++(rms n cs).drop n.mems.length=rms n (nextM n cs v):=by
   rw [List.drop_eq_nil_of_le (by omega),List.append_nil,List.take_of_length_le (by omega)]
  rw [hfin]
  unfold mc nt
  try dsimp only
  unfold Zajk
  exact br_ff (dec_f (show ¬(n.mems.length:Int)<((rms n cs).length:Int) by omega)) rfl
theorem stepS_is (ft:Fit n) {K:Nat} (hK:K≤5000) (ls ins:List Bool) (cs:List (List CellT)) (ok:StOk n K ls cs) (hi:ins.length=n.inputs.length) :
  Zaak (ins,mc n (ordF n V) ls (rms n cs) ())=some (fineF n (valF n ls cs ins),((0:Int),mc n (ordF n V) (nextL n (valF n ls cs ins)) (rms n (nextM n cs (valF n ls cs ins))) (badsF n (valF n ls cs ins),()))):=by
 have ev:=Zb9n hs ft hK ls ins cs ok hi
 generalize valF n ls cs ins=v at ev
 exact Zba ev (br_ff rfl (Zba (stepS_6 hs (ordF n V) ls (rms n cs) v) (Zba (stepS_11 hs (ordF n V) ls (rms n cs) (fineF n v) v) (Zba (stepS_16 hs (ordF n V) ls (rms n cs) (fineF n v) (badsF n v) v ok.lsL) (Zba (stepS_21 hs (ordF n V) ls (nextL n v) cs hK ok (fineF n v) (badsF n v) v) rfl)))))
theorem Zb8i (ord:List (NodeD×NodeI)) (ls ins:List Bool) (rs:List RamT) (hi:ins.length≠n.inputs.length) :
  Zatf (ins,mc n ord ls rs ())=some ((1:Int),mc n ord ls rs ([],())):=by
 have q1:(iQ (Int.ofNat (List.length ins)) (Int.ofNat (List.length n.inputs)))=false:=dec_f (fun h=>hi (Int.ofNat.inj h))
 exact br_tt (show selB false true (Bool.not (iQ (Int.ofNat (List.length ins)) (Int.ofNat (List.length n.inputs))))=true by rw [q1];rfl) rfl
theorem Zba4 (ord:List (NodeD×NodeI)) (ls ins:List Bool) (rs:List RamT) (hi:ins.length≠n.inputs.length) :
  Zaak (ins,mc n ord ls rs ())=some (false,((1:Int),mc n ord ls rs ([],()))):=
 Zba (Zb8i hs ord ls ins rs hi) (br_tt rfl rfl)
end
end Go.Proofs.YtnocaehijdmkkaaGreat.V
end
