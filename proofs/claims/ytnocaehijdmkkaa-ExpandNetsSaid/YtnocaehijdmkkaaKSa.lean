import Derived.Test.YtnocaehijdmkkaaKNc
import Derived.Test.YtnocaehijdmkkaaKNd
import Derived.Test.YtnocaehijdmkkaaKMf
set_option linter.unusedVariables false
set_option linter.unusedSimpArgs false
set_option linter.unnecessarySimpa false
/- memories, states of netlists, the documents beside them (printed by VTool.lean). -/
namespace Go.Proofs.Ytnocaehijdmkkaa.V
open Go Go.RowKit
set_option maxRecDepth 1000000
abbrev Zcf:Lay:={ T:=[(1,.ptr 0 0),(3,.int .i64)],h:=[(0,.cells lNet 27)],nx:=1 }
abbrev Zbw:List (Ev.Ex×Lay):=[(.ret,{ T:=[(2,.bool)],h:=[],nx:=0 }),((.exit 0),{ T:=[],h:=[],nx:=0 })]
abbrev Zafh:=TL Zcf.σs→Option (Out Zbw)
abbrev Zac9:=Ld 0 132 (Zb5 [0] (Zaa Try.f29)) Zcf Zbw
abbrev ySa0:List (Nat×LO):=[(0,.cells lNet 27),(1,.cells [.int .i64,.int .i64,.bool,.fz Zb3,.fz Zb8] 60)]
abbrev Zay:Lay:={ T:=[(1,.ptr 0 0),(3,.int .i64),(4,.ptr 1 0),(6,.int .i64)],h:=ySa0,nx:=2 }
abbrev Zav:List (Ev.Ex×Lay):=[(.ret,{ T:=[(2,.bool)],h:=[],nx:=0 }),((.exit 4),{ T:=[(1,.ptr 0 0),(3,.int .i64)],h:=[(0,.cells lNet 27)],nx:=1 })]
abbrev Zabv:=TL Zay.σs→Option (Out Zav)
abbrev Zabx:=Ld 0 132 (Zb5 [0,1] (Zaa Try.f29)) Zay Zav
abbrev Zaz:Lay:={ T:=[(1,.ptr 0 0),(3,.int .i64),(4,.ptr 1 0),(5,.int .i64)],h:=ySa0,nx:=2 }
abbrev Zaw:List (Ev.Ex×Lay):=[(.ret,{ T:=[(2,.bool)],h:=[],nx:=0 }),((.exit 2),{ T:=[(1,.ptr 0 0),(3,.int .i64),(4,.ptr 1 0)],h:=ySa0,nx:=2 })]
abbrev Zabw:=TL Zaz.σs→Option (Out Zaw)
abbrev Zaby:=Ld 0 132 (Zb5 [0,0] (Zaa Try.f29)) Zaz Zaw
def Ze7 (t3 t5 b0_0:Int) (b0_1:List Int) (b0_2:List (Sh.T Za0)) (b0_3 b0_4 b0_5:List Int) (b0_6:List (Sh.T Za1)) (b0_7:List (Sh.T Za0)) (b1_0 b1_1:Int) (b1_2:Bool) (b1_3:List (Sh.T Zb3)) (b1_4:List (Sh.T Zb8)):Option (TL Zaz.σs⊕Out Zaw):=
 br (iL t5 (Int.ofNat (List.length b1_3)))
 (
  chk (inb t5 (List.length b1_3))<|
  br (iL (100:Int) (Int.ofNat (List.length (gt Zb3 b1_3 t5).2.1)))
  (
   some (.inr (.inl (false,()))))
  (
   chk (inb t5 (List.length b1_3))<|
   br (selB false true (iL (1099511627776:Int) (gt Zb3 b1_3 t5).1))
   (
    some (.inr (.inl (false,()))))
   (
    chk (inb t5 (List.length b1_3))<|
    br (selB false true (iL (gt Zb3 b1_3 t5).1 (Int.negSucc 1099511627775)))
    (
     some (.inr (.inl (false,()))))
    (
     some (.inl (t3,((IntKind.wrap .i64 (t5+(1:Int))),(b0_0,(b0_1,(b0_2,(b0_3,(b0_4,(b0_5,(b0_6,(b0_7,(b1_0,(b1_1,(b1_2,(b1_3,(b1_4,()))))))))))))))))))))
 (
  some (.inr (.inr (t3,(b0_0,(b0_1,(b0_2,(b0_3,(b0_4,(b0_5,(b0_6,(b0_7,(b1_0,(b1_1,(b1_2,(b1_3,(b1_4,())))))))))))))))))
def Zaeg  :Zaby:=mkL (u15 Ze7) (pL k0 e0 1 l0 fun d=>by kernel_rfl)
def Zd6:Zabw:=lpD (u15 Ze7) NN
def Ze6 (t3 t6 b0_0:Int) (b0_1:List Int) (b0_2:List (Sh.T Za0)) (b0_3 b0_4 b0_5:List Int) (b0_6:List (Sh.T Za1)) (b0_7:List (Sh.T Za0)) (b1_0 b1_1:Int) (b1_2:Bool) (b1_3:List (Sh.T Zb3)) (b1_4:List (Sh.T Zb8)):Option (TL Zay.σs⊕Out Zav):=
 br (iL t6 (Int.ofNat (List.length b1_4)))
 (
  chk (inb t6 (List.length b1_4))<|
  br (iL (100:Int) (Int.ofNat (List.length (gt Zb8 b1_4 t6).2.1)))
  (
   some (.inr (.inl (false,()))))
  (
   chk (inb t6 (List.length b1_4))<|
   br (selB false true (iL (100:Int) (Int.ofNat (List.length (gt Zb8 b1_4 t6).2.2.1))))
   (
    some (.inr (.inl (false,()))))
   (
    some (.inl (t3,((IntKind.wrap .i64 (t6+(1:Int))),(b0_0,(b0_1,(b0_2,(b0_3,(b0_4,(b0_5,(b0_6,(b0_7,(b1_0,(b1_1,(b1_2,(b1_3,(b1_4,())))))))))))))))))))
 (
  some (.inr (.inr (t3,(b0_0,(b0_1,(b0_2,(b0_3,(b0_4,(b0_5,(b0_6,(b0_7,()))))))))))))
def Zaef  :Zabx:=mkL (u15 Ze6) (pL k0 e0 1 l0 fun d=>by kernel_rfl)
def Zd5:Zabv:=lpD (u15 Ze6) NN
def Zeo (L10:Zabw) (L15:Zabv) (t3 b0_0:Int) (b0_1:List Int) (b0_2:List (Sh.T Za0)) (b0_3 b0_4 b0_5:List Int) (b0_6:List (Sh.T Za1)) (b0_7:List (Sh.T Za0)):Option (TL Zcf.σs⊕Out Zbw):=
 br (iL t3 (Int.ofNat (List.length b0_6)))
 (
  chk (inb t3 (List.length b0_6))<|
  br (iL (6:Int) (Int.ofNat (List.length (gt Za1 b0_6 t3).2.2.2.1)))
  (
   some (.inr (.inl (false,()))))
  (
   br (selB false true (iL (6:Int) (Int.ofNat (List.length (gt Za1 b0_6 t3).2.2.2.2.1))))
   (
    some (.inr (.inl (false,()))))
   (
    br (selB false true (iL (100:Int) (gt Za1 b0_6 t3).2.1))
    (
     some (.inr (.inl (false,()))))
    (
     bnd (L10 (t3,((0:Int),(b0_0,(b0_1,(b0_2,(b0_3,(b0_4,(b0_5,(b0_6,(b0_7,((gt Za1 b0_6 t3).1,((gt Za1 b0_6 t3).2.1,((gt Za1 b0_6 t3).2.2.1,((gt Za1 b0_6 t3).2.2.2.1,((gt Za1 b0_6 t3).2.2.2.2.1,())))))))))))))))) fun x0=>
     (match x0 with
     | .inl x1=>
      some (.inr (.inl (x1.1,())))
     | .inr x1=>
      bnd (L15 (x1.1,((0:Int),x1.2))) fun x2=>
      (match x2 with
      | .inl x3=>
       some (.inr (.inl (x3.1,())))
      | .inr x3=>
       some (.inl ((IntKind.wrap .i64 (@HAdd.hAdd (Int) (Int) (Int) _ x3.1 (1:Int))),x3.2))
      )
     )))))
 (
  some (.inr (.inr ())))
def Zao1 (M10:Zaby) (M15:Zabx):Zac9:=mkL (u9 (Zeo M10.L M15.L)) (pL k0 e0 1 (sC M10 (sC M15 l0)) fun d=>by kernel_rfl)
def Zao0:Zac9:=Zao1  Zaeg Zaef
def Zen:Zafh:=lpD (u9 (Zeo Zd6 Zd5)) NN
abbrev Ziq:List Sh:=[Za5]
abbrev Zg1:List Sh:=[.bool]
abbrev Zagp:=TL Ziq→Option (TL Zg1)
abbrev Zact:=Kd 29 Ziq Zg1
def Zlb (L4:Zafh) (L10:Zabw) (L15:Zabv) (a0:Sh.T Za5):Option (TL Zg1):=
 br (iL (2100:Int) (Int.ofNat (List.length a0.2.1)))
 (
  some (false,()))
 (
  br (selB false true (iL (2100:Int) (Int.ofNat (List.length a0.2.2.1))))
  (
   some (false,()))
  (
   br (selB false true (iL (2100:Int) (Int.ofNat (List.length a0.2.2.2.2.2.2.2.1))))
   (
    some (false,()))
   (
    br (selB false true (iL (1100:Int) (Int.ofNat (List.length a0.2.2.2.1))))
    (
     some (false,()))
    (
     br (selB false true (iL (1100:Int) (Int.ofNat (List.length a0.2.2.2.2.1))))
     (
      some (false,()))
     (
      br (selB false true (iL (1100:Int) (Int.ofNat (List.length a0.2.2.2.2.2.1))))
      (
       some (false,()))
      (
       br (selB false true (iL (6:Int) (Int.ofNat (List.length a0.2.2.2.2.2.2.1))))
       (
        some (false,()))
       (
        bnd (L4 ((0:Int),a0)) fun x0=>
        (match x0 with
        | .inl x1=>
         some (x1.1,())
        | .inr x1=>
         some (true,())
        ))))))))
def Zapp (M4:Zac9) (M10:Zaby) (M15:Zabx):Zact:=⟨u1 (Zlb M4.L M10.L M15.L),pD Try.func29 132 k0 e0 1 (sS (sC M4 l0)) fun d=>by kernel_rfl⟩
def Zagq:Zact:=Zapp  Zao0 Zaeg Zaef
def Zdr:Zagp:=Zagq.F
abbrev Zio:List Sh:=[Za5]
abbrev Zg0:List Sh:=[.bool]
abbrev Zagn:=TL Zio→Option (TL Zg0)
abbrev Zacs:=Kd 7 Zio Zg0
def Zla (F0:Zagp) (a0:Sh.T Za5):Option (TL Zg0):=
 bnd (F0 (a0,())) fun x0=>
 br x0.1
 (
  br (selB true (iE (Int.ofNat (List.length a0.2.2.2.2.2.2.2.1)) (100:Int)) false)
  (
   br (selB true (iE (Int.ofNat (List.length a0.2.1)) (100:Int)) false)
   (
    br (selB true (iE (Int.ofNat (List.length a0.2.2.1)) (100:Int)) false)
    (
     some ((selB true (iE (IntKind.wrap .i64 ((IntKind.wrap .i64 ((Int.ofNat (List.length a0.2.2.2.1))+(Int.ofNat (List.length a0.2.2.2.2.1))))+(Int.ofNat (List.length a0.2.2.2.2.2.1)))) (100:Int)) false),()))
    (
     some (false,())))
   (
    some (false,())))
  (
   some (false,())))
 (
  some (false,()))
def Zapo (c0:Zact) :Zacs:=⟨u1 (Zla c0.F),pD Try.func7 37 (kD c0 k0) e0 1 (sS l0) fun d=>by kernel_rfl⟩
def Zago:Zacs:=Zapo Zagq 
def Zcw:Zagn:=Zago.F
end Go.Proofs.Ytnocaehijdmkkaa.V
