import Derived.Test.YtnocaehijdmkkaaKXc
import Derived.Test.YtnocaehijdmkkaaKXd
import Derived.Test.YtnocaehijdmkkaaKSb
set_option linter.unusedSectionVars false
set_option linter.unusedVariables false
set_option linter.unusedSimpArgs false
set_option linter.unnecessarySimpa false
section
namespace Go.Proofs.Ytnocaehijdmkkaa.V
open Go Go.RowKit
set_option maxRecDepth 1000000
theorem alive13_is:astrariumlaw13_alive_FF ()=some (true,()):=by kernel_rfl
abbrev astrariumref01_Same_lay4:Lay:={ T:=[(0,.fz (.int .i64)),(1,.fz (.int .i64)),(5,.int .i64)],h:=[],nx:=0 }
abbrev yMgExpandNets000:List (Nat×LO):=[(0,.cells lNet 27),(1,.cells lNet 27)]
abbrev yMgExpandNets001:Lay:={ T:=[(4,.bool)],h:=[],nx:=0 }
abbrev yMgExpandNets002:Lay:={ T:=[(2,.ptr 0 0),(3,.ptr 1 0),(6,.int .i64),(7,.int .i64)],h:=yMgExpandNets000,nx:=2 }
abbrev astrariumref01_Same_outs4:List (Ev.Ex×Lay):=[(.ret,yMgExpandNets001),((.exit 0),{ T:=[],h:=[],nx:=0 })]
abbrev astrariumref01_Same_T4:=TL astrariumref01_Same_lay4.σs→Option (Out astrariumref01_Same_outs4)
abbrev astrariumref01_Same_D4:=Ld 0 26 (Zb5 [0] (Zaa Try.f38)) astrariumref01_Same_lay4 astrariumref01_Same_outs4
def astrariumref01_Same_B4 (t0 t1:List Int) (t5:Int):Option (TL astrariumref01_Same_lay4.σs⊕Out astrariumref01_Same_outs4):=
 br (iL t5 (Int.ofNat (List.length t0)))
 (
  chk (inb t5 (List.length t0))<|
  chk (inb t5 (List.length t1))<|
  br (Bool.not (iQ (gt (.int .i64) t0 t5) (gt (.int .i64) t1 t5)))
  (
   some (.inr (.inl (false,()))))
  (
   some (.inl (t0,(t1,((IntKind.wrap .i64 (t5+(1:Int))),()))))))
 (
  some (.inr (.inr ())))
def astrariumref01_Same_N4  :astrariumref01_Same_D4:=mkL (u3 astrariumref01_Same_B4) (pL k0 e0 1 l0 fun d=>by kernel_rfl)
def astrariumref01_Same_L4:astrariumref01_Same_T4:=lpD (u3 astrariumref01_Same_B4) NN
abbrev astrariumref01_Same_σs:List Sh:=[(.sl (.int .i64)),(.sl (.int .i64))]
abbrev astrariumref01_Same_τs:List Sh:=[.bool]
abbrev astrariumref01_Same_T:=TL astrariumref01_Same_σs→Option (TL astrariumref01_Same_τs)
abbrev astrariumref01_Same_D:=Kd 38 astrariumref01_Same_σs astrariumref01_Same_τs
def astrariumref01_Same_F (L4:astrariumref01_Same_T4) (a0 a1:List Int):Option (TL astrariumref01_Same_τs):=
 br (Bool.not (iQ (Int.ofNat (List.length a0)) (Int.ofNat (List.length a1))))
 (
  some (false,()))
 (
  bnd (L4 (a0,(a1,((0:Int),())))) fun x0=>
  (match x0 with
  | .inl x1=>
   some (x1.1,())
  | .inr x1=>
   some (true,())
  ))
def astrariumref01_Same_G (M4:astrariumref01_Same_D4):astrariumref01_Same_D:=⟨u2 (astrariumref01_Same_F M4.L),pD Try.func38 26 k0 e0 1 (sS (sC M4 l0)) fun d=>by kernel_rfl⟩
def astrariumref01_Same_K:astrariumref01_Same_D:=astrariumref01_Same_G  astrariumref01_Same_N4
def astrariumref01_Same_FF:astrariumref01_Same_T:=astrariumref01_Same_K.F
abbrev astrariumref05_Ports_lay3:Lay:={ T:=[(1,.ptr 0 0),(3,.int .i64),(4,.int .i64)],h:=[(0,.cells lNet 27)],nx:=1 }
abbrev astrariumref05_Ports_outs3:List (Ev.Ex×Lay):=[((.exit 0),{ T:=[(3,.int .i64)],h:=[],nx:=0 })]
abbrev astrariumref05_Ports_T3:=TL astrariumref05_Ports_lay3.σs→Option (Out astrariumref05_Ports_outs3)
abbrev astrariumref05_Ports_D3:=Ld 0 30 (Zb5 [0] (Zaa Try.f12)) astrariumref05_Ports_lay3 astrariumref05_Ports_outs3
def astrariumref05_Ports_B3 (t3 t4 b0_0:Int) (b0_1:List Int) (b0_2:List (Sh.T Za0)) (b0_3 b0_4 b0_5:List Int) (b0_6:List (Sh.T Za1)) (b0_7:List (Sh.T Za0)):Option (TL astrariumref05_Ports_lay3.σs⊕Out astrariumref05_Ports_outs3):=
 br (iL t4 (Int.ofNat (List.length b0_6)))
 (
  chk (inb t4 (List.length b0_6))<|
  chk (inb t4 (List.length b0_6))<|
  some (.inl ((IntKind.wrap .i64 ((IntKind.wrap .i64 (t3+(Int.ofNat (List.length (gt Za1 b0_6 t4).2.2.2.1))))+(Int.ofNat (List.length (gt Za1 b0_6 t4).2.2.2.2.1)))),((IntKind.wrap .i64 (t4+(1:Int))),(b0_0,(b0_1,(b0_2,(b0_3,(b0_4,(b0_5,(b0_6,(b0_7,()))))))))))))
 (
  some (.inr (t3,())))
def astrariumref05_Ports_N3  :astrariumref05_Ports_D3:=mkL (u10 astrariumref05_Ports_B3) (pL k0 e0 1 l0 fun d=>by kernel_rfl)
def astrariumref05_Ports_L3:astrariumref05_Ports_T3:=lpD (u10 astrariumref05_Ports_B3) NN
abbrev astrariumref05_Ports_σs:List Sh:=[Za5]
abbrev astrariumref05_Ports_τs:List Sh:=[(.int .i64)]
abbrev astrariumref05_Ports_T:=TL astrariumref05_Ports_σs→Option (TL astrariumref05_Ports_τs)
abbrev astrariumref05_Ports_D:=Kd 12 astrariumref05_Ports_σs astrariumref05_Ports_τs
def astrariumref05_Ports_F (L3:astrariumref05_Ports_T3) (a0:Sh.T Za5):Option (TL astrariumref05_Ports_τs):=
 bnd (L3 ((0:Int),((0:Int),a0))) fun x0=>
 some (x0.1,())
def astrariumref05_Ports_G (M3:astrariumref05_Ports_D3):astrariumref05_Ports_D:=⟨u1 (astrariumref05_Ports_F M3.L),pD Try.func12 30 k0 e0 1 (sS (sC M3 l0)) fun d=>by kernel_rfl⟩
def astrariumref05_Ports_K:astrariumref05_Ports_D:=astrariumref05_Ports_G  astrariumref05_Ports_N3
def astrariumref05_Ports_FF:astrariumref05_Ports_T:=astrariumref05_Ports_K.F
abbrev astrariumlaw13_shape_lay12:Lay:=yMgExpandNets002
abbrev astrariumlaw13_shape_outs12:List (Ev.Ex×Lay):=[(.ret,yMgExpandNets001),((.exit 2),{ T:=[],h:=[],nx:=0 })]
abbrev astrariumlaw13_shape_T12:=TL astrariumlaw13_shape_lay12.σs→Option (Out astrariumlaw13_shape_outs12)
abbrev astrariumlaw13_shape_D12:=Ld 0 134 (Zb5 [1] (Zaa Try.f13)) astrariumlaw13_shape_lay12 astrariumlaw13_shape_outs12
abbrev astrariumlaw13_shape_lay16:Lay:={ T:=[(2,.ptr 0 0),(3,.ptr 1 0),(6,.int .i64),(7,.int .i64),(8,.int .i64),(9,.int .i64)],h:=yMgExpandNets000,nx:=2 }
abbrev astrariumlaw13_shape_outs16:List (Ev.Ex×Lay):=[(.ret,yMgExpandNets001),((.exit 4),yMgExpandNets002)]
abbrev astrariumlaw13_shape_T16:=TL astrariumlaw13_shape_lay16.σs→Option (Out astrariumlaw13_shape_outs16)
abbrev astrariumlaw13_shape_D16:=Ld 0 134 (Zb5 [1,0] (Zaa Try.f13)) astrariumlaw13_shape_lay16 astrariumlaw13_shape_outs16
abbrev astrariumlaw13_shape_lay6:Lay:={ T:=[(2,.ptr 0 0),(3,.ptr 1 0),(5,.int .i64)],h:=yMgExpandNets000,nx:=2 }
abbrev astrariumlaw13_shape_outs6:List (Ev.Ex×Lay):=[(.ret,yMgExpandNets001),((.exit 0),{ T:=[(2,.ptr 0 0),(3,.ptr 1 0)],h:=yMgExpandNets000,nx:=2 })]
abbrev astrariumlaw13_shape_T6:=TL astrariumlaw13_shape_lay6.σs→Option (Out astrariumlaw13_shape_outs6)
abbrev astrariumlaw13_shape_D6:=Ld 0 134 (Zb5 [0] (Zaa Try.f13)) astrariumlaw13_shape_lay6 astrariumlaw13_shape_outs6
def astrariumlaw13_shape_B6 (t5 b0_0:Int) (b0_1:List Int) (b0_2:List (Sh.T Za0)) (b0_3 b0_4 b0_5:List Int) (b0_6:List (Sh.T Za1)) (b0_7:List (Sh.T Za0)) (b1_0:Int) (b1_1:List Int) (b1_2:List (Sh.T Za0)) (b1_3 b1_4 b1_5:List Int) (b1_6:List (Sh.T Za1)) (b1_7:List (Sh.T Za0)):Option (TL astrariumlaw13_shape_lay6.σs⊕Out astrariumlaw13_shape_outs6):=
 br (iL t5 (Int.ofNat (List.length b0_2)))
 (
  chk (inb t5 (List.length b1_2))<|
  chk (inb t5 (List.length b0_2))<|
  br (Bool.not (both (iQ (gt Za0 b1_2 t5).1 (gt Za0 b0_2 t5).1) (both (iQ (gt Za0 b1_2 t5).2.1 (gt Za0 b0_2 t5).2.1) (both (iQ (gt Za0 b1_2 t5).2.2.1 (gt Za0 b0_2 t5).2.2.1) true))))
  (
   some (.inr (.inl (false,()))))
  (
   some (.inl ((IntKind.wrap .i64 (t5+(1:Int))),(b0_0,(b0_1,(b0_2,(b0_3,(b0_4,(b0_5,(b0_6,(b0_7,(b1_0,(b1_1,(b1_2,(b1_3,(b1_4,(b1_5,(b1_6,(b1_7,()))))))))))))))))))))
 (
  some (.inr (.inr (b0_0,(b0_1,(b0_2,(b0_3,(b0_4,(b0_5,(b0_6,(b0_7,(b1_0,(b1_1,(b1_2,(b1_3,(b1_4,(b1_5,(b1_6,(b1_7,())))))))))))))))))))
def astrariumlaw13_shape_N6  :astrariumlaw13_shape_D6:=mkL (u17 astrariumlaw13_shape_B6) (pL k0 e0 1 l0 fun d=>by kernel_rfl)
def astrariumlaw13_shape_L6:astrariumlaw13_shape_T6:=lpD (u17 astrariumlaw13_shape_B6) NN
def astrariumlaw13_shape_B16 (t6 t7 t8 t9 b0_0:Int) (b0_1:List Int) (b0_2:List (Sh.T Za0)) (b0_3 b0_4 b0_5:List Int) (b0_6:List (Sh.T Za1)) (b0_7:List (Sh.T Za0)) (b1_0:Int) (b1_1:List Int) (b1_2:List (Sh.T Za0)) (b1_3 b1_4 b1_5:List Int) (b1_6:List (Sh.T Za1)) (b1_7:List (Sh.T Za0)):Option (TL astrariumlaw13_shape_lay16.σs⊕Out astrariumlaw13_shape_outs16):=
 br (iL t9 t8)
 (
  chk (inb t7 (List.length b0_6))<|
  br (gt Za1 b0_6 t7).2.2.1
  (
   chk (inb t6 (List.length b1_2))<|
   br (Bool.not (iQ (gt Za0 b1_2 t6).2.2.1 (2:Int)))
   (
    some (.inr (.inl (false,()))))
   (
    some (.inl ((IntKind.wrap .i64 (t6+(1:Int))),(t7,(t8,((IntKind.wrap .i64 (t9+(1:Int))),(b0_0,(b0_1,(b0_2,(b0_3,(b0_4,(b0_5,(b0_6,(b0_7,(b1_0,(b1_1,(b1_2,(b1_3,(b1_4,(b1_5,(b1_6,(b1_7,())))))))))))))))))))))))
  (
   chk (inb t6 (List.length b1_2))<|
   br (Bool.not (iQ (gt Za0 b1_2 t6).2.2.1 (0:Int)))
   (
    some (.inr (.inl (false,()))))
   (
    some (.inl ((IntKind.wrap .i64 (t6+(1:Int))),(t7,(t8,((IntKind.wrap .i64 (t9+(1:Int))),(b0_0,(b0_1,(b0_2,(b0_3,(b0_4,(b0_5,(b0_6,(b0_7,(b1_0,(b1_1,(b1_2,(b1_3,(b1_4,(b1_5,(b1_6,(b1_7,()))))))))))))))))))))))))
 (
  some (.inr (.inr (t6,(t7,(b0_0,(b0_1,(b0_2,(b0_3,(b0_4,(b0_5,(b0_6,(b0_7,(b1_0,(b1_1,(b1_2,(b1_3,(b1_4,(b1_5,(b1_6,(b1_7,())))))))))))))))))))))
def astrariumlaw13_shape_N16  :astrariumlaw13_shape_D16:=mkL (u20 astrariumlaw13_shape_B16) (pL k0 e0 1 l0 fun d=>by kernel_rfl)
def astrariumlaw13_shape_L16:astrariumlaw13_shape_T16:=lpD (u20 astrariumlaw13_shape_B16) NN
def astrariumlaw13_shape_B12 (F1:astrariumref13_Cells_T) (L16:astrariumlaw13_shape_T16) (t6 t7 b0_0:Int) (b0_1:List Int) (b0_2:List (Sh.T Za0)) (b0_3 b0_4 b0_5:List Int) (b0_6:List (Sh.T Za1)) (b0_7:List (Sh.T Za0)) (b1_0:Int) (b1_1:List Int) (b1_2:List (Sh.T Za0)) (b1_3 b1_4 b1_5:List Int) (b1_6:List (Sh.T Za1)) (b1_7:List (Sh.T Za0)):Option (TL astrariumlaw13_shape_lay12.σs⊕Out astrariumlaw13_shape_outs12):=
 br (iL t7 (Int.ofNat (List.length b0_6)))
 (
  chk (inb t7 (List.length b0_6))<|
  chk (inb t7 (List.length b0_6))<|
  bnd (F1 (((0:Int),([],([],([],([],([],((((gt Za1 b0_6 t7).1,((gt Za1 b0_6 t7).2.1,(false,([],([],()))))) :: []),([],())))))))),())) fun x0=>
  bnd (L16 (t6,(t7,(x0.1,((0:Int),(b0_0,(b0_1,(b0_2,(b0_3,(b0_4,(b0_5,(b0_6,(b0_7,(b1_0,(b1_1,(b1_2,(b1_3,(b1_4,(b1_5,(b1_6,(b1_7,()))))))))))))))))))))) fun x1=>
  (match x1 with
  | .inl x2=>
   some (.inr (.inl (x2.1,())))
  | .inr x2=>
   some (.inl (x2.1,((IntKind.wrap .i64 (@HAdd.hAdd (Int) (Int) (Int) _ x2.2.1 (1:Int))),x2.2.2)))
  ))
 (
  some (.inr (.inr ())))
def astrariumlaw13_shape_M12 (c1:astrariumref13_Cells_D) (M16:astrariumlaw13_shape_D16):astrariumlaw13_shape_D12:=mkL (u18 (astrariumlaw13_shape_B12 c1.F M16.L)) (pL (kD c1 k0) e0 1 (sC M16 l0) fun d=>by kernel_rfl)
def astrariumlaw13_shape_N12:astrariumlaw13_shape_D12:=astrariumlaw13_shape_M12 astrariumref13_Cells_K astrariumlaw13_shape_N16
def astrariumlaw13_shape_L12:astrariumlaw13_shape_T12:=lpD (u18 (astrariumlaw13_shape_B12 astrariumref13_Cells_FF astrariumlaw13_shape_L16)) NN
abbrev astrariumlaw13_shape_σs:List Sh:=[Za5,Za5]
abbrev astrariumlaw13_shape_τs:List Sh:=[.bool]
abbrev astrariumlaw13_shape_T:=TL astrariumlaw13_shape_σs→Option (TL astrariumlaw13_shape_τs)
abbrev astrariumlaw13_shape_D:=Kd 13 astrariumlaw13_shape_σs astrariumlaw13_shape_τs
def astrariumlaw13_shape_F (F0:astrariumref01_Same_T) (F1:astrariumref13_Cells_T) (F2:Zadp) (L6:astrariumlaw13_shape_T6) (L12:astrariumlaw13_shape_T12) (L16:astrariumlaw13_shape_T16) (a0 a1:Sh.T Za5):Option (TL astrariumlaw13_shape_τs):=
 bnd (F2 (a1,())) fun x0=>
 br (Bool.not (iQ x0.1 (0:Int)))
 (
  some (false,()))
 (
  br (selB false true (Bool.not (iQ (Int.ofNat (List.length a1.2.2.2.2.2.2.1)) (0:Int))))
  (
   some (false,()))
  (
   br (selB false true (iL a1.1 a0.1))
   (
    some (false,()))
   (
    bnd (F1 (a0,())) fun x1=>
    br (selB false true (Bool.not (iQ (Int.ofNat (List.length a1.2.2.1)) (IntKind.wrap .i64 (@HAdd.hAdd (Int) (Int) (Int) _ (Int.ofNat (List.length a0.2.2.1)) x1.1)))))
    (
     some (false,()))
    (
     bnd (F0 (a1.2.1,(a0.2.1,()))) fun x2=>
     br (Bool.not x2.1)
     (
      some (false,()))
     (
      bnd (F0 (a1.2.2.2.1,(a0.2.2.2.1,()))) fun x3=>
      br (selB false true (Bool.not x3.1))
      (
       some (false,()))
      (
       bnd (F0 (a1.2.2.2.2.1,(a0.2.2.2.2.1,()))) fun x4=>
       br (selB false true (Bool.not x4.1))
       (
        some (false,()))
       (
        bnd (F0 (a1.2.2.2.2.2.1,(a0.2.2.2.2.2.1,()))) fun x5=>
        br (selB false true (Bool.not x5.1))
        (
         some (false,()))
        (
         bnd (L6 ((0:Int),(a0.1,(a0.2.1,(a0.2.2.1,(a0.2.2.2.1,(a0.2.2.2.2.1,(a0.2.2.2.2.2.1,(a0.2.2.2.2.2.2.1,(a0.2.2.2.2.2.2.2.1,a1)))))))))) fun x6=>
         (match x6 with
         | .inl x7=>
          some (x7.1,())
         | .inr x7=>
          bnd (L12 ((Int.ofNat (List.length x7.2.2.1)),((0:Int),x7))) fun x8=>
          (match x8 with
          | .inl x9=>
           some (x9.1,())
          | .inr x9=>
           some (true,())
          )
         )))))))))
def astrariumlaw13_shape_G (c0:astrariumref01_Same_D) (c1:astrariumref13_Cells_D) (c2:Zacr) (M6:astrariumlaw13_shape_D6) (M12:astrariumlaw13_shape_D12) (M16:astrariumlaw13_shape_D16):astrariumlaw13_shape_D:=⟨u2 (astrariumlaw13_shape_F c0.F c1.F c2.F M6.L M12.L M16.L),pD Try.func13 134 (kD c0 (kD c1 (kD c2 k0))) e0 1 (sS (sC M6 (sC M12 l0))) fun d=>by kernel_rfl⟩
def astrariumlaw13_shape_K:astrariumlaw13_shape_D:=astrariumlaw13_shape_G astrariumref01_Same_K astrariumref13_Cells_K Zadq astrariumlaw13_shape_N6 astrariumlaw13_shape_N12 astrariumlaw13_shape_N16
def astrariumlaw13_shape_FF:astrariumlaw13_shape_T:=astrariumlaw13_shape_K.F
abbrev astrariumlaw13_ExpandNets_σs:List Sh:=[Za5]
abbrev astrariumlaw13_ExpandNets_τs:List Sh:=[.bool]
abbrev astrariumlaw13_ExpandNets_T:=TL astrariumlaw13_ExpandNets_σs→Option (TL astrariumlaw13_ExpandNets_τs)
abbrev astrariumlaw13_ExpandNets_D:=Kd 3 astrariumlaw13_ExpandNets_σs astrariumlaw13_ExpandNets_τs
def astrariumlaw13_ExpandNets_F (F0:astrariumlaw13_shape_T) (F1:astrariumref05_Ports_T) (F2:astrariumref13_Cells_T) (F3:Zadp) (F4:expand_Net_T) (F5:astrariumlaw13_alive_T) (F6:Zagn) (a0:Sh.T Za5):Option (TL astrariumlaw13_ExpandNets_τs):=
 bnd (F6 (a0,())) fun x0=>
 br (Bool.not x0.1)
 (
  bnd (F5 ()) fun x1=>
  some (x1.1,()))
 (
  bnd (F4 (a0,())) fun x1=>
  bnd (F3 (a0,())) fun x2=>
  br (Bool.not (iQ x2.1 (0:Int)))
  (
   bnd (F3 (a0,())) fun x3=>
   br (iQ x1.2.1 x3.1)
   (
    br (selB true (iQ x1.1.1 (0:Int)) false)
    (
     bnd (F5 ()) fun x4=>
     some ((selB true x4.1 false),()))
    (
     some (false,())))
   (
    some (false,())))
  (
   bnd (F2 (a0,())) fun x3=>
   br (iL (64:Int) x3.1)
   (
    br (iQ x1.2.1 (17:Int))
    (
     br (selB true (iQ x1.1.1 (0:Int)) false)
     (
      bnd (F5 ()) fun x4=>
      some ((selB true x4.1 false),()))
     (
      some (false,())))
    (
     some (false,())))
   (
    bnd (F2 (a0,())) fun x4=>
    bnd (F2 (a0,())) fun x5=>
    bnd (F1 (a0,())) fun x6=>
    br (iL (2000:Int) (IntKind.wrap .i64 ((IntKind.wrap .i64 (@HAdd.hAdd (Int) (Int) (Int) _ a0.1 x4.1))+(IntKind.wrap .i64 (@HMul.hMul (Int) (Int) (Int) _ (IntKind.wrap .i64 (@HMul.hMul (Int) (Int) (Int) _ (10:Int) x5.1)) x6.1)))))
    (
     br (iQ x1.2.1 (10:Int))
     (
      br (selB true (iQ x1.1.1 (0:Int)) false)
      (
       bnd (F5 ()) fun x7=>
       some ((selB true x7.1 false),()))
      (
       some (false,())))
     (
      some (false,())))
    (
     br (iQ x1.2.1 (0:Int))
     (
      bnd (F0 (a0,((x1.1.1,(x1.1.2.1,(x1.1.2.2.1,(x1.1.2.2.2.1,(x1.1.2.2.2.2.1,(x1.1.2.2.2.2.2.1,(x1.1.2.2.2.2.2.2.1,(x1.1.2.2.2.2.2.2.2.1,())))))))),()))) fun x7=>
      br (selB true x7.1 false)
      (
       bnd (F5 ()) fun x8=>
       some ((selB true x8.1 false),()))
      (
       some (false,())))
     (
      some (false,()))))))
def astrariumlaw13_ExpandNets_G (c0:astrariumlaw13_shape_D) (c1:astrariumref05_Ports_D) (c2:astrariumref13_Cells_D) (c3:Zacr) (c4:expand_Net_D) (c5:astrariumlaw13_alive_D) (c6:Zacs) :astrariumlaw13_ExpandNets_D:=⟨u1 (astrariumlaw13_ExpandNets_F c0.F c1.F c2.F c3.F c4.F c5.F c6.F),pD Try.func3 78 (kD c0 (kD c1 (kD c2 (kD c3 (kD c4 (kD c5 (kD c6 k0))))))) e0 1 (sS l0) fun d=>by kernel_rfl⟩
def astrariumlaw13_ExpandNets_K:astrariumlaw13_ExpandNets_D:=astrariumlaw13_ExpandNets_G astrariumlaw13_shape_K astrariumref05_Ports_K astrariumref13_Cells_K Zadq expand_Net_K astrariumlaw13_alive_K Zago 
def astrariumlaw13_ExpandNets_FF:astrariumlaw13_ExpandNets_T:=astrariumlaw13_ExpandNets_K.F
end Go.Proofs.Ytnocaehijdmkkaa.V
end
section
namespace Go.Proofs.Ytnocaehijdmkkaa.V
open Go Go.RowKit
open Go.Proofs.Ytnocaehijdmkkaa.Pl
set_option maxRecDepth 10000
theorem same01_refl (L:List Int) (hL:L.length≤100000):astrariumref01_Same_FF (L,(L,()))=some (true,()):=by
 have eL:astrariumref01_Same_L4 (L,(L,((0:Int),())))=some (.inr ()):=by
  unfold astrariumref01_Same_L4;delta u3
  refine Zif (fun k:Nat=>(L,(L,((k:Int),())))) L.length rfl ?_ ?_ (Ze8 (by omega))
  ·intro k hk
   have hi:inb (k:Int) (List.length L)=true:=Zar ⟨by omega,by omega⟩
   have e:∀p q:Int,p=q→(some (.inl (L,(L,(p,())))):Option (TL astrariumref01_Same_lay4.σs⊕Out astrariumref01_Same_outs4))=some (.inl (L,(L,(q,())))):=by rintro _ _ rfl;rfl
   exact br_tt (dec_t (show (k:Int)<(L.length:Int) by omega)) (Zaj hi (Zaj hi (br_ff (not_f (dec_t rfl)) (e _ _ (i64n (show (k:Int)+1=((k+1:Nat):Int) by omega) (by omega))))))
  ·exact br_ff (dec_f (show ¬(L.length:Int)<(L.length:Int) by omega)) rfl
 exact br_ff (not_f (dec_t rfl)) (Zba eL rfl)
theorem ref05_Ports_is {n:NetD} {V:Nat} (hs:Snd n V):astrariumref05_Ports_FF (netT n,())=some ((ptN n.mems:Int),()):=by
 have hM:=hs.lens.2.2.2.2
 have hL:((n.mems.map memT).length:Int)=(n.mems.length:Int):=by rw [List.length_map]
 have e2:astrariumref05_Ports_L3 ((0:Int),((0:Int),nt n ()))=some ((ptN n.mems:Int),()):=by
  unfold astrariumref05_Ports_L3;delta u10
  refine Zif (fun k:Nat=>((ptN (n.mems.take k):Int),((k:Int),nt n ()))) n.mems.length rfl ?_ ?_ (Ze8 (by omega))
  ·intro k hk
   have hx:=List.getElem?_eq_getElem hk
   obtain ⟨_,_,_,_,_,_,h1,h2⟩:=hs.mems _ (List.getElem_mem hk)
   have hx':(n.mems.map memT)[k]?=some (memT n.mems[k]):=by rw [List.getElem?_map,hx];rfl
   have g:gt Za1 (n.mems.map memT) (k:Int)=memT n.mems[k]:=gt_at (σ:=Za1) hx'
   have hp:=ptN_le hs k
   have hst:ptN (n.mems.take (k+1))=ptN (n.mems.take k)+(n.mems[k].reads.length+n.mems[k].writes.length):=by rw [Pl.Zd8 hx,ptN_snoc]
   have hw:IntKind.wrap .i64 ((IntKind.wrap .i64 ((ptN (n.mems.take k):Int)+Int.ofNat (List.length (gt Za1 (n.mems.map memT) (k:Int)).2.2.2.1)))+Int.ofNat (List.length (gt Za1 (n.mems.map memT) (k:Int)).2.2.2.2.1))=((ptN (n.mems.take (k+1)):Nat):Int):=by
    rw [g]
    show IntKind.wrap .i64 ((IntKind.wrap .i64 ((ptN (n.mems.take k):Int)+((List.length (n.mems[k].reads.map readT):Nat):Int)))+((List.length (n.mems[k].writes.map Zt4):Nat):Int))=_
    rw [List.length_map,List.length_map,i64n (x:=(ptN (n.mems.take k):Int)+((n.mems[k].reads.length:Nat):Int)) (n:=ptN (n.mems.take k)+n.mems[k].reads.length) (by omega) (by omega)]
    exact i64n (by rw [hst];omega) (by omega)
   have hi:inb (k:Int) (List.length (n.mems.map memT))=true:=Zar ⟨by omega,by omega⟩
   have e:∀(a b p q:Int),a=b→p=q→(some (.inl (a,(p,nt n ()))):Option (TL astrariumref05_Ports_lay3.σs⊕Out astrariumref05_Ports_outs3))=some (.inl (b,(q,nt n ()))):=by rintro _ _ _ _ rfl rfl;rfl
   exact br_tt (dec_t (show (k:Int)<((n.mems.map memT).length:Int) by omega)) (Zaj hi (Zaj hi (e _ _ _ _ hw (i64n (show (k:Int)+1=((k+1:Nat):Int) by omega) (by omega)))))
  ·have e:∀(a b:Int),a=b→(some (.inr (a,())):Option (TL astrariumref05_Ports_lay3.σs⊕Out astrariumref05_Ports_outs3))=some (.inr (b,())):=by rintro _ _ rfl;rfl
   rw [List.take_length]
   exact br_ff (dec_f (show ¬(n.mems.length:Int)<((n.mems.map memT).length:Int) by omega)) rfl
 exact Zba e2 rfl
def oneN (M:MemD):NetD:=⟨0,[],[],[],[],[],[⟨M.addr,M.word,false,[],[]⟩],[]⟩
theorem mem1_cells {M:MemD} (sm:Small M):astrariumref13_Cells_FF (netT (oneN M),())=some ((szM M:Int),()):=by
 have a1:=sm.a1;have a2:=sm.a2;have w1:=sm.w1;have w2:=sm.w2
 have hs:Snd (oneN M) 0:=by
  refine ⟨rfl,by omega,List.nodup_nil,(fun x hx=>by cases hx),(fun x hx=>by cases hx),?_,(fun x hx=>by cases hx),⟨by show 0≤_;omega,by show 0≤_;omega,by show 0≤_;omega,by show 0≤_;omega,by show 1≤_;omega⟩⟩
  intro m hm
  obtain rfl:=List.mem_singleton.1 hm
  exact ⟨a1,by show M.addr≤62;omega,w1,w2,(fun r hr=>by cases hr),(fun r hr=>by cases hr),by show 0≤_;omega,by show 0≤_;omega⟩
 have h0:=sound_of hs (Nat.zero_le _)
 have hc:Pl.Zkz (oneN M)=0:=check_of hs h0 (fun v hv=>by
  obtain rfl:v=0:=by omega
  exact good_zero hs)
 have ft:Fit (oneN M):=by
  refine ⟨by show I64 0;unfold I64;omega,⟨by show 0≤_;omega,(fun x hx=>by cases hx)⟩,⟨by show 0≤_;omega,(fun x hx=>by cases hx)⟩,⟨by show 0≤_;omega,(fun x hx=>by cases hx)⟩,⟨by show 0≤_;omega,(fun x hx=>by cases hx)⟩,⟨by show 0≤_;omega,(fun x hx=>by cases hx)⟩,⟨by show 1≤_;omega,?_⟩,⟨by show 0≤_;omega,(fun x hx=>by cases hx)⟩⟩
  intro m hm
  obtain rfl:=List.mem_singleton.1 hm
  exact ⟨⟨by show I64 M.word;unfold I64;omega,by show M.word≤4000;omega⟩,by show I64 M.addr;unfold I64;omega,by show 0≤100;omega,by show 0≤100;omega,(fun r hr=>by cases hr),(fun r hr=>by cases hr)⟩
 have e:=cells13_is ft
 have hcell:cellsN (oneN M)=(szM M:Int):=by
  unfold cellsN
  rw [if_neg (fun q=>q hc)]
  have h1:=szM_tP sm
  have h2:sumP (oneN M).mems=tP M:=by
   show (0:Int)+tP ⟨M.addr,M.word,false,[],[]⟩=tP M
   rw [Int.zero_add];rfl
  rw [h2,←h1]
  have:=sm.nat.1
  have:szM M≤64:=this
  unfold cutT
  rw [if_neg (by omega)]
 rw [hcell] at e
 exact e
section
variable {n:NetD} {V:Nat} (hs:Snd n V) (h0:Zj3 n=0) (ha:acyB (ndL n) V=true) {s:Mk} {L:List Zgv} {cv:Nat→Nat} (P:ExSp n V n.mems.length s L cv) (hv:s.v≤2000)
include hs P hv
end
section
variable {n:NetD} {V:Nat} (hs:Snd n V) (h0:Zj3 n=0) (ha:acyB (ndL n) V=true) {s:Mk} {L:List Zgv} {cv:Nat→Nat} (P:ExSp n V n.mems.length s L cv)
include hs P
theorem sh_6:astrariumlaw13_shape_L6 ((0:Int),nt n (nt (expN n s L) ()))=some (.inr (nt n (nt (expN n s L) ()))):=by
 have l2:=hs.lens.2.1
 have hlen:=P.len
 unfold astrariumlaw13_shape_L6;delta u17
 refine Zif (fun k:Nat=>((k:Int),nt n (nt (expN n s L) ()))) n.latches.length rfl ?_ ?_ (Ze8 (by omega))
 ·intro k hk
  have g1:gt Za0 (n.latches.map latT) (k:Int)=latT (la n.latches k):=la_gt hk
  have g2:gt Za0 (L.map latT) (k:Int)=latT (la L k):=la_gt (by omega)
  rw [P.old k hk] at g2
  have i1:inb (k:Int) (List.length (n.latches.map latT))=true:=Zar ⟨by omega,by rw [List.length_map];omega⟩
  have i2:inb (k:Int) (List.length (L.map latT))=true:=Zar ⟨by omega,by rw [List.length_map];omega⟩
  have hb:Bool.not (both (iQ (gt Za0 (L.map latT) (k:Int)).1 (gt Za0 (n.latches.map latT) (k:Int)).1) (both (iQ (gt Za0 (L.map latT) (k:Int)).2.1 (gt Za0 (n.latches.map latT) (k:Int)).2.1) (both (iQ (gt Za0 (L.map latT) (k:Int)).2.2.1 (gt Za0 (n.latches.map latT) (k:Int)).2.2.1) true)))=false:=by
   rw [g1,g2]
   exact not_f (bothT (dec_t rfl) (bothT (dec_t rfl) (bothT (dec_t rfl) rfl)))
  have e:∀p q:Int,p=q→(some (.inl (p,nt n (nt (expN n s L) ()))):Option (TL astrariumlaw13_shape_lay6.σs⊕Out astrariumlaw13_shape_outs6))=some (.inl (q,nt n (nt (expN n s L) ()))):=by rintro _ _ rfl;rfl
  exact br_tt (dec_t (show (k:Int)<((List.length (n.latches.map latT):Nat):Int) by rw [List.length_map];omega)) (Zaj i2 (Zaj i1 (br_ff hb (e _ _ (i64n (show (k:Int)+1=((k+1:Nat):Int) by omega) (by omega))))))
 ·exact br_ff (dec_f (show ¬(n.latches.length:Int)<((List.length (n.latches.map latT):Nat):Int) by rw [List.length_map];omega)) rfl
end
section
variable {n:NetD} {V:Nat} (hs:Snd n V) (h0:Zj3 n=0) (ha:acyB (ndL n) V=true) {s:Mk} {L:List Zgv} {cv:Nat→Nat} (P:ExSp n V n.mems.length s L cv) (hv:s.v≤2000)
include hs P hv
theorem sh_16 {i:Nat} {M:MemD} (hM:n.mems[i]?=some M) (at_:Nat) (hat:at_=n.latches.length+offM n i) (sm:Small M):astrariumlaw13_shape_L16 ((at_:Int),((i:Int),((szM M:Int),((0:Int),nt n (nt (expN n s L) ())))))=some (.inr (((at_+szM M:Nat):Int),((i:Int),nt n (nt (expN n s L) ())))):=by
 have hi:=Zhb hM
 have hM4:=hs.lens.2.2.2.2
 have hoff:=offM_succ n hM
 have hmono:=offM_mono n (show i+1≤n.mems.length from hi)
 have hlen:=P.len
 have hsz:szM M≤64:=sm.nat.1
 have hLl:L.length≤2000:=(exp_snd hs P hv).lens.2.1
 unfold astrariumlaw13_shape_L16;delta u20
 refine Zif (fun k:Nat=>(((at_+k:Nat):Int),((i:Int),((szM M:Int),((k:Int),nt n (nt (expN n s L) ())))))) (szM M) rfl ?_ ?_ (Ze8 (by omega))
 ·intro k hk
  have gM:gt Za1 (n.mems.map memT) (i:Int)=memT M:=gt_at (σ:=Za1) (by rw [List.getElem?_map,hM];rfl)
  have hp:at_+k<L.length:=by omega
  have gL:gt Za0 (L.map latT) ((at_+k:Nat):Int)=latT (la L (at_+k)):=la_gt hp
  have hin:=((P.cell i M hi hM).2.2 k hk).2
  rw [←hat] at hin
  have i1:inb (i:Int) (List.length (n.mems.map memT))=true:=Zar ⟨by omega,by rw [List.length_map];omega⟩
  have i2:inb ((at_+k:Nat):Int) (List.length (L.map latT))=true:=Zar ⟨by omega,by rw [List.length_map];omega⟩
  have e:∀p q u w:Int,p=q→u=w→(some (.inl (p,((i:Int),((szM M:Int),(u,nt n (nt (expN n s L) ())))))):Option (TL astrariumlaw13_shape_lay16.σs⊕Out astrariumlaw13_shape_outs16))=some (.inl (q,((i:Int),((szM M:Int),(w,nt n (nt (expN n s L) ())))))):=by rintro _ _ _ _ rfl rfl;rfl
  have en:=e _ _ _ _ (i64n (show ((at_+k:Nat):Int)+1=((at_+(k+1):Nat):Int) by omega) (by omega)) (i64n (show (k:Int)+1=((k+1:Nat):Int) by omega) (by omega))
  cases hany:M.any
  ·rw [hany] at hin
   have hb:Bool.not (iQ (gt Za0 (L.map latT) ((at_+k:Nat):Int)).2.2.1 0)=false:=by rw [gL];exact not_f (dec_t hin)
   have ga:(gt Za1 (n.mems.map memT) (i:Int)).2.2.1=false:=by rw [gM];exact hany
   exact br_tt (dec_t (show (k:Int)<(szM M:Int) by omega)) (Zaj i1 (br_ff ga (Zaj i2 (br_ff hb en))))
  ·rw [hany] at hin
   have hb:Bool.not (iQ (gt Za0 (L.map latT) ((at_+k:Nat):Int)).2.2.1 2)=false:=by rw [gL];exact not_f (dec_t hin)
   have ga:(gt Za1 (n.mems.map memT) (i:Int)).2.2.1=true:=by rw [gM];exact hany
   exact br_tt (dec_t (show (k:Int)<(szM M:Int) by omega)) (Zaj i1 (br_tt ga (Zaj i2 (br_ff hb en))))
 ·exact br_ff (dec_f (show ¬(szM M:Int)<(szM M:Int) by omega)) rfl
theorem sh_12 (hsm:∀m∈n.mems,Small m):astrariumlaw13_shape_L12 (((List.length (n.latches.map latT):Nat):Int),((0:Int),nt n (nt (expN n s L) ())))=some (.inr ()):=by
 have hM4:=hs.lens.2.2.2.2
 have hlen:=P.len
 have hLl:L.length≤2000:=(exp_snd hs P hv).lens.2.1
 unfold astrariumlaw13_shape_L12;delta u18
 refine Zif (fun k:Nat=>(((n.latches.length+offM n k:Nat):Int),((k:Int),nt n (nt (expN n s L) ())))) n.mems.length (by rw [List.length_map];rfl) ?_ ?_ (Ze8 (by omega))
 ·intro k hk
  obtain ⟨M,hM⟩:∃M,n.mems[k]?=some M:=⟨_,List.getElem?_eq_getElem hk⟩
  have sm:=hsm M (List.mem_of_getElem? hM)
  have gM:gt Za1 (n.mems.map memT) (k:Int)=memT M:=gt_at (σ:=Za1) (by rw [List.getElem?_map,hM];rfl)
  have i1:inb (k:Int) (List.length (n.mems.map memT))=true:=Zar ⟨by omega,by rw [List.length_map];omega⟩
  have ec:astrariumref13_Cells_FF (((0:Int),([],([],([],([],([],([((gt Za1 (n.mems.map memT) (k:Int)).1,((gt Za1 (n.mems.map memT) (k:Int)).2.1,(false,([],([],())))))],([],())))))))),())=some ((szM M:Int),()):=by rw [gM];exact mem1_cells sm
  have e16:=sh_16 hs P hv hM (n.latches.length+offM n k) rfl sm
  have hoff:=offM_succ n hM
  have e:∀p q u w:Int,p=q→u=w→(some (.inl (p,(u,nt n (nt (expN n s L) ())))):Option (TL astrariumlaw13_shape_lay12.σs⊕Out astrariumlaw13_shape_outs12))=some (.inl (q,(w,nt n (nt (expN n s L) ())))):=by rintro _ _ _ _ rfl rfl;rfl
  exact br_tt (dec_t (show (k:Int)<((List.length (n.mems.map memT):Nat):Int) by rw [List.length_map];omega)) (Zaj i1 (Zaj i1 (Zba ec (Zba e16 (e _ _ _ _ (show ((n.latches.length+offM n k+szM M:Nat):Int)=((n.latches.length+offM n (k+1):Nat):Int) by rw [hoff];omega) (i64n (show (k:Int)+1=((k+1:Nat):Int) by omega) (by omega)))))))
 ·exact br_ff (dec_f (show ¬(n.mems.length:Int)<((List.length (n.mems.map memT):Nat):Int) by rw [List.length_map];omega)) rfl
include h0 ha
theorem shape_is (ft:Fit n) (hsm:∀m∈n.mems,Small m) (hoff:((offL n.mems:Nat):Int)=cellsN n):astrariumlaw13_shape_FF (netT n,(netT (expN n s L),()))=some (true,()):=by
 have c6:=Zxe (exp_fit ft hs P hv)
 rw [exp_check hs h0 ha P hv] at c6
 have d2:=cells13_is ft
 obtain ⟨l1,l2,l3,l4,l5⟩:=hs.lens
 have hlo:=P.lo
 have hlen:=P.len
 rw [offM_all] at hlen
 have hLl:L.length≤2000:=(exp_snd hs P hv).lens.2.1
 have s1:=same01_refl n.inputs (by omega)
 have s2:=same01_refl n.outputs (by omega)
 have s3:=same01_refl n.bads (by omega)
 have s4:=same01_refl n.constraints (by omega)
 have e6:=sh_6 hs P
 have e12:=sh_12 hs P hv hsm
 have b1:selB false true (Bool.not (iQ (Int.ofNat (List.length ([]:List Za1.T))) (0:Int)))=false:=rfl
 have b2:selB false true (iL (s.v:Int) n.vars)=false:=dec_f (show ¬(s.v:Int)<n.vars by rw [hs.vars];omega)
 have b3:selB false true (Bool.not (iQ (Int.ofNat (List.length (L.map latT))) (IntKind.wrap .i64 (Int.ofNat (List.length (n.latches.map latT))+cellsN n))))=false:=by
  refine not_f (dec_t ?_)
  rw [List.length_map,List.length_map,←hoff]
  exact (i64n (x:=((n.latches.length:Nat):Int)+((offL n.mems:Nat):Int)) (n:=L.length) (by omega) (by omega)).symm
 exact Zba c6 (br_ff (not_f (dec_t rfl)) (br_ff b1 (br_ff b2 (Zba d2 (br_ff b3 (Zba s1 (br_ff rfl (Zba s2 (br_ff rfl (Zba s3 (br_ff rfl (Zba s4 (br_ff rfl (Zba e6 (Zba e12 rfl)))))))))))))))
end
theorem expandNets_is (d:Za5.T) (hd:okD Za5 d):astrariumlaw13_ExpandNets_FF (d,())=some (true,()):=by
 obtain ⟨b,e,h⟩:=Za6c d
 have al:=alive13_is
 cases b with
 | false=>exact Zba e (br_tt rfl (Zba al rfl))
 | true=>
  have ft:=fit_of hd (h rfl)
  obtain ⟨n,rfl⟩:∃n,d=netT n:=⟨netD d,(Zri d).symm⟩
  rw [Zww] at ft
  obtain ⟨x1,x2,x3,x4⟩:=expand_Net_is ft
  have c6:=Zxe ft
  have d2:=cells13_is ft
  have nn:=cells_nn (n:=n)
  by_cases hc:Pl.Zkz n=0
  ·by_cases h1:64<cellsN n
   ·exact Zba e (br_ff rfl (Zba (x2 hc h1) (Zba c6 (br_ff (not_f (dec_t hc)) (Zba d2 (br_tt (dec_t h1) (br_tt (dec_t rfl) (br_tt rfl (Zba al rfl)))))))))
   ·obtain ⟨V,hs,h0,ha⟩:=check_snd0 hc
    have p5:=ref05_Ports_is hs
    have w:=much_w hs h1 nn
    cases hm:muchB n
    ·obtain ⟨V',s,L,cv,e4,hs',h0',ha',hsm,P,hv⟩:=x4 hc h1 hm
     have hm':=of_decide_eq_false hm
     have hsh:=shape_is hs' h0' ha' P hv ft hsm (cells_sm hs' hc h1).2
     exact Zba e (br_ff rfl (Zba e4 (Zba c6 (br_ff (not_f (dec_t hc)) (Zba d2 (br_ff (dec_f h1) (Zba d2 (Zba d2 (Zba p5 (br_ff (dec_f (show ¬(2000:Int)<IntKind.wrap .i64 ((IntKind.wrap .i64 (n.vars+cellsN n))+(IntKind.wrap .i64 ((IntKind.wrap .i64 (10*cellsN n))*(ptN n.mems:Int)))) by rw [w];exact hm')) (br_tt (dec_t rfl) (Zba hsh (br_tt rfl (Zba al rfl))))))))))))))
    ·have hm':=of_decide_eq_true hm
     exact Zba e (br_ff rfl (Zba (x3 hc h1 hm) (Zba c6 (br_ff (not_f (dec_t hc)) (Zba d2 (br_ff (dec_f h1) (Zba d2 (Zba d2 (Zba p5 (br_tt (dec_t (show (2000:Int)<IntKind.wrap .i64 ((IntKind.wrap .i64 (n.vars+cellsN n))+(IntKind.wrap .i64 ((IntKind.wrap .i64 (10*cellsN n))*(ptN n.mems:Int)))) by rw [w];exact hm')) (br_tt (dec_t rfl) (br_tt rfl (Zba al rfl)))))))))))))
  ·exact Zba e (br_ff rfl (Zba (x1 hc) (Zba c6 (br_tt (not_t (dec_f hc)) (Zba c6 (br_tt (dec_t rfl) (br_tt rfl (Zba al rfl))))))))
end Go.Proofs.Ytnocaehijdmkkaa.V
end
