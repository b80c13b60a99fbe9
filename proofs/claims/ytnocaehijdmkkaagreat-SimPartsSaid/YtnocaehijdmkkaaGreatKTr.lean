import Derived.Test.YtnocaehijdmkkaaGreatKTh
set_option linter.unusedSectionVars false
set_option linter.unusedVariables false
set_option linter.unusedSimpArgs false
set_option linter.unnecessarySimpa false
section
namespace Go.Proofs.YtnocaehijdmkkaaGreat.V
open Go Go.RowKit
set_option maxRecDepth 1000000
abbrev astrariumref01_Make_σs:List Sh:=[(.int .i64),.bool]
abbrev astrariumref01_Make_τs:List Sh:=[(.int .i64)]
abbrev astrariumref01_Make_T:=TL astrariumref01_Make_σs→Option (TL astrariumref01_Make_τs)
abbrev astrariumref01_Make_D:=Kd 104 astrariumref01_Make_σs astrariumref01_Make_τs
def astrariumref01_Make_F (a0:Int) (a1:Bool):Option (TL astrariumref01_Make_τs):=
 br a1
 (
  some ((IntKind.wrap .i64 ((IntKind.wrap .i64 (@HMul.hMul (Int) (Int) (Int) _ (2:Int) a0))+(1:Int))),()))
 (
  some ((IntKind.wrap .i64 (@HMul.hMul (Int) (Int) (Int) _ (2:Int) a0)),()))
def astrariumref01_Make_G  :astrariumref01_Make_D:=⟨u2 astrariumref01_Make_F,pD Tryz.func104 11 k0 e0 1 (sS l0) fun d=>by kernel_rfl⟩
def astrariumref01_Make_K:astrariumref01_Make_D:=astrariumref01_Make_G  
def astrariumref01_Make_FF:astrariumref01_Make_T:=astrariumref01_Make_K.F
abbrev astrariumref09_Fine_lay5:Lay:={ T:=[(0,.fz (.int .i64)),(1,.int .i64),(5,.hd 0 .bool),(6,.int .i64)],h:=[(0,.arr .bool 4)],nx:=1 }
abbrev astrariumref09_Fine_outs5:List (Ev.Ex×Lay):=[(.ret,{ T:=[(4,.bool)],h:=[],nx:=0 }),((.exit 0),{ T:=[],h:=[],nx:=0 })]
abbrev astrariumref09_Fine_T5:=TL astrariumref09_Fine_lay5.σs→Option (Out astrariumref09_Fine_outs5)
abbrev astrariumref09_Fine_D5:=Ld 0 54 (Zb5 [0] (Zaa Tryz.f66)) astrariumref09_Fine_lay5 astrariumref09_Fine_outs5
def astrariumref09_Fine_B5 (t0:List Int) (t1 t6:Int) (b0:List Bool):Option (TL astrariumref09_Fine_lay5.σs⊕Out astrariumref09_Fine_outs5):=
 br (iE t6 t1)
 (
  chk (inb t6 (List.length t0))<|
  br (iL (gt (.int .i64) t0 t6) (1:Int))
  (
   some (.inr (.inl (false,()))))
  (
   chk (inb t6 (List.length t0))<|
   br (selB false true (iL t1 (gt (.int .i64) t0 t6)))
   (
    some (.inr (.inl (false,()))))
   (
    chk (inb t6 (List.length t0))<|
    chk (inb (gt (.int .i64) t0 t6) (List.length b0))<|
    br (selB false true (gt .bool b0 (gt (.int .i64) t0 t6)))
    (
     some (.inr (.inl (false,()))))
    (
     chk (inb t6 (List.length t0))<|
     chk (inb (gt (.int .i64) t0 t6) (List.length b0))<|
     some (.inl (t0,(t1,((IntKind.wrap .i64 (t6+(1:Int))),((List.set b0 (Int.toNat (gt (.int .i64) t0 t6)) true),())))))))))
 (
  some (.inr (.inr ())))
def astrariumref09_Fine_N5  :astrariumref09_Fine_D5:=mkL (u4 astrariumref09_Fine_B5) (pL k0 e0 1 l0 fun d=>by kernel_rfl)
def astrariumref09_Fine_L5:astrariumref09_Fine_T5:=lpD (u4 astrariumref09_Fine_B5) NN
abbrev astrariumref09_Fine_σs:List Sh:=[(.sl (.int .i64)),(.int .i64)]
abbrev astrariumref09_Fine_τs:List Sh:=[.bool]
abbrev astrariumref09_Fine_T:=TL astrariumref09_Fine_σs→Option (TL astrariumref09_Fine_τs)
abbrev astrariumref09_Fine_D:=Kd 66 astrariumref09_Fine_σs astrariumref09_Fine_τs
def astrariumref09_Fine_F (L5:astrariumref09_Fine_T5) (a0:List Int) (a1:Int):Option (TL astrariumref09_Fine_τs):=
 br (Bool.not (iQ (Int.ofNat (List.length a0)) (IntKind.wrap .i64 (@HAdd.hAdd (Int) (Int) (Int) _ a1 (1:Int)))))
 (
  some (false,()))
 (
  chk (inb (0:Int) (List.length a0))<|
  br (selB false true (Bool.not (iQ (gt (.int .i64) a0 (0:Int)) (0:Int))))
  (
   some (false,()))
  (
   chk (both (iE (0:Int) (IntKind.wrap .i64 (@HAdd.hAdd (Int) (Int) (Int) _ a1 (1:Int)))) (both (iE (IntKind.wrap .i64 (@HAdd.hAdd (Int) (Int) (Int) _ a1 (1:Int))) (IntKind.wrap .i64 (@HAdd.hAdd (Int) (Int) (Int) _ a1 (1:Int)))) (iE ((Int.ofNat 1)*(IntKind.wrap .i64 (@HAdd.hAdd (Int) (Int) (Int) _ a1 (1:Int)))) (281474976710656:Int))))<|
   bnd (L5 (a0,(a1,((1:Int),((List.replicate (Int.toNat (IntKind.wrap .i64 (@HAdd.hAdd (Int) (Int) (Int) _ a1 (1:Int)))) (Sh.zero .bool)),()))))) fun x0=>
   (match x0 with
   | .inl x1=>
    some (x1.1,())
   | .inr x1=>
    some (true,())
   )))
def astrariumref09_Fine_G (M5:astrariumref09_Fine_D5):astrariumref09_Fine_D:=⟨u2 (astrariumref09_Fine_F M5.L),pD Tryz.func66 54 k0 e0 1 (sS (sC M5 l0)) fun d=>by kernel_rfl⟩
def astrariumref09_Fine_K:astrariumref09_Fine_D:=astrariumref09_Fine_G  astrariumref09_Fine_N5
def astrariumref09_Fine_FF:astrariumref09_Fine_T:=astrariumref09_Fine_K.F
abbrev astrariumref09_lit_σs:List Sh:=[(.int .i64),(.sl (.int .i64))]
abbrev astrariumref09_lit_τs:List Sh:=[(.int .i64)]
abbrev astrariumref09_lit_T:=TL astrariumref09_lit_σs→Option (TL astrariumref09_lit_τs)
abbrev astrariumref09_lit_D:=Kd 68 astrariumref09_lit_σs astrariumref09_lit_τs
def astrariumref09_lit_F (F0:astrariumref01_Make_T) (F1:Zaxi) (F2:Zam6) (a0:Int) (a1:List Int):Option (TL astrariumref09_lit_τs):=
 bnd (F2 (a0,())) fun x0=>
 chk (inb x0.1 (List.length a1))<|
 bnd (F1 (a0,())) fun x1=>
 bnd (F0 ((gt (.int .i64) a1 x0.1),(x1.1,()))) fun x2=>
 some (x2.1,())
def astrariumref09_lit_G (c0:astrariumref01_Make_D) (c1:Zarw) (c2:Zaj2) :astrariumref09_lit_D:=⟨u2 (astrariumref09_lit_F c0.F c1.F c2.F),pD Tryz.func68 13 (kD c0 (kD c1 (kD c2 k0))) e0 1 (sS l0) fun d=>by kernel_rfl⟩
def astrariumref09_lit_K:astrariumref09_lit_D:=astrariumref09_lit_G astrariumref01_Make_K Zaxj Zam7 
def astrariumref09_lit_FF:astrariumref09_lit_T:=astrariumref09_lit_K.F
abbrev astrariumref09_lits_lay3:Lay:={ T:=[(0,.fz (.int .i64)),(1,.fz (.int .i64)),(5,.hd 0 (.int .i64)),(6,.int .i64)],h:=[(0,.arr (.int .i64) 3)],nx:=1 }
abbrev astrariumref09_lits_outs3:List (Ev.Ex×Lay):=[((.exit 0),{ T:=[(5,.hd 0 (.int .i64))],h:=[(0,.arr (.int .i64) 3)],nx:=1 })]
abbrev astrariumref09_lits_T3:=TL astrariumref09_lits_lay3.σs→Option (Out astrariumref09_lits_outs3)
abbrev astrariumref09_lits_D3:=Ld 0 23 (Zb5 [0] (Zaa Tryz.f67)) astrariumref09_lits_lay3 astrariumref09_lits_outs3
def astrariumref09_lits_B3 (F0:astrariumref09_lit_T) (t0 t1:List Int) (t6:Int) (b0:List Int):Option (TL astrariumref09_lits_lay3.σs⊕Out astrariumref09_lits_outs3):=
 br (iL t6 (Int.ofNat (List.length t0)))
 (
  chk (inb t6 (List.length t0))<|
  bnd (F0 ((gt (.int .i64) t0 t6),(t1,()))) fun x0=>
  chk (room 8 (List.length (ap b0 (x0.1 :: []))))<|
  some (.inl (t0,(t1,((IntKind.wrap .i64 (t6+(1:Int))),((ap b0 (x0.1 :: [])),()))))))
 (
  some (.inr (b0,())))
def astrariumref09_lits_M3 (c0:astrariumref09_lit_D) :astrariumref09_lits_D3:=mkL (u4 (astrariumref09_lits_B3 c0.F)) (pL (kD c0 k0) e0 1 l0 fun d=>by kernel_rfl)
def astrariumref09_lits_N3:astrariumref09_lits_D3:=astrariumref09_lits_M3 astrariumref09_lit_K 
def astrariumref09_lits_L3:astrariumref09_lits_T3:=lpD (u4 (astrariumref09_lits_B3 astrariumref09_lit_FF)) NN
abbrev astrariumref09_lits_σs:List Sh:=[(.sl (.int .i64)),(.sl (.int .i64))]
abbrev astrariumref09_lits_τs:List Sh:=[(.sl (.int .i64))]
abbrev astrariumref09_lits_T:=TL astrariumref09_lits_σs→Option (TL astrariumref09_lits_τs)
abbrev astrariumref09_lits_D:=Kd 67 astrariumref09_lits_σs astrariumref09_lits_τs
def astrariumref09_lits_F (F0:astrariumref09_lit_T) (L3:astrariumref09_lits_T3) (a0 a1:List Int):Option (TL astrariumref09_lits_τs):=
 bnd (L3 (a0,(a1,((0:Int),([],()))))) fun x0=>
 some (x0.1,())
def astrariumref09_lits_G (c0:astrariumref09_lit_D) (M3:astrariumref09_lits_D3):astrariumref09_lits_D:=⟨u2 (astrariumref09_lits_F c0.F M3.L),pD Tryz.func67 23 (kD c0 k0) e0 1 (sS (sC M3 l0)) fun d=>by kernel_rfl⟩
def astrariumref09_lits_K:astrariumref09_lits_D:=astrariumref09_lits_G astrariumref09_lit_K astrariumref09_lits_N3
def astrariumref09_lits_FF:astrariumref09_lits_T:=astrariumref09_lits_K.F
abbrev yTr0:List LA:=[.int .i64,.nils,.nils,.nils,.nils,.nils,.nils,.nils]
abbrev yTr1:List LA:=[.int .i64,.int .i64,.bool,.nils,.nils]
abbrev yTr2:List (Nat×LO):=[(0,.cells lNet 27),(1,.cells yTr0 27),(2,.cells [.int .i64,.hd 3 (.int .i64),.hd 4 Za0,.fz (.int .i64),.fz (.int .i64),.fz (.int .i64),.hd 5 Za1,.nils] 27),(3,.arr (.int .i64) 3),(4,.arr Za0 80),(5,.arr Za1 95)]
abbrev yTr3:List (Nat×LO):=[(0,.cells [.int .i64,.int .i64,.bool,.fz Zb3,.fz Zb8] 95),(1,.cells yTr1 95),(2,.cells [.int .i64,.int .i64,.bool,.hd 3 Zb3,.nils] 95),(3,.arr Zb3 151),(4,.cells [.int .i64,.fz (.int .i64)] 151)]
abbrev yTr4:List (Nat×LO):=[(0,.cells lNet 27),(1,.cells yTr0 27),(2,.cells [.int .i64,.hd 3 (.int .i64),.hd 4 Za0,.fz (.int .i64),.fz (.int .i64),.fz (.int .i64),.nils,.nils] 27),(3,.arr (.int .i64) 3),(4,.arr Za0 80)]
abbrev yTr5:List (Nat×LO):=[(0,.cells lNet 27),(1,.cells yTr0 27),(2,.cells [.int .i64,.hd 3 (.int .i64),.nils,.fz (.int .i64),.fz (.int .i64),.fz (.int .i64),.nils,.nils] 27),(3,.arr (.int .i64) 3)]
abbrev yTr6:List (Nat×LO):=[(0,.cells [.int .i64,.int .i64,.bool,.fz Zb3,.fz Zb8] 95),(1,.cells yTr1 95),(2,.cells [.int .i64,.int .i64,.bool,.hd 3 Zb3,.nils] 95),(3,.arr Zb3 151)]
abbrev yTr7:List (Tmp×LA):=[(1,.fz (.int .i64)),(2,.ptr 0 0),(4,.ptr 1 0),(7,.ptr 2 0)]
abbrev astrariumref09_memory_lay13:Lay:={ T:=[(1,.fz (.int .i64)),(2,.ptr 0 0),(4,.ptr 1 0),(6,.ptr 2 0),(10,.int .i64)],h:=[(0,.cells [.int .i64,.int .i64,.bool,.fz Zb3,.fz Zb8] 95),(1,.cells yTr1 95),(2,.cells [.int .i64,.int .i64,.bool,.hd 3 Zb3,.hd 4 Zb8] 95),(3,.arr Zb3 151),(4,.arr Zb8 114)],nx:=5 }
abbrev astrariumref09_memory_outs13:List (Ev.Ex×Lay):=[((.exit 4),{ T:=[(4,.ptr 0 0),(6,.ptr 1 0)],h:=[(0,.cells yTr1 95),(1,.cells [.int .i64,.int .i64,.bool,.hd 2 Zb3,.hd 3 Zb8] 95),(2,.arr Zb3 151),(3,.arr Zb8 114)],nx:=4 })]
abbrev astrariumref09_memory_T13:=TL astrariumref09_memory_lay13.σs→Option (Out astrariumref09_memory_outs13)
abbrev astrariumref09_memory_D13:=Ld 0 99 (Zb5 [1] (Zaa Tryz.f69)) astrariumref09_memory_lay13 astrariumref09_memory_outs13
abbrev astrariumref09_memory_lay3:Lay:={ T:=[(1,.fz (.int .i64)),(2,.ptr 0 0),(4,.ptr 1 0),(6,.ptr 2 0),(7,.int .i64)],h:=yTr6,nx:=4 }
abbrev astrariumref09_memory_outs3:List (Ev.Ex×Lay):=[(.ret,{ T:=[(4,.ptr 0 0),(5,.bool)],h:=[(0,.cells yTr1 95)],nx:=1 }),((.exit 0),{ T:=[(1,.fz (.int .i64)),(2,.ptr 0 0),(4,.ptr 1 0),(6,.ptr 2 0)],h:=yTr6,nx:=4 })]
abbrev astrariumref09_memory_T3:=TL astrariumref09_memory_lay3.σs→Option (Out astrariumref09_memory_outs3)
abbrev astrariumref09_memory_D3:=Ld 0 99 (Zb5 [0] (Zaa Tryz.f69)) astrariumref09_memory_lay3 astrariumref09_memory_outs3
abbrev astrariumref09_memory_lay7:Lay:={ T:=[(1,.fz (.int .i64)),(2,.ptr 0 0),(4,.ptr 1 0),(6,.ptr 2 0),(7,.int .i64),(8,.ptr 4 0),(9,.int .i64)],h:=yTr3,nx:=5 }
abbrev astrariumref09_memory_outs7:List (Ev.Ex×Lay):=[(.ret,{ T:=[(4,.ptr 0 0),(5,.bool)],h:=[(0,.cells yTr1 95)],nx:=1 }),((.exit 2),{ T:=[(1,.fz (.int .i64)),(2,.ptr 0 0),(4,.ptr 1 0),(6,.ptr 2 0),(7,.int .i64),(8,.ptr 4 0)],h:=yTr3,nx:=5 })]
abbrev astrariumref09_memory_T7:=TL astrariumref09_memory_lay7.σs→Option (Out astrariumref09_memory_outs7)
abbrev astrariumref09_memory_D7:=Ld 0 99 (Zb5 [0,0] (Zaa Tryz.f69)) astrariumref09_memory_lay7 astrariumref09_memory_outs7
def astrariumref09_memory_B7 (t1:List Int) (t7 t9 b0_0 b0_1:Int) (b0_2:Bool) (b0_3:List (Sh.T Zb3)) (b0_4:List (Sh.T Zb8)) (b1_0 b1_1:Int) (b1_2:Bool) (b2_0 b2_1:Int) (b2_2:Bool) (b3:List (Sh.T Zb3)) (b4_0:Int) (b4_1:List Int):Option (TL astrariumref09_memory_lay7.σs⊕Out astrariumref09_memory_outs7):=
 br (iL t9 b0_1)
 (
  chk (inb (IntKind.wrap .i64 (b4_0+t9)) (List.length t1))<|
  chk (inb b4_0 (List.length t1))<|
  br (Bool.not (iQ (gt (.int .i64) t1 (IntKind.wrap .i64 (b4_0+t9))) (IntKind.wrap .i64 (@HAdd.hAdd (Int) (Int) (Int) _ (gt (.int .i64) t1 b4_0) t9))))
  (
   some (.inr (.inl (false,((0:Int),((0:Int),(false,())))))))
  (
   some (.inl (t1,(t7,((IntKind.wrap .i64 (t9+(1:Int))),(b0_0,(b0_1,(b0_2,(b0_3,(b0_4,(b1_0,(b1_1,(b1_2,(b2_0,(b2_1,(b2_2,(b3,(b4_0,(b4_1,()))))))))))))))))))))
 (
  some (.inr (.inr (t1,(t7,(b0_0,(b0_1,(b0_2,(b0_3,(b0_4,(b1_0,(b1_1,(b1_2,(b2_0,(b2_1,(b2_2,(b3,(b4_0,(b4_1,())))))))))))))))))))
def astrariumref09_memory_N7  :astrariumref09_memory_D7:=mkL (u17 astrariumref09_memory_B7) (pL k0 e0 1 l0 fun d=>by kernel_rfl)
def astrariumref09_memory_L7:astrariumref09_memory_T7:=lpD (u17 astrariumref09_memory_B7) NN
def astrariumref09_memory_B3 (F1:astrariumref09_lits_T) (L7:astrariumref09_memory_T7) (t1:List Int) (t7 b0_0 b0_1:Int) (b0_2:Bool) (b0_3:List (Sh.T Zb3)) (b0_4:List (Sh.T Zb8)) (b1_0 b1_1:Int) (b1_2:Bool) (b2_0 b2_1:Int) (b2_2:Bool) (b3:List (Sh.T Zb3)):Option (TL astrariumref09_memory_lay3.σs⊕Out astrariumref09_memory_outs3):=
 br (iL t7 (Int.ofNat (List.length b0_3)))
 (
  chk (inb t7 (List.length b0_3))<|
  bnd (L7 (t1,(t7,((0:Int),(b0_0,(b0_1,(b0_2,(b0_3,(b0_4,(b1_0,(b1_1,(b1_2,(b2_0,(b2_1,(b2_2,(b3,((gt Zb3 b0_3 t7).1,((gt Zb3 b0_3 t7).2.1,())))))))))))))))))) fun x0=>
  (match x0 with
  | .inl x1=>
   some (.inr (.inl x1))
  | .inr x1=>
   chk (inb x1.2.2.2.2.2.2.2.2.2.2.2.2.2.2.1 (List.length x1.1))<|
   bnd (F1 (x1.2.2.2.2.2.2.2.2.2.2.2.2.2.2.2.1,(x1.1,()))) fun x2=>
   chk (room 32 (List.length (ap x1.2.2.2.2.2.2.2.2.2.2.2.2.2.1 (((gt (.int .i64) x1.1 x1.2.2.2.2.2.2.2.2.2.2.2.2.2.2.1),(x2.1,())) :: []))))<|
   some (.inl (x1.1,((IntKind.wrap .i64 (@HAdd.hAdd (Int) (Int) (Int) _ x1.2.1 (1:Int))),(x1.2.2.1,(x1.2.2.2.1,(x1.2.2.2.2.1,(x1.2.2.2.2.2.1,(x1.2.2.2.2.2.2.1,(x1.2.2.2.2.2.2.2.1,(x1.2.2.2.2.2.2.2.2.1,(x1.2.2.2.2.2.2.2.2.2.1,(x1.2.2.2.2.2.2.2.2.2.2.1,(x1.2.2.2.2.2.2.2.2.2.2.2.1,(x1.2.2.2.2.2.2.2.2.2.2.2.2.1,((ap x1.2.2.2.2.2.2.2.2.2.2.2.2.2.1 (((gt (.int .i64) x1.1 x1.2.2.2.2.2.2.2.2.2.2.2.2.2.2.1),(x2.1,())) :: [])),())))))))))))))))
  ))
 (
  some (.inr (.inr (t1,(b0_0,(b0_1,(b0_2,(b0_3,(b0_4,(b1_0,(b1_1,(b1_2,(b2_0,(b2_1,(b2_2,(b3,()))))))))))))))))
def astrariumref09_memory_M3 (c1:astrariumref09_lits_D) (M7:astrariumref09_memory_D7):astrariumref09_memory_D3:=mkL (u14 (astrariumref09_memory_B3 c1.F M7.L)) (pL (kD c1 k0) e0 1 (sC M7 l0) fun d=>by kernel_rfl)
def astrariumref09_memory_N3:astrariumref09_memory_D3:=astrariumref09_memory_M3 astrariumref09_lits_K astrariumref09_memory_N7
def astrariumref09_memory_L3:astrariumref09_memory_T3:=lpD (u14 (astrariumref09_memory_B3 astrariumref09_lits_FF astrariumref09_memory_L7)) NN
def astrariumref09_memory_B13 (F0:astrariumref09_lit_T) (F1:astrariumref09_lits_T) (t1:List Int) (t10 b0_0 b0_1:Int) (b0_2:Bool) (b0_3:List (Sh.T Zb3)) (b0_4:List (Sh.T Zb8)) (b1_0 b1_1:Int) (b1_2:Bool) (b2_0 b2_1:Int) (b2_2:Bool) (b3:List (Sh.T Zb3)) (b4:List (Sh.T Zb8)):Option (TL astrariumref09_memory_lay13.σs⊕Out astrariumref09_memory_outs13):=
 br (iL t10 (Int.ofNat (List.length b0_4)))
 (
  chk (inb t10 (List.length b0_4))<|
  bnd (F0 ((gt Zb8 b0_4 t10).1,(t1,()))) fun x0=>
  bnd (F1 ((gt Zb8 b0_4 t10).2.1,(t1,()))) fun x1=>
  bnd (F1 ((gt Zb8 b0_4 t10).2.2.1,(t1,()))) fun x2=>
  chk (room 56 (List.length (ap b4 ((x0.1,(x1.1,(x2.1,()))) :: []))))<|
  some (.inl (t1,((IntKind.wrap .i64 (t10+(1:Int))),(b0_0,(b0_1,(b0_2,(b0_3,(b0_4,(b1_0,(b1_1,(b1_2,(b2_0,(b2_1,(b2_2,(b3,((ap b4 ((x0.1,(x1.1,(x2.1,()))) :: [])),())))))))))))))))))
 (
  some (.inr (b1_0,(b1_1,(b1_2,(b2_0,(b2_1,(b2_2,(b3,(b4,()))))))))))
def astrariumref09_memory_M13 (c0:astrariumref09_lit_D) (c1:astrariumref09_lits_D) :astrariumref09_memory_D13:=mkL (u15 (astrariumref09_memory_B13 c0.F c1.F)) (pL (kD c0 (kD c1 k0)) e0 1 l0 fun d=>by kernel_rfl)
def astrariumref09_memory_N13:astrariumref09_memory_D13:=astrariumref09_memory_M13 astrariumref09_lit_K astrariumref09_lits_K 
def astrariumref09_memory_L13:astrariumref09_memory_T13:=lpD (u15 (astrariumref09_memory_B13 astrariumref09_lit_FF astrariumref09_lits_FF)) NN
abbrev astrariumref09_memory_σs:List Sh:=[Za1,(.sl (.int .i64))]
abbrev astrariumref09_memory_τs:List Sh:=[Za1,.bool]
abbrev astrariumref09_memory_T:=TL astrariumref09_memory_σs→Option (TL astrariumref09_memory_τs)
abbrev astrariumref09_memory_D:=Kd 69 astrariumref09_memory_σs astrariumref09_memory_τs
def astrariumref09_memory_F (F0:astrariumref09_lit_T) (F1:astrariumref09_lits_T) (L3:astrariumref09_memory_T3) (L7:astrariumref09_memory_T7) (L13:astrariumref09_memory_T13) (a0:Sh.T Za1) (a1:List Int):Option (TL astrariumref09_memory_τs):=
 bnd (L3 (a1,((0:Int),(a0.1,(a0.2.1,(a0.2.2.1,(a0.2.2.2.1,(a0.2.2.2.2.1,((0:Int),((0:Int),(false,(a0.1,(a0.2.1,(a0.2.2.1,([],()))))))))))))))) fun x0=>
 (match x0 with
 | .inl x1=>
  some ((x1.2.1,(x1.2.2.1,(x1.2.2.2.1,([],([],()))))),(x1.1,()))
 | .inr x1=>
  bnd (L13 (x1.1,((0:Int),(x1.2.1,(x1.2.2.1,(x1.2.2.2.1,(x1.2.2.2.2.1,(x1.2.2.2.2.2.1,(x1.2.2.2.2.2.2.1,(x1.2.2.2.2.2.2.2.1,(x1.2.2.2.2.2.2.2.2.1,(x1.2.2.2.2.2.2.2.2.2.1,(x1.2.2.2.2.2.2.2.2.2.2.1,(x1.2.2.2.2.2.2.2.2.2.2.2.1,(x1.2.2.2.2.2.2.2.2.2.2.2.2.1,([],())))))))))))))))) fun x2=>
  some (x2.2.2.2,(true,()))
 )
def astrariumref09_memory_G (c0:astrariumref09_lit_D) (c1:astrariumref09_lits_D) (M3:astrariumref09_memory_D3) (M7:astrariumref09_memory_D7) (M13:astrariumref09_memory_D13):astrariumref09_memory_D:=⟨u2 (astrariumref09_memory_F c0.F c1.F M3.L M7.L M13.L),pD Tryz.func69 99 (kD c0 (kD c1 k0)) e0 1 (sS (sC M3 (sC M13 l0))) fun d=>by kernel_rfl⟩
def astrariumref09_memory_K:astrariumref09_memory_D:=astrariumref09_memory_G astrariumref09_lit_K astrariumref09_lits_K astrariumref09_memory_N3 astrariumref09_memory_N7 astrariumref09_memory_N13
def astrariumref09_memory_FF:astrariumref09_memory_T:=astrariumref09_memory_K.F
abbrev astrariumref09_Rename_lay24:Lay:={ T:=[(1,.fz (.int .i64)),(2,.ptr 0 0),(4,.ptr 1 0),(7,.ptr 2 0),(14,.int .i64)],h:=[(0,.cells lNet 27),(1,.cells yTr0 27),(2,.cells [.int .i64,.hd 3 (.int .i64),.hd 4 Za0,.fz (.int .i64),.fz (.int .i64),.fz (.int .i64),.hd 5 Za1,.hd 6 Za0] 27),(3,.arr (.int .i64) 3),(4,.arr Za0 80),(5,.arr Za1 95),(6,.arr Za0 124)],nx:=7 }
abbrev astrariumref09_Rename_outs24:List (Ev.Ex×Lay):=[((.exit 6),{ T:=[(4,.ptr 0 0),(7,.ptr 1 0)],h:=[(0,.cells yTr0 27),(1,.cells [.int .i64,.hd 2 (.int .i64),.hd 3 Za0,.fz (.int .i64),.fz (.int .i64),.fz (.int .i64),.hd 4 Za1,.hd 5 Za0] 27),(2,.arr (.int .i64) 3),(3,.arr Za0 80),(4,.arr Za1 95),(5,.arr Za0 124)],nx:=6 })]
abbrev astrariumref09_Rename_T24:=TL astrariumref09_Rename_lay24.σs→Option (Out astrariumref09_Rename_outs24)
abbrev astrariumref09_Rename_D24:=Ld 0 150 (Zb5 [3] (Zaa Tryz.f33)) astrariumref09_Rename_lay24 astrariumref09_Rename_outs24
abbrev astrariumref09_Rename_lay17:Lay:={ T:=[(1,.fz (.int .i64)),(2,.ptr 0 0),(4,.ptr 1 0),(7,.ptr 2 0),(11,.int .i64)],h:=yTr2,nx:=6 }
abbrev astrariumref09_Rename_outs17:List (Ev.Ex×Lay):=[(.ret,{ T:=[(4,.ptr 0 0),(5,.int .i64)],h:=[(0,.cells yTr0 27)],nx:=1 }),((.exit 4),{ T:=yTr7,h:=yTr2,nx:=6 })]
abbrev astrariumref09_Rename_T17:=TL astrariumref09_Rename_lay17.σs→Option (Out astrariumref09_Rename_outs17)
abbrev astrariumref09_Rename_D17:=Ld 0 150 (Zb5 [2] (Zaa Tryz.f33)) astrariumref09_Rename_lay17 astrariumref09_Rename_outs17
abbrev astrariumref09_Rename_lay12:Lay:={ T:=[(1,.fz (.int .i64)),(2,.ptr 0 0),(4,.ptr 1 0),(7,.ptr 2 0),(9,.int .i64)],h:=yTr4,nx:=5 }
abbrev astrariumref09_Rename_outs12:List (Ev.Ex×Lay):=[((.exit 2),{ T:=yTr7,h:=yTr4,nx:=5 })]
abbrev astrariumref09_Rename_T12:=TL astrariumref09_Rename_lay12.σs→Option (Out astrariumref09_Rename_outs12)
abbrev astrariumref09_Rename_D12:=Ld 0 150 (Zb5 [1] (Zaa Tryz.f33)) astrariumref09_Rename_lay12 astrariumref09_Rename_outs12
abbrev astrariumref09_Rename_lay8:Lay:={ T:=[(1,.fz (.int .i64)),(2,.ptr 0 0),(4,.ptr 1 0),(7,.ptr 2 0),(8,.int .i64)],h:=yTr5,nx:=4 }
abbrev astrariumref09_Rename_outs8:List (Ev.Ex×Lay):=[((.exit 0),{ T:=yTr7,h:=yTr5,nx:=4 })]
abbrev astrariumref09_Rename_T8:=TL astrariumref09_Rename_lay8.σs→Option (Out astrariumref09_Rename_outs8)
abbrev astrariumref09_Rename_D8:=Ld 0 150 (Zb5 [0] (Zaa Tryz.f33)) astrariumref09_Rename_lay8 astrariumref09_Rename_outs8
def astrariumref09_Rename_B8 (t1:List Int) (t8 b0_0:Int) (b0_1:List Int) (b0_2:List (Sh.T Za0)) (b0_3 b0_4 b0_5:List Int) (b0_6:List (Sh.T Za1)) (b0_7:List (Sh.T Za0)) (b1_0 b2_0:Int) (b2_3 b2_4 b2_5 b3:List Int):Option (TL astrariumref09_Rename_lay8.σs⊕Out astrariumref09_Rename_outs8):=
 br (iL t8 (Int.ofNat (List.length b0_1)))
 (
  chk (inb t8 (List.length b0_1))<|
  chk (inb (gt (.int .i64) b0_1 t8) (List.length t1))<|
  chk (room 8 (List.length (ap b3 ((gt (.int .i64) t1 (gt (.int .i64) b0_1 t8)) :: []))))<|
  some (.inl (t1,((IntKind.wrap .i64 (t8+(1:Int))),(b0_0,(b0_1,(b0_2,(b0_3,(b0_4,(b0_5,(b0_6,(b0_7,(b1_0,(b2_0,(b2_3,(b2_4,(b2_5,((ap b3 ((gt (.int .i64) t1 (gt (.int .i64) b0_1 t8)) :: [])),()))))))))))))))))))
 (
  some (.inr (t1,(b0_0,(b0_1,(b0_2,(b0_3,(b0_4,(b0_5,(b0_6,(b0_7,(b1_0,(b2_0,(b2_3,(b2_4,(b2_5,(b3,())))))))))))))))))
def astrariumref09_Rename_N8  :astrariumref09_Rename_D8:=mkL (u16 astrariumref09_Rename_B8) (pL k0 e0 1 l0 fun d=>by kernel_rfl)
def astrariumref09_Rename_L8:astrariumref09_Rename_T8:=lpD (u16 astrariumref09_Rename_B8) NN
def astrariumref09_Rename_B12 (F1:astrariumref09_lit_T) (t1:List Int) (t9 b0_0:Int) (b0_1:List Int) (b0_2:List (Sh.T Za0)) (b0_3 b0_4 b0_5:List Int) (b0_6:List (Sh.T Za1)) (b0_7:List (Sh.T Za0)) (b1_0 b2_0:Int) (b2_3 b2_4 b2_5 b3:List Int) (b4:List (Sh.T Za0)):Option (TL astrariumref09_Rename_lay12.σs⊕Out astrariumref09_Rename_outs12):=
 br (iL t9 (Int.ofNat (List.length b0_2)))
 (
  chk (inb t9 (List.length b0_2))<|
  chk (inb (gt Za0 b0_2 t9).1 (List.length t1))<|
  bnd (F1 ((gt Za0 b0_2 t9).2.1,(t1,()))) fun x0=>
  chk (room 24 (List.length (ap b4 (((gt (.int .i64) t1 (gt Za0 b0_2 t9).1),(x0.1,((gt Za0 b0_2 t9).2.2.1,()))) :: []))))<|
  some (.inl (t1,((IntKind.wrap .i64 (t9+(1:Int))),(b0_0,(b0_1,(b0_2,(b0_3,(b0_4,(b0_5,(b0_6,(b0_7,(b1_0,(b2_0,(b2_3,(b2_4,(b2_5,(b3,((ap b4 (((gt (.int .i64) t1 (gt Za0 b0_2 t9).1),(x0.1,((gt Za0 b0_2 t9).2.2.1,()))) :: [])),())))))))))))))))))))
 (
  some (.inr (t1,(b0_0,(b0_1,(b0_2,(b0_3,(b0_4,(b0_5,(b0_6,(b0_7,(b1_0,(b2_0,(b2_3,(b2_4,(b2_5,(b3,(b4,()))))))))))))))))))
def astrariumref09_Rename_M12 (c1:astrariumref09_lit_D) :astrariumref09_Rename_D12:=mkL (u17 (astrariumref09_Rename_B12 c1.F)) (pL (kD c1 k0) e0 1 l0 fun d=>by kernel_rfl)
def astrariumref09_Rename_N12:astrariumref09_Rename_D12:=astrariumref09_Rename_M12 astrariumref09_lit_K 
def astrariumref09_Rename_L12:astrariumref09_Rename_T12:=lpD (u17 (astrariumref09_Rename_B12 astrariumref09_lit_FF)) NN
def astrariumref09_Rename_B17 (F0:astrariumref09_memory_T) (t1:List Int) (t11 b0_0:Int) (b0_1:List Int) (b0_2:List (Sh.T Za0)) (b0_3 b0_4 b0_5:List Int) (b0_6:List (Sh.T Za1)) (b0_7:List (Sh.T Za0)) (b1_0 b2_0:Int) (b2_3 b2_4 b2_5 b3:List Int) (b4:List (Sh.T Za0)) (b5:List (Sh.T Za1)):Option (TL astrariumref09_Rename_lay17.σs⊕Out astrariumref09_Rename_outs17):=
 br (iL t11 (Int.ofNat (List.length b0_6)))
 (
  chk (inb t11 (List.length b0_6))<|
  bnd (F0 (((gt Za1 b0_6 t11).1,((gt Za1 b0_6 t11).2.1,((gt Za1 b0_6 t11).2.2.1,((gt Za1 b0_6 t11).2.2.2.1,((gt Za1 b0_6 t11).2.2.2.2.1,()))))),(t1,()))) fun x0=>
  br (Bool.not x0.2.1)
  (
   some (.inr (.inl ((9:Int),((0:Int),())))))
  (
   chk (room 72 (List.length (ap b5 ((x0.1.1,(x0.1.2.1,(x0.1.2.2.1,(x0.1.2.2.2.1,(x0.1.2.2.2.2.1,()))))) :: []))))<|
   some (.inl (t1,((IntKind.wrap .i64 (t11+(1:Int))),(b0_0,(b0_1,(b0_2,(b0_3,(b0_4,(b0_5,(b0_6,(b0_7,(b1_0,(b2_0,(b2_3,(b2_4,(b2_5,(b3,(b4,((ap b5 ((x0.1.1,(x0.1.2.1,(x0.1.2.2.1,(x0.1.2.2.2.1,(x0.1.2.2.2.2.1,()))))) :: [])),())))))))))))))))))))))
 (
  some (.inr (.inr (t1,(b0_0,(b0_1,(b0_2,(b0_3,(b0_4,(b0_5,(b0_6,(b0_7,(b1_0,(b2_0,(b2_3,(b2_4,(b2_5,(b3,(b4,(b5,()))))))))))))))))))))
def astrariumref09_Rename_M17 (c0:astrariumref09_memory_D) :astrariumref09_Rename_D17:=mkL (u18 (astrariumref09_Rename_B17 c0.F)) (pL (kD c0 k0) e0 1 l0 fun d=>by kernel_rfl)
def astrariumref09_Rename_N17:astrariumref09_Rename_D17:=astrariumref09_Rename_M17 astrariumref09_memory_K 
def astrariumref09_Rename_L17:astrariumref09_Rename_T17:=lpD (u18 (astrariumref09_Rename_B17 astrariumref09_memory_FF)) NN
def astrariumref09_Rename_B24 (F1:astrariumref09_lit_T) (t1:List Int) (t14 b0_0:Int) (b0_1:List Int) (b0_2:List (Sh.T Za0)) (b0_3 b0_4 b0_5:List Int) (b0_6:List (Sh.T Za1)) (b0_7:List (Sh.T Za0)) (b1_0 b2_0:Int) (b2_3 b2_4 b2_5 b3:List Int) (b4:List (Sh.T Za0)) (b5:List (Sh.T Za1)) (b6:List (Sh.T Za0)):Option (TL astrariumref09_Rename_lay24.σs⊕Out astrariumref09_Rename_outs24):=
 br (iL t14 (Int.ofNat (List.length b0_7)))
 (
  chk (inb t14 (List.length b0_7))<|
  chk (inb (gt Za0 b0_7 t14).1 (List.length t1))<|
  bnd (F1 ((gt Za0 b0_7 t14).2.1,(t1,()))) fun x0=>
  bnd (F1 ((gt Za0 b0_7 t14).2.2.1,(t1,()))) fun x1=>
  chk (room 24 (List.length (ap b6 (((gt (.int .i64) t1 (gt Za0 b0_7 t14).1),(x0.1,(x1.1,()))) :: []))))<|
  some (.inl (t1,((IntKind.wrap .i64 (t14+(1:Int))),(b0_0,(b0_1,(b0_2,(b0_3,(b0_4,(b0_5,(b0_6,(b0_7,(b1_0,(b2_0,(b2_3,(b2_4,(b2_5,(b3,(b4,(b5,((ap b6 (((gt (.int .i64) t1 (gt Za0 b0_7 t14).1),(x0.1,(x1.1,()))) :: [])),())))))))))))))))))))))
 (
  some (.inr (b1_0,(b2_0,(b2_3,(b2_4,(b2_5,(b3,(b4,(b5,(b6,())))))))))))
def astrariumref09_Rename_M24 (c1:astrariumref09_lit_D) :astrariumref09_Rename_D24:=mkL (u19 (astrariumref09_Rename_B24 c1.F)) (pL (kD c1 k0) e0 1 l0 fun d=>by kernel_rfl)
def astrariumref09_Rename_N24:astrariumref09_Rename_D24:=astrariumref09_Rename_M24 astrariumref09_lit_K 
def astrariumref09_Rename_L24:astrariumref09_Rename_T24:=lpD (u19 (astrariumref09_Rename_B24 astrariumref09_lit_FF)) NN
abbrev astrariumref09_Rename_σs:List Sh:=[Za5,(.sl (.int .i64))]
abbrev astrariumref09_Rename_τs:List Sh:=[Za5,(.int .i64)]
abbrev astrariumref09_Rename_T:=TL astrariumref09_Rename_σs→Option (TL astrariumref09_Rename_τs)
abbrev astrariumref09_Rename_D:=Kd 33 astrariumref09_Rename_σs astrariumref09_Rename_τs
def astrariumref09_Rename_F (F0:astrariumref09_memory_T) (F1:astrariumref09_lit_T) (F2:astrariumref09_lits_T) (F3:astrariumref09_Fine_T) (F4:Zadp) (L8:astrariumref09_Rename_T8) (L12:astrariumref09_Rename_T12) (L17:astrariumref09_Rename_T17) (L24:astrariumref09_Rename_T24) (a0:Sh.T Za5) (a1:List Int):Option (TL astrariumref09_Rename_τs):=
 bnd (F4 (a0,())) fun x0=>
 br (Bool.not (iQ x0.1 (0:Int)))
 (
  some (((0:Int),([],([],([],([],([],([],([],())))))))),(x0.1,())))
 (
  bnd (F3 (a1,(a0.1,()))) fun x1=>
  br (Bool.not x1.1)
  (
   some (((0:Int),([],([],([],([],([],([],([],())))))))),((1:Int),())))
  (
   bnd (F2 (a0.2.2.2.1,(a1,()))) fun x2=>
   bnd (F2 (a0.2.2.2.2.1,(a1,()))) fun x3=>
   bnd (F2 (a0.2.2.2.2.2.1,(a1,()))) fun x4=>
   bnd (L8 (a1,((0:Int),(a0.1,(a0.2.1,(a0.2.2.1,(a0.2.2.2.1,(a0.2.2.2.2.1,(a0.2.2.2.2.2.1,(a0.2.2.2.2.2.2.1,(a0.2.2.2.2.2.2.2.1,((0:Int),(a0.1,(x2.1,(x3.1,(x4.1,([],()))))))))))))))))) fun x5=>
   bnd (L12 (x5.1,((0:Int),(x5.2.1,(x5.2.2.1,(x5.2.2.2.1,(x5.2.2.2.2.1,(x5.2.2.2.2.2.1,(x5.2.2.2.2.2.2.1,(x5.2.2.2.2.2.2.2.1,(x5.2.2.2.2.2.2.2.2.1,(x5.2.2.2.2.2.2.2.2.2.1,(x5.2.2.2.2.2.2.2.2.2.2.1,(x5.2.2.2.2.2.2.2.2.2.2.2.1,(x5.2.2.2.2.2.2.2.2.2.2.2.2.1,(x5.2.2.2.2.2.2.2.2.2.2.2.2.2.1,(x5.2.2.2.2.2.2.2.2.2.2.2.2.2.2.1,([],())))))))))))))))))) fun x6=>
   bnd (L17 (x6.1,((0:Int),(x6.2.1,(x6.2.2.1,(x6.2.2.2.1,(x6.2.2.2.2.1,(x6.2.2.2.2.2.1,(x6.2.2.2.2.2.2.1,(x6.2.2.2.2.2.2.2.1,(x6.2.2.2.2.2.2.2.2.1,(x6.2.2.2.2.2.2.2.2.2.1,(x6.2.2.2.2.2.2.2.2.2.2.1,(x6.2.2.2.2.2.2.2.2.2.2.2.1,(x6.2.2.2.2.2.2.2.2.2.2.2.2.1,(x6.2.2.2.2.2.2.2.2.2.2.2.2.2.1,(x6.2.2.2.2.2.2.2.2.2.2.2.2.2.2.1,(x6.2.2.2.2.2.2.2.2.2.2.2.2.2.2.2.1,([],()))))))))))))))))))) fun x7=>
   (match x7 with
   | .inl x8=>
    some ((x8.2.1,([],([],([],([],([],([],([],())))))))),(x8.1,()))
   | .inr x8=>
    bnd (L24 (x8.1,((0:Int),(x8.2.1,(x8.2.2.1,(x8.2.2.2.1,(x8.2.2.2.2.1,(x8.2.2.2.2.2.1,(x8.2.2.2.2.2.2.1,(x8.2.2.2.2.2.2.2.1,(x8.2.2.2.2.2.2.2.2.1,(x8.2.2.2.2.2.2.2.2.2.1,(x8.2.2.2.2.2.2.2.2.2.2.1,(x8.2.2.2.2.2.2.2.2.2.2.2.1,(x8.2.2.2.2.2.2.2.2.2.2.2.2.1,(x8.2.2.2.2.2.2.2.2.2.2.2.2.2.1,(x8.2.2.2.2.2.2.2.2.2.2.2.2.2.2.1,(x8.2.2.2.2.2.2.2.2.2.2.2.2.2.2.2.1,(x8.2.2.2.2.2.2.2.2.2.2.2.2.2.2.2.2.1,([],())))))))))))))))))))) fun x9=>
    some ((x9.2.1,(x9.2.2.2.2.2.1,(x9.2.2.2.2.2.2.1,(x9.2.2.1,(x9.2.2.2.1,(x9.2.2.2.2.1,x9.2.2.2.2.2.2.2)))))),((0:Int),()))
   )))
def astrariumref09_Rename_G (c0:astrariumref09_memory_D) (c1:astrariumref09_lit_D) (c2:astrariumref09_lits_D) (c3:astrariumref09_Fine_D) (c4:Zacr) (M8:astrariumref09_Rename_D8) (M12:astrariumref09_Rename_D12) (M17:astrariumref09_Rename_D17) (M24:astrariumref09_Rename_D24):astrariumref09_Rename_D:=⟨u2 (astrariumref09_Rename_F c0.F c1.F c2.F c3.F c4.F M8.L M12.L M17.L M24.L),pD Tryz.func33 150 (kD c0 (kD c1 (kD c2 (kD c3 (kD c4 k0))))) e0 1 (sS (sC M8 (sC M12 (sC M17 (sC M24 l0))))) fun d=>by kernel_rfl⟩
def astrariumref09_Rename_K:astrariumref09_Rename_D:=astrariumref09_Rename_G astrariumref09_memory_K astrariumref09_lit_K astrariumref09_lits_K astrariumref09_Fine_K Zadq astrariumref09_Rename_N8 astrariumref09_Rename_N12 astrariumref09_Rename_N17 astrariumref09_Rename_N24
def astrariumref09_Rename_FF:astrariumref09_Rename_T:=astrariumref09_Rename_K.F
abbrev astrariumlaw12_SimParts_σs:List Sh:=[Za5,Zab,(.sl (.sl .bool)),(.int .i64),(.sl (.int .i64))]
abbrev astrariumlaw12_SimParts_τs:List Sh:=[.bool]
abbrev astrariumlaw12_SimParts_T:=TL astrariumlaw12_SimParts_σs→Option (TL astrariumlaw12_SimParts_τs)
abbrev astrariumlaw12_SimParts_D:=Kd 7 astrariumlaw12_SimParts_σs astrariumlaw12_SimParts_τs
def astrariumlaw12_SimParts_F (F0:astrariumref09_Rename_T) (F1:Zaz6) (F2:Zalg) (F3:astrariumlaw12_same_T) (F4:Zadp) (F5:sim_Run_T) (F6:astrariumlaw12_alive_T) (F7:Zakq) (a0:Sh.T Za5) (a1:Sh.T Zab) (a2:List (List Bool)) (a3:Int) (a4:List Int):Option (TL astrariumlaw12_SimParts_τs):=
 bnd (F7 (a0,(a1,(a2,())))) fun x0=>
 br (Bool.not x0.1)
 (
  bnd (F6 ()) fun x1=>
  some (x1.1,()))
 (
  br (selB false true (iL a3 (0:Int)))
  (
   bnd (F6 ()) fun x1=>
   some (x1.1,()))
  (
   br (selB false true (iL (Int.ofNat (List.length a2)) a3))
   (
    bnd (F6 ()) fun x1=>
    some (x1.1,()))
   (
    br (selB false true (iL (300:Int) (Int.ofNat (List.length a4))))
    (
     bnd (F6 ()) fun x1=>
     some (x1.1,()))
    (
     bnd (F5 (a0,(a1,(a2,())))) fun x1=>
     br (Bool.not (iQ x1.2.2.1 (0:Int)))
     (
      bnd (F4 (a0,())) fun x2=>
      br (Bool.not (iQ x2.1 (0:Int)))
      (
       bnd (F6 ()) fun x3=>
       some ((selB true x3.1 false),()))
      (
       br (selB false true (iQ x1.2.2.1 (14:Int)))
       (
        bnd (F6 ()) fun x3=>
        some ((selB true x3.1 false),()))
       (
        br (selB false true (iQ x1.2.2.1 (1:Int)))
        (
         bnd (F6 ()) fun x3=>
         some ((selB true x3.1 false),()))
        (
         some (false,())))))
     (
      chk (both (iE (0:Int) a3) (iE a3 (Int.ofNat (List.length a2))))<|
      bnd (F5 (a0,(a1,((List.take (Int.toNat a3) a2),())))) fun x2=>
      chk (iQ x2.2.2.1 x2.2.2.1)<|
      chk (both (iE (0:Int) a3) (iE a3 (Int.ofNat (List.length a2))))<|
      bnd (F5 (a0,((x2.2.1.1,(x2.2.1.2.1,())),((List.drop (Int.toNat a3) a2),())))) fun x3=>
      chk (iQ x3.2.2.1 x3.2.2.1)<|
      br (Bool.not (iQ x2.2.2.1 (0:Int)))
      (
       some (false,()))
      (
       br (selB false true (Bool.not (iQ x3.2.2.1 (0:Int))))
       (
        some (false,()))
       (
        chk (room 32 (List.length (ap [] x2.1)))<|
        chk (room 32 (List.length (ap (ap [] x2.1) x3.1)))<|
        bnd (F3 ((ap (ap [] x2.1) x3.1),(x1.1,()))) fun x4=>
        br (selB false true (Bool.not x4.1))
        (
         some (false,()))
        (
         bnd (F2 ((x3.2.1.1,(x3.2.1.2.1,())),((x1.2.1.1,(x1.2.1.2.1,())),()))) fun x5=>
         br (selB false true (Bool.not x5.1))
         (
          some (false,()))
         (
          bnd (F1 (a0,((x1.2.1.1,(x1.2.1.2.1,())),()))) fun x6=>
          br (selB false true (Bool.not (iQ x6.1 (0:Int))))
          (
           some (false,()))
          (
           bnd (F0 (a0,(a4,()))) fun x7=>
           br (Bool.not (iQ x7.2.1 (0:Int)))
           (
            bnd (F6 ()) fun x8=>
            some (x8.1,()))
           (
            bnd (F5 ((x7.1.1,(x7.1.2.1,(x7.1.2.2.1,(x7.1.2.2.2.1,(x7.1.2.2.2.2.1,(x7.1.2.2.2.2.2.1,(x7.1.2.2.2.2.2.2.1,(x7.1.2.2.2.2.2.2.2.1,())))))))),(a1,(a2,())))) fun x8=>
            br (iQ x8.2.2.1 (0:Int))
            (
             bnd (F3 (x8.1,(x1.1,()))) fun x9=>
             br (selB true x9.1 false)
             (
              bnd (F2 ((x8.2.1.1,(x8.2.1.2.1,())),((x1.2.1.1,(x1.2.1.2.1,())),()))) fun x10=>
              br (selB true x10.1 false)
              (
               bnd (F6 ()) fun x11=>
               some ((selB true x11.1 false),()))
              (
               some (false,())))
             (
              some (false,())))
            (
             some (false,())))))))))))))
def astrariumlaw12_SimParts_G (c0:astrariumref09_Rename_D) (c1:Zawa) (c2:Zaec) (c3:astrariumlaw12_same_D) (c4:Zacr) (c5:sim_Run_D) (c6:astrariumlaw12_alive_D) (c7:Zadr) :astrariumlaw12_SimParts_D:=⟨u5 (astrariumlaw12_SimParts_F c0.F c1.F c2.F c3.F c4.F c5.F c6.F c7.F),pD Tryz.func7 150 (kD c0 (kD c1 (kD c2 (kD c3 (kD c4 (kD c5 (kD c6 (kD c7 k0)))))))) e0 1 (sS l0) fun d=>by kernel_rfl⟩
def astrariumlaw12_SimParts_K:astrariumlaw12_SimParts_D:=astrariumlaw12_SimParts_G astrariumref09_Rename_K Zaz7 Zalh astrariumlaw12_same_K Zadq sim_Run_K astrariumlaw12_alive_K Zakr 
def astrariumlaw12_SimParts_FF:astrariumlaw12_SimParts_T:=astrariumlaw12_SimParts_K.F
end Go.Proofs.YtnocaehijdmkkaaGreat.V
end
section
namespace Go.Proofs.YtnocaehijdmkkaaGreat.V
open Go Go.RowKit
open Go.Proofs.YtnocaehijdmkkaaGreat.Pl
def rv (ts:List Int) (v:Int):Int:=gt (.int .i64) ts v
def rl (ts:List Int) (l:Int):Int:=2*rv ts (l / 2)+l % 2
def renLat (ts:List Int) (x:Zgv):Zgv:=⟨rv ts x.var,rl ts x.next,x.init⟩
def renAnd (ts:List Int) (x:AndD):AndD:=⟨rv ts x.var,rl ts x.a,rl ts x.b⟩
def renRd (ts:List Int) (x:ReadD):ReadD:=⟨rv ts x.var,x.addr.map (rl ts)⟩
def renWr (ts:List Int) (x:Zz7):Zz7:=⟨rl ts x.on,x.addr.map (rl ts),x.data.map (rl ts)⟩
def renMem (ts:List Int) (m:MemD):MemD:=⟨m.addr,m.word,m.any,m.reads.map (renRd ts),m.writes.map (renWr ts)⟩
def renN (ts:List Int) (n:NetD):NetD:=⟨n.vars,n.inputs.map (rv ts),n.latches.map (renLat ts),n.outputs.map (rl ts),n.bads.map (rl ts),n.constraints.map (rl ts),n.mems.map (renMem ts),n.ands.map (renAnd ts)⟩
def consR (ts:List Int) (w:Int) (r:ReadD):Bool:=(List.range w.toNat).all fun i=>decide (rv ts (r.var+((i:Nat):Int))=rv ts r.var+((i:Nat):Int))
def consB (ts:List Int) (m:MemD):Bool:=(List.range m.reads.length).all fun k=>consR ts m.word (m.reads.getD k ⟨0,[]⟩)
structure FineP (ts:List Int) (V:Nat):Prop where
 len:ts.length=V+1
 zero:rv ts 0=0
 rng:∀v:Nat,1≤v→v≤V→1≤rv ts (v:Int)∧rv ts (v:Int)≤(V:Int)
 inj:∀u v:Nat,1≤u→u<v→v≤V→rv ts (u:Int)≠rv ts (v:Int)
theorem FineP.le {ts:List Int} {V:Nat} (F:FineP ts V) {v:Int} (h0:0≤v) (h:v≤(V:Int)):0≤rv ts v∧rv ts v≤(V:Int):=by
 obtain ⟨k,rfl⟩:=Int.eq_ofNat_of_zero_le h0
 rcases Nat.eq_zero_or_pos k with q | q
 ·subst q
  have:rv ts (Int.ofNat 0)=0:=F.zero
  rw [show ((0:Nat):Int)=Int.ofNat 0 from rfl,this];omega
 ·have:=F.rng k q (by omega);omega
theorem fine_is (ts:List Int) (V:Nat) (hV:V≤2000):∃b,astrariumref09_Fine_FF (ts,((V:Int),()))=some (b,())∧(b=true→FineP ts V):=by
 have hw:IntKind.wrap .i64 ((V:Int)+(1:Int))=((V+1:Nat):Int):=i64n (by omega) (by omega)
 by_cases h1:ts.length=V+1
 ·by_cases h2:rv ts 0=0
  ·have hL:=Za80 (B:=fun d=>astrariumref09_Fine_B5 d.1 d.2.1 d.2.2.1 d.2.2.2.1)
    (I:=fun d:TL astrariumref09_Fine_lay5.σs=>∃(k:Nat) (b:List Bool),d=(ts,((V:Int),((k:Int),(b,()))))∧1≤k∧k≤V+1∧b.length=V+1∧∀v:Nat,1≤v→v<k→(1≤rv ts (v:Int)∧rv ts (v:Int)≤(V:Int))∧b.getD (rv ts (v:Int)).toNat false=true∧∀u:Nat,1≤u→u<v→rv ts (u:Int)≠rv ts (v:Int))
    (Q:=fun o:Out astrariumref09_Fine_outs5=>o=.inl (false,())∨(o=.inr ()∧∀v:Nat,1≤v→v≤V→(1≤rv ts (v:Int)∧rv ts (v:Int)≤(V:Int))∧∀u:Nat,1≤u→u<v→rv ts (u:Int)≠rv ts (v:Int)))
    (fun d:TL astrariumref09_Fine_lay5.σs=>V+1 - Int.toNat d.2.2.1) ?_ NN (ts,((V:Int),((1:Int),(List.replicate (Int.toNat ((V+1:Nat):Int)) (Sh.zero .bool),())))) ⟨1,_,rfl,by omega,by omega,(@List.length_replicate Bool _ _).trans (by omega),fun v h3 h4=>by omega⟩ (Ze8 (by show V+1 - Int.toNat (1:Int)≤_;omega))
   ·obtain ⟨o,e,q⟩:=hL
    have e':astrariumref09_Fine_L5 (ts,((V:Int),((1:Int),(List.replicate (Int.toNat (IntKind.wrap .i64 ((V:Int)+(1:Int)))) (Sh.zero .bool),()))))=some o:=by rw [hw];exact e
    have hb:both (iE (0:Int) (IntKind.wrap .i64 ((V:Int)+(1:Int)))) (both (iE (IntKind.wrap .i64 ((V:Int)+(1:Int))) (IntKind.wrap .i64 ((V:Int)+(1:Int)))) (iE ((Int.ofNat 1)*(IntKind.wrap .i64 ((V:Int)+(1:Int)))) (281474976710656:Int)))=true:=by
     rw [hw]
     have a1:iE (0:Int) ((V+1:Nat):Int)=true:=dec_t (by omega)
     have a2:iE ((V+1:Nat):Int) ((V+1:Nat):Int)=true:=dec_t (by omega)
     have a3:iE ((Int.ofNat 1)*((V+1:Nat):Int)) (281474976710656:Int)=true:=dec_t (by show (1:Int)*((V+1:Nat):Int)≤_;omega)
     rw [a1,a2,a3];rfl
    have q0:Bool.not (iQ (Int.ofNat (List.length ts)) (IntKind.wrap .i64 ((V:Int)+(1:Int))))=false:=by rw [hw];exact not_f (dec_t (by rw [h1];rfl))
    have q1:selB false true (Bool.not (iQ (gt (.int .i64) ts (0:Int)) (0:Int)))=false:=not_f (dec_t h2)
    rcases q with rfl | ⟨rfl,q⟩
    ·exact ⟨false,br_ff q0 (Zaj (show inb (0:Int) (List.length ts)=true from Zar ⟨by omega,by omega⟩) (br_ff q1 (Zaj hb (Zba e' rfl)))),fun h=>by cases h⟩
    ·exact ⟨true,br_ff q0 (Zaj (show inb (0:Int) (List.length ts)=true from Zar ⟨by omega,by omega⟩) (br_ff q1 (Zaj hb (Zba e' rfl)))),fun _=>⟨h1,h2,fun v a b=>(q v a b).1,fun u v a b c=>(q v (by omega) c).2 u a b⟩⟩
   ·rintro d ⟨k,b,rfl,k1,k2,hb,hI⟩
    by_cases hk:k≤V
    ·have h0:iE (k:Int) (V:Int)=true:=dec_t (by omega)
     have hin:inb (k:Int) (List.length ts)=true:=Zar ⟨by omega,by omega⟩
     by_cases r1:rv ts (k:Int)<1
     ·exact .inl ⟨.inl (false,()),br_tt h0 (Zaj hin (br_tt (dec_t r1) rfl)),.inl rfl⟩
     ·by_cases r2:(V:Int)<rv ts (k:Int)
      ·exact .inl ⟨.inl (false,()),br_tt h0 (Zaj hin (br_ff (dec_f r1) (Zaj hin (br_tt (show selB false true (iL (V:Int) (gt (.int .i64) ts (k:Int)))=true from dec_t r2) rfl)))),.inl rfl⟩
      ·have r2':selB false true (iL (V:Int) (gt (.int .i64) ts (k:Int)))=false:=dec_f r2
       have hin2:inb (gt (.int .i64) ts (k:Int)) (List.length b)=true:=Zar ⟨by show 0≤rv ts (k:Int);omega,by show rv ts (k:Int)<_;omega⟩
       have gb:gt .bool b (gt (.int .i64) ts (k:Int))=b.getD (rv ts (k:Int)).toNat false:=gt_b (by show 0≤rv ts (k:Int);omega)
       cases hs:b.getD (rv ts (k:Int)).toNat false with
       | true=>exact .inl ⟨.inl (false,()),br_tt h0 (Zaj hin (br_ff (dec_f r1) (Zaj hin (br_ff r2' (Zaj hin (Zaj hin2 (br_tt (show selB false true (gt .bool b (gt (.int .i64) ts (k:Int)))=true by rw [gb,hs];rfl) rfl))))))),.inl rfl⟩
       | false=>
        have e:∀(p q:Int),p=q→(some (.inl (ts,((V:Int),(p,(List.set b (Int.toNat (gt (.int .i64) ts (k:Int))) true,()))))):Option (TL astrariumref09_Fine_lay5.σs⊕Out astrariumref09_Fine_outs5))=some (.inl (ts,((V:Int),(q,(List.set b (Int.toNat (gt (.int .i64) ts (k:Int))) true,()))))):=by rintro _ _ rfl;rfl
        refine .inr ⟨(ts,((V:Int),(((k+1:Nat):Int),(List.set b (Int.toNat (gt (.int .i64) ts (k:Int))) true,())))),br_tt h0 (Zaj hin (br_ff (dec_f r1) (Zaj hin (br_ff r2' (Zaj hin (Zaj hin2 (br_ff (show selB false true (gt .bool b (gt (.int .i64) ts (k:Int)))=false by rw [gb,hs];rfl) (Zaj hin (Zaj hin2 (e _ _ (i64n (show (k:Int)+1=((k+1:Nat):Int) by omega) (by omega))))))))))))
         ,⟨k+1,_,rfl,by omega,by omega,(@List.length_set Bool _ _ _).trans hb,?_⟩,by show V+1 - Int.toNat ((k+1:Nat):Int)<V+1 - Int.toNat (k:Int);omega⟩
        intro v v1 v2
        have hset:∀j:Nat,(List.set b (rv ts (k:Int)).toNat true).getD j false=if (rv ts (k:Int)).toNat=j∧j<b.length then true else b.getD j false:=by
         intro j
         rw [List.getD_eq_getElem?_getD,List.getElem?_set]
         by_cases c1:(rv ts (k:Int)).toNat=j
         ·by_cases c2:j<b.length
          ·rw [if_pos c1,if_pos (by omega),if_pos ⟨c1,c2⟩];rfl
          ·rw [if_pos c1,if_neg (by omega),if_neg (fun q=>c2 q.2),List.getD_eq_getElem?_getD,List.getElem?_eq_none (by omega)]
         ·rw [if_neg c1,if_neg (fun q=>c1 q.1),List.getD_eq_getElem?_getD]
        rcases Nat.lt_or_ge v k with q | q
        ·obtain ⟨i1,i2,i3⟩:=hI v v1 q
         refine ⟨i1,(hset _).trans ?_,i3⟩
         rw [i2];split<;>rfl
        ·obtain rfl:v=k:=by omega
         refine ⟨⟨by omega,by omega⟩,?_,?_⟩
         ·exact (hset _).trans (if_pos ⟨rfl,by omega⟩)
         ·intro u u1 u2 hu
          obtain ⟨_,i2,_⟩:=hI u u1 u2
          rw [hu,hs] at i2;cases i2
    ·obtain rfl:k=V+1:=by omega
     exact .inl ⟨.inr (),br_ff (dec_f (show ¬((V+1:Nat):Int)≤(V:Int) by omega)) rfl,.inr ⟨rfl,fun v a b=>⟨(hI v a (by omega)).1,(hI v a (by omega)).2.2⟩⟩⟩
  ·refine ⟨false,br_ff (by rw [hw];exact not_f (dec_t (by rw [h1];rfl))) (Zaj (show inb (0:Int) (List.length ts)=true from Zar ⟨by omega,by omega⟩) (br_tt (show selB false true (Bool.not (iQ (gt (.int .i64) ts (0:Int)) (0:Int)))=true from not_t (dec_f h2)) rfl)),fun h=>by cases h⟩
 ·exact ⟨false,br_tt (by rw [hw];exact not_t (dec_f (fun h=>h1 (Int.ofNat.inj h)))) rfl,fun h=>by cases h⟩
section
variable {ts:List Int} {V:Nat} (F:FineP ts V) (hV:V≤2000)
include F hV
theorem lit_is {l:Int} (h0:0≤l) (h:l / 2≤(V:Int)):astrariumref09_lit_FF (l,(ts,()))=some (rl ts l,()):=by
 have e1:=var1_at h0 (by omega)
 have e2:=neg1_is h0
 have hr:=F.le (v:=l / 2) (by omega) h
 have hin:inb (l / 2) (List.length ts)=true:=Zar ⟨by omega,by rw [F.len];omega⟩
 have hm:0≤l % 2∧l % 2≤1:=by omega
 have e3:astrariumref01_Make_FF (gt (.int .i64) ts (l / 2),(decide (l % 2=1),()))=some (rl ts l,()):=by
  show astrariumref01_Make_F (rv ts (l / 2)) (decide (l % 2=1))=_
  unfold astrariumref01_Make_F
  have w1:IntKind.wrap .i64 ((2:Int)*rv ts (l / 2))=2*rv ts (l / 2):=i64w (by omega)
  have e:∀p q:Int,p=q→(some (p,()):Option (TL astrariumref01_Make_τs))=some (q,()):=by rintro _ _ rfl;rfl
  by_cases q:l % 2=1
  ·refine br_tt (dec_t q) (e _ _ ?_)
   show IntKind.wrap .i64 (IntKind.wrap .i64 ((2:Int)*rv ts (l / 2))+1)=_
   rw [w1]
   unfold rl
   rw [q]
   exact i64w (by omega)
  ·refine br_ff (dec_f q) (e _ _ ?_)
   show IntKind.wrap .i64 ((2:Int)*rv ts (l / 2))=_
   rw [w1]
   unfold rl
   omega
 show astrariumref09_lit_F astrariumref01_Make_FF Zawv Zcv l ts=_
 unfold astrariumref09_lit_F
 exact Zba e1 (Zaj hin (Zba e2 (Zba e3 rfl)))
theorem lits_is (L:List Int) (hL:∀l∈L,0≤l∧l / 2≤(V:Int)) (hn:L.length≤100000):astrariumref09_lits_FF (L,(ts,()))=some (L.map (rl ts),()):=by
 have e3:astrariumref09_lits_L3 (L,(ts,((0:Int),([],()))))=some (L.map (rl ts),()):=by
  unfold astrariumref09_lits_L3;delta u4
  refine Zif (fun k:Nat=>(L,(ts,((k:Int),((L.take k).map (rl ts),()))))) L.length rfl ?_ ?_ (Ze8 (by omega))
  ·intro k hk
   have hx:=List.getElem?_eq_getElem hk
   obtain ⟨l0,l1⟩:=hL _ (List.getElem_mem hk)
   have e1:astrariumref09_lit_FF (gt (.int .i64) L (k:Int),(ts,()))=some (rl ts L[k],()):=by rw [gt_at (σ:=.int .i64) hx];exact lit_is F hV l0 l1
   have ht:(L.take (k+1)).map (rl ts)=(L.take k).map (rl ts)++[rl ts L[k]]:=by rw [Pl.Zd8 hx,List.map_append];rfl
   have e:∀(a b:List Int) (p q:Int),a=b→p=q→(some (.inl (L,(ts,(p,(a,()))))):Option (TL astrariumref09_lits_lay3.σs⊕Out astrariumref09_lits_outs3))=some (.inl (L,(ts,(q,(b,()))))):=by rintro _ _ _ _ rfl rfl;rfl
   exact br_tt (dec_t (show (k:Int)<((L.length:Nat):Int) by omega)) (Zaj (show inb (k:Int) (List.length L)=true from Zar ⟨by omega,by omega⟩) (Zba e1 (Zaj (Zsm (by rw [List.length_map,List.length_take];omega) (by omega)) (e _ _ _ _ ht.symm (i64n (show (k:Int)+1=((k+1:Nat):Int) by omega) (by omega))))))
  ·rw [List.take_length]
   exact br_ff (dec_f (show ¬(L.length:Int)<(L.length:Int) by omega)) rfl
 exact Zba e3 rfl
def mtl {α:Type} (m:MemD) (r:α):=(m.addr,(m.word,(m.any,(m.reads.map readT,(m.writes.map Zt4,((0:Int),((0:Int),(false,(m.addr,(m.word,(m.any,r)))))))))))
theorem mem_7 (m:MemD) (k:Int) (acc:List Zb3.T) (r:ReadD) (hw:1≤m.word∧m.word≤64) (h1:1≤r.var) (h2:r.var+m.word - 1≤(V:Int)) :
  astrariumref09_memory_L7 (ts,(k,((0:Int),mtl m (acc,(r.var,(r.addr,()))))))=some (match consR ts m.word r with | true=>.inr (ts,(k,mtl m (acc,(r.var,(r.addr,()))))) | false=>.inl (false,((0:Int),((0:Int),(false,()))))):=by
 unfold astrariumref09_memory_L7 consR;delta u17
 have hwn:((m.word.toNat:Nat):Int)=m.word:=by omega
 refine Zlj (fun i:Nat=>(ts,(k,((i:Int),mtl m (acc,(r.var,(r.addr,()))))))) (fun i=>decide (rv ts (r.var+((i:Nat):Int))=rv ts r.var+((i:Nat):Int))) m.word.toNat ?_ ?_ ?_ rfl (Ze8 (by omega))
 ·intro i hi hp
  have hp:=of_decide_eq_true hp
  have hr:=F.le (v:=r.var) (by omega) (by omega)
  have w1:IntKind.wrap .i64 (r.var+(i:Int))=r.var+(i:Int):=i64w (by omega)
  have w2:IntKind.wrap .i64 (rv ts r.var+(i:Int))=rv ts r.var+(i:Int):=i64w (by omega)
  have hc:Bool.not (iQ (gt (.int .i64) ts (IntKind.wrap .i64 (r.var+(i:Int)))) (IntKind.wrap .i64 (rv ts r.var+(i:Int))))=false:=not_f (dec_t (by show rv ts (IntKind.wrap .i64 (r.var+(i:Int)))=IntKind.wrap .i64 (rv ts r.var+(i:Int));rw [w1,w2];exact hp))
  have i1:inb (IntKind.wrap .i64 (r.var+(i:Int))) (List.length ts)=true:=by rw [w1];exact Zar ⟨by omega,by rw [F.len];omega⟩
  have i2:inb r.var (List.length ts)=true:=Zar ⟨by omega,by rw [F.len];omega⟩
  have e:∀p q:Int,p=q→(some (.inl (ts,(k,(p,mtl m (acc,(r.var,(r.addr,()))))))):Option (TL astrariumref09_memory_lay7.σs⊕Out astrariumref09_memory_outs7))=some (.inl (ts,(k,(q,mtl m (acc,(r.var,(r.addr,()))))))):=by rintro _ _ rfl;rfl
  exact br_tt (dec_t (show (i:Int)<m.word by omega)) (Zaj i1 (Zaj i2 (br_ff hc (e _ _ (i64n (show (i:Int)+1=((i+1:Nat):Int) by omega) (by omega))))))
 ·intro i hi hp
  have hp:=of_decide_eq_false hp
  have hr:=F.le (v:=r.var) (by omega) (by omega)
  have w1:IntKind.wrap .i64 (r.var+(i:Int))=r.var+(i:Int):=i64w (by omega)
  have w2:IntKind.wrap .i64 (rv ts r.var+(i:Int))=rv ts r.var+(i:Int):=i64w (by omega)
  have hc:Bool.not (iQ (gt (.int .i64) ts (IntKind.wrap .i64 (r.var+(i:Int)))) (IntKind.wrap .i64 (rv ts r.var+(i:Int))))=true:=not_t (dec_f (by show ¬rv ts (IntKind.wrap .i64 (r.var+(i:Int)))=IntKind.wrap .i64 (rv ts r.var+(i:Int));rw [w1,w2];exact hp))
  have i1:inb (IntKind.wrap .i64 (r.var+(i:Int))) (List.length ts)=true:=by rw [w1];exact Zar ⟨by omega,by rw [F.len];omega⟩
  have i2:inb r.var (List.length ts)=true:=Zar ⟨by omega,by rw [F.len];omega⟩
  exact br_tt (dec_t (show (i:Int)<m.word by omega)) (Zaj i1 (Zaj i2 (br_tt hc rfl)))
 ·exact br_ff (dec_f (show ¬((m.word.toNat:Nat):Int)<m.word by omega)) rfl
end
section
variable {n:NetD} {V:Nat} (hs:Snd n V) (ft:Fit n) {ts:List Int} (F:FineP ts V)
include hs F
theorem read_rng {m:MemD} (hm:m∈n.mems) {r:ReadD} (hr:r∈m.reads):1≤r.var∧r.var+m.word - 1≤(V:Int):=by
 obtain ⟨m1,m2,m3,m4,_⟩:=hs.mems m hm
 have hd:∀i:Nat,i<m.word.toNat→r.var+(i:Int)∈Zbm n:=by
  intro i hi
  unfold Zbm
  simp only [List.mem_append]
  refine .inl (.inr (List.mem_flatMap.2 ⟨m,hm,?_⟩))
  unfold Zur
  refine List.mem_flatMap.2 ⟨r,hr,?_⟩
  unfold dataL
  exact List.mem_map.2 ⟨i,List.mem_range.2 hi,rfl⟩
 have a:=hs.rng _ (hd 0 (by omega))
 have b:=hs.rng _ (hd (m.word.toNat - 1) (by omega))
 omega
theorem raddr_rng {m:MemD} (hm:m∈n.mems) {r:ReadD} (hr:r∈m.reads):∀l∈r.addr,0≤l∧l / 2≤(V:Int):=by
 intro l hl
 refine hs.lits l ?_
 unfold Zch;simp only [List.mem_append]
 refine .inl (.inr (List.mem_flatMap.2 ⟨m,hm,?_⟩))
 unfold memL;rw [List.mem_append]
 exact .inl (List.mem_flatMap.2 ⟨r,hr,hl⟩)
theorem write_rng {m:MemD} (hm:m∈n.mems) {w:Zz7} (hw:w∈m.writes):(0≤w.on∧w.on / 2≤(V:Int))∧(∀l∈w.addr,0≤l∧l / 2≤(V:Int))∧∀l∈w.data,0≤l∧l / 2≤(V:Int):=by
 have hin:∀l∈Za4e w,0≤l∧l / 2≤(V:Int):=fun l hl=>hs.lits l (by
  unfold Zch;simp only [List.mem_append]
  refine .inl (.inr (List.mem_flatMap.2 ⟨m,hm,?_⟩))
  unfold memL;rw [List.mem_append]
  exact .inr (List.mem_flatMap.2 ⟨w,hw,hl⟩))
 exact ⟨hin _ (by unfold Za4e;simp),fun l hl=>hin _ (by unfold Za4e;simp [hl]),fun l hl=>hin _ (by unfold Za4e;simp [hl])⟩
theorem mem_3 {m:MemD} (hm:m∈n.mems) :
  astrariumref09_memory_L3 (ts,((0:Int),mtl m ([],())))=some (match consB ts m with | true=>.inr (ts,mtl m ((m.reads.map (renRd ts)).map readT,())) | false=>.inl (false,((0:Int),((0:Int),(false,()))))):=by
 have hV:=hs.v2
 obtain ⟨m1,m2,m3,m4,m5,m6,m7,m8⟩:=hs.mems m hm
 unfold astrariumref09_memory_L3 consB;delta u14
 have hL:((m.reads.map readT).length:Int)=(m.reads.length:Int):=by rw [List.length_map]
 refine Zlj (fun k:Nat=>(ts,((k:Int),mtl m (((m.reads.take k).map (renRd ts)).map readT,())))) (fun k=>consR ts m.word (m.reads.getD k ⟨0,[]⟩)) m.reads.length ?_ ?_ ?_ rfl (Ze8 (by omega))
 ·intro k hk hp
  have hx:=List.getElem?_eq_getElem hk
  have hd:m.reads.getD k ⟨0,[]⟩=m.reads[k]:=by rw [List.getD_eq_getElem?_getD,hx];rfl
  rw [hd] at hp
  have hr:=List.getElem_mem hk
  obtain ⟨r1,r2⟩:=read_rng hs F hm hr
  have hal:=m5 _ hr
  have hx':(m.reads.map readT)[k]?=some (readT m.reads[k]):=by rw [List.getElem?_map,hx];rfl
  have g:gt Zb3 (m.reads.map readT) (k:Int)=readT m.reads[k]:=gt_at (σ:=Zb3) hx'
  have e7:astrariumref09_memory_L7 (ts,((k:Int),((0:Int),mtl m (((m.reads.take k).map (renRd ts)).map readT,((gt Zb3 (m.reads.map readT) (k:Int)).1,((gt Zb3 (m.reads.map readT) (k:Int)).2.1,()))))))=some (.inr (ts,((k:Int),mtl m (((m.reads.take k).map (renRd ts)).map readT,(m.reads[k].var,(m.reads[k].addr,())))))):=by
   rw [g]
   have:=mem_7 F hV m (k:Int) (((m.reads.take k).map (renRd ts)).map readT) m.reads[k] ⟨m3,m4⟩ r1 r2
   rw [hp] at this
   exact this
  have el:=lits_is F hV m.reads[k].addr (raddr_rng hs F hm hr) (by omega)
  have i2:inb m.reads[k].var (List.length ts)=true:=Zar ⟨by omega,by rw [F.len];omega⟩
  have ht:((m.reads.take (k+1)).map (renRd ts)).map readT=((m.reads.take k).map (renRd ts)).map readT++[readT (renRd ts m.reads[k])]:=by rw [Pl.Zd8 hx,List.map_append,List.map_append];rfl
  have e:∀(a b:List Zb3.T) (p q:Int),a=b→p=q→(some (.inl (ts,(p,mtl m (a,())))):Option (TL astrariumref09_memory_lay3.σs⊕Out astrariumref09_memory_outs3))=some (.inl (ts,(q,mtl m (b,())))):=by rintro _ _ _ _ rfl rfl;rfl
  have hroom:=Zsm (a:=32) (L:=((m.reads.take k).map (renRd ts)).map readT) (x:=readT (renRd ts m.reads[k])) (by simp only [List.length_map,List.length_take];omega) (by omega)
  exact br_tt (dec_t (show (k:Int)<((m.reads.map readT).length:Int) by omega)) (Zaj (show inb (k:Int) (List.length (m.reads.map readT))=true from Zar ⟨by omega,by omega⟩) (Zba e7 (Zaj i2 (Zba el (Zaj hroom (e _ _ _ _ ht.symm (i64n (show (k:Int)+1=((k+1:Nat):Int) by omega) (by omega))))))))
 ·intro k hk hp
  have hx:=List.getElem?_eq_getElem hk
  have hd:m.reads.getD k ⟨0,[]⟩=m.reads[k]:=by rw [List.getD_eq_getElem?_getD,hx];rfl
  rw [hd] at hp
  have hr:=List.getElem_mem hk
  obtain ⟨r1,r2⟩:=read_rng hs F hm hr
  have hx':(m.reads.map readT)[k]?=some (readT m.reads[k]):=by rw [List.getElem?_map,hx];rfl
  have g:gt Zb3 (m.reads.map readT) (k:Int)=readT m.reads[k]:=gt_at (σ:=Zb3) hx'
  have e7:astrariumref09_memory_L7 (ts,((k:Int),((0:Int),mtl m (((m.reads.take k).map (renRd ts)).map readT,((gt Zb3 (m.reads.map readT) (k:Int)).1,((gt Zb3 (m.reads.map readT) (k:Int)).2.1,()))))))=some (.inl (false,((0:Int),((0:Int),(false,()))))):=by
   rw [g]
   have:=mem_7 F hV m (k:Int) (((m.reads.take k).map (renRd ts)).map readT) m.reads[k] ⟨m3,m4⟩ r1 r2
   rw [hp] at this
   exact this
  exact br_tt (dec_t (show (k:Int)<((m.reads.map readT).length:Int) by omega)) (Zaj (show inb (k:Int) (List.length (m.reads.map readT))=true from Zar ⟨by omega,by omega⟩) (Zba e7 rfl))
 ·rw [List.take_length]
  exact br_ff (dec_f (show ¬(m.reads.length:Int)<((m.reads.map readT).length:Int) by omega)) rfl
theorem mem_13 {m:MemD} (hm:m∈n.mems) (acc:List Zb3.T) :
  astrariumref09_memory_L13 (ts,((0:Int),mtl m (acc,([],()))))=some ((0:Int),((0:Int),(false,(m.addr,(m.word,(m.any,(acc,((m.writes.map (renWr ts)).map Zt4,())))))))):=by
 have hV:=hs.v2
 obtain ⟨m1,m2,m3,m4,m5,m6,m7,m8⟩:=hs.mems m hm
 unfold astrariumref09_memory_L13;delta u15
 have hL:((m.writes.map Zt4).length:Int)=(m.writes.length:Int):=by rw [List.length_map]
 refine Zif (fun k:Nat=>(ts,((k:Int),mtl m (acc,(((m.writes.take k).map (renWr ts)).map Zt4,()))))) m.writes.length rfl ?_ ?_ (Ze8 (by omega))
 ·intro k hk
  have hx:=List.getElem?_eq_getElem hk
  have hw:=List.getElem_mem hk
  obtain ⟨⟨o1,o2⟩,a1,d1⟩:=write_rng hs F hm hw
  obtain ⟨al,dl⟩:=m6 _ hw
  have hx':(m.writes.map Zt4)[k]?=some (Zt4 m.writes[k]):=by rw [List.getElem?_map,hx];rfl
  have g:gt Zb8 (m.writes.map Zt4) (k:Int)=Zt4 m.writes[k]:=gt_at (σ:=Zb8) hx'
  have e1:astrariumref09_lit_FF ((gt Zb8 (m.writes.map Zt4) (k:Int)).1,(ts,()))=some (rl ts m.writes[k].on,()):=by rw [g];exact lit_is F hV o1 o2
  have e2:astrariumref09_lits_FF ((gt Zb8 (m.writes.map Zt4) (k:Int)).2.1,(ts,()))=some (m.writes[k].addr.map (rl ts),()):=by rw [g];exact lits_is F hV m.writes[k].addr a1 (by omega)
  have e3:astrariumref09_lits_FF ((gt Zb8 (m.writes.map Zt4) (k:Int)).2.2.1,(ts,()))=some (m.writes[k].data.map (rl ts),()):=by rw [g];exact lits_is F hV m.writes[k].data d1 (by omega)
  have ht:((m.writes.take (k+1)).map (renWr ts)).map Zt4=((m.writes.take k).map (renWr ts)).map Zt4++[Zt4 (renWr ts m.writes[k])]:=by rw [Pl.Zd8 hx,List.map_append,List.map_append];rfl
  have e:∀(a b:List Zb8.T) (p q:Int),a=b→p=q→(some (.inl (ts,(p,mtl m (acc,(a,()))))):Option (TL astrariumref09_memory_lay13.σs⊕Out astrariumref09_memory_outs13))=some (.inl (ts,(q,mtl m (acc,(b,()))))):=by rintro _ _ _ _ rfl rfl;rfl
  have hroom:=Zsm (a:=56) (L:=((m.writes.take k).map (renWr ts)).map Zt4) (x:=Zt4 (renWr ts m.writes[k])) (by simp only [List.length_map,List.length_take];omega) (by omega)
  exact br_tt (dec_t (show (k:Int)<((m.writes.map Zt4).length:Int) by omega)) (Zaj (show inb (k:Int) (List.length (m.writes.map Zt4))=true from Zar ⟨by omega,by omega⟩) (Zba e1 (Zba e2 (Zba e3 (Zaj hroom (e _ _ _ _ ht.symm (i64n (show (k:Int)+1=((k+1:Nat):Int) by omega) (by omega))))))))
 ·rw [List.take_length]
  exact br_ff (dec_f (show ¬(m.writes.length:Int)<((m.writes.map Zt4).length:Int) by omega)) rfl
theorem memory_is {m:MemD} (hm:m∈n.mems):astrariumref09_memory_FF (memT m,(ts,()))=some (match consB ts m with | true=>(memT (renMem ts m),(true,())) | false=>(((0:Int),((0:Int),(false,([],([],()))))),(false,()))):=by
 have e3:=mem_3 hs F hm
 have e13:=mem_13 hs F hm ((m.reads.map (renRd ts)).map readT)
 cases h:consB ts m with
 | true=>rw [h] at e3;exact Zba e3 (Zba e13 rfl)
 | false=>rw [h] at e3;exact Zba e3 rfl
theorem def_in:∀v∈n.inputs,1≤v∧v≤(V:Int):=fun v hv=>hs.rng v (by unfold Zbm;simp [hv])
theorem def_lat:∀l∈n.latches,(1≤l.var∧l.var≤(V:Int))∧0≤l.next∧l.next / 2≤(V:Int):=fun l hl=>⟨hs.rng _ (by unfold Zbm;simp only [List.mem_append,List.mem_map];exact .inl (.inl (.inr ⟨l,hl,rfl⟩))),hs.lits _ (by unfold Zch;simp only [List.mem_append,List.mem_map];exact .inl (.inl (.inl (.inl (.inl ⟨l,hl,rfl⟩)))))⟩
theorem def_and:∀a∈n.ands,(1≤a.var∧a.var≤(V:Int))∧(0≤a.a∧a.a / 2≤(V:Int))∧0≤a.b∧a.b / 2≤(V:Int):=fun a ha=>by
 have hl:∀l∈andL a,0≤l∧l / 2≤(V:Int):=fun l hl=>hs.lits _ (by unfold Zch;simp only [List.mem_append];exact .inr (List.mem_flatMap.2 ⟨a,ha,hl⟩))
 exact ⟨hs.rng _ (by unfold Zbm;simp only [List.mem_append,List.mem_map];exact .inr ⟨a,ha,rfl⟩),hl _ (by unfold andL;simp),hl _ (by unfold andL;simp)⟩
theorem out_rng:(∀l∈n.outputs,0≤l∧l / 2≤(V:Int))∧(∀l∈n.bads,0≤l∧l / 2≤(V:Int))∧∀l∈n.constraints,0≤l∧l / 2≤(V:Int):=by
 refine ⟨fun l hl=>hs.lits l ?_,fun l hl=>hs.lits l ?_,fun l hl=>hs.lits l ?_⟩<;>unfold Zch<;>simp [hl]
theorem ren_8 {α:Type} (o b c:List Int):astrariumref09_Rename_L8 (ts,((0:Int),nt n ((0:Int),(n.vars,(o,(b,(c,([],()))))))) )=some (ts,nt n ((0:Int),(n.vars,(o,(b,(c,(n.inputs.map (rv ts),()))))))):=by
 have hl:=hs.lens.1
 have hV:=hs.v2
 unfold astrariumref09_Rename_L8;delta u16
 refine Zif (fun k:Nat=>(ts,((k:Int),nt n ((0:Int),(n.vars,(o,(b,(c,((n.inputs.take k).map (rv ts),()))))))))) n.inputs.length rfl ?_ ?_ (Ze8 (by omega))
 ·intro k hk
  have hx:=List.getElem?_eq_getElem hk
  obtain ⟨d1,d2⟩:=def_in hs F _ (List.getElem_mem hk)
  have g:gt (.int .i64) n.inputs (k:Int)=n.inputs[k]:=gt_at (σ:=.int .i64) hx
  have i2:inb (gt (.int .i64) n.inputs (k:Int)) (List.length ts)=true:=by rw [g];exact Zar ⟨by omega,by rw [F.len];omega⟩
  have ht:(n.inputs.take k).map (rv ts)++([gt (.int .i64) ts (gt (.int .i64) n.inputs (k:Int))]:List Int)=(n.inputs.take (k+1)).map (rv ts):=by rw [g,Pl.Zd8 hx,List.map_append];rfl
  have e:∀(a b':List Int) (p q:Int),a=b'→p=q→(some (.inl (ts,(p,nt n ((0:Int),(n.vars,(o,(b,(c,(a,())))))))) ):Option (TL astrariumref09_Rename_lay8.σs⊕Out astrariumref09_Rename_outs8))=some (.inl (ts,(q,nt n ((0:Int),(n.vars,(o,(b,(c,(b',())))))))) ):=by rintro _ _ _ _ rfl rfl;rfl
  have hroom:=Zsm (a:=8) (L:=(n.inputs.take k).map (rv ts)) (x:=gt (.int .i64) ts (gt (.int .i64) n.inputs (k:Int))) (by simp only [List.length_map,List.length_take];omega) (by omega)
  exact br_tt (dec_t (show (k:Int)<((n.inputs.length:Nat):Int) by omega)) (Zaj (show inb (k:Int) (List.length n.inputs)=true from Zar ⟨by omega,by omega⟩) (Zaj i2 (Zaj hroom (e _ _ _ _ ht (i64n (show (k:Int)+1=((k+1:Nat):Int) by omega) (by omega))))))
 ·rw [List.take_length]
  exact br_ff (dec_f (show ¬(n.inputs.length:Int)<(n.inputs.length:Int) by omega)) rfl
theorem ren_12 (o b c i':List Int):astrariumref09_Rename_L12 (ts,((0:Int),nt n ((0:Int),(n.vars,(o,(b,(c,(i',([],())))))))) )=some (ts,nt n ((0:Int),(n.vars,(o,(b,(c,(i',((n.latches.map (renLat ts)).map latT,())))))))):=by
 have hl:=hs.lens.2.1
 have hV:=hs.v2
 unfold astrariumref09_Rename_L12;delta u17
 have hL:((n.latches.map latT).length:Int)=(n.latches.length:Int):=by rw [List.length_map]
 refine Zif (fun k:Nat=>(ts,((k:Int),nt n ((0:Int),(n.vars,(o,(b,(c,(i',(((n.latches.take k).map (renLat ts)).map latT,())))))))))) n.latches.length rfl ?_ ?_ (Ze8 (by omega))
 ·intro k hk
  have hx:=List.getElem?_eq_getElem hk
  obtain ⟨⟨d1,d2⟩,l1,l2⟩:=def_lat hs F _ (List.getElem_mem hk)
  have hx':(n.latches.map latT)[k]?=some (latT n.latches[k]):=by rw [List.getElem?_map,hx];rfl
  have g:gt Za0 (n.latches.map latT) (k:Int)=latT n.latches[k]:=gt_at (σ:=Za0) hx'
  have i2:inb (gt Za0 (n.latches.map latT) (k:Int)).1 (List.length ts)=true:=by rw [g];exact Zar ⟨show 0≤n.latches[k].var by omega,show n.latches[k].var<_ by rw [F.len];omega⟩
  have el:astrariumref09_lit_FF ((gt Za0 (n.latches.map latT) (k:Int)).2.1,(ts,()))=some (rl ts n.latches[k].next,()):=by rw [g];exact lit_is F hV l1 l2
  have ht:((n.latches.take k).map (renLat ts)).map latT++([(gt (.int .i64) ts (gt Za0 (n.latches.map latT) (k:Int)).1,(rl ts n.latches[k].next,((gt Za0 (n.latches.map latT) (k:Int)).2.2.1,())))]:List Za0.T)=((n.latches.take (k+1)).map (renLat ts)).map latT:=by rw [g,Pl.Zd8 hx,List.map_append,List.map_append];rfl
  have e:∀(a b':List Za0.T) (p q:Int),a=b'→p=q→(some (.inl (ts,(p,nt n ((0:Int),(n.vars,(o,(b,(c,(i',(a,()))))))))) ):Option (TL astrariumref09_Rename_lay12.σs⊕Out astrariumref09_Rename_outs12))=some (.inl (ts,(q,nt n ((0:Int),(n.vars,(o,(b,(c,(i',(b',()))))))))) ):=by rintro _ _ _ _ rfl rfl;rfl
  have hroom:=Zsm (a:=24) (L:=((n.latches.take k).map (renLat ts)).map latT) (x:=(gt (.int .i64) ts (gt Za0 (n.latches.map latT) (k:Int)).1,(rl ts n.latches[k].next,((gt Za0 (n.latches.map latT) (k:Int)).2.2.1,())))) (by simp only [List.length_map,List.length_take];omega) (by omega)
  exact br_tt (dec_t (show (k:Int)<((n.latches.map latT).length:Int) by omega)) (Zaj (show inb (k:Int) (List.length (n.latches.map latT))=true from Zar ⟨by omega,by omega⟩) (Zaj i2 (Zba el (Zaj hroom (e _ _ _ _ ht (i64n (show (k:Int)+1=((k+1:Nat):Int) by omega) (by omega)))))))
 ·rw [List.take_length]
  exact br_ff (dec_f (show ¬(n.latches.length:Int)<((n.latches.map latT).length:Int) by omega)) rfl
theorem ren_17 (o b c i':List Int) (l':List Za0.T):astrariumref09_Rename_L17 (ts,((0:Int),nt n ((0:Int),(n.vars,(o,(b,(c,(i',(l',([],()))))))))) )=some (match (List.range n.mems.length).all (fun k=>consB ts (n.mems.getD k ⟨0,0,false,[],[]⟩)) with | true=>.inr (ts,nt n ((0:Int),(n.vars,(o,(b,(c,(i',(l',((n.mems.map (renMem ts)).map memT,()))))))))) | false=>.inl ((9:Int),((0:Int),()))):=by
 have hl:=hs.lens.2.2.2.2
 unfold astrariumref09_Rename_L17;delta u18
 have hL:((n.mems.map memT).length:Int)=(n.mems.length:Int):=by rw [List.length_map]
 refine Zlj (fun k:Nat=>(ts,((k:Int),nt n ((0:Int),(n.vars,(o,(b,(c,(i',(l',(((n.mems.take k).map (renMem ts)).map memT,()))))))))))) (fun k=>consB ts (n.mems.getD k ⟨0,0,false,[],[]⟩)) n.mems.length ?_ ?_ ?_ rfl (Ze8 (by omega))
 ·intro k hk hp
  have hx:=List.getElem?_eq_getElem hk
  have hd:n.mems.getD k ⟨0,0,false,[],[]⟩=n.mems[k]:=by rw [List.getD_eq_getElem?_getD,hx];rfl
  rw [hd] at hp
  have hx':(n.mems.map memT)[k]?=some (memT n.mems[k]):=by rw [List.getElem?_map,hx];rfl
  have g:gt Za1 (n.mems.map memT) (k:Int)=memT n.mems[k]:=gt_at (σ:=Za1) hx'
  have em:=memory_is hs F (List.getElem_mem hk)
  rw [hp] at em
  have em':astrariumref09_memory_FF (((gt Za1 (n.mems.map memT) (k:Int)).1,((gt Za1 (n.mems.map memT) (k:Int)).2.1,((gt Za1 (n.mems.map memT) (k:Int)).2.2.1,((gt Za1 (n.mems.map memT) (k:Int)).2.2.2.1,((gt Za1 (n.mems.map memT) (k:Int)).2.2.2.2.1,()))))),(ts,()))=some (memT (renMem ts n.mems[k]),(true,())):=by rw [g];exact em
  have ht:((n.mems.take k).map (renMem ts)).map memT++[memT (renMem ts n.mems[k])]=((n.mems.take (k+1)).map (renMem ts)).map memT:=by rw [Pl.Zd8 hx,List.map_append,List.map_append];rfl
  have e:∀(a b':List Za1.T) (p q:Int),a=b'→p=q→(some (.inl (ts,(p,nt n ((0:Int),(n.vars,(o,(b,(c,(i',(l',(a,())))))))))) ):Option (TL astrariumref09_Rename_lay17.σs⊕Out astrariumref09_Rename_outs17))=some (.inl (ts,(q,nt n ((0:Int),(n.vars,(o,(b,(c,(i',(l',(b',())))))))))) ):=by rintro _ _ _ _ rfl rfl;rfl
  have hroom:=Zsm (a:=72) (L:=((n.mems.take k).map (renMem ts)).map memT) (x:=memT (renMem ts n.mems[k])) (by simp only [List.length_map,List.length_take];omega) (by omega)
  exact br_tt (dec_t (show (k:Int)<((n.mems.map memT).length:Int) by omega)) (Zaj (show inb (k:Int) (List.length (n.mems.map memT))=true from Zar ⟨by omega,by omega⟩) (Zba em' (br_ff rfl (Zaj hroom (e _ _ _ _ ht (i64n (show (k:Int)+1=((k+1:Nat):Int) by omega) (by omega)))))))
 ·intro k hk hp
  have hx:=List.getElem?_eq_getElem hk
  have hd:n.mems.getD k ⟨0,0,false,[],[]⟩=n.mems[k]:=by rw [List.getD_eq_getElem?_getD,hx];rfl
  rw [hd] at hp
  have hx':(n.mems.map memT)[k]?=some (memT n.mems[k]):=by rw [List.getElem?_map,hx];rfl
  have g:gt Za1 (n.mems.map memT) (k:Int)=memT n.mems[k]:=gt_at (σ:=Za1) hx'
  have em:=memory_is hs F (List.getElem_mem hk)
  rw [hp] at em
  have em':astrariumref09_memory_FF (((gt Za1 (n.mems.map memT) (k:Int)).1,((gt Za1 (n.mems.map memT) (k:Int)).2.1,((gt Za1 (n.mems.map memT) (k:Int)).2.2.1,((gt Za1 (n.mems.map memT) (k:Int)).2.2.2.1,((gt Za1 (n.mems.map memT) (k:Int)).2.2.2.2.1,()))))),(ts,()))=some (((0:Int),((0:Int),(false,([],([],()))))),(false,())):=by rw [g];exact em
  exact br_tt (dec_t (show (k:Int)<((n.mems.map memT).length:Int) by omega)) (Zaj (show inb (k:Int) (List.length (n.mems.map memT))=true from Zar ⟨by omega,by omega⟩) (Zba em' (br_tt rfl rfl)))
 ·rw [List.take_length]
  exact br_ff (dec_f (show ¬(n.mems.length:Int)<((n.mems.map memT).length:Int) by omega)) rfl
theorem ren_24 (o b c i':List Int) (l':List Za0.T) (m':List Za1.T):astrariumref09_Rename_L24 (ts,((0:Int),nt n ((0:Int),(n.vars,(o,(b,(c,(i',(l',(m',([],())))))))))) )=some ((0:Int),(n.vars,(o,(b,(c,(i',(l',(m',((n.ands.map (renAnd ts)).map andT,()))))))))):=by
 have hl:=hs.lens.2.2.1
 have hV:=hs.v2
 unfold astrariumref09_Rename_L24;delta u19
 have hL:((n.ands.map andT).length:Int)=(n.ands.length:Int):=by rw [List.length_map]
 refine Zif (fun k:Nat=>(ts,((k:Int),nt n ((0:Int),(n.vars,(o,(b,(c,(i',(l',(m',(((n.ands.take k).map (renAnd ts)).map andT,())))))))))))) n.ands.length rfl ?_ ?_ (Ze8 (by omega))
 ·intro k hk
  have hx:=List.getElem?_eq_getElem hk
  obtain ⟨⟨d1,d2⟩,⟨l1,l2⟩,l3,l4⟩:=def_and hs F _ (List.getElem_mem hk)
  have hx':(n.ands.map andT)[k]?=some (andT n.ands[k]):=by rw [List.getElem?_map,hx];rfl
  have g:gt Za0 (n.ands.map andT) (k:Int)=andT n.ands[k]:=gt_at (σ:=Za0) hx'
  have i2:inb (gt Za0 (n.ands.map andT) (k:Int)).1 (List.length ts)=true:=by rw [g];exact Zar ⟨show 0≤n.ands[k].var by omega,show n.ands[k].var<_ by rw [F.len];omega⟩
  have el:astrariumref09_lit_FF ((gt Za0 (n.ands.map andT) (k:Int)).2.1,(ts,()))=some (rl ts n.ands[k].a,()):=by rw [g];exact lit_is F hV l1 l2
  have el2:astrariumref09_lit_FF ((gt Za0 (n.ands.map andT) (k:Int)).2.2.1,(ts,()))=some (rl ts n.ands[k].b,()):=by rw [g];exact lit_is F hV l3 l4
  have ht:((n.ands.take k).map (renAnd ts)).map andT++([(gt (.int .i64) ts (gt Za0 (n.ands.map andT) (k:Int)).1,(rl ts n.ands[k].a,(rl ts n.ands[k].b,())))]:List Za0.T)=((n.ands.take (k+1)).map (renAnd ts)).map andT:=by rw [g,Pl.Zd8 hx,List.map_append,List.map_append];rfl
  have e:∀(a b':List Za0.T) (p q:Int),a=b'→p=q→(some (.inl (ts,(p,nt n ((0:Int),(n.vars,(o,(b,(c,(i',(l',(m',(a,()))))))))))) ):Option (TL astrariumref09_Rename_lay24.σs⊕Out astrariumref09_Rename_outs24))=some (.inl (ts,(q,nt n ((0:Int),(n.vars,(o,(b,(c,(i',(l',(m',(b',()))))))))))) ):=by rintro _ _ _ _ rfl rfl;rfl
  have hroom:=Zsm (a:=24) (L:=((n.ands.take k).map (renAnd ts)).map andT) (x:=(gt (.int .i64) ts (gt Za0 (n.ands.map andT) (k:Int)).1,(rl ts n.ands[k].a,(rl ts n.ands[k].b,())))) (by simp only [List.length_map,List.length_take];omega) (by omega)
  exact br_tt (dec_t (show (k:Int)<((n.ands.map andT).length:Int) by omega)) (Zaj (show inb (k:Int) (List.length (n.ands.map andT))=true from Zar ⟨by omega,by omega⟩) (Zaj i2 (Zba el (Zba el2 (Zaj hroom (e _ _ _ _ ht (i64n (show (k:Int)+1=((k+1:Nat):Int) by omega) (by omega))))))))
 ·rw [List.take_length]
  exact br_ff (dec_f (show ¬(n.ands.length:Int)<((n.ands.map andT).length:Int) by omega)) rfl
end
theorem rename_is {n:NetD} (ft:Fit n) (ts:List Int):∃(x:Za5.T) (c:Int),astrariumref09_Rename_FF (netT n,(ts,()))=some (x,(c,()))∧(c=0→∃V,Snd n V∧acyB (ndL n) V=true∧FineP ts V∧(∀m∈n.mems,consB ts m=true)∧x=netT (renN ts n)):=by
 have ec:=Zxe ft
 by_cases hc:Pl.Zkz n=0
 ·obtain ⟨V,hs,h0,hV,ha⟩:=Zb6f hc
  obtain ⟨b,eb,hb⟩:=fine_is ts V hs.v2
  rw [←hs.vars] at eb
  have q0:Bool.not (iQ (Pl.Zkz n) (0:Int))=false:=by rw [hc];rfl
  cases b with
  | false=>exact ⟨_,(1:Int),Zba ec (br_ff q0 (Zba eb (br_tt rfl rfl))),fun h=>absurd h (by decide)⟩
  | true=>
   have F:=hb rfl
   have hl:=hs.lens
   obtain ⟨o1,o2,o3⟩:=out_rng hs F
   have e2:=lits_is F hs.v2 n.outputs o1 (by omega)
   have e3:=lits_is F hs.v2 n.bads o2 (by omega)
   have e4:=lits_is F hs.v2 n.constraints o3 (by omega)
   have e8:=ren_8 (α:=Nat) hs F (n.outputs.map (rl ts)) (n.bads.map (rl ts)) (n.constraints.map (rl ts))
   have e12:=ren_12 hs F (n.outputs.map (rl ts)) (n.bads.map (rl ts)) (n.constraints.map (rl ts)) (n.inputs.map (rv ts))
   have e17:=ren_17 hs F (n.outputs.map (rl ts)) (n.bads.map (rl ts)) (n.constraints.map (rl ts)) (n.inputs.map (rv ts)) ((n.latches.map (renLat ts)).map latT)
   have e24:=ren_24 hs F (n.outputs.map (rl ts)) (n.bads.map (rl ts)) (n.constraints.map (rl ts)) (n.inputs.map (rv ts)) ((n.latches.map (renLat ts)).map latT) ((n.mems.map (renMem ts)).map memT)
   cases hm:(List.range n.mems.length).all (fun k=>consB ts (n.mems.getD k ⟨0,0,false,[],[]⟩)) with
   | false=>
    rw [hm] at e17
    exact ⟨_,(9:Int),Zba ec (br_ff q0 (Zba eb (br_ff rfl (Zba e2 (Zba e3 (Zba e4 (Zba e8 (Zba e12 (Zba e17 rfl))))))))),fun h=>absurd h (by decide)⟩
   | true=>
    rw [hm] at e17
    refine ⟨netT (renN ts n),0,Zba ec (br_ff q0 (Zba eb (br_ff rfl (Zba e2 (Zba e3 (Zba e4 (Zba e8 (Zba e12 (Zba e17 (Zba e24 rfl)))))))))),fun _=>⟨V,hs,ha,F,?_,rfl⟩⟩
    intro m hmm
    obtain ⟨k,hk,rfl⟩:=List.getElem_of_mem hmm
    have:=(List.all_eq_true.1 hm) k (List.mem_range.2 hk)
    rwa [List.getD_eq_getElem?_getD,List.getElem?_eq_getElem hk] at this
 ·exact ⟨_,Pl.Zkz n,Zba ec (br_tt (not_t (dec_f hc)) rfl),fun h=>absurd h hc⟩
def renI (ts:List Int) (i:NodeI):NodeI:=⟨i.to.map (rv ts),i.frm.map (rl ts)⟩
def renX (ts:List Int) (x:NodeD×NodeI):NodeD×NodeI:=(x.1,renI ts x.2)
def sg (ts:List Int) (v:Nat):Nat:=(rv ts (v:Int)).toNat
def ndR (ts:List Int) (x:Nd):Nd:=⟨x.frm.map (sg ts),x.to.map (sg ts)⟩
theorem FineP.inj' {ts:List Int} {V:Nat} (F:FineP ts V) {u v:Int} (u0:0≤u) (u1:u≤(V:Int)) (v0:0≤v) (v1:v≤(V:Int)) (h:rv ts u=rv ts v):u=v:=by
 obtain ⟨a,rfl⟩:=Int.eq_ofNat_of_zero_le u0
 obtain ⟨b,rfl⟩:=Int.eq_ofNat_of_zero_le v0
 have z:rv ts ((0:Nat):Int)=0:=F.zero
 have pos:∀k:Nat,1≤k→k≤V→rv ts (k:Int)≠0:=fun k a b=>by have:=F.rng k a b;omega
 rcases Nat.lt_trichotomy a b with q | q | q
 ·exfalso
  rcases Nat.eq_zero_or_pos a with q0 | q0
  ·subst q0;exact pos b (by omega) (by omega) (h.symm.trans z)
  ·exact F.inj a b q0 q (by omega) h
 ·rw [q]
 ·exfalso
  rcases Nat.eq_zero_or_pos b with q0 | q0
  ·subst q0;exact pos a (by omega) (by omega) (h.trans z)
  ·exact F.inj b a q0 q (by omega) h.symm
theorem FineP.pos {ts:List Int} {V:Nat} (F:FineP ts V) {u:Int} (u0:1≤u) (u1:u≤(V:Int)):1≤rv ts u∧rv ts u≤(V:Int):=by
 obtain ⟨a,rfl⟩:=Int.eq_ofNat_of_zero_le (show 0≤u by omega)
 exact F.rng a (by omega) (by omega)
theorem rl_div {ts:List Int} {l:Int}:rl ts l / 2=rv ts (l / 2)∧rl ts l % 2=l % 2:=by unfold rl;omega
theorem FineP.lit {ts:List Int} {V:Nat} (F:FineP ts V) {l:Int} (h0:0≤l) (h1:l / 2≤(V:Int)):0≤rl ts l∧rl ts l / 2≤(V:Int):=by
 have:=F.le (v:=l / 2) (by omega) h1
 rw [rl_div.1]
 unfold rl;omega
theorem flat_ren {α α' β β':Type} {h:α→α'} {g:α→List β} {g':α'→List β'} {k:β→β'}:∀L:List α,(∀x∈L,g' (h x)=(g x).map k)→(L.map h).flatMap g'=(L.flatMap g).map k:=by
 intro L
 induction L with
 | nil=>intro _;rfl
 | cons x L ih=>intro H;rw [List.map_cons,List.flatMap_cons,List.flatMap_cons,List.map_append,H x (by simp),ih (fun y hy=>H y (by simp [hy]))]
theorem zip_self {α β:Type}:∀L:List (α×β),(L.map (fun x=>x.1)).zip (L.map (fun x=>x.2))=L:=by
 intro L
 induction L with
 | nil=>rfl
 | cons x L ih=>rw [List.map_cons,List.map_cons,List.zip_cons_cons,ih]
theorem zip_l {α α' β:Type} (f:α→α'):∀(L:List α) (M:List β),(L.map f).zip M=(L.zip M).map fun p=>(f p.1,p.2):=by
 intro L
 induction L with
 | nil=>intro M;rfl
 | cons x L ih=>intro M;cases M with | nil=>rfl | cons y M=>rw [List.map_cons,List.zip_cons_cons,List.zip_cons_cons,List.map_cons,ih]
theorem zip_r {α β β':Type} (f:β→β'):∀(L:List α) (M:List β),L.zip (M.map f)=(L.zip M).map fun p=>(p.1,f p.2):=by
 intro L
 induction L with
 | nil=>intro M;rfl
 | cons x L ih=>intro M;cases M with | nil=>rfl | cons y M=>rw [List.map_cons,List.zip_cons_cons,List.zip_cons_cons,List.map_cons,ih]
theorem memsN_ren (ts:List Int):∀(l:List MemD) (k:Nat),memsN k (l.map (renMem ts))=memsN k l:=by
 intro l
 induction l with
 | nil=>intro k;rfl
 | cons m l ih=>
  intro k
  show Pl.readN k (renMem ts m)++memsN (k+1) (l.map (renMem ts))=Pl.readN k m++memsN (k+1) l
  rw [ih]
  unfold Pl.readN renMem
  rw [List.length_map]
theorem nodesN_ren (ts:List Int) (n:NetD):Zha (renN ts n)=Zha n:=by
 unfold Zha
 show (List.range (n.ands.map (renAnd ts)).length).map _++memsN 0 (n.mems.map (renMem ts))=_
 rw [List.length_map,memsN_ren]
theorem dup_ren {ts:List Int} {V:Nat} (F:FineP ts V):∀(l pre:List Int),(∀x∈l,1≤x∧x≤(V:Int))→(∀x∈pre,1≤x∧x≤(V:Int))→dup (V:Int) (pre.map (rv ts)) (l.map (rv ts))=dup (V:Int) pre l:=by
 intro l
 induction l with
 | nil=>intro pre _ _;show dup _ _ []=_;unfold dup;rw [List.length_map]
 | cons v l ih=>
  intro pre h1 h2
  obtain ⟨v1,v2⟩:=h1 v (by simp)
  obtain ⟨w1,w2⟩:=F.pos v1 v2
  show (if rv ts v<1∨(V:Int)<rv ts v then (5:Int) else if (pre.map (rv ts)).contains (rv ts v) then 6 else dup (V:Int) (pre.map (rv ts)++[rv ts v]) (l.map (rv ts)))=(if v<1∨(V:Int)<v then (5:Int) else if pre.contains v then 6 else dup (V:Int) (pre++[v]) l)
  rw [if_neg (show ¬(rv ts v<1∨(V:Int)<rv ts v) by omega),if_neg (show ¬(v<1∨(V:Int)<v) by omega)]
  have hc:(pre.map (rv ts)).contains (rv ts v)=pre.contains v:=by
   rw [Bool.eq_iff_iff,List.contains_iff_mem,List.contains_iff_mem,List.mem_map]
   constructor
   ·rintro ⟨u,hu,he⟩
    have:=h2 u hu
    rw [←F.inj' (by omega) this.2 (by omega) v2 he];exact hu
   ·exact fun hu=>⟨v,hu,rfl⟩
  rw [hc]
  split
  ·rfl
  ·have:=ih (pre++[v]) (fun x hx=>h1 x (by simp [hx])) (fun x hx=>by
    rw [List.mem_append] at hx
    rcases hx with hx | hx
    ·exact h2 x hx
    ·obtain rfl:=List.mem_singleton.1 hx;exact ⟨v1,v2⟩)
   rw [List.map_append] at this
   exact this
section
variable {n:NetD} {V:Nat} (hs:Snd n V) {ts:List Int} (F:FineP ts V) (C:∀m∈n.mems,consB ts m=true)
include hs F C
theorem cons_at {m:MemD} (hm:m∈n.mems) {r:ReadD} (hr:r∈m.reads):dataL (rv ts r.var) m.word.toNat=(dataL r.var m.word.toNat).map (rv ts):=by
 have h:=C m hm
 unfold consB at h
 obtain ⟨k,hk,rfl⟩:=List.getElem_of_mem hr
 have h:=(List.all_eq_true.1 h) k (List.mem_range.2 hk)
 rw [List.getD_eq_getElem?_getD,List.getElem?_eq_getElem hk] at h
 have h:consR ts m.word m.reads[k]=true:=h
 unfold consR at h
 unfold dataL
 rw [List.map_map]
 refine List.map_congr_left fun i hi=>?_
 exact (of_decide_eq_true ((List.all_eq_true.1 h) i hi)).symm
theorem nodesI_ren:Zj5 (renN ts n)=(Zj5 n).map (renI ts):=by
 unfold Zj5
 show (n.ands.map (renAnd ts)).map andI++(n.mems.map (renMem ts)).flatMap memI=_
 rw [List.map_append,List.map_map,List.map_map]
 congr 1
 refine flat_ren n.mems fun m hm=>?_
 unfold memI renMem
 rw [List.map_map,List.map_map]
 refine List.map_congr_left fun r hr=>?_
 show readI m.word (renRd ts r)=renI ts (readI m.word r)
 unfold readI renRd renI
 rw [cons_at hs F C hm hr]
theorem n6_ren:n6 (renN ts n)=(n6 n).map (renX ts):=by
 have h1:=n6_fst (renN ts n)
 have h2:=Zb4n (renN ts n)
 rw [nodesN_ren] at h1
 rw [nodesI_ren hs F C] at h2
 rw [←zip_self (n6 (renN ts n)),h1,h2,zip_r]
 conv=>rhs;rw [←zip_self (n6 n),n6_fst,Zb4n]
 rfl
theorem defined_ren:Zbm (renN ts n)=(Zbm n).map (rv ts):=by
 unfold Zbm
 show n.inputs.map (rv ts)++(n.latches.map (renLat ts)).map (·.var)++(n.mems.map (renMem ts)).flatMap Zur++(n.ands.map (renAnd ts)).map (·.var)=_
 rw [List.map_append,List.map_append,List.map_append,List.map_map,List.map_map,List.map_map,List.map_map]
 congr 2
 refine flat_ren n.mems fun m hm=>?_
 unfold Zur
 exact flat_ren (h:=renRd ts) m.reads fun r hr=>cons_at hs F C hm hr
omit C in
theorem literals_ren:Zch (renN ts n)=(Zch n).map (rl ts):=by
 unfold Zch
 show (n.latches.map (renLat ts)).map (·.next)++n.outputs.map (rl ts)++n.bads.map (rl ts)++n.constraints.map (rl ts)++(n.mems.map (renMem ts)).flatMap memL++(n.ands.map (renAnd ts)).flatMap andL=_
 rw [List.map_append,List.map_append,List.map_append,List.map_append,List.map_append,List.map_map,List.map_map]
 congr 1
 ·congr 1
  refine flat_ren n.mems fun m hm=>?_
  unfold memL
  show (m.reads.map (renRd ts)).flatMap (·.addr)++(m.writes.map (renWr ts)).flatMap Za4e=_
  rw [List.map_append]
  congr 1
  ·exact flat_ren (h:=renRd ts) m.reads fun r hr=>rfl
  ·refine flat_ren (h:=renWr ts) m.writes fun w hw=>?_
   unfold Za4e renWr
   rw [List.map_cons,List.map_append]
 ·exact flat_ren (h:=renAnd ts) n.ands fun a ha=>rfl
theorem sound_ren (h0:Zj3 n=0):Zj3 (renN ts n)=0:=by
 have e1:Zka (renN ts n)=Zka n:=by
  unfold Zka
  have hp:(renN ts n).mems.any Zki=n.mems.any Zki:=by
   show (n.mems.map (renMem ts)).any Zki=_
   rw [List.any_map]
   congr 1
   funext m
   show Zki (renMem ts m)=Zki m
   unfold Zki renMem
   simp only [List.length_map]
  rw [hp]
  unfold renN
  simp only [List.length_map]
 have e2:(renN ts n).mems.any wideB=n.mems.any wideB:=by
  show (n.mems.map (renMem ts)).any wideB=_
  rw [List.any_map]
  congr 1
  funext m
  show wideB (renMem ts m)=wideB m
  unfold wideB
  show (_||(m.reads.map (renRd ts)).any (wideR (renMem ts m))||(m.writes.map (renWr ts)).any (wideW (renMem ts m)))=_
  rw [List.any_map,List.any_map]
  have a1:wideR (renMem ts m)∘renRd ts=wideR m:=by
   funext r
   show ((((r.addr.map (rl ts)).length:Nat):Int) != m.addr)=_
   rw [List.length_map];rfl
  have a2:wideW (renMem ts m)∘renWr ts=wideW m:=by
   funext r
   show ((((r.addr.map (rl ts)).length:Nat):Int) != m.addr||(((r.data.map (rl ts)).length:Nat):Int) != m.word)=_
   rw [List.length_map,List.length_map];rfl
  rw [a1,a2]
  rfl
 have e3:(renN ts n).latches.any initB=n.latches.any initB:=by
  show (n.latches.map (renLat ts)).any initB=_
  rw [List.any_map];rfl
 have e4:dup (renN ts n).vars [] (Zbm (renN ts n))=dup n.vars [] (Zbm n):=by
  rw [defined_ren hs F C]
  show dup n.vars [] _=_
  rw [hs.vars]
  exact dup_ren F (Zbm n) [] hs.rng (fun x hx=>by cases hx)
 have e5:(Zch (renN ts n)).any (litB (renN ts n).vars)=false:=by
  rw [literals_ren hs F,Bool.eq_false_iff]
  intro h
  obtain ⟨l,hl,hb⟩:=List.any_eq_true.1 h
  obtain ⟨x,hx,rfl⟩:=List.mem_map.1 hl
  obtain ⟨x0,x1⟩:=hs.lits x hx
  have:=F.lit x0 x1
  have hb:=of_decide_eq_true hb
  have hv:(renN ts n).vars=(V:Int):=hs.vars
  rw [hv] at hb
  omega
 unfold Zj3 at h0 ⊢
 rw [e1,e2,e3,e4,e5]
 by_cases h1:Zka n=true
 ·rw [if_pos h1] at h0;exact absurd h0 (by decide)
 rw [if_neg h1] at h0 ⊢
 by_cases h2:n.mems.any wideB=true
 ·rw [if_pos h2] at h0;exact absurd h0 (by decide)
 rw [if_neg h2] at h0 ⊢
 by_cases h3:n.latches.any initB=true
 ·rw [if_pos h3] at h0;exact absurd h0 (by decide)
 rw [if_neg h3] at h0 ⊢
 by_cases h4:dup n.vars [] (Zbm n)≠0
 ·rw [if_pos h4] at h0;exact absurd h0 h4
 rw [if_neg h4];rfl
theorem snd_ren (h0:Zj3 n=0):Snd (renN ts n) V:=by
 obtain ⟨V',h⟩:=Za74 (sound_ren hs F C h0)
 have:=h.vars
 have h2:(renN ts n).vars=(V:Int):=hs.vars
 obtain rfl:V'=V:=by rw [h2] at this;omega
 exact h
theorem ndL_ren:ndL (renN ts n)=(ndL n).map (ndR ts):=by
 unfold ndL
 rw [nodesI_ren hs F C,List.map_map,List.map_map]
 refine List.map_congr_left fun i hi=>?_
 show NodeI.nd (renI ts i)=ndR ts i.nd
 unfold NodeI.nd renI ndR
 simp only [List.map_map]
 refine Nd.mk.injEq ..▸⟨?_,?_⟩
 ·refine List.map_congr_left fun l hl=>?_
  obtain ⟨l0,l1⟩:=hs.Za8p hi hl
  show (rl ts l / 2).toNat=sg ts (l / 2).toNat
  unfold sg
  rw [rl_div.1,show (((l / 2).toNat:Nat):Int)=l / 2 by omega]
 ·refine List.map_congr_left fun v hv=>?_
  have:=hs.toRng hi hv
  show (rv ts v).toNat=sg ts v.toNat
  unfold sg
  rw [show ((v.toNat:Nat):Int)=v by omega]
omit hs C in
theorem sg_inj {u v:Nat} (hu:u≤V) (hv:v≤V) (h:sg ts u=sg ts v):u=v:=by
 have a:=F.le (v:=(u:Int)) (by omega) (by omega)
 have b:=F.le (v:=(v:Int)) (by omega) (by omega)
 unfold sg at h
 have:=F.inj' (u:=(u:Int)) (v:=(v:Int)) (by omega) (by omega) (by omega) (by omega) (by omega)
 omega
theorem lev_ren {v k:Nat} (h:Lev (ndL n) v k):v≤V→Lev (ndL (renN ts n)) (sg ts v) k:=by
 induction h with
 | free v h=>
  intro hv
  refine Lev.free _ fun x hx hm=>?_
  rw [ndL_ren hs F C] at hx
  obtain ⟨y,hy,rfl⟩:=List.mem_map.1 hx
  obtain ⟨u,hu,he⟩:=List.mem_map.1 hm
  have:=(hs.hto y hy).2 u hu
  obtain rfl:=sg_inj F this hv he
  exact h y hy hu
 | node x v f hx hv h ih=>
  intro hvV
  have hx':ndR ts x∈ndL (renN ts n):=by rw [ndL_ren hs F C];exact List.mem_map_of_mem hx
  have hv':sg ts v∈(ndR ts x).to:=List.mem_map_of_mem hv
  have hf:∃f':Nat→Nat,∀u,u≤V→f' (sg ts u)=f u:=by
   classical
   refine ⟨fun w=>if q:∃u,u≤V∧sg ts u=w then f q.choose else 0,fun u hu=>?_⟩
   have q:∃u',u'≤V∧sg ts u'=sg ts u:=⟨u,hu,rfl⟩
   show (if q:∃u',u'≤V∧sg ts u'=sg ts u then f q.choose else 0)=f u
   rw [dif_pos q,sg_inj F q.choose_spec.1 hu q.choose_spec.2]
  obtain ⟨f',hf'⟩:=hf
  have:=Lev.node (N:=ndL (renN ts n)) (ndR ts x) (sg ts v) f' hx' hv' (fun u hu=>by
   obtain ⟨w,hw,rfl⟩:=List.mem_map.1 hu
   have hwV:=hs.hin x hx w hw
   rw [hf' w hwV]
   exact ih w hw hwV)
  have hm:(ndR ts x).frm.map f'=x.frm.map f:=by
   show (x.frm.map (sg ts)).map f'=_
   rw [List.map_map]
   exact List.map_congr_left fun u hu=>hf' u (hs.hin x hx u hu)
  rw [hm] at this
  exact this
theorem acy_ren (h0:Zj3 n=0) (ha:acyB (ndL n) V=true):acyB (ndL (renN ts n)) V=true:=by
 have hs':=snd_ren hs F C h0
 rw [Za0m hs'.apart]
 intro w hw
 by_cases q:∃x∈ndL (renN ts n),w∈x.to
 ·obtain ⟨x,hx,hm⟩:=q
  rw [ndL_ren hs F C] at hx
  obtain ⟨y,hy,rfl⟩:=List.mem_map.1 hx
  obtain ⟨u,hu,rfl⟩:=List.mem_map.1 hm
  have hu':=(hs.hto y hy).2 u hu
  obtain ⟨k,hk⟩:=(Za0m hs.apart V).1 ha u hu'
  exact ⟨k,lev_ren hs F C hk hu'⟩
 ·exact ⟨0,Lev.free w fun x hx hm=>q ⟨x,hx,hm⟩⟩
theorem check_ren (h0:Zj3 n=0) (ha:acyB (ndL n) V=true):Pl.Zkz (renN ts n)=0:=by
 unfold Pl.Zkz
 have hv:(renN ts n).vars=(V:Int):=hs.vars
 rw [if_neg (fun q=>q (sound_ren hs F C h0)),hv,Int.toNat_natCast,acy_ren hs F C h0 ha]
 rfl
theorem lk_ren (h0:Zj3 n=0) (ha:acyB (ndL n) V=true) {x:NodeD×NodeI} (hx:x∈n6 n):lk (lvl (renN ts n) V) (renI ts x.2)=lk (lvl n V) x.2:=by
 have hs':=snd_ren hs F C h0
 have hm:x.2∈Zj5 n:=by rw [←Zb4n];exact List.mem_map_of_mem hx
 have hne:=hs.toNe hm
 obtain ⟨h1,_,_⟩:=Zbas hs hx
 unfold lk
 match e:x.2.to with
 | []=>exact absurd e hne
 | a :: t=>
  have hr:=hs.toRng hm (v:=a) (by rw [e];simp)
  have e1:((renI ts x.2).to.headD 0).toNat=sg ts a.toNat:=by
   show (((x.2.to.map (rv ts)).headD 0)).toNat=_
   rw [e]
   show (rv ts a).toNat=sg ts a.toNat
   unfold sg
   rw [show ((a.toNat:Nat):Int)=a by omega]
  rw [e1]
  show lat _ _=lat _ a.toNat
  obtain ⟨k,hk⟩:=(Za0m hs.apart V).1 ha a.toNat (by omega)
  have hw:=F.le (v:=a) (by omega) hr.2
  rw [lvl_at hs (by omega) hk,lvl_at hs' (by unfold sg;rw [show ((a.toNat:Nat):Int)=a by omega];omega) (lev_ren hs F C hk (by omega))]
theorem ordF_ren (h0:Zj3 n=0) (ha:acyB (ndL n) V=true):ordF (renN ts n) V=(ordF n V).map (renX ts):=by
 unfold ordF
 rw [n6_ren hs F C,List.length_map,List.map_flatMap]
 congr 1
 funext i
 rw [List.filter_map]
 congr 1
 refine List.filter_congr fun x hx=>?_
 show decide (lk (lvl (renN ts n) V) (renI ts x.2)=(i:Int)+1)=_
 rw [lk_ren hs F C h0 ha hx]
end
structure Sim (ts:List Int) (V:Nat) (v v':List Bool):Prop where
 l1:v.length=V+1
 l2:v'.length=V+1
 at_:∀u:Int,1≤u→u≤(V:Int)→v'.getD (rv ts u).toNat false=v.getD u.toNat false
theorem getD_set {v:List Bool} {i j:Nat} {b:Bool} (hi:i<v.length):(v.set i b).getD j false=if i=j then b else v.getD j false:=by
 rw [List.getD_eq_getElem?_getD,List.getElem?_set,List.getD_eq_getElem?_getD]
 by_cases q:i=j
 ·rw [if_pos q,if_pos hi,if_pos q];rfl
 ·rw [if_neg q,if_neg q]
section
variable {ts:List Int} {V:Nat} (F:FineP ts V)
include F
theorem evF_ren {v v':List Bool} (S:Sim ts V v v') {l:Int} (h0:0≤l) (h1:l / 2≤(V:Int)):evF (rl ts l) v'=evF l v:=by
 obtain ⟨a,b⟩:=F.lit h0 h1
 unfold evF
 rw [if_neg (by omega),if_neg (by omega),rl_div.1,rl_div.2]
 rcases Int.lt_or_le (l / 2) 1 with q | q
 ·have:l / 2=0:=by omega
  rw [this,show rv ts 0=0 from F.zero]
  rfl
 ·have hp:=F.pos q h1
  rw [S.at_ _ q h1,decide_eq_true (show 0<rv ts (l / 2) by omega),decide_eq_true (show 0<l / 2 by omega)]
theorem evL_ren {v v':List Bool} (S:Sim ts V v v') {L:List Int} (h:∀l∈L,0≤l∧l / 2≤(V:Int)):(L.map (rl ts)).map (evF · v')=L.map (evF · v):=by
 rw [List.map_map]
 exact List.map_congr_left fun l hl=>evF_ren F S (h l hl).1 (h l hl).2
theorem set_ren {v v':List Bool} (S:Sim ts V v v') {u:Int} (u0:1≤u) (u1:u≤(V:Int)) (b:Bool):Sim ts V (v.set u.toNat b) (v'.set (rv ts u).toNat b):=by
 have hp:=F.pos u0 u1
 refine ⟨by rw [List.length_set];exact S.l1,by rw [List.length_set];exact S.l2,fun w w0 w1=>?_⟩
 have hw:=F.pos w0 w1
 rw [getD_set (by rw [S.l2];omega),getD_set (by rw [S.l1];omega),S.at_ w w0 w1]
 by_cases q:u=w
 ·subst q;rw [if_pos rfl,if_pos rfl]
 ·rw [if_neg (fun e=>q (F.inj' (by omega) u1 (by omega) w1 (by omega))),if_neg (by omega)]
theorem setZ_ren:∀(L:List (Int×Bool)) {v v':List Bool},Sim ts V v v'→(∀p∈L,1≤p.1∧p.1≤(V:Int))→Sim ts V (setZ v L) (setZ v' (L.map fun p=>(rv ts p.1,p.2))):=by
 intro L
 induction L with
 | nil=>intro v v' S _;exact S
 | cons p L ih=>
  intro v v' S h
  exact ih (set_ren F S (h p (by simp)).1 (h p (by simp)).2 p.2) (fun q hq=>h q (by simp [hq]))
end
section
variable {n:NetD} {V:Nat} (hs:Snd n V) {ts:List Int} (F:FineP ts V) (C:∀m∈n.mems,consB ts m=true)
include hs F
theorem val0_ren (ls ins:List Bool):Sim ts V (val0 n ls ins) (val0 (renN ts n) ls ins):=by
 unfold val0
 show Sim ts V _ (setZ (setZ (List.replicate (n.vars.toNat+1) false) ((n.inputs.map (rv ts)).zip ins)) (((n.latches.map (renLat ts)).map (·.var)).zip ls))
 have e1:(n.latches.map (renLat ts)).map (·.var)=(n.latches.map (·.var)).map (rv ts):=by rw [List.map_map,List.map_map];rfl
 rw [e1,zip_l (rv ts) (n.latches.map (·.var)) ls,zip_l (rv ts) n.inputs ins]
 have hv:n.vars.toNat=V:=by rw [hs.vars];rfl
 rw [hv]
 refine setZ_ren F _ (setZ_ren F _ ⟨@List.length_replicate Bool _ _,@List.length_replicate Bool _ _,fun u u0 u1=>?_⟩ ?_) ?_
 ·rw [List.getD_eq_getElem?_getD,List.getD_eq_getElem?_getD,List.getElem?_replicate,List.getElem?_replicate]
  split<;>split<;>rfl
 ·intro p hp
  exact def_in hs F p.1 (List.of_mem_zip hp).1
 ·intro p hp
  obtain ⟨l,hl,he⟩:=List.mem_map.1 (List.of_mem_zip hp).1
  rw [←he]
  exact (def_lat hs F l hl).1
theorem getD_ren {L:List Int} (h:∀l∈L,0≤l∧l / 2≤(V:Int)) (k:Nat):(L.map (rl ts)).getD k 0=rl ts (L.getD k 0)∧0≤L.getD k 0∧L.getD k 0 / 2≤(V:Int):=by
 rw [List.getD_eq_getElem?_getD,List.getD_eq_getElem?_getD,List.getElem?_map]
 cases e:L[k]? with
 | none=>
  refine ⟨?_,by show (0:Int)≤0;omega,by show (0:Int) / 2≤_;omega⟩
  show (0:Int)=rl ts 0
  unfold rl
  rw [show (0:Int) / 2=0 from rfl,show rv ts 0=0 from F.zero];rfl
 | some l=>exact ⟨rfl,h l (List.mem_of_getElem? e)⟩
theorem nodeV_ren (cs:List (List CellT)) {v v':List Bool} (S:Sim ts V v v') {x:NodeD×NodeI} (hx:x∈n6 n):Sim ts V (nodeV n cs v x) (nodeV (renN ts n) cs v' (renX ts x)):=by
 have hm:x.2∈Zj5 n:=by rw [←Zb4n];exact List.mem_map_of_mem hx
 have hf:∀l∈x.2.frm,0≤l∧l / 2≤(V:Int):=fun l hl=>hs.Za8p hm hl
 have ht:∀v∈x.2.to,1≤v∧v≤(V:Int):=fun v hv=>hs.toRng hm hv
 unfold nodeV
 show Sim ts V _ (if x.1.rd=false then v'.set ((x.2.to.map (rv ts)).headD 0).toNat (evF ((x.2.frm.map (rl ts)).getD 0 0) v'&&evF ((x.2.frm.map (rl ts)).getD 1 0) v') else setZ v' ((x.2.to.map (rv ts)).zip (Zaqa (rd (cs.getD x.1.mem []) (wordF ((x.2.frm.map (rl ts)).map (evF · v')))).toNat (x.2.to.map (rv ts)).length)))
 by_cases q:x.1.rd=false
 ·rw [if_pos q,if_pos q]
  obtain ⟨a1,a2,a3⟩:=getD_ren hs F hf 0
  obtain ⟨b1,b2,b3⟩:=getD_ren hs F hf 1
  rw [a1,b1,evF_ren F S a2 a3,evF_ren F S b2 b3]
  match e:x.2.to with
  | []=>exact absurd e (hs.toNe hm)
  | a :: t=>
   have:=ht a (by rw [e];simp)
   exact set_ren F S this.1 this.2 _
 ·rw [if_neg q,if_neg q,evL_ren F S hf,List.length_map,zip_l]
  exact setZ_ren F _ S fun p hp=>ht p.1 (List.of_mem_zip hp).1
include C
theorem valF_ren (h0:Zj3 n=0) (ha:acyB (ndL n) V=true) (ls:List Bool) (cs:List (List CellT)) (ins:List Bool):Sim ts V (valF n ls cs ins) (valF (renN ts n) ls cs ins):=by
 unfold valF
 have hv:n.vars.toNat=V:=by rw [hs.vars];rfl
 have hv':(renN ts n).vars.toNat=V:=hv
 rw [hv,hv',ordF_ren hs F C h0 ha]
 have key:∀(L:List (NodeD×NodeI)),(∀x∈L,x∈n6 n)→∀{v v':List Bool},Sim ts V v v'→Sim ts V (L.foldl (nodeV n cs) v) ((L.map (renX ts)).foldl (nodeV (renN ts n) cs) v'):=by
  intro L
  induction L with
  | nil=>intro _ v v' S;exact S
  | cons x L ih=>intro h v v' S;exact ih (fun y hy=>h y (by simp [hy])) (nodeV_ren hs F cs S (h x (by simp)))
 exact key _ (fun x hx=>Zb9b hx) (val0_ren hs F ls ins)
theorem cyc_ren (h0:Zj3 n=0) (ha:acyB (ndL n) V=true) (s:StD) (x:List Bool):cyc (renN ts n) s x=cyc n s x∧stp (renN ts n) s x=stp n s x:=by
 have S:=valF_ren hs F C h0 ha s.1 s.2 x
 obtain ⟨o1,o2,o3⟩:=out_rng hs F
 unfold cyc stp
 generalize valF n s.1 s.2 x=v at S
 generalize valF (renN ts n) s.1 s.2 x=v' at S
 have e1:badsF (renN ts n) v'=badsF n v:=evL_ren F S o2
 have e2:fineF (renN ts n) v'=fineF n v:=by
  unfold fineF
  show (n.constraints.map (rl ts)).all (evF · v')=_
  rw [List.all_map,Bool.eq_iff_iff,List.all_eq_true,List.all_eq_true]
  constructor
  ·intro h l hl
   have:=h l hl
   rw [←evF_ren F S (o3 l hl).1 (o3 l hl).2];exact this
  ·intro h l hl
   show evF (rl ts l) v'=true
   rw [evF_ren F S (o3 l hl).1 (o3 l hl).2];exact h l hl
 have e3:nextL (renN ts n) v'=nextL n v:=by
  unfold nextL
  show (n.latches.map (renLat ts)).map (fun l=>evF l.next v')=_
  rw [List.map_map]
  refine List.map_congr_left fun l hl=>?_
  obtain ⟨_,l0,l1⟩:=def_lat hs F l hl
  exact evF_ren F S l0 l1
 have e4:nextM (renN ts n) s.2 v'=nextM n s.2 v:=by
  unfold nextM
  show List.zipWith (nextC v') (n.mems.map (renMem ts)) s.2=_
  rw [List.zipWith_map_left]
  refine List.ext_getElem? fun i=>?_
  rw [List.getElem?_zipWith,List.getElem?_zipWith]
  cases hm:n.mems[i]? with
  | none=>rfl
  | some m=>
   cases hc:s.2[i]? with
   | none=>rfl
   | some c=>
    have hmm:=List.mem_of_getElem? hm
    show some (nextC v' (renMem ts m) c)=some (nextC v m c)
    congr 1
    unfold nextC
    show (m.writes.map (renWr ts)).foldl (wrP v') c=_
    rw [List.foldl_map]
    have key:∀(L:List Zz7),(∀w∈L,w∈m.writes)→∀c,L.foldl (fun c w=>wrP v' c (renWr ts w)) c=L.foldl (wrP v) c:=by
     intro L
     induction L with
     | nil=>intro _ c;rfl
     | cons w L ih=>
      intro h c
      rw [List.foldl_cons,List.foldl_cons,←ih (fun y hy=>h y (by simp [hy]))]
      congr 1
      obtain ⟨⟨w0,w1⟩,wa,wd⟩:=write_rng hs F hmm (h w (by simp))
      unfold wrP
      show (if evF (rl ts w.on) v'=true then wr c (wordF ((w.addr.map (rl ts)).map (evF · v'))) (wordF ((w.data.map (rl ts)).map (evF · v'))) else c)=_
      rw [evF_ren F S w0 w1,evL_ren F S wa,evL_ren F S wd]
    exact key m.writes (fun w hw=>hw) c
 exact ⟨by rw [e1,e2],by rw [e3,e4]⟩
theorem trF_ren (h0:Zj3 n=0) (ha:acyB (ndL n) V=true):∀(xs:List (List Bool)) (s:StD) (acc:List CycT),trF (renN ts n) xs s acc=trF n xs s acc:=by
 intro xs
 induction xs with
 | nil=>intro s acc;rfl
 | cons x xs ih=>
  intro s acc
  obtain ⟨e1,e2⟩:=cyc_ren hs F C h0 ha s x
  rw [trF,trF,e1,e2,ih]
  show (if x.length≠(n.inputs.map (rv ts)).length then none else _)=_
  rw [List.length_map]
omit hs F C in
theorem fits_ren (ls:List Bool) (cs:List (List CellT)):fitsS (netT (renN ts n)) (ls,(cs,()))=fitsS (netT n) (ls,(cs,())):=by
 unfold fitsS
 show (decide (ls.length=((n.latches.map (renLat ts)).map latT).length)&&decide (cs.length=((n.mems.map (renMem ts)).map memT).length)&&(List.range ((n.mems.map (renMem ts)).map memT).length).all (loadP ((n.mems.map (renMem ts)).map memT) cs))=(decide (ls.length=(n.latches.map latT).length)&&decide (cs.length=(n.mems.map memT).length)&&(List.range (n.mems.map memT).length).all (loadP (n.mems.map memT) cs))
 simp only [List.length_map]
 congr 1
 rw [Bool.eq_iff_iff,List.all_eq_true,List.all_eq_true]
 have key:∀i:Nat,i<n.mems.length→loadP ((n.mems.map (renMem ts)).map memT) cs i=loadP (n.mems.map memT) cs i:=by
  intro i hi
  have hx:=List.getElem?_eq_getElem hi
  have h1:(n.mems.map memT)[i]?=some (memT n.mems[i]):=by rw [List.getElem?_map,hx];rfl
  have h2:((n.mems.map (renMem ts)).map memT)[i]?=some (memT (renMem ts n.mems[i])):=by rw [List.getElem?_map,List.getElem?_map,hx];rfl
  have g1:gt Za1 (n.mems.map memT) (i:Int)=memT n.mems[i]:=gt_at (σ:=Za1) h1
  have g2:gt Za1 ((n.mems.map (renMem ts)).map memT) (i:Int)=memT (renMem ts n.mems[i]):=gt_at (σ:=Za1) h2
  unfold loadP
  rw [g1,g2];rfl
 constructor
 ·intro h i hi;rw [←key i (List.mem_range.1 hi)];exact h i hi
 ·intro h i hi;rw [key i (List.mem_range.1 hi)];exact h i hi
omit C in
theorem fit_ren (ft:Fit n):Fit (renN ts n):=by
 have hV:=hs.v2
 have rI:∀{v:Int},1≤v∧v≤(V:Int)→I64 (rv ts v):=fun h=>by have:=F.pos h.1 h.2;unfold I64;omega
 have lI:∀{l:Int},0≤l∧l / 2≤(V:Int)→I64 (rl ts l):=fun h=>by have:=F.lit h.1 h.2;unfold I64;omega
 obtain ⟨o1,o2,o3⟩:=out_rng hs F
 have ll:∀{L:List Int},(∀l∈L,0≤l∧l / 2≤(V:Int))→∀x∈L.map (rl ts),I64 x:=fun h x hx=>by obtain ⟨l,hl,rfl⟩:=List.mem_map.1 hx;exact lI (h l hl)
 refine ⟨ft.vars,⟨?_,?_⟩,⟨?_,?_⟩,⟨?_,ll o1⟩,⟨?_,ll o2⟩,⟨?_,ll o3⟩,⟨?_,?_⟩,⟨?_,?_⟩⟩
 ·show (n.inputs.map (rv ts)).length≤_;rw [List.length_map];exact ft.ins.1
 ·intro x hx;obtain ⟨v,hv,rfl⟩:=List.mem_map.1 hx;exact rI (def_in hs F v hv)
 ·show (n.latches.map (renLat ts)).length≤_;rw [List.length_map];exact ft.lat.1
 ·intro x hx
  obtain ⟨l,hl,rfl⟩:=List.mem_map.1 hx
  obtain ⟨a,b⟩:=def_lat hs F l hl
  exact ⟨rI a,lI b,(ft.lat.2 l hl).2.2⟩
 ·show (n.outputs.map (rl ts)).length≤_;rw [List.length_map];exact ft.out.1
 ·show (n.bads.map (rl ts)).length≤_;rw [List.length_map];exact ft.bad.1
 ·show (n.constraints.map (rl ts)).length≤_;rw [List.length_map];exact ft.con.1
 ·show (n.mems.map (renMem ts)).length≤_;rw [List.length_map];exact ft.mems.1
 ·intro x hx
  obtain ⟨m,hm,rfl⟩:=List.mem_map.1 hx
  have mf:=ft.mems.2 m hm
  refine ⟨mf.word,mf.addr,?_,?_,?_,?_⟩
  ·show (m.reads.map (renRd ts)).length≤_;rw [List.length_map];exact mf.rdn
  ·show (m.writes.map (renWr ts)).length≤_;rw [List.length_map];exact mf.wrn
  ·intro r hr
   obtain ⟨r,hq,rfl⟩:=List.mem_map.1 hr
   obtain ⟨r1,r2⟩:=read_rng hs F hm hq
   have:=hs.mems m hm
   have hp:=F.pos (u:=r.var) r1 (by omega)
   refine ⟨?_,?_,?_,ll (raddr_rng hs F hm hq)⟩
   ·show (r.addr.map (rl ts)).length≤_;rw [List.length_map];exact (mf.rds r hq).1
   ·show _≤rv ts r.var;omega
   ·show rv ts r.var≤_;omega
  ·intro w hw
   obtain ⟨w,hq,rfl⟩:=List.mem_map.1 hw
   obtain ⟨a,b,c⟩:=write_rng hs F hm hq
   refine ⟨?_,?_,lI a,ll b,ll c⟩
   ·show (w.addr.map (rl ts)).length≤_;rw [List.length_map];exact (mf.wrs w hq).1
   ·show (w.data.map (rl ts)).length≤_;rw [List.length_map];exact (mf.wrs w hq).2.1
 ·show (n.ands.map (renAnd ts)).length≤_;rw [List.length_map];exact ft.ands.1
 ·intro x hx
  obtain ⟨a,ha,rfl⟩:=List.mem_map.1 hx
  obtain ⟨p,q,r⟩:=def_and hs F a ha
  exact ⟨rI p,lI q,lI r⟩
end
end Go.Proofs.YtnocaehijdmkkaaGreat.V
end
