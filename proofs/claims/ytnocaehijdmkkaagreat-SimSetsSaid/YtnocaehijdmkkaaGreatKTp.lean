import Derived.Test.YtnocaehijdmkkaaGreatKTe
import Derived.Test.YtnocaehijdmkkaaGreatKSb
set_option linter.unusedSectionVars false
set_option linter.unusedVariables false
set_option linter.unusedSimpArgs false
set_option linter.unnecessarySimpa false
section
namespace Go.Proofs.YtnocaehijdmkkaaGreat.V
open Go Go.RowKit
set_option maxRecDepth 1000000
abbrev yTp0:List (Nat×LO):=[(0,.cells [.int .i64,.fz (.int .i64),.fz Za0,.fz (.int .i64),.fz (.int .i64),.fz (.int .i64),.fz Za1,.fz Za0,.fz Za4,.hd 1 .bool,.rhd 2] 90),(1,.arr .bool 4),(2,.rams 157)]
abbrev astrariumlaw12_cycle_lay:Lay:={ T:=[(0,.ptr 0 0),(1,.agg lNet),(2,.agg [.fz .bool,.fz (.sl Za3)]),(3,.fz .bool)],h:=yTp0,nx:=3 }
abbrev astrariumlaw12_cycle_outs:List (Ev.Ex×Lay):=[(.ret,{ T:=[(0,.agg [.fz .bool,.fz (.sl Za3)]),(1,.bool)],h:=yTp0,nx:=3 })]
abbrev astrariumlaw12_cycle_T:=TL astrariumlaw12_cycle_lay.σs→Option (Out astrariumlaw12_cycle_outs)
abbrev astrariumlaw12_cycle_D:=Kb 24 4 astrariumlaw12_cycle_lay 2 astrariumlaw12_cycle_outs
def astrariumlaw12_cycle_F (F0:Zalg) (F1:Zaqj) (F2:Zaql) (F3:Zad3) (F4:Zaqg) (F5:Zand) (F6:nsim_Machine__State_T) (F7:Zar1) (F8:Zav0) (t1_0:Int) (t1_1:List Int) (t1_2:List (Sh.T Za0)) (t1_3 t1_4 t1_5:List Int) (t1_6:List (Sh.T Za1)) (t1_7:List (Sh.T Za0)) (t2_0:List Bool) (t2_1:List (List (Sh.T Za3))) (t3:List Bool) (b0_0:Int) (b0_1:List Int) (b0_2:List (Sh.T Za0)) (b0_3 b0_4 b0_5:List Int) (b0_6:List (Sh.T Za1)) (b0_7:List (Sh.T Za0)) (b0_8:List (Sh.T Za4)) (b1:List Bool) (b2:List (Sh.T (.agg [(.int .i64),(.int .i64),(.sl Za3)]))):Option (Out astrariumlaw12_cycle_outs):=
 bnd (F8 (t3,(b0_0,(b0_1,(b0_2,(b0_3,(b0_4,(b0_5,(b0_6,(b0_7,(b0_8,(b1,(b2,()))))))))))))) fun x0=>
 bnd (F7 (t3,(x0.2.1,(x0.2.2.1,(x0.2.2.2.1,(x0.2.2.2.2.1,(x0.2.2.2.2.2.1,(x0.2.2.2.2.2.2.1,(x0.2.2.2.2.2.2.2.1,(x0.2.2.2.2.2.2.2.2.1,(x0.2.2.2.2.2.2.2.2.2.1,(x0.2.2.2.2.2.2.2.2.2.2.1,(x0.2.2.2.2.2.2.2.2.2.2.2.1,()))))))))))))) fun x1=>
 br (Bool.not (iQ (Int.ofNat (List.length t3)) (Int.ofNat (List.length t1_1))))
 (
  br (iQ x0.1 (1:Int))
  (
   br (selB true (iQ x1.2.1 (1:Int)) false)
   (
    br (selB true (iQ (Int.ofNat (List.length x0.2.2.2.2.2.2.2.2.2.2.2.2.1)) (0:Int)) false)
    (
     chk (iQ (Int.ofNat (List.length x1.2.2.2.2.2.2.2.2.2.2.2.2.2.1)) (Int.ofNat (List.length x1.2.2.2.2.2.2.2.2.2.2.2.2.2.1)))<|
     chk (bQ (iQ (Int.ofNat (List.length x1.2.2.2.2.2.2.2.2.2.2.2.2.2.1)) (0:Int)) (iQ (Int.ofNat (List.length x1.2.2.2.2.2.2.2.2.2.2.2.2.2.1)) (0:Int)))<|
     chk (bQ (selB true (iQ (Int.ofNat (List.length x1.2.2.2.2.2.2.2.2.2.2.2.2.2.1)) (0:Int)) false) (selB true (iQ (Int.ofNat (List.length x1.2.2.2.2.2.2.2.2.2.2.2.2.2.1)) (0:Int)) false))<|
     some (t2_0,(t2_1,((selB true (iQ (Int.ofNat (List.length x1.2.2.2.2.2.2.2.2.2.2.2.2.2.1)) (0:Int)) false),(x1.2.2.1,(x1.2.2.2.1,(x1.2.2.2.2.1,(x1.2.2.2.2.2.1,(x1.2.2.2.2.2.2.1,(x1.2.2.2.2.2.2.2.1,(x1.2.2.2.2.2.2.2.2.1,(x1.2.2.2.2.2.2.2.2.2.1,(x1.2.2.2.2.2.2.2.2.2.2.1,(x1.2.2.2.2.2.2.2.2.2.2.2.1,(x1.2.2.2.2.2.2.2.2.2.2.2.2.1,())))))))))))))))
    (
     some (t2_0,(t2_1,(false,(x1.2.2.1,(x1.2.2.2.1,(x1.2.2.2.2.1,(x1.2.2.2.2.2.1,(x1.2.2.2.2.2.2.1,(x1.2.2.2.2.2.2.2.1,(x1.2.2.2.2.2.2.2.2.1,(x1.2.2.2.2.2.2.2.2.2.1,(x1.2.2.2.2.2.2.2.2.2.2.1,(x1.2.2.2.2.2.2.2.2.2.2.2.1,(x1.2.2.2.2.2.2.2.2.2.2.2.2.1,()))))))))))))))))
   (
    some (t2_0,(t2_1,(false,(x1.2.2.1,(x1.2.2.2.1,(x1.2.2.2.2.1,(x1.2.2.2.2.2.1,(x1.2.2.2.2.2.2.1,(x1.2.2.2.2.2.2.2.1,(x1.2.2.2.2.2.2.2.2.1,(x1.2.2.2.2.2.2.2.2.2.1,(x1.2.2.2.2.2.2.2.2.2.2.1,(x1.2.2.2.2.2.2.2.2.2.2.2.1,(x1.2.2.2.2.2.2.2.2.2.2.2.2.1,()))))))))))))))))
  (
   some (t2_0,(t2_1,(false,(x1.2.2.1,(x1.2.2.2.1,(x1.2.2.2.2.1,(x1.2.2.2.2.2.1,(x1.2.2.2.2.2.2.1,(x1.2.2.2.2.2.2.2.1,(x1.2.2.2.2.2.2.2.2.1,(x1.2.2.2.2.2.2.2.2.2.1,(x1.2.2.2.2.2.2.2.2.2.2.1,(x1.2.2.2.2.2.2.2.2.2.2.2.1,(x1.2.2.2.2.2.2.2.2.2.2.2.2.1,()))))))))))))))))
 (
  bnd (F5 ((t1_0,(t1_1,(t1_2,(t1_3,(t1_4,(t1_5,(t1_6,(t1_7,())))))))),((t2_0,(t2_1,())),(t3,())))) fun x2=>
  bnd (F4 ((t1_0,(t1_1,(t1_2,(t1_3,(t1_4,(t1_5,(t1_6,(t1_7,())))))))),((t2_0,(t2_1,())),(x2.1,())))) fun x3=>
  br (iQ x0.1 (0:Int))
  (
   br (selB true (iQ x1.2.1 (0:Int)) false)
   (
    bnd (F3 (x0.2.2.2.2.2.2.2.2.2.2.2.2.1,(x2.1,()))) fun x4=>
    br (selB true x4.1 false)
    (
     bnd (F2 ((t1_0,(t1_1,(t1_2,(t1_3,(t1_4,(t1_5,(t1_6,(t1_7,())))))))),(x2.1,()))) fun x5=>
     bnd (F3 (x1.2.2.2.2.2.2.2.2.2.2.2.2.2.1,(x5.1,()))) fun x6=>
     br (selB true x6.1 false)
     (
      bnd (F1 ((t1_0,(t1_1,(t1_2,(t1_3,(t1_4,(t1_5,(t1_6,(t1_7,())))))))),(x2.1,()))) fun x7=>
      br (selB true (@decide _ (Bool.decEq x1.1 x7.1)) false)
      (
       bnd (F6 (x1.2.2.1,(x1.2.2.2.1,(x1.2.2.2.2.1,(x1.2.2.2.2.2.1,(x1.2.2.2.2.2.2.1,(x1.2.2.2.2.2.2.2.1,(x1.2.2.2.2.2.2.2.2.1,(x1.2.2.2.2.2.2.2.2.2.1,(x1.2.2.2.2.2.2.2.2.2.2.1,(x1.2.2.2.2.2.2.2.2.2.2.2.1,(x1.2.2.2.2.2.2.2.2.2.2.2.2.1,())))))))))))) fun x8=>
       chk (both (Zqo (Sh.beq .bool) x3.1.1 x3.1.1) (both (Zqo (Sh.beq (.sl Za3)) x3.1.2.1 x3.1.2.1) true))<|
       chk (both (Zqo (Sh.beq .bool) x3.1.1 x3.1.1) (both (Zqo (Sh.beq (.sl Za3)) x3.1.2.1 x3.1.2.1) true))<|
       bnd (F0 (x8.2.2.2.2.2.2.2.2.2.2.2,((x3.1.1,(x3.1.2.1,())),()))) fun x9=>
       chk (bQ (selB true x9.1 false) (selB true x9.1 false))<|
       some (x3.1.1,(x3.1.2.1,((selB true x9.1 false),(x8.1,(x8.2.1,(x8.2.2.1,(x8.2.2.2.1,(x8.2.2.2.2.1,(x8.2.2.2.2.2.1,(x8.2.2.2.2.2.2.1,(x8.2.2.2.2.2.2.2.1,(x8.2.2.2.2.2.2.2.2.1,(x8.2.2.2.2.2.2.2.2.2.1,(x8.2.2.2.2.2.2.2.2.2.2.1,())))))))))))))))
      (
       some (x3.1.1,(x3.1.2.1,(false,(x1.2.2.1,(x1.2.2.2.1,(x1.2.2.2.2.1,(x1.2.2.2.2.2.1,(x1.2.2.2.2.2.2.1,(x1.2.2.2.2.2.2.2.1,(x1.2.2.2.2.2.2.2.2.1,(x1.2.2.2.2.2.2.2.2.2.1,(x1.2.2.2.2.2.2.2.2.2.2.1,(x1.2.2.2.2.2.2.2.2.2.2.2.1,(x1.2.2.2.2.2.2.2.2.2.2.2.2.1,()))))))))))))))))
     (
      some (x3.1.1,(x3.1.2.1,(false,(x1.2.2.1,(x1.2.2.2.1,(x1.2.2.2.2.1,(x1.2.2.2.2.2.1,(x1.2.2.2.2.2.2.1,(x1.2.2.2.2.2.2.2.1,(x1.2.2.2.2.2.2.2.2.1,(x1.2.2.2.2.2.2.2.2.2.1,(x1.2.2.2.2.2.2.2.2.2.2.1,(x1.2.2.2.2.2.2.2.2.2.2.2.1,(x1.2.2.2.2.2.2.2.2.2.2.2.2.1,()))))))))))))))))
    (
     some (x3.1.1,(x3.1.2.1,(false,(x1.2.2.1,(x1.2.2.2.1,(x1.2.2.2.2.1,(x1.2.2.2.2.2.1,(x1.2.2.2.2.2.2.1,(x1.2.2.2.2.2.2.2.1,(x1.2.2.2.2.2.2.2.2.1,(x1.2.2.2.2.2.2.2.2.2.1,(x1.2.2.2.2.2.2.2.2.2.2.1,(x1.2.2.2.2.2.2.2.2.2.2.2.1,(x1.2.2.2.2.2.2.2.2.2.2.2.2.1,()))))))))))))))))
   (
    some (x3.1.1,(x3.1.2.1,(false,(x1.2.2.1,(x1.2.2.2.1,(x1.2.2.2.2.1,(x1.2.2.2.2.2.1,(x1.2.2.2.2.2.2.1,(x1.2.2.2.2.2.2.2.1,(x1.2.2.2.2.2.2.2.2.1,(x1.2.2.2.2.2.2.2.2.2.1,(x1.2.2.2.2.2.2.2.2.2.2.1,(x1.2.2.2.2.2.2.2.2.2.2.2.1,(x1.2.2.2.2.2.2.2.2.2.2.2.2.1,()))))))))))))))))
  (
   some (x3.1.1,(x3.1.2.1,(false,(x1.2.2.1,(x1.2.2.2.1,(x1.2.2.2.2.1,(x1.2.2.2.2.2.1,(x1.2.2.2.2.2.2.1,(x1.2.2.2.2.2.2.2.1,(x1.2.2.2.2.2.2.2.2.1,(x1.2.2.2.2.2.2.2.2.2.1,(x1.2.2.2.2.2.2.2.2.2.2.1,(x1.2.2.2.2.2.2.2.2.2.2.2.1,(x1.2.2.2.2.2.2.2.2.2.2.2.2.1,()))))))))))))))))
def astrariumlaw12_cycle_G (c0:Zaec) (c1:Zalj) (c2:Zalk) (c3:Zabe) (c4:Zali) (c5:Zajb) (c6:nsim_Machine__State_D) (c7:Zaln) (c8:Zao5) :astrariumlaw12_cycle_D:=⟨u22 (astrariumlaw12_cycle_F c0.F c1.F c2.F c3.F c4.F c5.F c6.F c7.F c8.F),pB Tryz.func24 94 (kD c0 (kD c1 (kD c2 (kD c3 (kD c4 (kD c5 (kB c6 (kB c7 (kB c8 k0))))))))) e0 1 (sS l0) fun d=>by kernel_rfl⟩
def astrariumlaw12_cycle_K:astrariumlaw12_cycle_D:=astrariumlaw12_cycle_G Zalh Zaqk Zaqm Zad4 Zaqh Zane nsim_Machine__State_K Zar2 Zav1 
def astrariumlaw12_cycle_FF:astrariumlaw12_cycle_T:=astrariumlaw12_cycle_K.F
abbrev astrariumlaw12_SimPlays_lay11:Lay:={ T:=[(2,.fz (.sl .bool)),(3,.ptr 0 0),(7,.ptr 1 0),(10,.ptr 4 0),(11,.int .i64)],h:=[(0,.cells lNet 27),(1,.cells [.int .i64,.fz (.int .i64),.fz Za0,.fz (.int .i64),.fz (.int .i64),.fz (.int .i64),.fz Za1,.fz Za0,.fz Za4,.hd 2 .bool,.rhd 3] 90),(2,.arr .bool 4),(3,.rams 157),(4,.cells [.fz .bool,.fz (.sl Za3)] 31)],nx:=5 }
abbrev astrariumlaw12_SimPlays_outs11:List (Ev.Ex×Lay):=[(.ret,{ T:=[(6,.bool)],h:=[],nx:=0 }),((.exit 0),{ T:=[],h:=[],nx:=0 })]
abbrev astrariumlaw12_SimPlays_T11:=TL astrariumlaw12_SimPlays_lay11.σs→Option (Out astrariumlaw12_SimPlays_outs11)
abbrev astrariumlaw12_SimPlays_D11:=Ld 0 73 (Zb5 [0] (Zaa Tryz.f5)) astrariumlaw12_SimPlays_lay11 astrariumlaw12_SimPlays_outs11
def astrariumlaw12_SimPlays_B11 (F4:astrariumlaw12_cycle_T) (t2:List (List Bool)) (t11 b0_0:Int) (b0_1:List Int) (b0_2:List (Sh.T Za0)) (b0_3 b0_4 b0_5:List Int) (b0_6:List (Sh.T Za1)) (b0_7:List (Sh.T Za0)) (b1_0:Int) (b1_1:List Int) (b1_2:List (Sh.T Za0)) (b1_3 b1_4 b1_5:List Int) (b1_6:List (Sh.T Za1)) (b1_7:List (Sh.T Za0)) (b1_8:List (Sh.T Za4)) (b2:List Bool) (b3:List (Sh.T (.agg [(.int .i64),(.int .i64),(.sl Za3)]))) (b4_0:List Bool) (b4_1:List (List (Sh.T Za3))):Option (TL astrariumlaw12_SimPlays_lay11.σs⊕Out astrariumlaw12_SimPlays_outs11):=
 br (iL t11 (Int.ofNat (List.length t2)))
 (
  chk (inb t11 (List.length t2))<|
  bnd (F4 (b0_0,(b0_1,(b0_2,(b0_3,(b0_4,(b0_5,(b0_6,(b0_7,(b4_0,(b4_1,((gt (.sl .bool) t2 t11),(b1_0,(b1_1,(b1_2,(b1_3,(b1_4,(b1_5,(b1_6,(b1_7,(b1_8,(b2,(b3,()))))))))))))))))))))))) fun x0=>
  chk (bQ x0.2.2.1 x0.2.2.1)<|
  br (Bool.not x0.2.2.1)
  (
   some (.inr (.inl (false,()))))
  (
   some (.inl (t2,((IntKind.wrap .i64 (t11+(1:Int))),(b0_0,(b0_1,(b0_2,(b0_3,(b0_4,(b0_5,(b0_6,(b0_7,(x0.2.2.2.1,(x0.2.2.2.2.1,(x0.2.2.2.2.2.1,(x0.2.2.2.2.2.2.1,(x0.2.2.2.2.2.2.2.1,(x0.2.2.2.2.2.2.2.2.1,(x0.2.2.2.2.2.2.2.2.2.1,(x0.2.2.2.2.2.2.2.2.2.2.1,(x0.2.2.2.2.2.2.2.2.2.2.2.1,(x0.2.2.2.2.2.2.2.2.2.2.2.2.1,(x0.2.2.2.2.2.2.2.2.2.2.2.2.2.1,(x0.1,(x0.2.1,()))))))))))))))))))))))))))
 (
  some (.inr (.inr ())))
def astrariumlaw12_SimPlays_M11 (c4:astrariumlaw12_cycle_D) :astrariumlaw12_SimPlays_D11:=mkL (u23 (astrariumlaw12_SimPlays_B11 c4.F)) (pL (kB c4 k0) e0 1 l0 fun d=>by kernel_rfl)
def astrariumlaw12_SimPlays_N11:astrariumlaw12_SimPlays_D11:=astrariumlaw12_SimPlays_M11 astrariumlaw12_cycle_K 
def astrariumlaw12_SimPlays_L11:astrariumlaw12_SimPlays_T11:=lpD (u23 (astrariumlaw12_SimPlays_B11 astrariumlaw12_cycle_FF)) NN
abbrev astrariumlaw12_SimPlays_σs:List Sh:=[Za5,Zab,(.sl (.sl .bool))]
abbrev astrariumlaw12_SimPlays_τs:List Sh:=[.bool]
abbrev astrariumlaw12_SimPlays_T:=TL astrariumlaw12_SimPlays_σs→Option (TL astrariumlaw12_SimPlays_τs)
abbrev astrariumlaw12_SimPlays_D:=Kd 5 astrariumlaw12_SimPlays_σs astrariumlaw12_SimPlays_τs
def astrariumlaw12_SimPlays_F (F0:Zalg) (F1:Zahu) (F2:astrariumlaw12_alive_T) (F3:Zakq) (F4:astrariumlaw12_cycle_T) (F5:nsim_Machine__State_T) (F6:Zb7x) (L11:astrariumlaw12_SimPlays_T11) (a0:Sh.T Za5) (a1:Sh.T Zab) (a2:List (List Bool)):Option (TL astrariumlaw12_SimPlays_τs):=
 bnd (F3 (a0,(a1,(a2,())))) fun x0=>
 br (Bool.not x0.1)
 (
  bnd (F2 ()) fun x1=>
  some (x1.1,()))
 (
  bnd (F6 (a0.1,(a0.2.1,(a0.2.2.1,(a0.2.2.2.1,(a0.2.2.2.2.1,(a0.2.2.2.2.2.1,(a0.2.2.2.2.2.2.1,(a0.2.2.2.2.2.2.2.1,a1))))))))) fun x1=>
  (match x1 with
  | .inl x2=>
   bnd (F1 (a0,(a1,()))) fun x3=>
   br (Bool.not (iQ x2.1 x3.1))
   (
    br (iQ x2.1 x3.1)
    (
     bnd (F2 ()) fun x4=>
     some ((selB true x4.1 false),()))
    (
     some (false,())))
   (
    chk (selB false true (Bool.not (iQ x3.1 (0:Int))))<|
    br (iQ x2.1 x3.1)
    (
     bnd (F2 ()) fun x4=>
     some ((selB true x4.1 false),()))
    (
     some (false,())))
  | .inr x2=>
   bnd (F1 (a0,(a1,()))) fun x3=>
   br (Bool.not (iQ x2.1 x3.1))
   (
    br (iQ x2.1 x3.1)
    (
     some (false,()))
    (
     some (false,())))
   (
    br (selB false true (Bool.not (iQ x3.1 (0:Int))))
    (
     br (iQ x2.1 x3.1)
     (
      some (false,()))
     (
      some (false,())))
    (
     bnd (F5 x2.2) fun x4=>
     chk (both (Zqo (Sh.beq .bool) a1.1 a1.1) (both (Zqo (Sh.beq (.sl Za3)) a1.2.1 a1.2.1) true))<|
     bnd (F0 (x4.2.2.2.2.2.2.2.2.2.2.2,(a1,()))) fun x5=>
     br (Bool.not x5.1)
     (
      some (false,()))
     (
      bnd (L11 (a2,((0:Int),(a0.1,(a0.2.1,(a0.2.2.1,(a0.2.2.2.1,(a0.2.2.2.2.1,(a0.2.2.2.2.2.1,(a0.2.2.2.2.2.2.1,(a0.2.2.2.2.2.2.2.1,(x4.1,(x4.2.1,(x4.2.2.1,(x4.2.2.2.1,(x4.2.2.2.2.1,(x4.2.2.2.2.2.1,(x4.2.2.2.2.2.2.1,(x4.2.2.2.2.2.2.2.1,(x4.2.2.2.2.2.2.2.2.1,(x4.2.2.2.2.2.2.2.2.2.1,(x4.2.2.2.2.2.2.2.2.2.2.1,a1)))))))))))))))))))))) fun x6=>
      (match x6 with
      | .inl x7=>
       some (x7.1,())
      | .inr x7=>
       bnd (F2 ()) fun x8=>
       some (x8.1,())
      ))))
  ))
def astrariumlaw12_SimPlays_G (c0:Zaec) (c1:Zad0) (c2:astrariumlaw12_alive_D) (c3:Zadr) (c4:astrariumlaw12_cycle_D) (c5:nsim_Machine__State_D) (c6:Zb5x) (M11:astrariumlaw12_SimPlays_D11):astrariumlaw12_SimPlays_D:=⟨u3 (astrariumlaw12_SimPlays_F c0.F c1.F c2.F c3.F c4.F c5.F c6.F M11.L),pD Tryz.func5 73 (kD c0 (kD c1 (kD c2 (kD c3 (kB c4 (kB c5 (kB c6 k0))))))) e0 1 (sS (sC M11 l0)) fun d=>by kernel_rfl⟩
def astrariumlaw12_SimPlays_K:astrariumlaw12_SimPlays_D:=astrariumlaw12_SimPlays_G Zalh Zahv astrariumlaw12_alive_K Zakr astrariumlaw12_cycle_K nsim_Machine__State_K Zb7y astrariumlaw12_SimPlays_N11
def astrariumlaw12_SimPlays_FF:astrariumlaw12_SimPlays_T:=astrariumlaw12_SimPlays_K.F
end Go.Proofs.YtnocaehijdmkkaaGreat.V
end
section
namespace Go.Proofs.YtnocaehijdmkkaaGreat.V
open Go Go.RowKit
open Go.Proofs.YtnocaehijdmkkaaGreat.Pl
section
variable {n:NetD} {V:Nat} (hs:Snd n V) (ft:Fit n)
include hs ft
theorem valF_len (s:StD) (x:List Bool):(valF n s.1 s.2 x).length=V+1:=by
 rw [valF_length,hs.vars];rfl
theorem cycle_is (h0:Zj3 n=0) (ha:acyB (ndL n) V=true) {K:Nat} (hK:K≤5000) (s:StD) (ok:StOk n K s.1 s.2) (x:List Bool) :
  astrariumlaw12_cycle_FF (nt n (s.1,(s.2,(x,mc n (ordF n V) s.1 (rms n s.2) ()))))=some ((stp' n s x).1,((stp' n s x).2,(true,mc n (ordF n V) (stp' n s x).1 (rms n (stp' n s x).2) ()))):=by
 have hL:=hs.lens
 have hV:=hs.v2
 by_cases hw:x.length=n.inputs.length
 ·have e1:=Zb9n hs ft hK s.1 x s.2 ok hw
  have e2:=stepS_is hs ft hK s.1 x s.2 ok hw
  have e3:=Zb8j hs ft h0 ha hK s.1 x s.2 ok hw
  have e4:=Zbal hs hK s.1 s.2 ok (valF n s.1 s.2 x)
  have e5:=Zbb4 hs (valF n s.1 s.2 x)
  have e6:=Zbaw hs (valF n s.1 s.2 x)
  have okn:=Zbak hs ok (valF n s.1 s.2 x)
  have e7:=state_is hs (ordF n V) (K:=K+4) (by omega) okn
  have e8:=Za37 (valF n s.1 s.2 x) (by rw [valF_len hs ft];omega)
  have e9:=Za37 (badsF n (valF n s.1 s.2 x)) (by rw [badsF_len];have:=ft.bad.1;omega)
  have e10:=same12_ok ft (by omega) okn
  have q0:Bool.not (iQ (Int.ofNat (List.length x)) (Int.ofNat (List.length n.inputs)))=false:=by rw [hw];exact not_f (dec_t rfl)
  unfold stp'
  rw [if_pos hw]
  have k1:=both_self (nextL n (valF n s.1 s.2 x)) (nextM n s.2 (valF n s.1 s.2 x))
  exact Zba e1 (Zba e2 (br_ff q0 (Zba e3 (Zba e4 (br_tt rfl (br_tt rfl (Zba e8 (br_tt rfl (Zba e5 (Zba e9 (br_tt rfl (Zba e6 (br_tt (sel_t (bself_t _)) (Zba e7 (Zaj k1 (Zaj k1 (Zba e10 (Zaj rfl rfl))))))))))))))))))
 ·have e1:=Zb8i hs (ordF n V) s.1 x (rms n s.2) hw
  have e2:=Zba4 hs (ordF n V) s.1 x (rms n s.2) hw
  have q0:Bool.not (iQ (Int.ofNat (List.length x)) (Int.ofNat (List.length n.inputs)))=true:=not_t (dec_f (fun h=>hw (Int.ofNat.inj h)))
  unfold stp'
  rw [if_neg hw]
  exact Zba e1 (Zba e2 (br_tt q0 (br_tt rfl (br_tt rfl (br_tt rfl (Zaj rfl (Zaj rfl (Zaj rfl rfl))))))))
end
def stAt (n:NetD) (s:StD) (ins:List (List Bool)) (k:Nat):StD:=(ins.take k).foldl (stp' n) s
theorem stAt_succ {n:NetD} {s:StD} {ins:List (List Bool)} {k:Nat} {x:List Bool} (h:ins[k]?=some x):stAt n s ins (k+1)=stp' n (stAt n s ins k) x:=by
 unfold stAt
 rw [Pl.Zd8 h,List.foldl_append];rfl
theorem stAt_ok {n:NetD} {V:Nat} (hs:Snd n V) {s:StD} {K:Nat} (ok:StOk n K s.1 s.2) (ins:List (List Bool)):∀k,k≤ins.length→StOk n (K+4*k) (stAt n s ins k).1 (stAt n s ins k).2:=by
 intro k
 induction k with
 | zero=>intro _;exact ok
 | succ k ih=>
  intro hk
  rw [stAt_succ (List.getElem?_eq_getElem hk)]
  rw [show K+4*(k+1)=K+4*k+4 by omega]
  exact stp_ok hs (ih (by omega)) _
section
variable {n:NetD} (ft:Fit n)
include ft
theorem plays_11 {V:Nat} (hs:Snd n V) (h0:Zj3 n=0) (ha:acyB (ndL n) V=true) (ins:List (List Bool)) (hI:ins.length≤200) (s:StD) (ok:StOk n 4096 s.1 s.2) :
  astrariumlaw12_SimPlays_L11 (ins,((0:Int),nt n (mc n (ordF n V) s.1 (rms n s.2) (s.1,(s.2,())))))=some (.inr ()):=by
 unfold astrariumlaw12_SimPlays_L11;delta u23
 refine Zif (fun k:Nat=>(ins,((k:Int),nt n (mc n (ordF n V) (stAt n s ins k).1 (rms n (stAt n s ins k).2) ((stAt n s ins k).1,((stAt n s ins k).2,())))))) ins.length rfl ?_ ?_ (Ze8 (by omega))
 ·intro k hk
  have hx:=List.getElem?_eq_getElem hk
  have okk:=stAt_ok hs ok ins k (by omega)
  have ec:=cycle_is hs ft h0 ha (K:=4096+4*k) (by omega) (stAt n s ins k) okk ins[k]
  have g:gt (.sl .bool) ins (k:Int)=ins[k]:=gt_at (σ:=.sl .bool) hx
  have e:∀(p q:Int) (S S':StD),p=q→S=S'→(some (.inl (ins,(p,nt n (mc n (ordF n V) S.1 (rms n S.2) (S.1,(S.2,())))))):Option (TL astrariumlaw12_SimPlays_lay11.σs⊕Out astrariumlaw12_SimPlays_outs11))=some (.inl (ins,(q,nt n (mc n (ordF n V) S'.1 (rms n S'.2) (S'.1,(S'.2,())))))):=by rintro _ _ _ _ rfl rfl;rfl
  rw [←g] at ec
  refine br_tt (dec_t (show (k:Int)<((ins.length:Nat):Int) by omega)) (Zaj (show inb (k:Int) (List.length ins)=true from Zar ⟨by omega,by omega⟩) (Zba ec (Zaj rfl (br_ff rfl (e _ _ _ _ (i64n (show (k:Int)+1=((k+1:Nat):Int) by omega) (by omega)) ?_)))))
  rw [g]
  exact (stAt_succ hx).symm
 ·exact br_ff (dec_f (show ¬(ins.length:Int)<(ins.length:Int) by omega)) rfl
theorem simPlays_n (ls:List Bool) (cs:List (List CellT)) (ins:List (List Bool)) (hok:okS cs) (hL:lightS ls cs ins) (el:Zfz (netT n,((ls,(cs,())),(ins,())))=some (true,())) :
  astrariumlaw12_SimPlays_FF (netT n,((ls,(cs,())),(ins,())))=some (true,()):=by
 have ef:=refFits_n ft (ls:=ls) hok
 refine Zba el (br_ff rfl ?_)
 by_cases hc:Pl.Zkz n=0
 ·cases hf:fitsS (netT n) (ls,(cs,())) with
  | false=>
   rw [fitsF_f hc hf] at ef
   exact Zba (new_bad ft ls cs hc hf) (Zba ef (br_ff rfl (Zaj rfl (br_tt rfl (Zba alive12_is rfl)))))
  | true=>
   rw [fitsF_t hc hf] at ef
   obtain ⟨V,hs,h0,hV,ha⟩:=Zb6f hc
   have en:=new_ok ft ls cs hc hf (by have:=hL.1;omega)
   rw [hV] at en
   have ok:=Zba6 hf hok
   have es:=state_is hs (ordF n V) (K:=4096) (by omega) ok
   have e2:=same12_ok ft (by omega) ok
   have e11:=plays_11 ft hs h0 ha ins (by have:=hL.2.2.1;omega) (ls,cs) ok
   exact Zba en (Zba ef (br_ff rfl (br_ff rfl (Zba es (Zaj (both_self ls cs) (Zba e2 (br_ff rfl (Zba e11 (Zba alive12_is rfl)))))))))
 ·rw [fitsF_c hc] at ef
  have q:Bool.not (iQ (Pl.Zkz n) (Pl.Zkz n))=false:=not_f (dec_t rfl)
  exact Zba (new_no ft ls cs hc) (Zba ef (br_ff q (Zaj (show selB false true (Bool.not (iQ (Pl.Zkz n) (0:Int)))=true from not_t (dec_f hc)) (br_tt (dec_t rfl) (Zba alive12_is rfl)))))
end
theorem simPlays_is (d:Za5.T) (s:Zab.T) (ins:List (List Bool)) (hd:okD Za5 d) (hs:okD Zab s) (hi:okD (.sl (.sl .bool)) ins):astrariumlaw12_SimPlays_FF (d,(s,(ins,())))=some (true,()):=by
 obtain ⟨ls,cs,⟨⟩⟩:=s
 obtain ⟨b,eb,hb⟩:=Za6b d ls cs ins
 cases b with
 | false=>exact Zba eb (br_tt rfl (Zba alive12_is rfl))
 | true=>
  obtain ⟨h5,hL⟩:=hb rfl
  have ft:=fit_of hd h5
  have r:=simPlays_n ft ls cs ins (okS_of hs.2.1) hL (by rw [Zri];exact eb)
  rw [Zri] at r
  exact r
end Go.Proofs.YtnocaehijdmkkaaGreat.V
end
