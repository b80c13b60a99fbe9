import Derived.Test.YtkcpdpplobhpaaaGreatKRb
import Derived.Test.YtkcpdpplobhpaaaGreatKRd
import Derived.Test.YtkcpdpplobhpaaaGreatKSb
set_option linter.unusedVariables false
set_option linter.unusedSimpArgs false
set_option linter.unnecessarySimpa false
section
namespace Go.Proofs.YtkcpdpplobhpaaaGreat.V
open Go Go.RowKit
set_option maxRecDepth 1000000
abbrev nsim_Machine__Set_lay:Lay:={ T:=[(0,.ptr 0 0),(1,.agg [.fz .bool,.fz (.sl Za3)])],h:=[(0,.cells [.int .i64,.fz (.int .i64),.fz Za0,.fz (.int .i64),.fz (.int .i64),.fz (.int .i64),.fz Za1,.fz Za0,.fz Za4,.hd 1 .bool,.rhd 2] 145),(1,.arr .bool 4),(2,.rams 220)],nx:=3 }
abbrev nsim_Machine__Set_outs:List (Ev.Ex×Lay):=[(.ret,{ T:=[(0,.int .i64)],h:=[(0,.cells [.int .i64,.fz (.int .i64),.fz Za0,.fz (.int .i64),.fz (.int .i64),.fz (.int .i64),.fz Za1,.fz Za0,.fz Za4,.hd 3 .bool,.rhd 4] 145),(3,.arr .bool 4),(4,.rams 220)],nx:=5 })]
abbrev nsim_Machine__Set_T:=TL nsim_Machine__Set_lay.σs→Option (Out nsim_Machine__Set_outs)
abbrev nsim_Machine__Set_D:=Kb 217 2 nsim_Machine__Set_lay 1 nsim_Machine__Set_outs
def nsim_Machine__Set_F (F0:Zaj5) (F1:Zaey) (F2:Zaxx) (t1_0:List Bool) (t1_1:List (List (Sh.T Za3))) (b0_0:Int) (b0_1:List Int) (b0_2:List (Sh.T Za0)) (b0_3 b0_4 b0_5:List Int) (b0_6:List (Sh.T Za1)) (b0_7:List (Sh.T Za0)) (b0_8:List (Sh.T Za4)) (b1:List Bool) (b2:List (Sh.T (.agg [(.int .i64),(.int .i64),(.sl Za3)]))):Option (Out nsim_Machine__Set_outs):=
 bnd (F2 (b0_0,(b0_1,(b0_2,(b0_3,(b0_4,(b0_5,(b0_6,(b0_7,(t1_0,(t1_1,()))))))))))) fun x0=>
 br (Bool.not (iQ x0.1 (0:Int)))
 (
  some (x0.1,(b0_0,(b0_1,(b0_2,(b0_3,(b0_4,(b0_5,(b0_6,(b0_7,(b0_8,(b1,(b2,())))))))))))))
 (
  bnd (F1 (t1_0,())) fun x1=>
  some ((0:Int),(b0_0,(b0_1,(b0_2,(b0_3,(b0_4,(b0_5,(b0_6,(b0_7,(b0_8,(x1.1,(x0.2.1,())))))))))))))
def nsim_Machine__Set_G (c0:Zaj7) (c1:Zaez) (c2:Zasw) :nsim_Machine__Set_D:=⟨u13 (nsim_Machine__Set_F c0.F c1.F c2.F),pB Tryz.func217 31 (kB c0 (kB c1 (kB c2 k0))) e0 1 (sS l0) fun d=>by kernel_rfl⟩
def nsim_Machine__Set_K:nsim_Machine__Set_D:=nsim_Machine__Set_G Zaj6 Zacy Zaxy 
def nsim_Machine__Set_FF:nsim_Machine__Set_T:=nsim_Machine__Set_K.F
abbrev Zadn:Lay:={ T:=[(0,.fz .bool),(1,.bool),(7,.int .i64),(8,.int .i64)],h:=[],nx:=0 }
abbrev Zad9:List (Ev.Ex×Lay):=[(.ret,{ T:=[(4,.int .i64)],h:=[],nx:=0 }),((.exit 0),{ T:=[],h:=[],nx:=0 })]
abbrev Zapv:=TL Zadn.σs→Option (Out Zad9)
abbrev Zapx:=Ld 0 19 (Zb5 [0] (Zaa Tryz.f218)) Zadn Zad9
def Zacu (t0:List Bool) (t1:Bool) (t7 t8:Int):Option (TL Zadn.σs⊕Out Zad9):=
 br (iL t8 t7)
 (
  chk (inb t8 (List.length t0))<|
  br (@decide _ (Bool.decEq t1 (gt .bool t0 t8)))
  (
   some (.inr (.inl (t8,()))))
  (
   some (.inl (t0,(t1,(t7,((IntKind.wrap .i64 (t8+(1:Int))),())))))))
 (
  some (.inr (.inr ())))
def Zaxn  :Zapx:=mkL (u4 Zacu) (pL k0 e0 1 l0 fun d=>by kernel_rfl)
abbrev Zapu:List Sh:=[(.sl .bool),.bool]
abbrev Zaj3:List Sh:=[(.int .i64)]
abbrev Zajz:=TL Zapu→Option (TL Zaj3)
abbrev Zaew:=Kd 218 Zapu Zaj3
def Zay1 (L2:Zapv) (a0:List Bool) (a1:Bool):Option (TL Zaj3):=
 bnd (L2 (a0,(a1,((Int.ofNat (List.length a0)),((0:Int),()))))) fun x0=>
 (match x0 with
 | .inl x1=>
  some (x1.1,())
 | .inr x1=>
  some ((Int.negSucc 0),())
 )
def Zay0 (M2:Zapx):Zaew:=⟨u2 (Zay1 M2.L),pD Tryz.func218 19 k0 e0 1 (sS (sC M2 l0)) fun d=>by kernel_rfl⟩
def Zak0:Zaew:=Zay0  Zaxn
def Zapw:Zajz:=Zak0.F
abbrev reach_small_σs:List Sh:=[Za5]
abbrev reach_small_τs:List Sh:=[(.int .i64)]
abbrev reach_small_T:=TL reach_small_σs→Option (TL reach_small_τs)
abbrev reach_small_D:=Kd 51 reach_small_σs reach_small_τs
def reach_small_F (F0:expand_Cells_T) (F1:Zaq7) (a0:Sh.T Za5):Option (TL reach_small_τs):=
 bnd (F1 (a0,())) fun x0=>
 br (Bool.not (iQ x0.1 (0:Int)))
 (
  some (x0.1,()))
 (
  br (iL (6:Int) (Int.ofNat (List.length a0.2.1)))
  (
   some ((17:Int),()))
  (
   bnd (F0 (a0,())) fun x1=>
   br (selB false true (iL (10:Int) (IntKind.wrap .i64 (@HAdd.hAdd (Int) (Int) (Int) _ (Int.ofNat (List.length a0.2.2.1)) x1.1))))
   (
    some ((17:Int),()))
   (
    some ((0:Int),()))))
def reach_small_G (c0:expand_Cells_D) (c1:Zamw) :reach_small_D:=⟨u1 (reach_small_F c0.F c1.F),pD Tryz.func51 22 (kD c0 (kD c1 k0)) e0 1 (sS l0) fun d=>by kernel_rfl⟩
def reach_small_K:reach_small_D:=reach_small_G expand_Cells_K Zaq8 
def reach_small_FF:reach_small_T:=reach_small_K.F
abbrev reach_Starts_lay6:Lay:={ T:=[(1,.ptr 0 0),(2,.hd 1 Zab),(5,.ptr 2 0),(26,.int .i64),(27,.int .i64)],h:=[(0,.cells lNet 27),(1,.arr Zab 40),(2,.cells [.int .i64,.fz (.int .i64),.fz Za0,.fz (.int .i64),.fz (.int .i64),.fz (.int .i64),.fz Za1,.fz Za0,.int .i64,.nilm,.nils,.nilp] 100)],nx:=3 }
abbrev reach_Starts_outs6:List (Ev.Ex×Lay):=[((.exit 0),{ T:=[(2,.hd 0 Zab)],h:=[(0,.arr Zab 40)],nx:=1 })]
abbrev reach_Starts_T6:=TL reach_Starts_lay6.σs→Option (Out reach_Starts_outs6)
abbrev reach_Starts_D6:=Ld 0 43 (Zb5 [0] (Zaa Tryz.f15)) reach_Starts_lay6 reach_Starts_outs6
def reach_Starts_B6 (F0:expand_Back_T) (F1:Zb2u) (F2:Zb04) (t26 t27 b0_0:Int) (b0_1:List Int) (b0_2:List (Sh.T Za0)) (b0_3 b0_4 b0_5:List Int) (b0_6:List (Sh.T Za1)) (b0_7:List (Sh.T Za0)) (b1:List (Sh.T Zab)) (b2_0:Int) (b2_1:List Int) (b2_2:List (Sh.T Za0)) (b2_3 b2_4 b2_5:List Int) (b2_6:List (Sh.T Za1)) (b2_7:List (Sh.T Za0)) (b2_8:Int):Option (TL reach_Starts_lay6.σs⊕Out reach_Starts_outs6):=
 br (iL t27 t26)
 (
  bnd (F1 ((IntKind.wrap .u64 t27),(b2_8,()))) fun x0=>
  bnd (F0 ((b2_0,(b2_1,(b2_2,(b2_3,(b2_4,(b2_5,(b2_6,(b2_7,())))))))),((x0.1,([],())),()))) fun x1=>
  chk (iQ x1.2.1 x1.2.1)<|
  bnd (F2 ((b0_0,(b0_1,(b0_2,(b0_3,(b0_4,(b0_5,(b0_6,(b0_7,())))))))),((x1.1.1,(x1.1.2.1,())),()))) fun x2=>
  br (iQ x2.1 (0:Int))
  (
   chk (room 48 (List.length (ap b1 ((x1.1.1,(x1.1.2.1,())) :: []))))<|
   some (.inl (t26,((IntKind.wrap .i64 (t27+(1:Int))),(b0_0,(b0_1,(b0_2,(b0_3,(b0_4,(b0_5,(b0_6,(b0_7,((ap b1 ((x1.1.1,(x1.1.2.1,())) :: [])),(b2_0,(b2_1,(b2_2,(b2_3,(b2_4,(b2_5,(b2_6,(b2_7,(b2_8,()))))))))))))))))))))))
  (
   some (.inl (t26,((IntKind.wrap .i64 (t27+(1:Int))),(b0_0,(b0_1,(b0_2,(b0_3,(b0_4,(b0_5,(b0_6,(b0_7,(b1,(b2_0,(b2_1,(b2_2,(b2_3,(b2_4,(b2_5,(b2_6,(b2_7,(b2_8,())))))))))))))))))))))))
 (
  some (.inr (b1,())))
def reach_Starts_M6 (c0:expand_Back_D) (c1:Zayo) (c2:Zaw9) :reach_Starts_D6:=mkL (u20 (reach_Starts_B6 c0.F c1.F c2.F)) (pL (kD c0 (kD c1 (kD c2 k0))) (eC Tryz.func53 (by kernel_rfl) e0) 5 l0 fun d=>by kernel_rfl)
def reach_Starts_N6:reach_Starts_D6:=reach_Starts_M6 expand_Back_K Zb2v Zb06 
def reach_Starts_L6:reach_Starts_T6:=lpD (u20 (reach_Starts_B6 expand_Back_FF Zaxv Zod)) NN
abbrev reach_Starts_σs:List Sh:=[Za5]
abbrev reach_Starts_τs:List Sh:=[(.sl Zab),(.int .i64)]
abbrev reach_Starts_T:=TL reach_Starts_σs→Option (TL reach_Starts_τs)
abbrev reach_Starts_D:=Kd 15 reach_Starts_σs reach_Starts_τs
def reach_Starts_F (F0:expand_Back_T) (F1:Zb2u) (F2:Zb04) (F3:expand_Cells_T) (F4:reach_small_T) (L6:reach_Starts_T6) (a0:Sh.T Za5):Option (TL reach_Starts_τs):=
 bnd (F4 (a0,())) fun x0=>
 br (Bool.not (iQ x0.1 (0:Int)))
 (
  some ([],(x0.1,())))
 (
  bnd (F3 (a0,())) fun x1=>
  chk (iE (0:Int) (IntKind.wrap .i64 (@HAdd.hAdd (Int) (Int) (Int) _ (Int.ofNat (List.length a0.2.2.1)) x1.1)))<|
  bnd (L6 ((IntKind.wrap .i64 ((1:Int)*(HPow.hPow (2:Int) (Min.min (Int.toNat (IntKind.wrap .i64 (@HAdd.hAdd (Int) (Int) (Int) _ (Int.ofNat (List.length a0.2.2.1)) x1.1))) 64)))),((0:Int),(a0.1,(a0.2.1,(a0.2.2.1,(a0.2.2.2.1,(a0.2.2.2.2.1,(a0.2.2.2.2.2.1,(a0.2.2.2.2.2.2.1,(a0.2.2.2.2.2.2.2.1,([],(a0.1,(a0.2.1,(a0.2.2.1,(a0.2.2.2.1,(a0.2.2.2.2.1,(a0.2.2.2.2.2.1,(a0.2.2.2.2.2.2.1,(a0.2.2.2.2.2.2.2.1,((IntKind.wrap .i64 (@HAdd.hAdd (Int) (Int) (Int) _ (Int.ofNat (List.length a0.2.2.1)) x1.1)),()))))))))))))))))))))) fun x2=>
  some (x2.1,((0:Int),())))
def reach_Starts_G (c0:expand_Back_D) (c1:Zayo) (c2:Zaw9) (c3:expand_Cells_D) (c4:reach_small_D) (M6:reach_Starts_D6):reach_Starts_D:=⟨u1 (reach_Starts_F c0.F c1.F c2.F c3.F c4.F M6.L),pD Tryz.func15 43 (kD c0 (kD c1 (kD c2 (kD c3 (kD c4 k0))))) (eC Tryz.func53 (by kernel_rfl) e0) 5 (sS (sC M6 l0)) fun d=>by kernel_rfl⟩
def reach_Starts_K:reach_Starts_D:=reach_Starts_G expand_Back_K Zb2v Zb06 expand_Cells_K reach_small_K reach_Starts_N6
def reach_Starts_FF:reach_Starts_T:=reach_Starts_K.F
abbrev reach_begin_lay:Lay:={ T:=[(0,.agg lNet)],h:=[],nx:=0 }
abbrev yRe0:List (Nat×LO):=[(0,.cells [.int .i64,.fz (.int .i64),.fz Za0,.fz (.int .i64),.fz (.int .i64),.fz (.int .i64),.fz Za1,.fz Za0,.int .i64,.mp 1,.hd 2 (.int .i64),.ptr 3 0] 100),(1,.map .i64 sreach_step),(2,.arr (.int .i64) 3),(3,.cells [.int .i64,.fz (.int .i64),.fz Za0,.fz (.int .i64),.fz (.int .i64),.fz (.int .i64),.fz Za1,.fz Za0,.fz Za4,.hd 4 .bool,.rhd 5] 145),(4,.arr .bool 4),(5,.rams 220)]
abbrev yRe1:List (Nat×LO):=[(0,.cells [.int .i64,.fz (.int .i64),.fz Za0,.fz (.int .i64),.fz (.int .i64),.fz (.int .i64),.fz Za1,.fz Za0,.int .i64,.mp 1,.hd 2 (.int .i64),.ptr 3 0] 100),(1,.map .i64 sreach_step),(2,.arr (.int .i64) 3),(3,.cells [.int .i64,.fz (.int .i64),.fz Za0,.fz (.int .i64),.fz (.int .i64),.fz (.int .i64),.fz Za1,.fz Za0,.fz Za4,.hd 6 .bool,.rhd 7] 145),(6,.arr .bool 4),(7,.rams 220),(8,.cells [.int .i64,.int .i64] 108),(9,.arr (.int .i64) 3)]
abbrev yRe2:List (Nat×LO):=[(0,.cells [.int .i64,.fz (.int .i64),.fz Za0,.fz (.int .i64),.fz (.int .i64),.fz (.int .i64),.fz Za1,.fz Za0,.int .i64,.mp 1,.hd 6 (.int .i64),.ptr 3 0] 100),(1,.map .i64 sreach_step),(3,.cells [.int .i64,.fz (.int .i64),.fz Za0,.fz (.int .i64),.fz (.int .i64),.fz (.int .i64),.fz Za1,.fz Za0,.fz Za4,.hd 7 .bool,.rhd 8] 145),(6,.arr (.int .i64) 3),(7,.arr .bool 4),(8,.rams 220),(9,.cells [.int .i64,.int .i64] 108)]
abbrev yRe3:Lay:={ T:=[(2,.ptr 8 0),(3,.int .i64),(4,.bool)],h:=[(0,.cells [.int .i64,.fz (.int .i64),.fz Za0,.fz (.int .i64),.fz (.int .i64),.fz (.int .i64),.fz Za1,.fz Za0,.int .i64,.mp 1,.hd 2 (.int .i64),.ptr 3 0] 100),(1,.map .i64 sreach_step),(2,.arr (.int .i64) 3),(3,.cells [.int .i64,.fz (.int .i64),.fz Za0,.fz (.int .i64),.fz (.int .i64),.fz (.int .i64),.fz Za1,.fz Za0,.fz Za4,.hd 6 .bool,.rhd 7] 145),(6,.arr .bool 4),(7,.rams 220),(8,.cells [.int .i64,.int .i64] 108)],nx:=9 }
abbrev yRe4:List (Nat×LO):=[(0,.cells [.int .i64,.fz (.int .i64),.fz Za0,.fz (.int .i64),.fz (.int .i64),.fz (.int .i64),.fz Za1,.fz Za0,.int .i64,.mp 1,.hd 6 (.int .i64),.ptr 3 0] 100),(1,.map .i64 sreach_step),(3,.cells [.int .i64,.fz (.int .i64),.fz Za0,.fz (.int .i64),.fz (.int .i64),.fz (.int .i64),.fz Za1,.fz Za0,.fz Za4,.hd 7 .bool,.rhd 8] 145),(6,.arr (.int .i64) 3),(7,.arr .bool 4),(8,.rams 220)]
abbrev yRe5:Lay:={ T:=[(0,.ptr 0 0),(2,.ptr 8 0),(5,.hd 9 (.int .i64)),(6,.func 187 [.ptr 0 0] []),(20,.hd 2 (.int .i64)),(21,.int .i64),(22,.int .i64)],h:=yRe1,nx:=10 }
abbrev yRe6:List (Nat×LO):=[(0,.cells lNet 27),(1,.arr .bool 4),(2,.arr .bool 4)]
abbrev yRe7:List (Nat×LO):=[(0,.arr .bool 4),(1,.cells lNet 27),(2,.cells [.fz .bool,.fz (.sl Za3)] 40)]
abbrev reach_begin_outs:List (Ev.Ex×Lay):=[(.ret,{ T:=[(0,.nilp),(1,.int .i64)],h:=[],nx:=0 }),(.ret,{ T:=[(0,.ptr 0 0),(1,.int .i64)],h:=yRe0,nx:=6 })]
abbrev reach_begin_T:=TL reach_begin_lay.σs→Option (Out reach_begin_outs)
abbrev reach_begin_D:=Kb 59 1 reach_begin_lay 2 reach_begin_outs
abbrev reach_begin_lay7:Lay:={ T:=[(5,.int .i64),(6,.ptr 0 0),(38,.fz Zab),(39,.int .i64),(40,.int .i64)],h:=yRe0,nx:=6 }
abbrev reach_begin_outs7:List (Ev.Ex×Lay):=[((.exit 0),{ T:=[(5,.int .i64),(6,.ptr 0 0)],h:=yRe0,nx:=6 })]
abbrev reach_begin_T7:=TL reach_begin_lay7.σs→Option (Out reach_begin_outs7)
abbrev reach_begin_D7:=Ld 0 66 (Zb5 [0] (Zaa Tryz.f59)) reach_begin_lay7 reach_begin_outs7
def reach_begin_B7 (F0:bits_Word_T) (F4:expand_State_T) (t5:Int) (t38:List (Sh.T Zab)) (t39 t40 b0_0:Int) (b0_1:List Int) (b0_2:List (Sh.T Za0)) (b0_3 b0_4 b0_5:List Int) (b0_6:List (Sh.T Za1)) (b0_7:List (Sh.T Za0)) (b0_8:Int) (b1:List (Sh.T (.agg [(.int .i64),sreach_step]))) (b2:List Int) (b3_0:Int) (b3_1:List Int) (b3_2:List (Sh.T Za0)) (b3_3 b3_4 b3_5:List Int) (b3_6:List (Sh.T Za1)) (b3_7:List (Sh.T Za0)) (b3_8:List (Sh.T Za4)) (b4:List Bool) (b5:List (Sh.T (.agg [(.int .i64),(.int .i64),(.sl Za3)]))):Option (TL reach_begin_lay7.σs⊕Out reach_begin_outs7):=
 br (iL t40 t39)
 (
  chk (inb t40 (List.length t38))<|
  bnd (F4 (b0_0,(b0_1,(b0_2,(b0_3,(b0_4,(b0_5,(b0_6,(b0_7,((gt Zab t38 t40).1,((gt Zab t38 t40).2.1,()))))))))))) fun x0=>
  chk (iQ x0.1 x0.1)<|
  bnd (F0 (x0.2.1,())) fun x1=>
  chk (room 8 (List.length (ap b2 ((IntKind.wrap .i64 x1.1) :: []))))<|
  some (.inl (t5,(t38,(t39,((IntKind.wrap .i64 (t40+(1:Int))),(b0_0,(b0_1,(b0_2,(b0_3,(b0_4,(b0_5,(b0_6,(b0_7,(b0_8,((@mput sreach_step (IntKind.wrap .i64 x1.1) ((Int.negSucc 0),((0:Int),())) b1),((ap b2 ((IntKind.wrap .i64 x1.1) :: [])),(b3_0,(b3_1,(b3_2,(b3_3,(b3_4,(b3_5,(b3_6,(b3_7,(b3_8,(b4,(b5,()))))))))))))))))))))))))))))
 (
  some (.inr (t5,(b0_0,(b0_1,(b0_2,(b0_3,(b0_4,(b0_5,(b0_6,(b0_7,(b0_8,(b1,(b2,(b3_0,(b3_1,(b3_2,(b3_3,(b3_4,(b3_5,(b3_6,(b3_7,(b3_8,(b4,(b5,())))))))))))))))))))))))))
def reach_begin_M7 (c0:bits_Word_D) (c4:expand_State_D) :reach_begin_D7:=mkL (fun d=>reach_begin_B7 c0.F c4.F  d.1 d.2.1 d.2.2.1 d.2.2.2.1 d.2.2.2.2.1 d.2.2.2.2.2.1 d.2.2.2.2.2.2.1 d.2.2.2.2.2.2.2.1 d.2.2.2.2.2.2.2.2.1 d.2.2.2.2.2.2.2.2.2.1 d.2.2.2.2.2.2.2.2.2.2.1 d.2.2.2.2.2.2.2.2.2.2.2.1 d.2.2.2.2.2.2.2.2.2.2.2.2.1 d.2.2.2.2.2.2.2.2.2.2.2.2.2.1 d.2.2.2.2.2.2.2.2.2.2.2.2.2.2.1 d.2.2.2.2.2.2.2.2.2.2.2.2.2.2.2.1 d.2.2.2.2.2.2.2.2.2.2.2.2.2.2.2.2.1 d.2.2.2.2.2.2.2.2.2.2.2.2.2.2.2.2.2.1 d.2.2.2.2.2.2.2.2.2.2.2.2.2.2.2.2.2.2.1 d.2.2.2.2.2.2.2.2.2.2.2.2.2.2.2.2.2.2.2.1 d.2.2.2.2.2.2.2.2.2.2.2.2.2.2.2.2.2.2.2.2.1 d.2.2.2.2.2.2.2.2.2.2.2.2.2.2.2.2.2.2.2.2.2.1 d.2.2.2.2.2.2.2.2.2.2.2.2.2.2.2.2.2.2.2.2.2.2.1 d.2.2.2.2.2.2.2.2.2.2.2.2.2.2.2.2.2.2.2.2.2.2.2.1 d.2.2.2.2.2.2.2.2.2.2.2.2.2.2.2.2.2.2.2.2.2.2.2.2.1 d.2.2.2.2.2.2.2.2.2.2.2.2.2.2.2.2.2.2.2.2.2.2.2.2.2.1) (pL (kD c0 (kB c4 k0)) (eC Tryz.func118 (by kernel_rfl) e0) 5 l0 fun d=>by kernel_rfl)
def reach_begin_N7:reach_begin_D7:=reach_begin_M7 bits_Word_K expand_State_K 
def reach_begin_L7:reach_begin_T7:=lpD (fun d=>reach_begin_B7 bits_Word_FF expand_State_FF  d.1 d.2.1 d.2.2.1 d.2.2.2.1 d.2.2.2.2.1 d.2.2.2.2.2.1 d.2.2.2.2.2.2.1 d.2.2.2.2.2.2.2.1 d.2.2.2.2.2.2.2.2.1 d.2.2.2.2.2.2.2.2.2.1 d.2.2.2.2.2.2.2.2.2.2.1 d.2.2.2.2.2.2.2.2.2.2.2.1 d.2.2.2.2.2.2.2.2.2.2.2.2.1 d.2.2.2.2.2.2.2.2.2.2.2.2.2.1 d.2.2.2.2.2.2.2.2.2.2.2.2.2.2.1 d.2.2.2.2.2.2.2.2.2.2.2.2.2.2.2.1 d.2.2.2.2.2.2.2.2.2.2.2.2.2.2.2.2.1 d.2.2.2.2.2.2.2.2.2.2.2.2.2.2.2.2.2.1 d.2.2.2.2.2.2.2.2.2.2.2.2.2.2.2.2.2.2.1 d.2.2.2.2.2.2.2.2.2.2.2.2.2.2.2.2.2.2.2.1 d.2.2.2.2.2.2.2.2.2.2.2.2.2.2.2.2.2.2.2.2.1 d.2.2.2.2.2.2.2.2.2.2.2.2.2.2.2.2.2.2.2.2.2.1 d.2.2.2.2.2.2.2.2.2.2.2.2.2.2.2.2.2.2.2.2.2.2.1 d.2.2.2.2.2.2.2.2.2.2.2.2.2.2.2.2.2.2.2.2.2.2.2.1 d.2.2.2.2.2.2.2.2.2.2.2.2.2.2.2.2.2.2.2.2.2.2.2.2.1 d.2.2.2.2.2.2.2.2.2.2.2.2.2.2.2.2.2.2.2.2.2.2.2.2.2.1) NN
def reach_begin_F (F0:bits_Word_T) (F1:Zb4w) (F2:expand_Cells_T) (F3:reach_Starts_T) (F4:expand_State_T) (F5:Zb7x) (L7:reach_begin_T7) (t0_0:Int) (t0_1:List Int) (t0_2:List (Sh.T Za0)) (t0_3 t0_4 t0_5:List Int) (t0_6:List (Sh.T Za1)) (t0_7:List (Sh.T Za0)):Option (Out reach_begin_outs):=
 bnd (F3 ((t0_0,(t0_1,(t0_2,(t0_3,(t0_4,(t0_5,(t0_6,(t0_7,())))))))),())) fun x0=>
 br (Bool.not (iQ x0.2.1 (0:Int)))
 (
  some (.inl (x0.2.1,())))
 (
  bnd (F2 ((t0_0,(t0_1,(t0_2,(t0_3,(t0_4,(t0_5,(t0_6,(t0_7,())))))))),())) fun x1=>
  bnd (F1 ((t0_0,(t0_1,(t0_2,(t0_3,(t0_4,(t0_5,(t0_6,(t0_7,())))))))),())) fun x2=>
  bnd (F5 (t0_0,(t0_1,(t0_2,(t0_3,(t0_4,(t0_5,(t0_6,(t0_7,(x2.1.1,(x2.1.2.1,()))))))))))) fun x3=>
  (match x3 with
  | .inl x4=>
   chk (iQ x4.1 x4.1)<|
   none
  | .inr x4=>
   chk (iQ x4.1 x4.1)<|
   bnd (L7 (x4.1,(x0.1,((Int.ofNat (List.length x0.1)),((0:Int),(t0_0,(t0_1,(t0_2,(t0_3,(t0_4,(t0_5,(t0_6,(t0_7,((IntKind.wrap .i64 (@HAdd.hAdd (Int) (Int) (Int) _ (Int.ofNat (List.length t0_2)) x1.1)),([],([],x4.2)))))))))))))))) fun x5=>
   some (.inr x5)
  ))
def reach_begin_G (c0:bits_Word_D) (c1:Zaz5) (c2:expand_Cells_D) (c3:reach_Starts_D) (c4:expand_State_D) (c5:Zb5x) (M7:reach_begin_D7):reach_begin_D:=⟨u8 (reach_begin_F c0.F c1.F c2.F c3.F c4.F c5.F M7.L),pB Tryz.func59 66 (kD c0 (kD c1 (kD c2 (kD c3 (kB c4 (kB c5 k0)))))) (eC Tryz.func118 (by kernel_rfl) e0) 5 (sS (sC M7 l0)) fun d=>by kernel_rfl⟩
def reach_begin_K:reach_begin_D:=reach_begin_G bits_Word_K Zb4x expand_Cells_K reach_Starts_K expand_State_K Zb7y reach_begin_N7
def reach_begin_FF:reach_begin_T:=reach_begin_K.F
abbrev nreach_search__round_lay:Lay:={ T:=[(0,.ptr 0 0)],h:=yRe0,nx:=6 }
abbrev nreach_search__round_outs:List (Ev.Ex×Lay):=[(.ret,{ T:=[(0,.agg [.int .i64,.int .i64]),(1,.int .i64),(2,.bool)],h:=yRe4,nx:=9 })]
abbrev nreach_search__round_T:=TL nreach_search__round_lay.σs→Option (Out nreach_search__round_outs)
abbrev nreach_search__round_D:=Kb 119 1 nreach_search__round_lay 3 nreach_search__round_outs
abbrev nreach_search__round_lay4:Lay:=yRe5
abbrev nreach_search__round_outs4:List (Ev.Ex×Lay):=[(.ret,yRe3),((.exit 0),{ T:=[(0,.ptr 0 0),(2,.ptr 8 0),(5,.hd 9 (.int .i64))],h:=yRe1,nx:=10 })]
abbrev nreach_search__round_T4:=TL nreach_search__round_lay4.σs→Option (Out nreach_search__round_outs4)
abbrev nreach_search__round_D4:=Ld 6 84 (Zb5 [0] (Zaa Tryz.f119)) nreach_search__round_lay4 nreach_search__round_outs4
abbrev nreach_search__round_lay7:Lay:={ T:=[(0,.ptr 0 0),(2,.ptr 8 0),(5,.hd 9 (.int .i64)),(6,.func 187 [.ptr 0 0] []),(8,.int .i64),(20,.hd 2 (.int .i64)),(21,.int .i64),(22,.int .i64),(32,.int .i64),(33,.int .i64)],h:=yRe1,nx:=10 }
abbrev nreach_search__round_outs7:List (Ev.Ex×Lay):=[(.ret,yRe3),((.exit 2),yRe5)]
abbrev nreach_search__round_T7:=TL nreach_search__round_lay7.σs→Option (Out nreach_search__round_outs7)
abbrev nreach_search__round_D7:=Ld 6 84 (Zb5 [0,0] (Zaa Tryz.f119)) nreach_search__round_lay7 nreach_search__round_outs7
def nreach_search__round_B7 (F0:bits_Word_T) (F1:expand_Back_T) (F2:Zajz) (F3:Zb2u) (F4:expand_State_T) (F5:nsim_Machine__State_T) (F6:Zar1) (F7:nsim_Machine__Set_T) (t8 t21 t22 t32 t33 b0_0:Int) (b0_1:List Int) (b0_2:List (Sh.T Za0)) (b0_3 b0_4 b0_5:List Int) (b0_6:List (Sh.T Za1)) (b0_7:List (Sh.T Za0)) (b0_8:Int) (b1:List (Sh.T (.agg [(.int .i64),sreach_step]))) (b2:List Int) (b3_0:Int) (b3_1:List Int) (b3_2:List (Sh.T Za0)) (b3_3 b3_4 b3_5:List Int) (b3_6:List (Sh.T Za1)) (b3_7:List (Sh.T Za0)) (b3_8:List (Sh.T Za4)) (b6:List Bool) (b7:List (Sh.T (.agg [(.int .i64),(.int .i64),(.sl Za3)]))) (b8_0 b8_1:Int) (b9:List Int):Option (TL nreach_search__round_lay7.σs⊕Out nreach_search__round_outs7):=
 br (iL t33 t32)
 (
  bnd (F3 ((IntKind.wrap .u64 t8),(b0_8,()))) fun x0=>
  bnd (F1 ((b0_0,(b0_1,(b0_2,(b0_3,(b0_4,(b0_5,(b0_6,(b0_7,())))))))),((x0.1,([],())),()))) fun x1=>
  chk (iQ x1.2.1 x1.2.1)<|
  bnd (F7 (x1.1.1,(x1.1.2.1,(b3_0,(b3_1,(b3_2,(b3_3,(b3_4,(b3_5,(b3_6,(b3_7,(b3_8,(b6,(b7,())))))))))))))) fun x2=>
  bnd (F3 ((IntKind.wrap .u64 t33),((Int.ofNat (List.length b0_1)),()))) fun x3=>
  bnd (F6 (x3.1,x2.2)) fun x4=>
  chk (iQ x4.2.1 x4.2.1)<|
  bnd (F5 (x4.2.2.1,(x4.2.2.2.1,(x4.2.2.2.2.1,(x4.2.2.2.2.2.1,(x4.2.2.2.2.2.2.1,(x4.2.2.2.2.2.2.2.1,(x4.2.2.2.2.2.2.2.2.1,(x4.2.2.2.2.2.2.2.2.2.1,(x4.2.2.2.2.2.2.2.2.2.2.1,(x4.2.2.2.2.2.2.2.2.2.2.2.1,(x4.2.2.2.2.2.2.2.2.2.2.2.2.1,())))))))))))) fun x5=>
  chk (bQ x4.1 x4.1)<|
  bnd (F4 (b0_0,(b0_1,(b0_2,(b0_3,(b0_4,(b0_5,(b0_6,(b0_7,x5.2.2.2.2.2.2.2.2.2.2.2))))))))) fun x6=>
  chk (iQ x6.1 x6.1)<|
  bnd (F0 (x6.2.1,())) fun x7=>
  chk (bQ x4.1 x4.1)<|
  bnd (F2 (x4.2.2.2.2.2.2.2.2.2.2.2.2.2.1,(true,()))) fun x8=>
  br (Bool.not x4.1)
  (
   some (.inl (t8,(t21,(t22,(t32,((IntKind.wrap .i64 (t33+(1:Int))),(b0_0,(b0_1,(b0_2,(b0_3,(b0_4,(b0_5,(b0_6,(b0_7,(b0_8,(b1,(b2,(x5.1,(x5.2.1,(x5.2.2.1,(x5.2.2.2.1,(x5.2.2.2.2.1,(x5.2.2.2.2.2.1,(x5.2.2.2.2.2.2.1,(x5.2.2.2.2.2.2.2.1,(x5.2.2.2.2.2.2.2.2.1,(x5.2.2.2.2.2.2.2.2.2.1,(x5.2.2.2.2.2.2.2.2.2.2.1,(b8_0,(b8_1,(b9,()))))))))))))))))))))))))))))))))
  (
   br (iE (0:Int) x8.1)
   (
    some (.inr (.inl (x8.1,(true,(b0_0,(b0_1,(b0_2,(b0_3,(b0_4,(b0_5,(b0_6,(b0_7,(b0_8,(b1,(b2,(x5.1,(x5.2.1,(x5.2.2.1,(x5.2.2.2.1,(x5.2.2.2.2.1,(x5.2.2.2.2.2.1,(x5.2.2.2.2.2.2.1,(x5.2.2.2.2.2.2.2.1,(x5.2.2.2.2.2.2.2.2.1,(x5.2.2.2.2.2.2.2.2.2.1,(x5.2.2.2.2.2.2.2.2.2.2.1,(t8,(t33,())))))))))))))))))))))))))))))
   (
    br (Bool.not (@mhas sreach_step b1 (IntKind.wrap .i64 x7.1)))
    (
     chk (room 8 (List.length (ap b9 ((IntKind.wrap .i64 x7.1) :: []))))<|
     some (.inl (t8,(t21,(t22,(t32,((IntKind.wrap .i64 (t33+(1:Int))),(b0_0,(b0_1,(b0_2,(b0_3,(b0_4,(b0_5,(b0_6,(b0_7,(b0_8,((@mput sreach_step (IntKind.wrap .i64 x7.1) (t8,(t33,())) b1),(b2,(x5.1,(x5.2.1,(x5.2.2.1,(x5.2.2.2.1,(x5.2.2.2.2.1,(x5.2.2.2.2.2.1,(x5.2.2.2.2.2.2.1,(x5.2.2.2.2.2.2.2.1,(x5.2.2.2.2.2.2.2.2.1,(x5.2.2.2.2.2.2.2.2.2.1,(x5.2.2.2.2.2.2.2.2.2.2.1,(b8_0,(b8_1,((ap b9 ((IntKind.wrap .i64 x7.1) :: [])),()))))))))))))))))))))))))))))))))
    (
     some (.inl (t8,(t21,(t22,(t32,((IntKind.wrap .i64 (t33+(1:Int))),(b0_0,(b0_1,(b0_2,(b0_3,(b0_4,(b0_5,(b0_6,(b0_7,(b0_8,(b1,(b2,(x5.1,(x5.2.1,(x5.2.2.1,(x5.2.2.2.1,(x5.2.2.2.2.1,(x5.2.2.2.2.2.1,(x5.2.2.2.2.2.2.1,(x5.2.2.2.2.2.2.2.1,(x5.2.2.2.2.2.2.2.2.1,(x5.2.2.2.2.2.2.2.2.2.1,(x5.2.2.2.2.2.2.2.2.2.2.1,(b8_0,(b8_1,(b9,())))))))))))))))))))))))))))))))))))
 (
  some (.inr (.inr (t21,(t22,(b0_0,(b0_1,(b0_2,(b0_3,(b0_4,(b0_5,(b0_6,(b0_7,(b0_8,(b1,(b2,(b3_0,(b3_1,(b3_2,(b3_3,(b3_4,(b3_5,(b3_6,(b3_7,(b3_8,(b6,(b7,(b8_0,(b8_1,(b9,()))))))))))))))))))))))))))))))
def nreach_search__round_M7 (c0:bits_Word_D) (c1:expand_Back_D) (c2:Zaew) (c3:Zayo) (c4:expand_State_D) (c5:nsim_Machine__State_D) (c6:Zaln) (c7:nsim_Machine__Set_D) :nreach_search__round_D7:=mkL (fun d=>nreach_search__round_B7 c0.F c1.F c2.F c3.F c4.F c5.F c6.F c7.F  d.1 d.2.1 d.2.2.1 d.2.2.2.1 d.2.2.2.2.1 d.2.2.2.2.2.1 d.2.2.2.2.2.2.1 d.2.2.2.2.2.2.2.1 d.2.2.2.2.2.2.2.2.1 d.2.2.2.2.2.2.2.2.2.1 d.2.2.2.2.2.2.2.2.2.2.1 d.2.2.2.2.2.2.2.2.2.2.2.1 d.2.2.2.2.2.2.2.2.2.2.2.2.1 d.2.2.2.2.2.2.2.2.2.2.2.2.2.1 d.2.2.2.2.2.2.2.2.2.2.2.2.2.2.1 d.2.2.2.2.2.2.2.2.2.2.2.2.2.2.2.1 d.2.2.2.2.2.2.2.2.2.2.2.2.2.2.2.2.1 d.2.2.2.2.2.2.2.2.2.2.2.2.2.2.2.2.2.1 d.2.2.2.2.2.2.2.2.2.2.2.2.2.2.2.2.2.2.1 d.2.2.2.2.2.2.2.2.2.2.2.2.2.2.2.2.2.2.2.1 d.2.2.2.2.2.2.2.2.2.2.2.2.2.2.2.2.2.2.2.2.1 d.2.2.2.2.2.2.2.2.2.2.2.2.2.2.2.2.2.2.2.2.2.1 d.2.2.2.2.2.2.2.2.2.2.2.2.2.2.2.2.2.2.2.2.2.2.1 d.2.2.2.2.2.2.2.2.2.2.2.2.2.2.2.2.2.2.2.2.2.2.2.1 d.2.2.2.2.2.2.2.2.2.2.2.2.2.2.2.2.2.2.2.2.2.2.2.2.1 d.2.2.2.2.2.2.2.2.2.2.2.2.2.2.2.2.2.2.2.2.2.2.2.2.2.1 d.2.2.2.2.2.2.2.2.2.2.2.2.2.2.2.2.2.2.2.2.2.2.2.2.2.2.1 d.2.2.2.2.2.2.2.2.2.2.2.2.2.2.2.2.2.2.2.2.2.2.2.2.2.2.2.1 d.2.2.2.2.2.2.2.2.2.2.2.2.2.2.2.2.2.2.2.2.2.2.2.2.2.2.2.2.1 d.2.2.2.2.2.2.2.2.2.2.2.2.2.2.2.2.2.2.2.2.2.2.2.2.2.2.2.2.2.1) (pL (kD c0 (kD c1 (kD c2 (kD c3 (kB c4 (kB c5 (kB c6 (kB c7 k0)))))))) (eC Tryz.func118 (by kernel_rfl) (eC Tryz.func53 (by kernel_rfl) (eC Tryz.func187 (by kernel_rfl) e0))) 5 l0 fun d=>by kernel_rfl)
def nreach_search__round_N7:nreach_search__round_D7:=nreach_search__round_M7 bits_Word_K expand_Back_K Zak0 Zb2v expand_State_K nsim_Machine__State_K Zar2 nsim_Machine__Set_K 
def nreach_search__round_L7:nreach_search__round_T7:=lpD (fun d=>nreach_search__round_B7 bits_Word_FF expand_Back_FF Zapw Zaxv expand_State_FF nsim_Machine__State_FF Zaak nsim_Machine__Set_FF  d.1 d.2.1 d.2.2.1 d.2.2.2.1 d.2.2.2.2.1 d.2.2.2.2.2.1 d.2.2.2.2.2.2.1 d.2.2.2.2.2.2.2.1 d.2.2.2.2.2.2.2.2.1 d.2.2.2.2.2.2.2.2.2.1 d.2.2.2.2.2.2.2.2.2.2.1 d.2.2.2.2.2.2.2.2.2.2.2.1 d.2.2.2.2.2.2.2.2.2.2.2.2.1 d.2.2.2.2.2.2.2.2.2.2.2.2.2.1 d.2.2.2.2.2.2.2.2.2.2.2.2.2.2.1 d.2.2.2.2.2.2.2.2.2.2.2.2.2.2.2.1 d.2.2.2.2.2.2.2.2.2.2.2.2.2.2.2.2.1 d.2.2.2.2.2.2.2.2.2.2.2.2.2.2.2.2.2.1 d.2.2.2.2.2.2.2.2.2.2.2.2.2.2.2.2.2.2.1 d.2.2.2.2.2.2.2.2.2.2.2.2.2.2.2.2.2.2.2.1 d.2.2.2.2.2.2.2.2.2.2.2.2.2.2.2.2.2.2.2.2.1 d.2.2.2.2.2.2.2.2.2.2.2.2.2.2.2.2.2.2.2.2.2.1 d.2.2.2.2.2.2.2.2.2.2.2.2.2.2.2.2.2.2.2.2.2.2.1 d.2.2.2.2.2.2.2.2.2.2.2.2.2.2.2.2.2.2.2.2.2.2.2.1 d.2.2.2.2.2.2.2.2.2.2.2.2.2.2.2.2.2.2.2.2.2.2.2.2.1 d.2.2.2.2.2.2.2.2.2.2.2.2.2.2.2.2.2.2.2.2.2.2.2.2.2.1 d.2.2.2.2.2.2.2.2.2.2.2.2.2.2.2.2.2.2.2.2.2.2.2.2.2.2.1 d.2.2.2.2.2.2.2.2.2.2.2.2.2.2.2.2.2.2.2.2.2.2.2.2.2.2.2.1 d.2.2.2.2.2.2.2.2.2.2.2.2.2.2.2.2.2.2.2.2.2.2.2.2.2.2.2.2.1 d.2.2.2.2.2.2.2.2.2.2.2.2.2.2.2.2.2.2.2.2.2.2.2.2.2.2.2.2.2.1) NN
def nreach_search__round_B4 (L7:nreach_search__round_T7) (t21 t22 b0_0:Int) (b0_1:List Int) (b0_2:List (Sh.T Za0)) (b0_3 b0_4 b0_5:List Int) (b0_6:List (Sh.T Za1)) (b0_7:List (Sh.T Za0)) (b0_8:Int) (b1:List (Sh.T (.agg [(.int .i64),sreach_step]))) (b2:List Int) (b3_0:Int) (b3_1:List Int) (b3_2:List (Sh.T Za0)) (b3_3 b3_4 b3_5:List Int) (b3_6:List (Sh.T Za1)) (b3_7:List (Sh.T Za0)) (b3_8:List (Sh.T Za4)) (b6:List Bool) (b7:List (Sh.T (.agg [(.int .i64),(.int .i64),(.sl Za3)]))) (b8_0 b8_1:Int) (b9:List Int):Option (TL nreach_search__round_lay4.σs⊕Out nreach_search__round_outs4):=
 br (iL t22 t21)
 (
  chk (inb t22 (List.length b2))<|
  bnd (L7 ((gt (.int .i64) b2 t22),(t21,(t22,((IntKind.wrap .i64 ((1:Int)*(HPow.hPow (2:Int) (Min.min (Int.toNat (Int.ofNat (List.length b0_1))) 64)))),((0:Int),(b0_0,(b0_1,(b0_2,(b0_3,(b0_4,(b0_5,(b0_6,(b0_7,(b0_8,(b1,(b2,(b3_0,(b3_1,(b3_2,(b3_3,(b3_4,(b3_5,(b3_6,(b3_7,(b3_8,(b6,(b7,(b8_0,(b8_1,(b9,()))))))))))))))))))))))))))))))) fun x0=>
  (match x0 with
  | .inl x1=>
   some (.inr (.inl x1))
  | .inr x1=>
   some (.inl (x1.1,((IntKind.wrap .i64 (@HAdd.hAdd (Int) (Int) (Int) _ x1.2.1 (1:Int))),x1.2.2)))
  ))
 (
  some (.inr (.inr (b0_0,(b0_1,(b0_2,(b0_3,(b0_4,(b0_5,(b0_6,(b0_7,(b0_8,(b1,(b2,(b3_0,(b3_1,(b3_2,(b3_3,(b3_4,(b3_5,(b3_6,(b3_7,(b3_8,(b6,(b7,(b8_0,(b8_1,(b9,()))))))))))))))))))))))))))))
def nreach_search__round_M4 (M7:nreach_search__round_D7):nreach_search__round_D4:=mkL (fun d=>nreach_search__round_B4  M7.L d.1 d.2.1 d.2.2.1 d.2.2.2.1 d.2.2.2.2.1 d.2.2.2.2.2.1 d.2.2.2.2.2.2.1 d.2.2.2.2.2.2.2.1 d.2.2.2.2.2.2.2.2.1 d.2.2.2.2.2.2.2.2.2.1 d.2.2.2.2.2.2.2.2.2.2.1 d.2.2.2.2.2.2.2.2.2.2.2.1 d.2.2.2.2.2.2.2.2.2.2.2.2.1 d.2.2.2.2.2.2.2.2.2.2.2.2.2.1 d.2.2.2.2.2.2.2.2.2.2.2.2.2.2.1 d.2.2.2.2.2.2.2.2.2.2.2.2.2.2.2.1 d.2.2.2.2.2.2.2.2.2.2.2.2.2.2.2.2.1 d.2.2.2.2.2.2.2.2.2.2.2.2.2.2.2.2.2.1 d.2.2.2.2.2.2.2.2.2.2.2.2.2.2.2.2.2.2.1 d.2.2.2.2.2.2.2.2.2.2.2.2.2.2.2.2.2.2.2.1 d.2.2.2.2.2.2.2.2.2.2.2.2.2.2.2.2.2.2.2.2.1 d.2.2.2.2.2.2.2.2.2.2.2.2.2.2.2.2.2.2.2.2.2.1 d.2.2.2.2.2.2.2.2.2.2.2.2.2.2.2.2.2.2.2.2.2.2.1 d.2.2.2.2.2.2.2.2.2.2.2.2.2.2.2.2.2.2.2.2.2.2.2.1 d.2.2.2.2.2.2.2.2.2.2.2.2.2.2.2.2.2.2.2.2.2.2.2.2.1 d.2.2.2.2.2.2.2.2.2.2.2.2.2.2.2.2.2.2.2.2.2.2.2.2.2.1 d.2.2.2.2.2.2.2.2.2.2.2.2.2.2.2.2.2.2.2.2.2.2.2.2.2.2.1) (pL k0 (eC Tryz.func118 (by kernel_rfl) (eC Tryz.func53 (by kernel_rfl) (eC Tryz.func187 (by kernel_rfl) e0))) 5 (sC M7 l0) fun d=>by kernel_rfl)
def nreach_search__round_N4:nreach_search__round_D4:=nreach_search__round_M4  nreach_search__round_N7
def nreach_search__round_L4:nreach_search__round_T4:=lpD (fun d=>nreach_search__round_B4  nreach_search__round_L7 d.1 d.2.1 d.2.2.1 d.2.2.2.1 d.2.2.2.2.1 d.2.2.2.2.2.1 d.2.2.2.2.2.2.1 d.2.2.2.2.2.2.2.1 d.2.2.2.2.2.2.2.2.1 d.2.2.2.2.2.2.2.2.2.1 d.2.2.2.2.2.2.2.2.2.2.1 d.2.2.2.2.2.2.2.2.2.2.2.1 d.2.2.2.2.2.2.2.2.2.2.2.2.1 d.2.2.2.2.2.2.2.2.2.2.2.2.2.1 d.2.2.2.2.2.2.2.2.2.2.2.2.2.2.1 d.2.2.2.2.2.2.2.2.2.2.2.2.2.2.2.1 d.2.2.2.2.2.2.2.2.2.2.2.2.2.2.2.2.1 d.2.2.2.2.2.2.2.2.2.2.2.2.2.2.2.2.2.1 d.2.2.2.2.2.2.2.2.2.2.2.2.2.2.2.2.2.2.1 d.2.2.2.2.2.2.2.2.2.2.2.2.2.2.2.2.2.2.2.1 d.2.2.2.2.2.2.2.2.2.2.2.2.2.2.2.2.2.2.2.2.1 d.2.2.2.2.2.2.2.2.2.2.2.2.2.2.2.2.2.2.2.2.2.1 d.2.2.2.2.2.2.2.2.2.2.2.2.2.2.2.2.2.2.2.2.2.2.1 d.2.2.2.2.2.2.2.2.2.2.2.2.2.2.2.2.2.2.2.2.2.2.2.1 d.2.2.2.2.2.2.2.2.2.2.2.2.2.2.2.2.2.2.2.2.2.2.2.2.1 d.2.2.2.2.2.2.2.2.2.2.2.2.2.2.2.2.2.2.2.2.2.2.2.2.2.1 d.2.2.2.2.2.2.2.2.2.2.2.2.2.2.2.2.2.2.2.2.2.2.2.2.2.2.1) NN
def nreach_search__round_F (F0:bits_Word_T) (F1:expand_Back_T) (F2:Zajz) (F3:Zb2u) (F4:expand_State_T) (F5:nsim_Machine__State_T) (F6:Zar1) (F7:nsim_Machine__Set_T) (L4:nreach_search__round_T4) (L7:nreach_search__round_T7) (b0_0:Int) (b0_1:List Int) (b0_2:List (Sh.T Za0)) (b0_3 b0_4 b0_5:List Int) (b0_6:List (Sh.T Za1)) (b0_7:List (Sh.T Za0)) (b0_8:Int) (b1:List (Sh.T (.agg [(.int .i64),sreach_step]))) (b2:List Int) (b3_0:Int) (b3_1:List Int) (b3_2:List (Sh.T Za0)) (b3_3 b3_4 b3_5:List Int) (b3_6:List (Sh.T Za1)) (b3_7:List (Sh.T Za0)) (b3_8:List (Sh.T Za4)) (b4:List Bool) (b5:List (Sh.T (.agg [(.int .i64),(.int .i64),(.sl Za3)]))):Option (Out nreach_search__round_outs):=
 bnd (L4 ((Int.ofNat (List.length b2)),((0:Int),(b0_0,(b0_1,(b0_2,(b0_3,(b0_4,(b0_5,(b0_6,(b0_7,(b0_8,(b1,(b2,(b3_0,(b3_1,(b3_2,(b3_3,(b3_4,(b3_5,(b3_6,(b3_7,(b3_8,(b4,(b5,((0:Int),((0:Int),([],())))))))))))))))))))))))))))) fun x0=>
 (match x0 with
 | .inl x1=>
  some (x1.2.2.2.2.2.2.2.2.2.2.2.2.2.2.2.2.2.2.2.2.2.2.2.2.1,(x1.2.2.2.2.2.2.2.2.2.2.2.2.2.2.2.2.2.2.2.2.2.2.2.2.2.1,(x1.1,(x1.2.1,(x1.2.2.1,(x1.2.2.2.1,(x1.2.2.2.2.1,(x1.2.2.2.2.2.1,(x1.2.2.2.2.2.2.1,(x1.2.2.2.2.2.2.2.1,(x1.2.2.2.2.2.2.2.2.1,(x1.2.2.2.2.2.2.2.2.2.1,(x1.2.2.2.2.2.2.2.2.2.2.1,(x1.2.2.2.2.2.2.2.2.2.2.2.1,(x1.2.2.2.2.2.2.2.2.2.2.2.2.2.1,(x1.2.2.2.2.2.2.2.2.2.2.2.2.2.2.1,(x1.2.2.2.2.2.2.2.2.2.2.2.2.2.2.2.1,(x1.2.2.2.2.2.2.2.2.2.2.2.2.2.2.2.2.1,(x1.2.2.2.2.2.2.2.2.2.2.2.2.2.2.2.2.2.1,(x1.2.2.2.2.2.2.2.2.2.2.2.2.2.2.2.2.2.2.1,(x1.2.2.2.2.2.2.2.2.2.2.2.2.2.2.2.2.2.2.2.1,(x1.2.2.2.2.2.2.2.2.2.2.2.2.2.2.2.2.2.2.2.2.1,(x1.2.2.2.2.2.2.2.2.2.2.2.2.2.2.2.2.2.2.2.2.2.1,(x1.2.2.2.2.2.2.2.2.2.2.2.2.1,(x1.2.2.2.2.2.2.2.2.2.2.2.2.2.2.2.2.2.2.2.2.2.2.1,(x1.2.2.2.2.2.2.2.2.2.2.2.2.2.2.2.2.2.2.2.2.2.2.2.1,()))))))))))))))))))))))))))
 | .inr x1=>
  some (x1.2.2.2.2.2.2.2.2.2.2.2.2.2.2.2.2.2.2.2.2.2.2.1,(x1.2.2.2.2.2.2.2.2.2.2.2.2.2.2.2.2.2.2.2.2.2.2.2.1,((0:Int),(false,(x1.1,(x1.2.1,(x1.2.2.1,(x1.2.2.2.1,(x1.2.2.2.2.1,(x1.2.2.2.2.2.1,(x1.2.2.2.2.2.2.1,(x1.2.2.2.2.2.2.2.1,(x1.2.2.2.2.2.2.2.2.1,(x1.2.2.2.2.2.2.2.2.2.1,(x1.2.2.2.2.2.2.2.2.2.2.2.1,(x1.2.2.2.2.2.2.2.2.2.2.2.2.1,(x1.2.2.2.2.2.2.2.2.2.2.2.2.2.1,(x1.2.2.2.2.2.2.2.2.2.2.2.2.2.2.1,(x1.2.2.2.2.2.2.2.2.2.2.2.2.2.2.2.1,(x1.2.2.2.2.2.2.2.2.2.2.2.2.2.2.2.2.1,(x1.2.2.2.2.2.2.2.2.2.2.2.2.2.2.2.2.2.1,(x1.2.2.2.2.2.2.2.2.2.2.2.2.2.2.2.2.2.2.1,(x1.2.2.2.2.2.2.2.2.2.2.2.2.2.2.2.2.2.2.2.1,(x1.2.2.2.2.2.2.2.2.2.2.2.2.2.2.2.2.2.2.2.2.2.2.2.2.1,(x1.2.2.2.2.2.2.2.2.2.2.2.2.2.2.2.2.2.2.2.2.1,(x1.2.2.2.2.2.2.2.2.2.2.2.2.2.2.2.2.2.2.2.2.2.1,()))))))))))))))))))))))))))
 )
def nreach_search__round_G (c0:bits_Word_D) (c1:expand_Back_D) (c2:Zaew) (c3:Zayo) (c4:expand_State_D) (c5:nsim_Machine__State_D) (c6:Zaln) (c7:nsim_Machine__Set_D) (M4:nreach_search__round_D4) (M7:nreach_search__round_D7):nreach_search__round_D:=⟨u22 (nreach_search__round_F c0.F c1.F c2.F c3.F c4.F c5.F c6.F c7.F M4.L M7.L),pB Tryz.func119 84 (kD c0 (kD c1 (kD c2 (kD c3 (kB c4 (kB c5 (kB c6 (kB c7 k0)))))))) (eC Tryz.func118 (by kernel_rfl) (eC Tryz.func53 (by kernel_rfl) (eC Tryz.func187 (by kernel_rfl) e0))) 5 (sS (sC M4 l0)) fun d=>by kernel_rfl⟩
def nreach_search__round_K:nreach_search__round_D:=nreach_search__round_G bits_Word_K expand_Back_K Zak0 Zb2v expand_State_K nsim_Machine__State_K Zar2 nsim_Machine__Set_K nreach_search__round_N4 nreach_search__round_N7
def nreach_search__round_FF:nreach_search__round_T:=nreach_search__round_K.F
abbrev nreach_search__run_lay:Lay:={ T:=[(0,.ptr 0 0),(1,.int .i64)],h:=yRe0,nx:=6 }
abbrev nreach_search__run_outs:List (Ev.Ex×Lay):=[(.ret,{ T:=[(0,.agg [.int .i64,.int .i64]),(1,.int .i64),(2,.int .i64),(3,.int .i64)],h:=yRe4,nx:=9 })]
abbrev nreach_search__run_T:=TL nreach_search__run_lay.σs→Option (Out nreach_search__run_outs)
abbrev nreach_search__run_D:=Kb 60 2 nreach_search__run_lay 4 nreach_search__run_outs
abbrev nreach_search__run_lay2:Lay:={ T:=[(0,.ptr 0 0),(4,.ptr 9 0),(7,.int .i64),(12,.int .i64),(13,.int .i64)],h:=yRe2,nx:=10 }
abbrev nreach_search__run_outs2:List (Ev.Ex×Lay):=[(.ret,{ T:=[(4,.ptr 9 0),(5,.int .i64),(6,.int .i64),(7,.int .i64)],h:=yRe2,nx:=10 }),((.exit 0),{ T:=[(4,.ptr 9 0),(7,.int .i64)],h:=yRe2,nx:=10 })]
abbrev nreach_search__run_T2:=TL nreach_search__run_lay2.σs→Option (Out nreach_search__run_outs2)
abbrev nreach_search__run_D2:=Ld 6 41 (Zb5 [0] (Zaa Tryz.f60)) nreach_search__run_lay2 nreach_search__run_outs2
def nreach_search__run_B2 (F0:nreach_search__round_T) (t7 t12 t13 b0_0:Int) (b0_1:List Int) (b0_2:List (Sh.T Za0)) (b0_3 b0_4 b0_5:List Int) (b0_6:List (Sh.T Za1)) (b0_7:List (Sh.T Za0)) (b0_8:Int) (b1:List (Sh.T (.agg [(.int .i64),sreach_step]))) (b3_0:Int) (b3_1:List Int) (b3_2:List (Sh.T Za0)) (b3_3 b3_4 b3_5:List Int) (b3_6:List (Sh.T Za1)) (b3_7:List (Sh.T Za0)) (b3_8:List (Sh.T Za4)) (b6:List Int) (b7:List Bool) (b8:List (Sh.T (.agg [(.int .i64),(.int .i64),(.sl Za3)]))) (b9_0 b9_1:Int):Option (TL nreach_search__run_lay2.σs⊕Out nreach_search__run_outs2):=
 br (iL t13 t12)
 (
  bnd (F0 (b0_0,(b0_1,(b0_2,(b0_3,(b0_4,(b0_5,(b0_6,(b0_7,(b0_8,(b1,(b6,(b3_0,(b3_1,(b3_2,(b3_3,(b3_4,(b3_5,(b3_6,(b3_7,(b3_8,(b7,(b8,()))))))))))))))))))))))) fun x0=>
  br x0.2.2.2.1
  (
   some (.inr (.inl (x0.2.2.1,((IntKind.wrap .i64 (t13+(1:Int))),((0:Int),(x0.2.2.2.2.1,(x0.2.2.2.2.2.1,(x0.2.2.2.2.2.2.1,(x0.2.2.2.2.2.2.2.1,(x0.2.2.2.2.2.2.2.2.1,(x0.2.2.2.2.2.2.2.2.2.1,(x0.2.2.2.2.2.2.2.2.2.2.1,(x0.2.2.2.2.2.2.2.2.2.2.2.1,(x0.2.2.2.2.2.2.2.2.2.2.2.2.1,(x0.2.2.2.2.2.2.2.2.2.2.2.2.2.1,(x0.2.2.2.2.2.2.2.2.2.2.2.2.2.2.1,(x0.2.2.2.2.2.2.2.2.2.2.2.2.2.2.2.1,(x0.2.2.2.2.2.2.2.2.2.2.2.2.2.2.2.2.1,(x0.2.2.2.2.2.2.2.2.2.2.2.2.2.2.2.2.2.1,(x0.2.2.2.2.2.2.2.2.2.2.2.2.2.2.2.2.2.2.1,(x0.2.2.2.2.2.2.2.2.2.2.2.2.2.2.2.2.2.2.2.1,(x0.2.2.2.2.2.2.2.2.2.2.2.2.2.2.2.2.2.2.2.2.1,(x0.2.2.2.2.2.2.2.2.2.2.2.2.2.2.2.2.2.2.2.2.2.1,(x0.2.2.2.2.2.2.2.2.2.2.2.2.2.2.2.2.2.2.2.2.2.2.1,(x0.2.2.2.2.2.2.2.2.2.2.2.2.2.2.2.2.2.2.2.2.2.2.2.1,(x0.2.2.2.2.2.2.2.2.2.2.2.2.2.2.2.2.2.2.2.2.2.2.2.2.1,(x0.2.2.2.2.2.2.2.2.2.2.2.2.2.2.2.2.2.2.2.2.2.2.2.2.2.1,(x0.1,(x0.2.1,()))))))))))))))))))))))))))))))
  (
   br (iQ (Int.ofNat (List.length x0.2.2.2.2.2.2.2.2.2.2.2.2.2.2.2.2.2.2.2.2.2.2.2.1)) (0:Int))
   (
    some (.inr (.inr ((Int.ofNat (List.length b1)),(x0.2.2.2.2.1,(x0.2.2.2.2.2.1,(x0.2.2.2.2.2.2.1,(x0.2.2.2.2.2.2.2.1,(x0.2.2.2.2.2.2.2.2.1,(x0.2.2.2.2.2.2.2.2.2.1,(x0.2.2.2.2.2.2.2.2.2.2.1,(x0.2.2.2.2.2.2.2.2.2.2.2.1,(x0.2.2.2.2.2.2.2.2.2.2.2.2.1,(x0.2.2.2.2.2.2.2.2.2.2.2.2.2.1,(x0.2.2.2.2.2.2.2.2.2.2.2.2.2.2.1,(x0.2.2.2.2.2.2.2.2.2.2.2.2.2.2.2.1,(x0.2.2.2.2.2.2.2.2.2.2.2.2.2.2.2.2.1,(x0.2.2.2.2.2.2.2.2.2.2.2.2.2.2.2.2.2.1,(x0.2.2.2.2.2.2.2.2.2.2.2.2.2.2.2.2.2.2.1,(x0.2.2.2.2.2.2.2.2.2.2.2.2.2.2.2.2.2.2.2.1,(x0.2.2.2.2.2.2.2.2.2.2.2.2.2.2.2.2.2.2.2.2.1,(x0.2.2.2.2.2.2.2.2.2.2.2.2.2.2.2.2.2.2.2.2.2.1,(x0.2.2.2.2.2.2.2.2.2.2.2.2.2.2.2.2.2.2.2.2.2.2.1,(x0.2.2.2.2.2.2.2.2.2.2.2.2.2.2.2.2.2.2.2.2.2.2.2.1,(x0.2.2.2.2.2.2.2.2.2.2.2.2.2.2.2.2.2.2.2.2.2.2.2.2.1,(x0.2.2.2.2.2.2.2.2.2.2.2.2.2.2.2.2.2.2.2.2.2.2.2.2.2.1,(b9_0,(b9_1,()))))))))))))))))))))))))))))
   (
    some (.inl ((Int.ofNat (List.length b1)),(t12,((IntKind.wrap .i64 (t13+(1:Int))),(x0.2.2.2.2.1,(x0.2.2.2.2.2.1,(x0.2.2.2.2.2.2.1,(x0.2.2.2.2.2.2.2.1,(x0.2.2.2.2.2.2.2.2.1,(x0.2.2.2.2.2.2.2.2.2.1,(x0.2.2.2.2.2.2.2.2.2.2.1,(x0.2.2.2.2.2.2.2.2.2.2.2.1,(x0.2.2.2.2.2.2.2.2.2.2.2.2.1,(x0.2.2.2.2.2.2.2.2.2.2.2.2.2.1,(x0.2.2.2.2.2.2.2.2.2.2.2.2.2.2.1,(x0.2.2.2.2.2.2.2.2.2.2.2.2.2.2.2.1,(x0.2.2.2.2.2.2.2.2.2.2.2.2.2.2.2.2.1,(x0.2.2.2.2.2.2.2.2.2.2.2.2.2.2.2.2.2.1,(x0.2.2.2.2.2.2.2.2.2.2.2.2.2.2.2.2.2.2.1,(x0.2.2.2.2.2.2.2.2.2.2.2.2.2.2.2.2.2.2.2.1,(x0.2.2.2.2.2.2.2.2.2.2.2.2.2.2.2.2.2.2.2.2.1,(x0.2.2.2.2.2.2.2.2.2.2.2.2.2.2.2.2.2.2.2.2.2.1,(x0.2.2.2.2.2.2.2.2.2.2.2.2.2.2.2.2.2.2.2.2.2.2.1,(x0.2.2.2.2.2.2.2.2.2.2.2.2.2.2.2.2.2.2.2.2.2.2.2.1,(x0.2.2.2.2.2.2.2.2.2.2.2.2.2.2.2.2.2.2.2.2.2.2.2.2.1,(x0.2.2.2.2.2.2.2.2.2.2.2.2.2.2.2.2.2.2.2.2.2.2.2.2.2.1,(b9_0,(b9_1,())))))))))))))))))))))))))))))))
 (
  some (.inr (.inr (t7,(b0_0,(b0_1,(b0_2,(b0_3,(b0_4,(b0_5,(b0_6,(b0_7,(b0_8,(b1,(b3_0,(b3_1,(b3_2,(b3_3,(b3_4,(b3_5,(b3_6,(b3_7,(b3_8,(b6,(b7,(b8,(b9_0,(b9_1,()))))))))))))))))))))))))))))
def nreach_search__run_M2 (c0:nreach_search__round_D) :nreach_search__run_D2:=mkL (fun d=>nreach_search__run_B2 c0.F  d.1 d.2.1 d.2.2.1 d.2.2.2.1 d.2.2.2.2.1 d.2.2.2.2.2.1 d.2.2.2.2.2.2.1 d.2.2.2.2.2.2.2.1 d.2.2.2.2.2.2.2.2.1 d.2.2.2.2.2.2.2.2.2.1 d.2.2.2.2.2.2.2.2.2.2.1 d.2.2.2.2.2.2.2.2.2.2.2.1 d.2.2.2.2.2.2.2.2.2.2.2.2.1 d.2.2.2.2.2.2.2.2.2.2.2.2.2.1 d.2.2.2.2.2.2.2.2.2.2.2.2.2.2.1 d.2.2.2.2.2.2.2.2.2.2.2.2.2.2.2.1 d.2.2.2.2.2.2.2.2.2.2.2.2.2.2.2.2.1 d.2.2.2.2.2.2.2.2.2.2.2.2.2.2.2.2.2.1 d.2.2.2.2.2.2.2.2.2.2.2.2.2.2.2.2.2.2.1 d.2.2.2.2.2.2.2.2.2.2.2.2.2.2.2.2.2.2.2.1 d.2.2.2.2.2.2.2.2.2.2.2.2.2.2.2.2.2.2.2.2.1 d.2.2.2.2.2.2.2.2.2.2.2.2.2.2.2.2.2.2.2.2.2.1 d.2.2.2.2.2.2.2.2.2.2.2.2.2.2.2.2.2.2.2.2.2.2.1 d.2.2.2.2.2.2.2.2.2.2.2.2.2.2.2.2.2.2.2.2.2.2.2.1 d.2.2.2.2.2.2.2.2.2.2.2.2.2.2.2.2.2.2.2.2.2.2.2.2.1 d.2.2.2.2.2.2.2.2.2.2.2.2.2.2.2.2.2.2.2.2.2.2.2.2.2.1 d.2.2.2.2.2.2.2.2.2.2.2.2.2.2.2.2.2.2.2.2.2.2.2.2.2.2.1) (pL (kB c0 k0) e0 1 l0 fun d=>by kernel_rfl)
def nreach_search__run_N2:nreach_search__run_D2:=nreach_search__run_M2 nreach_search__round_K 
def nreach_search__run_L2:nreach_search__run_T2:=lpD (fun d=>nreach_search__run_B2 nreach_search__round_FF  d.1 d.2.1 d.2.2.1 d.2.2.2.1 d.2.2.2.2.1 d.2.2.2.2.2.1 d.2.2.2.2.2.2.1 d.2.2.2.2.2.2.2.1 d.2.2.2.2.2.2.2.2.1 d.2.2.2.2.2.2.2.2.2.1 d.2.2.2.2.2.2.2.2.2.2.1 d.2.2.2.2.2.2.2.2.2.2.2.1 d.2.2.2.2.2.2.2.2.2.2.2.2.1 d.2.2.2.2.2.2.2.2.2.2.2.2.2.1 d.2.2.2.2.2.2.2.2.2.2.2.2.2.2.1 d.2.2.2.2.2.2.2.2.2.2.2.2.2.2.2.1 d.2.2.2.2.2.2.2.2.2.2.2.2.2.2.2.2.1 d.2.2.2.2.2.2.2.2.2.2.2.2.2.2.2.2.2.1 d.2.2.2.2.2.2.2.2.2.2.2.2.2.2.2.2.2.2.1 d.2.2.2.2.2.2.2.2.2.2.2.2.2.2.2.2.2.2.2.1 d.2.2.2.2.2.2.2.2.2.2.2.2.2.2.2.2.2.2.2.2.1 d.2.2.2.2.2.2.2.2.2.2.2.2.2.2.2.2.2.2.2.2.2.1 d.2.2.2.2.2.2.2.2.2.2.2.2.2.2.2.2.2.2.2.2.2.2.1 d.2.2.2.2.2.2.2.2.2.2.2.2.2.2.2.2.2.2.2.2.2.2.2.1 d.2.2.2.2.2.2.2.2.2.2.2.2.2.2.2.2.2.2.2.2.2.2.2.2.1 d.2.2.2.2.2.2.2.2.2.2.2.2.2.2.2.2.2.2.2.2.2.2.2.2.2.1 d.2.2.2.2.2.2.2.2.2.2.2.2.2.2.2.2.2.2.2.2.2.2.2.2.2.2.1) NN
def nreach_search__run_F (F0:nreach_search__round_T) (L2:nreach_search__run_T2) (t1 b0_0:Int) (b0_1:List Int) (b0_2:List (Sh.T Za0)) (b0_3 b0_4 b0_5:List Int) (b0_6:List (Sh.T Za1)) (b0_7:List (Sh.T Za0)) (b0_8:Int) (b1:List (Sh.T (.agg [(.int .i64),sreach_step]))) (b2:List Int) (b3_0:Int) (b3_1:List Int) (b3_2:List (Sh.T Za0)) (b3_3 b3_4 b3_5:List Int) (b3_6:List (Sh.T Za1)) (b3_7:List (Sh.T Za0)) (b3_8:List (Sh.T Za4)) (b4:List Bool) (b5:List (Sh.T (.agg [(.int .i64),(.int .i64),(.sl Za3)]))):Option (Out nreach_search__run_outs):=
 bnd (L2 ((0:Int),(t1,((0:Int),(b0_0,(b0_1,(b0_2,(b0_3,(b0_4,(b0_5,(b0_6,(b0_7,(b0_8,(b1,(b3_0,(b3_1,(b3_2,(b3_3,(b3_4,(b3_5,(b3_6,(b3_7,(b3_8,(b2,(b4,(b5,((0:Int),((0:Int),())))))))))))))))))))))))))))) fun x0=>
 (match x0 with
 | .inl x1=>
  some (x1.2.2.2.2.2.2.2.2.2.2.2.2.2.2.2.2.2.2.2.2.2.2.2.2.2.1,(x1.2.2.2.2.2.2.2.2.2.2.2.2.2.2.2.2.2.2.2.2.2.2.2.2.2.2.1,(x1.1,(x1.2.1,(x1.2.2.1,(x1.2.2.2.1,(x1.2.2.2.2.1,(x1.2.2.2.2.2.1,(x1.2.2.2.2.2.2.1,(x1.2.2.2.2.2.2.2.1,(x1.2.2.2.2.2.2.2.2.1,(x1.2.2.2.2.2.2.2.2.2.1,(x1.2.2.2.2.2.2.2.2.2.2.1,(x1.2.2.2.2.2.2.2.2.2.2.2.1,(x1.2.2.2.2.2.2.2.2.2.2.2.2.1,(x1.2.2.2.2.2.2.2.2.2.2.2.2.2.1,(x1.2.2.2.2.2.2.2.2.2.2.2.2.2.2.1,(x1.2.2.2.2.2.2.2.2.2.2.2.2.2.2.2.1,(x1.2.2.2.2.2.2.2.2.2.2.2.2.2.2.2.2.1,(x1.2.2.2.2.2.2.2.2.2.2.2.2.2.2.2.2.2.1,(x1.2.2.2.2.2.2.2.2.2.2.2.2.2.2.2.2.2.2.1,(x1.2.2.2.2.2.2.2.2.2.2.2.2.2.2.2.2.2.2.2.1,(x1.2.2.2.2.2.2.2.2.2.2.2.2.2.2.2.2.2.2.2.2.1,(x1.2.2.2.2.2.2.2.2.2.2.2.2.2.2.2.2.2.2.2.2.2.1,(x1.2.2.2.2.2.2.2.2.2.2.2.2.2.2.2.2.2.2.2.2.2.2.1,(x1.2.2.2.2.2.2.2.2.2.2.2.2.2.2.2.2.2.2.2.2.2.2.2.1,(x1.2.2.2.2.2.2.2.2.2.2.2.2.2.2.2.2.2.2.2.2.2.2.2.2.1,())))))))))))))))))))))))))))
 | .inr x1=>
  some (x1.2.2.2.2.2.2.2.2.2.2.2.2.2.2.2.2.2.2.2.2.2.2.2.1,(x1.2.2.2.2.2.2.2.2.2.2.2.2.2.2.2.2.2.2.2.2.2.2.2.2.1,((0:Int),((0:Int),(x1.1,(x1.2.1,(x1.2.2.1,(x1.2.2.2.1,(x1.2.2.2.2.1,(x1.2.2.2.2.2.1,(x1.2.2.2.2.2.2.1,(x1.2.2.2.2.2.2.2.1,(x1.2.2.2.2.2.2.2.2.1,(x1.2.2.2.2.2.2.2.2.2.1,(x1.2.2.2.2.2.2.2.2.2.2.1,(x1.2.2.2.2.2.2.2.2.2.2.2.1,(x1.2.2.2.2.2.2.2.2.2.2.2.2.1,(x1.2.2.2.2.2.2.2.2.2.2.2.2.2.1,(x1.2.2.2.2.2.2.2.2.2.2.2.2.2.2.1,(x1.2.2.2.2.2.2.2.2.2.2.2.2.2.2.2.1,(x1.2.2.2.2.2.2.2.2.2.2.2.2.2.2.2.2.1,(x1.2.2.2.2.2.2.2.2.2.2.2.2.2.2.2.2.2.1,(x1.2.2.2.2.2.2.2.2.2.2.2.2.2.2.2.2.2.2.1,(x1.2.2.2.2.2.2.2.2.2.2.2.2.2.2.2.2.2.2.2.1,(x1.2.2.2.2.2.2.2.2.2.2.2.2.2.2.2.2.2.2.2.2.1,(x1.2.2.2.2.2.2.2.2.2.2.2.2.2.2.2.2.2.2.2.2.2.1,(x1.2.2.2.2.2.2.2.2.2.2.2.2.2.2.2.2.2.2.2.2.2.2.1,())))))))))))))))))))))))))))
 )
def nreach_search__run_G (c0:nreach_search__round_D) (M2:nreach_search__run_D2):nreach_search__run_D:=⟨u23 (nreach_search__run_F c0.F M2.L),pB Tryz.func60 41 (kB c0 k0) e0 1 (sS (sC M2 l0)) fun d=>by kernel_rfl⟩
def nreach_search__run_K:nreach_search__run_D:=nreach_search__run_G nreach_search__round_K nreach_search__run_N2
def nreach_search__run_FF:nreach_search__run_T:=nreach_search__run_K.F
abbrev reach_Search_σs:List Sh:=[Za5,(.int .i64)]
abbrev reach_Search_τs:List Sh:=[sreach_Result,(.int .i64)]
abbrev reach_Search_T:=TL reach_Search_σs→Option (TL reach_Search_τs)
abbrev reach_Search_D:=Kd 19 reach_Search_σs reach_Search_τs
def reach_Search_F (F0:nreach_search__run_T) (F1:reach_begin_T) (a0:Sh.T Za5) (a1:Int):Option (TL reach_Search_τs):=
 bnd (F1 a0) fun x0=>
 (match x0 with
 | .inl x1=>
  br (Bool.not (iQ x1.1 (0:Int)))
  (
   some ((false,((0:Int),(false,((0:Int),())))),(x1.1,())))
  (
   br (iL a1 (0:Int))
   (
    some ((false,((0:Int),(false,((0:Int),())))),((1:Int),())))
   (
    chk (selB false true (iL (2000:Int) a1))<|
    some ((false,((0:Int),(false,((0:Int),())))),((1:Int),()))))
 | .inr x1=>
  br (Bool.not (iQ x1.1 (0:Int)))
  (
   some ((false,((0:Int),(false,((0:Int),())))),(x1.1,())))
  (
   br (iL a1 (0:Int))
   (
    some ((false,((0:Int),(false,((0:Int),())))),((1:Int),())))
   (
    br (selB false true (iL (2000:Int) a1))
    (
     some ((false,((0:Int),(false,((0:Int),())))),((1:Int),())))
    (
     bnd (F0 (a1,x1.2)) fun x2=>
     br (iL (0:Int) x2.2.2.2.1)
     (
      some ((true,(x2.2.2.2.1,(false,((0:Int),())))),((0:Int),())))
     (
      some ((false,((0:Int),((iQ (Int.ofNat (List.length x2.2.2.2.2.2.2.2.2.2.2.2.2.2.2.2.2.2.2.2.2.2.2.2.2.1)) (0:Int)),(x2.2.2.2.2.1,())))),((0:Int),()))))))
 )
def reach_Search_G (c0:nreach_search__run_D) (c1:reach_begin_D) :reach_Search_D:=⟨u2 (reach_Search_F c0.F c1.F),pD Tryz.func19 49 (kB c0 (kB c1 k0)) e0 1 (sS l0) fun d=>by kernel_rfl⟩
def reach_Search_K:reach_Search_D:=reach_Search_G nreach_search__run_K reach_begin_K 
def reach_Search_FF:reach_Search_T:=reach_Search_K.F
abbrev astrariumref14_Small_σs:List Sh:=[Za5]
abbrev astrariumref14_Small_τs:List Sh:=[(.int .i64)]
abbrev astrariumref14_Small_T:=TL astrariumref14_Small_σs→Option (TL astrariumref14_Small_τs)
abbrev astrariumref14_Small_D:=Kd 16 astrariumref14_Small_σs astrariumref14_Small_τs
def astrariumref14_Small_F (F0:astrariumref13_Cells_T) (F1:Zadp) (a0:Sh.T Za5):Option (TL astrariumref14_Small_τs):=
 bnd (F1 (a0,())) fun x0=>
 br (Bool.not (iQ x0.1 (0:Int)))
 (
  some (x0.1,()))
 (
  br (iL (6:Int) (Int.ofNat (List.length a0.2.1)))
  (
   some ((17:Int),()))
  (
   bnd (F0 (a0,())) fun x1=>
   br (selB false true (iL (10:Int) (IntKind.wrap .i64 (@HAdd.hAdd (Int) (Int) (Int) _ (Int.ofNat (List.length a0.2.2.1)) x1.1))))
   (
    some ((17:Int),()))
   (
    some ((0:Int),()))))
def astrariumref14_Small_G (c0:astrariumref13_Cells_D) (c1:Zacr) :astrariumref14_Small_D:=⟨u1 (astrariumref14_Small_F c0.F c1.F),pD Tryz.func16 22 (kD c0 (kD c1 k0)) e0 1 (sS l0) fun d=>by kernel_rfl⟩
def astrariumref14_Small_K:astrariumref14_Small_D:=astrariumref14_Small_G astrariumref13_Cells_K Zadq 
def astrariumref14_Small_FF:astrariumref14_Small_T:=astrariumref14_Small_K.F
abbrev astrariumref14_state_σs:List Sh:=[Za5,(.int .i64)]
abbrev astrariumref14_state_τs:List Sh:=[Zab]
abbrev astrariumref14_state_T:=TL astrariumref14_state_σs→Option (TL astrariumref14_state_τs)
abbrev astrariumref14_state_D:=Kd 57 astrariumref14_state_σs astrariumref14_state_τs
def astrariumref14_state_F (F0:astrariumref13_Back_T) (F1:Zapa) (F2:astrariumref13_Cells_T) (a0:Sh.T Za5) (a1:Int):Option (TL astrariumref14_state_τs):=
 bnd (F2 (a0,())) fun x0=>
 bnd (F1 ((IntKind.wrap .u64 a1),((IntKind.wrap .i64 (@HAdd.hAdd (Int) (Int) (Int) _ (Int.ofNat (List.length a0.2.2.1)) x0.1)),()))) fun x1=>
 bnd (F0 (a0,((x1.1,([],())),()))) fun x2=>
 chk (iQ x2.2.1 x2.2.1)<|
 some ((x2.1.1,(x2.1.2.1,())),())
def astrariumref14_state_G (c0:astrariumref13_Back_D) (c1:Zakl) (c2:astrariumref13_Cells_D) :astrariumref14_state_D:=⟨u2 (astrariumref14_state_F c0.F c1.F c2.F),pD Tryz.func57 23 (kD c0 (kD c1 (kD c2 k0))) e0 1 (sS l0) fun d=>by kernel_rfl⟩
def astrariumref14_state_K:astrariumref14_state_D:=astrariumref14_state_G astrariumref13_Back_K Zapb astrariumref13_Cells_K 
def astrariumref14_state_FF:astrariumref14_state_T:=astrariumref14_state_K.F
abbrev astrariumref14_number_σs:List Sh:=[Za5,Zab]
abbrev astrariumref14_number_τs:List Sh:=[(.int .i64)]
abbrev astrariumref14_number_T:=TL astrariumref14_number_σs→Option (TL astrariumref14_number_τs)
abbrev astrariumref14_number_D:=Kd 61 astrariumref14_number_σs astrariumref14_number_τs
def astrariumref14_number_F (F0:Zaws) (F1:astrariumref13_State_T) (a0:Sh.T Za5) (a1:Sh.T Zab):Option (TL astrariumref14_number_τs):=
 bnd (F1 (a0,(a1,()))) fun x0=>
 bnd (F0 (x0.1.1,())) fun x1=>
 some ((IntKind.wrap .i64 x1.1),())
def astrariumref14_number_G (c0:Zaqs) (c1:astrariumref13_State_D) :astrariumref14_number_D:=⟨u2 (astrariumref14_number_F c0.F c1.F),pD Tryz.func61 17 (kD c0 (kD c1 k0)) e0 1 (sS l0) fun d=>by kernel_rfl⟩
def astrariumref14_number_K:astrariumref14_number_D:=astrariumref14_number_G Zawt astrariumref13_State_K 
def astrariumref14_number_FF:astrariumref14_number_T:=astrariumref14_number_K.F
abbrev astrariumref14_many_σs:List Sh:=[Za5]
abbrev astrariumref14_many_τs:List Sh:=[(.int .i64)]
abbrev astrariumref14_many_T:=TL astrariumref14_many_σs→Option (TL astrariumref14_many_τs)
abbrev astrariumref14_many_D:=Kd 56 astrariumref14_many_σs astrariumref14_many_τs
def astrariumref14_many_F (F0:astrariumref13_Cells_T) (a0:Sh.T Za5):Option (TL astrariumref14_many_τs):=
 bnd (F0 (a0,())) fun x0=>
 chk (iE (0:Int) (IntKind.wrap .u64 (IntKind.wrap .i64 (@HAdd.hAdd (Int) (Int) (Int) _ (Int.ofNat (List.length a0.2.2.1)) x0.1))))<|
 some ((IntKind.wrap .i64 ((1:Int)*(HPow.hPow (2:Int) (Min.min (Int.toNat (IntKind.wrap .u64 (IntKind.wrap .i64 (@HAdd.hAdd (Int) (Int) (Int) _ (Int.ofNat (List.length a0.2.2.1)) x0.1)))) 64)))),())
def astrariumref14_many_G (c0:astrariumref13_Cells_D) :astrariumref14_many_D:=⟨u1 (astrariumref14_many_F c0.F),pD Tryz.func56 11 (kD c0 k0) e0 1 (sS l0) fun d=>by kernel_rfl⟩
def astrariumref14_many_K:astrariumref14_many_D:=astrariumref14_many_G astrariumref13_Cells_K 
def astrariumref14_many_FF:astrariumref14_many_T:=astrariumref14_many_K.F
abbrev astrariumref14_Starts_lay3:Lay:={ T:=[(1,.ptr 0 0),(3,.hd 1 Zab),(4,.int .i64)],h:=[(0,.cells lNet 27),(1,.arr Zab 40)],nx:=2 }
abbrev astrariumref14_Starts_outs3:List (Ev.Ex×Lay):=[((.exit 0),{ T:=[(3,.hd 0 Zab)],h:=[(0,.arr Zab 40)],nx:=1 })]
abbrev astrariumref14_Starts_T3:=TL astrariumref14_Starts_lay3.σs→Option (Out astrariumref14_Starts_outs3)
abbrev astrariumref14_Starts_D3:=Ld 0 24 (Zb5 [0] (Zaa Tryz.f17)) astrariumref14_Starts_lay3 astrariumref14_Starts_outs3
def astrariumref14_Starts_B3 (F0:Zakd) (F1:astrariumref14_state_T) (F2:astrariumref14_many_T) (t4 b0_0:Int) (b0_1:List Int) (b0_2:List (Sh.T Za0)) (b0_3 b0_4 b0_5:List Int) (b0_6:List (Sh.T Za1)) (b0_7:List (Sh.T Za0)) (b1:List (Sh.T Zab)):Option (TL astrariumref14_Starts_lay3.σs⊕Out astrariumref14_Starts_outs3):=
 bnd (F2 ((b0_0,(b0_1,(b0_2,(b0_3,(b0_4,(b0_5,(b0_6,(b0_7,())))))))),())) fun x0=>
 br (iL t4 x0.1)
 (
  bnd (F1 ((b0_0,(b0_1,(b0_2,(b0_3,(b0_4,(b0_5,(b0_6,(b0_7,())))))))),(t4,()))) fun x1=>
  bnd (F0 ((b0_0,(b0_1,(b0_2,(b0_3,(b0_4,(b0_5,(b0_6,(b0_7,())))))))),((x1.1.1,(x1.1.2.1,())),()))) fun x2=>
  br (iQ x2.1 (0:Int))
  (
   chk (room 48 (List.length (ap b1 ((x1.1.1,(x1.1.2.1,())) :: []))))<|
   some (.inl ((IntKind.wrap .i64 (t4+(1:Int))),(b0_0,(b0_1,(b0_2,(b0_3,(b0_4,(b0_5,(b0_6,(b0_7,((ap b1 ((x1.1.1,(x1.1.2.1,())) :: [])),()))))))))))))
  (
   some (.inl ((IntKind.wrap .i64 (t4+(1:Int))),(b0_0,(b0_1,(b0_2,(b0_3,(b0_4,(b0_5,(b0_6,(b0_7,(b1,())))))))))))))
 (
  some (.inr (b1,())))
def astrariumref14_Starts_M3 (c0:Zado) (c1:astrariumref14_state_D) (c2:astrariumref14_many_D) :astrariumref14_Starts_D3:=mkL (u10 (astrariumref14_Starts_B3 c0.F c1.F c2.F)) (pL (kD c0 (kD c1 (kD c2 k0))) e0 1 l0 fun d=>by kernel_rfl)
def astrariumref14_Starts_N3:astrariumref14_Starts_D3:=astrariumref14_Starts_M3 Zake astrariumref14_state_K astrariumref14_many_K 
def astrariumref14_Starts_L3:astrariumref14_Starts_T3:=lpD (u10 (astrariumref14_Starts_B3 Zfp astrariumref14_state_FF astrariumref14_many_FF)) NN
abbrev astrariumref14_Starts_σs:List Sh:=[Za5]
abbrev astrariumref14_Starts_τs:List Sh:=[(.sl Zab)]
abbrev astrariumref14_Starts_T:=TL astrariumref14_Starts_σs→Option (TL astrariumref14_Starts_τs)
abbrev astrariumref14_Starts_D:=Kd 17 astrariumref14_Starts_σs astrariumref14_Starts_τs
def astrariumref14_Starts_F (F0:Zakd) (F1:astrariumref14_state_T) (F2:astrariumref14_many_T) (L3:astrariumref14_Starts_T3) (a0:Sh.T Za5):Option (TL astrariumref14_Starts_τs):=
 bnd (L3 ((0:Int),(a0.1,(a0.2.1,(a0.2.2.1,(a0.2.2.2.1,(a0.2.2.2.2.1,(a0.2.2.2.2.2.1,(a0.2.2.2.2.2.2.1,(a0.2.2.2.2.2.2.2.1,([],()))))))))))) fun x0=>
 some (x0.1,())
def astrariumref14_Starts_G (c0:Zado) (c1:astrariumref14_state_D) (c2:astrariumref14_many_D) (M3:astrariumref14_Starts_D3):astrariumref14_Starts_D:=⟨u1 (astrariumref14_Starts_F c0.F c1.F c2.F M3.L),pD Tryz.func17 24 (kD c0 (kD c1 (kD c2 k0))) e0 1 (sS (sC M3 l0)) fun d=>by kernel_rfl⟩
def astrariumref14_Starts_K:astrariumref14_Starts_D:=astrariumref14_Starts_G Zake astrariumref14_state_K astrariumref14_many_K astrariumref14_Starts_N3
def astrariumref14_Starts_FF:astrariumref14_Starts_T:=astrariumref14_Starts_K.F
abbrev astrariumref14_cycle_lay:Lay:={ T:=[(0,.agg lNet),(1,.agg [.fz .bool,.fz (.sl Za3)]),(2,.hd 0 .bool)],h:=[(0,.arr .bool 4)],nx:=1 }
abbrev astrariumref14_cycle_outs:List (Ev.Ex×Lay):=[(.ret,{ T:=[(0,.bool)],h:=[(0,.arr .bool 4)],nx:=1 })]
abbrev astrariumref14_cycle_T:=TL astrariumref14_cycle_lay.σs→Option (Out astrariumref14_cycle_outs)
abbrev astrariumref14_cycle_D:=Kb 62 3 astrariumref14_cycle_lay 1 astrariumref14_cycle_outs
abbrev astrariumref14_cycle_lay3:Lay:={ T:=[(2,.hd 0 .bool),(3,.ptr 1 0),(4,.ptr 2 0),(7,.bool),(8,.int .i64)],h:=yRe7,nx:=3 }
abbrev astrariumref14_cycle_outs3:List (Ev.Ex×Lay):=[((.exit 0),{ T:=[(7,.bool)],h:=[(0,.arr .bool 4)],nx:=1 })]
abbrev astrariumref14_cycle_T3:=TL astrariumref14_cycle_lay3.σs→Option (Out astrariumref14_cycle_outs3)
abbrev astrariumref14_cycle_D3:=Ld 1 59 (Zb5 [0] (Zaa Tryz.f62)) astrariumref14_cycle_lay3 astrariumref14_cycle_outs3
abbrev astrariumref14_cycle_lay9:Lay:={ T:=[(2,.hd 0 .bool),(3,.ptr 1 0),(4,.ptr 2 0),(7,.bool),(8,.int .i64),(9,.fz .bool),(10,.fz .bool),(11,.int .i64)],h:=yRe7,nx:=3 }
abbrev astrariumref14_cycle_outs9:List (Ev.Ex×Lay):=[((.exit 2),{ T:=[(2,.hd 0 .bool),(3,.ptr 1 0),(4,.ptr 2 0),(7,.bool),(8,.int .i64),(9,.fz .bool)],h:=yRe7,nx:=3 })]
abbrev astrariumref14_cycle_T9:=TL astrariumref14_cycle_lay9.σs→Option (Out astrariumref14_cycle_outs9)
abbrev astrariumref14_cycle_D9:=Ld 1 59 (Zb5 [0,0] (Zaa Tryz.f62)) astrariumref14_cycle_lay9 astrariumref14_cycle_outs9
def astrariumref14_cycle_B9 (t7:Bool) (t8:Int) (t9 t10:List Bool) (t11:Int) (b0:List Bool) (b1_0:Int) (b1_1:List Int) (b1_2:List (Sh.T Za0)) (b1_3 b1_4 b1_5:List Int) (b1_6:List (Sh.T Za1)) (b1_7:List (Sh.T Za0)) (b2_0:List Bool) (b2_1:List (List (Sh.T Za3))):Option (TL astrariumref14_cycle_lay9.σs⊕Out astrariumref14_cycle_outs9):=
 br (iL t11 (Int.ofNat (List.length t10)))
 (
  br t7
  (
   some (.inl (true,(t8,(t9,(t10,((IntKind.wrap .i64 (t11+(1:Int))),(b0,(b1_0,(b1_1,(b1_2,(b1_3,(b1_4,(b1_5,(b1_6,(b1_7,(b2_0,(b2_1,()))))))))))))))))))
  (
   chk (inb t11 (List.length t10))<|
   some (.inl ((selB false true (gt .bool t10 t11)),(t8,(t9,(t10,((IntKind.wrap .i64 (t11+(1:Int))),(b0,(b1_0,(b1_1,(b1_2,(b1_3,(b1_4,(b1_5,(b1_6,(b1_7,(b2_0,(b2_1,())))))))))))))))))))
 (
  some (.inr (t7,(t8,(t9,(b0,(b1_0,(b1_1,(b1_2,(b1_3,(b1_4,(b1_5,(b1_6,(b1_7,(b2_0,(b2_1,()))))))))))))))))
def astrariumref14_cycle_N9  :astrariumref14_cycle_D9:=mkL (u16 astrariumref14_cycle_B9) (pL k0 e0 1 l0 fun d=>by kernel_rfl)
def astrariumref14_cycle_L9:astrariumref14_cycle_T9:=lpD (u16 astrariumref14_cycle_B9) NN
def astrariumref14_cycle_B3 (F0:astrariumref14_number_T) (F1:Zaqg) (F2:Zaql) (F3:Zaqj) (F4:Zand) (F5:Zapa) (L9:astrariumref14_cycle_T9) (t7:Bool) (t8:Int) (b0:List Bool) (b1_0:Int) (b1_1:List Int) (b1_2:List (Sh.T Za0)) (b1_3 b1_4 b1_5:List Int) (b1_6:List (Sh.T Za1)) (b1_7:List (Sh.T Za0)) (b2_0:List Bool) (b2_1:List (List (Sh.T Za3))):Option (TL astrariumref14_cycle_lay3.σs⊕Out astrariumref14_cycle_outs3):=
 br (iL t8 (IntKind.wrap .i64 ((1:Int)*(HPow.hPow (2:Int) (Min.min (Int.toNat (IntKind.wrap .u64 (Int.ofNat (List.length b1_1)))) 64)))))
 (
  bnd (F5 ((IntKind.wrap .u64 t8),((Int.ofNat (List.length b1_1)),()))) fun x0=>
  bnd (F4 ((b1_0,(b1_1,(b1_2,(b1_3,(b1_4,(b1_5,(b1_6,(b1_7,())))))))),((b2_0,(b2_1,())),(x0.1,())))) fun x1=>
  bnd (F3 ((b1_0,(b1_1,(b1_2,(b1_3,(b1_4,(b1_5,(b1_6,(b1_7,())))))))),(x1.1,()))) fun x2=>
  br (Bool.not x2.1)
  (
   some (.inl (t7,((IntKind.wrap .i64 (t8+(1:Int))),(b0,(b1_0,(b1_1,(b1_2,(b1_3,(b1_4,(b1_5,(b1_6,(b1_7,(b2_0,(b2_1,())))))))))))))))
  (
   bnd (F2 ((b1_0,(b1_1,(b1_2,(b1_3,(b1_4,(b1_5,(b1_6,(b1_7,())))))))),(x1.1,()))) fun x3=>
   bnd (L9 (t7,(t8,(x1.1,(x3.1,((0:Int),(b0,(b1_0,(b1_1,(b1_2,(b1_3,(b1_4,(b1_5,(b1_6,(b1_7,(b2_0,(b2_1,()))))))))))))))))) fun x4=>
   bnd (F1 ((x4.2.2.2.2.1,(x4.2.2.2.2.2.1,(x4.2.2.2.2.2.2.1,(x4.2.2.2.2.2.2.2.1,(x4.2.2.2.2.2.2.2.2.1,(x4.2.2.2.2.2.2.2.2.2.1,(x4.2.2.2.2.2.2.2.2.2.2.1,(x4.2.2.2.2.2.2.2.2.2.2.2.1,())))))))),(x4.2.2.2.2.2.2.2.2.2.2.2.2,(x4.2.2.1,())))) fun x5=>
   bnd (F0 ((x4.2.2.2.2.1,(x4.2.2.2.2.2.1,(x4.2.2.2.2.2.2.1,(x4.2.2.2.2.2.2.2.1,(x4.2.2.2.2.2.2.2.2.1,(x4.2.2.2.2.2.2.2.2.2.1,(x4.2.2.2.2.2.2.2.2.2.2.1,(x4.2.2.2.2.2.2.2.2.2.2.2.1,())))))))),((x5.1.1,(x5.1.2.1,())),()))) fun x6=>
   chk (inb x6.1 (List.length x4.2.2.2.1))<|
   some (.inl (x4.1,((IntKind.wrap .i64 (@HAdd.hAdd (Int) (Int) (Int) _ x4.2.1 (1:Int))),((List.set x4.2.2.2.1 (Int.toNat x6.1) true),x4.2.2.2.2))))))
 (
  some (.inr (t7,(b0,()))))
def astrariumref14_cycle_M3 (c0:astrariumref14_number_D) (c1:Zali) (c2:Zalk) (c3:Zalj) (c4:Zajb) (c5:Zakl) (M9:astrariumref14_cycle_D9):astrariumref14_cycle_D3:=mkL (u13 (astrariumref14_cycle_B3 c0.F c1.F c2.F c3.F c4.F c5.F M9.L)) (pL (kD c0 (kD c1 (kD c2 (kD c3 (kD c4 (kD c5 k0)))))) e0 1 (sC M9 l0) fun d=>by kernel_rfl)
def astrariumref14_cycle_N3:astrariumref14_cycle_D3:=astrariumref14_cycle_M3 astrariumref14_number_K Zaqh Zaqm Zaqk Zane Zapb astrariumref14_cycle_N9
def astrariumref14_cycle_L3:astrariumref14_cycle_T3:=lpD (u13 (astrariumref14_cycle_B3 astrariumref14_number_FF Zabk Zabm Zabl Zaaj Zajf astrariumref14_cycle_L9)) NN
def astrariumref14_cycle_F (F0:astrariumref14_number_T) (F1:Zaqg) (F2:Zaql) (F3:Zaqj) (F4:Zand) (F5:Zapa) (L3:astrariumref14_cycle_T3) (L9:astrariumref14_cycle_T9) (t0_0:Int) (t0_1:List Int) (t0_2:List (Sh.T Za0)) (t0_3 t0_4 t0_5:List Int) (t0_6:List (Sh.T Za1)) (t0_7:List (Sh.T Za0)) (t1_0:List Bool) (t1_1:List (List (Sh.T Za3))) (b0:List Bool):Option (Out astrariumref14_cycle_outs):=
 bnd (L3 (false,((0:Int),(b0,(t0_0,(t0_1,(t0_2,(t0_3,(t0_4,(t0_5,(t0_6,(t0_7,(t1_0,(t1_1,())))))))))))))) fun x0=>
 some x0
def astrariumref14_cycle_G (c0:astrariumref14_number_D) (c1:Zali) (c2:Zalk) (c3:Zalj) (c4:Zajb) (c5:Zakl) (M3:astrariumref14_cycle_D3) (M9:astrariumref14_cycle_D9):astrariumref14_cycle_D:=⟨u11 (astrariumref14_cycle_F c0.F c1.F c2.F c3.F c4.F c5.F M3.L M9.L),pB Tryz.func62 59 (kD c0 (kD c1 (kD c2 (kD c3 (kD c4 (kD c5 k0)))))) e0 1 (sS (sC M3 l0)) fun d=>by kernel_rfl⟩
def astrariumref14_cycle_K:astrariumref14_cycle_D:=astrariumref14_cycle_G astrariumref14_number_K Zaqh Zaqm Zaqk Zane Zapb astrariumref14_cycle_N3 astrariumref14_cycle_N9
def astrariumref14_cycle_FF:astrariumref14_cycle_T:=astrariumref14_cycle_K.F
abbrev astrariumref14_Search_lay25:Lay:={ T:=[(7,.hd 0 .bool),(8,.hd 1 .bool),(15,.int .i64),(16,.bool),(17,.int .i64)],h:=[(0,.arr .bool 4),(1,.arr .bool 4)],nx:=2 }
abbrev astrariumref14_Search_outs25:List (Ev.Ex×Lay):=[((.exit 6),{ T:=[(15,.int .i64),(16,.bool)],h:=[],nx:=0 })]
abbrev astrariumref14_Search_T25:=TL astrariumref14_Search_lay25.σs→Option (Out astrariumref14_Search_outs25)
abbrev astrariumref14_Search_D25:=Ld 0 106 (Zb5 [2] (Zaa Tryz.f20)) astrariumref14_Search_lay25 astrariumref14_Search_outs25
abbrev astrariumref14_Search_lay9:Lay:={ T:=[(1,.int .i64),(2,.ptr 0 0),(7,.hd 1 .bool),(8,.hd 2 .bool),(11,.int .i64)],h:=yRe6,nx:=3 }
abbrev astrariumref14_Search_outs9:List (Ev.Ex×Lay):=[(.ret,{ T:=[(4,.int .i64),(5,.bool),(6,.int .i64)],h:=[],nx:=0 }),((.exit 2),{ T:=[(7,.hd 0 .bool),(8,.hd 1 .bool)],h:=[(0,.arr .bool 4),(1,.arr .bool 4)],nx:=2 })]
abbrev astrariumref14_Search_T9:=TL astrariumref14_Search_lay9.σs→Option (Out astrariumref14_Search_outs9)
abbrev astrariumref14_Search_D9:=Ld 0 106 (Zb5 [1] (Zaa Tryz.f20)) astrariumref14_Search_lay9 astrariumref14_Search_outs9
abbrev astrariumref14_Search_lay14:Lay:={ T:=[(1,.int .i64),(2,.ptr 0 0),(7,.hd 1 .bool),(8,.hd 2 .bool),(11,.int .i64),(12,.hd 3 .bool),(13,.bool),(14,.int .i64)],h:=[(0,.cells lNet 27),(1,.arr .bool 4),(2,.arr .bool 4),(3,.arr .bool 4)],nx:=4 }
abbrev astrariumref14_Search_outs14:List (Ev.Ex×Lay):=[(.ret,{ T:=[(4,.int .i64),(5,.bool),(6,.int .i64)],h:=[],nx:=0 }),((.exit 4),{ T:=[(1,.int .i64),(2,.ptr 0 0),(7,.hd 1 .bool),(11,.int .i64),(12,.hd 2 .bool),(13,.bool)],h:=yRe6,nx:=3 })]
abbrev astrariumref14_Search_T14:=TL astrariumref14_Search_lay14.σs→Option (Out astrariumref14_Search_outs14)
abbrev astrariumref14_Search_D14:=Ld 0 106 (Zb5 [1,0] (Zaa Tryz.f20)) astrariumref14_Search_lay14 astrariumref14_Search_outs14
abbrev astrariumref14_Search_lay5:Lay:={ T:=[(1,.int .i64),(2,.ptr 0 0),(7,.hd 1 .bool),(8,.hd 2 .bool),(9,.fz Zab),(10,.int .i64)],h:=yRe6,nx:=3 }
abbrev astrariumref14_Search_outs5:List (Ev.Ex×Lay):=[((.exit 0),{ T:=[(1,.int .i64),(2,.ptr 0 0),(7,.hd 1 .bool),(8,.hd 2 .bool)],h:=yRe6,nx:=3 })]
abbrev astrariumref14_Search_T5:=TL astrariumref14_Search_lay5.σs→Option (Out astrariumref14_Search_outs5)
abbrev astrariumref14_Search_D5:=Ld 0 106 (Zb5 [0] (Zaa Tryz.f20)) astrariumref14_Search_lay5 astrariumref14_Search_outs5
def astrariumref14_Search_B5 (F1:astrariumref14_number_T) (t1:Int) (t9:List (Sh.T Zab)) (t10 b0_0:Int) (b0_1:List Int) (b0_2:List (Sh.T Za0)) (b0_3 b0_4 b0_5:List Int) (b0_6:List (Sh.T Za1)) (b0_7:List (Sh.T Za0)) (b1 b2:List Bool):Option (TL astrariumref14_Search_lay5.σs⊕Out astrariumref14_Search_outs5):=
 br (iL t10 (Int.ofNat (List.length t9)))
 (
  chk (inb t10 (List.length t9))<|
  bnd (F1 ((b0_0,(b0_1,(b0_2,(b0_3,(b0_4,(b0_5,(b0_6,(b0_7,())))))))),(((gt Zab t9 t10).1,((gt Zab t9 t10).2.1,())),()))) fun x0=>
  chk (inb x0.1 (List.length b2))<|
  some (.inl (t1,(t9,((IntKind.wrap .i64 (t10+(1:Int))),(b0_0,(b0_1,(b0_2,(b0_3,(b0_4,(b0_5,(b0_6,(b0_7,(b1,((List.set b2 (Int.toNat x0.1) true),())))))))))))))))
 (
  some (.inr (t1,(b0_0,(b0_1,(b0_2,(b0_3,(b0_4,(b0_5,(b0_6,(b0_7,(b1,(b2,())))))))))))))
def astrariumref14_Search_M5 (c1:astrariumref14_number_D) :astrariumref14_Search_D5:=mkL (u13 (astrariumref14_Search_B5 c1.F)) (pL (kD c1 k0) e0 1 l0 fun d=>by kernel_rfl)
def astrariumref14_Search_N5:astrariumref14_Search_D5:=astrariumref14_Search_M5 astrariumref14_number_K 
def astrariumref14_Search_L5:astrariumref14_Search_T5:=lpD (u13 (astrariumref14_Search_B5 astrariumref14_number_FF)) NN
def astrariumref14_Search_B14 (F0:astrariumref14_state_T) (F4:astrariumref14_cycle_T) (t1 t11:Int) (t13:Bool) (t14 b0_0:Int) (b0_1:List Int) (b0_2:List (Sh.T Za0)) (b0_3 b0_4 b0_5:List Int) (b0_6:List (Sh.T Za1)) (b0_7:List (Sh.T Za0)) (b1 b2 b3:List Bool):Option (TL astrariumref14_Search_lay14.σs⊕Out astrariumref14_Search_outs14):=
 br (iL t14 (Int.ofNat (List.length b2)))
 (
  chk (inb t14 (List.length b2))<|
  br (Bool.not (gt .bool b2 t14))
  (
   some (.inl (t1,(t11,(t13,((IntKind.wrap .i64 (t14+(1:Int))),(b0_0,(b0_1,(b0_2,(b0_3,(b0_4,(b0_5,(b0_6,(b0_7,(b1,(b2,(b3,())))))))))))))))))
  (
   chk (inb t14 (List.length b1))<|
   br (selB false true (gt .bool b1 t14))
   (
    some (.inl (t1,(t11,(t13,((IntKind.wrap .i64 (t14+(1:Int))),(b0_0,(b0_1,(b0_2,(b0_3,(b0_4,(b0_5,(b0_6,(b0_7,(b1,(b2,(b3,())))))))))))))))))
   (
    chk (inb t14 (List.length b1))<|
    bnd (F0 ((b0_0,(b0_1,(b0_2,(b0_3,(b0_4,(b0_5,(b0_6,(b0_7,())))))))),(t14,()))) fun x0=>
    bnd (F4 (b0_0,(b0_1,(b0_2,(b0_3,(b0_4,(b0_5,(b0_6,(b0_7,(x0.1.1,(x0.1.2.1,(b3,())))))))))))) fun x1=>
    br x1.1
    (
     some (.inr (.inl (t11,(false,((0:Int),()))))))
    (
     some (.inl (t1,(t11,(true,((IntKind.wrap .i64 (t14+(1:Int))),(b0_0,(b0_1,(b0_2,(b0_3,(b0_4,(b0_5,(b0_6,(b0_7,((List.set b1 (Int.toNat t14) true),(b2,(x1.2.1,()))))))))))))))))))))
 (
  some (.inr (.inr (t1,(t11,(t13,(b0_0,(b0_1,(b0_2,(b0_3,(b0_4,(b0_5,(b0_6,(b0_7,(b1,(b3,()))))))))))))))))
def astrariumref14_Search_M14 (c0:astrariumref14_state_D) (c4:astrariumref14_cycle_D) :astrariumref14_Search_D14:=mkL (u15 (astrariumref14_Search_B14 c0.F c4.F)) (pL (kD c0 (kB c4 k0)) e0 1 l0 fun d=>by kernel_rfl)
def astrariumref14_Search_N14:astrariumref14_Search_D14:=astrariumref14_Search_M14 astrariumref14_state_K astrariumref14_cycle_K 
def astrariumref14_Search_L14:astrariumref14_Search_T14:=lpD (u15 (astrariumref14_Search_B14 astrariumref14_state_FF astrariumref14_cycle_FF)) NN
def astrariumref14_Search_B9 (F3:astrariumref14_many_T) (L14:astrariumref14_Search_T14) (t1 t11 b0_0:Int) (b0_1:List Int) (b0_2:List (Sh.T Za0)) (b0_3 b0_4 b0_5:List Int) (b0_6:List (Sh.T Za1)) (b0_7:List (Sh.T Za0)) (b1 b2:List Bool):Option (TL astrariumref14_Search_lay9.σs⊕Out astrariumref14_Search_outs9):=
 br (iE t11 t1)
 (
  bnd (F3 ((b0_0,(b0_1,(b0_2,(b0_3,(b0_4,(b0_5,(b0_6,(b0_7,())))))))),())) fun x0=>
  chk (both (iE (0:Int) x0.1) (both (iE x0.1 x0.1) (iE (@HMul.hMul (Int) (Int) (Int) _ (Int.ofNat 1) x0.1) (281474976710656:Int))))<|
  bnd (L14 (t1,(t11,(false,((0:Int),(b0_0,(b0_1,(b0_2,(b0_3,(b0_4,(b0_5,(b0_6,(b0_7,(b1,(b2,((List.replicate (Int.toNat x0.1) (Sh.zero .bool)),())))))))))))))))) fun x1=>
  (match x1 with
  | .inl x2=>
   some (.inr (.inl x2))
  | .inr x2=>
   br (Bool.not x2.2.2.1)
   (
    some (.inr (.inr x2.2.2.2.2.2.2.2.2.2.2.2)))
   (
    some (.inl (x2.1,((IntKind.wrap .i64 (@HAdd.hAdd (Int) (Int) (Int) _ x2.2.1 (1:Int))),x2.2.2.2))))
  ))
 (
  some (.inr (.inr (b1,(b2,())))))
def astrariumref14_Search_M9 (c3:astrariumref14_many_D) (M14:astrariumref14_Search_D14):astrariumref14_Search_D9:=mkL (u12 (astrariumref14_Search_B9 c3.F M14.L)) (pL (kD c3 k0) e0 1 (sC M14 l0) fun d=>by kernel_rfl)
def astrariumref14_Search_N9:astrariumref14_Search_D9:=astrariumref14_Search_M9 astrariumref14_many_K astrariumref14_Search_N14
def astrariumref14_Search_L9:astrariumref14_Search_T9:=lpD (u12 (astrariumref14_Search_B9 astrariumref14_many_FF astrariumref14_Search_L14)) NN
def astrariumref14_Search_B25 (t15:Int) (t16:Bool) (t17:Int) (b0 b1:List Bool):Option (TL astrariumref14_Search_lay25.σs⊕Out astrariumref14_Search_outs25):=
 br (iL t17 (Int.ofNat (List.length b1)))
 (
  chk (inb t17 (List.length b0))<|
  br (gt .bool b0 t17)
  (
   br t16
   (
    chk (inb t17 (List.length b1))<|
    br (Bool.not (gt .bool b1 t17))
    (
     some (.inl ((IntKind.wrap .i64 (t15+(1:Int))),((selB true true false),((IntKind.wrap .i64 (t17+(1:Int))),(b0,(b1,())))))))
    (
     chk (inb t17 (List.length b0))<|
     some (.inl ((IntKind.wrap .i64 (t15+(1:Int))),((selB true (selB false true (gt .bool b0 t17)) false),((IntKind.wrap .i64 (t17+(1:Int))),(b0,(b1,()))))))))
   (
    some (.inl ((IntKind.wrap .i64 (t15+(1:Int))),(false,((IntKind.wrap .i64 (t17+(1:Int))),(b0,(b1,()))))))))
  (
   br t16
   (
    chk (inb t17 (List.length b1))<|
    br (Bool.not (gt .bool b1 t17))
    (
     some (.inl (t15,((selB true true false),((IntKind.wrap .i64 (t17+(1:Int))),(b0,(b1,())))))))
    (
     chk (inb t17 (List.length b0))<|
     some (.inl (t15,((selB true (selB false true (gt .bool b0 t17)) false),((IntKind.wrap .i64 (t17+(1:Int))),(b0,(b1,()))))))))
   (
    some (.inl (t15,(false,((IntKind.wrap .i64 (t17+(1:Int))),(b0,(b1,())))))))))
 (
  some (.inr (t15,(t16,()))))
def astrariumref14_Search_N25  :astrariumref14_Search_D25:=mkL (u5 astrariumref14_Search_B25) (pL k0 e0 1 l0 fun d=>by kernel_rfl)
def astrariumref14_Search_L25:astrariumref14_Search_T25:=lpD (u5 astrariumref14_Search_B25) NN
abbrev astrariumref14_Search_σs:List Sh:=[Za5,(.int .i64)]
abbrev astrariumref14_Search_τs:List Sh:=[(.int .i64),.bool,(.int .i64)]
abbrev astrariumref14_Search_T:=TL astrariumref14_Search_σs→Option (TL astrariumref14_Search_τs)
abbrev astrariumref14_Search_D:=Kd 20 astrariumref14_Search_σs astrariumref14_Search_τs
def astrariumref14_Search_F (F0:astrariumref14_state_T) (F1:astrariumref14_number_T) (F2:astrariumref14_Starts_T) (F3:astrariumref14_many_T) (F4:astrariumref14_cycle_T) (L5:astrariumref14_Search_T5) (L9:astrariumref14_Search_T9) (L14:astrariumref14_Search_T14) (L25:astrariumref14_Search_T25) (a0:Sh.T Za5) (a1:Int):Option (TL astrariumref14_Search_τs):=
 bnd (F3 (a0,())) fun x0=>
 chk (both (iE (0:Int) x0.1) (both (iE x0.1 x0.1) (iE (@HMul.hMul (Int) (Int) (Int) _ (Int.ofNat 1) x0.1) (281474976710656:Int))))<|
 bnd (F3 (a0,())) fun x1=>
 chk (both (iE (0:Int) x1.1) (both (iE x1.1 x1.1) (iE (@HMul.hMul (Int) (Int) (Int) _ (Int.ofNat 1) x1.1) (281474976710656:Int))))<|
 bnd (F2 (a0,())) fun x2=>
 bnd (L5 (a1,(x2.1,((0:Int),(a0.1,(a0.2.1,(a0.2.2.1,(a0.2.2.2.1,(a0.2.2.2.2.1,(a0.2.2.2.2.2.1,(a0.2.2.2.2.2.2.1,(a0.2.2.2.2.2.2.2.1,((List.replicate (Int.toNat x0.1) (Sh.zero .bool)),((List.replicate (Int.toNat x1.1) (Sh.zero .bool)),())))))))))))))) fun x3=>
 bnd (L9 (x3.1,((1:Int),x3.2))) fun x4=>
 (match x4 with
 | .inl x5=>
  some x5
 | .inr x5=>
  bnd (L25 ((0:Int),(true,((0:Int),x5)))) fun x6=>
  some ((0:Int),(x6.2.1,(x6.1,())))
 )
def astrariumref14_Search_G (c0:astrariumref14_state_D) (c1:astrariumref14_number_D) (c2:astrariumref14_Starts_D) (c3:astrariumref14_many_D) (c4:astrariumref14_cycle_D) (M5:astrariumref14_Search_D5) (M9:astrariumref14_Search_D9) (M14:astrariumref14_Search_D14) (M25:astrariumref14_Search_D25):astrariumref14_Search_D:=⟨u2 (astrariumref14_Search_F c0.F c1.F c2.F c3.F c4.F M5.L M9.L M14.L M25.L),pD Tryz.func20 106 (kD c0 (kD c1 (kD c2 (kD c3 (kB c4 k0))))) e0 1 (sS (sC M5 (sC M9 (sC M25 l0)))) fun d=>by kernel_rfl⟩
def astrariumref14_Search_K:astrariumref14_Search_D:=astrariumref14_Search_G astrariumref14_state_K astrariumref14_number_K astrariumref14_Starts_K astrariumref14_many_K astrariumref14_cycle_K astrariumref14_Search_N5 astrariumref14_Search_N9 astrariumref14_Search_N14 astrariumref14_Search_N25
def astrariumref14_Search_FF:astrariumref14_Search_T:=astrariumref14_Search_K.F
end Go.Proofs.YtkcpdpplobhpaaaGreat.V
end
section
namespace Go.Proofs.YtkcpdpplobhpaaaGreat.V
open Go Go.RowKit
open Go.Proofs.YtkcpdpplobhpaaaGreat.Pl
set_option maxRecDepth 10000
def widI (n:NetD):Int:=(n.latches.length:Int)+cellsN n
def wid (n:NetD):Nat:=(widI n).toNat
structure Tiny (n:NetD) (V:Nat):Prop where
 hs:Snd n V
 h0:Zj3 n=0
 ha:acyB (ndL n) V=true
 hc:Pl.Zkz n=0
 ins:n.inputs.length≤6
 wd:widI n=(wid n:Int)
 w10:wid n≤10
 sm:∀m∈n.mems,Small m
 off:n.latches.length+offL n.mems=wid n
section
variable {n:NetD} {V:Nat} (t:Tiny n V)
include t
variable (ft:Fit n)
include ft
end
section
variable {n:NetD} {V:Nat}
end
section
variable {n:NetD} {V:Nat} (t:Tiny n V)
variable (ft:Fit n)
include t
include ft
end
section
variable {n:NetD} {V:Nat} (t:Tiny n V)
include t
end
section
variable {n:NetD} {V:Nat} (t:Tiny n V)
variable (ft:Fit n)
include t
include ft
end
section
variable {n:NetD} {V:Nat} (t:Tiny n V)
include t
end
section
variable {n:NetD} {V:Nat} (t:Tiny n V)
variable (ft:Fit n)
include t
include ft
end
section
variable {n:NetD} {V:Nat}
end
section
variable {n:NetD} {V:Nat} (t:Tiny n V)
variable (ft:Fit n)
include t
include ft
end
end Go.Proofs.YtkcpdpplobhpaaaGreat.V
end
