import Derived.Test.YtkcpdpplobhpaaaGreatKRb
import Derived.Test.YtkcpdpplobhpaaaGreatKRd
import Derived.Test.YtkcpdpplobhpaaaGreatKSb
set_option linter.unusedVariables false
set_option linter.unusedSimpArgs false
set_option linter.unnecessarySimpa false
section
namespace Go.Proofs.YtkcpdpplobhpaaaGreat.V
open Go Go.RowKit
set_option maxRecDepth 1000000
abbrev nsim_Machine__Set_lay:Lay:={ T:=[(0,.ptr 0 0),(1,.agg [.fz .bool,.fz (.sl Za3)])],h:=[(0,.cells [.int .i64,.fz (.int .i64),.fz Za0,.fz (.int .i64),.fz (.int .i64),.fz (.int .i64),.fz Za1,.fz Za0,.fz Za4,.hd 1 .bool,.rhd 2] 145),(1,.arr .bool 4),(2,.rams 220)],nx:=3 }
abbrev nsim_Machine__Set_outs:List (Ev.Ex×Lay):=[(.ret,{ T:=[(0,.int .i64)],h:=[(0,.cells [.int .i64,.fz (.int .i64),.fz Za0,.fz (.int .i64),.fz (.int .i64),.fz (.int .i64),.fz Za1,.fz Za0,.fz Za4,.hd 3 .bool,.rhd 4] 145),(3,.arr .bool 4),(4,.rams 220)],nx:=5 })]
abbrev nsim_Machine__Set_T:=TL nsim_Machine__Set_lay.σs→Option (Out nsim_Machine__Set_outs)
abbrev nsim_Machine__Set_D:=Kb 217 2 nsim_Machine__Set_lay 1 nsim_Machine__Set_outs
def nsim_Machine__Set_F (F0:Zaj5) (F1:Zaey) (F2:Zaxx) (t1_0:List Bool) (t1_1:List (List (Sh.T Za3))) (b0_0:Int) (b0_1:List Int) (b0_2:List (Sh.T Za0)) (b0_3 b0_4 b0_5:List Int) (b0_6:List (Sh.T Za1)) (b0_7:List (Sh.T Za0)) (b0_8:List (Sh.T Za4)) (b1:List Bool) (b2:List (Sh.T (.agg [(.int .i64),(.int .i64),(.sl Za3)]))):Option (Out nsim_Machine__Set_outs):=
 bnd (F2 (b0_0,(b0_1,(b0_2,(b0_3,(b0_4,(b0_5,(b0_6,(b0_7,(t1_0,(t1_1,()))))))))))) fun x0=>
 br (Bool.not (iQ x0.1 (0:Int)))
 (
  some (x0.1,(b0_0,(b0_1,(b0_2,(b0_3,(b0_4,(b0_5,(b0_6,(b0_7,(b0_8,(b1,(b2,())))))))))))))
 (
  bnd (F1 (t1_0,())) fun x1=>
  some ((0:Int),(b0_0,(b0_1,(b0_2,(b0_3,(b0_4,(b0_5,(b0_6,(b0_7,(b0_8,(x1.1,(x0.2.1,())))))))))))))
def nsim_Machine__Set_G (c0:Zaj7) (c1:Zaez) (c2:Zasw) :nsim_Machine__Set_D:=⟨u13 (nsim_Machine__Set_F c0.F c1.F c2.F),pB Tryz.func217 31 (kB c0 (kB c1 (kB c2 k0))) e0 1 (sS l0) fun d=>by kernel_rfl⟩
def nsim_Machine__Set_K:nsim_Machine__Set_D:=nsim_Machine__Set_G Zaj6 Zacy Zaxy 
abbrev Zadn:Lay:={ T:=[(0,.fz .bool),(1,.bool),(7,.int .i64),(8,.int .i64)],h:=[],nx:=0 }
abbrev Zad9:List (Ev.Ex×Lay):=[(.ret,{ T:=[(4,.int .i64)],h:=[],nx:=0 }),((.exit 0),{ T:=[],h:=[],nx:=0 })]
abbrev Zapv:=TL Zadn.σs→Option (Out Zad9)
abbrev Zapx:=Ld 0 19 (Zb5 [0] (Zaa Tryz.f218)) Zadn Zad9
def Zacu (t0:List Bool) (t1:Bool) (t7 t8:Int):Option (TL Zadn.σs⊕Out Zad9):=
 br (iL t8 t7)
 (
  chk (inb t8 (List.length t0))<|
  br (@decide _ (Bool.decEq t1 (gt .bool t0 t8)))
  (
   some (.inr (.inl (t8,()))))
  (
   some (.inl (t0,(t1,(t7,((IntKind.wrap .i64 (t8+(1:Int))),())))))))
 (
  some (.inr (.inr ())))
def Zaxn  :Zapx:=mkL (u4 Zacu) (pL k0 e0 1 l0 fun d=>by kernel_rfl)
abbrev Zapu:List Sh:=[(.sl .bool),.bool]
abbrev Zaj3:List Sh:=[(.int .i64)]
abbrev Zajz:=TL Zapu→Option (TL Zaj3)
abbrev Zaew:=Kd 218 Zapu Zaj3
def Zay1 (L2:Zapv) (a0:List Bool) (a1:Bool):Option (TL Zaj3):=
 bnd (L2 (a0,(a1,((Int.ofNat (List.length a0)),((0:Int),()))))) fun x0=>
 (match x0 with
 | .inl x1=>
  some (x1.1,())
 | .inr x1=>
  some ((Int.negSucc 0),())
 )
def Zay0 (M2:Zapx):Zaew:=⟨u2 (Zay1 M2.L),pD Tryz.func218 19 k0 e0 1 (sS (sC M2 l0)) fun d=>by kernel_rfl⟩
def Zak0:Zaew:=Zay0  Zaxn
abbrev reach_small_σs:List Sh:=[Za5]
abbrev reach_small_τs:List Sh:=[(.int .i64)]
abbrev reach_small_T:=TL reach_small_σs→Option (TL reach_small_τs)
abbrev reach_small_D:=Kd 51 reach_small_σs reach_small_τs
def reach_small_F (F0:expand_Cells_T) (F1:Zaq7) (a0:Sh.T Za5):Option (TL reach_small_τs):=
 bnd (F1 (a0,())) fun x0=>
 br (Bool.not (iQ x0.1 (0:Int)))
 (
  some (x0.1,()))
 (
  br (iL (6:Int) (Int.ofNat (List.length a0.2.1)))
  (
   some ((17:Int),()))
  (
   bnd (F0 (a0,())) fun x1=>
   br (selB false true (iL (10:Int) (IntKind.wrap .i64 (@HAdd.hAdd (Int) (Int) (Int) _ (Int.ofNat (List.length a0.2.2.1)) x1.1))))
   (
    some ((17:Int),()))
   (
    some ((0:Int),()))))
def reach_small_G (c0:expand_Cells_D) (c1:Zamw) :reach_small_D:=⟨u1 (reach_small_F c0.F c1.F),pD Tryz.func51 22 (kD c0 (kD c1 k0)) e0 1 (sS l0) fun d=>by kernel_rfl⟩
def reach_small_K:reach_small_D:=reach_small_G expand_Cells_K Zaq8 
abbrev reach_Starts_lay6:Lay:={ T:=[(1,.ptr 0 0),(2,.hd 1 Zab),(5,.ptr 2 0),(26,.int .i64),(27,.int .i64)],h:=[(0,.cells lNet 27),(1,.arr Zab 40),(2,.cells [.int .i64,.fz (.int .i64),.fz Za0,.fz (.int .i64),.fz (.int .i64),.fz (.int .i64),.fz Za1,.fz Za0,.int .i64,.nilm,.nils,.nilp] 100)],nx:=3 }
abbrev reach_Starts_outs6:List (Ev.Ex×Lay):=[((.exit 0),{ T:=[(2,.hd 0 Zab)],h:=[(0,.arr Zab 40)],nx:=1 })]
abbrev reach_Starts_T6:=TL reach_Starts_lay6.σs→Option (Out reach_Starts_outs6)
abbrev reach_Starts_D6:=Ld 0 43 (Zb5 [0] (Zaa Tryz.f15)) reach_Starts_lay6 reach_Starts_outs6
def reach_Starts_B6 (F0:expand_Back_T) (F1:Zb2u) (F2:Zb04) (t26 t27 b0_0:Int) (b0_1:List Int) (b0_2:List (Sh.T Za0)) (b0_3 b0_4 b0_5:List Int) (b0_6:List (Sh.T Za1)) (b0_7:List (Sh.T Za0)) (b1:List (Sh.T Zab)) (b2_0:Int) (b2_1:List Int) (b2_2:List (Sh.T Za0)) (b2_3 b2_4 b2_5:List Int) (b2_6:List (Sh.T Za1)) (b2_7:List (Sh.T Za0)) (b2_8:Int):Option (TL reach_Starts_lay6.σs⊕Out reach_Starts_outs6):=
 br (iL t27 t26)
 (
  bnd (F1 ((IntKind.wrap .u64 t27),(b2_8,()))) fun x0=>
  bnd (F0 ((b2_0,(b2_1,(b2_2,(b2_3,(b2_4,(b2_5,(b2_6,(b2_7,())))))))),((x0.1,([],())),()))) fun x1=>
  chk (iQ x1.2.1 x1.2.1)<|
  bnd (F2 ((b0_0,(b0_1,(b0_2,(b0_3,(b0_4,(b0_5,(b0_6,(b0_7,())))))))),((x1.1.1,(x1.1.2.1,())),()))) fun x2=>
  br (iQ x2.1 (0:Int))
  (
   chk (room 48 (List.length (ap b1 ((x1.1.1,(x1.1.2.1,())) :: []))))<|
   some (.inl (t26,((IntKind.wrap .i64 (t27+(1:Int))),(b0_0,(b0_1,(b0_2,(b0_3,(b0_4,(b0_5,(b0_6,(b0_7,((ap b1 ((x1.1.1,(x1.1.2.1,())) :: [])),(b2_0,(b2_1,(b2_2,(b2_3,(b2_4,(b2_5,(b2_6,(b2_7,(b2_8,()))))))))))))))))))))))
  (
   some (.inl (t26,((IntKind.wrap .i64 (t27+(1:Int))),(b0_0,(b0_1,(b0_2,(b0_3,(b0_4,(b0_5,(b0_6,(b0_7,(b1,(b2_0,(b2_1,(b2_2,(b2_3,(b2_4,(b2_5,(b2_6,(b2_7,(b2_8,())))))))))))))))))))))))
 (
  some (.inr (b1,())))
def reach_Starts_M6 (c0:expand_Back_D) (c1:Zayo) (c2:Zaw9) :reach_Starts_D6:=mkL (u20 (reach_Starts_B6 c0.F c1.F c2.F)) (pL (kD c0 (kD c1 (kD c2 k0))) (eC Tryz.func53 (by kernel_rfl) e0) 5 l0 fun d=>by kernel_rfl)
def reach_Starts_N6:reach_Starts_D6:=reach_Starts_M6 expand_Back_K Zb2v Zb06 
abbrev reach_Starts_σs:List Sh:=[Za5]
abbrev reach_Starts_τs:List Sh:=[(.sl Zab),(.int .i64)]
abbrev reach_Starts_T:=TL reach_Starts_σs→Option (TL reach_Starts_τs)
abbrev reach_Starts_D:=Kd 15 reach_Starts_σs reach_Starts_τs
def reach_Starts_F (F0:expand_Back_T) (F1:Zb2u) (F2:Zb04) (F3:expand_Cells_T) (F4:reach_small_T) (L6:reach_Starts_T6) (a0:Sh.T Za5):Option (TL reach_Starts_τs):=
 bnd (F4 (a0,())) fun x0=>
 br (Bool.not (iQ x0.1 (0:Int)))
 (
  some ([],(x0.1,())))
 (
  bnd (F3 (a0,())) fun x1=>
  chk (iE (0:Int) (IntKind.wrap .i64 (@HAdd.hAdd (Int) (Int) (Int) _ (Int.ofNat (List.length a0.2.2.1)) x1.1)))<|
  bnd (L6 ((IntKind.wrap .i64 ((1:Int)*(HPow.hPow (2:Int) (Min.min (Int.toNat (IntKind.wrap .i64 (@HAdd.hAdd (Int) (Int) (Int) _ (Int.ofNat (List.length a0.2.2.1)) x1.1))) 64)))),((0:Int),(a0.1,(a0.2.1,(a0.2.2.1,(a0.2.2.2.1,(a0.2.2.2.2.1,(a0.2.2.2.2.2.1,(a0.2.2.2.2.2.2.1,(a0.2.2.2.2.2.2.2.1,([],(a0.1,(a0.2.1,(a0.2.2.1,(a0.2.2.2.1,(a0.2.2.2.2.1,(a0.2.2.2.2.2.1,(a0.2.2.2.2.2.2.1,(a0.2.2.2.2.2.2.2.1,((IntKind.wrap .i64 (@HAdd.hAdd (Int) (Int) (Int) _ (Int.ofNat (List.length a0.2.2.1)) x1.1)),()))))))))))))))))))))) fun x2=>
  some (x2.1,((0:Int),())))
def reach_Starts_G (c0:expand_Back_D) (c1:Zayo) (c2:Zaw9) (c3:expand_Cells_D) (c4:reach_small_D) (M6:reach_Starts_D6):reach_Starts_D:=⟨u1 (reach_Starts_F c0.F c1.F c2.F c3.F c4.F M6.L),pD Tryz.func15 43 (kD c0 (kD c1 (kD c2 (kD c3 (kD c4 k0))))) (eC Tryz.func53 (by kernel_rfl) e0) 5 (sS (sC M6 l0)) fun d=>by kernel_rfl⟩
def reach_Starts_K:reach_Starts_D:=reach_Starts_G expand_Back_K Zb2v Zb06 expand_Cells_K reach_small_K reach_Starts_N6
abbrev reach_begin_lay:Lay:={ T:=[(0,.agg lNet)],h:=[],nx:=0 }
abbrev yRe0:List (Nat×LO):=[(0,.cells [.int .i64,.fz (.int .i64),.fz Za0,.fz (.int .i64),.fz (.int .i64),.fz (.int .i64),.fz Za1,.fz Za0,.int .i64,.mp 1,.hd 2 (.int .i64),.ptr 3 0] 100),(1,.map .i64 sreach_step),(2,.arr (.int .i64) 3),(3,.cells [.int .i64,.fz (.int .i64),.fz Za0,.fz (.int .i64),.fz (.int .i64),.fz (.int .i64),.fz Za1,.fz Za0,.fz Za4,.hd 4 .bool,.rhd 5] 145),(4,.arr .bool 4),(5,.rams 220)]
abbrev yRe1:List (Nat×LO):=[(0,.cells [.int .i64,.fz (.int .i64),.fz Za0,.fz (.int .i64),.fz (.int .i64),.fz (.int .i64),.fz Za1,.fz Za0,.int .i64,.mp 1,.hd 2 (.int .i64),.ptr 3 0] 100),(1,.map .i64 sreach_step),(2,.arr (.int .i64) 3),(3,.cells [.int .i64,.fz (.int .i64),.fz Za0,.fz (.int .i64),.fz (.int .i64),.fz (.int .i64),.fz Za1,.fz Za0,.fz Za4,.hd 6 .bool,.rhd 7] 145),(6,.arr .bool 4),(7,.rams 220),(8,.cells [.int .i64,.int .i64] 108),(9,.arr (.int .i64) 3)]
abbrev yRe2:List (Nat×LO):=[(0,.cells [.int .i64,.fz (.int .i64),.fz Za0,.fz (.int .i64),.fz (.int .i64),.fz (.int .i64),.fz Za1,.fz Za0,.int .i64,.mp 1,.hd 6 (.int .i64),.ptr 3 0] 100),(1,.map .i64 sreach_step),(3,.cells [.int .i64,.fz (.int .i64),.fz Za0,.fz (.int .i64),.fz (.int .i64),.fz (.int .i64),.fz Za1,.fz Za0,.fz Za4,.hd 7 .bool,.rhd 8] 145),(6,.arr (.int .i64) 3),(7,.arr .bool 4),(8,.rams 220),(9,.cells [.int .i64,.int .i64] 108)]
abbrev yRe3:Lay:={ T:=[(2,.ptr 8 0),(3,.int .i64),(4,.bool)],h:=[(0,.cells [.int .i64,.fz (.int .i64),.fz Za0,.fz (.int .i64),.fz (.int .i64),.fz (.int .i64),.fz Za1,.fz Za0,.int .i64,.mp 1,.hd 2 (.int .i64),.ptr 3 0] 100),(1,.map .i64 sreach_step),(2,.arr (.int .i64) 3),(3,.cells [.int .i64,.fz (.int .i64),.fz Za0,.fz (.int .i64),.fz (.int .i64),.fz (.int .i64),.fz Za1,.fz Za0,.fz Za4,.hd 6 .bool,.rhd 7] 145),(6,.arr .bool 4),(7,.rams 220),(8,.cells [.int .i64,.int .i64] 108)],nx:=9 }
abbrev yRe4:List (Nat×LO):=[(0,.cells [.int .i64,.fz (.int .i64),.fz Za0,.fz (.int .i64),.fz (.int .i64),.fz (.int .i64),.fz Za1,.fz Za0,.int .i64,.mp 1,.hd 6 (.int .i64),.ptr 3 0] 100),(1,.map .i64 sreach_step),(3,.cells [.int .i64,.fz (.int .i64),.fz Za0,.fz (.int .i64),.fz (.int .i64),.fz (.int .i64),.fz Za1,.fz Za0,.fz Za4,.hd 7 .bool,.rhd 8] 145),(6,.arr (.int .i64) 3),(7,.arr .bool 4),(8,.rams 220)]
abbrev yRe5:Lay:={ T:=[(0,.ptr 0 0),(2,.ptr 8 0),(5,.hd 9 (.int .i64)),(6,.func 187 [.ptr 0 0] []),(20,.hd 2 (.int .i64)),(21,.int .i64),(22,.int .i64)],h:=yRe1,nx:=10 }
abbrev reach_begin_outs:List (Ev.Ex×Lay):=[(.ret,{ T:=[(0,.nilp),(1,.int .i64)],h:=[],nx:=0 }),(.ret,{ T:=[(0,.ptr 0 0),(1,.int .i64)],h:=yRe0,nx:=6 })]
abbrev reach_begin_T:=TL reach_begin_lay.σs→Option (Out reach_begin_outs)
abbrev reach_begin_D:=Kb 59 1 reach_begin_lay 2 reach_begin_outs
abbrev reach_begin_lay7:Lay:={ T:=[(5,.int .i64),(6,.ptr 0 0),(38,.fz Zab),(39,.int .i64),(40,.int .i64)],h:=yRe0,nx:=6 }
abbrev reach_begin_outs7:List (Ev.Ex×Lay):=[((.exit 0),{ T:=[(5,.int .i64),(6,.ptr 0 0)],h:=yRe0,nx:=6 })]
abbrev reach_begin_T7:=TL reach_begin_lay7.σs→Option (Out reach_begin_outs7)
abbrev reach_begin_D7:=Ld 0 66 (Zb5 [0] (Zaa Tryz.f59)) reach_begin_lay7 reach_begin_outs7
def reach_begin_B7 (F0:bits_Word_T) (F4:expand_State_T) (t5:Int) (t38:List (Sh.T Zab)) (t39 t40 b0_0:Int) (b0_1:List Int) (b0_2:List (Sh.T Za0)) (b0_3 b0_4 b0_5:List Int) (b0_6:List (Sh.T Za1)) (b0_7:List (Sh.T Za0)) (b0_8:Int) (b1:List (Sh.T (.agg [(.int .i64),sreach_step]))) (b2:List Int) (b3_0:Int) (b3_1:List Int) (b3_2:List (Sh.T Za0)) (b3_3 b3_4 b3_5:List Int) (b3_6:List (Sh.T Za1)) (b3_7:List (Sh.T Za0)) (b3_8:List (Sh.T Za4)) (b4:List Bool) (b5:List (Sh.T (.agg [(.int .i64),(.int .i64),(.sl Za3)]))):Option (TL reach_begin_lay7.σs⊕Out reach_begin_outs7):=
 br (iL t40 t39)
 (
  chk (inb t40 (List.length t38))<|
  bnd (F4 (b0_0,(b0_1,(b0_2,(b0_3,(b0_4,(b0_5,(b0_6,(b0_7,((gt Zab t38 t40).1,((gt Zab t38 t40).2.1,()))))))))))) fun x0=>
  chk (iQ x0.1 x0.1)<|
  bnd (F0 (x0.2.1,())) fun x1=>
  chk (room 8 (List.length (ap b2 ((IntKind.wrap .i64 x1.1) :: []))))<|
  some (.inl (t5,(t38,(t39,((IntKind.wrap .i64 (t40+(1:Int))),(b0_0,(b0_1,(b0_2,(b0_3,(b0_4,(b0_5,(b0_6,(b0_7,(b0_8,((@mput sreach_step (IntKind.wrap .i64 x1.1) ((Int.negSucc 0),((0:Int),())) b1),((ap b2 ((IntKind.wrap .i64 x1.1) :: [])),(b3_0,(b3_1,(b3_2,(b3_3,(b3_4,(b3_5,(b3_6,(b3_7,(b3_8,(b4,(b5,()))))))))))))))))))))))))))))
 (
  some (.inr (t5,(b0_0,(b0_1,(b0_2,(b0_3,(b0_4,(b0_5,(b0_6,(b0_7,(b0_8,(b1,(b2,(b3_0,(b3_1,(b3_2,(b3_3,(b3_4,(b3_5,(b3_6,(b3_7,(b3_8,(b4,(b5,())))))))))))))))))))))))))
def reach_begin_M7 (c0:bits_Word_D) (c4:expand_State_D) :reach_begin_D7:=mkL (fun d=>reach_begin_B7 c0.F c4.F  d.1 d.2.1 d.2.2.1 d.2.2.2.1 d.2.2.2.2.1 d.2.2.2.2.2.1 d.2.2.2.2.2.2.1 d.2.2.2.2.2.2.2.1 d.2.2.2.2.2.2.2.2.1 d.2.2.2.2.2.2.2.2.2.1 d.2.2.2.2.2.2.2.2.2.2.1 d.2.2.2.2.2.2.2.2.2.2.2.1 d.2.2.2.2.2.2.2.2.2.2.2.2.1 d.2.2.2.2.2.2.2.2.2.2.2.2.2.1 d.2.2.2.2.2.2.2.2.2.2.2.2.2.2.1 d.2.2.2.2.2.2.2.2.2.2.2.2.2.2.2.1 d.2.2.2.2.2.2.2.2.2.2.2.2.2.2.2.2.1 d.2.2.2.2.2.2.2.2.2.2.2.2.2.2.2.2.2.1 d.2.2.2.2.2.2.2.2.2.2.2.2.2.2.2.2.2.2.1 d.2.2.2.2.2.2.2.2.2.2.2.2.2.2.2.2.2.2.2.1 d.2.2.2.2.2.2.2.2.2.2.2.2.2.2.2.2.2.2.2.2.1 d.2.2.2.2.2.2.2.2.2.2.2.2.2.2.2.2.2.2.2.2.2.1 d.2.2.2.2.2.2.2.2.2.2.2.2.2.2.2.2.2.2.2.2.2.2.1 d.2.2.2.2.2.2.2.2.2.2.2.2.2.2.2.2.2.2.2.2.2.2.2.1 d.2.2.2.2.2.2.2.2.2.2.2.2.2.2.2.2.2.2.2.2.2.2.2.2.1 d.2.2.2.2.2.2.2.2.2.2.2.2.2.2.2.2.2.2.2.2.2.2.2.2.2.1) (pL (kD c0 (kB c4 k0)) (eC Tryz.func118 (by kernel_rfl) e0) 5 l0 fun d=>by kernel_rfl)
def reach_begin_N7:reach_begin_D7:=reach_begin_M7 bits_Word_K expand_State_K 
def reach_begin_F (F0:bits_Word_T) (F1:Zb4w) (F2:expand_Cells_T) (F3:reach_Starts_T) (F4:expand_State_T) (F5:Zb7x) (L7:reach_begin_T7) (t0_0:Int) (t0_1:List Int) (t0_2:List (Sh.T Za0)) (t0_3 t0_4 t0_5:List Int) (t0_6:List (Sh.T Za1)) (t0_7:List (Sh.T Za0)):Option (Out reach_begin_outs):=
 bnd (F3 ((t0_0,(t0_1,(t0_2,(t0_3,(t0_4,(t0_5,(t0_6,(t0_7,())))))))),())) fun x0=>
 br (Bool.not (iQ x0.2.1 (0:Int)))
 (
  some (.inl (x0.2.1,())))
 (
  bnd (F2 ((t0_0,(t0_1,(t0_2,(t0_3,(t0_4,(t0_5,(t0_6,(t0_7,())))))))),())) fun x1=>
  bnd (F1 ((t0_0,(t0_1,(t0_2,(t0_3,(t0_4,(t0_5,(t0_6,(t0_7,())))))))),())) fun x2=>
  bnd (F5 (t0_0,(t0_1,(t0_2,(t0_3,(t0_4,(t0_5,(t0_6,(t0_7,(x2.1.1,(x2.1.2.1,()))))))))))) fun x3=>
  (match x3 with
  | .inl x4=>
   chk (iQ x4.1 x4.1)<|
   none
  | .inr x4=>
   chk (iQ x4.1 x4.1)<|
   bnd (L7 (x4.1,(x0.1,((Int.ofNat (List.length x0.1)),((0:Int),(t0_0,(t0_1,(t0_2,(t0_3,(t0_4,(t0_5,(t0_6,(t0_7,((IntKind.wrap .i64 (@HAdd.hAdd (Int) (Int) (Int) _ (Int.ofNat (List.length t0_2)) x1.1)),([],([],x4.2)))))))))))))))) fun x5=>
   some (.inr x5)
  ))
def reach_begin_G (c0:bits_Word_D) (c1:Zaz5) (c2:expand_Cells_D) (c3:reach_Starts_D) (c4:expand_State_D) (c5:Zb5x) (M7:reach_begin_D7):reach_begin_D:=⟨u8 (reach_begin_F c0.F c1.F c2.F c3.F c4.F c5.F M7.L),pB Tryz.func59 66 (kD c0 (kD c1 (kD c2 (kD c3 (kB c4 (kB c5 k0)))))) (eC Tryz.func118 (by kernel_rfl) e0) 5 (sS (sC M7 l0)) fun d=>by kernel_rfl⟩
def reach_begin_K:reach_begin_D:=reach_begin_G bits_Word_K Zb4x expand_Cells_K reach_Starts_K expand_State_K Zb7y reach_begin_N7
abbrev nreach_search__round_lay:Lay:={ T:=[(0,.ptr 0 0)],h:=yRe0,nx:=6 }
abbrev nreach_search__round_outs:List (Ev.Ex×Lay):=[(.ret,{ T:=[(0,.agg [.int .i64,.int .i64]),(1,.int .i64),(2,.bool)],h:=yRe4,nx:=9 })]
abbrev nreach_search__round_T:=TL nreach_search__round_lay.σs→Option (Out nreach_search__round_outs)
abbrev nreach_search__round_D:=Kb 119 1 nreach_search__round_lay 3 nreach_search__round_outs
abbrev nreach_search__round_lay4:Lay:=yRe5
abbrev nreach_search__round_outs4:List (Ev.Ex×Lay):=[(.ret,yRe3),((.exit 0),{ T:=[(0,.ptr 0 0),(2,.ptr 8 0),(5,.hd 9 (.int .i64))],h:=yRe1,nx:=10 })]
abbrev nreach_search__round_T4:=TL nreach_search__round_lay4.σs→Option (Out nreach_search__round_outs4)
abbrev nreach_search__round_D4:=Ld 6 84 (Zb5 [0] (Zaa Tryz.f119)) nreach_search__round_lay4 nreach_search__round_outs4
abbrev nreach_search__round_lay7:Lay:={ T:=[(0,.ptr 0 0),(2,.ptr 8 0),(5,.hd 9 (.int .i64)),(6,.func 187 [.ptr 0 0] []),(8,.int .i64),(20,.hd 2 (.int .i64)),(21,.int .i64),(22,.int .i64),(32,.int .i64),(33,.int .i64)],h:=yRe1,nx:=10 }
abbrev nreach_search__round_outs7:List (Ev.Ex×Lay):=[(.ret,yRe3),((.exit 2),yRe5)]
abbrev nreach_search__round_T7:=TL nreach_search__round_lay7.σs→Option (Out nreach_search__round_outs7)
abbrev nreach_search__round_D7:=Ld 6 84 (Zb5 [0,0] (Zaa Tryz.f119)) nreach_search__round_lay7 nreach_search__round_outs7
def nreach_search__round_B7 (F0:bits_Word_T) (F1:expand_Back_T) (F2:Zajz) (F3:Zb2u) (F4:expand_State_T) (F5:nsim_Machine__State_T) (F6:Zar1) (F7:nsim_Machine__Set_T) (t8 t21 t22 t32 t33 b0_0:Int) (b0_1:List Int) (b0_2:List (Sh.T Za0)) (b0_3 b0_4 b0_5:List Int) (b0_6:List (Sh.T Za1)) (b0_7:List (Sh.T Za0)) (b0_8:Int) (b1:List (Sh.T (.agg [(.int .i64),sreach_step]))) (b2:List Int) (b3_0:Int) (b3_1:List Int) (b3_2:List (Sh.T Za0)) (b3_3 b3_4 b3_5:List Int) (b3_6:List (Sh.T Za1)) (b3_7:List (Sh.T Za0)) (b3_8:List (Sh.T Za4)) (b6:List Bool) (b7:List (Sh.T (.agg [(.int .i64),(.int .i64),(.sl Za3)]))) (b8_0 b8_1:Int) (b9:List Int):Option (TL nreach_search__round_lay7.σs⊕Out nreach_search__round_outs7):=
 br (iL t33 t32)
 (
  bnd (F3 ((IntKind.wrap .u64 t8),(b0_8,()))) fun x0=>
  bnd (F1 ((b0_0,(b0_1,(b0_2,(b0_3,(b0_4,(b0_5,(b0_6,(b0_7,())))))))),((x0.1,([],())),()))) fun x1=>
  chk (iQ x1.2.1 x1.2.1)<|
  bnd (F7 (x1.1.1,(x1.1.2.1,(b3_0,(b3_1,(b3_2,(b3_3,(b3_4,(b3_5,(b3_6,(b3_7,(b3_8,(b6,(b7,())))))))))))))) fun x2=>
  bnd (F3 ((IntKind.wrap .u64 t33),((Int.ofNat (List.length b0_1)),()))) fun x3=>
  bnd (F6 (x3.1,x2.2)) fun x4=>
  chk (iQ x4.2.1 x4.2.1)<|
  bnd (F5 (x4.2.2.1,(x4.2.2.2.1,(x4.2.2.2.2.1,(x4.2.2.2.2.2.1,(x4.2.2.2.2.2.2.1,(x4.2.2.2.2.2.2.2.1,(x4.2.2.2.2.2.2.2.2.1,(x4.2.2.2.2.2.2.2.2.2.1,(x4.2.2.2.2.2.2.2.2.2.2.1,(x4.2.2.2.2.2.2.2.2.2.2.2.1,(x4.2.2.2.2.2.2.2.2.2.2.2.2.1,())))))))))))) fun x5=>
  chk (bQ x4.1 x4.1)<|
  bnd (F4 (b0_0,(b0_1,(b0_2,(b0_3,(b0_4,(b0_5,(b0_6,(b0_7,x5.2.2.2.2.2.2.2.2.2.2.2))))))))) fun x6=>
  chk (iQ x6.1 x6.1)<|
  bnd (F0 (x6.2.1,())) fun x7=>
  chk (bQ x4.1 x4.1)<|
  bnd (F2 (x4.2.2.2.2.2.2.2.2.2.2.2.2.2.1,(true,()))) fun x8=>
  br (Bool.not x4.1)
  (
   some (.inl (t8,(t21,(t22,(t32,((IntKind.wrap .i64 (t33+(1:Int))),(b0_0,(b0_1,(b0_2,(b0_3,(b0_4,(b0_5,(b0_6,(b0_7,(b0_8,(b1,(b2,(x5.1,(x5.2.1,(x5.2.2.1,(x5.2.2.2.1,(x5.2.2.2.2.1,(x5.2.2.2.2.2.1,(x5.2.2.2.2.2.2.1,(x5.2.2.2.2.2.2.2.1,(x5.2.2.2.2.2.2.2.2.1,(x5.2.2.2.2.2.2.2.2.2.1,(x5.2.2.2.2.2.2.2.2.2.2.1,(b8_0,(b8_1,(b9,()))))))))))))))))))))))))))))))))
  (
   br (iE (0:Int) x8.1)
   (
    some (.inr (.inl (x8.1,(true,(b0_0,(b0_1,(b0_2,(b0_3,(b0_4,(b0_5,(b0_6,(b0_7,(b0_8,(b1,(b2,(x5.1,(x5.2.1,(x5.2.2.1,(x5.2.2.2.1,(x5.2.2.2.2.1,(x5.2.2.2.2.2.1,(x5.2.2.2.2.2.2.1,(x5.2.2.2.2.2.2.2.1,(x5.2.2.2.2.2.2.2.2.1,(x5.2.2.2.2.2.2.2.2.2.1,(x5.2.2.2.2.2.2.2.2.2.2.1,(t8,(t33,())))))))))))))))))))))))))))))
   (
    br (Bool.not (@mhas sreach_step b1 (IntKind.wrap .i64 x7.1)))
    (
     chk (room 8 (List.length (ap b9 ((IntKind.wrap .i64 x7.1) :: []))))<|
     some (.inl (t8,(t21,(t22,(t32,((IntKind.wrap .i64 (t33+(1:Int))),(b0_0,(b0_1,(b0_2,(b0_3,(b0_4,(b0_5,(b0_6,(b0_7,(b0_8,((@mput sreach_step (IntKind.wrap .i64 x7.1) (t8,(t33,())) b1),(b2,(x5.1,(x5.2.1,(x5.2.2.1,(x5.2.2.2.1,(x5.2.2.2.2.1,(x5.2.2.2.2.2.1,(x5.2.2.2.2.2.2.1,(x5.2.2.2.2.2.2.2.1,(x5.2.2.2.2.2.2.2.2.1,(x5.2.2.2.2.2.2.2.2.2.1,(x5.2.2.2.2.2.2.2.2.2.2.1,(b8_0,(b8_1,((ap b9 ((IntKind.wrap .i64 x7.1) :: [])),()))))))))))))))))))))))))))))))))
    (
     some (.inl (t8,(t21,(t22,(t32,((IntKind.wrap .i64 (t33+(1:Int))),(b0_0,(b0_1,(b0_2,(b0_3,(b0_4,(b0_5,(b0_6,(b0_7,(b0_8,(b1,(b2,(x5.1,(x5.2.1,(x5.2.2.1,(x5.2.2.2.1,(x5.2.2.2.2.1,(x5.2.2.2.2.2.1,(x5.2.2.2.2.2.2.1,(x5.2.2.2.2.2.2.2.1,(x5.2.2.2.2.2.2.2.2.1,(x5.2.2.2.2.2.2.2.2.2.1,(x5.2.2.2.2.2.2.2.2.2.2.1,(b8_0,(b8_1,(b9,())))))))))))))))))))))))))))))))))))
 (
  some (.inr (.inr (t21,(t22,(b0_0,(b0_1,(b0_2,(b0_3,(b0_4,(b0_5,(b0_6,(b0_7,(b0_8,(b1,(b2,(b3_0,(b3_1,(b3_2,(b3_3,(b3_4,(b3_5,(b3_6,(b3_7,(b3_8,(b6,(b7,(b8_0,(b8_1,(b9,()))))))))))))))))))))))))))))))
def nreach_search__round_M7 (c0:bits_Word_D) (c1:expand_Back_D) (c2:Zaew) (c3:Zayo) (c4:expand_State_D) (c5:nsim_Machine__State_D) (c6:Zaln) (c7:nsim_Machine__Set_D) :nreach_search__round_D7:=mkL (fun d=>nreach_search__round_B7 c0.F c1.F c2.F c3.F c4.F c5.F c6.F c7.F  d.1 d.2.1 d.2.2.1 d.2.2.2.1 d.2.2.2.2.1 d.2.2.2.2.2.1 d.2.2.2.2.2.2.1 d.2.2.2.2.2.2.2.1 d.2.2.2.2.2.2.2.2.1 d.2.2.2.2.2.2.2.2.2.1 d.2.2.2.2.2.2.2.2.2.2.1 d.2.2.2.2.2.2.2.2.2.2.2.1 d.2.2.2.2.2.2.2.2.2.2.2.2.1 d.2.2.2.2.2.2.2.2.2.2.2.2.2.1 d.2.2.2.2.2.2.2.2.2.2.2.2.2.2.1 d.2.2.2.2.2.2.2.2.2.2.2.2.2.2.2.1 d.2.2.2.2.2.2.2.2.2.2.2.2.2.2.2.2.1 d.2.2.2.2.2.2.2.2.2.2.2.2.2.2.2.2.2.1 d.2.2.2.2.2.2.2.2.2.2.2.2.2.2.2.2.2.2.1 d.2.2.2.2.2.2.2.2.2.2.2.2.2.2.2.2.2.2.2.1 d.2.2.2.2.2.2.2.2.2.2.2.2.2.2.2.2.2.2.2.2.1 d.2.2.2.2.2.2.2.2.2.2.2.2.2.2.2.2.2.2.2.2.2.1 d.2.2.2.2.2.2.2.2.2.2.2.2.2.2.2.2.2.2.2.2.2.2.1 d.2.2.2.2.2.2.2.2.2.2.2.2.2.2.2.2.2.2.2.2.2.2.2.1 d.2.2.2.2.2.2.2.2.2.2.2.2.2.2.2.2.2.2.2.2.2.2.2.2.1 d.2.2.2.2.2.2.2.2.2.2.2.2.2.2.2.2.2.2.2.2.2.2.2.2.2.1 d.2.2.2.2.2.2.2.2.2.2.2.2.2.2.2.2.2.2.2.2.2.2.2.2.2.2.1 d.2.2.2.2.2.2.2.2.2.2.2.2.2.2.2.2.2.2.2.2.2.2.2.2.2.2.2.1 d.2.2.2.2.2.2.2.2.2.2.2.2.2.2.2.2.2.2.2.2.2.2.2.2.2.2.2.2.1 d.2.2.2.2.2.2.2.2.2.2.2.2.2.2.2.2.2.2.2.2.2.2.2.2.2.2.2.2.2.1) (pL (kD c0 (kD c1 (kD c2 (kD c3 (kB c4 (kB c5 (kB c6 (kB c7 k0)))))))) (eC Tryz.func118 (by kernel_rfl) (eC Tryz.func53 (by kernel_rfl) (eC Tryz.func187 (by kernel_rfl) e0))) 5 l0 fun d=>by kernel_rfl)
def nreach_search__round_N7:nreach_search__round_D7:=nreach_search__round_M7 bits_Word_K expand_Back_K Zak0 Zb2v expand_State_K nsim_Machine__State_K Zar2 nsim_Machine__Set_K 
def nreach_search__round_B4 (L7:nreach_search__round_T7) (t21 t22 b0_0:Int) (b0_1:List Int) (b0_2:List (Sh.T Za0)) (b0_3 b0_4 b0_5:List Int) (b0_6:List (Sh.T Za1)) (b0_7:List (Sh.T Za0)) (b0_8:Int) (b1:List (Sh.T (.agg [(.int .i64),sreach_step]))) (b2:List Int) (b3_0:Int) (b3_1:List Int) (b3_2:List (Sh.T Za0)) (b3_3 b3_4 b3_5:List Int) (b3_6:List (Sh.T Za1)) (b3_7:List (Sh.T Za0)) (b3_8:List (Sh.T Za4)) (b6:List Bool) (b7:List (Sh.T (.agg [(.int .i64),(.int .i64),(.sl Za3)]))) (b8_0 b8_1:Int) (b9:List Int):Option (TL nreach_search__round_lay4.σs⊕Out nreach_search__round_outs4):=
 br (iL t22 t21)
 (
  chk (inb t22 (List.length b2))<|
  bnd (L7 ((gt (.int .i64) b2 t22),(t21,(t22,((IntKind.wrap .i64 ((1:Int)*(HPow.hPow (2:Int) (Min.min (Int.toNat (Int.ofNat (List.length b0_1))) 64)))),((0:Int),(b0_0,(b0_1,(b0_2,(b0_3,(b0_4,(b0_5,(b0_6,(b0_7,(b0_8,(b1,(b2,(b3_0,(b3_1,(b3_2,(b3_3,(b3_4,(b3_5,(b3_6,(b3_7,(b3_8,(b6,(b7,(b8_0,(b8_1,(b9,()))))))))))))))))))))))))))))))) fun x0=>
  (match x0 with
  | .inl x1=>
   some (.inr (.inl x1))
  | .inr x1=>
   some (.inl (x1.1,((IntKind.wrap .i64 (@HAdd.hAdd (Int) (Int) (Int) _ x1.2.1 (1:Int))),x1.2.2)))
  ))
 (
  some (.inr (.inr (b0_0,(b0_1,(b0_2,(b0_3,(b0_4,(b0_5,(b0_6,(b0_7,(b0_8,(b1,(b2,(b3_0,(b3_1,(b3_2,(b3_3,(b3_4,(b3_5,(b3_6,(b3_7,(b3_8,(b6,(b7,(b8_0,(b8_1,(b9,()))))))))))))))))))))))))))))
def nreach_search__round_M4 (M7:nreach_search__round_D7):nreach_search__round_D4:=mkL (fun d=>nreach_search__round_B4  M7.L d.1 d.2.1 d.2.2.1 d.2.2.2.1 d.2.2.2.2.1 d.2.2.2.2.2.1 d.2.2.2.2.2.2.1 d.2.2.2.2.2.2.2.1 d.2.2.2.2.2.2.2.2.1 d.2.2.2.2.2.2.2.2.2.1 d.2.2.2.2.2.2.2.2.2.2.1 d.2.2.2.2.2.2.2.2.2.2.2.1 d.2.2.2.2.2.2.2.2.2.2.2.2.1 d.2.2.2.2.2.2.2.2.2.2.2.2.2.1 d.2.2.2.2.2.2.2.2.2.2.2.2.2.2.1 d.2.2.2.2.2.2.2.2.2.2.2.2.2.2.2.1 d.2.2.2.2.2.2.2.2.2.2.2.2.2.2.2.2.1 d.2.2.2.2.2.2.2.2.2.2.2.2.2.2.2.2.2.1 d.2.2.2.2.2.2.2.2.2.2.2.2.2.2.2.2.2.2.1 d.2.2.2.2.2.2.2.2.2.2.2.2.2.2.2.2.2.2.2.1 d.2.2.2.2.2.2.2.2.2.2.2.2.2.2.2.2.2.2.2.2.1 d.2.2.2.2.2.2.2.2.2.2.2.2.2.2.2.2.2.2.2.2.2.1 d.2.2.2.2.2.2.2.2.2.2.2.2.2.2.2.2.2.2.2.2.2.2.1 d.2.2.2.2.2.2.2.2.2.2.2.2.2.2.2.2.2.2.2.2.2.2.2.1 d.2.2.2.2.2.2.2.2.2.2.2.2.2.2.2.2.2.2.2.2.2.2.2.2.1 d.2.2.2.2.2.2.2.2.2.2.2.2.2.2.2.2.2.2.2.2.2.2.2.2.2.1 d.2.2.2.2.2.2.2.2.2.2.2.2.2.2.2.2.2.2.2.2.2.2.2.2.2.2.1) (pL k0 (eC Tryz.func118 (by kernel_rfl) (eC Tryz.func53 (by kernel_rfl) (eC Tryz.func187 (by kernel_rfl) e0))) 5 (sC M7 l0) fun d=>by kernel_rfl)
def nreach_search__round_N4:nreach_search__round_D4:=nreach_search__round_M4  nreach_search__round_N7
def nreach_search__round_F (F0:bits_Word_T) (F1:expand_Back_T) (F2:Zajz) (F3:Zb2u) (F4:expand_State_T) (F5:nsim_Machine__State_T) (F6:Zar1) (F7:nsim_Machine__Set_T) (L4:nreach_search__round_T4) (L7:nreach_search__round_T7) (b0_0:Int) (b0_1:List Int) (b0_2:List (Sh.T Za0)) (b0_3 b0_4 b0_5:List Int) (b0_6:List (Sh.T Za1)) (b0_7:List (Sh.T Za0)) (b0_8:Int) (b1:List (Sh.T (.agg [(.int .i64),sreach_step]))) (b2:List Int) (b3_0:Int) (b3_1:List Int) (b3_2:List (Sh.T Za0)) (b3_3 b3_4 b3_5:List Int) (b3_6:List (Sh.T Za1)) (b3_7:List (Sh.T Za0)) (b3_8:List (Sh.T Za4)) (b4:List Bool) (b5:List (Sh.T (.agg [(.int .i64),(.int .i64),(.sl Za3)]))):Option (Out nreach_search__round_outs):=
 bnd (L4 ((Int.ofNat (List.length b2)),((0:Int),(b0_0,(b0_1,(b0_2,(b0_3,(b0_4,(b0_5,(b0_6,(b0_7,(b0_8,(b1,(b2,(b3_0,(b3_1,(b3_2,(b3_3,(b3_4,(b3_5,(b3_6,(b3_7,(b3_8,(b4,(b5,((0:Int),((0:Int),([],())))))))))))))))))))))))))))) fun x0=>
 (match x0 with
 | .inl x1=>
  some (x1.2.2.2.2.2.2.2.2.2.2.2.2.2.2.2.2.2.2.2.2.2.2.2.2.1,(x1.2.2.2.2.2.2.2.2.2.2.2.2.2.2.2.2.2.2.2.2.2.2.2.2.2.1,(x1.1,(x1.2.1,(x1.2.2.1,(x1.2.2.2.1,(x1.2.2.2.2.1,(x1.2.2.2.2.2.1,(x1.2.2.2.2.2.2.1,(x1.2.2.2.2.2.2.2.1,(x1.2.2.2.2.2.2.2.2.1,(x1.2.2.2.2.2.2.2.2.2.1,(x1.2.2.2.2.2.2.2.2.2.2.1,(x1.2.2.2.2.2.2.2.2.2.2.2.1,(x1.2.2.2.2.2.2.2.2.2.2.2.2.2.1,(x1.2.2.2.2.2.2.2.2.2.2.2.2.2.2.1,(x1.2.2.2.2.2.2.2.2.2.2.2.2.2.2.2.1,(x1.2.2.2.2.2.2.2.2.2.2.2.2.2.2.2.2.1,(x1.2.2.2.2.2.2.2.2.2.2.2.2.2.2.2.2.2.1,(x1.2.2.2.2.2.2.2.2.2.2.2.2.2.2.2.2.2.2.1,(x1.2.2.2.2.2.2.2.2.2.2.2.2.2.2.2.2.2.2.2.1,(x1.2.2.2.2.2.2.2.2.2.2.2.2.2.2.2.2.2.2.2.2.1,(x1.2.2.2.2.2.2.2.2.2.2.2.2.2.2.2.2.2.2.2.2.2.1,(x1.2.2.2.2.2.2.2.2.2.2.2.2.1,(x1.2.2.2.2.2.2.2.2.2.2.2.2.2.2.2.2.2.2.2.2.2.2.1,(x1.2.2.2.2.2.2.2.2.2.2.2.2.2.2.2.2.2.2.2.2.2.2.2.1,()))))))))))))))))))))))))))
 | .inr x1=>
  some (x1.2.2.2.2.2.2.2.2.2.2.2.2.2.2.2.2.2.2.2.2.2.2.1,(x1.2.2.2.2.2.2.2.2.2.2.2.2.2.2.2.2.2.2.2.2.2.2.2.1,((0:Int),(false,(x1.1,(x1.2.1,(x1.2.2.1,(x1.2.2.2.1,(x1.2.2.2.2.1,(x1.2.2.2.2.2.1,(x1.2.2.2.2.2.2.1,(x1.2.2.2.2.2.2.2.1,(x1.2.2.2.2.2.2.2.2.1,(x1.2.2.2.2.2.2.2.2.2.1,(x1.2.2.2.2.2.2.2.2.2.2.2.1,(x1.2.2.2.2.2.2.2.2.2.2.2.2.1,(x1.2.2.2.2.2.2.2.2.2.2.2.2.2.1,(x1.2.2.2.2.2.2.2.2.2.2.2.2.2.2.1,(x1.2.2.2.2.2.2.2.2.2.2.2.2.2.2.2.1,(x1.2.2.2.2.2.2.2.2.2.2.2.2.2.2.2.2.1,(x1.2.2.2.2.2.2.2.2.2.2.2.2.2.2.2.2.2.1,(x1.2.2.2.2.2.2.2.2.2.2.2.2.2.2.2.2.2.2.1,(x1.2.2.2.2.2.2.2.2.2.2.2.2.2.2.2.2.2.2.2.1,(x1.2.2.2.2.2.2.2.2.2.2.2.2.2.2.2.2.2.2.2.2.2.2.2.2.1,(x1.2.2.2.2.2.2.2.2.2.2.2.2.2.2.2.2.2.2.2.2.1,(x1.2.2.2.2.2.2.2.2.2.2.2.2.2.2.2.2.2.2.2.2.2.1,()))))))))))))))))))))))))))
 )
def nreach_search__round_G (c0:bits_Word_D) (c1:expand_Back_D) (c2:Zaew) (c3:Zayo) (c4:expand_State_D) (c5:nsim_Machine__State_D) (c6:Zaln) (c7:nsim_Machine__Set_D) (M4:nreach_search__round_D4) (M7:nreach_search__round_D7):nreach_search__round_D:=⟨u22 (nreach_search__round_F c0.F c1.F c2.F c3.F c4.F c5.F c6.F c7.F M4.L M7.L),pB Tryz.func119 84 (kD c0 (kD c1 (kD c2 (kD c3 (kB c4 (kB c5 (kB c6 (kB c7 k0)))))))) (eC Tryz.func118 (by kernel_rfl) (eC Tryz.func53 (by kernel_rfl) (eC Tryz.func187 (by kernel_rfl) e0))) 5 (sS (sC M4 l0)) fun d=>by kernel_rfl⟩
def nreach_search__round_K:nreach_search__round_D:=nreach_search__round_G bits_Word_K expand_Back_K Zak0 Zb2v expand_State_K nsim_Machine__State_K Zar2 nsim_Machine__Set_K nreach_search__round_N4 nreach_search__round_N7
abbrev nreach_search__run_lay:Lay:={ T:=[(0,.ptr 0 0),(1,.int .i64)],h:=yRe0,nx:=6 }
abbrev nreach_search__run_outs:List (Ev.Ex×Lay):=[(.ret,{ T:=[(0,.agg [.int .i64,.int .i64]),(1,.int .i64),(2,.int .i64),(3,.int .i64)],h:=yRe4,nx:=9 })]
abbrev nreach_search__run_T:=TL nreach_search__run_lay.σs→Option (Out nreach_search__run_outs)
abbrev nreach_search__run_D:=Kb 60 2 nreach_search__run_lay 4 nreach_search__run_outs
abbrev nreach_search__run_lay2:Lay:={ T:=[(0,.ptr 0 0),(4,.ptr 9 0),(7,.int .i64),(12,.int .i64),(13,.int .i64)],h:=yRe2,nx:=10 }
abbrev nreach_search__run_outs2:List (Ev.Ex×Lay):=[(.ret,{ T:=[(4,.ptr 9 0),(5,.int .i64),(6,.int .i64),(7,.int .i64)],h:=yRe2,nx:=10 }),((.exit 0),{ T:=[(4,.ptr 9 0),(7,.int .i64)],h:=yRe2,nx:=10 })]
abbrev nreach_search__run_T2:=TL nreach_search__run_lay2.σs→Option (Out nreach_search__run_outs2)
abbrev nreach_search__run_D2:=Ld 6 41 (Zb5 [0] (Zaa Tryz.f60)) nreach_search__run_lay2 nreach_search__run_outs2
def nreach_search__run_B2 (F0:nreach_search__round_T) (t7 t12 t13 b0_0:Int) (b0_1:List Int) (b0_2:List (Sh.T Za0)) (b0_3 b0_4 b0_5:List Int) (b0_6:List (Sh.T Za1)) (b0_7:List (Sh.T Za0)) (b0_8:Int) (b1:List (Sh.T (.agg [(.int .i64),sreach_step]))) (b3_0:Int) (b3_1:List Int) (b3_2:List (Sh.T Za0)) (b3_3 b3_4 b3_5:List Int) (b3_6:List (Sh.T Za1)) (b3_7:List (Sh.T Za0)) (b3_8:List (Sh.T Za4)) (b6:List Int) (b7:List Bool) (b8:List (Sh.T (.agg [(.int .i64),(.int .i64),(.sl Za3)]))) (b9_0 b9_1:Int):Option (TL nreach_search__run_lay2.σs⊕Out nreach_search__run_outs2):=
 br (iL t13 t12)
 (
  bnd (F0 (b0_0,(b0_1,(b0_2,(b0_3,(b0_4,(b0_5,(b0_6,(b0_7,(b0_8,(b1,(b6,(b3_0,(b3_1,(b3_2,(b3_3,(b3_4,(b3_5,(b3_6,(b3_7,(b3_8,(b7,(b8,()))))))))))))))))))))))) fun x0=>
  br x0.2.2.2.1
  (
   some (.inr (.inl (x0.2.2.1,((IntKind.wrap .i64 (t13+(1:Int))),((0:Int),(x0.2.2.2.2.1,(x0.2.2.2.2.2.1,(x0.2.2.2.2.2.2.1,(x0.2.2.2.2.2.2.2.1,(x0.2.2.2.2.2.2.2.2.1,(x0.2.2.2.2.2.2.2.2.2.1,(x0.2.2.2.2.2.2.2.2.2.2.1,(x0.2.2.2.2.2.2.2.2.2.2.2.1,(x0.2.2.2.2.2.2.2.2.2.2.2.2.1,(x0.2.2.2.2.2.2.2.2.2.2.2.2.2.1,(x0.2.2.2.2.2.2.2.2.2.2.2.2.2.2.1,(x0.2.2.2.2.2.2.2.2.2.2.2.2.2.2.2.1,(x0.2.2.2.2.2.2.2.2.2.2.2.2.2.2.2.2.1,(x0.2.2.2.2.2.2.2.2.2.2.2.2.2.2.2.2.2.1,(x0.2.2.2.2.2.2.2.2.2.2.2.2.2.2.2.2.2.2.1,(x0.2.2.2.2.2.2.2.2.2.2.2.2.2.2.2.2.2.2.2.1,(x0.2.2.2.2.2.2.2.2.2.2.2.2.2.2.2.2.2.2.2.2.1,(x0.2.2.2.2.2.2.2.2.2.2.2.2.2.2.2.2.2.2.2.2.2.1,(x0.2.2.2.2.2.2.2.2.2.2.2.2.2.2.2.2.2.2.2.2.2.2.1,(x0.2.2.2.2.2.2.2.2.2.2.2.2.2.2.2.2.2.2.2.2.2.2.2.1,(x0.2.2.2.2.2.2.2.2.2.2.2.2.2.2.2.2.2.2.2.2.2.2.2.2.1,(x0.2.2.2.2.2.2.2.2.2.2.2.2.2.2.2.2.2.2.2.2.2.2.2.2.2.1,(x0.1,(x0.2.1,()))))))))))))))))))))))))))))))
  (
   br (iQ (Int.ofNat (List.length x0.2.2.2.2.2.2.2.2.2.2.2.2.2.2.2.2.2.2.2.2.2.2.2.1)) (0:Int))
   (
    some (.inr (.inr ((Int.ofNat (List.length b1)),(x0.2.2.2.2.1,(x0.2.2.2.2.2.1,(x0.2.2.2.2.2.2.1,(x0.2.2.2.2.2.2.2.1,(x0.2.2.2.2.2.2.2.2.1,(x0.2.2.2.2.2.2.2.2.2.1,(x0.2.2.2.2.2.2.2.2.2.2.1,(x0.2.2.2.2.2.2.2.2.2.2.2.1,(x0.2.2.2.2.2.2.2.2.2.2.2.2.1,(x0.2.2.2.2.2.2.2.2.2.2.2.2.2.1,(x0.2.2.2.2.2.2.2.2.2.2.2.2.2.2.1,(x0.2.2.2.2.2.2.2.2.2.2.2.2.2.2.2.1,(x0.2.2.2.2.2.2.2.2.2.2.2.2.2.2.2.2.1,(x0.2.2.2.2.2.2.2.2.2.2.2.2.2.2.2.2.2.1,(x0.2.2.2.2.2.2.2.2.2.2.2.2.2.2.2.2.2.2.1,(x0.2.2.2.2.2.2.2.2.2.2.2.2.2.2.2.2.2.2.2.1,(x0.2.2.2.2.2.2.2.2.2.2.2.2.2.2.2.2.2.2.2.2.1,(x0.2.2.2.2.2.2.2.2.2.2.2.2.2.2.2.2.2.2.2.2.2.1,(x0.2.2.2.2.2.2.2.2.2.2.2.2.2.2.2.2.2.2.2.2.2.2.1,(x0.2.2.2.2.2.2.2.2.2.2.2.2.2.2.2.2.2.2.2.2.2.2.2.1,(x0.2.2.2.2.2.2.2.2.2.2.2.2.2.2.2.2.2.2.2.2.2.2.2.2.1,(x0.2.2.2.2.2.2.2.2.2.2.2.2.2.2.2.2.2.2.2.2.2.2.2.2.2.1,(b9_0,(b9_1,()))))))))))))))))))))))))))))
   (
    some (.inl ((Int.ofNat (List.length b1)),(t12,((IntKind.wrap .i64 (t13+(1:Int))),(x0.2.2.2.2.1,(x0.2.2.2.2.2.1,(x0.2.2.2.2.2.2.1,(x0.2.2.2.2.2.2.2.1,(x0.2.2.2.2.2.2.2.2.1,(x0.2.2.2.2.2.2.2.2.2.1,(x0.2.2.2.2.2.2.2.2.2.2.1,(x0.2.2.2.2.2.2.2.2.2.2.2.1,(x0.2.2.2.2.2.2.2.2.2.2.2.2.1,(x0.2.2.2.2.2.2.2.2.2.2.2.2.2.1,(x0.2.2.2.2.2.2.2.2.2.2.2.2.2.2.1,(x0.2.2.2.2.2.2.2.2.2.2.2.2.2.2.2.1,(x0.2.2.2.2.2.2.2.2.2.2.2.2.2.2.2.2.1,(x0.2.2.2.2.2.2.2.2.2.2.2.2.2.2.2.2.2.1,(x0.2.2.2.2.2.2.2.2.2.2.2.2.2.2.2.2.2.2.1,(x0.2.2.2.2.2.2.2.2.2.2.2.2.2.2.2.2.2.2.2.1,(x0.2.2.2.2.2.2.2.2.2.2.2.2.2.2.2.2.2.2.2.2.1,(x0.2.2.2.2.2.2.2.2.2.2.2.2.2.2.2.2.2.2.2.2.2.1,(x0.2.2.2.2.2.2.2.2.2.2.2.2.2.2.2.2.2.2.2.2.2.2.1,(x0.2.2.2.2.2.2.2.2.2.2.2.2.2.2.2.2.2.2.2.2.2.2.2.1,(x0.2.2.2.2.2.2.2.2.2.2.2.2.2.2.2.2.2.2.2.2.2.2.2.2.1,(x0.2.2.2.2.2.2.2.2.2.2.2.2.2.2.2.2.2.2.2.2.2.2.2.2.2.1,(b9_0,(b9_1,())))))))))))))))))))))))))))))))
 (
  some (.inr (.inr (t7,(b0_0,(b0_1,(b0_2,(b0_3,(b0_4,(b0_5,(b0_6,(b0_7,(b0_8,(b1,(b3_0,(b3_1,(b3_2,(b3_3,(b3_4,(b3_5,(b3_6,(b3_7,(b3_8,(b6,(b7,(b8,(b9_0,(b9_1,()))))))))))))))))))))))))))))
def nreach_search__run_M2 (c0:nreach_search__round_D) :nreach_search__run_D2:=mkL (fun d=>nreach_search__run_B2 c0.F  d.1 d.2.1 d.2.2.1 d.2.2.2.1 d.2.2.2.2.1 d.2.2.2.2.2.1 d.2.2.2.2.2.2.1 d.2.2.2.2.2.2.2.1 d.2.2.2.2.2.2.2.2.1 d.2.2.2.2.2.2.2.2.2.1 d.2.2.2.2.2.2.2.2.2.2.1 d.2.2.2.2.2.2.2.2.2.2.2.1 d.2.2.2.2.2.2.2.2.2.2.2.2.1 d.2.2.2.2.2.2.2.2.2.2.2.2.2.1 d.2.2.2.2.2.2.2.2.2.2.2.2.2.2.1 d.2.2.2.2.2.2.2.2.2.2.2.2.2.2.2.1 d.2.2.2.2.2.2.2.2.2.2.2.2.2.2.2.2.1 d.2.2.2.2.2.2.2.2.2.2.2.2.2.2.2.2.2.1 d.2.2.2.2.2.2.2.2.2.2.2.2.2.2.2.2.2.2.1 d.2.2.2.2.2.2.2.2.2.2.2.2.2.2.2.2.2.2.2.1 d.2.2.2.2.2.2.2.2.2.2.2.2.2.2.2.2.2.2.2.2.1 d.2.2.2.2.2.2.2.2.2.2.2.2.2.2.2.2.2.2.2.2.2.1 d.2.2.2.2.2.2.2.2.2.2.2.2.2.2.2.2.2.2.2.2.2.2.1 d.2.2.2.2.2.2.2.2.2.2.2.2.2.2.2.2.2.2.2.2.2.2.2.1 d.2.2.2.2.2.2.2.2.2.2.2.2.2.2.2.2.2.2.2.2.2.2.2.2.1 d.2.2.2.2.2.2.2.2.2.2.2.2.2.2.2.2.2.2.2.2.2.2.2.2.2.1 d.2.2.2.2.2.2.2.2.2.2.2.2.2.2.2.2.2.2.2.2.2.2.2.2.2.2.1) (pL (kB c0 k0) e0 1 l0 fun d=>by kernel_rfl)
def nreach_search__run_N2:nreach_search__run_D2:=nreach_search__run_M2 nreach_search__round_K 
def nreach_search__run_F (F0:nreach_search__round_T) (L2:nreach_search__run_T2) (t1 b0_0:Int) (b0_1:List Int) (b0_2:List (Sh.T Za0)) (b0_3 b0_4 b0_5:List Int) (b0_6:List (Sh.T Za1)) (b0_7:List (Sh.T Za0)) (b0_8:Int) (b1:List (Sh.T (.agg [(.int .i64),sreach_step]))) (b2:List Int) (b3_0:Int) (b3_1:List Int) (b3_2:List (Sh.T Za0)) (b3_3 b3_4 b3_5:List Int) (b3_6:List (Sh.T Za1)) (b3_7:List (Sh.T Za0)) (b3_8:List (Sh.T Za4)) (b4:List Bool) (b5:List (Sh.T (.agg [(.int .i64),(.int .i64),(.sl Za3)]))):Option (Out nreach_search__run_outs):=
 bnd (L2 ((0:Int),(t1,((0:Int),(b0_0,(b0_1,(b0_2,(b0_3,(b0_4,(b0_5,(b0_6,(b0_7,(b0_8,(b1,(b3_0,(b3_1,(b3_2,(b3_3,(b3_4,(b3_5,(b3_6,(b3_7,(b3_8,(b2,(b4,(b5,((0:Int),((0:Int),())))))))))))))))))))))))))))) fun x0=>
 (match x0 with
 | .inl x1=>
  some (x1.2.2.2.2.2.2.2.2.2.2.2.2.2.2.2.2.2.2.2.2.2.2.2.2.2.1,(x1.2.2.2.2.2.2.2.2.2.2.2.2.2.2.2.2.2.2.2.2.2.2.2.2.2.2.1,(x1.1,(x1.2.1,(x1.2.2.1,(x1.2.2.2.1,(x1.2.2.2.2.1,(x1.2.2.2.2.2.1,(x1.2.2.2.2.2.2.1,(x1.2.2.2.2.2.2.2.1,(x1.2.2.2.2.2.2.2.2.1,(x1.2.2.2.2.2.2.2.2.2.1,(x1.2.2.2.2.2.2.2.2.2.2.1,(x1.2.2.2.2.2.2.2.2.2.2.2.1,(x1.2.2.2.2.2.2.2.2.2.2.2.2.1,(x1.2.2.2.2.2.2.2.2.2.2.2.2.2.1,(x1.2.2.2.2.2.2.2.2.2.2.2.2.2.2.1,(x1.2.2.2.2.2.2.2.2.2.2.2.2.2.2.2.1,(x1.2.2.2.2.2.2.2.2.2.2.2.2.2.2.2.2.1,(x1.2.2.2.2.2.2.2.2.2.2.2.2.2.2.2.2.2.1,(x1.2.2.2.2.2.2.2.2.2.2.2.2.2.2.2.2.2.2.1,(x1.2.2.2.2.2.2.2.2.2.2.2.2.2.2.2.2.2.2.2.1,(x1.2.2.2.2.2.2.2.2.2.2.2.2.2.2.2.2.2.2.2.2.1,(x1.2.2.2.2.2.2.2.2.2.2.2.2.2.2.2.2.2.2.2.2.2.1,(x1.2.2.2.2.2.2.2.2.2.2.2.2.2.2.2.2.2.2.2.2.2.2.1,(x1.2.2.2.2.2.2.2.2.2.2.2.2.2.2.2.2.2.2.2.2.2.2.2.1,(x1.2.2.2.2.2.2.2.2.2.2.2.2.2.2.2.2.2.2.2.2.2.2.2.2.1,())))))))))))))))))))))))))))
 | .inr x1=>
  some (x1.2.2.2.2.2.2.2.2.2.2.2.2.2.2.2.2.2.2.2.2.2.2.2.1,(x1.2.2.2.2.2.2.2.2.2.2.2.2.2.2.2.2.2.2.2.2.2.2.2.2.1,((0:Int),((0:Int),(x1.1,(x1.2.1,(x1.2.2.1,(x1.2.2.2.1,(x1.2.2.2.2.1,(x1.2.2.2.2.2.1,(x1.2.2.2.2.2.2.1,(x1.2.2.2.2.2.2.2.1,(x1.2.2.2.2.2.2.2.2.1,(x1.2.2.2.2.2.2.2.2.2.1,(x1.2.2.2.2.2.2.2.2.2.2.1,(x1.2.2.2.2.2.2.2.2.2.2.2.1,(x1.2.2.2.2.2.2.2.2.2.2.2.2.1,(x1.2.2.2.2.2.2.2.2.2.2.2.2.2.1,(x1.2.2.2.2.2.2.2.2.2.2.2.2.2.2.1,(x1.2.2.2.2.2.2.2.2.2.2.2.2.2.2.2.1,(x1.2.2.2.2.2.2.2.2.2.2.2.2.2.2.2.2.1,(x1.2.2.2.2.2.2.2.2.2.2.2.2.2.2.2.2.2.1,(x1.2.2.2.2.2.2.2.2.2.2.2.2.2.2.2.2.2.2.1,(x1.2.2.2.2.2.2.2.2.2.2.2.2.2.2.2.2.2.2.2.1,(x1.2.2.2.2.2.2.2.2.2.2.2.2.2.2.2.2.2.2.2.2.1,(x1.2.2.2.2.2.2.2.2.2.2.2.2.2.2.2.2.2.2.2.2.2.1,(x1.2.2.2.2.2.2.2.2.2.2.2.2.2.2.2.2.2.2.2.2.2.2.1,())))))))))))))))))))))))))))
 )
def nreach_search__run_G (c0:nreach_search__round_D) (M2:nreach_search__run_D2):nreach_search__run_D:=⟨u23 (nreach_search__run_F c0.F M2.L),pB Tryz.func60 41 (kB c0 k0) e0 1 (sS (sC M2 l0)) fun d=>by kernel_rfl⟩
def nreach_search__run_K:nreach_search__run_D:=nreach_search__run_G nreach_search__round_K nreach_search__run_N2
abbrev reach_Search_σs:List Sh:=[Za5,(.int .i64)]
abbrev reach_Search_τs:List Sh:=[sreach_Result,(.int .i64)]
abbrev reach_Search_T:=TL reach_Search_σs→Option (TL reach_Search_τs)
abbrev reach_Search_D:=Kd 19 reach_Search_σs reach_Search_τs
def reach_Search_F (F0:nreach_search__run_T) (F1:reach_begin_T) (a0:Sh.T Za5) (a1:Int):Option (TL reach_Search_τs):=
 bnd (F1 a0) fun x0=>
 (match x0 with
 | .inl x1=>
  br (Bool.not (iQ x1.1 (0:Int)))
  (
   some ((false,((0:Int),(false,((0:Int),())))),(x1.1,())))
  (
   br (iL a1 (0:Int))
   (
    some ((false,((0:Int),(false,((0:Int),())))),((1:Int),())))
   (
    chk (selB false true (iL (2000:Int) a1))<|
    some ((false,((0:Int),(false,((0:Int),())))),((1:Int),()))))
 | .inr x1=>
  br (Bool.not (iQ x1.1 (0:Int)))
  (
   some ((false,((0:Int),(false,((0:Int),())))),(x1.1,())))
  (
   br (iL a1 (0:Int))
   (
    some ((false,((0:Int),(false,((0:Int),())))),((1:Int),())))
   (
    br (selB false true (iL (2000:Int) a1))
    (
     some ((false,((0:Int),(false,((0:Int),())))),((1:Int),())))
    (
     bnd (F0 (a1,x1.2)) fun x2=>
     br (iL (0:Int) x2.2.2.2.1)
     (
      some ((true,(x2.2.2.2.1,(false,((0:Int),())))),((0:Int),())))
     (
      some ((false,((0:Int),((iQ (Int.ofNat (List.length x2.2.2.2.2.2.2.2.2.2.2.2.2.2.2.2.2.2.2.2.2.2.2.2.2.1)) (0:Int)),(x2.2.2.2.2.1,())))),((0:Int),()))))))
 )
def reach_Search_G (c0:nreach_search__run_D) (c1:reach_begin_D) :reach_Search_D:=⟨u2 (reach_Search_F c0.F c1.F),pD Tryz.func19 49 (kB c0 (kB c1 k0)) e0 1 (sS l0) fun d=>by kernel_rfl⟩
def reach_Search_K:reach_Search_D:=reach_Search_G nreach_search__run_K reach_begin_K 
end Go.Proofs.YtkcpdpplobhpaaaGreat.V
end
section
namespace Go.Proofs.YtkcpdpplobhpaaaGreat.V
open Go Go.RowKit
open Go.Proofs.YtkcpdpplobhpaaaGreat.Pl
set_option maxRecDepth 10000
def widI (n:NetD):Int:=(n.latches.length:Int)+cellsN n
def wid (n:NetD):Nat:=(widI n).toNat
structure Tiny (n:NetD) (V:Nat):Prop where
 hs:Snd n V
 h0:Zj3 n=0
 ha:acyB (ndL n) V=true
 hc:Pl.Zkz n=0
 ins:n.inputs.length≤6
 wd:widI n=(wid n:Int)
 w10:wid n≤10
 sm:∀m∈n.mems,Small m
 off:n.latches.length+offL n.mems=wid n
section
variable {n:NetD} {V:Nat} (t:Tiny n V)
include t
variable (ft:Fit n)
include ft
end
section
variable {n:NetD} {V:Nat}
end
section
variable {n:NetD} {V:Nat} (t:Tiny n V)
variable (ft:Fit n)
include t
include ft
end
section
variable {n:NetD} {V:Nat} (t:Tiny n V)
include t
end
section
variable {n:NetD} {V:Nat} (t:Tiny n V)
variable (ft:Fit n)
include t
include ft
end
section
variable {n:NetD} {V:Nat} (t:Tiny n V)
include t
end
section
variable {n:NetD} {V:Nat} (t:Tiny n V)
variable (ft:Fit n)
include t
include ft
end
section
variable {n:NetD} {V:Nat}
end
section
variable {n:NetD} {V:Nat} (t:Tiny n V)
variable (ft:Fit n)
include t
include ft
end
end Go.Proofs.YtkcpdpplobhpaaaGreat.V
end
