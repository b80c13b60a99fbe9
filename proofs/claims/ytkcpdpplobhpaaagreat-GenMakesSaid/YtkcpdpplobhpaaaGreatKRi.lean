import Derived.Test.YtkcpdpplobhpaaaGreatKRg
import Derived.Test.YtkcpdpplobhpaaaGreatKNd
import Derived.Test.YtkcpdpplobhpaaaGreatKRa
import Derived.Test.YtkcpdpplobhpaaaGreatKRh
set_option linter.unusedVariables false
set_option linter.unusedSimpArgs false
set_option linter.unnecessarySimpa false
section
namespace Go.Proofs.YtkcpdpplobhpaaaGreat.V
open Go Go.RowKit
set_option maxRecDepth 1000000
abbrev astrariumref01_Make_σs:List Sh:=[(.int .i64),.bool]
abbrev astrariumref01_Make_τs:List Sh:=[(.int .i64)]
abbrev astrariumref01_Make_T:=TL astrariumref01_Make_σs→Option (TL astrariumref01_Make_τs)
abbrev astrariumref01_Make_D:=Kd 203 astrariumref01_Make_σs astrariumref01_Make_τs
def astrariumref01_Make_F (a0:Int) (a1:Bool):Option (TL astrariumref01_Make_τs):=
 br a1
 (
  some ((IntKind.wrap .i64 ((IntKind.wrap .i64 (@HMul.hMul (Int) (Int) (Int) _ (2:Int) a0))+(1:Int))),()))
 (
  some ((IntKind.wrap .i64 (@HMul.hMul (Int) (Int) (Int) _ (2:Int) a0)),()))
def astrariumref01_Make_G  :astrariumref01_Make_D:=⟨u2 astrariumref01_Make_F,pD Tryz.func203 11 k0 e0 1 (sS l0) fun d=>by kernel_rfl⟩
def astrariumref01_Make_K:astrariumref01_Make_D:=astrariumref01_Make_G  
def astrariumref01_Make_FF:astrariumref01_Make_T:=astrariumref01_Make_K.F
abbrev astrariumref01_Not_σs:List Sh:=[(.int .i64)]
abbrev astrariumref01_Not_τs:List Sh:=[(.int .i64)]
abbrev astrariumref01_Not_T:=TL astrariumref01_Not_σs→Option (TL astrariumref01_Not_τs)
abbrev astrariumref01_Not_D:=Kd 174 astrariumref01_Not_σs astrariumref01_Not_τs
def astrariumref01_Not_F (F0:astrariumref01_Make_T) (F1:Zaxi) (F2:Zam6) (a0:Int):Option (TL astrariumref01_Not_τs):=
 bnd (F2 (a0,())) fun x0=>
 bnd (F1 (a0,())) fun x1=>
 bnd (F0 (x0.1,((Bool.not x1.1),()))) fun x2=>
 some (x2.1,())
def astrariumref01_Not_G (c0:astrariumref01_Make_D) (c1:Zarw) (c2:Zaj2) :astrariumref01_Not_D:=⟨u1 (astrariumref01_Not_F c0.F c1.F c2.F),pD Tryz.func174 9 (kD c0 (kD c1 (kD c2 k0))) e0 1 (sS l0) fun d=>by kernel_rfl⟩
def astrariumref01_Not_K:astrariumref01_Not_D:=astrariumref01_Not_G astrariumref01_Make_K Zaxj Zam7 
def astrariumref01_Not_FF:astrariumref01_Not_T:=astrariumref01_Not_K.F
abbrev astrariumref39_not_σs:List Sh:=[(.int .i64)]
abbrev astrariumref39_not_τs:List Sh:=[(.int .i64)]
abbrev astrariumref39_not_T:=TL astrariumref39_not_σs→Option (TL astrariumref39_not_τs)
abbrev astrariumref39_not_D:=Kd 95 astrariumref39_not_σs astrariumref39_not_τs
def astrariumref39_not_F (F0:astrariumref01_Not_T) (a0:Int):Option (TL astrariumref39_not_τs):=
 bnd (F0 (a0,())) fun x0=>
 some (x0.1,())
def astrariumref39_not_G (c0:astrariumref01_Not_D) :astrariumref39_not_D:=⟨u1 (astrariumref39_not_F c0.F),pD Tryz.func95 5 (kD c0 k0) e0 1 (sS l0) fun d=>by kernel_rfl⟩
def astrariumref39_not_K:astrariumref39_not_D:=astrariumref39_not_G astrariumref01_Not_K 
def astrariumref39_not_FF:astrariumref39_not_T:=astrariumref39_not_K.F
abbrev yRi0:List (Nat×LO):=[(0,.cells [.int .i64,.hd 1 (.int .i64),.hd 2 Za0,.fz (.int .i64),.fz (.int .i64),.fz (.int .i64),.fz Za1,.hd 3 Za0] 168),(1,.arr (.int .i64) 3),(2,.arr Za0 95),(3,.arr Za0 150)]
abbrev yRi1:List (Nat×LO):=[(0,.cells [.int .i64,.hd 1 (.int .i64),.hd 2 Za0,.fz (.int .i64),.fz (.int .i64),.fz (.int .i64),.fz Za1,.hd 4 Za0] 168),(1,.arr (.int .i64) 3),(2,.arr Za0 95),(4,.arr Za0 150)]
abbrev yRi2:List (Nat×LO):=[(0,.cells [.int .i64,.hd 4 (.int .i64),.hd 2 Za0,.fz (.int .i64),.fz (.int .i64),.fz (.int .i64),.fz Za1,.hd 3 Za0] 168),(2,.arr Za0 95),(3,.arr Za0 150),(4,.arr (.int .i64) 3)]
abbrev yRi3:List (Nat×LO):=[(0,.cells [.int .i64,.hd 1 (.int .i64),.hd 4 Za0,.fz (.int .i64),.fz (.int .i64),.fz (.int .i64),.fz Za1,.hd 3 Za0] 168),(1,.arr (.int .i64) 3),(3,.arr Za0 150),(4,.arr Za0 95)]
abbrev yRi4:List LA:=[.int .i64,.hd 2 (.int .i64),.hd 3 Za0,.fz (.int .i64),.fz (.int .i64),.fz (.int .i64),.fz Za1,.hd 4 Za0]
abbrev yRi5:List (Nat×LO):=[(0,.cells [.int .i64,.int .i64,.bool,.fz Zb3,.fz Zb8] 116),(1,.cells [.int .i64,.int .i64,.bool,.fz Zb3,.fz Zb8] 116)]
abbrev yRi6:List (Nat×LO):=[(0,.cells [.int .i64,.hd 1 (.int .i64),.hd 2 Za0,.fz (.int .i64),.fz (.int .i64),.fz (.int .i64),.fz Za1,.hd 3 Za0] 168),(1,.arr (.int .i64) 3),(2,.arr Za0 95),(3,.arr Za0 150),(4,.arr (.int .i64) 3)]
abbrev yRi7:List (Nat×LO):=[(0,.cells [.int .i64,.hd 1 (.int .i64),.hd 2 Za0,.fz (.int .i64),.fz (.int .i64),.fz (.int .i64),.fz Za1,.hd 4 Za0] 168),(1,.arr (.int .i64) 3),(2,.arr Za0 95),(4,.arr Za0 150),(5,.arr (.int .i64) 3)]
abbrev yRi8:Lay:={ T:=[(2,.ptr 0 0),(3,.ptr 1 0)],h:=[(0,.cells lNet 27),(1,.cells lNet 27)],nx:=2 }
abbrev yRi9:List (Nat×LO):=[(0,.cells [.int .i64,.nils,.nils,.nils,.nils,.nils,.nils,.nils] 27),(1,.cells yRi4 168),(2,.arr (.int .i64) 3),(3,.arr Za0 95),(4,.arr Za0 150),(5,.arr (.int .i64) 3)]
abbrev yRi10:Lay:={ T:=[(4,.bool)],h:=[],nx:=0 }
abbrev yRi11:Lay:={ T:=[(0,.int .i64)],h:=yRi1,nx:=5 }
abbrev yRi12:List (Nat×LO):=[(0,.cells [.int .i64,.nils,.nils,.nils,.nils,.nils,.nils,.nils] 27),(1,.cells yRi4 168),(2,.arr (.int .i64) 3),(3,.arr Za0 95),(4,.arr Za0 150)]
abbrev yRi13:Lay:={ T:=[(0,.ptr 0 0),(1,.int .i64),(2,.int .i64)],h:=yRi0,nx:=4 }
abbrev nastrariumref39_Maker__Vars_lay:Lay:={ T:=[(0,.ptr 0 0),(1,.int .i64)],h:=yRi0,nx:=4 }
abbrev nastrariumref39_Maker__Vars_outs:List (Ev.Ex×Lay):=[(.ret,{ T:=[(0,.fz (.int .i64))],h:=yRi0,nx:=4 })]
abbrev nastrariumref39_Maker__Vars_T:=TL nastrariumref39_Maker__Vars_lay.σs→Option (Out nastrariumref39_Maker__Vars_outs)
abbrev nastrariumref39_Maker__Vars_D:=Kb 166 2 nastrariumref39_Maker__Vars_lay 1 nastrariumref39_Maker__Vars_outs
abbrev nastrariumref39_Maker__Vars_lay3:Lay:={ T:=[(0,.ptr 0 0),(1,.int .i64),(5,.hd 4 (.int .i64)),(6,.int .i64)],h:=yRi6,nx:=5 }
abbrev nastrariumref39_Maker__Vars_outs3:List (Ev.Ex×Lay):=[((.exit 0),{ T:=[(5,.hd 4 (.int .i64))],h:=yRi6,nx:=5 })]
abbrev nastrariumref39_Maker__Vars_T3:=TL nastrariumref39_Maker__Vars_lay3.σs→Option (Out nastrariumref39_Maker__Vars_outs3)
abbrev nastrariumref39_Maker__Vars_D3:=Ld 4 31 (Zb5 [0] (Zaa Tryz.f166)) nastrariumref39_Maker__Vars_lay3 nastrariumref39_Maker__Vars_outs3
def nastrariumref39_Maker__Vars_B3 (t1 t6 b0_0:Int) (b0_3 b0_4 b0_5:List Int) (b0_6:List (Sh.T Za1)) (b1:List Int) (b2 b3:List (Sh.T Za0)) (b4:List Int):Option (TL nastrariumref39_Maker__Vars_lay3.σs⊕Out nastrariumref39_Maker__Vars_outs3):=
 br (iL t6 t1)
 (
  chk (room 8 (List.length (ap b4 ((IntKind.wrap .i64 ((2:Int)*(IntKind.wrap .i64 (b0_0+(1:Int))))) :: []))))<|
  some (.inl (t1,((IntKind.wrap .i64 (t6+(1:Int))),((IntKind.wrap .i64 (b0_0+(1:Int))),(b0_3,(b0_4,(b0_5,(b0_6,(b1,(b2,(b3,((ap b4 ((IntKind.wrap .i64 ((2:Int)*(IntKind.wrap .i64 (b0_0+(1:Int))))) :: [])),())))))))))))))
 (
  some (.inr (b0_0,(b0_3,(b0_4,(b0_5,(b0_6,(b1,(b2,(b3,(b4,())))))))))))
def nastrariumref39_Maker__Vars_N3  :nastrariumref39_Maker__Vars_D3:=mkL (u11 nastrariumref39_Maker__Vars_B3) (pL k0 e0 1 l0 fun d=>by kernel_rfl)
def nastrariumref39_Maker__Vars_L3:nastrariumref39_Maker__Vars_T3:=lpD (u11 nastrariumref39_Maker__Vars_B3) NN
def nastrariumref39_Maker__Vars_F (L3:nastrariumref39_Maker__Vars_T3) (t1 b0_0:Int) (b0_3 b0_4 b0_5:List Int) (b0_6:List (Sh.T Za1)) (b1:List Int) (b2 b3:List (Sh.T Za0)):Option (Out nastrariumref39_Maker__Vars_outs):=
 bnd (L3 (t1,((0:Int),(b0_0,(b0_3,(b0_4,(b0_5,(b0_6,(b1,(b2,(b3,([],())))))))))))) fun x0=>
 some (x0.2.2.2.2.2.2.2.2.1,(x0.1,(x0.2.1,(x0.2.2.1,(x0.2.2.2.1,(x0.2.2.2.2.1,(x0.2.2.2.2.2.1,(x0.2.2.2.2.2.2.1,(x0.2.2.2.2.2.2.2.1,())))))))))
def nastrariumref39_Maker__Vars_G (M3:nastrariumref39_Maker__Vars_D3):nastrariumref39_Maker__Vars_D:=⟨u9 (nastrariumref39_Maker__Vars_F M3.L),pB Tryz.func166 31 k0 e0 1 (sS (sC M3 l0)) fun d=>by kernel_rfl⟩
def nastrariumref39_Maker__Vars_K:nastrariumref39_Maker__Vars_D:=nastrariumref39_Maker__Vars_G  nastrariumref39_Maker__Vars_N3
def nastrariumref39_Maker__Vars_FF:nastrariumref39_Maker__Vars_T:=nastrariumref39_Maker__Vars_K.F
abbrev nastrariumref39_Maker__Inputs_lay:Lay:={ T:=[(0,.ptr 0 0),(1,.int .i64)],h:=yRi0,nx:=4 }
abbrev nastrariumref39_Maker__Inputs_outs:List (Ev.Ex×Lay):=[(.ret,{ T:=[(0,.fz (.int .i64))],h:=yRi2,nx:=5 })]
abbrev nastrariumref39_Maker__Inputs_T:=TL nastrariumref39_Maker__Inputs_lay.σs→Option (Out nastrariumref39_Maker__Inputs_outs)
abbrev nastrariumref39_Maker__Inputs_D:=Kb 165 2 nastrariumref39_Maker__Inputs_lay 1 nastrariumref39_Maker__Inputs_outs
abbrev nastrariumref39_Maker__Inputs_lay3:Lay:={ T:=[(0,.ptr 0 0),(1,.int .i64),(5,.fz (.int .i64)),(6,.int .i64)],h:=yRi2,nx:=5 }
abbrev nastrariumref39_Maker__Inputs_outs3:List (Ev.Ex×Lay):=[((.exit 0),{ T:=[(5,.fz (.int .i64))],h:=yRi2,nx:=5 })]
abbrev nastrariumref39_Maker__Inputs_T3:=TL nastrariumref39_Maker__Inputs_lay3.σs→Option (Out nastrariumref39_Maker__Inputs_outs3)
abbrev nastrariumref39_Maker__Inputs_D3:=Ld 4 32 (Zb5 [0] (Zaa Tryz.f165)) nastrariumref39_Maker__Inputs_lay3 nastrariumref39_Maker__Inputs_outs3
def nastrariumref39_Maker__Inputs_B3 (t1:Int) (t5:List Int) (t6 b0_0:Int) (b0_3 b0_4 b0_5:List Int) (b0_6:List (Sh.T Za1)) (b2 b3:List (Sh.T Za0)) (b4:List Int):Option (TL nastrariumref39_Maker__Inputs_lay3.σs⊕Out nastrariumref39_Maker__Inputs_outs3):=
 br (iL t6 t1)
 (
  chk (inb t6 (List.length t5))<|
  chk (room 8 (List.length (ap b4 ((IntKind.wrap .i64 (Int.tdiv (gt (.int .i64) t5 t6) (2:Int))) :: []))))<|
  some (.inl (t1,(t5,((IntKind.wrap .i64 (t6+(1:Int))),(b0_0,(b0_3,(b0_4,(b0_5,(b0_6,(b2,(b3,((ap b4 ((IntKind.wrap .i64 (Int.tdiv (gt (.int .i64) t5 t6) (2:Int))) :: [])),())))))))))))))
 (
  some (.inr (t5,(b0_0,(b0_3,(b0_4,(b0_5,(b0_6,(b2,(b3,(b4,())))))))))))
def nastrariumref39_Maker__Inputs_N3  :nastrariumref39_Maker__Inputs_D3:=mkL (u11 nastrariumref39_Maker__Inputs_B3) (pL k0 e0 1 l0 fun d=>by kernel_rfl)
def nastrariumref39_Maker__Inputs_L3:nastrariumref39_Maker__Inputs_T3:=lpD (u11 nastrariumref39_Maker__Inputs_B3) NN
def nastrariumref39_Maker__Inputs_F (F0:nastrariumref39_Maker__Vars_T) (L3:nastrariumref39_Maker__Inputs_T3) (t1 b0_0:Int) (b0_3 b0_4 b0_5:List Int) (b0_6:List (Sh.T Za1)) (b1:List Int) (b2 b3:List (Sh.T Za0)):Option (Out nastrariumref39_Maker__Inputs_outs):=
 bnd (F0 (t1,(b0_0,(b0_3,(b0_4,(b0_5,(b0_6,(b1,(b2,(b3,())))))))))) fun x0=>
 bnd (L3 (t1,(x0.1,((0:Int),(x0.2.1,(x0.2.2.1,(x0.2.2.2.1,(x0.2.2.2.2.1,(x0.2.2.2.2.2.1,(x0.2.2.2.2.2.2.2.1,(x0.2.2.2.2.2.2.2.2.1,(x0.2.2.2.2.2.2.1,())))))))))))) fun x1=>
 some x1
def nastrariumref39_Maker__Inputs_G (c0:nastrariumref39_Maker__Vars_D) (M3:nastrariumref39_Maker__Inputs_D3):nastrariumref39_Maker__Inputs_D:=⟨u9 (nastrariumref39_Maker__Inputs_F c0.F M3.L),pB Tryz.func165 32 (kB c0 k0) e0 1 (sS (sC M3 l0)) fun d=>by kernel_rfl⟩
def nastrariumref39_Maker__Inputs_K:nastrariumref39_Maker__Inputs_D:=nastrariumref39_Maker__Inputs_G nastrariumref39_Maker__Vars_K nastrariumref39_Maker__Inputs_N3
def nastrariumref39_Maker__Inputs_FF:nastrariumref39_Maker__Inputs_T:=nastrariumref39_Maker__Inputs_K.F
abbrev nastrariumref39_Maker__Latches_lay:Lay:=yRi13
abbrev nastrariumref39_Maker__Latches_outs:List (Ev.Ex×Lay):=[(.ret,{ T:=[(0,.fz (.int .i64))],h:=yRi3,nx:=5 })]
abbrev nastrariumref39_Maker__Latches_T:=TL nastrariumref39_Maker__Latches_lay.σs→Option (Out nastrariumref39_Maker__Latches_outs)
abbrev nastrariumref39_Maker__Latches_D:=Kb 93 3 nastrariumref39_Maker__Latches_lay 1 nastrariumref39_Maker__Latches_outs
abbrev nastrariumref39_Maker__Latches_lay3:Lay:={ T:=[(0,.ptr 0 0),(1,.int .i64),(2,.int .i64),(7,.fz (.int .i64)),(8,.int .i64)],h:=yRi3,nx:=5 }
abbrev nastrariumref39_Maker__Latches_outs3:List (Ev.Ex×Lay):=[((.exit 0),{ T:=[(7,.fz (.int .i64))],h:=yRi3,nx:=5 })]
abbrev nastrariumref39_Maker__Latches_T3:=TL nastrariumref39_Maker__Latches_lay3.σs→Option (Out nastrariumref39_Maker__Latches_outs3)
abbrev nastrariumref39_Maker__Latches_D3:=Ld 4 40 (Zb5 [0] (Zaa Tryz.f93)) nastrariumref39_Maker__Latches_lay3 nastrariumref39_Maker__Latches_outs3
def nastrariumref39_Maker__Latches_B3 (t1 t2:Int) (t7:List Int) (t8 b0_0:Int) (b0_3 b0_4 b0_5:List Int) (b0_6:List (Sh.T Za1)) (b1:List Int) (b3 b4:List (Sh.T Za0)):Option (TL nastrariumref39_Maker__Latches_lay3.σs⊕Out nastrariumref39_Maker__Latches_outs3):=
 br (iL t8 t1)
 (
  chk (inb t8 (List.length t7))<|
  chk (inb t8 (List.length t7))<|
  chk (room 24 (List.length (ap b4 (((IntKind.wrap .i64 (Int.tdiv (gt (.int .i64) t7 t8) (2:Int))),((gt (.int .i64) t7 t8),(t2,()))) :: []))))<|
  some (.inl (t1,(t2,(t7,((IntKind.wrap .i64 (t8+(1:Int))),(b0_0,(b0_3,(b0_4,(b0_5,(b0_6,(b1,(b3,((ap b4 (((IntKind.wrap .i64 (Int.tdiv (gt (.int .i64) t7 t8) (2:Int))),((gt (.int .i64) t7 t8),(t2,()))) :: [])),()))))))))))))))
 (
  some (.inr (t7,(b0_0,(b0_3,(b0_4,(b0_5,(b0_6,(b1,(b3,(b4,())))))))))))
def nastrariumref39_Maker__Latches_N3  :nastrariumref39_Maker__Latches_D3:=mkL (u12 nastrariumref39_Maker__Latches_B3) (pL k0 e0 1 l0 fun d=>by kernel_rfl)
def nastrariumref39_Maker__Latches_L3:nastrariumref39_Maker__Latches_T3:=lpD (u12 nastrariumref39_Maker__Latches_B3) NN
def nastrariumref39_Maker__Latches_F (F0:nastrariumref39_Maker__Vars_T) (L3:nastrariumref39_Maker__Latches_T3) (t1 t2 b0_0:Int) (b0_3 b0_4 b0_5:List Int) (b0_6:List (Sh.T Za1)) (b1:List Int) (b2 b3:List (Sh.T Za0)):Option (Out nastrariumref39_Maker__Latches_outs):=
 bnd (F0 (t1,(b0_0,(b0_3,(b0_4,(b0_5,(b0_6,(b1,(b2,(b3,())))))))))) fun x0=>
 bnd (L3 (t1,(t2,(x0.1,((0:Int),(x0.2.1,(x0.2.2.1,(x0.2.2.2.1,(x0.2.2.2.2.1,(x0.2.2.2.2.2.1,(x0.2.2.2.2.2.2.1,(x0.2.2.2.2.2.2.2.2.1,(x0.2.2.2.2.2.2.2.1,()))))))))))))) fun x1=>
 some x1
def nastrariumref39_Maker__Latches_G (c0:nastrariumref39_Maker__Vars_D) (M3:nastrariumref39_Maker__Latches_D3):nastrariumref39_Maker__Latches_D:=⟨u10 (nastrariumref39_Maker__Latches_F c0.F M3.L),pB Tryz.func93 40 (kB c0 k0) e0 1 (sS (sC M3 l0)) fun d=>by kernel_rfl⟩
def nastrariumref39_Maker__Latches_K:nastrariumref39_Maker__Latches_D:=nastrariumref39_Maker__Latches_G nastrariumref39_Maker__Vars_K nastrariumref39_Maker__Latches_N3
def nastrariumref39_Maker__Latches_FF:nastrariumref39_Maker__Latches_T:=nastrariumref39_Maker__Latches_K.F
abbrev nastrariumref39_Maker__and_lay:Lay:=yRi13
abbrev nastrariumref39_Maker__and_outs:List (Ev.Ex×Lay):=[(.ret,yRi11)]
abbrev nastrariumref39_Maker__and_T:=TL nastrariumref39_Maker__and_lay.σs→Option (Out nastrariumref39_Maker__and_outs)
abbrev nastrariumref39_Maker__and_D:=Kb 168 3 nastrariumref39_Maker__and_lay 1 nastrariumref39_Maker__and_outs
def nastrariumref39_Maker__and_F (F0:nastrariumref39_Maker__Vars_T) (t1 t2 b0_0:Int) (b0_3 b0_4 b0_5:List Int) (b0_6:List (Sh.T Za1)) (b1:List Int) (b2 b3:List (Sh.T Za0)):Option (Out nastrariumref39_Maker__and_outs):=
 bnd (F0 ((1:Int),(b0_0,(b0_3,(b0_4,(b0_5,(b0_6,(b1,(b2,(b3,())))))))))) fun x0=>
 chk (inb (0:Int) (List.length x0.1))<|
 chk (room 24 (List.length (ap x0.2.2.2.2.2.2.2.2.1 (((IntKind.wrap .i64 (Int.tdiv (gt (.int .i64) x0.1 (0:Int)) (2:Int))),(t1,(t2,()))) :: []))))<|
 some ((gt (.int .i64) x0.1 (0:Int)),(x0.2.1,(x0.2.2.1,(x0.2.2.2.1,(x0.2.2.2.2.1,(x0.2.2.2.2.2.1,(x0.2.2.2.2.2.2.1,(x0.2.2.2.2.2.2.2.1,((ap x0.2.2.2.2.2.2.2.2.1 (((IntKind.wrap .i64 (Int.tdiv (gt (.int .i64) x0.1 (0:Int)) (2:Int))),(t1,(t2,()))) :: [])),())))))))))
def nastrariumref39_Maker__and_G (c0:nastrariumref39_Maker__Vars_D) :nastrariumref39_Maker__and_D:=⟨u10 (nastrariumref39_Maker__and_F c0.F),pB Tryz.func168 29 (kB c0 k0) e0 1 (sS l0) fun d=>by kernel_rfl⟩
def nastrariumref39_Maker__and_K:nastrariumref39_Maker__and_D:=nastrariumref39_Maker__and_G nastrariumref39_Maker__Vars_K 
def nastrariumref39_Maker__and_FF:nastrariumref39_Maker__and_T:=nastrariumref39_Maker__and_K.F
abbrev nastrariumref39_Maker__or_lay:Lay:=yRi13
abbrev nastrariumref39_Maker__or_outs:List (Ev.Ex×Lay):=[(.ret,yRi11)]
abbrev nastrariumref39_Maker__or_T:=TL nastrariumref39_Maker__or_lay.σs→Option (Out nastrariumref39_Maker__or_outs)
abbrev nastrariumref39_Maker__or_D:=Kb 169 3 nastrariumref39_Maker__or_lay 1 nastrariumref39_Maker__or_outs
def nastrariumref39_Maker__or_F (F0:astrariumref39_not_T) (F1:nastrariumref39_Maker__and_T) (t1 t2 b0_0:Int) (b0_3 b0_4 b0_5:List Int) (b0_6:List (Sh.T Za1)) (b1:List Int) (b2 b3:List (Sh.T Za0)):Option (Out nastrariumref39_Maker__or_outs):=
 bnd (F0 (t1,())) fun x0=>
 bnd (F0 (t2,())) fun x1=>
 bnd (F1 (x0.1,(x1.1,(b0_0,(b0_3,(b0_4,(b0_5,(b0_6,(b1,(b2,(b3,()))))))))))) fun x2=>
 bnd (F0 (x2.1,())) fun x3=>
 some (x3.1,x2.2)
def nastrariumref39_Maker__or_G (c0:astrariumref39_not_D) (c1:nastrariumref39_Maker__and_D) :nastrariumref39_Maker__or_D:=⟨u10 (nastrariumref39_Maker__or_F c0.F c1.F),pB Tryz.func169 14 (kD c0 (kB c1 k0)) e0 1 (sS l0) fun d=>by kernel_rfl⟩
def nastrariumref39_Maker__or_K:nastrariumref39_Maker__or_D:=nastrariumref39_Maker__or_G astrariumref39_not_K nastrariumref39_Maker__and_K 
def nastrariumref39_Maker__or_FF:nastrariumref39_Maker__or_T:=nastrariumref39_Maker__or_K.F
abbrev nastrariumref39_Maker__either_lay:Lay:={ T:=[(0,.ptr 0 0),(1,.int .i64),(2,.int .i64),(3,.int .i64),(4,.int .i64)],h:=yRi0,nx:=4 }
abbrev nastrariumref39_Maker__either_outs:List (Ev.Ex×Lay):=[(.ret,yRi11)]
abbrev nastrariumref39_Maker__either_T:=TL nastrariumref39_Maker__either_lay.σs→Option (Out nastrariumref39_Maker__either_outs)
abbrev nastrariumref39_Maker__either_D:=Kb 170 5 nastrariumref39_Maker__either_lay 1 nastrariumref39_Maker__either_outs
def nastrariumref39_Maker__either_F (F0:nastrariumref39_Maker__or_T) (F1:nastrariumref39_Maker__and_T) (t1 t2 t3 t4 b0_0:Int) (b0_3 b0_4 b0_5:List Int) (b0_6:List (Sh.T Za1)) (b1:List Int) (b2 b3:List (Sh.T Za0)):Option (Out nastrariumref39_Maker__either_outs):=
 bnd (F1 (t1,(t2,(b0_0,(b0_3,(b0_4,(b0_5,(b0_6,(b1,(b2,(b3,()))))))))))) fun x0=>
 bnd (F1 (t3,(t4,x0.2))) fun x1=>
 bnd (F0 (x0.1,x1)) fun x2=>
 some x2
def nastrariumref39_Maker__either_G (c0:nastrariumref39_Maker__or_D) (c1:nastrariumref39_Maker__and_D) :nastrariumref39_Maker__either_D:=⟨u12 (nastrariumref39_Maker__either_F c0.F c1.F),pB Tryz.func170 25 (kB c0 (kB c1 k0)) e0 1 (sS l0) fun d=>by kernel_rfl⟩
def nastrariumref39_Maker__either_K:nastrariumref39_Maker__either_D:=nastrariumref39_Maker__either_G nastrariumref39_Maker__or_K nastrariumref39_Maker__and_K 
def nastrariumref39_Maker__either_FF:nastrariumref39_Maker__either_T:=nastrariumref39_Maker__either_K.F
abbrev nastrariumref39_Maker__all_lay:Lay:={ T:=[(0,.ptr 0 0),(1,.fz (.int .i64))],h:=yRi0,nx:=4 }
abbrev nastrariumref39_Maker__all_outs:List (Ev.Ex×Lay):=[(.ret,yRi11)]
abbrev nastrariumref39_Maker__all_T:=TL nastrariumref39_Maker__all_lay.σs→Option (Out nastrariumref39_Maker__all_outs)
abbrev nastrariumref39_Maker__all_D:=Kb 96 2 nastrariumref39_Maker__all_lay 1 nastrariumref39_Maker__all_outs
abbrev nastrariumref39_Maker__all_lay3:Lay:={ T:=[(0,.ptr 0 0),(1,.fz (.int .i64)),(5,.int .i64),(6,.int .i64)],h:=yRi1,nx:=5 }
abbrev nastrariumref39_Maker__all_outs3:List (Ev.Ex×Lay):=[((.exit 0),{ T:=[(5,.int .i64)],h:=yRi1,nx:=5 })]
abbrev nastrariumref39_Maker__all_T3:=TL nastrariumref39_Maker__all_lay3.σs→Option (Out nastrariumref39_Maker__all_outs3)
abbrev nastrariumref39_Maker__all_D3:=Ld 4 21 (Zb5 [0] (Zaa Tryz.f96)) nastrariumref39_Maker__all_lay3 nastrariumref39_Maker__all_outs3
def nastrariumref39_Maker__all_B3 (F0:nastrariumref39_Maker__and_T) (t1:List Int) (t5 t6 b0_0:Int) (b0_3 b0_4 b0_5:List Int) (b0_6:List (Sh.T Za1)) (b1:List Int) (b2 b4:List (Sh.T Za0)):Option (TL nastrariumref39_Maker__all_lay3.σs⊕Out nastrariumref39_Maker__all_outs3):=
 br (iL t6 (Int.ofNat (List.length t1)))
 (
  chk (inb t6 (List.length t1))<|
  bnd (F0 (t5,((gt (.int .i64) t1 t6),(b0_0,(b0_3,(b0_4,(b0_5,(b0_6,(b1,(b2,(b4,()))))))))))) fun x0=>
  some (.inl (t1,(x0.1,((IntKind.wrap .i64 (t6+(1:Int))),x0.2)))))
 (
  some (.inr (t5,(b0_0,(b0_3,(b0_4,(b0_5,(b0_6,(b1,(b2,(b4,())))))))))))
def nastrariumref39_Maker__all_M3 (c0:nastrariumref39_Maker__and_D) :nastrariumref39_Maker__all_D3:=mkL (u11 (nastrariumref39_Maker__all_B3 c0.F)) (pL (kB c0 k0) e0 1 l0 fun d=>by kernel_rfl)
def nastrariumref39_Maker__all_N3:nastrariumref39_Maker__all_D3:=nastrariumref39_Maker__all_M3 nastrariumref39_Maker__and_K 
def nastrariumref39_Maker__all_L3:nastrariumref39_Maker__all_T3:=lpD (u11 (nastrariumref39_Maker__all_B3 nastrariumref39_Maker__and_FF)) NN
def nastrariumref39_Maker__all_F (F0:nastrariumref39_Maker__and_T) (L3:nastrariumref39_Maker__all_T3) (t1:List Int) (b0_0:Int) (b0_3 b0_4 b0_5:List Int) (b0_6:List (Sh.T Za1)) (b1:List Int) (b2 b3:List (Sh.T Za0)):Option (Out nastrariumref39_Maker__all_outs):=
 bnd (L3 (t1,((1:Int),((0:Int),(b0_0,(b0_3,(b0_4,(b0_5,(b0_6,(b1,(b2,(b3,())))))))))))) fun x0=>
 some x0
def nastrariumref39_Maker__all_G (c0:nastrariumref39_Maker__and_D) (M3:nastrariumref39_Maker__all_D3):nastrariumref39_Maker__all_D:=⟨u9 (nastrariumref39_Maker__all_F c0.F M3.L),pB Tryz.func96 21 (kB c0 k0) e0 1 (sS (sC M3 l0)) fun d=>by kernel_rfl⟩
def nastrariumref39_Maker__all_K:nastrariumref39_Maker__all_D:=nastrariumref39_Maker__all_G nastrariumref39_Maker__and_K nastrariumref39_Maker__all_N3
def nastrariumref39_Maker__all_FF:nastrariumref39_Maker__all_T:=nastrariumref39_Maker__all_K.F
abbrev nastrariumref39_Maker__same_lay:Lay:={ T:=[(0,.ptr 0 0),(1,.fz (.int .i64)),(2,.fz (.int .i64))],h:=yRi0,nx:=4 }
abbrev nastrariumref39_Maker__same_outs:List (Ev.Ex×Lay):=[(.ret,yRi11)]
abbrev nastrariumref39_Maker__same_T:=TL nastrariumref39_Maker__same_lay.σs→Option (Out nastrariumref39_Maker__same_outs)
abbrev nastrariumref39_Maker__same_D:=Kb 167 3 nastrariumref39_Maker__same_lay 1 nastrariumref39_Maker__same_outs
abbrev nastrariumref39_Maker__same_lay3:Lay:={ T:=[(0,.ptr 0 0),(1,.fz (.int .i64)),(2,.fz (.int .i64)),(7,.hd 5 (.int .i64)),(8,.int .i64)],h:=yRi7,nx:=6 }
abbrev nastrariumref39_Maker__same_outs3:List (Ev.Ex×Lay):=[((.exit 0),{ T:=[(0,.ptr 0 0),(7,.hd 5 (.int .i64))],h:=yRi7,nx:=6 })]
abbrev nastrariumref39_Maker__same_T3:=TL nastrariumref39_Maker__same_lay3.σs→Option (Out nastrariumref39_Maker__same_outs3)
abbrev nastrariumref39_Maker__same_D3:=Ld 4 41 (Zb5 [0] (Zaa Tryz.f167)) nastrariumref39_Maker__same_lay3 nastrariumref39_Maker__same_outs3
def nastrariumref39_Maker__same_B3 (F0:astrariumref39_not_T) (F2:nastrariumref39_Maker__either_T) (t1 t2:List Int) (t8 b0_0:Int) (b0_3 b0_4 b0_5:List Int) (b0_6:List (Sh.T Za1)) (b1:List Int) (b2 b4:List (Sh.T Za0)) (b5:List Int):Option (TL nastrariumref39_Maker__same_lay3.σs⊕Out nastrariumref39_Maker__same_outs3):=
 br (iL t8 (Int.ofNat (List.length t1)))
 (
  chk (inb t8 (List.length t1))<|
  chk (inb t8 (List.length t2))<|
  chk (inb t8 (List.length t1))<|
  chk (inb t8 (List.length t2))<|
  bnd (F0 ((gt (.int .i64) t1 t8),())) fun x0=>
  bnd (F0 ((gt (.int .i64) t2 t8),())) fun x1=>
  bnd (F2 ((gt (.int .i64) t1 t8),((gt (.int .i64) t2 t8),(x0.1,(x1.1,(b0_0,(b0_3,(b0_4,(b0_5,(b0_6,(b1,(b2,(b4,()))))))))))))) fun x2=>
  chk (room 8 (List.length (ap b5 (x2.1 :: []))))<|
  some (.inl (t1,(t2,((IntKind.wrap .i64 (t8+(1:Int))),(x2.2.1,(x2.2.2.1,(x2.2.2.2.1,(x2.2.2.2.2.1,(x2.2.2.2.2.2.1,(x2.2.2.2.2.2.2.1,(x2.2.2.2.2.2.2.2.1,(x2.2.2.2.2.2.2.2.2.1,((ap b5 (x2.1 :: [])),()))))))))))))))
 (
  some (.inr (b0_0,(b0_3,(b0_4,(b0_5,(b0_6,(b1,(b2,(b4,(b5,())))))))))))
def nastrariumref39_Maker__same_M3 (c0:astrariumref39_not_D) (c2:nastrariumref39_Maker__either_D) :nastrariumref39_Maker__same_D3:=mkL (u12 (nastrariumref39_Maker__same_B3 c0.F c2.F)) (pL (kD c0 (kB c2 k0)) e0 1 l0 fun d=>by kernel_rfl)
def nastrariumref39_Maker__same_N3:nastrariumref39_Maker__same_D3:=nastrariumref39_Maker__same_M3 astrariumref39_not_K nastrariumref39_Maker__either_K 
def nastrariumref39_Maker__same_L3:nastrariumref39_Maker__same_T3:=lpD (u12 (nastrariumref39_Maker__same_B3 astrariumref39_not_FF nastrariumref39_Maker__either_FF)) NN
def nastrariumref39_Maker__same_F (F0:astrariumref39_not_T) (F1:nastrariumref39_Maker__all_T) (F2:nastrariumref39_Maker__either_T) (L3:nastrariumref39_Maker__same_T3) (t1 t2:List Int) (b0_0:Int) (b0_3 b0_4 b0_5:List Int) (b0_6:List (Sh.T Za1)) (b1:List Int) (b2 b3:List (Sh.T Za0)):Option (Out nastrariumref39_Maker__same_outs):=
 bnd (L3 (t1,(t2,((0:Int),(b0_0,(b0_3,(b0_4,(b0_5,(b0_6,(b1,(b2,(b3,([],()))))))))))))) fun x0=>
 bnd (F1 (x0.2.2.2.2.2.2.2.2.1,(x0.1,(x0.2.1,(x0.2.2.1,(x0.2.2.2.1,(x0.2.2.2.2.1,(x0.2.2.2.2.2.1,(x0.2.2.2.2.2.2.1,(x0.2.2.2.2.2.2.2.1,())))))))))) fun x1=>
 some x1
def nastrariumref39_Maker__same_G (c0:astrariumref39_not_D) (c1:nastrariumref39_Maker__all_D) (c2:nastrariumref39_Maker__either_D) (M3:nastrariumref39_Maker__same_D3):nastrariumref39_Maker__same_D:=⟨u10 (nastrariumref39_Maker__same_F c0.F c1.F c2.F M3.L),pB Tryz.func167 41 (kD c0 (kB c1 (kB c2 k0))) e0 1 (sS (sC M3 l0)) fun d=>by kernel_rfl⟩
def nastrariumref39_Maker__same_K:nastrariumref39_Maker__same_D:=nastrariumref39_Maker__same_G astrariumref39_not_K nastrariumref39_Maker__all_K nastrariumref39_Maker__either_K nastrariumref39_Maker__same_N3
def nastrariumref39_Maker__same_FF:nastrariumref39_Maker__same_T:=nastrariumref39_Maker__same_K.F
abbrev nastrariumref39_Maker__count_lay:Lay:={ T:=[(0,.ptr 0 0),(1,.fz (.int .i64)),(2,.int .i64),(3,.int .i64)],h:=yRi0,nx:=4 }
abbrev nastrariumref39_Maker__count_outs:List (Ev.Ex×Lay):=[(.ret,{ T:=[],h:=yRi1,nx:=5 })]
abbrev nastrariumref39_Maker__count_T:=TL nastrariumref39_Maker__count_lay.σs→Option (Out nastrariumref39_Maker__count_outs)
abbrev nastrariumref39_Maker__count_D:=Kb 94 4 nastrariumref39_Maker__count_lay 0 nastrariumref39_Maker__count_outs
abbrev nastrariumref39_Maker__count_lay1:Lay:={ T:=[(0,.ptr 0 0),(1,.fz (.int .i64)),(2,.int .i64),(3,.int .i64),(8,.int .i64)],h:=yRi1,nx:=5 }
abbrev nastrariumref39_Maker__count_outs1:List (Ev.Ex×Lay):=[((.exit 0),{ T:=[],h:=yRi1,nx:=5 })]
abbrev nastrariumref39_Maker__count_T1:=TL nastrariumref39_Maker__count_lay1.σs→Option (Out nastrariumref39_Maker__count_outs1)
abbrev nastrariumref39_Maker__count_D1:=Ld 4 46 (Zb5 [0] (Zaa Tryz.f94)) nastrariumref39_Maker__count_lay1 nastrariumref39_Maker__count_outs1
def nastrariumref39_Maker__count_B1 (F0:astrariumref39_not_T) (F1:nastrariumref39_Maker__and_T) (F2:nastrariumref39_Maker__either_T) (t1:List Int) (t2 t3 t8 b0_0:Int) (b0_3 b0_4 b0_5:List Int) (b0_6:List (Sh.T Za1)) (b1:List Int) (b2 b4:List (Sh.T Za0)):Option (TL nastrariumref39_Maker__count_lay1.σs⊕Out nastrariumref39_Maker__count_outs1):=
 br (iL t8 (Int.ofNat (List.length t1)))
 (
  chk (inb t8 (List.length t1))<|
  chk (inb t8 (List.length t1))<|
  bnd (F0 (t3,())) fun x0=>
  bnd (F0 ((gt (.int .i64) t1 t8),())) fun x1=>
  bnd (F2 ((gt (.int .i64) t1 t8),(x0.1,(x1.1,(t3,(b0_0,(b0_3,(b0_4,(b0_5,(b0_6,(b1,(b2,(b4,()))))))))))))) fun x2=>
  chk (inb (IntKind.wrap .i64 (t2+t8)) (List.length x2.2.2.2.2.2.2.2.1))<|
  chk (iQ t2 t2)<|
  chk (iQ t8 t8)<|
  chk (iQ (IntKind.wrap .i64 (t2+t8)) (IntKind.wrap .i64 (t2+t8)))<|
  chk (inb t8 (List.length t1))<|
  bnd (F1 ((gt (.int .i64) t1 t8),(t3,(x2.2.1,(x2.2.2.1,(x2.2.2.2.1,(x2.2.2.2.2.1,(x2.2.2.2.2.2.1,(x2.2.2.2.2.2.2.1,((List.set x2.2.2.2.2.2.2.2.1 (Int.toNat (IntKind.wrap .i64 (t2+t8))) ((gt Za0 x2.2.2.2.2.2.2.2.1 (IntKind.wrap .i64 (t2+t8))).1,(x2.1,((gt Za0 x2.2.2.2.2.2.2.2.1 (IntKind.wrap .i64 (t2+t8))).2.2.1,())))),(x2.2.2.2.2.2.2.2.2.1,()))))))))))) fun x3=>
  some (.inl (t1,(t2,(x3.1,((IntKind.wrap .i64 (t8+(1:Int))),x3.2))))))
 (
  some (.inr (b0_0,(b0_3,(b0_4,(b0_5,(b0_6,(b1,(b2,(b4,()))))))))))
def nastrariumref39_Maker__count_M1 (c0:astrariumref39_not_D) (c1:nastrariumref39_Maker__and_D) (c2:nastrariumref39_Maker__either_D) :nastrariumref39_Maker__count_D1:=mkL (u12 (nastrariumref39_Maker__count_B1 c0.F c1.F c2.F)) (pL (kD c0 (kB c1 (kB c2 k0))) e0 1 l0 fun d=>by kernel_rfl)
def nastrariumref39_Maker__count_N1:nastrariumref39_Maker__count_D1:=nastrariumref39_Maker__count_M1 astrariumref39_not_K nastrariumref39_Maker__and_K nastrariumref39_Maker__either_K 
def nastrariumref39_Maker__count_L1:nastrariumref39_Maker__count_T1:=lpD (u12 (nastrariumref39_Maker__count_B1 astrariumref39_not_FF nastrariumref39_Maker__and_FF nastrariumref39_Maker__either_FF)) NN
def nastrariumref39_Maker__count_F (F0:astrariumref39_not_T) (F1:nastrariumref39_Maker__and_T) (F2:nastrariumref39_Maker__either_T) (L1:nastrariumref39_Maker__count_T1) (t1:List Int) (t2 t3 b0_0:Int) (b0_3 b0_4 b0_5:List Int) (b0_6:List (Sh.T Za1)) (b1:List Int) (b2 b3:List (Sh.T Za0)):Option (Out nastrariumref39_Maker__count_outs):=
 bnd (L1 (t1,(t2,(t3,((0:Int),(b0_0,(b0_3,(b0_4,(b0_5,(b0_6,(b1,(b2,(b3,()))))))))))))) fun x0=>
 some x0
def nastrariumref39_Maker__count_G (c0:astrariumref39_not_D) (c1:nastrariumref39_Maker__and_D) (c2:nastrariumref39_Maker__either_D) (M1:nastrariumref39_Maker__count_D1):nastrariumref39_Maker__count_D:=⟨u11 (nastrariumref39_Maker__count_F c0.F c1.F c2.F M1.L),pB Tryz.func94 46 (kD c0 (kB c1 (kB c2 k0))) e0 1 (sS (sC M1 l0)) fun d=>by kernel_rfl⟩
def nastrariumref39_Maker__count_K:nastrariumref39_Maker__count_D:=nastrariumref39_Maker__count_G astrariumref39_not_K nastrariumref39_Maker__and_K nastrariumref39_Maker__either_K nastrariumref39_Maker__count_N1
def nastrariumref39_Maker__count_FF:nastrariumref39_Maker__count_T:=nastrariumref39_Maker__count_K.F
abbrev astrariumref39_widths_σs:List Sh:=[(.int .i64),(.int .i64)]
abbrev astrariumref39_widths_τs:List Sh:=[.bool]
abbrev astrariumref39_widths_T:=TL astrariumref39_widths_σs→Option (TL astrariumref39_widths_τs)
abbrev astrariumref39_widths_D:=Kd 164 astrariumref39_widths_σs astrariumref39_widths_τs
def astrariumref39_widths_F (a0 a1:Int):Option (TL astrariumref39_widths_τs):=
 br (iE (1:Int) a0)
 (
  br (selB true (iE a0 (16:Int)) false)
  (
   br (selB true (iE (1:Int) a1) false)
   (
    some ((selB true (iE a1 (16:Int)) false),()))
   (
    some (false,())))
  (
   some (false,())))
 (
  some (false,()))
def astrariumref39_widths_G  :astrariumref39_widths_D:=⟨u2 astrariumref39_widths_F,pD Tryz.func164 19 k0 e0 1 (sS l0) fun d=>by kernel_rfl⟩
def astrariumref39_widths_K:astrariumref39_widths_D:=astrariumref39_widths_G  
def astrariumref39_widths_FF:astrariumref39_widths_T:=astrariumref39_widths_K.F
abbrev astrariumref39_Counter_lay8:Lay:={ T:=[(0,.int .i64),(1,.int .u64),(4,.ptr 0 0),(6,.ptr 1 0),(7,.fz (.int .i64)),(8,.hd 5 (.int .i64)),(9,.int .i64)],h:=yRi9,nx:=6 }
abbrev astrariumref39_Counter_outs8:List (Ev.Ex×Lay):=[((.exit 0),{ T:=[(4,.ptr 0 0),(6,.ptr 1 0),(8,.hd 5 (.int .i64))],h:=yRi9,nx:=6 })]
abbrev astrariumref39_Counter_T8:=TL astrariumref39_Counter_lay8.σs→Option (Out astrariumref39_Counter_outs8)
abbrev astrariumref39_Counter_D8:=Ld 0 62 (Zb5 [0] (Zaa Tryz.f41)) astrariumref39_Counter_lay8 astrariumref39_Counter_outs8
def astrariumref39_Counter_B8 (F0:astrariumref39_not_T) (t0 t1:Int) (t7:List Int) (t9 b0_0 b1_0:Int) (b1_3 b1_4 b1_5:List Int) (b1_6:List (Sh.T Za1)) (b2:List Int) (b3 b4:List (Sh.T Za0)) (b5:List Int):Option (TL astrariumref39_Counter_lay8.σs⊕Out astrariumref39_Counter_outs8):=
 br (iL t9 t0)
 (
  br (iQ (Int.tmod t1 (2:Int)) (1:Int))
  (
   chk (inb t9 (List.length t7))<|
   chk (room 8 (List.length (ap b5 ((gt (.int .i64) t7 t9) :: []))))<|
   some (.inl (t0,((IntKind.wrap .u64 (Int.tdiv t1 (2:Int))),(t7,((IntKind.wrap .i64 (t9+(1:Int))),(b0_0,(b1_0,(b1_3,(b1_4,(b1_5,(b1_6,(b2,(b3,(b4,((ap b5 ((gt (.int .i64) t7 t9) :: [])),()))))))))))))))))
  (
   chk (inb t9 (List.length t7))<|
   bnd (F0 ((gt (.int .i64) t7 t9),())) fun x0=>
   chk (room 8 (List.length (ap b5 (x0.1 :: []))))<|
   some (.inl (t0,((IntKind.wrap .u64 (Int.tdiv t1 (2:Int))),(t7,((IntKind.wrap .i64 (t9+(1:Int))),(b0_0,(b1_0,(b1_3,(b1_4,(b1_5,(b1_6,(b2,(b3,(b4,((ap b5 (x0.1 :: [])),())))))))))))))))))
 (
  some (.inr (b0_0,(b1_0,(b1_3,(b1_4,(b1_5,(b1_6,(b2,(b3,(b4,(b5,()))))))))))))
def astrariumref39_Counter_M8 (c0:astrariumref39_not_D) :astrariumref39_Counter_D8:=mkL (u14 (astrariumref39_Counter_B8 c0.F)) (pL (kD c0 k0) e0 1 l0 fun d=>by kernel_rfl)
def astrariumref39_Counter_N8:astrariumref39_Counter_D8:=astrariumref39_Counter_M8 astrariumref39_not_K 
def astrariumref39_Counter_L8:astrariumref39_Counter_T8:=lpD (u14 (astrariumref39_Counter_B8 astrariumref39_not_FF)) NN
abbrev astrariumref39_Counter_σs:List Sh:=[(.int .i64),(.int .u64)]
abbrev astrariumref39_Counter_τs:List Sh:=[Za5,(.int .i64)]
abbrev astrariumref39_Counter_T:=TL astrariumref39_Counter_σs→Option (TL astrariumref39_Counter_τs)
abbrev astrariumref39_Counter_D:=Kd 41 astrariumref39_Counter_σs astrariumref39_Counter_τs
def astrariumref39_Counter_F (F0:astrariumref39_not_T) (F1:nastrariumref39_Maker__all_T) (F2:nastrariumref39_Maker__count_T) (F3:nastrariumref39_Maker__Latches_T) (L8:astrariumref39_Counter_T8) (a0 a1:Int):Option (TL astrariumref39_Counter_τs):=
 br (iL a0 (1:Int))
 (
  some (((0:Int),([],([],([],([],([],([],([],())))))))),((1:Int),())))
 (
  br (selB false true (iL (20:Int) a0))
  (
   some (((0:Int),([],([],([],([],([],([],([],())))))))),((1:Int),())))
  (
   bnd (F3 (a0,((0:Int),((0:Int),([],([],([],([],([],([],([],()))))))))))) fun x0=>
   bnd (F2 (x0.1,((0:Int),((1:Int),(x0.2.1,(x0.2.2.1,(x0.2.2.2.1,(x0.2.2.2.2.1,(x0.2.2.2.2.2.1,(x0.2.2.2.2.2.2.1,(x0.2.2.2.2.2.2.2.2.1,(x0.2.2.2.2.2.2.2.1,())))))))))))) fun x1=>
   bnd (L8 (a0,(a1,(x0.1,((0:Int),((0:Int),(x1.1,(x1.2.1,(x1.2.2.1,(x1.2.2.2.1,(x1.2.2.2.2.1,(x1.2.2.2.2.2.1,(x1.2.2.2.2.2.2.1,(x1.2.2.2.2.2.2.2.1,([],()))))))))))))))) fun x2=>
   bnd (F1 (x2.2.2.2.2.2.2.2.2.2.1,(x2.2.1,(x2.2.2.1,(x2.2.2.2.1,(x2.2.2.2.2.1,(x2.2.2.2.2.2.1,(x2.2.2.2.2.2.2.1,(x2.2.2.2.2.2.2.2.1,(x2.2.2.2.2.2.2.2.2.1,())))))))))) fun x3=>
   some ((x3.2.1,(x3.2.2.2.2.2.2.1,(x3.2.2.2.2.2.2.2.1,(x3.2.2.1,((x3.1 :: []),(x3.2.2.2.2.1,(x3.2.2.2.2.2.1,(x3.2.2.2.2.2.2.2.2.1,())))))))),((0:Int),()))))
def astrariumref39_Counter_G (c0:astrariumref39_not_D) (c1:nastrariumref39_Maker__all_D) (c2:nastrariumref39_Maker__count_D) (c3:nastrariumref39_Maker__Latches_D) (M8:astrariumref39_Counter_D8):astrariumref39_Counter_D:=⟨u2 (astrariumref39_Counter_F c0.F c1.F c2.F c3.F M8.L),pD Tryz.func41 62 (kD c0 (kB c1 (kB c2 (kB c3 k0)))) e0 1 (sS (sC M8 l0)) fun d=>by kernel_rfl⟩
def astrariumref39_Counter_K:astrariumref39_Counter_D:=astrariumref39_Counter_G astrariumref39_not_K nastrariumref39_Maker__all_K nastrariumref39_Maker__count_K nastrariumref39_Maker__Latches_K astrariumref39_Counter_N8
def astrariumref39_Counter_FF:astrariumref39_Counter_T:=astrariumref39_Counter_K.F
abbrev astrariumref39_Echo_lay22:Lay:={ T:=[(0,.int .i64),(1,.int .i64),(6,.ptr 0 0),(8,.ptr 1 0),(11,.fz (.int .i64)),(17,.int .i64),(18,.fz (.int .i64)),(19,.fz (.int .i64)),(21,.int .i64),(22,.int .i64)],h:=yRi12,nx:=5 }
abbrev astrariumref39_Echo_outs22:List (Ev.Ex×Lay):=[((.exit 0),{ T:=[(6,.ptr 0 0),(8,.ptr 1 0),(17,.int .i64),(18,.fz (.int .i64)),(19,.fz (.int .i64))],h:=yRi12,nx:=5 })]
abbrev astrariumref39_Echo_T22:=TL astrariumref39_Echo_lay22.σs→Option (Out astrariumref39_Echo_outs22)
abbrev astrariumref39_Echo_D22:=Ld 0 160 (Zb5 [0] (Zaa Tryz.f87)) astrariumref39_Echo_lay22 astrariumref39_Echo_outs22
def astrariumref39_Echo_B22 (F0:astrariumref39_not_T) (F2:nastrariumref39_Maker__either_T) (t0 t1:Int) (t11:List Int) (t17:Int) (t18 t19:List Int) (t21 t22 b0_0 b1_0:Int) (b1_3 b1_4 b1_5:List Int) (b1_6:List (Sh.T Za1)) (b2:List Int) (b3 b4:List (Sh.T Za0)):Option (TL astrariumref39_Echo_lay22.σs⊕Out astrariumref39_Echo_outs22):=
 br (iL t22 t1)
 (
  chk (inb t22 (List.length t11))<|
  chk (inb t22 (List.length t18))<|
  bnd (F0 (t21,())) fun x0=>
  bnd (F2 (t21,((gt (.int .i64) t11 t22),(x0.1,((gt (.int .i64) t18 t22),(b1_0,(b1_3,(b1_4,(b1_5,(b1_6,(b2,(b3,(b4,()))))))))))))) fun x1=>
  chk (inb (IntKind.wrap .i64 ((IntKind.wrap .i64 (t0+(1:Int)))+t22)) (List.length x1.2.2.2.2.2.2.2.1))<|
  chk (iQ t0 t0)<|
  chk (iQ (IntKind.wrap .i64 (t0+(1:Int))) (IntKind.wrap .i64 (t0+(1:Int))))<|
  chk (iQ t22 t22)<|
  chk (iQ (IntKind.wrap .i64 ((IntKind.wrap .i64 (t0+(1:Int)))+t22)) (IntKind.wrap .i64 ((IntKind.wrap .i64 (t0+(1:Int)))+t22)))<|
  some (.inl (t0,(t1,(t11,(t17,(t18,(t19,(t21,((IntKind.wrap .i64 (t22+(1:Int))),(b0_0,(x1.2.1,(x1.2.2.1,(x1.2.2.2.1,(x1.2.2.2.2.1,(x1.2.2.2.2.2.1,(x1.2.2.2.2.2.2.1,((List.set x1.2.2.2.2.2.2.2.1 (Int.toNat (IntKind.wrap .i64 ((IntKind.wrap .i64 (t0+(1:Int)))+t22))) ((gt Za0 x1.2.2.2.2.2.2.2.1 (IntKind.wrap .i64 ((IntKind.wrap .i64 (t0+(1:Int)))+t22))).1,(x1.1,((gt Za0 x1.2.2.2.2.2.2.2.1 (IntKind.wrap .i64 ((IntKind.wrap .i64 (t0+(1:Int)))+t22))).2.2.1,())))),(x1.2.2.2.2.2.2.2.2.1,())))))))))))))))))))
 (
  some (.inr (t17,(t18,(t19,(b0_0,(b1_0,(b1_3,(b1_4,(b1_5,(b1_6,(b2,(b3,(b4,()))))))))))))))
def astrariumref39_Echo_M22 (c0:astrariumref39_not_D) (c2:nastrariumref39_Maker__either_D) :astrariumref39_Echo_D22:=mkL (u17 (astrariumref39_Echo_B22 c0.F c2.F)) (pL (kD c0 (kB c2 k0)) e0 1 l0 fun d=>by kernel_rfl)
def astrariumref39_Echo_N22:astrariumref39_Echo_D22:=astrariumref39_Echo_M22 astrariumref39_not_K nastrariumref39_Maker__either_K 
def astrariumref39_Echo_L22:astrariumref39_Echo_T22:=lpD (u17 (astrariumref39_Echo_B22 astrariumref39_not_FF nastrariumref39_Maker__either_FF)) NN
abbrev astrariumref39_Echo_σs:List Sh:=[(.int .i64),(.int .i64),.bool]
abbrev astrariumref39_Echo_τs:List Sh:=[Za5,(.int .i64)]
abbrev astrariumref39_Echo_T:=TL astrariumref39_Echo_σs→Option (TL astrariumref39_Echo_τs)
abbrev astrariumref39_Echo_D:=Kd 87 astrariumref39_Echo_σs astrariumref39_Echo_τs
def astrariumref39_Echo_F (F0:astrariumref39_not_T) (F1:astrariumref39_widths_T) (F2:nastrariumref39_Maker__either_T) (F3:nastrariumref39_Maker__or_T) (F4:nastrariumref39_Maker__and_T) (F5:nastrariumref39_Maker__same_T) (F6:nastrariumref39_Maker__Vars_T) (F7:nastrariumref39_Maker__Latches_T) (F8:nastrariumref39_Maker__Inputs_T) (L22:astrariumref39_Echo_T22) (a0 a1:Int) (a2:Bool):Option (TL astrariumref39_Echo_τs):=
 bnd (F1 (a0,(a1,()))) fun x0=>
 br (Bool.not x0.1)
 (
  some (((0:Int),([],([],([],([],([],([],([],())))))))),((1:Int),())))
 (
  bnd (F8 ((1:Int),((0:Int),([],([],([],([],([],([],([],())))))))))) fun x1=>
  chk (inb (0:Int) (List.length x1.1))<|
  bnd (F8 (a0,(x1.2.1,(x1.2.2.1,(x1.2.2.2.1,(x1.2.2.2.2.1,(x1.2.2.2.2.2.1,(x1.2.2.2.2.2.2.2.2.1,(x1.2.2.2.2.2.2.1,(x1.2.2.2.2.2.2.2.1,())))))))))) fun x2=>
  bnd (F8 (a1,(x2.2.1,(x2.2.2.1,(x2.2.2.2.1,(x2.2.2.2.2.1,(x2.2.2.2.2.2.1,(x2.2.2.2.2.2.2.2.2.1,(x2.2.2.2.2.2.2.1,(x2.2.2.2.2.2.2.2.1,())))))))))) fun x3=>
  br a2
  (
   bnd (F8 ((1:Int),(x3.2.1,(x3.2.2.1,(x3.2.2.2.1,(x3.2.2.2.2.1,(x3.2.2.2.2.2.1,(x3.2.2.2.2.2.2.2.2.1,(x3.2.2.2.2.2.2.1,(x3.2.2.2.2.2.2.2.1,())))))))))) fun x4=>
   chk (inb (0:Int) (List.length x4.1))<|
   bnd (F8 (a0,(x4.2.1,(x4.2.2.1,(x4.2.2.2.1,(x4.2.2.2.2.1,(x4.2.2.2.2.2.1,(x4.2.2.2.2.2.2.2.2.1,(x4.2.2.2.2.2.2.1,(x4.2.2.2.2.2.2.2.1,())))))))))) fun x5=>
   bnd (F8 (a1,(x5.2.1,(x5.2.2.1,(x5.2.2.2.1,(x5.2.2.2.2.1,(x5.2.2.2.2.2.1,(x5.2.2.2.2.2.2.2.2.1,(x5.2.2.2.2.2.2.1,(x5.2.2.2.2.2.2.2.1,())))))))))) fun x6=>
   bnd (F7 (a0,((2:Int),(x6.2.1,(x6.2.2.1,(x6.2.2.2.1,(x6.2.2.2.2.1,(x6.2.2.2.2.2.1,(x6.2.2.2.2.2.2.2.2.1,(x6.2.2.2.2.2.2.1,(x6.2.2.2.2.2.2.2.1,()))))))))))) fun x7=>
   bnd (F7 ((1:Int),((0:Int),(x7.2.1,(x7.2.2.1,(x7.2.2.2.1,(x7.2.2.2.2.1,(x7.2.2.2.2.2.1,(x7.2.2.2.2.2.2.1,(x7.2.2.2.2.2.2.2.2.1,(x7.2.2.2.2.2.2.2.1,()))))))))))) fun x8=>
   chk (inb (0:Int) (List.length x8.1))<|
   bnd (F7 (a1,((0:Int),(x8.2.1,(x8.2.2.1,(x8.2.2.2.1,(x8.2.2.2.2.1,(x8.2.2.2.2.2.1,(x8.2.2.2.2.2.2.1,(x8.2.2.2.2.2.2.2.2.1,(x8.2.2.2.2.2.2.2.1,()))))))))))) fun x9=>
   bnd (F6 (a1,(x9.2.1,(x9.2.2.1,(x9.2.2.2.1,(x9.2.2.2.2.1,(x9.2.2.2.2.2.1,(x9.2.2.2.2.2.2.1,(x9.2.2.2.2.2.2.2.2.1,(x9.2.2.2.2.2.2.2.1,())))))))))) fun x10=>
   chk (inb (0:Int) (List.length x10.1))<|
   bnd (F5 (x2.1,(x7.1,(x10.2.1,(x10.2.2.1,(x10.2.2.2.1,(x10.2.2.2.2.1,(((a0,(a1,(true,((((IntKind.wrap .i64 (Int.tdiv (gt (.int .i64) x10.1 (0:Int)) (2:Int))),(x7.1,())) :: []),((ap (((gt (.int .i64) x1.1 (0:Int)),(x2.1,(x3.1,()))) :: []) (((gt (.int .i64) x4.1 (0:Int)),(x5.1,(x6.1,()))) :: [])),()))))) :: []),x10.2.2.2.2.2.2)))))))) fun x11=>
   bnd (F4 ((gt (.int .i64) x1.1 (0:Int)),x11)) fun x12=>
   bnd (F3 (x12.1,((gt (.int .i64) x8.1 (0:Int)),x12.2))) fun x13=>
   chk (inb a0 (List.length x13.2.2.2.2.2.2.2.1))<|
   chk (iQ a0 a0)<|
   bnd (L22 (a0,(a1,(x3.1,((gt (.int .i64) x8.1 (0:Int)),(x9.1,(x10.1,(x12.1,((0:Int),((0:Int),(x13.2.1,(x13.2.2.1,(x13.2.2.2.1,(x13.2.2.2.2.1,(x13.2.2.2.2.2.1,(x13.2.2.2.2.2.2.1,((List.set x13.2.2.2.2.2.2.2.1 (Int.toNat a0) ((gt Za0 x13.2.2.2.2.2.2.2.1 a0).1,(x13.1,((gt Za0 x13.2.2.2.2.2.2.2.1 a0).2.2.1,())))),(x13.2.2.2.2.2.2.2.2.1,())))))))))))))))))) fun x14=>
   bnd (F5 (x14.2.2.1,(x14.2.1,x14.2.2.2.2))) fun x15=>
   bnd (F0 (x15.1,())) fun x16=>
   bnd (F4 (x14.1,(x16.1,x15.2))) fun x17=>
   some ((x17.2.1,(x17.2.2.2.2.2.2.1,(x17.2.2.2.2.2.2.2.1,(x17.2.2.1,((x17.1 :: []),(x17.2.2.2.2.1,(x17.2.2.2.2.2.1,(x17.2.2.2.2.2.2.2.2.1,())))))))),((0:Int),())))
  (
   bnd (F7 (a0,((2:Int),(x3.2.1,(x3.2.2.1,(x3.2.2.2.1,(x3.2.2.2.2.1,(x3.2.2.2.2.2.1,(x3.2.2.2.2.2.2.2.2.1,(x3.2.2.2.2.2.2.1,(x3.2.2.2.2.2.2.2.1,()))))))))))) fun x4=>
   bnd (F7 ((1:Int),((0:Int),(x4.2.1,(x4.2.2.1,(x4.2.2.2.1,(x4.2.2.2.2.1,(x4.2.2.2.2.2.1,(x4.2.2.2.2.2.2.1,(x4.2.2.2.2.2.2.2.2.1,(x4.2.2.2.2.2.2.2.1,()))))))))))) fun x5=>
   chk (inb (0:Int) (List.length x5.1))<|
   bnd (F7 (a1,((0:Int),(x5.2.1,(x5.2.2.1,(x5.2.2.2.1,(x5.2.2.2.2.1,(x5.2.2.2.2.2.1,(x5.2.2.2.2.2.2.1,(x5.2.2.2.2.2.2.2.2.1,(x5.2.2.2.2.2.2.2.1,()))))))))))) fun x6=>
   bnd (F6 (a1,(x6.2.1,(x6.2.2.1,(x6.2.2.2.1,(x6.2.2.2.2.1,(x6.2.2.2.2.2.1,(x6.2.2.2.2.2.2.1,(x6.2.2.2.2.2.2.2.2.1,(x6.2.2.2.2.2.2.2.1,())))))))))) fun x7=>
   chk (inb (0:Int) (List.length x7.1))<|
   bnd (F5 (x2.1,(x4.1,(x7.2.1,(x7.2.2.1,(x7.2.2.2.1,(x7.2.2.2.2.1,(((a0,(a1,(true,((((IntKind.wrap .i64 (Int.tdiv (gt (.int .i64) x7.1 (0:Int)) (2:Int))),(x4.1,())) :: []),((((gt (.int .i64) x1.1 (0:Int)),(x2.1,(x3.1,()))) :: []),()))))) :: []),x7.2.2.2.2.2.2)))))))) fun x8=>
   bnd (F4 ((gt (.int .i64) x1.1 (0:Int)),x8)) fun x9=>
   bnd (F3 (x9.1,((gt (.int .i64) x5.1 (0:Int)),x9.2))) fun x10=>
   chk (inb a0 (List.length x10.2.2.2.2.2.2.2.1))<|
   chk (iQ a0 a0)<|
   bnd (L22 (a0,(a1,(x3.1,((gt (.int .i64) x5.1 (0:Int)),(x6.1,(x7.1,(x9.1,((0:Int),((0:Int),(x10.2.1,(x10.2.2.1,(x10.2.2.2.1,(x10.2.2.2.2.1,(x10.2.2.2.2.2.1,(x10.2.2.2.2.2.2.1,((List.set x10.2.2.2.2.2.2.2.1 (Int.toNat a0) ((gt Za0 x10.2.2.2.2.2.2.2.1 a0).1,(x10.1,((gt Za0 x10.2.2.2.2.2.2.2.1 a0).2.2.1,())))),(x10.2.2.2.2.2.2.2.2.1,())))))))))))))))))) fun x11=>
   bnd (F5 (x11.2.2.1,(x11.2.1,x11.2.2.2.2))) fun x12=>
   bnd (F0 (x12.1,())) fun x13=>
   bnd (F4 (x11.1,(x13.1,x12.2))) fun x14=>
   some ((x14.2.1,(x14.2.2.2.2.2.2.1,(x14.2.2.2.2.2.2.2.1,(x14.2.2.1,((x14.1 :: []),(x14.2.2.2.2.1,(x14.2.2.2.2.2.1,(x14.2.2.2.2.2.2.2.2.1,())))))))),((0:Int),()))))
def astrariumref39_Echo_G (c0:astrariumref39_not_D) (c1:astrariumref39_widths_D) (c2:nastrariumref39_Maker__either_D) (c3:nastrariumref39_Maker__or_D) (c4:nastrariumref39_Maker__and_D) (c5:nastrariumref39_Maker__same_D) (c6:nastrariumref39_Maker__Vars_D) (c7:nastrariumref39_Maker__Latches_D) (c8:nastrariumref39_Maker__Inputs_D) (M22:astrariumref39_Echo_D22):astrariumref39_Echo_D:=⟨u3 (astrariumref39_Echo_F c0.F c1.F c2.F c3.F c4.F c5.F c6.F c7.F c8.F M22.L),pD Tryz.func87 160 (kD c0 (kD c1 (kB c2 (kB c3 (kB c4 (kB c5 (kB c6 (kB c7 (kB c8 k0))))))))) e0 1 (sS (sC M22 l0)) fun d=>by kernel_rfl⟩
def astrariumref39_Echo_K:astrariumref39_Echo_D:=astrariumref39_Echo_G astrariumref39_not_K astrariumref39_widths_K nastrariumref39_Maker__either_K nastrariumref39_Maker__or_K nastrariumref39_Maker__and_K nastrariumref39_Maker__same_K nastrariumref39_Maker__Vars_K nastrariumref39_Maker__Latches_K nastrariumref39_Maker__Inputs_K astrariumref39_Echo_N22
def astrariumref39_Echo_FF:astrariumref39_Echo_T:=astrariumref39_Echo_K.F
abbrev astrariumref39_Stack_σs:List Sh:=[(.int .i64),(.int .i64)]
abbrev astrariumref39_Stack_τs:List Sh:=[Za5,(.int .i64)]
abbrev astrariumref39_Stack_T:=TL astrariumref39_Stack_σs→Option (TL astrariumref39_Stack_τs)
abbrev astrariumref39_Stack_D:=Kd 88 astrariumref39_Stack_σs astrariumref39_Stack_τs
def astrariumref39_Stack_F (F0:astrariumref39_not_T) (F1:astrariumref39_widths_T) (F2:nastrariumref39_Maker__all_T) (F3:nastrariumref39_Maker__count_T) (F4:nastrariumref39_Maker__and_T) (F5:nastrariumref39_Maker__Vars_T) (F6:nastrariumref39_Maker__Latches_T) (F7:nastrariumref39_Maker__Inputs_T) (a0 a1:Int):Option (TL astrariumref39_Stack_τs):=
 bnd (F1 (a0,(a1,()))) fun x0=>
 br (Bool.not x0.1)
 (
  some (((0:Int),([],([],([],([],([],([],([],())))))))),((1:Int),())))
 (
  bnd (F7 ((1:Int),((0:Int),([],([],([],([],([],([],([],())))))))))) fun x1=>
  chk (inb (0:Int) (List.length x1.1))<|
  bnd (F7 ((1:Int),(x1.2.1,(x1.2.2.1,(x1.2.2.2.1,(x1.2.2.2.2.1,(x1.2.2.2.2.2.1,(x1.2.2.2.2.2.2.2.2.1,(x1.2.2.2.2.2.2.1,(x1.2.2.2.2.2.2.2.1,())))))))))) fun x2=>
  chk (inb (0:Int) (List.length x2.1))<|
  bnd (F7 (a1,(x2.2.1,(x2.2.2.1,(x2.2.2.2.1,(x2.2.2.2.2.1,(x2.2.2.2.2.2.1,(x2.2.2.2.2.2.2.2.2.1,(x2.2.2.2.2.2.2.1,(x2.2.2.2.2.2.2.2.1,())))))))))) fun x3=>
  bnd (F6 (a0,((0:Int),(x3.2.1,(x3.2.2.1,(x3.2.2.2.1,(x3.2.2.2.2.1,(x3.2.2.2.2.2.1,(x3.2.2.2.2.2.2.2.2.1,(x3.2.2.2.2.2.2.1,(x3.2.2.2.2.2.2.2.1,()))))))))))) fun x4=>
  bnd (F5 (a1,(x4.2.1,(x4.2.2.1,(x4.2.2.2.1,(x4.2.2.2.2.1,(x4.2.2.2.2.2.1,(x4.2.2.2.2.2.2.1,(x4.2.2.2.2.2.2.2.2.1,(x4.2.2.2.2.2.2.2.1,())))))))))) fun x5=>
  chk (inb (0:Int) (List.length x5.1))<|
  bnd (F4 ((gt (.int .i64) x1.1 (0:Int)),((gt (.int .i64) x2.1 (0:Int)),(x5.2.1,(x5.2.2.1,(x5.2.2.2.1,(x5.2.2.2.2.1,(((a0,(a1,(false,((((IntKind.wrap .i64 (Int.tdiv (gt (.int .i64) x5.1 (0:Int)) (2:Int))),(x4.1,())) :: []),((((gt (.int .i64) x1.1 (0:Int)),(x4.1,(x3.1,()))) :: []),()))))) :: []),x5.2.2.2.2.2.2)))))))) fun x6=>
  bnd (F3 (x4.1,((0:Int),((gt (.int .i64) x1.1 (0:Int)),x6.2)))) fun x7=>
  bnd (F2 (x4.1,x7)) fun x8=>
  bnd (F4 ((gt (.int .i64) x1.1 (0:Int)),x8)) fun x9=>
  bnd (F0 (x6.1,())) fun x10=>
  some ((x9.2.1,(x9.2.2.2.2.2.2.1,(x9.2.2.2.2.2.2.2.1,(x9.2.2.1,((x9.1 :: []),((x10.1 :: []),(x9.2.2.2.2.2.1,(x9.2.2.2.2.2.2.2.2.1,())))))))),((0:Int),())))
def astrariumref39_Stack_G (c0:astrariumref39_not_D) (c1:astrariumref39_widths_D) (c2:nastrariumref39_Maker__all_D) (c3:nastrariumref39_Maker__count_D) (c4:nastrariumref39_Maker__and_D) (c5:nastrariumref39_Maker__Vars_D) (c6:nastrariumref39_Maker__Latches_D) (c7:nastrariumref39_Maker__Inputs_D) :astrariumref39_Stack_D:=⟨u2 (astrariumref39_Stack_F c0.F c1.F c2.F c3.F c4.F c5.F c6.F c7.F),pZ Tryz.func88 89 (kD c0 (kD c1 (kB c2 (kB c3 (kB c4 (kB c5 (kB c6 (kB c7 k0)))))))) e0 1 (sS l0) fun d=>by kernel_rfl⟩
def astrariumref39_Stack_K:astrariumref39_Stack_D:=astrariumref39_Stack_G astrariumref39_not_K astrariumref39_widths_K nastrariumref39_Maker__all_K nastrariumref39_Maker__count_K nastrariumref39_Maker__and_K nastrariumref39_Maker__Vars_K nastrariumref39_Maker__Latches_K nastrariumref39_Maker__Inputs_K 
def astrariumref39_Stack_FF:astrariumref39_Stack_T:=astrariumref39_Stack_K.F
abbrev astrariumref39_Kind_σs:List Sh:=[(.int .i64),(.int .i64),(.int .i64)]
abbrev astrariumref39_Kind_τs:List Sh:=[Za5,(.int .i64)]
abbrev astrariumref39_Kind_T:=TL astrariumref39_Kind_σs→Option (TL astrariumref39_Kind_τs)
abbrev astrariumref39_Kind_D:=Kd 39 astrariumref39_Kind_σs astrariumref39_Kind_τs
def astrariumref39_Kind_F (F0:astrariumref39_Stack_T) (F1:astrariumref39_Echo_T) (F2:astrariumref39_Counter_T) (a0 a1 a2:Int):Option (TL astrariumref39_Kind_τs):=
 br (iQ a0 (0:Int))
 (
  bnd (F2 (a1,((IntKind.wrap .u64 a2),()))) fun x0=>
  some ((x0.1.1,(x0.1.2.1,(x0.1.2.2.1,(x0.1.2.2.2.1,(x0.1.2.2.2.2.1,(x0.1.2.2.2.2.2.1,(x0.1.2.2.2.2.2.2.1,(x0.1.2.2.2.2.2.2.2.1,())))))))),(x0.2.1,())))
 (
  br (iQ a0 (1:Int))
  (
   bnd (F1 (a1,(a2,(false,())))) fun x0=>
   some ((x0.1.1,(x0.1.2.1,(x0.1.2.2.1,(x0.1.2.2.2.1,(x0.1.2.2.2.2.1,(x0.1.2.2.2.2.2.1,(x0.1.2.2.2.2.2.2.1,(x0.1.2.2.2.2.2.2.2.1,())))))))),(x0.2.1,())))
  (
   br (iQ a0 (2:Int))
   (
    bnd (F1 (a1,(a2,(true,())))) fun x0=>
    some ((x0.1.1,(x0.1.2.1,(x0.1.2.2.1,(x0.1.2.2.2.1,(x0.1.2.2.2.2.1,(x0.1.2.2.2.2.2.1,(x0.1.2.2.2.2.2.2.1,(x0.1.2.2.2.2.2.2.2.1,())))))))),(x0.2.1,())))
   (
    br (iQ a0 (3:Int))
    (
     bnd (F0 (a1,(a2,()))) fun x0=>
     some ((x0.1.1,(x0.1.2.1,(x0.1.2.2.1,(x0.1.2.2.2.1,(x0.1.2.2.2.2.1,(x0.1.2.2.2.2.2.1,(x0.1.2.2.2.2.2.2.1,(x0.1.2.2.2.2.2.2.2.1,())))))))),(x0.2.1,())))
    (
     some (((0:Int),([],([],([],([],([],([],([],())))))))),((1:Int),()))))))
def astrariumref39_Kind_G (c0:astrariumref39_Stack_D) (c1:astrariumref39_Echo_D) (c2:astrariumref39_Counter_D) :astrariumref39_Kind_D:=⟨u3 (astrariumref39_Kind_F c0.F c1.F c2.F),pD Tryz.func39 39 (kD c0 (kD c1 (kD c2 k0))) e0 1 (sS l0) fun d=>by kernel_rfl⟩
def astrariumref39_Kind_K:astrariumref39_Kind_D:=astrariumref39_Kind_G astrariumref39_Stack_K astrariumref39_Echo_K astrariumref39_Counter_K 
def astrariumref39_Kind_FF:astrariumref39_Kind_T:=astrariumref39_Kind_K.F
end Go.Proofs.YtkcpdpplobhpaaaGreat.V
end
section
namespace Go.Proofs.YtkcpdpplobhpaaaGreat.V
open Go Go.RowKit
open Go.Proofs.YtkcpdpplobhpaaaGreat.Pl
set_option maxRecDepth 10000
abbrev rT (o b c:List Int) (m:List Za1.T) (s:Gk):Int×List Int×List Int×List Int×List Za1.T×List Int×List Za0.T×List Za0.T×Unit:=
 ((s.v:Int),(o,(b,(c,(m,(s.i,(s.l.map latT,(s.a.map andT,()))))))))
theorem halfM_is {x:Nat} (h:x≤1000000):IntKind.wrap .i64 (Int.tdiv (2*(x:Int)) 2)=(x:Int):=by
 have e:Int.tdiv (2*(x:Int)) 2=(x:Int):=by rw [Int.tdiv_eq_ediv_of_nonneg (by omega)];omega
 rw [e];exact i64w (by omega)
theorem rowG_at {v k j:Nat} (h:j<k):gt (.int .i64) (rowG v k) (j:Int)=2*((v+j+1:Nat):Int):=by
 have e:(rowG v k)[j]?=some (2*((v+j+1:Nat):Int)):=by
  unfold rowG
  rw [List.getElem?_map,List.getElem?_range h,show v+j+1=v+1+j by omega];rfl
 exact gt_at (σ:=.int .i64) e
theorem r_not {v:Nat} {l:Int} (h:LitOk v l) (hv:v≤500000):astrariumref39_not_FF (l,())=some (ntl l,()):=by
 have h1:=h.1
 have h2:=h.2
 obtain ⟨u,hu⟩:∃u:Nat,l / 2=(u:Int):=⟨(l / 2).toNat,by omega⟩
 have e1:Zcv (l,())=some ((u:Int),()):=by rw [←hu];exact var1_at h1 (by omega)
 have w2:IntKind.wrap .i64 (2*(u:Int))=2*(u:Int):=i64w (by omega)
 have w3:IntKind.wrap .i64 (2*(u:Int)+1)=2*(u:Int)+1:=i64w (by omega)
 have em:Int.tmod l 2=l % 2:=Int.tmod_eq_emod_of_nonneg h1
 have e2:Zawv (l,())=some (decide (l % 2=1),()):=by
  exact congrArg (fun z:Int=>some (decide (z=1),())) em
 have e3:astrariumref01_Make_FF ((u:Int),(Bool.not (decide (l % 2=1)),()))=some (ntl l,()):=by
  by_cases q:l % 2=1
  ·have e:ntl l=2*(u:Int):=by unfold ntl;rw [if_neg (by omega)];omega
   rw [decide_eq_true q,e]
   show some (IntKind.wrap .i64 (2*(u:Int)),())=some (2*(u:Int),())
   rw [w2]
  ·have e:ntl l=2*(u:Int)+1:=by unfold ntl;rw [if_pos (by omega)];omega
   rw [decide_eq_false q,e]
   show some (IntKind.wrap .i64 (IntKind.wrap .i64 (2*(u:Int))+1),())=some (2*(u:Int)+1,())
   rw [w2,w3]
 have e4:astrariumref01_Not_FF (l,())=some (ntl l,()):=by
  show astrariumref01_Not_F astrariumref01_Make_FF Zawv Zcv l=_
  unfold astrariumref01_Not_F
  exact Zba e1 (Zba e2 (Zba e3 rfl))
 exact Zba e4 rfl
section
variable (o b c:List Int) (m:List Za1.T) {s:Gk}
theorem r_vars (k:Nat) (hv:s.v+k≤50000):nastrariumref39_Maker__Vars_FF ((k:Int),rT o b c m s)=some (rowG s.v k,rT o b c m ⟨s.v+k,s.i,s.l,s.a⟩):=by
 have e2:nastrariumref39_Maker__Vars_L3 ((k:Int),((0:Int),((s.v:Int),(o,(b,(c,(m,(s.i,(s.l.map latT,(s.a.map andT,([],())))))))))))=some (((s.v+k:Nat):Int),(o,(b,(c,(m,(s.i,(s.l.map latT,(s.a.map andT,(rowG s.v k,()))))))))):=by
  unfold nastrariumref39_Maker__Vars_L3;delta u11
  refine Zif (fun j:Nat=>((k:Int),((j:Int),(((s.v+j:Nat):Int),(o,(b,(c,(m,(s.i,(s.l.map latT,(s.a.map andT,(rowG s.v j,())))))))))))) k rfl ?_ ?_ (Ze8 (by omega))
  ·intro j hj
   have w:IntKind.wrap .i64 (((s.v+j:Nat):Int)+1)=((s.v+j+1:Nat):Int):=i64w (x:=((s.v+j:Nat):Int)+1) (by omega)
   have w2:IntKind.wrap .i64 (2*IntKind.wrap .i64 (((s.v+j:Nat):Int)+1))=2*((s.v+j+1:Nat):Int):=by rw [w];exact i64w (by omega)
   have r2:room 8 (List.length (rowG s.v j++[IntKind.wrap .i64 (2*IntKind.wrap .i64 (((s.v+j:Nat):Int)+1))]))=true:=Zsm (by rw [rowG_len];omega) (by omega)
   have e:∀(p q u v':Int) (R R':List Int),p=q→u=v'→R=R'→(some (.inl ((k:Int),(p,(u,(o,(b,(c,(m,(s.i,(s.l.map latT,(s.a.map andT,(R,())))))))))))):Option (TL nastrariumref39_Maker__Vars_lay3.σs⊕Out nastrariumref39_Maker__Vars_outs3))=some (.inl ((k:Int),(q,(v',(o,(b,(c,(m,(s.i,(s.l.map latT,(s.a.map andT,(R',())))))))))))):=by rintro _ _ _ _ _ _ rfl rfl rfl;rfl
   refine br_tt (dec_t (show (j:Int)<(k:Int) by omega)) (Zaj r2 (e _ _ _ _ _ _ (i64n (x:=(j:Int)+1) (n:=j+1) (by omega) (by omega)) (w.trans (by omega)) ?_))
   show rowG s.v j++[IntKind.wrap .i64 (2*IntKind.wrap .i64 (((s.v+j:Nat):Int)+1))]=rowG s.v (j+1)
   rw [w2,rowG_succ]
  ·exact br_ff (dec_f (show ¬(k:Int)<(k:Int) by omega)) rfl
 exact Zba e2 rfl
theorem r_inputs (k:Nat) (hv:s.v+k≤50000) (hi:s.i.length+k≤50000):nastrariumref39_Maker__Inputs_FF ((k:Int),rT o b c m s)=some (rowG s.v k,(((s.v+k:Nat):Int),(o,(b,(c,(m,(s.l.map latT,(s.a.map andT,(s.i++fr s.v (s.v+k),()))))))))):=by
 have e2:nastrariumref39_Maker__Inputs_L3 ((k:Int),(rowG s.v k,((0:Int),(((s.v+k:Nat):Int),(o,(b,(c,(m,(s.l.map latT,(s.a.map andT,(s.i,())))))))))))=some (rowG s.v k,(((s.v+k:Nat):Int),(o,(b,(c,(m,(s.l.map latT,(s.a.map andT,(s.i++fr s.v (s.v+k),()))))))))):=by
  unfold nastrariumref39_Maker__Inputs_L3;delta u11
  refine Zif (fun j:Nat=>((k:Int),(rowG s.v k,((j:Int),(((s.v+k:Nat):Int),(o,(b,(c,(m,(s.l.map latT,(s.a.map andT,(s.i++fr s.v (s.v+j),())))))))))))) k ?_ ?_ ?_ (Ze8 (by omega))
  ·simp only [Nat.add_zero,fr_same,List.append_nil]
   rfl
  ·intro j hj
   have w:IntKind.wrap .i64 (Int.tdiv (gt (.int .i64) (rowG s.v k) (j:Int)) 2)=((s.v+j+1:Nat):Int):=by rw [rowG_at hj];exact halfM_is (x:=s.v+j+1) (by omega)
   have hfl:(fr s.v (s.v+j)).length=j:=by simp [fr]
   have r1:room 8 (List.length ((s.i++fr s.v (s.v+j))++[IntKind.wrap .i64 (Int.tdiv (gt (.int .i64) (rowG s.v k) (j:Int)) 2)]))=true:=Zsm (by rw [List.length_append,hfl];omega) (by omega)
   have i1:inb (j:Int) (List.length (rowG s.v k))=true:=Zar (by rw [rowG_len];omega)
   have e:∀(p q:Int) (A B:List Int),p=q→A=B→(some (.inl ((k:Int),(rowG s.v k,(p,(((s.v+k:Nat):Int),(o,(b,(c,(m,(s.l.map latT,(s.a.map andT,(A,())))))))))))):Option (TL nastrariumref39_Maker__Inputs_lay3.σs⊕Out nastrariumref39_Maker__Inputs_outs3))=some (.inl ((k:Int),(rowG s.v k,(q,(((s.v+k:Nat):Int),(o,(b,(c,(m,(s.l.map latT,(s.a.map andT,(B,())))))))))))):=by rintro _ _ _ _ rfl rfl;rfl
   refine br_tt (dec_t (show (j:Int)<(k:Int) by omega)) (Zaj i1 (Zaj r1 (e _ _ _ _ (i64n (x:=(j:Int)+1) (n:=j+1) (by omega) (by omega)) ?_)))
   show (s.i++fr s.v (s.v+j))++[IntKind.wrap .i64 (Int.tdiv (gt (.int .i64) (rowG s.v k) (j:Int)) 2)]=s.i++fr s.v (s.v+(j+1))
   rw [w,fr_succ,←List.append_assoc]
  ·exact br_ff (dec_f (show ¬(k:Int)<(k:Int) by omega)) rfl
 exact Zba (r_vars o b c m k hv) (Zba e2 rfl)
theorem r_latches (k:Nat) (st:Int) (hv:s.v+k≤50000) (hl:s.l.length+k≤50000):nastrariumref39_Maker__Latches_FF ((k:Int),(st,rT o b c m s))=some (rowG s.v k,(((s.v+k:Nat):Int),(o,(b,(c,(m,(s.i,(s.a.map andT,((s.l++latG s.v k st).map latT,()))))))))):=by
 have e2:nastrariumref39_Maker__Latches_L3 ((k:Int),(st,(rowG s.v k,((0:Int),(((s.v+k:Nat):Int),(o,(b,(c,(m,(s.i,(s.a.map andT,(s.l.map latT,()))))))))))))=some (rowG s.v k,(((s.v+k:Nat):Int),(o,(b,(c,(m,(s.i,(s.a.map andT,((s.l++latG s.v k st).map latT,()))))))))):=by
  unfold nastrariumref39_Maker__Latches_L3;delta u12
  refine Zif (fun j:Nat=>((k:Int),(st,(rowG s.v k,((j:Int),(((s.v+k:Nat):Int),(o,(b,(c,(m,(s.i,(s.a.map andT,((s.l++latG s.v j st).map latT,()))))))))))))) k ?_ ?_ ?_ (Ze8 (by omega))
  ·simp only [latG,List.append_nil,List.range_zero,List.map_nil]
   rfl
  ·intro j hj
   have w:IntKind.wrap .i64 (Int.tdiv (gt (.int .i64) (rowG s.v k) (j:Int)) 2)=((s.v+j+1:Nat):Int):=by rw [rowG_at hj];exact halfM_is (x:=s.v+j+1) (by omega)
   have hll:((s.l++latG s.v j st).map latT).length=s.l.length+j:=by rw [List.length_map,List.length_append,latG_len]
   have r1:room 24 (List.length ((s.l++latG s.v j st).map latT++[latT ⟨IntKind.wrap .i64 (Int.tdiv (gt (.int .i64) (rowG s.v k) (j:Int)) 2),gt (.int .i64) (rowG s.v k) (j:Int),st⟩]))=true:=room24 (by omega)
   have i1:inb (j:Int) (List.length (rowG s.v k))=true:=Zar (by rw [rowG_len];omega)
   have e:∀(p q:Int) (A B:List Za0.T),p=q→A=B→(some (.inl ((k:Int),(st,(rowG s.v k,(p,(((s.v+k:Nat):Int),(o,(b,(c,(m,(s.i,(s.a.map andT,(A,()))))))))))))):Option (TL nastrariumref39_Maker__Latches_lay3.σs⊕Out nastrariumref39_Maker__Latches_outs3))=some (.inl ((k:Int),(st,(rowG s.v k,(q,(((s.v+k:Nat):Int),(o,(b,(c,(m,(s.i,(s.a.map andT,(B,()))))))))))))):=by rintro _ _ _ _ rfl rfl;rfl
   refine br_tt (dec_t (show (j:Int)<(k:Int) by omega)) (Zaj i1 (Zaj i1 (Zaj r1 (e _ _ _ _ (i64n (x:=(j:Int)+1) (n:=j+1) (by omega) (by omega)) ?_))))
   show (s.l++latG s.v j st).map latT++[latT ⟨IntKind.wrap .i64 (Int.tdiv (gt (.int .i64) (rowG s.v k) (j:Int)) 2),gt (.int .i64) (rowG s.v k) (j:Int),st⟩]=(s.l++latG s.v (j+1) st).map latT
   rw [w,rowG_at hj,latG_succ,←List.append_assoc,List.map_append (l₁:=s.l++latG s.v j st)]
   rfl
  ·exact br_ff (dec_f (show ¬(k:Int)<(k:Int) by omega)) rfl
 exact Zba (r_vars o b c m k hv) (Zba e2 rfl)
theorem r_and (x y:Int) (hv:s.v≤49000) (ha:s.a.length≤50000):nastrariumref39_Maker__and_FF (x,(y,rT o b c m s))=some (2*((s.v+1:Nat):Int),rT o b c m ⟨s.v+1,s.i,s.l,s.a++[anG (s.v+1) x y]⟩):=by
 have eg:gt (.int .i64) (rowG s.v 1) (0:Int)=2*((s.v+1:Nat):Int):=rowG_at (v:=s.v) (k:=1) (j:=0) (by omega)
 have w:IntKind.wrap .i64 (Int.tdiv (gt (.int .i64) (rowG s.v 1) (0:Int)) 2)=((s.v+1:Nat):Int):=by rw [eg];exact halfM_is (x:=s.v+1) (by omega)
 have i1:inb (0:Int) (List.length (rowG s.v 1))=true:=Zar (by rw [rowG_len];omega)
 have r1:room 24 (List.length (s.a.map andT++[andT ⟨IntKind.wrap .i64 (Int.tdiv (gt (.int .i64) (rowG s.v 1) (0:Int)) 2),x,y⟩]))=true:=room24 (by rw [List.length_map];omega)
 have e:∀(p q:Int) (A B:List Za0.T),p=q→A=B→(some (p,(((s.v+1:Nat):Int),(o,(b,(c,(m,(s.i,(s.l.map latT,(A,()))))))))):Option (Out nastrariumref39_Maker__and_outs))=some (q,(((s.v+1:Nat):Int),(o,(b,(c,(m,(s.i,(s.l.map latT,(B,()))))))))):=by rintro _ _ _ _ rfl rfl;rfl
 have e0:nastrariumref39_Maker__Vars_FF ((1:Int),rT o b c m s)=some (rowG s.v 1,rT o b c m ⟨s.v+1,s.i,s.l,s.a⟩):=r_vars o b c m (s:=s) 1 (by omega)
 show nastrariumref39_Maker__and_F nastrariumref39_Maker__Vars_FF x y (s.v:Int) o b c m s.i (s.l.map latT) (s.a.map andT)=_
 unfold nastrariumref39_Maker__and_F
 refine Zba e0 ?_
 refine Zaj i1 ?_
 refine Zaj r1 ?_
 refine e _ _ _ _ eg ?_
 show s.a.map andT++[andT ⟨IntKind.wrap .i64 (Int.tdiv (gt (.int .i64) (rowG s.v 1) (0:Int)) 2),x,y⟩]=(s.a++[anG (s.v+1) x y]).map andT
 rw [w,List.map_append];rfl
end
theorem lp_ex2 {D O E P:Type} {B:D→Option (D⊕O)} {C:E→Option (E⊕P)} (n:Nat) (I:Nat→D→E→Prop) {Q:O→P→Prop} (hs:∀i d e,i<n→I i d e→∃d' e',B d=some (.inl d')∧C e=some (.inl e')∧I (i+1) d' e') (he:∀d e,I n d e→∃o p,B d=some (.inr o)∧C e=some (.inr p)∧Q o p)
  {d:D} {e:E} (h0:I 0 d e) {N M:Nat} (hN:n<N) (hM:n<M):∃o p,lpD B N d=some o∧lpD C M e=some p∧Q o p:=by
 have main:∀k i d e N M,i+k=n→I i d e→k<N→k<M→∃o p,lpD B N d=some o∧lpD C M e=some p∧Q o p:=by
  intro k
  induction k with
  | zero=>
   intro i d e N M eq h hN hM
   obtain rfl:i=n:=by omega
   obtain ⟨o,p,h1,h2,h3⟩:=he d e h
   cases N with
   | zero=>omega
   | succ N=>
    cases M with
    | zero=>omega
    | succ M=>exact ⟨o,p,by simp only [lpD,h1],by simp only [lpD,h2],h3⟩
  | succ k ih=>
   intro i d e N M eq h hN hM
   obtain ⟨d',e',h1,h2,h3⟩:=hs i d e (by omega) h
   cases N with
   | zero=>omega
   | succ N=>
    cases M with
    | zero=>omega
    | succ M=>
     obtain ⟨o,p,q1,q2,q3⟩:=ih (i+1) d' e' N M (by omega) h3 (by omega) (by omega)
     exact ⟨o,p,by simp only [lpD,h1];exact q1,by simp only [lpD,h2];exact q2,q3⟩
 exact main n 0 d e N M (by omega) h0 hN hM
section
variable (o b c:List Int) (m:List Za1.T) {s:Gk} {D:List Int}
theorem pand (h:GI s D) {x y:Int} (hx:LitOk s.v x) (hy:LitOk s.v y) (hv:s.v≤40000) (ha:s.a.length≤40000) :
  ∃(z:Int) (t:Gk),ngen_maker__and_FF (x,(y,gT o b c m s))=some (z,gT o b c m t)∧nastrariumref39_Maker__and_FF (x,(y,rT o b c m s))=some (z,rT o b c m t)∧GO s D 1 t∧LitOk t.v z:=by
 obtain ⟨z,t,e,G,ok⟩:=gand o b c m h hx hy hv ha
 have e':=(g_and o b c m (s:=s) x y (by omega) (by omega)).symm.trans e
 have r:=r_and o b c m (s:=s) x y (by omega) (by omega)
 have e':=Option.some.inj e'
 have ez:2*((s.v+1:Nat):Int)=z:=congrArg Prod.fst e'
 have et:gT o b c m ⟨s.v+1,s.i,s.l,s.a++[anG (s.v+1) x y]⟩=gT o b c m t:=congrArg Prod.snd e'
 have f1:((s.v+1:Nat):Int)=(t.v:Int):=congrArg (fun q=>q.1) et
 have f2:s.i=t.i:=congrArg (fun q=>q.2.1) et
 have f3:s.l.map latT=t.l.map latT:=congrArg (fun q=>q.2.2.1) et
 have f4:(s.a++[anG (s.v+1) x y]).map andT=t.a.map andT:=congrArg (fun q=>q.2.2.2.2.2.2.2.1) et
 refine ⟨z,t,e,?_,G,ok⟩
 rw [r,ez]
 show some (z,(((s.v+1:Nat):Int),(o,(b,(c,(m,(s.i,(s.l.map latT,((s.a++[anG (s.v+1) x y]).map andT,())))))))))=some (z,((t.v:Int),(o,(b,(c,(m,(t.i,(t.l.map latT,(t.a.map andT,())))))))))
 rw [f1,f2,f3,f4]
theorem por (h:GI s D) {x y:Int} (hx:LitOk s.v x) (hy:LitOk s.v y) (hv:s.v≤40000) (ha:s.a.length≤40000) :
  ∃(z:Int) (t:Gk),ngen_maker__or_FF (x,(y,gT o b c m s))=some (z,gT o b c m t)∧nastrariumref39_Maker__or_FF (x,(y,rT o b c m s))=some (z,rT o b c m t)∧GO s D 1 t∧LitOk t.v z:=by
 obtain ⟨z,t,e,r,G,ok⟩:=pand o b c m h (ntl_rng hx).1 (ntl_rng hy).1 hv ha
 have:=G.hi
 refine ⟨ntl z,t,?_,?_,G,(ntl_rng ok).1⟩
 ·show ngen_maker__or_F lits_Not_FF ngen_maker__and_FF x y (s.v:Int) s.i (s.l.map latT) o b c m (s.a.map andT)=_
  unfold ngen_maker__or_F
  exact Zba (lits_Not_is hx (by omega)) (Zba (lits_Not_is hy (by omega)) (Zba e (Zba (lits_Not_is ok (by omega)) rfl)))
 ·show nastrariumref39_Maker__or_F astrariumref39_not_FF nastrariumref39_Maker__and_FF x y (s.v:Int) o b c m s.i (s.l.map latT) (s.a.map andT)=_
  unfold nastrariumref39_Maker__or_F
  exact Zba (r_not hx (by omega)) (Zba (r_not hy (by omega)) (Zba r (Zba (r_not ok (by omega)) rfl)))
theorem peither (h:GI s D) {u x w y:Int} (hu:LitOk s.v u) (hx:LitOk s.v x) (hw:LitOk s.v w) (hy:LitOk s.v y) (hv:s.v≤39000) (ha:s.a.length≤39000) :
  ∃(p q z:Int) (s1 s2 t:Gk),ngen_maker__and_FF (u,(x,gT o b c m s))=some (p,gT o b c m s1)∧ngen_maker__and_FF (w,(y,gT o b c m s1))=some (q,gT o b c m s2)∧ngen_maker__or_FF (p,(q,gT o b c m s2))=some (z,gT o b c m t) ∧
   nastrariumref39_Maker__either_FF (u,(x,(w,(y,rT o b c m s))))=some (z,rT o b c m t)∧GO s D 3 t∧LitOk t.v z:=by
 obtain ⟨p,s1,e1,r1,G1,k1⟩:=pand o b c m h hu hx (by omega) (by omega)
 have a1:=G1.hi;have b1:=G1.len;have c1:=G1.lo
 obtain ⟨q,s2,e2,r2,G2,k2⟩:=pand o b c m G1.gi (hw.up c1) (hy.up c1) (by omega) (by omega)
 have a2:=G2.hi;have b2:=G2.len;have c2:=G2.lo
 obtain ⟨z,s3,e3,r3,G3,k3⟩:=por o b c m G2.gi (k1.up c2) k2 (by omega) (by omega)
 refine ⟨p,q,z,s1,s2,s3,e1,e2,e3,?_,(G1.trans G2 (Nat.le_refl _)).trans G3 (Nat.le_refl _),k3⟩
 show nastrariumref39_Maker__either_F nastrariumref39_Maker__or_FF nastrariumref39_Maker__and_FF u x w y (s.v:Int) o b c m s.i (s.l.map latT) (s.a.map andT)=_
 unfold nastrariumref39_Maker__either_F
 exact Zba r1 (Zba r2 (Zba r3 rfl))
theorem pchoose (h:GI s D) {u x y:Int} (hu:LitOk s.v u) (hx:LitOk s.v x) (hy:LitOk s.v y) (hv:s.v≤39000) (ha:s.a.length≤39000) :
  ∃(z:Int) (t:Gk),ngen_maker__choose_FF (u,(x,(y,gT o b c m s)))=some (z,gT o b c m t)∧nastrariumref39_Maker__either_FF (u,(x,(ntl u,(y,rT o b c m s))))=some (z,rT o b c m t)∧GO s D 3 t∧LitOk t.v z:=by
 obtain ⟨p,q,z,s1,s2,t,e1,e2,e3,r,G,ok⟩:=peither o b c m h hu hx (ntl_rng hu).1 hy hv ha
 refine ⟨z,t,?_,r,G,ok⟩
 show ngen_maker__choose_F lits_Not_FF ngen_maker__or_FF ngen_maker__and_FF u x y (s.v:Int) s.i (s.l.map latT) o b c m (s.a.map andT)=_
 unfold ngen_maker__choose_F
 exact Zba e1 (Zba (lits_Not_is hu (by omega)) (Zba e2 (Zba e3 rfl)))
theorem pall (h:GI s D) {L:List Int} (hL:∀x∈L,LitOk s.v x) (hv:s.v+L.length≤40000) (ha:s.a.length+L.length≤40000) :
  ∃(z:Int) (t:Gk),ngen_maker__all_FF (L,gT o b c m s)=some (z,gT o b c m t)∧nastrariumref39_Maker__all_FF (L,rT o b c m s)=some (z,rT o b c m t)∧GO s D L.length t∧LitOk t.v z:=by
 have hq:∃q q',ngen_maker__all_L4 ((1:Int),(L,((L.length:Int),((0:Int),gT o b c m s))))=some q∧nastrariumref39_Maker__all_L3 (L,((1:Int),((0:Int),rT o b c m s)))=some q'∧∃(z:Int) (t:Gk),q=(z,gT o b c m t)∧q'=(z,rT o b c m t)∧GO s D L.length t∧LitOk t.v z:=by
  unfold ngen_maker__all_L4 nastrariumref39_Maker__all_L3;delta u12 u11
  refine lp_ex2 L.length (fun k d e=>∃(z:Int) (t:Gk),d=(z,(L,((L.length:Int),((k:Int),gT o b c m t))))∧e=(L,(z,((k:Int),rT o b c m t)))∧GO s D k t∧LitOk t.v z) ?_ ?_ ⟨1,s,rfl,rfl,GO.refl h,⟨by omega,by omega⟩⟩ (Ze8 (by omega)) (Ze8 (by omega))
  ·rintro k _ _ hk ⟨z,t,rfl,rfl,G,ok⟩
   have h1:=G.hi;have h2:=G.len;have h3:=G.lo
   obtain ⟨z',u,e,r,G',ok'⟩:=pand o b c m G.gi ok ((hL (L[k]) (List.getElem_mem hk)).up h3) (by omega) (by omega)
   have eg:gt (.int .i64) L (k:Int)=L[k]:=gt_at (σ:=.int .i64) (List.getElem?_eq_getElem hk)
   have e:ngen_maker__and_FF (z,(gt (.int .i64) L (k:Int),gT o b c m t))=some (z',gT o b c m u):=by rw [eg];exact e
   have r:nastrariumref39_Maker__and_FF (z,(gt (.int .i64) L (k:Int),rT o b c m t))=some (z',rT o b c m u):=by rw [eg];exact r
   have i1:inb (k:Int) (List.length L)=true:=Zar (by omega)
   have ek:IntKind.wrap .i64 ((k:Int)+1)=((k+1:Nat):Int):=i64n (x:=(k:Int)+1) (n:=k+1) (by omega) (by omega)
   refine ⟨_,_,br_tt (dec_t (show (k:Int)<(L.length:Int) by omega)) (Zaj i1 (Zba e rfl)),br_tt (dec_t (show (k:Int)<(L.length:Int) by omega)) (Zaj i1 (Zba r rfl)),z',u,?_,?_,G.trans G' (Nat.le_refl _),ok'⟩
   ·show (z',(L,((L.length:Int),(IntKind.wrap .i64 ((k:Int)+1),gT o b c m u))))=_
    rw [ek]
   ·show (L,(z',(IntKind.wrap .i64 ((k:Int)+1),rT o b c m u)))=_
    rw [ek]
  ·rintro _ _ ⟨z,t,rfl,rfl,G,ok⟩
   exact ⟨_,_,br_ff (dec_f (show ¬(L.length:Int)<(L.length:Int) by omega)) rfl,br_ff (dec_f (show ¬(L.length:Int)<(L.length:Int) by omega)) rfl,z,t,rfl,rfl,G,ok⟩
 obtain ⟨_,_,e,r,z,t,rfl,rfl,G,ok⟩:=hq
 exact ⟨z,t,Zba e rfl,Zba r rfl,G,ok⟩
theorem psame (h:GI s D) {L M:List Int} (hL:∀x∈L,LitOk s.v x) (hM:∀x∈M,LitOk s.v x) (hl:L.length≤M.length) (hv:s.v+4*L.length≤39000) (ha:s.a.length+4*L.length≤39000) :
  ∃(z:Int) (t:Gk),ngen_maker__same_FF (L,(M,gT o b c m s))=some (z,gT o b c m t)∧nastrariumref39_Maker__same_FF (L,(M,rT o b c m s))=some (z,rT o b c m t)∧GO s D (4*L.length) t∧LitOk t.v z:=by
 have hq:∃q q',ngen_maker__same_L3 (M,(L,((L.length:Int),((0:Int),((s.v:Int),(s.i,(s.l.map latT,(o,(b,(c,(m,(s.a.map andT,([],())))))))))))))=some q∧nastrariumref39_Maker__same_L3 (L,(M,((0:Int),((s.v:Int),(o,(b,(c,(m,(s.i,(s.l.map latT,(s.a.map andT,([],()))))))))))))=some q' ∧
   ∃(t:Gk) (R:List Int),q=((t.v:Int),(t.i,(t.l.map latT,(o,(b,(c,(m,(t.a.map andT,(R,())))))))))∧q'=((t.v:Int),(o,(b,(c,(m,(t.i,(t.l.map latT,(t.a.map andT,(R,())))))))))∧GO s D (3*L.length) t∧R.length=L.length∧∀x∈R,LitOk t.v x:=by
  unfold ngen_maker__same_L3 nastrariumref39_Maker__same_L3;delta u13 u12
  refine lp_ex2 L.length (fun k d e=>∃(t:Gk) (R:List Int),d=(M,(L,((L.length:Int),((k:Int),((t.v:Int),(t.i,(t.l.map latT,(o,(b,(c,(m,(t.a.map andT,(R,())))))))))))))∧e=(L,(M,((k:Int),((t.v:Int),(o,(b,(c,(m,(t.i,(t.l.map latT,(t.a.map andT,(R,()))))))))))))∧GO s D (3*k) t∧R.length=k∧∀x∈R,LitOk t.v x) ?_ ?_ ⟨s,[],rfl,rfl,GO.refl h,rfl,fun x hx=>nomatch hx⟩ (Ze8 (by omega)) (Ze8 (by omega))
  ·rintro k _ _ hk ⟨t,R,rfl,rfl,G,hR,hr⟩
   have h1:=G.hi;have h2:=G.len;have h3:=G.lo
   have hk2:k<M.length:=by omega
   have kx:=(hL (L[k]) (List.getElem_mem hk)).up h3
   have ky:=(hM (M[k]) (List.getElem_mem hk2)).up h3
   have eg:gt (.int .i64) L (k:Int)=L[k]:=gt_at (σ:=.int .i64) (List.getElem?_eq_getElem hk)
   have eh:gt (.int .i64) M (k:Int)=M[k]:=gt_at (σ:=.int .i64) (List.getElem?_eq_getElem hk2)
   obtain ⟨p,q,z,s1,s2,s3,e1,e2,e3,r,G3,k3⟩:=peither o b c m G.gi kx ky (ntl_rng kx).1 (ntl_rng ky).1 (by omega) (by omega)
   have a3:=G3.hi;have b3:=G3.len;have c3:=G3.lo
   have e1:ngen_maker__and_FF (gt (.int .i64) L (k:Int),(gt (.int .i64) M (k:Int),gT o b c m t))=some (p,gT o b c m s1):=by rw [eg,eh];exact e1
   have r:nastrariumref39_Maker__either_FF (gt (.int .i64) L (k:Int),(gt (.int .i64) M (k:Int),(ntl L[k],(ntl M[k],rT o b c m t))))=some (z,rT o b c m s3):=by rw [eg,eh];exact r
   have n1:lits_Not_FF (gt (.int .i64) L (k:Int),())=some (ntl L[k],()):=by rw [eg];exact lits_Not_is kx (by omega)
   have n2:lits_Not_FF (gt (.int .i64) M (k:Int),())=some (ntl M[k],()):=by rw [eh];exact lits_Not_is ky (by omega)
   have m1:astrariumref39_not_FF (gt (.int .i64) L (k:Int),())=some (ntl L[k],()):=by rw [eg];exact r_not kx (by omega)
   have m2:astrariumref39_not_FF (gt (.int .i64) M (k:Int),())=some (ntl M[k],()):=by rw [eh];exact r_not ky (by omega)
   have q1:∀a:Int,iQ a a=true:=fun a=>decide_eq_true rfl
   have i1:inb (k:Int) (List.length L)=true:=Zar (by omega)
   have i2:inb (k:Int) (List.length M)=true:=Zar (by omega)
   have r1:room 8 (List.length (R++[z]))=true:=Zsm (by omega) (by omega)
   have ek:IntKind.wrap .i64 ((k:Int)+1)=((k+1:Nat):Int):=i64n (x:=(k:Int)+1) (n:=k+1) (by omega) (by omega)
   refine ⟨_,_,br_tt (dec_t (show (k:Int)<(L.length:Int) by omega)) (Zaj i1 (Zaj i2 (Zaj i2 (Zba e1 (Zaj (q1 _) (Zaj (Za1l (fun x=>Sh.Zb5s x) _) (Zaj (q1 _) (Zaj i2 (Zaj (Sh.Zb5s _) (Zaj (q1 _) (Zba n1 (Zba n2 (Zba e2 (Zba e3 (Zaj r1 rfl))))))))))))))),
    br_tt (dec_t (show (k:Int)<(L.length:Int) by omega)) (Zaj i1 (Zaj i2 (Zaj i1 (Zaj i2 (Zba m1 (Zba m2 (Zba r (Zaj r1 rfl)))))))),s3,R++[z],?_,?_,
    G.trans G3 (by omega),by simp [hR],fun x hx=>?_⟩
   ·show (M,(L,((L.length:Int),(IntKind.wrap .i64 ((k:Int)+1),((s3.v:Int),(s3.i,(s3.l.map latT,(o,(b,(c,(m,(s3.a.map andT,(R++[z],())))))))))))))=_
    rw [ek]
   ·show (L,(M,(IntKind.wrap .i64 ((k:Int)+1),((s3.v:Int),(o,(b,(c,(m,(s3.i,(s3.l.map latT,(s3.a.map andT,(R++[z],()))))))))))))=_
    rw [ek]
   ·rcases List.mem_append.1 hx with q | q
    ·exact (hr x q).up (by omega)
    ·obtain rfl:=List.mem_singleton.1 q
     exact k3
  ·rintro _ _ ⟨t,R,rfl,rfl,G,hR,hr⟩
   exact ⟨_,_,br_ff (dec_f (show ¬(L.length:Int)<(L.length:Int) by omega)) rfl,br_ff (dec_f (show ¬(L.length:Int)<(L.length:Int) by omega)) rfl,t,R,rfl,rfl,G,hR,hr⟩
 obtain ⟨_,_,e,r,t,R,rfl,rfl,G,hR,hr⟩:=hq
 have h1:=G.hi;have h2:=G.len
 obtain ⟨z,u,e2,r2,G2,ok⟩:=pall o b c m G.gi hr (by omega) (by omega)
 exact ⟨z,u,Zba e (Zba e2 rfl),Zba r (Zba r2 rfl),G.trans G2 (by omega),ok⟩
theorem pcnt (h:GI s D) {L:List Int} {k f:Nat} (hk:k<L.length) (kx:LitOk s.v L[k]) {w:Int} (ow:LitOk s.v w) (hf:f+L.length≤s.l.length) (hv:s.v≤39000) (ha:s.a.length≤39000) (hl:s.l.length≤40000) :
  ∃(z w':Int) (s1 s3:Gk),inb (IntKind.wrap .i64 ((f:Int)+(k:Int))) (List.length (s1.l.map latT))=true∧ngen_maker__choose_FF (gt (.int .i64) L (k:Int),(ntl w,(w,gT o b c m s)))=some (z,gT o b c m s1) ∧
   nastrariumref39_Maker__either_FF (gt (.int .i64) L (k:Int),(ntl w,(ntl L[k],(w,rT o b c m s))))=some (z,rT o b c m s1) ∧
   ngen_maker__and_FF (gt (.int .i64) L (k:Int),(w,((s1.v:Int),(s1.i,(List.set (s1.l.map latT) (Int.toNat (IntKind.wrap .i64 ((f:Int)+(k:Int)))) ((gt Za0 (s1.l.map latT) (IntKind.wrap .i64 ((f:Int)+(k:Int)))).1,(z,((gt Za0 (s1.l.map latT) (IntKind.wrap .i64 ((f:Int)+(k:Int)))).2.2.1,()))),(o,(b,(c,(m,(s1.a.map andT,()))))))))))=some (w',gT o b c m s3) ∧
   nastrariumref39_Maker__and_FF (gt (.int .i64) L (k:Int),(w,((s1.v:Int),(o,(b,(c,(m,(s1.i,(List.set (s1.l.map latT) (Int.toNat (IntKind.wrap .i64 ((f:Int)+(k:Int)))) ((gt Za0 (s1.l.map latT) (IntKind.wrap .i64 ((f:Int)+(k:Int)))).1,(z,((gt Za0 (s1.l.map latT) (IntKind.wrap .i64 ((f:Int)+(k:Int)))).2.2.1,()))),(s1.a.map andT,()))))))))))=some (w',rT o b c m s3) ∧
   GO s D 4 s3∧LitOk s3.v w':=by
 have eg:gt (.int .i64) L (k:Int)=L[k]:=gt_at (σ:=.int .i64) (List.getElem?_eq_getElem hk)
 obtain ⟨z,s1,e1,r1,G1,k1⟩:=pchoose o b c m h kx (ntl_rng ow).1 ow (by omega) (by omega)
 have a1:=G1.hi;have b1:=G1.len;have c1:=G1.lo
 have hlen:s1.l.length=s.l.length:=by
  have:=congrArg List.length G1.lav
  simpa using this
 have ew:IntKind.wrap .i64 ((f:Int)+(k:Int))=((f+k:Nat):Int):=i64n (x:=(f:Int)+(k:Int)) (n:=f+k) (by omega) (by omega)
 obtain ⟨G2,es⟩:=gset (k:=f+k) G1.gi ew (by omega) z k1
 obtain ⟨w',s3,e3,r3,G3,k3⟩:=pand o b c m G2.gi (kx.up c1) (ow.up c1) (show s1.v≤40000 by omega) (show s1.a.length≤40000 by omega)
 refine ⟨z,w',s1,s3,by rw [ew];exact Zar (by rw [List.length_map];omega),by rw [eg];exact e1,by rw [eg];exact r1,by rw [eg,es];exact e3,by rw [eg,es];exact r3,G1.trans (G2.trans G3 (Nat.le_refl _)) (Nat.le_refl _),k3⟩
theorem pcounto (h:GI s D) {L:List Int} (hL:∀x∈L,LitOk s.v x) {f:Nat} {w:Int} (hw:LitOk s.v w) (hf:f+L.length≤s.l.length) (hv:s.v+4*L.length≤39000) (ha:s.a.length+4*L.length≤39000) (hl:s.l.length≤40000) :
  ∃t:Gk,ngen_maker__counto_FF ((f:Int),(w,((s.v:Int),(s.i,(s.l.map latT,(o,(b,(c,(m,(s.a.map andT,(L,())))))))))))=some ((t.v:Int),(t.i,(t.l.map latT,(o,(b,(c,(m,(L,(t.a.map andT,())))))))))∧ngen_maker__count_FF (L,((f:Int),(w,gT o b c m s)))=some (gT o b c m t)∧nastrariumref39_Maker__count_FF (L,((f:Int),(w,rT o b c m s)))=some (rT o b c m t)∧GO s D (4*L.length) t:=by
 have q1:∀a:Int,iQ a a=true:=fun a=>decide_eq_true rfl
 have hq:∃q q',ngen_maker__counto_L1 ((f:Int),(w,((L.length:Int),((0:Int),((s.v:Int),(s.i,(s.l.map latT,(o,(b,(c,(m,(L,(s.a.map andT,())))))))))))))=some q∧nastrariumref39_Maker__count_L1 (L,((f:Int),(w,((0:Int),rT o b c m s))))=some q'∧∃(t:Gk),q=((t.v:Int),(t.i,(t.l.map latT,(o,(b,(c,(m,(L,(t.a.map andT,())))))))))∧q'=rT o b c m t∧GO s D (4*L.length) t:=by
  unfold ngen_maker__counto_L1 nastrariumref39_Maker__count_L1;delta u13 u12
  refine lp_ex2 L.length (fun k d e=>∃(t:Gk) (w:Int),d=((f:Int),(w,((L.length:Int),((k:Int),((t.v:Int),(t.i,(t.l.map latT,(o,(b,(c,(m,(L,(t.a.map andT,())))))))))))))∧e=(L,((f:Int),(w,((k:Int),rT o b c m t))))∧GO s D (4*k) t∧LitOk t.v w) ?_ ?_ ⟨s,w,rfl,rfl,GO.refl h,hw⟩ (Ze8 (by omega)) (Ze8 (by omega))
  ·rintro k _ _ hk ⟨t,w,rfl,rfl,G,ow⟩
   have h1:=G.hi;have h2:=G.len;have h3:=G.lo
   have kx:=(hL (L[k]) (List.getElem_mem hk)).up h3
   have hlen:t.l.length=s.l.length:=by
    have:=congrArg List.length G.lav
    simpa using this
   obtain ⟨z,w',s1,s3,i2,e1,r1,e3,r3,G3,k3⟩:=pcnt o b c m G.gi hk kx ow (f:=f) (by omega) (by omega) (by omega) (by omega)
   have eg:gt (.int .i64) L (k:Int)=L[k]:=gt_at (σ:=.int .i64) (List.getElem?_eq_getElem hk)
   have m1:astrariumref39_not_FF (gt (.int .i64) L (k:Int),())=some (ntl L[k],()):=by rw [eg];exact r_not kx (by omega)
   have i1:inb (k:Int) (List.length L)=true:=Zar (by omega)
   have ek:IntKind.wrap .i64 ((k:Int)+1)=((k+1:Nat):Int):=i64n (x:=(k:Int)+1) (n:=k+1) (by omega) (by omega)
   refine ⟨_,_,br_tt (dec_t (show (k:Int)<(L.length:Int) by omega)) (Zaj i1 (Zba (lits_Not_is ow (by omega)) (Zba e1 (Zaj i2 (Zaj (q1 _) (Zaj (q1 _) (Zaj (q1 _) (Zba e3 rfl)))))))),
    br_tt (dec_t (show (k:Int)<(L.length:Int) by omega)) (Zaj i1 (Zaj i1 (Zba (r_not ow (by omega)) (Zba m1 (Zba r1 (Zaj i2 (Zaj (q1 _) (Zaj (q1 _) (Zaj (q1 _) (Zaj i1 (Zba r3 rfl))))))))))),s3,w',?_,?_,G.trans G3 (by omega),k3⟩
   ·show ((f:Int),(w',((L.length:Int),(IntKind.wrap .i64 ((k:Int)+1),((s3.v:Int),(s3.i,(s3.l.map latT,(o,(b,(c,(m,(L,(s3.a.map andT,())))))))))))))=_
    rw [ek]
   ·show (L,((f:Int),(w',(IntKind.wrap .i64 ((k:Int)+1),rT o b c m s3))))=_
    rw [ek]
  ·rintro _ _ ⟨t,w,rfl,rfl,G,ow⟩
   exact ⟨_,_,br_ff (dec_f (show ¬(L.length:Int)<(L.length:Int) by omega)) rfl,br_ff (dec_f (show ¬(L.length:Int)<(L.length:Int) by omega)) rfl,t,rfl,rfl,G⟩
 have hq2:∃q q',ngen_maker__count_L1 ((f:Int),(w,(L,((L.length:Int),((0:Int),gT o b c m s)))))=some q∧nastrariumref39_Maker__count_L1 (L,((f:Int),(w,((0:Int),rT o b c m s))))=some q'∧∃(t:Gk),q=gT o b c m t∧q'=rT o b c m t:=by
  unfold ngen_maker__count_L1 nastrariumref39_Maker__count_L1;delta u13 u12
  refine lp_ex2 L.length (fun k d e=>∃(t:Gk) (w:Int),d=((f:Int),(w,(L,((L.length:Int),((k:Int),gT o b c m t)))))∧e=(L,((f:Int),(w,((k:Int),rT o b c m t))))∧GO s D (4*k) t∧LitOk t.v w) ?_ ?_ ⟨s,w,rfl,rfl,GO.refl h,hw⟩ (Ze8 (by omega)) (Ze8 (by omega))
  ·rintro k _ _ hk ⟨t,w,rfl,rfl,G,ow⟩
   have h1:=G.hi;have h2:=G.len;have h3:=G.lo
   have kx:=(hL (L[k]) (List.getElem_mem hk)).up h3
   have hlen:t.l.length=s.l.length:=by
    have:=congrArg List.length G.lav
    simpa using this
   obtain ⟨z,w',s1,s3,i2,e1,r1,e3,r3,G3,k3⟩:=pcnt o b c m G.gi hk kx ow (f:=f) (by omega) (by omega) (by omega) (by omega)
   have eg:gt (.int .i64) L (k:Int)=L[k]:=gt_at (σ:=.int .i64) (List.getElem?_eq_getElem hk)
   have m1:astrariumref39_not_FF (gt (.int .i64) L (k:Int),())=some (ntl L[k],()):=by rw [eg];exact r_not kx (by omega)
   have i1:inb (k:Int) (List.length L)=true:=Zar (by omega)
   have ek:IntKind.wrap .i64 ((k:Int)+1)=((k+1:Nat):Int):=i64n (x:=(k:Int)+1) (n:=k+1) (by omega) (by omega)
   refine ⟨_,_,br_tt (dec_t (show (k:Int)<(L.length:Int) by omega)) (Zaj i1 (Zba (lits_Not_is ow (by omega)) (Zba e1 (Zaj i2 (Zaj (q1 _) (Zaj (q1 _) (Zaj (q1 _) (Zba e3 rfl)))))))),
    br_tt (dec_t (show (k:Int)<(L.length:Int) by omega)) (Zaj i1 (Zaj i1 (Zba (r_not ow (by omega)) (Zba m1 (Zba r1 (Zaj i2 (Zaj (q1 _) (Zaj (q1 _) (Zaj (q1 _) (Zaj i1 (Zba r3 rfl))))))))))),s3,w',?_,?_,G.trans G3 (by omega),k3⟩
   ·show ((f:Int),(w',(L,((L.length:Int),(IntKind.wrap .i64 ((k:Int)+1),gT o b c m s3)))))=_
    rw [ek]
   ·show (L,((f:Int),(w',(IntKind.wrap .i64 ((k:Int)+1),rT o b c m s3))))=_
    rw [ek]
  ·rintro _ _ ⟨t,w,rfl,rfl,G,ow⟩
   exact ⟨_,_,br_ff (dec_f (show ¬(L.length:Int)<(L.length:Int) by omega)) rfl,br_ff (dec_f (show ¬(L.length:Int)<(L.length:Int) by omega)) rfl,t,rfl,rfl⟩
 obtain ⟨_,_,e,r,t,rfl,rfl,G⟩:=hq
 obtain ⟨_,_,e',r',t',rfl,eq⟩:=hq2
 have et:rT o b c m t=rT o b c m t':=Option.some.inj (r.symm.trans (r'.trans (congrArg some eq)))
 have f1:(t.v:Int)=(t'.v:Int):=congrArg (fun q=>q.1) et
 have f2:t.i=t'.i:=congrArg (fun q=>q.2.2.2.2.2.1) et
 have f3:t.l.map latT=t'.l.map latT:=congrArg (fun q=>q.2.2.2.2.2.2.1) et
 have f4:t.a.map andT=t'.a.map andT:=congrArg (fun q=>q.2.2.2.2.2.2.2.1) et
 have eT:gT o b c m t'=gT o b c m t:=by
  show ((t'.v:Int),(t'.i,(t'.l.map latT,(o,(b,(c,(m,(t'.a.map andT,()))))))))=((t.v:Int),(t.i,(t.l.map latT,(o,(b,(c,(m,(t.a.map andT,()))))))))
  rw [f1,f2,f3,f4]
 exact ⟨t,Zba e rfl,(Zba e' rfl:_=some (gT o b c m t')).trans (congrArg some eT),Zba r rfl,G⟩
end
end Go.Proofs.YtkcpdpplobhpaaaGreat.V
end
section
namespace Go.Proofs.YtkcpdpplobhpaaaGreat.V
open Go Go.RowKit
set_option maxRecDepth 1000000
abbrev gen_Names_σs:List Sh:=[]
abbrev gen_Names_τs:List Sh:=[(.sl .str)]
abbrev gen_Names_T:=TL gen_Names_σs→Option (TL gen_Names_τs)
abbrev gen_Names_D:=Kd 42 gen_Names_σs gen_Names_τs
def gen_Names_F   :Option (TL gen_Names_τs):=
 some (((⟨#[99,111,117,110,116,101,114]⟩:ByteArray) :: ((⟨#[101,99,104,111]⟩:ByteArray) :: ((⟨#[115,116,97,99,107]⟩:ByteArray) :: []))),())
def gen_Names_G  :gen_Names_D:=⟨fun d=>gen_Names_F   ,pD Tryz.func42 2 k0 e0 1 (sS l0) fun d=>by kernel_rfl⟩
def gen_Names_K:gen_Names_D:=gen_Names_G  
abbrev astrariumref01_Same_lay4:Lay:={ T:=[(0,.fz (.int .i64)),(1,.fz (.int .i64)),(5,.int .i64)],h:=[],nx:=0 }
abbrev astrariumref01_Same_outs4:List (Ev.Ex×Lay):=[(.ret,yRi10),((.exit 0),{ T:=[],h:=[],nx:=0 })]
abbrev astrariumref01_Same_T4:=TL astrariumref01_Same_lay4.σs→Option (Out astrariumref01_Same_outs4)
abbrev astrariumref01_Same_D4:=Ld 0 26 (Zb5 [0] (Zaa Tryz.f48)) astrariumref01_Same_lay4 astrariumref01_Same_outs4
def astrariumref01_Same_B4 (t0 t1:List Int) (t5:Int):Option (TL astrariumref01_Same_lay4.σs⊕Out astrariumref01_Same_outs4):=
 br (iL t5 (Int.ofNat (List.length t0)))
 (
  chk (inb t5 (List.length t0))<|
  chk (inb t5 (List.length t1))<|
  br (Bool.not (iQ (gt (.int .i64) t0 t5) (gt (.int .i64) t1 t5)))
  (
   some (.inr (.inl (false,()))))
  (
   some (.inl (t0,(t1,((IntKind.wrap .i64 (t5+(1:Int))),()))))))
 (
  some (.inr (.inr ())))
def astrariumref01_Same_N4  :astrariumref01_Same_D4:=mkL (u3 astrariumref01_Same_B4) (pL k0 e0 1 l0 fun d=>by kernel_rfl)
def astrariumref01_Same_L4:astrariumref01_Same_T4:=lpD (u3 astrariumref01_Same_B4) NN
abbrev astrariumref01_Same_σs:List Sh:=[(.sl (.int .i64)),(.sl (.int .i64))]
abbrev astrariumref01_Same_τs:List Sh:=[.bool]
abbrev astrariumref01_Same_T:=TL astrariumref01_Same_σs→Option (TL astrariumref01_Same_τs)
abbrev astrariumref01_Same_D:=Kd 48 astrariumref01_Same_σs astrariumref01_Same_τs
def astrariumref01_Same_F (L4:astrariumref01_Same_T4) (a0 a1:List Int):Option (TL astrariumref01_Same_τs):=
 br (Bool.not (iQ (Int.ofNat (List.length a0)) (Int.ofNat (List.length a1))))
 (
  some (false,()))
 (
  bnd (L4 (a0,(a1,((0:Int),())))) fun x0=>
  (match x0 with
  | .inl x1=>
   some (x1.1,())
  | .inr x1=>
   some (true,())
  ))
def astrariumref01_Same_G (M4:astrariumref01_Same_D4):astrariumref01_Same_D:=⟨u2 (astrariumref01_Same_F M4.L),pD Tryz.func48 26 k0 e0 1 (sS (sC M4 l0)) fun d=>by kernel_rfl⟩
def astrariumref01_Same_K:astrariumref01_Same_D:=astrariumref01_Same_G  astrariumref01_Same_N4
def astrariumref01_Same_FF:astrariumref01_Same_T:=astrariumref01_Same_K.F
abbrev astrariumref05_same_lay9:Lay:={ T:=[(2,.ptr 0 0),(3,.ptr 1 0),(6,.int .i64)],h:=yRi5,nx:=2 }
abbrev astrariumref05_same_outs9:List (Ev.Ex×Lay):=[(.ret,yRi10),((.exit 2),{ T:=[],h:=[],nx:=0 })]
abbrev astrariumref05_same_T9:=TL astrariumref05_same_lay9.σs→Option (Out astrariumref05_same_outs9)
abbrev astrariumref05_same_D9:=Ld 0 120 (Zb5 [1] (Zaa Tryz.f97)) astrariumref05_same_lay9 astrariumref05_same_outs9
abbrev astrariumref05_same_lay4:Lay:={ T:=[(2,.ptr 0 0),(3,.ptr 1 0),(5,.int .i64)],h:=yRi5,nx:=2 }
abbrev astrariumref05_same_outs4:List (Ev.Ex×Lay):=[(.ret,yRi10),((.exit 0),{ T:=[(2,.ptr 0 0),(3,.ptr 1 0)],h:=yRi5,nx:=2 })]
abbrev astrariumref05_same_T4:=TL astrariumref05_same_lay4.σs→Option (Out astrariumref05_same_outs4)
abbrev astrariumref05_same_D4:=Ld 0 120 (Zb5 [0] (Zaa Tryz.f97)) astrariumref05_same_lay4 astrariumref05_same_outs4
def astrariumref05_same_B4 (F0:astrariumref01_Same_T) (t5 b0_0 b0_1:Int) (b0_2:Bool) (b0_3:List (Sh.T Zb3)) (b0_4:List (Sh.T Zb8)) (b1_0 b1_1:Int) (b1_2:Bool) (b1_3:List (Sh.T Zb3)) (b1_4:List (Sh.T Zb8)):Option (TL astrariumref05_same_lay4.σs⊕Out astrariumref05_same_outs4):=
 br (iL t5 (Int.ofNat (List.length b0_3)))
 (
  chk (inb t5 (List.length b0_3))<|
  chk (inb t5 (List.length b1_3))<|
  br (Bool.not (iQ (gt Zb3 b0_3 t5).1 (gt Zb3 b1_3 t5).1))
  (
   some (.inr (.inl (false,()))))
  (
   chk (inb t5 (List.length b0_3))<|
   chk (inb t5 (List.length b1_3))<|
   bnd (F0 ((gt Zb3 b0_3 t5).2.1,((gt Zb3 b1_3 t5).2.1,()))) fun x0=>
   br (selB false true (Bool.not x0.1))
   (
    some (.inr (.inl (false,()))))
   (
    some (.inl ((IntKind.wrap .i64 (t5+(1:Int))),(b0_0,(b0_1,(b0_2,(b0_3,(b0_4,(b1_0,(b1_1,(b1_2,(b1_3,(b1_4,())))))))))))))))
 (
  some (.inr (.inr (b0_0,(b0_1,(b0_2,(b0_3,(b0_4,(b1_0,(b1_1,(b1_2,(b1_3,(b1_4,())))))))))))))
def astrariumref05_same_M4 (c0:astrariumref01_Same_D) :astrariumref05_same_D4:=mkL (u11 (astrariumref05_same_B4 c0.F)) (pL (kD c0 k0) e0 1 l0 fun d=>by kernel_rfl)
def astrariumref05_same_N4:astrariumref05_same_D4:=astrariumref05_same_M4 astrariumref01_Same_K 
def astrariumref05_same_L4:astrariumref05_same_T4:=lpD (u11 (astrariumref05_same_B4 astrariumref01_Same_FF)) NN
def astrariumref05_same_B9 (F0:astrariumref01_Same_T) (t6 b0_0 b0_1:Int) (b0_2:Bool) (b0_3:List (Sh.T Zb3)) (b0_4:List (Sh.T Zb8)) (b1_0 b1_1:Int) (b1_2:Bool) (b1_3:List (Sh.T Zb3)) (b1_4:List (Sh.T Zb8)):Option (TL astrariumref05_same_lay9.σs⊕Out astrariumref05_same_outs9):=
 br (iL t6 (Int.ofNat (List.length b0_4)))
 (
  chk (inb t6 (List.length b0_4))<|
  chk (inb t6 (List.length b1_4))<|
  chk (Zqo (Sh.beq Zb8) b1_4 b1_4)<|
  chk (iQ t6 t6)<|
  chk (inb t6 (List.length b1_4))<|
  chk (Sh.beq Zb8 (gt Zb8 b1_4 t6) (gt Zb8 b1_4 t6))<|
  chk (both (iQ (gt Zb8 b1_4 t6).1 (gt Zb8 b1_4 t6).1) (both (Zqo (Sh.beq (.int .i64)) (gt Zb8 b1_4 t6).2.1 (gt Zb8 b1_4 t6).2.1) (both (Zqo (Sh.beq (.int .i64)) (gt Zb8 b1_4 t6).2.2.1 (gt Zb8 b1_4 t6).2.2.1) true)))<|
  br (Bool.not (iQ (gt Zb8 b0_4 t6).1 (gt Zb8 b1_4 t6).1))
  (
   some (.inr (.inl (false,()))))
  (
   bnd (F0 ((gt Zb8 b0_4 t6).2.1,((gt Zb8 b1_4 t6).2.1,()))) fun x0=>
   br (selB false true (Bool.not x0.1))
   (
    some (.inr (.inl (false,()))))
   (
    bnd (F0 ((gt Zb8 b0_4 t6).2.2.1,((gt Zb8 b1_4 t6).2.2.1,()))) fun x1=>
    br (selB false true (Bool.not x1.1))
    (
     some (.inr (.inl (false,()))))
    (
     some (.inl ((IntKind.wrap .i64 (t6+(1:Int))),(b0_0,(b0_1,(b0_2,(b0_3,(b0_4,(b1_0,(b1_1,(b1_2,(b1_3,(b1_4,()))))))))))))))))
 (
  some (.inr (.inr ())))
def astrariumref05_same_M9 (c0:astrariumref01_Same_D) :astrariumref05_same_D9:=mkL (u11 (astrariumref05_same_B9 c0.F)) (pL (kD c0 k0) e0 1 l0 fun d=>by kernel_rfl)
def astrariumref05_same_N9:astrariumref05_same_D9:=astrariumref05_same_M9 astrariumref01_Same_K 
def astrariumref05_same_L9:astrariumref05_same_T9:=lpD (u11 (astrariumref05_same_B9 astrariumref01_Same_FF)) NN
abbrev astrariumref05_same_σs:List Sh:=[Za1,Za1]
abbrev astrariumref05_same_τs:List Sh:=[.bool]
abbrev astrariumref05_same_T:=TL astrariumref05_same_σs→Option (TL astrariumref05_same_τs)
abbrev astrariumref05_same_D:=Kd 97 astrariumref05_same_σs astrariumref05_same_τs
def astrariumref05_same_F (F0:astrariumref01_Same_T) (L4:astrariumref05_same_T4) (L9:astrariumref05_same_T9) (a0 a1:Sh.T Za1):Option (TL astrariumref05_same_τs):=
 br (Bool.not (iQ a0.1 a1.1))
 (
  some (false,()))
 (
  br (selB false true (Bool.not (iQ a0.2.1 a1.2.1)))
  (
   some (false,()))
  (
   br (selB false true (Bool.not (@decide _ (Bool.decEq a0.2.2.1 a1.2.2.1))))
   (
    some (false,()))
   (
    br (selB false true (Bool.not (iQ (Int.ofNat (List.length a0.2.2.2.1)) (Int.ofNat (List.length a1.2.2.2.1)))))
    (
     some (false,()))
    (
     br (selB false true (Bool.not (iQ (Int.ofNat (List.length a0.2.2.2.2.1)) (Int.ofNat (List.length a1.2.2.2.2.1)))))
     (
      some (false,()))
     (
      bnd (L4 ((0:Int),(a0.1,(a0.2.1,(a0.2.2.1,(a0.2.2.2.1,(a0.2.2.2.2.1,a1))))))) fun x0=>
      (match x0 with
      | .inl x1=>
       some (x1.1,())
      | .inr x1=>
       bnd (L9 ((0:Int),x1)) fun x2=>
       (match x2 with
       | .inl x3=>
        some (x3.1,())
       | .inr x3=>
        some (true,())
       )
      ))))))
def astrariumref05_same_G (c0:astrariumref01_Same_D) (M4:astrariumref05_same_D4) (M9:astrariumref05_same_D9):astrariumref05_same_D:=⟨u2 (astrariumref05_same_F c0.F M4.L M9.L),pD Tryz.func97 120 (kD c0 k0) e0 1 (sS (sC M4 (sC M9 l0))) fun d=>by kernel_rfl⟩
def astrariumref05_same_K:astrariumref05_same_D:=astrariumref05_same_G astrariumref01_Same_K astrariumref05_same_N4 astrariumref05_same_N9
def astrariumref05_same_FF:astrariumref05_same_T:=astrariumref05_same_K.F
abbrev astrariumref05_Same_lay14:Lay:={ T:=[(2,.ptr 0 0),(3,.ptr 1 0),(7,.int .i64)],h:=[(0,.cells lNet 27),(1,.cells lNet 27)],nx:=2 }
abbrev astrariumref05_Same_outs14:List (Ev.Ex×Lay):=[(.ret,yRi10),((.exit 4),yRi8)]
abbrev astrariumref05_Same_T14:=TL astrariumref05_Same_lay14.σs→Option (Out astrariumref05_Same_outs14)
abbrev astrariumref05_Same_D14:=Ld 0 122 (Zb5 [2] (Zaa Tryz.f43)) astrariumref05_Same_lay14 astrariumref05_Same_outs14
abbrev astrariumref05_Same_lay9:Lay:={ T:=[(2,.ptr 0 0),(3,.ptr 1 0),(6,.int .i64)],h:=[(0,.cells lNet 27),(1,.cells lNet 27)],nx:=2 }
abbrev astrariumref05_Same_outs9:List (Ev.Ex×Lay):=[(.ret,yRi10),((.exit 2),yRi8)]
abbrev astrariumref05_Same_T9:=TL astrariumref05_Same_lay9.σs→Option (Out astrariumref05_Same_outs9)
abbrev astrariumref05_Same_D9:=Ld 0 122 (Zb5 [1] (Zaa Tryz.f43)) astrariumref05_Same_lay9 astrariumref05_Same_outs9
abbrev astrariumref05_Same_lay4:Lay:={ T:=[(2,.ptr 0 0),(3,.ptr 1 0),(5,.int .i64)],h:=[(0,.cells lNet 27),(1,.cells lNet 27)],nx:=2 }
abbrev astrariumref05_Same_outs4:List (Ev.Ex×Lay):=[(.ret,yRi10),((.exit 0),yRi8)]
abbrev astrariumref05_Same_T4:=TL astrariumref05_Same_lay4.σs→Option (Out astrariumref05_Same_outs4)
abbrev astrariumref05_Same_D4:=Ld 0 122 (Zb5 [0] (Zaa Tryz.f43)) astrariumref05_Same_lay4 astrariumref05_Same_outs4
def astrariumref05_Same_B4 (t5 b0_0:Int) (b0_1:List Int) (b0_2:List (Sh.T Za0)) (b0_3 b0_4 b0_5:List Int) (b0_6:List (Sh.T Za1)) (b0_7:List (Sh.T Za0)) (b1_0:Int) (b1_1:List Int) (b1_2:List (Sh.T Za0)) (b1_3 b1_4 b1_5:List Int) (b1_6:List (Sh.T Za1)) (b1_7:List (Sh.T Za0)):Option (TL astrariumref05_Same_lay4.σs⊕Out astrariumref05_Same_outs4):=
 br (iL t5 (Int.ofNat (List.length b0_2)))
 (
  chk (inb t5 (List.length b0_2))<|
  chk (inb t5 (List.length b1_2))<|
  br (Bool.not (both (iQ (gt Za0 b0_2 t5).1 (gt Za0 b1_2 t5).1) (both (iQ (gt Za0 b0_2 t5).2.1 (gt Za0 b1_2 t5).2.1) (both (iQ (gt Za0 b0_2 t5).2.2.1 (gt Za0 b1_2 t5).2.2.1) true))))
  (
   some (.inr (.inl (false,()))))
  (
   some (.inl ((IntKind.wrap .i64 (t5+(1:Int))),(b0_0,(b0_1,(b0_2,(b0_3,(b0_4,(b0_5,(b0_6,(b0_7,(b1_0,(b1_1,(b1_2,(b1_3,(b1_4,(b1_5,(b1_6,(b1_7,()))))))))))))))))))))
 (
  some (.inr (.inr (b0_0,(b0_1,(b0_2,(b0_3,(b0_4,(b0_5,(b0_6,(b0_7,(b1_0,(b1_1,(b1_2,(b1_3,(b1_4,(b1_5,(b1_6,(b1_7,())))))))))))))))))))
def astrariumref05_Same_N4  :astrariumref05_Same_D4:=mkL (u17 astrariumref05_Same_B4) (pL k0 e0 1 l0 fun d=>by kernel_rfl)
def astrariumref05_Same_L4:astrariumref05_Same_T4:=lpD (u17 astrariumref05_Same_B4) NN
def astrariumref05_Same_B9 (t6 b0_0:Int) (b0_1:List Int) (b0_2:List (Sh.T Za0)) (b0_3 b0_4 b0_5:List Int) (b0_6:List (Sh.T Za1)) (b0_7:List (Sh.T Za0)) (b1_0:Int) (b1_1:List Int) (b1_2:List (Sh.T Za0)) (b1_3 b1_4 b1_5:List Int) (b1_6:List (Sh.T Za1)) (b1_7:List (Sh.T Za0)):Option (TL astrariumref05_Same_lay9.σs⊕Out astrariumref05_Same_outs9):=
 br (iL t6 (Int.ofNat (List.length b0_7)))
 (
  chk (inb t6 (List.length b0_7))<|
  chk (inb t6 (List.length b1_7))<|
  br (Bool.not (both (iQ (gt Za0 b0_7 t6).1 (gt Za0 b1_7 t6).1) (both (iQ (gt Za0 b0_7 t6).2.1 (gt Za0 b1_7 t6).2.1) (both (iQ (gt Za0 b0_7 t6).2.2.1 (gt Za0 b1_7 t6).2.2.1) true))))
  (
   some (.inr (.inl (false,()))))
  (
   some (.inl ((IntKind.wrap .i64 (t6+(1:Int))),(b0_0,(b0_1,(b0_2,(b0_3,(b0_4,(b0_5,(b0_6,(b0_7,(b1_0,(b1_1,(b1_2,(b1_3,(b1_4,(b1_5,(b1_6,(b1_7,()))))))))))))))))))))
 (
  some (.inr (.inr (b0_0,(b0_1,(b0_2,(b0_3,(b0_4,(b0_5,(b0_6,(b0_7,(b1_0,(b1_1,(b1_2,(b1_3,(b1_4,(b1_5,(b1_6,(b1_7,())))))))))))))))))))
def astrariumref05_Same_N9  :astrariumref05_Same_D9:=mkL (u17 astrariumref05_Same_B9) (pL k0 e0 1 l0 fun d=>by kernel_rfl)
def astrariumref05_Same_L9:astrariumref05_Same_T9:=lpD (u17 astrariumref05_Same_B9) NN
def astrariumref05_Same_B14 (F0:astrariumref05_same_T) (t7 b0_0:Int) (b0_1:List Int) (b0_2:List (Sh.T Za0)) (b0_3 b0_4 b0_5:List Int) (b0_6:List (Sh.T Za1)) (b0_7:List (Sh.T Za0)) (b1_0:Int) (b1_1:List Int) (b1_2:List (Sh.T Za0)) (b1_3 b1_4 b1_5:List Int) (b1_6:List (Sh.T Za1)) (b1_7:List (Sh.T Za0)):Option (TL astrariumref05_Same_lay14.σs⊕Out astrariumref05_Same_outs14):=
 br (iL t7 (Int.ofNat (List.length b0_6)))
 (
  chk (inb t7 (List.length b0_6))<|
  chk (inb t7 (List.length b1_6))<|
  bnd (F0 (((gt Za1 b0_6 t7).1,((gt Za1 b0_6 t7).2.1,((gt Za1 b0_6 t7).2.2.1,((gt Za1 b0_6 t7).2.2.2.1,((gt Za1 b0_6 t7).2.2.2.2.1,()))))),(((gt Za1 b1_6 t7).1,((gt Za1 b1_6 t7).2.1,((gt Za1 b1_6 t7).2.2.1,((gt Za1 b1_6 t7).2.2.2.1,((gt Za1 b1_6 t7).2.2.2.2.1,()))))),()))) fun x0=>
  br (Bool.not x0.1)
  (
   some (.inr (.inl (false,()))))
  (
   some (.inl ((IntKind.wrap .i64 (t7+(1:Int))),(b0_0,(b0_1,(b0_2,(b0_3,(b0_4,(b0_5,(b0_6,(b0_7,(b1_0,(b1_1,(b1_2,(b1_3,(b1_4,(b1_5,(b1_6,(b1_7,()))))))))))))))))))))
 (
  some (.inr (.inr (b0_0,(b0_1,(b0_2,(b0_3,(b0_4,(b0_5,(b0_6,(b0_7,(b1_0,(b1_1,(b1_2,(b1_3,(b1_4,(b1_5,(b1_6,(b1_7,())))))))))))))))))))
def astrariumref05_Same_M14 (c0:astrariumref05_same_D) :astrariumref05_Same_D14:=mkL (u17 (astrariumref05_Same_B14 c0.F)) (pL (kD c0 k0) e0 1 l0 fun d=>by kernel_rfl)
def astrariumref05_Same_N14:astrariumref05_Same_D14:=astrariumref05_Same_M14 astrariumref05_same_K 
def astrariumref05_Same_L14:astrariumref05_Same_T14:=lpD (u17 (astrariumref05_Same_B14 astrariumref05_same_FF)) NN
abbrev astrariumref05_Same_σs:List Sh:=[Za5,Za5]
abbrev astrariumref05_Same_τs:List Sh:=[.bool]
abbrev astrariumref05_Same_T:=TL astrariumref05_Same_σs→Option (TL astrariumref05_Same_τs)
abbrev astrariumref05_Same_D:=Kd 43 astrariumref05_Same_σs astrariumref05_Same_τs
def astrariumref05_Same_F (F0:astrariumref05_same_T) (F1:astrariumref01_Same_T) (L4:astrariumref05_Same_T4) (L9:astrariumref05_Same_T9) (L14:astrariumref05_Same_T14) (a0 a1:Sh.T Za5):Option (TL astrariumref05_Same_τs):=
 br (Bool.not (iQ a0.1 a1.1))
 (
  some (false,()))
 (
  bnd (F1 (a0.2.1,(a1.2.1,()))) fun x0=>
  br (selB false true (Bool.not x0.1))
  (
   some (false,()))
  (
   br (selB false true (Bool.not (iQ (Int.ofNat (List.length a0.2.2.1)) (Int.ofNat (List.length a1.2.2.1)))))
   (
    some (false,()))
   (
    br (selB false true (Bool.not (iQ (Int.ofNat (List.length a0.2.2.2.2.2.2.1)) (Int.ofNat (List.length a1.2.2.2.2.2.2.1)))))
    (
     some (false,()))
    (
     br (selB false true (Bool.not (iQ (Int.ofNat (List.length a0.2.2.2.2.2.2.2.1)) (Int.ofNat (List.length a1.2.2.2.2.2.2.2.1)))))
     (
      some (false,()))
     (
      bnd (L4 ((0:Int),(a0.1,(a0.2.1,(a0.2.2.1,(a0.2.2.2.1,(a0.2.2.2.2.1,(a0.2.2.2.2.2.1,(a0.2.2.2.2.2.2.1,(a0.2.2.2.2.2.2.2.1,a1)))))))))) fun x1=>
      (match x1 with
      | .inl x2=>
       some (x2.1,())
      | .inr x2=>
       bnd (L9 ((0:Int),x2)) fun x3=>
       (match x3 with
       | .inl x4=>
        some (x4.1,())
       | .inr x4=>
        bnd (L14 ((0:Int),x4)) fun x5=>
        (match x5 with
        | .inl x6=>
         some (x6.1,())
        | .inr x6=>
         bnd (F1 (x6.2.2.2.1,(x6.2.2.2.2.2.2.2.2.2.2.2.1,()))) fun x7=>
         br x7.1
         (
          bnd (F1 (x6.2.2.2.2.1,(x6.2.2.2.2.2.2.2.2.2.2.2.2.1,()))) fun x8=>
          br (selB true x8.1 false)
          (
           bnd (F1 (x6.2.2.2.2.2.1,(x6.2.2.2.2.2.2.2.2.2.2.2.2.2.1,()))) fun x9=>
           some ((selB true x9.1 false),()))
          (
           some (false,())))
         (
          some (false,()))
        )
       )
      ))))))
def astrariumref05_Same_G (c0:astrariumref05_same_D) (c1:astrariumref01_Same_D) (M4:astrariumref05_Same_D4) (M9:astrariumref05_Same_D9) (M14:astrariumref05_Same_D14):astrariumref05_Same_D:=⟨u2 (astrariumref05_Same_F c0.F c1.F M4.L M9.L M14.L),pD Tryz.func43 122 (kD c0 (kD c1 k0)) e0 1 (sS (sC M4 (sC M9 (sC M14 l0)))) fun d=>by kernel_rfl⟩
def astrariumref05_Same_K:astrariumref05_Same_D:=astrariumref05_Same_G astrariumref05_same_K astrariumref01_Same_K astrariumref05_Same_N4 astrariumref05_Same_N9 astrariumref05_Same_N14
def astrariumref05_Same_FF:astrariumref05_Same_T:=astrariumref05_Same_K.F
abbrev astrariumlaw39_GenMakes_σs:List Sh:=[(.int .i64),(.int .i64),(.int .i64),(.int .u64)]
abbrev astrariumlaw39_GenMakes_τs:List Sh:=[.bool]
abbrev astrariumlaw39_GenMakes_T:=TL astrariumlaw39_GenMakes_σs→Option (TL astrariumlaw39_GenMakes_τs)
abbrev astrariumlaw39_GenMakes_D:=Kd 9 astrariumlaw39_GenMakes_σs astrariumlaw39_GenMakes_τs
def astrariumlaw39_GenMakes_F (F0:astrariumlaw39_alive_T) (F1:astrariumref05_Same_T) (F2:gen_Names_T) (F3:astrariumref39_Counter_T) (F4:gen_Counter_T) (F5:astrariumref39_Kind_T) (F6:gen_Kind_T) (a0 a1 a2 a3:Int):Option (TL astrariumlaw39_GenMakes_τs):=
 bnd (F6 (a0,(a1,(a2,())))) fun x0=>
 bnd (F5 (a0,(a1,(a2,())))) fun x1=>
 bnd (F4 (a1,(a3,()))) fun x2=>
 bnd (F3 (a1,(a3,()))) fun x3=>
 bnd (F2 ()) fun x4=>
 bnd (F1 ((x0.1.1,(x0.1.2.1,(x0.1.2.2.1,(x0.1.2.2.2.1,(x0.1.2.2.2.2.1,(x0.1.2.2.2.2.2.1,(x0.1.2.2.2.2.2.2.1,(x0.1.2.2.2.2.2.2.2.1,())))))))),((x1.1.1,(x1.1.2.1,(x1.1.2.2.1,(x1.1.2.2.2.1,(x1.1.2.2.2.2.1,(x1.1.2.2.2.2.2.1,(x1.1.2.2.2.2.2.2.1,(x1.1.2.2.2.2.2.2.2.1,())))))))),()))) fun x5=>
 br x5.1
 (
  br (selB true (iQ x0.2.1 x1.2.1) false)
  (
   bnd (F1 ((x2.1.1,(x2.1.2.1,(x2.1.2.2.1,(x2.1.2.2.2.1,(x2.1.2.2.2.2.1,(x2.1.2.2.2.2.2.1,(x2.1.2.2.2.2.2.2.1,(x2.1.2.2.2.2.2.2.2.1,())))))))),((x3.1.1,(x3.1.2.1,(x3.1.2.2.1,(x3.1.2.2.2.1,(x3.1.2.2.2.2.1,(x3.1.2.2.2.2.2.1,(x3.1.2.2.2.2.2.2.1,(x3.1.2.2.2.2.2.2.2.1,())))))))),()))) fun x6=>
   br (selB true x6.1 false)
   (
    br (selB true (iQ x2.2.1 x3.2.1) false)
    (
     br (selB true (iQ (Int.ofNat (List.length x4.1)) (3:Int)) false)
     (
      chk (inb (0:Int) (List.length x4.1))<|
      br (selB true (List.beq (ByteArray.toList (gt .str x4.1 (0:Int))) (ByteArray.toList ⟨#[99,111,117,110,116,101,114]⟩)) false)
      (
       chk (inb (1:Int) (List.length x4.1))<|
       br (selB true (List.beq (ByteArray.toList (gt .str x4.1 (1:Int))) (ByteArray.toList ⟨#[101,99,104,111]⟩)) false)
       (
        chk (inb (2:Int) (List.length x4.1))<|
        br (selB true (List.beq (ByteArray.toList (gt .str x4.1 (2:Int))) (ByteArray.toList ⟨#[115,116,97,99,107]⟩)) false)
        (
         bnd (F0 ()) fun x7=>
         some ((selB true x7.1 false),()))
        (
         some (false,())))
       (
        some (false,())))
      (
       some (false,())))
     (
      some (false,())))
    (
     some (false,())))
   (
    some (false,())))
  (
   some (false,())))
 (
  some (false,()))
def astrariumlaw39_GenMakes_G (c0:astrariumlaw39_alive_D) (c1:astrariumref05_Same_D) (c2:gen_Names_D) (c3:astrariumref39_Counter_D) (c4:gen_Counter_D) (c5:astrariumref39_Kind_D) (c6:gen_Kind_D) :astrariumlaw39_GenMakes_D:=⟨u4 (astrariumlaw39_GenMakes_F c0.F c1.F c2.F c3.F c4.F c5.F c6.F),pD Tryz.func9 89 (kD c0 (kD c1 (kD c2 (kD c3 (kD c4 (kD c5 (kD c6 k0))))))) e0 1 (sS l0) fun d=>by kernel_rfl⟩
def astrariumlaw39_GenMakes_K:astrariumlaw39_GenMakes_D:=astrariumlaw39_GenMakes_G astrariumlaw39_alive_K astrariumref05_Same_K gen_Names_K astrariumref39_Counter_K gen_Counter_K astrariumref39_Kind_K gen_Kind_K 
def astrariumlaw39_GenMakes_FF:astrariumlaw39_GenMakes_T:=astrariumlaw39_GenMakes_K.F
end Go.Proofs.YtkcpdpplobhpaaaGreat.V
end
section
namespace Go.Proofs.YtkcpdpplobhpaaaGreat.V
open Go Go.RowKit
open Go.Proofs.YtkcpdpplobhpaaaGreat.Pl
set_option maxRecDepth 10000
theorem iQ_self (a:Int):iQ a a=true:=decide_eq_true rfl
theorem same01_self (L:List Int) (h:L.length≤100000000):astrariumref01_Same_FF (L,(L,()))=some (true,()):=by
 have e2:astrariumref01_Same_L4 (L,(L,((0:Int),())))=some (.inr ()):=by
  unfold astrariumref01_Same_L4;delta u3
  refine Zif (fun j:Nat=>(L,(L,((j:Int),())))) L.length rfl ?_ ?_ (Ze8 (by omega))
  ·intro j hj
   have i1:inb (j:Int) (List.length L)=true:=Zar (by omega)
   have e:∀p q:Int,p=q→(some (.inl (L,(L,(p,())))):Option (TL astrariumref01_Same_lay4.σs⊕Out astrariumref01_Same_outs4))=some (.inl (L,(L,(q,())))):=by rintro _ _ rfl;rfl
   exact br_tt (dec_t (show (j:Int)<(L.length:Int) by omega)) (Zaj i1 (Zaj i1 (br_ff (not_f (iQ_self _)) (e _ _ (i64n (x:=(j:Int)+1) (n:=j+1) (by omega) (by omega))))))
  ·exact br_ff (dec_f (show ¬(L.length:Int)<(L.length:Int) by omega)) rfl
 exact br_ff (not_f (iQ_self _)) (Zba e2 rfl)
theorem same_mem (a w:Int) (y:Bool) (R:List Zb3.T) (W:List Zb8.T) (hR:R.length≤1000000) (hW:W.length≤1000000) (kR:∀x∈R,x.2.1.length≤1000000) (kW:∀x∈W,x.2.1.length≤1000000∧x.2.2.1.length≤1000000) :
  astrariumref05_same_FF ((a,(w,(y,(R,(W,()))))),((a,(w,(y,(R,(W,()))))),()))=some (true,()):=by
 have e2:astrariumref05_same_L4 ((0:Int),(a,(w,(y,(R,(W,(a,(w,(y,(R,(W,())))))))))))=some (.inr (a,(w,(y,(R,(W,(a,(w,(y,(R,(W,()))))))))))):=by
  unfold astrariumref05_same_L4;delta u11
  refine Zif (fun j:Nat=>((j:Int),(a,(w,(y,(R,(W,(a,(w,(y,(R,(W,())))))))))))) R.length rfl ?_ ?_ (Ze8 (by omega))
  ·intro j hj
   have i1:inb (j:Int) (List.length R)=true:=Zar (by omega)
   have eg:gt Zb3 R (j:Int)=R[j]:=gt_at (σ:=Zb3) (List.getElem?_eq_getElem hj)
   have s1:astrariumref01_Same_FF ((gt Zb3 R (j:Int)).2.1,((gt Zb3 R (j:Int)).2.1,()))=some (true,()):=same01_self _ (by rw [eg];exact Nat.le_trans (kR _ (List.getElem_mem hj)) (by omega))
   have e:∀p q:Int,p=q→(some (.inl (p,(a,(w,(y,(R,(W,(a,(w,(y,(R,(W,())))))))))))):Option (TL astrariumref05_same_lay4.σs⊕Out astrariumref05_same_outs4))=some (.inl (q,(a,(w,(y,(R,(W,(a,(w,(y,(R,(W,())))))))))))):=by rintro _ _ rfl;rfl
   exact br_tt (dec_t (show (j:Int)<(R.length:Int) by omega)) (Zaj i1 (Zaj i1 (br_ff (not_f (iQ_self _)) (Zaj i1 (Zaj i1 (Zba s1 (br_ff rfl (e _ _ (i64n (x:=(j:Int)+1) (n:=j+1) (by omega) (by omega))))))))))
  ·exact br_ff (dec_f (show ¬(R.length:Int)<(R.length:Int) by omega)) rfl
 have e3:astrariumref05_same_L9 ((0:Int),(a,(w,(y,(R,(W,(a,(w,(y,(R,(W,())))))))))))=some (.inr ()):=by
  unfold astrariumref05_same_L9;delta u11
  refine Zif (fun j:Nat=>((j:Int),(a,(w,(y,(R,(W,(a,(w,(y,(R,(W,())))))))))))) W.length rfl ?_ ?_ (Ze8 (by omega))
  ·intro j hj
   have i1:inb (j:Int) (List.length W)=true:=Zar (by omega)
   have eg:gt Zb8 W (j:Int)=W[j]:=gt_at (σ:=Zb8) (List.getElem?_eq_getElem hj)
   have s1:astrariumref01_Same_FF ((gt Zb8 W (j:Int)).2.1,((gt Zb8 W (j:Int)).2.1,()))=some (true,()):=same01_self _ (by rw [eg];exact Nat.le_trans (kW _ (List.getElem_mem hj)).1 (by omega))
   have s2:astrariumref01_Same_FF ((gt Zb8 W (j:Int)).2.2.1,((gt Zb8 W (j:Int)).2.2.1,()))=some (true,()):=same01_self _ (by rw [eg];exact Nat.le_trans (kW _ (List.getElem_mem hj)).2 (by omega))
   have e:∀p q:Int,p=q→(some (.inl (p,(a,(w,(y,(R,(W,(a,(w,(y,(R,(W,())))))))))))):Option (TL astrariumref05_same_lay9.σs⊕Out astrariumref05_same_outs9))=some (.inl (q,(a,(w,(y,(R,(W,(a,(w,(y,(R,(W,())))))))))))):=by rintro _ _ rfl;rfl
   refine br_tt (dec_t (show (j:Int)<(W.length:Int) by omega)) ?_
   refine Zaj i1 ?_
   refine Zaj i1 ?_
   refine Zaj (Za1l (fun x=>Sh.Zb5s x) _) ?_
   refine Zaj (iQ_self _) ?_
   refine Zaj i1 ?_
   refine Zaj (Sh.Zb5s _) ?_
   refine Zaj (Sh.Zb5s (σ:=Zb8) (gt Zb8 W (j:Int))) ?_
   refine br_ff (not_f (iQ_self _)) ?_
   refine Zba s1 ?_
   refine br_ff rfl ?_
   refine Zba s2 ?_
   refine br_ff rfl ?_
   exact e _ _ (i64n (x:=(j:Int)+1) (n:=j+1) (by omega) (by omega))
  ·exact br_ff (dec_f (show ¬(W.length:Int)<(W.length:Int) by omega)) rfl
 refine br_ff (not_f (iQ_self _)) ?_
 refine br_ff (not_f (iQ_self _)) ?_
 refine br_ff (not_f (decide_eq_true rfl)) ?_
 refine br_ff (not_f (iQ_self _)) ?_
 refine br_ff (not_f (iQ_self _)) ?_
 refine Zba e2 ?_
 refine Zba e3 ?_
 rfl
structure Few (n:NetD):Prop where
 i:n.inputs.length≤1000000
 l:n.latches.length≤1000000
 o:n.outputs.length≤1000000
 b:n.bads.length≤1000000
 c:n.constraints.length≤1000000
 a:n.ands.length≤1000000
 m:n.mems.length≤1000000
 r:∀m∈n.mems,m.reads.length≤1000000∧m.writes.length≤1000000∧(∀x∈m.reads,x.addr.length≤1000000)∧∀x∈m.writes,x.addr.length≤1000000∧x.data.length≤1000000
theorem same_memT {m:MemD} (h:m.reads.length≤1000000∧m.writes.length≤1000000∧(∀x∈m.reads,x.addr.length≤1000000)∧∀x∈m.writes,x.addr.length≤1000000∧x.data.length≤1000000):astrariumref05_same_FF (memT m,(memT m,()))=some (true,()):=by
 refine same_mem m.addr m.word m.any (m.reads.map readT) (m.writes.map Zt4) (by rw [List.length_map];exact h.1) (by rw [List.length_map];exact h.2.1) ?_ ?_
 ·intro x hx
  obtain ⟨r,hr,rfl⟩:=List.mem_map.1 hx
  exact h.2.2.1 r hr
 ·intro x hx
  obtain ⟨r,hr,rfl⟩:=List.mem_map.1 hx
  exact h.2.2.2 r hr
theorem same05_self {n:NetD} (h:Few n):astrariumref05_Same_FF (netT n,(netT n,()))=some (true,()):=by
 obtain ⟨v,I,L,O,B,C,M,A⟩:=n
 have hl:(L.map latT).length≤1000000:=by rw [List.length_map];exact h.l
 have ha:(A.map andT).length≤1000000:=by rw [List.length_map];exact h.a
 have hm:(M.map memT).length≤1000000:=by rw [List.length_map];exact h.m
 have hmm:∀x∈M.map memT,astrariumref05_same_FF (x,(x,()))=some (true,()):=by
  intro x hx
  obtain ⟨y,hy,rfl⟩:=List.mem_map.1 hx
  exact same_memT (h.r y hy)
 obtain ⟨l,el⟩:∃l,l=L.map latT:=⟨_,rfl⟩
 obtain ⟨a,ea⟩:∃a,a=A.map andT:=⟨_,rfl⟩
 obtain ⟨m,em⟩:∃m,m=M.map memT:=⟨_,rfl⟩
 have et:netT ⟨v,I,L,O,B,C,M,A⟩=(v,(I,(l,(O,(B,(C,(m,(a,())))))))):=by rw [el,ea,em];rfl
 rw [et]
 rw [←el] at hl
 rw [←ea] at ha
 rw [←em] at hm hmm
 clear et el ea em
 have e2:astrariumref05_Same_L4 ((0:Int),(v,(I,(l,(O,(B,(C,(m,(a,(v,(I,(l,(O,(B,(C,(m,(a,())))))))))))))))))=some (.inr (v,(I,(l,(O,(B,(C,(m,(a,(v,(I,(l,(O,(B,(C,(m,(a,()))))))))))))))))):=by
  unfold astrariumref05_Same_L4;delta u17
  refine Zif (fun j:Nat=>((j:Int),(v,(I,(l,(O,(B,(C,(m,(a,(v,(I,(l,(O,(B,(C,(m,(a,())))))))))))))))))) l.length rfl ?_ ?_ (Ze8 (by omega))
  ·intro j hj
   have i1:inb (j:Int) (List.length l)=true:=Zar (by omega)
   have e:∀p q:Int,p=q→(some (.inl (p,(v,(I,(l,(O,(B,(C,(m,(a,(v,(I,(l,(O,(B,(C,(m,(a,())))))))))))))))))):Option (TL astrariumref05_Same_lay4.σs⊕Out astrariumref05_Same_outs4))=some (.inl (q,(v,(I,(l,(O,(B,(C,(m,(a,(v,(I,(l,(O,(B,(C,(m,(a,())))))))))))))))))):=by rintro _ _ rfl;rfl
   refine br_tt (dec_t (show (j:Int)<(l.length:Int) by omega)) (Zaj i1 (Zaj i1 (br_ff (not_f ?_) (e _ _ (i64n (x:=(j:Int)+1) (n:=j+1) (by omega) (by omega))))))
   exact Sh.Zb5s (σ:=Za0) (gt Za0 l (j:Int))
  ·exact br_ff (dec_f (show ¬(l.length:Int)<(l.length:Int) by omega)) rfl
 have e3:astrariumref05_Same_L9 ((0:Int),(v,(I,(l,(O,(B,(C,(m,(a,(v,(I,(l,(O,(B,(C,(m,(a,())))))))))))))))))=some (.inr (v,(I,(l,(O,(B,(C,(m,(a,(v,(I,(l,(O,(B,(C,(m,(a,()))))))))))))))))):=by
  unfold astrariumref05_Same_L9;delta u17
  refine Zif (fun j:Nat=>((j:Int),(v,(I,(l,(O,(B,(C,(m,(a,(v,(I,(l,(O,(B,(C,(m,(a,())))))))))))))))))) a.length rfl ?_ ?_ (Ze8 (by omega))
  ·intro j hj
   have i1:inb (j:Int) (List.length a)=true:=Zar (by omega)
   have e:∀p q:Int,p=q→(some (.inl (p,(v,(I,(l,(O,(B,(C,(m,(a,(v,(I,(l,(O,(B,(C,(m,(a,())))))))))))))))))):Option (TL astrariumref05_Same_lay9.σs⊕Out astrariumref05_Same_outs9))=some (.inl (q,(v,(I,(l,(O,(B,(C,(m,(a,(v,(I,(l,(O,(B,(C,(m,(a,())))))))))))))))))):=by rintro _ _ rfl;rfl
   refine br_tt (dec_t (show (j:Int)<(a.length:Int) by omega)) (Zaj i1 (Zaj i1 (br_ff (not_f ?_) (e _ _ (i64n (x:=(j:Int)+1) (n:=j+1) (by omega) (by omega))))))
   exact Sh.Zb5s (σ:=Za0) (gt Za0 a (j:Int))
  ·exact br_ff (dec_f (show ¬(a.length:Int)<(a.length:Int) by omega)) rfl
 have e4:astrariumref05_Same_L14 ((0:Int),(v,(I,(l,(O,(B,(C,(m,(a,(v,(I,(l,(O,(B,(C,(m,(a,())))))))))))))))))=some (.inr (v,(I,(l,(O,(B,(C,(m,(a,(v,(I,(l,(O,(B,(C,(m,(a,()))))))))))))))))):=by
  unfold astrariumref05_Same_L14;delta u17
  refine Zif (fun j:Nat=>((j:Int),(v,(I,(l,(O,(B,(C,(m,(a,(v,(I,(l,(O,(B,(C,(m,(a,())))))))))))))))))) m.length rfl ?_ ?_ (Ze8 (by omega))
  ·intro j hj
   have i1:inb (j:Int) (List.length m)=true:=Zar (by omega)
   have eg:gt Za1 m (j:Int)=m[j]:=gt_at (σ:=Za1) (List.getElem?_eq_getElem hj)
   have s1:astrariumref05_same_FF (gt Za1 m (j:Int),(gt Za1 m (j:Int),()))=some (true,()):=by rw [eg];exact hmm _ (List.getElem_mem hj)
   have e:∀p q:Int,p=q→(some (.inl (p,(v,(I,(l,(O,(B,(C,(m,(a,(v,(I,(l,(O,(B,(C,(m,(a,())))))))))))))))))):Option (TL astrariumref05_Same_lay14.σs⊕Out astrariumref05_Same_outs14))=some (.inl (q,(v,(I,(l,(O,(B,(C,(m,(a,(v,(I,(l,(O,(B,(C,(m,(a,())))))))))))))))))):=by rintro _ _ rfl;rfl
   exact br_tt (dec_t (show (j:Int)<(m.length:Int) by omega)) (Zaj i1 (Zaj i1 (Zba s1 (br_ff rfl (e _ _ (i64n (x:=(j:Int)+1) (n:=j+1) (by omega) (by omega)))))))
  ·exact br_ff (dec_f (show ¬(m.length:Int)<(m.length:Int) by omega)) rfl
 have nf:∀x:Int,selB false true (Bool.not (iQ x x))=false:=fun x=>by rw [iQ_self];rfl
 have hI:I.length≤1000000:=h.i
 have hO:O.length≤1000000:=h.o
 have hB:B.length≤1000000:=h.b
 have hC:C.length≤1000000:=h.c
 exact br_ff (not_f (iQ_self _)) (Zba (same01_self I (by omega)) (br_ff rfl (br_ff (nf _) (br_ff (nf _) (br_ff (nf _) (Zba e2 (Zba e3 (Zba e4 (Zba (same01_self O (by omega)) (br_tt rfl (Zba (same01_self B (by omega)) (br_tt rfl (Zba (same01_self C (by omega)) rfl)))))))))))))
def PR (x y:Option (Za5.T×Int×Unit)):Prop:=∃(n:NetD) (f:Int),x=some (netT n,(f,()))∧y=some (netT n,(f,()))∧Few n
theorem few_0:Few ⟨0,[],[],[],[],[],[],[]⟩:=⟨by simp,by simp,by simp,by simp,by simp,by simp,by simp,fun m hm=>nomatch hm⟩
theorem GI.few {s:Gk} {D:List Int} (h:GI s D):s.i.length≤s.v∧s.l.length≤s.v∧s.a.length≤s.v:=by
 have:=h.perm.length_eq
 simp only [List.length_append,List.length_map] at this
 rw [frlen] at this
 omega
theorem few_of {s:Gk} {D:List Int} (h:GI s D) (hv:s.v≤100000) {o b c:List Int} {M:List MemD} (ho:o.length+b.length+c.length≤1000) (hM:M.length≤1000)
  (hr:∀m∈M,m.reads.length≤1000000∧m.writes.length≤1000000∧(∀x∈m.reads,x.addr.length≤1000000)∧∀x∈m.writes,x.addr.length≤1000000∧x.data.length≤1000000):Few ⟨s.v,s.i,s.l,o,b,c,M,s.a⟩:=by
 obtain ⟨h1,h2,h3⟩:=h.few
 exact ⟨by show s.i.length≤_;omega,by show s.l.length≤_;omega,by show o.length≤_;omega,by show b.length≤_;omega,by show c.length≤_;omega,by show s.a.length≤_;omega,by show M.length≤_;omega,hr⟩
theorem rcounter_no {a bad:Int} (h:a<1∨20<a):astrariumref39_Counter_FF (a,(bad,()))=some (netT ⟨0,[],[],[],[],[],[],[]⟩,((1:Int),())):=by
 by_cases q:a<1
 ·exact br_tt (dec_t (show a<1 from q)) rfl
 ·refine br_ff (dec_f (show ¬a<1 from q)) (br_tt ?_ rfl)
  show selB false true (iL 20 a)=true
  have q:iL 20 a=true:=dec_t (show (20:Int)<a by omega)
  rw [q];rfl
theorem set_mid {α:Type} (x y:α) (B:List α):∀A:List α,List.set (A++x :: B) A.length y=A++[y]++B
 | []=>rfl
 | a :: A=>congrArg (List.cons a) (set_mid x y B A)
theorem at_mid {α:Type} (x:α) (B:List α):∀A:List α,(A++x :: B)[A.length]?=some x
 | []=>rfl
 | _ :: A=>at_mid x B A
theorem half_u {n:Nat} (h:n<18446744073709551616):IntKind.wrap .u64 (Int.tdiv (n:Int) 2)=((n / 2:Nat):Int):=by
 have e:Int.tdiv (n:Int) 2=((n / 2:Nat):Int):=by rw [Int.tdiv_eq_ediv_of_nonneg (by omega)];omega
 rw [e]
 exact IntWalk.u64_in _ (by omega)
theorem mod_u (n:Nat):iQ (Int.tmod (n:Int) 2) 1=decide (n % 2=1):=by
 have e:Int.tmod (n:Int) 2=((n % 2:Nat):Int):=by rw [Int.tmod_eq_emod_of_nonneg (by omega)];omega
 rw [e]
 show decide (_=_)=_
 by_cases q:n % 2=1
 ·rw [decide_eq_true q,q];rfl
 ·rw [decide_eq_false q,decide_eq_false (by omega)]
theorem rxor (o b c:List Int) (m:List Za1.T) {s:Gk} {w k q:Nat} {l:Int} {X:List Int} (hk:k<w) (hw:w≤20) (hq:q<18446744073709551616) (hX:X.length=k) (ok:LitOk s.v l) (hv:s.v≤30000) (eg:gt (.int .i64) (rowG 0 w) (k:Int)=l) :
  astrariumref39_Counter_B8 astrariumref39_not_FF (w:Int) (q:Int) (rowG 0 w) (k:Int) (0:Int) (s.v:Int) o b c m s.i (s.l.map latT) (s.a.map andT) X=some (.inl ((w:Int),(((q / 2:Nat):Int),(rowG 0 w,(((k+1:Nat):Int),((0:Int),((s.v:Int),(o,(b,(c,(m,(s.i,(s.l.map latT,(s.a.map andT,(X++[if q % 2=0 then ntl l else l],()))))))))))))))):=by
 have ee:∀(p q u v:Int) (A B:List Int),p=q→u=v→A=B→(some (.inl ((w:Int),(p,(rowG 0 w,(u,((0:Int),((s.v:Int),(o,(b,(c,(m,(s.i,(s.l.map latT,(s.a.map andT,(A,()))))))))))))))):Option (TL astrariumref39_Counter_lay8.σs⊕Out astrariumref39_Counter_outs8))=some (.inl ((w:Int),(q,(rowG 0 w,(v,((0:Int),((s.v:Int),(o,(b,(c,(m,(s.i,(s.l.map latT,(s.a.map andT,(B,()))))))))))))))):=by rintro _ _ _ _ _ _ rfl rfl rfl;rfl
 have i2:inb (k:Int) (List.length (rowG 0 w))=true:=Zar (by rw [rowG_len];omega)
 have ek:IntKind.wrap .i64 ((k:Int)+1)=((k+1:Nat):Int):=i64n (x:=(k:Int)+1) (n:=k+1) (by omega) (by omega)
 have r1:∀y:Int,room 8 (List.length (X++[y]))=true:=fun y=>Zsm (by omega) (by omega)
 have n1:astrariumref39_not_FF (gt (.int .i64) (rowG 0 w) (k:Int),())=some (ntl l,()):=by rw [eg];exact r_not ok (by omega)
 unfold astrariumref39_Counter_B8
 refine br_tt (dec_t (show (k:Int)<(w:Int) by omega)) ?_
 by_cases h:q % 2=1
 ·rw [if_neg (by omega)]
  refine br_tt ((mod_u q).trans (decide_eq_true h)) ?_
  refine Zaj i2 ?_
  refine Zaj (r1 _) ?_
  exact ee _ _ _ _ _ _ (half_u hq) ek (congrArg (fun y:Int=>X++[y]) eg)
 ·rw [if_pos (by omega)]
  refine br_ff ((mod_u q).trans (decide_eq_false h)) ?_
  refine Zaj i2 ?_
  refine Zba n1 ?_
  refine Zaj (r1 _) ?_
  exact ee _ _ _ _ _ _ (half_u hq) ek rfl
theorem gxor (o b c:List Int) (m:List Za1.T) {s:Gk} {w k bad:Nat} {l:Int} {X T:List Int} (hk:k<w) (hw:w≤20) (hb:bad<18446744073709551616) (hX:X.length=k) (ok:LitOk s.v l) (hv:s.v≤30000) :
  gen_Counter_B7 lits_Xor_FF (bad:Int) (w:Int) (k:Int) (0:Int) (s.v:Int) s.i (s.l.map latT) o b c m (s.a.map andT) (X++l :: T)=some (.inl ((bad:Int),((w:Int),(((k+1:Nat):Int),((0:Int),((s.v:Int),(s.i,(s.l.map latT,(o,(b,(c,(m,(s.a.map andT,((X++[if bad / 2^k % 2=0 then ntl l else l])++T,())))))))))))))):=by
 have ee:∀(u v:Int) (A B:List Int),u=v→A=B→(some (.inl ((bad:Int),((w:Int),(u,((0:Int),((s.v:Int),(s.i,(s.l.map latT,(o,(b,(c,(m,(s.a.map andT,(A,())))))))))))))):Option (TL gen_Counter_lay7.σs⊕Out gen_Counter_outs7))=some (.inl ((bad:Int),((w:Int),(v,((0:Int),((s.v:Int),(s.i,(s.l.map latT,(o,(b,(c,(m,(s.a.map andT,(B,())))))))))))))):=by rintro _ _ _ _ rfl rfl;rfl
 have ek:IntKind.wrap .i64 ((k:Int)+1)=((k+1:Nat):Int):=i64n (x:=(k:Int)+1) (n:=k+1) (by omega) (by omega)
 have e0:(X++l :: T)[k]?=some l:=by rw [←hX];exact at_mid l T X
 have eg:gt (.int .i64) (X++l :: T) (k:Int)=l:=gt_at (σ:=.int .i64) e0
 have i1:inb (k:Int) (List.length (X++l :: T))=true:=Zar (by rw [List.length_append,List.length_cons];omega)
 have eb:iQ (bandI .u64 (Int.fdiv (bad:Int) (HPow.hPow (2:Int) (Min.min (Int.toNat (k:Int)) 64))) (1:Int)) (0:Int)=decide (bad / 2^k % 2=0):=by
  rw [band_sh hb (by omega)]
  show decide (_=_)=_
  by_cases q:bad / 2^k % 2=0
  ·rw [decide_eq_true q,q];rfl
  ·rw [decide_eq_false q,decide_eq_false (by omega)]
 have ex:lits_Xor_FF (gt (.int .i64) (X++l :: T) (k:Int),(iQ (bandI .u64 (Int.fdiv (bad:Int) (HPow.hPow (2:Int) (Min.min (Int.toNat (k:Int)) 64))) (1:Int)) (0:Int),()))=some (if bad / 2^k % 2=0 then ntl l else l,()):=by
  rw [eg,eb,lits_Xor_is ok (by omega) (decide (bad / 2^k % 2=0))]
  by_cases q:bad / 2^k % 2=0
  ·rw [if_pos q,decide_eq_true q];rfl
  ·rw [if_neg q,decide_eq_false q];rfl
 unfold gen_Counter_B7
 refine br_tt (dec_t (show (k:Int)<(w:Int) by omega)) ?_
 refine Zaj i1 ?_
 refine Zaj (dec_t (show (0:Int)≤(k:Int) by omega)) ?_
 refine Zba ex ?_
 refine Zaj i1 ?_
 refine ee _ _ _ _ ek ?_
 show List.set (X++l :: T) (Int.toNat (k:Int)) _=_
 rw [Int.toNat_natCast,←hX]
 exact set_mid l _ T X
theorem pxor (o b c:List Int) (m:List Za1.T) {s:Gk} {w bad:Nat} (h1:1≤w) (h2:w≤20) (hw:w≤s.v) (hv:s.v≤30000) (hb:bad<18446744073709551616) :
  ∃R:List Int,gen_Counter_L7 ((bad:Int),((w:Int),((0:Int),((0:Int),((s.v:Int),(s.i,(s.l.map latT,(o,(b,(c,(m,(s.a.map andT,(rowG 0 w,())))))))))))))=some ((0:Int),((s.v:Int),(s.i,(s.l.map latT,(o,(b,(c,(m,(s.a.map andT,(R,())))))))))) ∧
   astrariumref39_Counter_L8 ((w:Int),((bad:Int),(rowG 0 w,((0:Int),((0:Int),((s.v:Int),(o,(b,(c,(m,(s.i,(s.l.map latT,(s.a.map andT,([],()))))))))))))))=some ((0:Int),((s.v:Int),(o,(b,(c,(m,(s.i,(s.l.map latT,(s.a.map andT,(R,()))))))))))∧R.length=w∧∀x∈R,LitOk s.v x:=by
 have hq:∃q q',gen_Counter_L7 ((bad:Int),((w:Int),((0:Int),((0:Int),((s.v:Int),(s.i,(s.l.map latT,(o,(b,(c,(m,(s.a.map andT,(rowG 0 w,())))))))))))))=some q∧astrariumref39_Counter_L8 ((w:Int),((bad:Int),(rowG 0 w,((0:Int),((0:Int),((s.v:Int),(o,(b,(c,(m,(s.i,(s.l.map latT,(s.a.map andT,([],()))))))))))))))=some q' ∧
   ∃R:List Int,q=((0:Int),((s.v:Int),(s.i,(s.l.map latT,(o,(b,(c,(m,(s.a.map andT,(R,()))))))))))∧q'=((0:Int),((s.v:Int),(o,(b,(c,(m,(s.i,(s.l.map latT,(s.a.map andT,(R,()))))))))))∧R.length=w∧∀x∈R,LitOk s.v x:=by
  unfold gen_Counter_L7 astrariumref39_Counter_L8;delta u13 u14
  refine lp_ex2 w (fun k d e=>∃X:List Int,d=((bad:Int),((w:Int),((k:Int),((0:Int),((s.v:Int),(s.i,(s.l.map latT,(o,(b,(c,(m,(s.a.map andT,(X++(rowG 0 w).drop k,())))))))))))))∧e=((w:Int),(((bad / 2^k:Nat):Int),(rowG 0 w,((k:Int),((0:Int),((s.v:Int),(o,(b,(c,(m,(s.i,(s.l.map latT,(s.a.map andT,(X,()))))))))))))))∧X.length=k∧∀x∈X,LitOk s.v x) ?_ ?_
   ⟨[],rfl,by rw [Nat.pow_zero,Nat.div_one];rfl,rfl,fun x hx=>nomatch hx⟩ (Ze8 (by omega)) (Ze8 (by omega))
  ·rintro k _ _ hk ⟨X,rfl,rfl,hX,hx⟩
   have hk2:k<(rowG 0 w).length:=by rw [rowG_len];exact hk
   have ed:(rowG 0 w).drop k=(rowG 0 w)[k] :: (rowG 0 w).drop (k+1):=List.drop_eq_getElem_cons hk2
   have ok:LitOk s.v (rowG 0 w)[k]:=(rowG_ok (v:=0) (k:=w) _ (List.getElem_mem hk2)).up (by omega)
   have eg:gt (.int .i64) (rowG 0 w) (k:Int)=(rowG 0 w)[k]:=gt_at (σ:=.int .i64) (List.getElem?_eq_getElem hk2)
   have hbk:bad / 2^k<18446744073709551616:=Nat.lt_of_le_of_lt (Nat.div_le_self ..) hb
   have er:=rxor o b c m (s:=s) hk h2 hbk hX ok hv eg
   have ex:=gxor o b c m (s:=s) (T:=(rowG 0 w).drop (k+1)) hk h2 hb hX ok hv
   rw [←ed] at ex
   refine ⟨_,_,ex,er,X++[if bad / 2^k % 2=0 then ntl (rowG 0 w)[k] else (rowG 0 w)[k]],rfl,?_,by rw [List.length_append,hX];rfl,fun x hx'=>?_⟩
   ·rw [Nat.div_div_eq_div_mul,Nat.pow_succ];rfl
   ·rcases List.mem_append.1 hx' with q | q
    ·exact hx x q
    ·obtain rfl:=List.mem_singleton.1 q
     split
     ·exact (ntl_rng ok).1
     ·exact ok
  ·rintro _ _ ⟨X,rfl,rfl,hX,hx⟩
   have ed:X++(rowG 0 w).drop w=X:=by
    rw [List.drop_of_length_le (by rw [rowG_len];omega),List.append_nil]
   refine ⟨_,_,br_ff (dec_f (show ¬(w:Int)<(w:Int) by omega)) rfl,br_ff (dec_f (show ¬(w:Int)<(w:Int) by omega)) rfl,X,?_,rfl,hX,hx⟩
   show ((0:Int),((s.v:Int),(s.i,(s.l.map latT,(o,(b,(c,(m,(s.a.map andT,(X++(rowG 0 w).drop w,()))))))))))=_
   rw [ed]
 obtain ⟨_,_,e,r,R,rfl,rfl,hR,hx⟩:=hq
 exact ⟨R,e,r,hR,hx⟩
theorem pcounter {w bad:Nat} (h1:1≤w) (h2:w≤20) (hb:bad<18446744073709551616):PR (gen_Counter_FF ((w:Int),((bad:Int),()))) (astrariumref39_Counter_FF ((w:Int),((bad:Int),()))):=by
 have e1:ngen_maker__latches_FF ((w:Int),((0:Int),((0:Int),([],([],([],([],([],([],([],()))))))))))=some (((0+w:Nat):Int),([],([],([],([],([],([],((latG 0 w 0).map latT,(rowG 0 w,()))))))))):=by
  have e:=g_freshl [] [] [] [] (s:=gk0) w 0 (by show 0+w≤50000;omega) (by show 0+w≤50000;omega)
  exact Zba e rfl
 have r1:=r_latches [] [] [] [] (s:=gk0) w 0 (by show 0+w≤50000;omega) (by show 0+w≤50000;omega)
 have G0:=glat gi0 w (st:=0) (by omega) (by omega)
 obtain ⟨t,e2,_,r2,G2⟩:=pcounto [] [] [] [] G0 (L:=rowG 0 w) (f:=0) (w:=1) rowG_ok ⟨by omega,by show (1:Int) / 2≤((0+w:Nat):Int);omega⟩ (by show 0+(rowG 0 w).length≤([]++latG 0 w 0).length;rw [rowG_len,List.nil_append,latG_len];omega)
  (by rw [rowG_len];show 0+w+4*w≤39000;omega) (by rw [rowG_len];show 0+4*w≤39000;omega) (by show ([]++latG 0 w 0).length≤40000;rw [List.nil_append,latG_len];omega)
 rw [rowG_len] at G2
 have a2:=G2.hi;have b2:=G2.len;have c2:=G2.lo
 have a2:t.v≤0+w+4*w:=a2
 have b2:t.a.length≤0+4*w:=b2
 have c2:0+w≤t.v:=c2
 obtain ⟨R,e3,r3,hR,hr⟩:=pxor [] [] [] [] (s:=t) h1 h2 (by omega) (by omega) hb
 have e3:gen_Counter_L7 ((bad:Int),(((rowG 0 w).length:Int),((0:Int),((0:Int),((t.v:Int),(t.i,(t.l.map latT,([],([],([],([],(t.a.map andT,(rowG 0 w,())))))))))))))=some ((0:Int),((t.v:Int),(t.i,(t.l.map latT,([],([],([],([],(t.a.map andT,(R,())))))))))):=by rw [rowG_len];exact e3
 obtain ⟨z,u,e4,r4,G4,ok⟩:=pall [] [] [] [] G2.gi hr (by omega) (by omega)
 have a4:=G4.hi;have b4:=G4.len
 have q20:selB false true (iL 20 (w:Int))=false:=by
  have q:iL 20 (w:Int)=false:=dec_f (show ¬(20:Int)<(w:Int) by omega)
  rw [q];rfl
 refine ⟨⟨u.v,u.i,u.l,[],[z],[],[],u.a⟩,0,?_,?_,few_of G4.gi (by omega) (by simp) (by simp) (fun m hm=>nomatch hm)⟩
 ·exact br_ff (dec_f (show ¬(w:Int)<1 by omega)) (br_ff q20 (Zba e1 (Zba e2 (Zba e3 (Zba e4 (Zaj rfl rfl))))))
 ·exact br_ff (dec_f (show ¬(w:Int)<1 by omega)) (br_ff q20 (Zba r1 (Zba r2 (Zba r3 (Zba r4 rfl)))))
theorem widths_is (a b:Int):astrariumref39_widths_FF (a,(b,()))=some (decide (1≤a∧a≤16∧1≤b∧b≤16),()):=within_is a b
theorem rstack_no {a b:Int} (h:¬(1≤a∧a≤16∧1≤b∧b≤16)):astrariumref39_Stack_FF (a,(b,()))=some (netT ⟨0,[],[],[],[],[],[],[]⟩,((1:Int),())):=by
 refine Zba (widths_is a b) (br_tt ?_ rfl)
 rw [decide_eq_false h];rfl
theorem half_row {v k:Nat} (h:1≤k) (hv:v≤100000):IntKind.wrap .i64 (Int.tdiv (gt (.int .i64) (rowG v k) (0:Int)) 2)=((v+1:Nat):Int):=by
 have e:gt (.int .i64) (rowG v k) (0:Int)=2*((v+1:Nat):Int):=rowG_0 h
 rw [e];exact halfM_is (x:=v+1) (by omega)
theorem pstack {A W:Nat} (h1:1≤A) (h2:A≤16) (h3:1≤W) (h4:W≤16):PR (gen_Stack_FF ((A:Int),((W:Int),()))) (astrariumref39_Stack_FF ((A:Int),((W:Int),()))):=by
 have w0:gen_within_FF ((A:Int),((W:Int),()))=some (true,()):=by rw [within_is,decide_eq_true (by omega)]
 have w1:astrariumref39_widths_FF ((A:Int),((W:Int),()))=some (true,()):=by rw [widths_is,decide_eq_true (by omega)]
 have G1:=ginp gi0 1
 have e1:ngen_maker__inputs_FF ((1:Int),((0:Int),([],([],([],([],([],([],([],())))))))))=some (rowG 0 1,(((0+1:Nat):Int),([],([],([],([],([],([],(fr 0 (0+1),()))))))))):=g_inputs [] [] [] [] (s:=gk0) 1 (by show 0+1≤50000;omega) (by show 0+1≤50000;omega)
 have r1:=r_inputs [] [] [] [] (s:=gk0) 1 (by show 0+1≤50000;omega) (by show 0+1≤50000;omega)
 have G2:=ginp G1 1
 have e2:ngen_maker__inputs_FF ((1:Int),(((0+1:Nat):Int),(fr 0 (0+1),([],([],([],([],([],([],())))))))))=some (rowG 1 1,(((2:Nat):Int),([],([],([],([],([],([],(fr 0 1++fr 1 2,()))))))))):=g_inputs [] [] [] [] (s:=⟨0+1,fr 0 1,[],[]⟩) 1 (by show 0+1+1≤50000;omega) (by rw [frlen];omega)
 have r2:=r_inputs [] [] [] [] (s:=⟨0+1,fr 0 1,[],[]⟩) 1 (by show 0+1+1≤50000;omega) (by rw [frlen];omega)
 have G3:=ginp G2 W
 have e3:=g_inputs [] [] [] [] (s:=⟨2,fr 0 1++fr 1 2,[],[]⟩) W (by show 2+W≤50000;omega) (by rw [List.length_append,frlen,frlen];omega)
 have r3:=r_inputs [] [] [] [] (s:=⟨2,fr 0 1++fr 1 2,[],[]⟩) W (by show 2+W≤50000;omega) (by rw [List.length_append,frlen,frlen];omega)
 have G4:=glat G3 A (st:=0) (by omega) (by omega)
 have e4:=g_latchesf [] [] [] [] (s:=⟨2+W,fr 0 1++fr 1 2++fr 2 (2+W),[],[]⟩) A 0 (by show 2+W+A≤50000;omega) (by show 0+A≤50000;omega)
 have r4:=r_latches [] [] [] [] (s:=⟨2+W,fr 0 1++fr 1 2++fr 2 (2+W),[],[]⟩) A 0 (by show 2+W+A≤50000;omega) (by show 0+A≤50000;omega)
 have G5:=gdat G4 W
 have e5:=g_data [] [] [] [] (s:=⟨2+W+A,fr 0 1++fr 1 2++fr 2 (2+W),[]++latG (2+W) A 0,[]⟩) W (by show 2+W+A+W≤50000;omega)
 have r5:=r_vars [] [] [] [] (s:=⟨2+W+A,fr 0 1++fr 1 2++fr 2 (2+W),[]++latG (2+W) A 0,[]⟩) W (by show 2+W+A+W≤50000;omega)
 have e6:=rowG_v (v:=2+W+A) h3
 have r6:=half_row (v:=2+W+A) h3 (by omega)
 have G5:GI ⟨2+W+A+W,fr 0 1++fr 1 2++fr 2 (2+W),[]++latG (2+W) A 0,[]⟩ ([]++fr (2+W+A) (2+W+A+W)):=G5
 obtain ⟨s0,hs0⟩:∃s0:Gk,s0=⟨2+W+A+W,fr 0 1++fr 1 2++fr 2 (2+W),[]++latG (2+W) A 0,[]⟩:=⟨_,rfl⟩
 rw [←hs0] at G5
 have v0:s0.v=2+W+A+W:=by rw [hs0]
 have a0:s0.a.length=0:=by rw [hs0];rfl
 have l0:s0.l.length=A:=by rw [hs0];show ([]++latG (2+W) A 0).length=A;rw [List.nil_append,latG_len]
 have okp:LitOk s0.v (g0 (rowG 0 1)):=rowG_o (by omega) (by omega)
 have okq:LitOk s0.v (g0 (rowG 1 1)):=rowG_o (by omega) (by omega)
 have okt:∀x∈rowG (2+W) A,LitOk s0.v x:=fun x hx=>(rowG_ok x hx).up (by omega)
 obtain ⟨both,s1,e7,r7,H1,k1⟩:=pand [] [] [] [memT (stM A W)] G5 okp okq (by omega) (by omega)
 have i1:=H1.hi;have j1:=H1.len;have c1:=H1.lo
 have l1:s1.l.length=A:=by
  have:=congrArg List.length H1.lav
  simp only [List.length_map] at this
  omega
 obtain ⟨s2,_,e8,r8,H2⟩:=pcounto [] [] [] [memT (stM A W)] H1.gi (L:=rowG (2+W) A) (f:=0) (fun x hx=>(okt x hx).up c1) (okp.up c1) (by rw [rowG_len];omega) (by rw [rowG_len];omega) (by rw [rowG_len];omega) (by omega)
 rw [rowG_len] at H2
 have i2:=H2.hi;have j2:=H2.len;have c2:=H2.lo
 obtain ⟨full,s3,e9,r9,H3,k3⟩:=pall [] [] [] [memT (stM A W)] H2.gi (L:=rowG (2+W) A) (fun x hx=>((okt x hx).up c1).up c2) (by rw [rowG_len];omega) (by rw [rowG_len];omega)
 rw [rowG_len] at H3
 have i3:=H3.hi;have j3:=H3.len;have c3:=H3.lo
 obtain ⟨z,s4,e10,r10,H4,k4⟩:=pand [] [] [] [memT (stM A W)] H3.gi (((okp.up c1).up c2).up c3) k3 (by omega) (by omega)
 have i4:=H4.hi;have j4:=H4.len;have c4:=H4.lo
 have kb:LitOk s4.v both:=((k1.up c2).up c3).up c4
 have e11:=lits_Not_is kb (by omega)
 have r11:=r_not kb (by omega)
 have q1:∀a:Int,iQ a a=true:=fun a=>decide_eq_true rfl
 have p0:=rowG_i (v:=0) (k:=1) (by omega)
 have p1:=rowG_i (v:=1) (k:=1) (by omega)
 have p5:=rowG_i (v:=2+W+A) h3
 have hm:∀x:Int,x=((2+W+A+1:Nat):Int)→(((A:Int),((W:Int),(false,([(x,(rowG (2+W) A,()))],([(g0 (rowG 0 1),(rowG (2+W) A,(rowG 2 W,())))],()))))):Za1.T)=memT (stM A W):=by rintro _ rfl;rfl
 have r7:nastrariumref39_Maker__and_FF (g0 (rowG 0 1),(g0 (rowG 1 1),rT [] [] [] [((A:Int),((W:Int),(false,([(IntKind.wrap .i64 (Int.tdiv (gt (.int .i64) (rowG (2+W+A) W) (0:Int)) 2),(rowG (2+W) A,()))],([(g0 (rowG 0 1),(rowG (2+W) A,(rowG 2 W,())))],())))))] s0))=some (both,rT [] [] [] [memT (stM A W)] s1):=by rw [hm _ r6];exact r7
 subst hs0
 refine ⟨⟨s4.v,s4.i,s4.l,[],[z],[ntl both],[stM A W],s4.a⟩,0,?_,?_,few_of H4.gi (by omega) (by simp) (by simp) ?_⟩
 ·refine Zba w0 (br_ff rfl (Zba e1 ?_))
  refine Zaj ?_ ?_
  ·exact p0
  refine Zaj (q1 _) ?_
  refine Zba e2 ?_
  refine Zaj p1 ?_
  refine Zaj p0 (Zaj (Sh.Zb5s _) (Zaj (q1 _) (Zaj (q1 _) ?_)))
  refine Zba e3 (Zaj p0 (Zaj (Sh.Zb5s _) (Zaj (q1 _) ?_)))
  refine (Zaj p1 (Zaj (Sh.Zb5s _) (Zaj (q1 _) ?_)))
  refine Zba e4 (Zba e5 ?_)
  refine (Zaj (rowG_i h3) (Zba e6 (Zaj (Zsm (a:=72) (L:=([]:List Za1.T)) (x:=memT (stM A W)) (Nat.zero_le _) (by omega)) ?_)))
  refine Zba e7 (Zba e8 (Zba e9 (Zba e10 (Zaj rfl (Zba e11 (Zaj rfl ?_))))))
  rfl
 ·refine Zba w1 (br_ff rfl (Zba r1 (Zaj p0 (Zba r2 (Zaj p1 (Zba r3 (Zba r4 (Zba r5 (Zaj p5 ?_)))))))))
  refine Zba r7 (Zba r8 (Zba r9 (Zba r10 (Zba r11 ?_))))
  rfl
 ·intro m hm
  obtain rfl:=List.mem_singleton.1 hm
  refine ⟨by show 1≤1000000;omega,by show 1≤1000000;omega,?_,?_⟩
  ·intro r hr
   obtain rfl:=List.mem_singleton.1 hr
   show (rowG (2+W) A).length≤_
   rw [rowG_len];omega
  ·intro x hx
   obtain rfl:=List.mem_singleton.1 hx
   refine ⟨?_,?_⟩
   ·show (rowG (2+W) A).length≤_
    rw [rowG_len];omega
   ·show (rowG 2 W).length≤_
    rw [rowG_len];omega
def ecN (v A W:Nat) (ws:List Zz7):MemD:=⟨A,W,true,[⟨((v+A+1+W+1:Nat):Int),rowG v A⟩],ws⟩
abbrev wrS (s:Gk) (A W:Nat):Gk:=⟨s.v+1+A+W,s.i++fr s.v (s.v+1)++fr (s.v+1) (s.v+1+A)++fr (s.v+1+A) (s.v+1+A+W),s.l,s.a⟩
theorem pwrite {s:Gk} {D:List Int} (h:GI s D) {A W:Nat} (h1:A≤16) (h2:W≤16) (hv:s.v≤1000) (hi:s.i.length≤1000) :
  ngen_maker__write_FF ((A:Int),((W:Int),gT [] [] [] [] s))=some (g0 (rowG s.v 1),(rowG (s.v+1) A,(rowG (s.v+1+A) W,(((wrS s A W).v:Int),(s.l.map latT,([],([],([],([],(s.a.map andT,((wrS s A W).i,()))))))))))) ∧
  nastrariumref39_Maker__Inputs_FF ((1:Int),rT [] [] [] [] s)=some (rowG s.v 1,(((s.v+1:Nat):Int),([],([],([],([],(s.l.map latT,(s.a.map andT,(s.i++fr s.v (s.v+1),()))))))))) ∧
  nastrariumref39_Maker__Inputs_FF ((A:Int),rT [] [] [] [] ⟨s.v+1,s.i++fr s.v (s.v+1),s.l,s.a⟩)=some (rowG (s.v+1) A,(((s.v+1+A:Nat):Int),([],([],([],([],(s.l.map latT,(s.a.map andT,(s.i++fr s.v (s.v+1)++fr (s.v+1) (s.v+1+A),()))))))))) ∧
  nastrariumref39_Maker__Inputs_FF ((W:Int),rT [] [] [] [] ⟨s.v+1+A,s.i++fr s.v (s.v+1)++fr (s.v+1) (s.v+1+A),s.l,s.a⟩)=some (rowG (s.v+1+A) W,(((wrS s A W).v:Int),([],([],([],([],(s.l.map latT,(s.a.map andT,((wrS s A W).i,())))))))))∧GI (wrS s A W) D∧(wrS s A W).i.length=s.i.length+1+A+W:=by
 have e1:=g_inputs [] [] [] [] (s:=s) 1 (by omega) (by omega)
 have e2:=g_inputs [] [] [] [] (s:=⟨s.v+1,s.i++fr s.v (s.v+1),s.l,s.a⟩) A (by show s.v+1+A≤50000;omega) (by rw [List.length_append,frlen];omega)
 have e3:=g_inputs [] [] [] [] (s:=⟨s.v+1+A,s.i++fr s.v (s.v+1)++fr (s.v+1) (s.v+1+A),s.l,s.a⟩) W (by show s.v+1+A+W≤50000;omega) (by rw [List.length_append,List.length_append,frlen,frlen];omega)
 have r1:=r_inputs [] [] [] [] (s:=s) 1 (by omega) (by omega)
 have r2:=r_inputs [] [] [] [] (s:=⟨s.v+1,s.i++fr s.v (s.v+1),s.l,s.a⟩) A (by show s.v+1+A≤50000;omega) (by rw [List.length_append,frlen];omega)
 have r3:=r_inputs [] [] [] [] (s:=⟨s.v+1+A,s.i++fr s.v (s.v+1)++fr (s.v+1) (s.v+1+A),s.l,s.a⟩) W (by show s.v+1+A+W≤50000;omega) (by rw [List.length_append,List.length_append,frlen,frlen];omega)
 have p0:=rowG_i (v:=s.v) (k:=1) (by omega)
 refine ⟨?_,r1,r2,r3,ginp (ginp (ginp h 1) A) W,?_⟩
 ·refine Zba e1 (Zaj p0 (Zba e2 (Zba e3 ?_)))
  rfl
 ·rw [List.length_append,List.length_append,List.length_append,frlen,frlen,frlen];omega
section
variable (o b c:List Int) (m:List Za1.T) {s:Gk} {D:List Int}
theorem pkept (h:GI s D) {A:Nat} {K E R:List Int} {wr he on:Int} {ad da:List Int} (hK:∀x∈K,LitOk s.v x) (hd:∀x∈da,LitOk s.v x) (hl:K.length≤da.length) (hh:LitOk s.v he) (hA:A+1+K.length≤s.l.length) (hv:s.v+3*K.length≤39000) (ha:s.a.length+3*K.length≤39000) (hs:s.l.length≤40000) :
  ∃t:Gk,gen_Echo_L17 ((A:Int),(wr,(E,(R,(he,(K,((K.length:Int),((0:Int),((0:Int),((s.v:Int),(s.i,(s.l.map latT,(o,(b,(c,(m,(s.a.map andT,(on,(ad,(da,()))))))))))))))))))))=some (wr,(E,(R,((0:Int),((t.v:Int),(t.i,(t.l.map latT,(o,(b,(c,(m,(t.a.map andT,())))))))))))) ∧
   astrariumref39_Echo_L22 ((A:Int),((K.length:Int),(da,(wr,(K,(R,(he,((0:Int),((0:Int),((s.v:Int),(o,(b,(c,(m,(s.i,(s.l.map latT,(s.a.map andT,())))))))))))))))))=some (wr,(K,(R,((0:Int),((t.v:Int),(o,(b,(c,(m,(t.i,(t.l.map latT,(t.a.map andT,()))))))))))))∧GO s D (3*K.length) t:=by
 have hq:∃q q',gen_Echo_L17 ((A:Int),(wr,(E,(R,(he,(K,((K.length:Int),((0:Int),((0:Int),((s.v:Int),(s.i,(s.l.map latT,(o,(b,(c,(m,(s.a.map andT,(on,(ad,(da,()))))))))))))))))))))=some q∧astrariumref39_Echo_L22 ((A:Int),((K.length:Int),(da,(wr,(K,(R,(he,((0:Int),((0:Int),((s.v:Int),(o,(b,(c,(m,(s.i,(s.l.map latT,(s.a.map andT,())))))))))))))))))=some q' ∧
   ∃(t:Gk),q=(wr,(E,(R,((0:Int),((t.v:Int),(t.i,(t.l.map latT,(o,(b,(c,(m,(t.a.map andT,()))))))))))))∧q'=(wr,(K,(R,((0:Int),((t.v:Int),(o,(b,(c,(m,(t.i,(t.l.map latT,(t.a.map andT,()))))))))))))∧GO s D (3*K.length) t:=by
  unfold gen_Echo_L17 astrariumref39_Echo_L22;delta u20 u17
  refine lp_ex2 K.length (fun k d e=>∃(t:Gk),d=((A:Int),(wr,(E,(R,(he,(K,((K.length:Int),((k:Int),((0:Int),((t.v:Int),(t.i,(t.l.map latT,(o,(b,(c,(m,(t.a.map andT,(on,(ad,(da,()))))))))))))))))))))∧e=((A:Int),((K.length:Int),(da,(wr,(K,(R,(he,((k:Int),((0:Int),((t.v:Int),(o,(b,(c,(m,(t.i,(t.l.map latT,(t.a.map andT,())))))))))))))))))∧GO s D (3*k) t) ?_ ?_ ⟨s,rfl,rfl,GO.refl h⟩ (Ze8 (by omega)) (Ze8 (by omega))
  ·rintro k _ _ hk ⟨t,rfl,rfl,G⟩
   have h1:=G.hi;have h2:=G.len;have h3:=G.lo
   have hk2:k<da.length:=by omega
   have eg:gt (.int .i64) K (k:Int)=K[k]:=gt_at (σ:=.int .i64) (List.getElem?_eq_getElem hk)
   have eh:gt (.int .i64) da (k:Int)=da[k]:=gt_at (σ:=.int .i64) (List.getElem?_eq_getElem hk2)
   obtain ⟨z,s1,e1,r1,G1,k1⟩:=pchoose o b c m G.gi (hh.up h3) ((hd da[k] (List.getElem_mem hk2)).up h3) ((hK K[k] (List.getElem_mem hk)).up h3) (by omega) (by omega)
   have hlen:s1.l.length=s.l.length:=by
    have:=congrArg List.length (G1.lav.trans G.lav)
    simpa using this
   have ew0:IntKind.wrap .i64 ((A:Int)+1)=((A+1:Nat):Int):=i64n (x:=(A:Int)+1) (n:=A+1) (by omega) (by omega)
   have ew:IntKind.wrap .i64 (IntKind.wrap .i64 ((A:Int)+1)+(k:Int))=((A+1+k:Nat):Int):=by
    rw [ew0]
    exact i64n (x:=((A+1:Nat):Int)+(k:Int)) (n:=A+1+k) (by omega) (by omega)
   obtain ⟨G2,es⟩:=gset (k:=A+1+k) G1.gi ew (by omega) z k1
   have e1:ngen_maker__choose_FF (he,(gt (.int .i64) da (k:Int),(gt (.int .i64) K (k:Int),gT o b c m t)))=some (z,gT o b c m s1):=by rw [eg,eh];exact e1
   have r1:nastrariumref39_Maker__either_FF (he,(gt (.int .i64) da (k:Int),(ntl he,(gt (.int .i64) K (k:Int),rT o b c m t))))=some (z,rT o b c m s1):=by rw [eg,eh];exact r1
   have q1:∀a:Int,iQ a a=true:=fun a=>decide_eq_true rfl
   have i1:inb (k:Int) (List.length K)=true:=Zar (by omega)
   have i2:inb (k:Int) (List.length da)=true:=Zar (by omega)
   have i3:inb (IntKind.wrap .i64 (IntKind.wrap .i64 ((A:Int)+1)+(k:Int))) (List.length (s1.l.map latT))=true:=by rw [ew];exact Zar (by rw [List.length_map];omega)
   have ek:IntKind.wrap .i64 ((k:Int)+1)=((k+1:Nat):Int):=i64n (x:=(k:Int)+1) (n:=k+1) (by omega) (by omega)
   have n1:=r_not (hh.up h3) (by omega)
   refine ⟨_,_,br_tt (dec_t (show (k:Int)<(K.length:Int) by omega)) (Zaj i1 (Zaj i2 (Zba e1 (Zaj i3 (Zaj (q1 _) (Zaj (q1 _) (Zaj (q1 _) (Zaj (q1 _) rfl)))))))),
    br_tt (dec_t (show (k:Int)<(K.length:Int) by omega)) (Zaj i2 (Zaj i1 (Zba n1 (Zba r1 (Zaj i3 (Zaj (q1 _) (Zaj (q1 _) (Zaj (q1 _) (Zaj (q1 _) rfl))))))))),⟨s1.v,s1.i,setNx s1.l (A+1+k) z,s1.a⟩,?_,?_,G.trans (G1.trans G2 (Nat.le_refl _)) (by omega)⟩
   ·show ((A:Int),(wr,(E,(R,(he,(K,((K.length:Int),(IntKind.wrap .i64 ((k:Int)+1),((0:Int),((s1.v:Int),(s1.i,(List.set (s1.l.map latT) (Int.toNat (IntKind.wrap .i64 (IntKind.wrap .i64 ((A:Int)+1)+(k:Int)))) ((gt Za0 (s1.l.map latT) (IntKind.wrap .i64 (IntKind.wrap .i64 ((A:Int)+1)+(k:Int)))).1,(z,((gt Za0 (s1.l.map latT) (IntKind.wrap .i64 (IntKind.wrap .i64 ((A:Int)+1)+(k:Int)))).2.2.1,()))),(o,(b,(c,(m,(s1.a.map andT,(on,(ad,(da,()))))))))))))))))))))=_
    rw [ek,es]
   ·show ((A:Int),((K.length:Int),(da,(wr,(K,(R,(he,(IntKind.wrap .i64 ((k:Int)+1),((0:Int),((s1.v:Int),(o,(b,(c,(m,(s1.i,(List.set (s1.l.map latT) (Int.toNat (IntKind.wrap .i64 (IntKind.wrap .i64 ((A:Int)+1)+(k:Int)))) ((gt Za0 (s1.l.map latT) (IntKind.wrap .i64 (IntKind.wrap .i64 ((A:Int)+1)+(k:Int)))).1,(z,((gt Za0 (s1.l.map latT) (IntKind.wrap .i64 (IntKind.wrap .i64 ((A:Int)+1)+(k:Int)))).2.2.1,()))),(s1.a.map andT,())))))))))))))))))=_
    rw [ek,es]
  ·rintro _ _ ⟨t,rfl,rfl,G⟩
   exact ⟨_,_,br_ff (dec_f (show ¬(K.length:Int)<(K.length:Int) by omega)) rfl,br_ff (dec_f (show ¬(K.length:Int)<(K.length:Int) by omega)) rfl,t,rfl,rfl,G⟩
 obtain ⟨_,_,e,r,t,rfl,rfl,G⟩:=hq
 exact ⟨t,e,r,G⟩
end
theorem ptail {s:Gk} (h:GI s []) {A W:Nat} (h1:1≤A) (h2:A≤16) (h3:1≤W) (h4:W≤16) (hl:s.l=[]) (ha:s.a=[]) (hv:s.v≤100) (hi:s.i.length≤100) {on:Int} {ad da:List Int} (kon:LitOk s.v on) (lad:ad.length=A) (lda:da.length=W) (kad:∀x∈ad,LitOk s.v x) (kda:∀x∈da,LitOk s.v x)
  {ws:List Zz7} (hw:ws.length≤4) (hws:∀x∈ws,x.addr.length=A∧x.data.length=W) :
  ∃(s4 s5 s6 s7 s9 s10 s11:Gk) (sm he x eq z:Int),
   (ngen_maker__latchesf_FF ((A:Int),((2:Int),gT [] [] [] [] s))=some (rowG s.v A,(((s.v+A:Nat):Int),(s.i,([],([],([],([],(s.a.map andT,((s.l++latG s.v A 2).map latT,()))))))))) ∧
   ngen_maker__latchesf_FF ((1:Int),((0:Int),gT [] [] [] [] ⟨s.v+A,s.i,s.l++latG s.v A 2,s.a⟩))=some (rowG (s.v+A) 1,(((s.v+A+1:Nat):Int),(s.i,([],([],([],([],(s.a.map andT,((s.l++latG s.v A 2++latG (s.v+A) 1 0).map latT,()))))))))) ∧
   ngen_maker__latchesf_FF ((W:Int),((0:Int),gT [] [] [] [] ⟨s.v+A+1,s.i,s.l++latG s.v A 2++latG (s.v+A) 1 0,s.a⟩))=some (rowG (s.v+A+1) W,(((s.v+A+1+W:Nat):Int),(s.i,([],([],([],([],(s.a.map andT,((s.l++latG s.v A 2++latG (s.v+A) 1 0++latG (s.v+A+1) W 0).map latT,()))))))))) ∧
   ngen_maker__data_FF ((W:Int),gT [] [] [] [] ⟨s.v+A+1+W,s.i,s.l++latG s.v A 2++latG (s.v+A) 1 0++latG (s.v+A+1) W 0,s.a⟩)=some (rowG (s.v+A+1+W) W,gT [] [] [] [] s4) ∧
   ngen_maker__same_FF (ad,(rowG s.v A,gT [] [] [] [memT (ecN s.v A W ws)] s4))=some (sm,gT [] [] [] [memT (ecN s.v A W ws)] s5) ∧
   ngen_maker__and_FF (on,(sm,gT [] [] [] [memT (ecN s.v A W ws)] s5))=some (he,gT [] [] [] [memT (ecN s.v A W ws)] s6) ∧
   ngen_maker__or_FF (he,(g0 (rowG (s.v+A) 1),gT [] [] [] [memT (ecN s.v A W ws)] s6))=some (x,gT [] [] [] [memT (ecN s.v A W ws)] s7) ∧
   gen_Echo_L17 ((A:Int),(g0 (rowG (s.v+A) 1),(rowG (s.v+A+1) W,(rowG (s.v+A+1+W) W,(he,(rowG (s.v+A+1) W,(((rowG (s.v+A+1) W).length:Int),((0:Int),((0:Int),((s7.v:Int),(s7.i,(List.set (s7.l.map latT) (Int.toNat (A:Int)) ((gt Za0 (s7.l.map latT) (A:Int)).1,(x,((gt Za0 (s7.l.map latT) (A:Int)).2.2.1,()))),([],([],([],([memT (ecN s.v A W ws)],(s7.a.map andT,(on,(ad,(da,())))))))))))))))))))) =
    some (g0 (rowG (s.v+A) 1),(rowG (s.v+A+1) W,(rowG (s.v+A+1+W) W,((0:Int),((s9.v:Int),(s9.i,(s9.l.map latT,([],([],([],([memT (ecN s.v A W ws)],(s9.a.map andT,())))))))))))) ∧
   ngen_maker__same_FF (rowG (s.v+A+1+W) W,(rowG (s.v+A+1) W,gT [] [] [] [memT (ecN s.v A W ws)] s9))=some (eq,gT [] [] [] [memT (ecN s.v A W ws)] s10) ∧
   lits_Not_FF (eq,())=some (ntl eq,()) ∧
   ngen_maker__and_FF (g0 (rowG (s.v+A) 1),(ntl eq,gT [] [] [] [memT (ecN s.v A W ws)] s10))=some (z,gT [] [] [] [memT (ecN s.v A W ws)] s11)) ∧
   inb (A:Int) (List.length (s7.l.map latT))=true ∧
   (nastrariumref39_Maker__Latches_FF ((A:Int),((2:Int),rT [] [] [] [] s))=some (rowG s.v A,(((s.v+A:Nat):Int),([],([],([],([],(s.i,(s.a.map andT,((s.l++latG s.v A 2).map latT,()))))))))) ∧
   nastrariumref39_Maker__Latches_FF ((1:Int),((0:Int),rT [] [] [] [] ⟨s.v+A,s.i,s.l++latG s.v A 2,s.a⟩))=some (rowG (s.v+A) 1,(((s.v+A+1:Nat):Int),([],([],([],([],(s.i,(s.a.map andT,((s.l++latG s.v A 2++latG (s.v+A) 1 0).map latT,()))))))))) ∧
   nastrariumref39_Maker__Latches_FF ((W:Int),((0:Int),rT [] [] [] [] ⟨s.v+A+1,s.i,s.l++latG s.v A 2++latG (s.v+A) 1 0,s.a⟩))=some (rowG (s.v+A+1) W,(((s.v+A+1+W:Nat):Int),([],([],([],([],(s.i,(s.a.map andT,((s.l++latG s.v A 2++latG (s.v+A) 1 0++latG (s.v+A+1) W 0).map latT,()))))))))) ∧
   nastrariumref39_Maker__Vars_FF ((W:Int),rT [] [] [] [] ⟨s.v+A+1+W,s.i,s.l++latG s.v A 2++latG (s.v+A) 1 0++latG (s.v+A+1) W 0,s.a⟩)=some (rowG (s.v+A+1+W) W,rT [] [] [] [] s4) ∧
   nastrariumref39_Maker__same_FF (ad,(rowG s.v A,rT [] [] [] [((A:Int),((W:Int),(true,([(IntKind.wrap .i64 (Int.tdiv (gt (.int .i64) (rowG (s.v+A+1+W) W) (0:Int)) 2),(rowG s.v A,()))],(ws.map Zt4,())))))] s4))=some (sm,rT [] [] [] [memT (ecN s.v A W ws)] s5) ∧
   nastrariumref39_Maker__and_FF (on,(sm,rT [] [] [] [memT (ecN s.v A W ws)] s5))=some (he,rT [] [] [] [memT (ecN s.v A W ws)] s6) ∧
   nastrariumref39_Maker__or_FF (he,(g0 (rowG (s.v+A) 1),rT [] [] [] [memT (ecN s.v A W ws)] s6))=some (x,rT [] [] [] [memT (ecN s.v A W ws)] s7) ∧
   astrariumref39_Echo_L22 ((A:Int),((W:Int),(da,(g0 (rowG (s.v+A) 1),(rowG (s.v+A+1) W,(rowG (s.v+A+1+W) W,(he,((0:Int),((0:Int),((s7.v:Int),([],([],([],([memT (ecN s.v A W ws)],(s7.i,(List.set (s7.l.map latT) (Int.toNat (A:Int)) ((gt Za0 (s7.l.map latT) (A:Int)).1,(x,((gt Za0 (s7.l.map latT) (A:Int)).2.2.1,()))),(s7.a.map andT,()))))))))))))))))) =
    some (g0 (rowG (s.v+A) 1),(rowG (s.v+A+1) W,(rowG (s.v+A+1+W) W,((0:Int),((s9.v:Int),([],([],([],([memT (ecN s.v A W ws)],(s9.i,(s9.l.map latT,(s9.a.map andT,())))))))))))) ∧
   nastrariumref39_Maker__same_FF (rowG (s.v+A+1+W) W,(rowG (s.v+A+1) W,rT [] [] [] [memT (ecN s.v A W ws)] s9))=some (eq,rT [] [] [] [memT (ecN s.v A W ws)] s10) ∧
   astrariumref39_not_FF (eq,())=some (ntl eq,()) ∧
   nastrariumref39_Maker__and_FF (g0 (rowG (s.v+A) 1),(ntl eq,rT [] [] [] [memT (ecN s.v A W ws)] s10))=some (z,rT [] [] [] [memT (ecN s.v A W ws)] s11)) ∧
   Few ⟨s11.v,s11.i,s11.l,[],[z],[],[ecN s.v A W ws],s11.a⟩:=by
 have ll:s.l.length=0:=by rw [hl];rfl
 have la:s.a.length=0:=by rw [ha];rfl
 have G1:=glat h A (st:=2) (by omega) (by omega)
 have e1:=g_latchesf [] [] [] [] (s:=s) A 2 (by omega) (by omega)
 have r1:=r_latches [] [] [] [] (s:=s) A 2 (by omega) (by omega)
 have G2:=glat G1 1 (st:=0) (by omega) (by omega)
 have e2:=g_latchesf [] [] [] [] (s:=⟨s.v+A,s.i,s.l++latG s.v A 2,s.a⟩) 1 0 (by show s.v+A+1≤50000;omega) (by rw [List.length_append,latG_len];omega)
 have r2:=r_latches [] [] [] [] (s:=⟨s.v+A,s.i,s.l++latG s.v A 2,s.a⟩) 1 0 (by show s.v+A+1≤50000;omega) (by rw [List.length_append,latG_len];omega)
 have G3:=glat G2 W (st:=0) (by omega) (by omega)
 have e3:=g_latchesf [] [] [] [] (s:=⟨s.v+A+1,s.i,s.l++latG s.v A 2++latG (s.v+A) 1 0,s.a⟩) W 0 (by show s.v+A+1+W≤50000;omega) (by rw [List.length_append,List.length_append,latG_len,latG_len];omega)
 have r3:=r_latches [] [] [] [] (s:=⟨s.v+A+1,s.i,s.l++latG s.v A 2++latG (s.v+A) 1 0,s.a⟩) W 0 (by show s.v+A+1+W≤50000;omega) (by rw [List.length_append,List.length_append,latG_len,latG_len];omega)
 have G4:=gdat G3 W
 have e4:=g_data [] [] [] [] (s:=⟨s.v+A+1+W,s.i,s.l++latG s.v A 2++latG (s.v+A) 1 0++latG (s.v+A+1) W 0,s.a⟩) W (by show s.v+A+1+W+W≤50000;omega)
 have r4:=r_vars [] [] [] [] (s:=⟨s.v+A+1+W,s.i,s.l++latG s.v A 2++latG (s.v+A) 1 0++latG (s.v+A+1) W 0,s.a⟩) W (by show s.v+A+1+W+W≤50000;omega)
 obtain ⟨s4,h4e⟩:∃s4:Gk,s4=⟨s.v+A+1+W+W,s.i,s.l++latG s.v A 2++latG (s.v+A) 1 0++latG (s.v+A+1) W 0,s.a⟩:=⟨_,rfl⟩
 have G4:GI ⟨s.v+A+1+W+W,s.i,s.l++latG s.v A 2++latG (s.v+A) 1 0++latG (s.v+A+1) W 0,s.a⟩ ([]++fr (s.v+A+1+W) (s.v+A+1+W+W)):=G4
 rw [←h4e] at G4
 have e4:ngen_maker__data_FF ((W:Int),gT [] [] [] [] ⟨s.v+A+1+W,s.i,s.l++latG s.v A 2++latG (s.v+A) 1 0++latG (s.v+A+1) W 0,s.a⟩)=some (rowG (s.v+A+1+W) W,gT [] [] [] [] s4):=by rw [h4e];exact e4
 have r4:nastrariumref39_Maker__Vars_FF ((W:Int),rT [] [] [] [] ⟨s.v+A+1+W,s.i,s.l++latG s.v A 2++latG (s.v+A) 1 0++latG (s.v+A+1) W 0,s.a⟩)=some (rowG (s.v+A+1+W) W,rT [] [] [] [] s4):=by rw [h4e];exact r4
 have v4:s4.v=s.v+A+1+W+W:=by rw [h4e]
 have a4:s4.a.length=0:=by rw [h4e];exact la
 have l4:s4.l.length=A+1+W:=by rw [h4e];show (s.l++latG s.v A 2++latG (s.v+A) 1 0++latG (s.v+A+1) W 0).length=_;rw [List.length_append,List.length_append,List.length_append,latG_len,latG_len,latG_len];omega
 clear G1 G2 G3 h4e
 have kwr:LitOk s4.v (g0 (rowG (s.v+A) 1)):=rowG_o (by omega) (by omega)
 obtain ⟨sm,s5,e5,r5,H5,k5⟩:=psame [] [] [] [memT (ecN s.v A W ws)] G4 (L:=ad) (M:=rowG s.v A) (fun x hx=>(kad x hx).up (by omega)) (fun x hx=>(rowG_ok x hx).up (by omega)) (by rw [rowG_len];omega) (by omega) (by omega)
 have i5:=H5.hi;have j5:=H5.len;have c5:=H5.lo
 obtain ⟨he,s6,e6,r6,H6,k6⟩:=pand [] [] [] [memT (ecN s.v A W ws)] H5.gi (kon.up (by omega)) k5 (by omega) (by omega)
 have i6:=H6.hi;have j6:=H6.len;have c6:=H6.lo
 obtain ⟨x,s7,e7,r7,H7,k7⟩:=por [] [] [] [memT (ecN s.v A W ws)] H6.gi k6 (kwr.up (by omega)) (by omega) (by omega)
 have i7:=H7.hi;have j7:=H7.len;have c7:=H7.lo
 have l7:s7.l.length=A+1+W:=by
  have:=congrArg List.length ((H7.lav.trans H6.lav).trans H5.lav)
  simp only [List.length_map] at this
  omega
 obtain ⟨H8,es⟩:=gset (k:=A) H7.gi rfl (by omega) x k7
 have l8:(setNx s7.l A x).length=A+1+W:=by
  have:=congrArg List.length (setNx_vars s7.l A x)
  simp only [List.length_map] at this
  omega
 obtain ⟨s9,e9,r9,H9⟩:=pkept [] [] [] [memT (ecN s.v A W ws)] (s:=⟨s7.v,s7.i,setNx s7.l A x,s7.a⟩) H8.gi (A:=A) (K:=rowG (s.v+A+1) W) (E:=rowG (s.v+A+1) W) (R:=rowG (s.v+A+1+W) W) (wr:=g0 (rowG (s.v+A) 1)) (he:=he) (on:=on) (ad:=ad) (da:=da)
  (fun y hy=>(rowG_ok y hy).up (show s.v+A+1+W≤s7.v by omega)) (fun y hy=>(kda y hy).up (show s.v≤s7.v by omega)) (by rw [rowG_len];omega) (k6.up c7) (by rw [rowG_len];show A+1+W≤(setNx s7.l A x).length;omega) (by rw [rowG_len];show s7.v+3*W≤39000;omega) (by rw [rowG_len];show s7.a.length+3*W≤39000;omega) (show (setNx s7.l A x).length≤40000 by omega)
 rw [rowG_len] at H9 r9
 have i9:s9.v≤s7.v+3*W:=H9.hi
 have j9:s9.a.length≤s7.a.length+3*W:=H9.len
 have c9:s7.v≤s9.v:=H9.lo
 obtain ⟨eq,s10,e10,r10,H10,k10⟩:=psame [] [] [] [memT (ecN s.v A W ws)] H9.gi (L:=rowG (s.v+A+1+W) W) (M:=rowG (s.v+A+1) W) (fun y hy=>(rowG_ok y hy).up (by omega)) (fun y hy=>(rowG_ok y hy).up (by omega)) (by rw [rowG_len,rowG_len];omega) (by rw [rowG_len];omega) (by rw [rowG_len];omega)
 rw [rowG_len] at H10
 have i10:=H10.hi;have j10:=H10.len;have c10:=H10.lo
 obtain ⟨z,s11,e11,r11,H11,k11⟩:=pand [] [] [] [memT (ecN s.v A W ws)] H10.gi (kwr.up (by omega)) (ntl_rng k10).1 (by omega) (by omega)
 have i11:=H11.hi;have j11:=H11.len;have c11:=H11.lo
 have hm:∀x:Int,x=((s.v+A+1+W+1:Nat):Int)→(((A:Int),((W:Int),(true,([(x,(rowG s.v A,()))],(ws.map Zt4,()))))):Za1.T)=memT (ecN s.v A W ws):=by rintro _ rfl;rfl
 refine ⟨s4,s5,s6,s7,s9,s10,s11,sm,he,x,eq,z,⟨e1,e2,e3,e4,e5,e6,e7,by rw [es];exact e9,e10,lits_Not_is k10 (by omega),e11⟩,Zar (by rw [List.length_map];omega),⟨r1,r2,r3,r4,by rw [hm _ (half_row (v:=s.v+A+1+W) h3 (by omega))];exact r5,r6,r7,by rw [es];exact r9,r10,r_not k10 (by omega),r11⟩,few_of H11.gi (by omega) (by simp) (by simp) ?_⟩
 intro m hm
 obtain rfl:=List.mem_singleton.1 hm
 refine ⟨by show 1≤1000000;omega,by show ws.length≤1000000;omega,?_,?_⟩
 ·intro r hr
  obtain rfl:=List.mem_singleton.1 hr
  show (rowG s.v A).length≤_
  rw [rowG_len];omega
 ·intro y hy
  obtain ⟨q1,q2⟩:=hws y hy
  omega
end Go.Proofs.YtkcpdpplobhpaaaGreat.V
end
