import Derived.Test.YtkcpdpplobhpaaaGreatKRe
import Derived.Test.YtkcpdpplobhpaaaGreatKRf
import Derived.Test.YtkcpdpplobhpaaaGreatKRd
set_option linter.unusedVariables false
set_option linter.unusedSimpArgs false
set_option linter.unnecessarySimpa false
section
namespace Go.Proofs.YtkcpdpplobhpaaaGreat.V
open Go Go.RowKit
set_option maxRecDepth 1000000
abbrev __gen_maker__data_1_σs:List Sh:=[(.int .i64)]
abbrev __gen_maker__data_1_τs:List Sh:=[]
abbrev ngen_maker__data_1_T:=TL __gen_maker__data_1_σs→Option (TL __gen_maker__data_1_τs)
abbrev ngen_maker__data_1_D:=Kd 176 __gen_maker__data_1_σs __gen_maker__data_1_τs
def ngen_maker__data_1_F (a0:Int):Option (TL __gen_maker__data_1_τs):=
 some ()
def ngen_maker__data_1_G  :ngen_maker__data_1_D:=⟨u1 ngen_maker__data_1_F,pD Tryz.func176 2 k0 e0 1 (sS l0) fun d=>by kernel_rfl⟩
def ngen_maker__data_1_K:ngen_maker__data_1_D:=ngen_maker__data_1_G  
def ngen_maker__data_1_FF:ngen_maker__data_1_T:=ngen_maker__data_1_K.F
abbrev yRg11:List LA:=[.int .i64,.hd 1 (.int .i64),.hd 2 Za0,.hd 3 (.int .i64),.hd 4 (.int .i64),.hd 5 (.int .i64),.hd 6 Za1,.hd 7 Za0]
abbrev yRg0:List (Nat×LO):=[(0,.cells yRg11 161),(1,.arr (.int .i64) 3),(2,.arr Za0 95),(3,.arr (.int .i64) 3),(4,.arr (.int .i64) 3),(5,.arr (.int .i64) 3),(6,.arr Za1 116),(7,.arr Za0 150)]
abbrev yRg1:List (Nat×LO):=[(0,.cells [.int .i64,.hd 1 (.int .i64),.hd 2 Za0,.hd 3 (.int .i64),.hd 4 (.int .i64),.hd 5 (.int .i64),.hd 6 Za1,.hd 8 Za0] 161),(1,.arr (.int .i64) 3),(2,.arr Za0 95),(3,.arr (.int .i64) 3),(4,.arr (.int .i64) 3),(5,.arr (.int .i64) 3),(6,.arr Za1 116),(8,.arr Za0 150)]
abbrev yRg2:List (Nat×LO):=[(0,.cells yRg11 161),(1,.arr (.int .i64) 3),(2,.arr Za0 95),(3,.arr (.int .i64) 3),(4,.arr (.int .i64) 3),(5,.arr (.int .i64) 3),(6,.arr Za1 116),(7,.arr Za0 150),(8,.arr (.int .i64) 3)]
abbrev yRg3:List (Nat×LO):=[(0,.cells [.int .i64,.hd 1 (.int .i64),.hd 2 Za0,.hd 3 (.int .i64),.hd 4 (.int .i64),.hd 5 (.int .i64),.hd 6 Za1,.hd 11 Za0] 161),(1,.arr (.int .i64) 3),(2,.arr Za0 95),(3,.arr (.int .i64) 3),(4,.arr (.int .i64) 3),(5,.arr (.int .i64) 3),(6,.arr Za1 116),(8,.cells [.ptr 0 0] 159),(9,.cells [.int .i64] 3),(10,.cells [.int .i64] 3),(11,.arr Za0 150),(12,.arr (.int .i64) 3)]
abbrev yRg4:List (Nat×LO):=[(0,.cells [.int .i64,.hd 1 (.int .i64),.hd 10 Za0,.hd 3 (.int .i64),.hd 4 (.int .i64),.hd 5 (.int .i64),.hd 6 Za1,.hd 7 Za0] 161),(1,.arr (.int .i64) 3),(3,.arr (.int .i64) 3),(4,.arr (.int .i64) 3),(5,.arr (.int .i64) 3),(6,.arr Za1 116),(7,.arr Za0 150),(8,.cells [.ptr 0 0] 159),(9,.cells [.int .i64] 3),(10,.arr Za0 95),(11,.arr (.int .i64) 3)]
abbrev yRg5:List (Nat×LO):=[(0,.cells [.int .i64,.hd 9 (.int .i64),.hd 2 Za0,.hd 3 (.int .i64),.hd 4 (.int .i64),.hd 5 (.int .i64),.hd 6 Za1,.hd 7 Za0] 161),(2,.arr Za0 95),(3,.arr (.int .i64) 3),(4,.arr (.int .i64) 3),(5,.arr (.int .i64) 3),(6,.arr Za1 116),(7,.arr Za0 150),(8,.cells [.ptr 0 0] 159),(9,.arr (.int .i64) 3),(10,.arr (.int .i64) 3)]
abbrev yRg6:List (Nat×LO):=[(0,.cells [.int .i64,.hd 1 (.int .i64),.hd 2 Za0,.hd 3 (.int .i64),.hd 4 (.int .i64),.hd 5 (.int .i64),.hd 6 Za1,.hd 9 Za0] 161),(1,.arr (.int .i64) 3),(2,.arr Za0 95),(3,.arr (.int .i64) 3),(4,.arr (.int .i64) 3),(5,.arr (.int .i64) 3),(6,.arr Za1 116),(8,.arr (.int .i64) 3),(9,.arr Za0 150)]
abbrev yRg14:List LA:=[.int .i64,.hd 2 (.int .i64),.hd 3 Za0,.hd 4 (.int .i64),.hd 5 (.int .i64),.hd 6 (.int .i64),.hd 7 Za1,.hd 8 Za0]
abbrev yRg7:List (Nat×LO):=[(0,.cells [.int .i64,.nils,.nils,.nils,.nils,.nils,.nils,.nils] 27),(1,.cells yRg14 161),(2,.arr (.int .i64) 3),(3,.arr Za0 95),(4,.arr (.int .i64) 3),(5,.arr (.int .i64) 3),(6,.arr (.int .i64) 3),(7,.arr Za1 116),(8,.arr Za0 150),(9,.arr (.int .i64) 3)]
abbrev yRg8:List (Nat×LO):=[(0,.cells [.int .i64,.hd 1 (.int .i64),.hd 2 Za0,.hd 3 (.int .i64),.hd 4 (.int .i64),.hd 5 (.int .i64),.hd 6 Za1,.hd 8 Za0] 161),(1,.arr (.int .i64) 3),(2,.arr Za0 95),(3,.arr (.int .i64) 3),(4,.arr (.int .i64) 3),(5,.arr (.int .i64) 3),(6,.arr Za1 116),(8,.arr Za0 150),(9,.arr (.int .i64) 3)]
abbrev yRg9:Lay:={ T:=[(0,.ptr 0 0),(1,.int .i64),(2,.int .i64)],h:=yRg0,nx:=8 }
abbrev yRg10:List (Nat×LO):=[(0,.cells [.int .i64,.hd 8 (.int .i64),.hd 2 Za0,.hd 3 (.int .i64),.hd 4 (.int .i64),.hd 5 (.int .i64),.hd 6 Za1,.hd 7 Za0] 161),(2,.arr Za0 95),(3,.arr (.int .i64) 3),(4,.arr (.int .i64) 3),(5,.arr (.int .i64) 3),(6,.arr Za1 116),(7,.arr Za0 150),(8,.arr (.int .i64) 3)]
abbrev yRg12:Lay:={ T:=[(0,.int .i64)],h:=yRg1,nx:=9 }
abbrev yRg13:List LA:=[.int .i64,.hd 1 (.int .i64),.hd 8 Za0,.hd 3 (.int .i64),.hd 4 (.int .i64),.hd 5 (.int .i64),.hd 6 Za1,.hd 7 Za0]
abbrev ngen_maker__freshi_lay:Lay:={ T:=[(0,.ptr 0 0),(1,.int .i64),(2,.func 175 [] [.ptr 8 0])],h:=[(0,.cells yRg11 161),(1,.arr (.int .i64) 3),(2,.arr Za0 95),(3,.arr (.int .i64) 3),(4,.arr (.int .i64) 3),(5,.arr (.int .i64) 3),(6,.arr Za1 116),(7,.arr Za0 150),(8,.cells [.ptr 0 0] 159)],nx:=9 }
abbrev ngen_maker__freshi_outs:List (Ev.Ex×Lay):=[(.ret,{ T:=[(0,.hd 10 (.int .i64))],h:=yRg5,nx:=11 })]
abbrev ngen_maker__freshi_T:=TL ngen_maker__freshi_lay.σs→Option (Out ngen_maker__freshi_outs)
abbrev ngen_maker__freshi_D:=Kb 171 3 ngen_maker__freshi_lay 1 ngen_maker__freshi_outs
abbrev ngen_maker__freshi_lay2:Lay:={ T:=[(0,.ptr 0 0),(2,.func 175 [] [.ptr 8 0]),(6,.hd 10 (.int .i64)),(7,.int .i64),(8,.int .i64)],h:=yRg5,nx:=11 }
abbrev ngen_maker__freshi_outs2:List (Ev.Ex×Lay):=[((.exit 0),{ T:=[(6,.hd 10 (.int .i64))],h:=yRg5,nx:=11 })]
abbrev ngen_maker__freshi_T2:=TL ngen_maker__freshi_lay2.σs→Option (Out ngen_maker__freshi_outs2)
abbrev ngen_maker__freshi_D2:=Ld 9 37 (Zb5 [0] (Zaa Tryz.f171)) ngen_maker__freshi_lay2 ngen_maker__freshi_outs2
def ngen_maker__freshi_B2 (F0:lits_Make_T) (t7 t8 b0_0:Int) (b2:List (Sh.T Za0)) (b3 b4 b5:List Int) (b6:List (Sh.T Za1)) (b7:List (Sh.T Za0)) (b9 b10:List Int):Option (TL ngen_maker__freshi_lay2.σs⊕Out ngen_maker__freshi_outs2):=
 br (iL t8 t7)
 (
  chk (room 8 (List.length (ap b9 ((IntKind.wrap .i64 (b0_0+(1:Int))) :: []))))<|
  bnd (F0 ((IntKind.wrap .i64 (b0_0+(1:Int))),(false,()))) fun x0=>
  chk (room 8 (List.length (ap b10 (x0.1 :: []))))<|
  some (.inl (t7,((IntKind.wrap .i64 (t8+(1:Int))),((IntKind.wrap .i64 (b0_0+(1:Int))),(b2,(b3,(b4,(b5,(b6,(b7,((ap b9 ((IntKind.wrap .i64 (b0_0+(1:Int))) :: [])),((ap b10 (x0.1 :: [])),())))))))))))))
 (
  some (.inr (b0_0,(b2,(b3,(b4,(b5,(b6,(b7,(b9,(b10,())))))))))))
def ngen_maker__freshi_M2 (c0:lits_Make_D) :ngen_maker__freshi_D2:=mkL (u11 (ngen_maker__freshi_B2 c0.F)) (pL (kD c0 k0) (eC Tryz.func175 (by kernel_rfl) e0) 5 l0 fun d=>by kernel_rfl)
def ngen_maker__freshi_N2:ngen_maker__freshi_D2:=ngen_maker__freshi_M2 lits_Make_K 
def ngen_maker__freshi_L2:ngen_maker__freshi_T2:=lpD (u11 (ngen_maker__freshi_B2 lits_Make_FF)) NN
def ngen_maker__freshi_F (F0:lits_Make_T) (L2:ngen_maker__freshi_T2) (t1 b0_0:Int) (b1:List Int) (b2:List (Sh.T Za0)) (b3 b4 b5:List Int) (b6:List (Sh.T Za1)) (b7:List (Sh.T Za0)):Option (Out ngen_maker__freshi_outs):=
 bnd (L2 (t1,((0:Int),(b0_0,(b2,(b3,(b4,(b5,(b6,(b7,(b1,([],())))))))))))) fun x0=>
 some x0
def ngen_maker__freshi_G (c0:lits_Make_D) (M2:ngen_maker__freshi_D2):ngen_maker__freshi_D:=⟨u9 (ngen_maker__freshi_F c0.F M2.L),pB Tryz.func171 37 (kD c0 k0) (eC Tryz.func175 (by kernel_rfl) e0) 5 (sS (sC M2 l0)) fun d=>by kernel_rfl⟩
def ngen_maker__freshi_K:ngen_maker__freshi_D:=ngen_maker__freshi_G lits_Make_K ngen_maker__freshi_N2
def ngen_maker__freshi_FF:ngen_maker__freshi_T:=ngen_maker__freshi_K.F
abbrev ngen_maker__freshl_lay:Lay:={ T:=[(0,.ptr 0 0),(1,.int .i64),(2,.func 172 [] [.ptr 8 0,.ptr 9 0])],h:=[(0,.cells yRg11 161),(1,.arr (.int .i64) 3),(2,.arr Za0 95),(3,.arr (.int .i64) 3),(4,.arr (.int .i64) 3),(5,.arr (.int .i64) 3),(6,.arr Za1 116),(7,.arr Za0 150),(8,.cells [.ptr 0 0] 159),(9,.cells [.int .i64] 3)],nx:=10 }
abbrev ngen_maker__freshl_outs:List (Ev.Ex×Lay):=[(.ret,{ T:=[(0,.hd 11 (.int .i64))],h:=yRg4,nx:=12 })]
abbrev ngen_maker__freshl_T:=TL ngen_maker__freshl_lay.σs→Option (Out ngen_maker__freshl_outs)
abbrev ngen_maker__freshl_D:=Kb 171 3 ngen_maker__freshl_lay 1 ngen_maker__freshl_outs
abbrev ngen_maker__freshl_lay2:Lay:={ T:=[(0,.ptr 0 0),(2,.func 172 [] [.ptr 8 0,.ptr 9 0]),(6,.hd 11 (.int .i64)),(7,.int .i64),(8,.int .i64)],h:=yRg4,nx:=12 }
abbrev ngen_maker__freshl_outs2:List (Ev.Ex×Lay):=[((.exit 0),{ T:=[(6,.hd 11 (.int .i64))],h:=yRg4,nx:=12 })]
abbrev ngen_maker__freshl_T2:=TL ngen_maker__freshl_lay2.σs→Option (Out ngen_maker__freshl_outs2)
abbrev ngen_maker__freshl_D2:=Ld 10 37 (Zb5 [0] (Zaa Tryz.f171)) ngen_maker__freshl_lay2 ngen_maker__freshl_outs2
def ngen_maker__freshl_B2 (F0:lits_Make_T) (t7 t8 b0_0:Int) (b1 b3 b4 b5:List Int) (b6:List (Sh.T Za1)) (b7:List (Sh.T Za0)) (b9_0:Int) (b10:List (Sh.T Za0)) (b11:List Int):Option (TL ngen_maker__freshl_lay2.σs⊕Out ngen_maker__freshl_outs2):=
 br (iL t8 t7)
 (
  bnd (F0 ((IntKind.wrap .i64 (b0_0+(1:Int))),(false,()))) fun x0=>
  chk (room 24 (List.length (ap b10 (((IntKind.wrap .i64 (b0_0+(1:Int))),(x0.1,(b9_0,()))) :: []))))<|
  bnd (F0 ((IntKind.wrap .i64 (b0_0+(1:Int))),(false,()))) fun x1=>
  chk (room 8 (List.length (ap b11 (x1.1 :: []))))<|
  some (.inl (t7,((IntKind.wrap .i64 (t8+(1:Int))),((IntKind.wrap .i64 (b0_0+(1:Int))),(b1,(b3,(b4,(b5,(b6,(b7,(b9_0,((ap b10 (((IntKind.wrap .i64 (b0_0+(1:Int))),(x0.1,(b9_0,()))) :: [])),((ap b11 (x1.1 :: [])),()))))))))))))))
 (
  some (.inr (b0_0,(b1,(b3,(b4,(b5,(b6,(b7,(b9_0,(b10,(b11,()))))))))))))
def ngen_maker__freshl_M2 (c0:lits_Make_D) :ngen_maker__freshl_D2:=mkL (u12 (ngen_maker__freshl_B2 c0.F)) (pL (kD c0 k0) (eC Tryz.func172 (by kernel_rfl) e0) 5 l0 fun d=>by kernel_rfl)
def ngen_maker__freshl_N2:ngen_maker__freshl_D2:=ngen_maker__freshl_M2 lits_Make_K 
def ngen_maker__freshl_L2:ngen_maker__freshl_T2:=lpD (u12 (ngen_maker__freshl_B2 lits_Make_FF)) NN
def ngen_maker__freshl_F (F0:lits_Make_T) (L2:ngen_maker__freshl_T2) (t1 b0_0:Int) (b1:List Int) (b2:List (Sh.T Za0)) (b3 b4 b5:List Int) (b6:List (Sh.T Za1)) (b7:List (Sh.T Za0)) (b9_0:Int):Option (Out ngen_maker__freshl_outs):=
 bnd (L2 (t1,((0:Int),(b0_0,(b1,(b3,(b4,(b5,(b6,(b7,(b9_0,(b2,([],()))))))))))))) fun x0=>
 some x0
def ngen_maker__freshl_G (c0:lits_Make_D) (M2:ngen_maker__freshl_D2):ngen_maker__freshl_D:=⟨u10 (ngen_maker__freshl_F c0.F M2.L),pB Tryz.func171 37 (kD c0 k0) (eC Tryz.func172 (by kernel_rfl) e0) 5 (sS (sC M2 l0)) fun d=>by kernel_rfl⟩
def ngen_maker__freshl_K:ngen_maker__freshl_D:=ngen_maker__freshl_G lits_Make_K ngen_maker__freshl_N2
def ngen_maker__freshl_FF:ngen_maker__freshl_T:=ngen_maker__freshl_K.F
abbrev ngen_maker__freshd_lay:Lay:={ T:=[(0,.ptr 0 0),(1,.int .i64),(2,.func 176 [] [])],h:=yRg0,nx:=8 }
abbrev ngen_maker__freshd_outs:List (Ev.Ex×Lay):=[(.ret,{ T:=[(0,.hd 8 (.int .i64))],h:=yRg2,nx:=9 })]
abbrev ngen_maker__freshd_T:=TL ngen_maker__freshd_lay.σs→Option (Out ngen_maker__freshd_outs)
abbrev ngen_maker__freshd_D:=Kb 171 3 ngen_maker__freshd_lay 1 ngen_maker__freshd_outs
abbrev ngen_maker__freshd_lay2:Lay:={ T:=[(0,.ptr 0 0),(2,.func 176 [] []),(6,.hd 8 (.int .i64)),(7,.int .i64),(8,.int .i64)],h:=yRg2,nx:=9 }
abbrev ngen_maker__freshd_outs2:List (Ev.Ex×Lay):=[((.exit 0),{ T:=[(6,.hd 8 (.int .i64))],h:=yRg2,nx:=9 })]
abbrev ngen_maker__freshd_T2:=TL ngen_maker__freshd_lay2.σs→Option (Out ngen_maker__freshd_outs2)
abbrev ngen_maker__freshd_D2:=Ld 8 37 (Zb5 [0] (Zaa Tryz.f171)) ngen_maker__freshd_lay2 ngen_maker__freshd_outs2
def ngen_maker__freshd_B2 (F0:ngen_maker__data_1_T) (F1:lits_Make_T) (t7 t8 b0_0:Int) (b1:List Int) (b2:List (Sh.T Za0)) (b3 b4 b5:List Int) (b6:List (Sh.T Za1)) (b7:List (Sh.T Za0)) (b8:List Int):Option (TL ngen_maker__freshd_lay2.σs⊕Out ngen_maker__freshd_outs2):=
 br (iL t8 t7)
 (
  bnd (F0 ((IntKind.wrap .i64 (b0_0+(1:Int))),())) fun x0=>
  bnd (F1 ((IntKind.wrap .i64 (b0_0+(1:Int))),(false,()))) fun x1=>
  chk (room 8 (List.length (ap b8 (x1.1 :: []))))<|
  some (.inl (t7,((IntKind.wrap .i64 (t8+(1:Int))),((IntKind.wrap .i64 (b0_0+(1:Int))),(b1,(b2,(b3,(b4,(b5,(b6,(b7,((ap b8 (x1.1 :: [])),())))))))))))))
 (
  some (.inr (b0_0,(b1,(b2,(b3,(b4,(b5,(b6,(b7,(b8,())))))))))))
def ngen_maker__freshd_M2 (c0:ngen_maker__data_1_D) (c1:lits_Make_D) :ngen_maker__freshd_D2:=mkL (u11 (ngen_maker__freshd_B2 c0.F c1.F)) (pL (kD c0 (kD c1 k0)) e0 1 l0 fun d=>by kernel_rfl)
def ngen_maker__freshd_N2:ngen_maker__freshd_D2:=ngen_maker__freshd_M2 ngen_maker__data_1_K lits_Make_K 
def ngen_maker__freshd_L2:ngen_maker__freshd_T2:=lpD (u11 (ngen_maker__freshd_B2 ngen_maker__data_1_FF lits_Make_FF)) NN
def ngen_maker__freshd_F (F0:ngen_maker__data_1_T) (F1:lits_Make_T) (L2:ngen_maker__freshd_T2) (t1 b0_0:Int) (b1:List Int) (b2:List (Sh.T Za0)) (b3 b4 b5:List Int) (b6:List (Sh.T Za1)) (b7:List (Sh.T Za0)):Option (Out ngen_maker__freshd_outs):=
 bnd (L2 (t1,((0:Int),(b0_0,(b1,(b2,(b3,(b4,(b5,(b6,(b7,([],())))))))))))) fun x0=>
 some x0
def ngen_maker__freshd_G (c0:ngen_maker__data_1_D) (c1:lits_Make_D) (M2:ngen_maker__freshd_D2):ngen_maker__freshd_D:=⟨u9 (ngen_maker__freshd_F c0.F c1.F M2.L),pB Tryz.func171 37 (kD c0 (kD c1 k0)) e0 1 (sS (sC M2 l0)) fun d=>by kernel_rfl⟩
def ngen_maker__freshd_K:ngen_maker__freshd_D:=ngen_maker__freshd_G ngen_maker__data_1_K lits_Make_K ngen_maker__freshd_N2
def ngen_maker__freshd_FF:ngen_maker__freshd_T:=ngen_maker__freshd_K.F
abbrev ngen_maker__fresha_lay:Lay:={ T:=[(0,.ptr 0 0),(1,.int .i64),(2,.func 177 [] [.ptr 8 0,.ptr 9 0,.ptr 10 0])],h:=[(0,.cells yRg11 161),(1,.arr (.int .i64) 3),(2,.arr Za0 95),(3,.arr (.int .i64) 3),(4,.arr (.int .i64) 3),(5,.arr (.int .i64) 3),(6,.arr Za1 116),(7,.arr Za0 150),(8,.cells [.ptr 0 0] 159),(9,.cells [.int .i64] 3),(10,.cells [.int .i64] 3)],nx:=11 }
abbrev ngen_maker__fresha_outs:List (Ev.Ex×Lay):=[(.ret,{ T:=[(0,.hd 12 (.int .i64))],h:=yRg3,nx:=13 })]
abbrev ngen_maker__fresha_T:=TL ngen_maker__fresha_lay.σs→Option (Out ngen_maker__fresha_outs)
abbrev ngen_maker__fresha_D:=Kb 171 3 ngen_maker__fresha_lay 1 ngen_maker__fresha_outs
abbrev ngen_maker__fresha_lay2:Lay:={ T:=[(0,.ptr 0 0),(2,.func 177 [] [.ptr 8 0,.ptr 9 0,.ptr 10 0]),(6,.hd 12 (.int .i64)),(7,.int .i64),(8,.int .i64)],h:=yRg3,nx:=13 }
abbrev ngen_maker__fresha_outs2:List (Ev.Ex×Lay):=[((.exit 0),{ T:=[(6,.hd 12 (.int .i64))],h:=yRg3,nx:=13 })]
abbrev ngen_maker__fresha_T2:=TL ngen_maker__fresha_lay2.σs→Option (Out ngen_maker__fresha_outs2)
abbrev ngen_maker__fresha_D2:=Ld 11 37 (Zb5 [0] (Zaa Tryz.f171)) ngen_maker__fresha_lay2 ngen_maker__fresha_outs2
def ngen_maker__fresha_B2 (F0:lits_Make_T) (t7 t8 b0_0:Int) (b1:List Int) (b2:List (Sh.T Za0)) (b3 b4 b5:List Int) (b6:List (Sh.T Za1)) (b9_0 b10_0:Int) (b11:List (Sh.T Za0)) (b12:List Int):Option (TL ngen_maker__fresha_lay2.σs⊕Out ngen_maker__fresha_outs2):=
 br (iL t8 t7)
 (
  chk (room 24 (List.length (ap b11 (((IntKind.wrap .i64 (b0_0+(1:Int))),(b9_0,(b10_0,()))) :: []))))<|
  bnd (F0 ((IntKind.wrap .i64 (b0_0+(1:Int))),(false,()))) fun x0=>
  chk (room 8 (List.length (ap b12 (x0.1 :: []))))<|
  some (.inl (t7,((IntKind.wrap .i64 (t8+(1:Int))),((IntKind.wrap .i64 (b0_0+(1:Int))),(b1,(b2,(b3,(b4,(b5,(b6,(b9_0,(b10_0,((ap b11 (((IntKind.wrap .i64 (b0_0+(1:Int))),(b9_0,(b10_0,()))) :: [])),((ap b12 (x0.1 :: [])),())))))))))))))))
 (
  some (.inr (b0_0,(b1,(b2,(b3,(b4,(b5,(b6,(b9_0,(b10_0,(b11,(b12,())))))))))))))
def ngen_maker__fresha_M2 (c0:lits_Make_D) :ngen_maker__fresha_D2:=mkL (u13 (ngen_maker__fresha_B2 c0.F)) (pL (kD c0 k0) (eC Tryz.func177 (by kernel_rfl) e0) 5 l0 fun d=>by kernel_rfl)
def ngen_maker__fresha_N2:ngen_maker__fresha_D2:=ngen_maker__fresha_M2 lits_Make_K 
def ngen_maker__fresha_L2:ngen_maker__fresha_T2:=lpD (u13 (ngen_maker__fresha_B2 lits_Make_FF)) NN
def ngen_maker__fresha_F (F0:lits_Make_T) (L2:ngen_maker__fresha_T2) (t1 b0_0:Int) (b1:List Int) (b2:List (Sh.T Za0)) (b3 b4 b5:List Int) (b6:List (Sh.T Za1)) (b7:List (Sh.T Za0)) (b9_0 b10_0:Int):Option (Out ngen_maker__fresha_outs):=
 bnd (L2 (t1,((0:Int),(b0_0,(b1,(b2,(b3,(b4,(b5,(b6,(b9_0,(b10_0,(b7,([],())))))))))))))) fun x0=>
 some x0
def ngen_maker__fresha_G (c0:lits_Make_D) (M2:ngen_maker__fresha_D2):ngen_maker__fresha_D:=⟨u11 (ngen_maker__fresha_F c0.F M2.L),pB Tryz.func171 37 (kD c0 k0) (eC Tryz.func177 (by kernel_rfl) e0) 5 (sS (sC M2 l0)) fun d=>by kernel_rfl⟩
def ngen_maker__fresha_K:ngen_maker__fresha_D:=ngen_maker__fresha_G lits_Make_K ngen_maker__fresha_N2
def ngen_maker__fresha_FF:ngen_maker__fresha_T:=ngen_maker__fresha_K.F
abbrev ngen_maker__inputs_lay:Lay:={ T:=[(0,.ptr 0 0),(1,.int .i64)],h:=yRg0,nx:=8 }
abbrev ngen_maker__inputs_outs:List (Ev.Ex×Lay):=[(.ret,{ T:=[(0,.fz (.int .i64))],h:=yRg10,nx:=9 })]
abbrev ngen_maker__inputs_T:=TL ngen_maker__inputs_lay.σs→Option (Out ngen_maker__inputs_outs)
abbrev ngen_maker__inputs_D:=Kb 99 2 ngen_maker__inputs_lay 1 ngen_maker__inputs_outs
def ngen_maker__inputs_F (F0:ngen_maker__fresha_T) (F1:ngen_maker__freshd_T) (F2:ngen_maker__freshl_T) (F3:ngen_maker__freshi_T) (t1 b0_0:Int) (b1:List Int) (b2:List (Sh.T Za0)) (b3 b4 b5:List Int) (b6:List (Sh.T Za1)) (b7:List (Sh.T Za0)):Option (Out ngen_maker__inputs_outs):=
 bnd (F3 (t1,(b0_0,(b1,(b2,(b3,(b4,(b5,(b6,(b7,())))))))))) fun x0=>
 some (x0.2.2.2.2.2.2.2.2.1,(x0.1,(x0.2.1,(x0.2.2.1,(x0.2.2.2.1,(x0.2.2.2.2.1,(x0.2.2.2.2.2.1,(x0.2.2.2.2.2.2.1,(x0.2.2.2.2.2.2.2.1,())))))))))
def ngen_maker__inputs_G (c0:ngen_maker__fresha_D) (c1:ngen_maker__freshd_D) (c2:ngen_maker__freshl_D) (c3:ngen_maker__freshi_D) :ngen_maker__inputs_D:=⟨u9 (ngen_maker__inputs_F c0.F c1.F c2.F c3.F),pB Tryz.func99 9 (kB c0 (kB c1 (kB c2 (kB c3 k0)))) (eC Tryz.func175 (by kernel_rfl) e0) 5 (sS l0) fun d=>by kernel_rfl⟩
def ngen_maker__inputs_K:ngen_maker__inputs_D:=ngen_maker__inputs_G ngen_maker__fresha_K ngen_maker__freshd_K ngen_maker__freshl_K ngen_maker__freshi_K 
def ngen_maker__inputs_FF:ngen_maker__inputs_T:=ngen_maker__inputs_K.F
abbrev ngen_maker__latches_lay:Lay:=yRg9
abbrev ngen_maker__latches_outs:List (Ev.Ex×Lay):=[(.ret,{ T:=[(0,.hd 9 (.int .i64))],h:=[(0,.cells yRg13 161),(1,.arr (.int .i64) 3),(3,.arr (.int .i64) 3),(4,.arr (.int .i64) 3),(5,.arr (.int .i64) 3),(6,.arr Za1 116),(7,.arr Za0 150),(8,.arr Za0 95),(9,.arr (.int .i64) 3)],nx:=10 })]
abbrev ngen_maker__latches_T:=TL ngen_maker__latches_lay.σs→Option (Out ngen_maker__latches_outs)
abbrev ngen_maker__latches_D:=Kb 89 3 ngen_maker__latches_lay 1 ngen_maker__latches_outs
def ngen_maker__latches_F (F0:lits_Make_T) (F1:ngen_maker__fresha_T) (F2:ngen_maker__freshd_T) (F3:ngen_maker__freshl_T) (F4:ngen_maker__freshi_T) (t1 t2 b0_0:Int) (b1:List Int) (b2:List (Sh.T Za0)) (b3 b4 b5:List Int) (b6:List (Sh.T Za1)) (b7:List (Sh.T Za0)):Option (Out ngen_maker__latches_outs):=
 bnd (F3 (t1,(b0_0,(b1,(b2,(b3,(b4,(b5,(b6,(b7,(t2,()))))))))))) fun x0=>
 some (x0.1,(x0.2.1,(x0.2.2.1,(x0.2.2.2.1,(x0.2.2.2.2.1,(x0.2.2.2.2.2.1,(x0.2.2.2.2.2.2.1,x0.2.2.2.2.2.2.2.2)))))))
def ngen_maker__latches_G (c0:lits_Make_D) (c1:ngen_maker__fresha_D) (c2:ngen_maker__freshd_D) (c3:ngen_maker__freshl_D) (c4:ngen_maker__freshi_D) :ngen_maker__latches_D:=⟨u10 (ngen_maker__latches_F c0.F c1.F c2.F c3.F c4.F),pB Tryz.func89 11 (kD c0 (kB c1 (kB c2 (kB c3 (kB c4 k0))))) (eC Tryz.func172 (by kernel_rfl) e0) 5 (sS l0) fun d=>by kernel_rfl⟩
def ngen_maker__latches_K:ngen_maker__latches_D:=ngen_maker__latches_G lits_Make_K ngen_maker__fresha_K ngen_maker__freshd_K ngen_maker__freshl_K ngen_maker__freshi_K 
def ngen_maker__latches_FF:ngen_maker__latches_T:=ngen_maker__latches_K.F
abbrev ngen_maker__data_lay:Lay:={ T:=[(0,.ptr 0 0),(1,.int .i64)],h:=yRg0,nx:=8 }
abbrev ngen_maker__data_outs:List (Ev.Ex×Lay):=[(.ret,{ T:=[(0,.fz (.int .i64))],h:=yRg0,nx:=8 })]
abbrev ngen_maker__data_T:=TL ngen_maker__data_lay.σs→Option (Out ngen_maker__data_outs)
abbrev ngen_maker__data_D:=Kb 100 2 ngen_maker__data_lay 1 ngen_maker__data_outs
def ngen_maker__data_F (F0:ngen_maker__fresha_T) (F1:ngen_maker__freshd_T) (F2:ngen_maker__freshl_T) (F3:ngen_maker__freshi_T) (t1 b0_0:Int) (b1:List Int) (b2:List (Sh.T Za0)) (b3 b4 b5:List Int) (b6:List (Sh.T Za1)) (b7:List (Sh.T Za0)):Option (Out ngen_maker__data_outs):=
 bnd (F1 (t1,(b0_0,(b1,(b2,(b3,(b4,(b5,(b6,(b7,())))))))))) fun x0=>
 some (x0.2.2.2.2.2.2.2.2.1,(x0.1,(x0.2.1,(x0.2.2.1,(x0.2.2.2.1,(x0.2.2.2.2.1,(x0.2.2.2.2.2.1,(x0.2.2.2.2.2.2.1,(x0.2.2.2.2.2.2.2.1,())))))))))
def ngen_maker__data_G (c0:ngen_maker__fresha_D) (c1:ngen_maker__freshd_D) (c2:ngen_maker__freshl_D) (c3:ngen_maker__freshi_D) :ngen_maker__data_D:=⟨u9 (ngen_maker__data_F c0.F c1.F c2.F c3.F),pB Tryz.func100 8 (kB c0 (kB c1 (kB c2 (kB c3 k0)))) e0 1 (sS l0) fun d=>by kernel_rfl⟩
def ngen_maker__data_K:ngen_maker__data_D:=ngen_maker__data_G ngen_maker__fresha_K ngen_maker__freshd_K ngen_maker__freshl_K ngen_maker__freshi_K 
def ngen_maker__data_FF:ngen_maker__data_T:=ngen_maker__data_K.F
abbrev ngen_maker__and_lay:Lay:=yRg9
abbrev ngen_maker__and_outs:List (Ev.Ex×Lay):=[(.ret,yRg12)]
abbrev ngen_maker__and_T:=TL ngen_maker__and_lay.σs→Option (Out ngen_maker__and_outs)
abbrev ngen_maker__and_D:=Kb 102 3 ngen_maker__and_lay 1 ngen_maker__and_outs
def ngen_maker__and_F (F0:ngen_maker__fresha_T) (F1:ngen_maker__freshd_T) (F2:ngen_maker__freshl_T) (F3:ngen_maker__freshi_T) (t1 t2 b0_0:Int) (b1:List Int) (b2:List (Sh.T Za0)) (b3 b4 b5:List Int) (b6:List (Sh.T Za1)) (b7:List (Sh.T Za0)):Option (Out ngen_maker__and_outs):=
 bnd (F0 ((1:Int),(b0_0,(b1,(b2,(b3,(b4,(b5,(b6,(b7,(t1,(t2,())))))))))))) fun x0=>
 chk (inb (0:Int) (List.length x0.2.2.2.2.2.2.2.2.2.2.1))<|
 some ((gt (.int .i64) x0.2.2.2.2.2.2.2.2.2.2.1 (0:Int)),(x0.1,(x0.2.1,(x0.2.2.1,(x0.2.2.2.1,(x0.2.2.2.2.1,(x0.2.2.2.2.2.1,(x0.2.2.2.2.2.2.1,(x0.2.2.2.2.2.2.2.2.2.1,())))))))))
def ngen_maker__and_G (c0:ngen_maker__fresha_D) (c1:ngen_maker__freshd_D) (c2:ngen_maker__freshl_D) (c3:ngen_maker__freshi_D) :ngen_maker__and_D:=⟨u10 (ngen_maker__and_F c0.F c1.F c2.F c3.F),pB Tryz.func102 12 (kB c0 (kB c1 (kB c2 (kB c3 k0)))) (eC Tryz.func177 (by kernel_rfl) e0) 5 (sS l0) fun d=>by kernel_rfl⟩
def ngen_maker__and_K:ngen_maker__and_D:=ngen_maker__and_G ngen_maker__fresha_K ngen_maker__freshd_K ngen_maker__freshl_K ngen_maker__freshi_K 
def ngen_maker__and_FF:ngen_maker__and_T:=ngen_maker__and_K.F
abbrev ngen_maker__or_lay:Lay:=yRg9
abbrev ngen_maker__or_outs:List (Ev.Ex×Lay):=[(.ret,yRg12)]
abbrev ngen_maker__or_T:=TL ngen_maker__or_lay.σs→Option (Out ngen_maker__or_outs)
abbrev ngen_maker__or_D:=Kb 156 3 ngen_maker__or_lay 1 ngen_maker__or_outs
def ngen_maker__or_F (F0:lits_Not_T) (F1:ngen_maker__and_T) (t1 t2 b0_0:Int) (b1:List Int) (b2:List (Sh.T Za0)) (b3 b4 b5:List Int) (b6:List (Sh.T Za1)) (b7:List (Sh.T Za0)):Option (Out ngen_maker__or_outs):=
 bnd (F0 (t1,())) fun x0=>
 bnd (F0 (t2,())) fun x1=>
 bnd (F1 (x0.1,(x1.1,(b0_0,(b1,(b2,(b3,(b4,(b5,(b6,(b7,()))))))))))) fun x2=>
 bnd (F0 (x2.1,())) fun x3=>
 some (x3.1,x2.2)
def ngen_maker__or_G (c0:lits_Not_D) (c1:ngen_maker__and_D) :ngen_maker__or_D:=⟨u10 (ngen_maker__or_F c0.F c1.F),pB Tryz.func156 14 (kD c0 (kB c1 k0)) e0 1 (sS l0) fun d=>by kernel_rfl⟩
def ngen_maker__or_K:ngen_maker__or_D:=ngen_maker__or_G lits_Not_K ngen_maker__and_K 
def ngen_maker__or_FF:ngen_maker__or_T:=ngen_maker__or_K.F
abbrev ngen_maker__all_lay:Lay:={ T:=[(0,.ptr 0 0),(1,.fz (.int .i64))],h:=yRg0,nx:=8 }
abbrev ngen_maker__all_outs:List (Ev.Ex×Lay):=[(.ret,yRg12)]
abbrev ngen_maker__all_T:=TL ngen_maker__all_lay.σs→Option (Out ngen_maker__all_outs)
abbrev ngen_maker__all_D:=Kb 92 2 ngen_maker__all_lay 1 ngen_maker__all_outs
abbrev ngen_maker__all_lay4:Lay:={ T:=[(5,.int .i64),(6,.func 102 [.ptr 0 0] []),(11,.fz (.int .i64)),(12,.int .i64),(13,.int .i64)],h:=yRg1,nx:=9 }
abbrev ngen_maker__all_outs4:List (Ev.Ex×Lay):=[((.exit 0),{ T:=[(5,.int .i64)],h:=yRg1,nx:=9 })]
abbrev ngen_maker__all_T4:=TL ngen_maker__all_lay4.σs→Option (Out ngen_maker__all_outs4)
abbrev ngen_maker__all_D4:=Ld 8 23 (Zb5 [0] (Zaa Tryz.f92)) ngen_maker__all_lay4 ngen_maker__all_outs4
def ngen_maker__all_B4 (F0:ngen_maker__and_T) (t5:Int) (t11:List Int) (t12 t13 b0_0:Int) (b1:List Int) (b2:List (Sh.T Za0)) (b3 b4 b5:List Int) (b6:List (Sh.T Za1)) (b8:List (Sh.T Za0)):Option (TL ngen_maker__all_lay4.σs⊕Out ngen_maker__all_outs4):=
 br (iL t13 t12)
 (
  chk (inb t13 (List.length t11))<|
  bnd (F0 (t5,((gt (.int .i64) t11 t13),(b0_0,(b1,(b2,(b3,(b4,(b5,(b6,(b8,()))))))))))) fun x0=>
  some (.inl (x0.1,(t11,(t12,((IntKind.wrap .i64 (t13+(1:Int))),x0.2))))))
 (
  some (.inr (t5,(b0_0,(b1,(b2,(b3,(b4,(b5,(b6,(b8,())))))))))))
def ngen_maker__all_M4 (c0:ngen_maker__and_D) :ngen_maker__all_D4:=mkL (u12 (ngen_maker__all_B4 c0.F)) (pL (kB c0 k0) e0 1 l0 fun d=>by kernel_rfl)
def ngen_maker__all_N4:ngen_maker__all_D4:=ngen_maker__all_M4 ngen_maker__and_K 
def ngen_maker__all_L4:ngen_maker__all_T4:=lpD (u12 (ngen_maker__all_B4 ngen_maker__and_FF)) NN
def ngen_maker__all_F (F0:ngen_maker__and_T) (L4:ngen_maker__all_T4) (t1:List Int) (b0_0:Int) (b1:List Int) (b2:List (Sh.T Za0)) (b3 b4 b5:List Int) (b6:List (Sh.T Za1)) (b7:List (Sh.T Za0)):Option (Out ngen_maker__all_outs):=
 bnd (L4 ((1:Int),(t1,((Int.ofNat (List.length t1)),((0:Int),(b0_0,(b1,(b2,(b3,(b4,(b5,(b6,(b7,()))))))))))))) fun x0=>
 some x0
def ngen_maker__all_G (c0:ngen_maker__and_D) (M4:ngen_maker__all_D4):ngen_maker__all_D:=⟨u9 (ngen_maker__all_F c0.F M4.L),pB Tryz.func92 23 (kB c0 k0) e0 1 (sS (sC M4 l0)) fun d=>by kernel_rfl⟩
def ngen_maker__all_K:ngen_maker__all_D:=ngen_maker__all_G ngen_maker__and_K ngen_maker__all_N4
def ngen_maker__all_FF:ngen_maker__all_T:=ngen_maker__all_K.F
abbrev ngen_maker__choose_lay:Lay:={ T:=[(0,.ptr 0 0),(1,.int .i64),(2,.int .i64),(3,.int .i64)],h:=yRg0,nx:=8 }
abbrev ngen_maker__choose_outs:List (Ev.Ex×Lay):=[(.ret,yRg12)]
abbrev ngen_maker__choose_T:=TL ngen_maker__choose_lay.σs→Option (Out ngen_maker__choose_outs)
abbrev ngen_maker__choose_D:=Kb 157 4 ngen_maker__choose_lay 1 ngen_maker__choose_outs
def ngen_maker__choose_F (F0:lits_Not_T) (F1:ngen_maker__or_T) (F2:ngen_maker__and_T) (t1 t2 t3 b0_0:Int) (b1:List Int) (b2:List (Sh.T Za0)) (b3 b4 b5:List Int) (b6:List (Sh.T Za1)) (b7:List (Sh.T Za0)):Option (Out ngen_maker__choose_outs):=
 bnd (F2 (t1,(t2,(b0_0,(b1,(b2,(b3,(b4,(b5,(b6,(b7,()))))))))))) fun x0=>
 bnd (F0 (t1,())) fun x1=>
 bnd (F2 (x1.1,(t3,x0.2))) fun x2=>
 bnd (F1 (x0.1,x2)) fun x3=>
 some x3
def ngen_maker__choose_G (c0:lits_Not_D) (c1:ngen_maker__or_D) (c2:ngen_maker__and_D) :ngen_maker__choose_D:=⟨u11 (ngen_maker__choose_F c0.F c1.F c2.F),pB Tryz.func157 24 (kD c0 (kB c1 (kB c2 k0))) e0 1 (sS l0) fun d=>by kernel_rfl⟩
def ngen_maker__choose_K:ngen_maker__choose_D:=ngen_maker__choose_G lits_Not_K ngen_maker__or_K ngen_maker__and_K 
def ngen_maker__choose_FF:ngen_maker__choose_T:=ngen_maker__choose_K.F
abbrev ngen_maker__same_lay:Lay:={ T:=[(0,.ptr 0 0),(1,.fz (.int .i64)),(2,.fz (.int .i64))],h:=yRg0,nx:=8 }
abbrev ngen_maker__same_outs:List (Ev.Ex×Lay):=[(.ret,yRg12)]
abbrev ngen_maker__same_T:=TL ngen_maker__same_lay.σs→Option (Out ngen_maker__same_outs)
abbrev ngen_maker__same_D:=Kb 155 3 ngen_maker__same_lay 1 ngen_maker__same_outs
abbrev ngen_maker__same_lay3:Lay:={ T:=[(0,.ptr 0 0),(2,.fz (.int .i64)),(7,.hd 9 (.int .i64)),(12,.fz (.int .i64)),(13,.int .i64),(14,.int .i64)],h:=yRg8,nx:=10 }
abbrev ngen_maker__same_outs3:List (Ev.Ex×Lay):=[((.exit 0),{ T:=[(0,.ptr 0 0),(7,.hd 9 (.int .i64))],h:=yRg8,nx:=10 })]
abbrev ngen_maker__same_T3:=TL ngen_maker__same_lay3.σs→Option (Out ngen_maker__same_outs3)
abbrev ngen_maker__same_D3:=Ld 8 46 (Zb5 [0] (Zaa Tryz.f155)) ngen_maker__same_lay3 ngen_maker__same_outs3
def ngen_maker__same_B3 (F0:lits_Not_T) (F2:ngen_maker__or_T) (F3:ngen_maker__and_T) (t2 t12:List Int) (t13 t14 b0_0:Int) (b1:List Int) (b2:List (Sh.T Za0)) (b3 b4 b5:List Int) (b6:List (Sh.T Za1)) (b8:List (Sh.T Za0)) (b9:List Int):Option (TL ngen_maker__same_lay3.σs⊕Out ngen_maker__same_outs3):=
 br (iL t14 t13)
 (
  chk (inb t14 (List.length t12))<|
  chk (inb t14 (List.length t2))<|
  chk (inb t14 (List.length t2))<|
  bnd (F3 ((gt (.int .i64) t12 t14),((gt (.int .i64) t2 t14),(b0_0,(b1,(b2,(b3,(b4,(b5,(b6,(b8,()))))))))))) fun x0=>
  chk (iQ (gt (.int .i64) t12 t14) (gt (.int .i64) t12 t14))<|
  chk (Zqo (Sh.beq (.int .i64)) t2 t2)<|
  chk (iQ t14 t14)<|
  chk (inb t14 (List.length t2))<|
  chk (Sh.beq (.int .i64) (gt (.int .i64) t2 t14) (gt (.int .i64) t2 t14))<|
  chk (iQ (gt (.int .i64) t2 t14) (gt (.int .i64) t2 t14))<|
  bnd (F0 ((gt (.int .i64) t12 t14),())) fun x1=>
  bnd (F0 ((gt (.int .i64) t2 t14),())) fun x2=>
  bnd (F3 (x1.1,(x2.1,x0.2))) fun x3=>
  bnd (F2 (x0.1,x3)) fun x4=>
  chk (room 8 (List.length (ap b9 (x4.1 :: []))))<|
  some (.inl (t2,(t12,(t13,((IntKind.wrap .i64 (t14+(1:Int))),(x4.2.1,(x4.2.2.1,(x4.2.2.2.1,(x4.2.2.2.2.1,(x4.2.2.2.2.2.1,(x4.2.2.2.2.2.2.1,(x4.2.2.2.2.2.2.2.1,(x4.2.2.2.2.2.2.2.2.1,((ap b9 (x4.1 :: [])),())))))))))))))))
 (
  some (.inr (b0_0,(b1,(b2,(b3,(b4,(b5,(b6,(b8,(b9,())))))))))))
def ngen_maker__same_M3 (c0:lits_Not_D) (c2:ngen_maker__or_D) (c3:ngen_maker__and_D) :ngen_maker__same_D3:=mkL (u13 (ngen_maker__same_B3 c0.F c2.F c3.F)) (pL (kD c0 (kB c2 (kB c3 k0))) e0 1 l0 fun d=>by kernel_rfl)
def ngen_maker__same_N3:ngen_maker__same_D3:=ngen_maker__same_M3 lits_Not_K ngen_maker__or_K ngen_maker__and_K 
def ngen_maker__same_L3:ngen_maker__same_T3:=lpD (u13 (ngen_maker__same_B3 lits_Not_FF ngen_maker__or_FF ngen_maker__and_FF)) NN
def ngen_maker__same_F (F0:lits_Not_T) (F1:ngen_maker__all_T) (F2:ngen_maker__or_T) (F3:ngen_maker__and_T) (L3:ngen_maker__same_T3) (t1 t2:List Int) (b0_0:Int) (b1:List Int) (b2:List (Sh.T Za0)) (b3 b4 b5:List Int) (b6:List (Sh.T Za1)) (b7:List (Sh.T Za0)):Option (Out ngen_maker__same_outs):=
 bnd (L3 (t2,(t1,((Int.ofNat (List.length t1)),((0:Int),(b0_0,(b1,(b2,(b3,(b4,(b5,(b6,(b7,([],())))))))))))))) fun x0=>
 bnd (F1 (x0.2.2.2.2.2.2.2.2.1,(x0.1,(x0.2.1,(x0.2.2.1,(x0.2.2.2.1,(x0.2.2.2.2.1,(x0.2.2.2.2.2.1,(x0.2.2.2.2.2.2.1,(x0.2.2.2.2.2.2.2.1,())))))))))) fun x1=>
 some x1
def ngen_maker__same_G (c0:lits_Not_D) (c1:ngen_maker__all_D) (c2:ngen_maker__or_D) (c3:ngen_maker__and_D) (M3:ngen_maker__same_D3):ngen_maker__same_D:=⟨u10 (ngen_maker__same_F c0.F c1.F c2.F c3.F M3.L),pB Tryz.func155 46 (kD c0 (kB c1 (kB c2 (kB c3 k0)))) e0 1 (sS (sC M3 l0)) fun d=>by kernel_rfl⟩
def ngen_maker__same_K:ngen_maker__same_D:=ngen_maker__same_G lits_Not_K ngen_maker__all_K ngen_maker__or_K ngen_maker__and_K ngen_maker__same_N3
def ngen_maker__same_FF:ngen_maker__same_T:=ngen_maker__same_K.F
abbrev ngen_maker__counto_lay:Lay:={ T:=[(0,.ptr 0 0),(1,.hd 8 (.int .i64)),(2,.int .i64),(3,.int .i64)],h:=yRg2,nx:=9 }
abbrev ngen_maker__counto_outs:List (Ev.Ex×Lay):=[(.ret,{ T:=[],h:=yRg6,nx:=10 })]
abbrev ngen_maker__counto_T:=TL ngen_maker__counto_lay.σs→Option (Out ngen_maker__counto_outs)
abbrev ngen_maker__counto_D:=Kb 90 4 ngen_maker__counto_lay 0 ngen_maker__counto_outs
abbrev ngen_maker__counto_lay1:Lay:={ T:=[(0,.ptr 0 0),(2,.int .i64),(3,.int .i64),(10,.hd 8 (.int .i64)),(11,.int .i64),(12,.int .i64)],h:=yRg6,nx:=10 }
abbrev ngen_maker__counto_outs1:List (Ev.Ex×Lay):=[((.exit 0),{ T:=[],h:=yRg6,nx:=10 })]
abbrev ngen_maker__counto_T1:=TL ngen_maker__counto_lay1.σs→Option (Out ngen_maker__counto_outs1)
abbrev ngen_maker__counto_D1:=Ld 9 38 (Zb5 [0] (Zaa Tryz.f90)) ngen_maker__counto_lay1 ngen_maker__counto_outs1
def ngen_maker__counto_B1 (F0:lits_Not_T) (F1:ngen_maker__and_T) (F2:ngen_maker__choose_T) (t2 t3 t11 t12 b0_0:Int) (b1:List Int) (b2:List (Sh.T Za0)) (b3 b4 b5:List Int) (b6:List (Sh.T Za1)) (b8:List Int) (b9:List (Sh.T Za0)):Option (TL ngen_maker__counto_lay1.σs⊕Out ngen_maker__counto_outs1):=
 br (iL t12 t11)
 (
  chk (inb t12 (List.length b8))<|
  bnd (F0 (t3,())) fun x0=>
  bnd (F2 ((gt (.int .i64) b8 t12),(x0.1,(t3,(b0_0,(b1,(b2,(b3,(b4,(b5,(b6,(b9,())))))))))))) fun x1=>
  chk (inb (IntKind.wrap .i64 (t2+t12)) (List.length x1.2.2.2.1))<|
  chk (iQ t2 t2)<|
  chk (iQ t12 t12)<|
  chk (iQ (IntKind.wrap .i64 (t2+t12)) (IntKind.wrap .i64 (t2+t12)))<|
  bnd (F1 ((gt (.int .i64) b8 t12),(t3,(x1.2.1,(x1.2.2.1,((List.set x1.2.2.2.1 (Int.toNat (IntKind.wrap .i64 (t2+t12))) ((gt Za0 x1.2.2.2.1 (IntKind.wrap .i64 (t2+t12))).1,(x1.1,((gt Za0 x1.2.2.2.1 (IntKind.wrap .i64 (t2+t12))).2.2.1,())))),x1.2.2.2.2)))))) fun x2=>
  some (.inl (t2,(x2.1,(t11,((IntKind.wrap .i64 (t12+(1:Int))),(x2.2.1,(x2.2.2.1,(x2.2.2.2.1,(x2.2.2.2.2.1,(x2.2.2.2.2.2.1,(x2.2.2.2.2.2.2.1,(x2.2.2.2.2.2.2.2.1,(b8,(x2.2.2.2.2.2.2.2.2.1,())))))))))))))))
 (
  some (.inr (b0_0,(b1,(b2,(b3,(b4,(b5,(b6,(b8,(b9,())))))))))))
def ngen_maker__counto_M1 (c0:lits_Not_D) (c1:ngen_maker__and_D) (c2:ngen_maker__choose_D) :ngen_maker__counto_D1:=mkL (u13 (ngen_maker__counto_B1 c0.F c1.F c2.F)) (pL (kD c0 (kB c1 (kB c2 k0))) e0 1 l0 fun d=>by kernel_rfl)
def ngen_maker__counto_N1:ngen_maker__counto_D1:=ngen_maker__counto_M1 lits_Not_K ngen_maker__and_K ngen_maker__choose_K 
def ngen_maker__counto_L1:ngen_maker__counto_T1:=lpD (u13 (ngen_maker__counto_B1 lits_Not_FF ngen_maker__and_FF ngen_maker__choose_FF)) NN
def ngen_maker__counto_F (F0:lits_Not_T) (F1:ngen_maker__and_T) (F2:ngen_maker__choose_T) (L1:ngen_maker__counto_T1) (t2 t3 b0_0:Int) (b1:List Int) (b2:List (Sh.T Za0)) (b3 b4 b5:List Int) (b6:List (Sh.T Za1)) (b7:List (Sh.T Za0)) (b8:List Int):Option (Out ngen_maker__counto_outs):=
 bnd (L1 (t2,(t3,((Int.ofNat (List.length b8)),((0:Int),(b0_0,(b1,(b2,(b3,(b4,(b5,(b6,(b8,(b7,())))))))))))))) fun x0=>
 some x0
def ngen_maker__counto_G (c0:lits_Not_D) (c1:ngen_maker__and_D) (c2:ngen_maker__choose_D) (M1:ngen_maker__counto_D1):ngen_maker__counto_D:=⟨u11 (ngen_maker__counto_F c0.F c1.F c2.F M1.L),pB Tryz.func90 38 (kD c0 (kB c1 (kB c2 k0))) e0 1 (sS (sC M1 l0)) fun d=>by kernel_rfl⟩
def ngen_maker__counto_K:ngen_maker__counto_D:=ngen_maker__counto_G lits_Not_K ngen_maker__and_K ngen_maker__choose_K ngen_maker__counto_N1
def ngen_maker__counto_FF:ngen_maker__counto_T:=ngen_maker__counto_K.F
abbrev gen_Counter_lay7:Lay:={ T:=[(1,.int .u64),(4,.ptr 0 0),(6,.ptr 1 0),(7,.hd 9 (.int .i64)),(25,.int .i64),(26,.int .i64)],h:=yRg7,nx:=10 }
abbrev gen_Counter_outs7:List (Ev.Ex×Lay):=[((.exit 0),{ T:=[(4,.ptr 0 0),(6,.ptr 1 0),(7,.hd 9 (.int .i64))],h:=yRg7,nx:=10 })]
abbrev gen_Counter_T7:=TL gen_Counter_lay7.σs→Option (Out gen_Counter_outs7)
abbrev gen_Counter_D7:=Ld 0 61 (Zb5 [0] (Zaa Tryz.f40)) gen_Counter_lay7 gen_Counter_outs7
def gen_Counter_B7 (F0:lits_Xor_T) (t1 t25 t26 b0_0 b1_0:Int) (b2:List Int) (b3:List (Sh.T Za0)) (b4 b5 b6:List Int) (b7:List (Sh.T Za1)) (b8:List (Sh.T Za0)) (b9:List Int):Option (TL gen_Counter_lay7.σs⊕Out gen_Counter_outs7):=
 br (iL t26 t25)
 (
  chk (inb t26 (List.length b9))<|
  chk (iE (0:Int) t26)<|
  bnd (F0 ((gt (.int .i64) b9 t26),((iQ (bandI .u64 (Int.fdiv t1 (HPow.hPow (2:Int) (Min.min (Int.toNat t26) 64))) (1:Int)) (0:Int)),()))) fun x0=>
  chk (inb t26 (List.length b9))<|
  some (.inl (t1,(t25,((IntKind.wrap .i64 (t26+(1:Int))),(b0_0,(b1_0,(b2,(b3,(b4,(b5,(b6,(b7,(b8,((List.set b9 (Int.toNat t26) x0.1),())))))))))))))))
 (
  some (.inr (b0_0,(b1_0,(b2,(b3,(b4,(b5,(b6,(b7,(b8,(b9,()))))))))))))
def gen_Counter_M7 (c0:lits_Xor_D) :gen_Counter_D7:=mkL (u13 (gen_Counter_B7 c0.F)) (pL (kD c0 k0) e0 1 l0 fun d=>by kernel_rfl)
def gen_Counter_N7:gen_Counter_D7:=gen_Counter_M7 lits_Xor_K 
def gen_Counter_L7:gen_Counter_T7:=lpD (u13 (gen_Counter_B7 lits_Xor_FF)) NN
abbrev gen_Counter_σs:List Sh:=[(.int .i64),(.int .u64)]
abbrev gen_Counter_τs:List Sh:=[Za5,(.int .i64)]
abbrev gen_Counter_T:=TL gen_Counter_σs→Option (TL gen_Counter_τs)
abbrev gen_Counter_D:=Kd 40 gen_Counter_σs gen_Counter_τs
def gen_Counter_F (F0:lits_Xor_T) (F1:ngen_maker__all_T) (F2:ngen_maker__counto_T) (F3:ngen_maker__latches_T) (L7:gen_Counter_T7) (a0 a1:Int):Option (TL gen_Counter_τs):=
 br (iL a0 (1:Int))
 (
  some (((0:Int),([],([],([],([],([],([],([],())))))))),((1:Int),())))
 (
  br (selB false true (iL (20:Int) a0))
  (
   some (((0:Int),([],([],([],([],([],([],([],())))))))),((1:Int),())))
  (
   bnd (F3 (a0,((0:Int),((0:Int),([],([],([],([],([],([],([],()))))))))))) fun x0=>
   bnd (F2 ((0:Int),((1:Int),(x0.1,(x0.2.1,(x0.2.2.2.2.2.2.2.1,(x0.2.2.1,(x0.2.2.2.1,(x0.2.2.2.2.1,(x0.2.2.2.2.2.1,(x0.2.2.2.2.2.2.1,(x0.2.2.2.2.2.2.2.2.1,())))))))))))) fun x1=>
   bnd (L7 (a1,((Int.ofNat (List.length x1.2.2.2.2.2.2.2.1)),((0:Int),((0:Int),(x1.1,(x1.2.1,(x1.2.2.1,(x1.2.2.2.1,(x1.2.2.2.2.1,(x1.2.2.2.2.2.1,(x1.2.2.2.2.2.2.1,(x1.2.2.2.2.2.2.2.2.1,(x1.2.2.2.2.2.2.2.1,())))))))))))))) fun x2=>
   bnd (F1 (x2.2.2.2.2.2.2.2.2.2.1,(x2.2.1,(x2.2.2.1,(x2.2.2.2.1,(x2.2.2.2.2.1,(x2.2.2.2.2.2.1,(x2.2.2.2.2.2.2.1,(x2.2.2.2.2.2.2.2.1,(x2.2.2.2.2.2.2.2.2.1,())))))))))) fun x3=>
   chk (room 8 (List.length (ap x3.2.2.2.2.2.1 (x3.1 :: []))))<|
   some ((x3.2.1,(x3.2.2.1,(x3.2.2.2.1,(x3.2.2.2.2.1,((ap x3.2.2.2.2.2.1 (x3.1 :: [])),x3.2.2.2.2.2.2))))),((0:Int),()))))
def gen_Counter_G (c0:lits_Xor_D) (c1:ngen_maker__all_D) (c2:ngen_maker__counto_D) (c3:ngen_maker__latches_D) (M7:gen_Counter_D7):gen_Counter_D:=⟨u2 (gen_Counter_F c0.F c1.F c2.F c3.F M7.L),pD Tryz.func40 61 (kD c0 (kB c1 (kB c2 (kB c3 k0)))) e0 1 (sS (sC M7 l0)) fun d=>by kernel_rfl⟩
def gen_Counter_K:gen_Counter_D:=gen_Counter_G lits_Xor_K ngen_maker__all_K ngen_maker__counto_K ngen_maker__latches_K gen_Counter_N7
def gen_Counter_FF:gen_Counter_T:=gen_Counter_K.F
abbrev ngen_maker__latchesf_lay:Lay:=yRg9
abbrev ngen_maker__latchesf_outs:List (Ev.Ex×Lay):=[(.ret,{ T:=[(0,.fz (.int .i64))],h:=[(0,.cells yRg13 161),(1,.arr (.int .i64) 3),(3,.arr (.int .i64) 3),(4,.arr (.int .i64) 3),(5,.arr (.int .i64) 3),(6,.arr Za1 116),(7,.arr Za0 150),(8,.arr Za0 95)],nx:=9 })]
abbrev ngen_maker__latchesf_T:=TL ngen_maker__latchesf_lay.σs→Option (Out ngen_maker__latchesf_outs)
abbrev ngen_maker__latchesf_D:=Kb 89 3 ngen_maker__latchesf_lay 1 ngen_maker__latchesf_outs
def ngen_maker__latchesf_F (F0:lits_Make_T) (F1:ngen_maker__fresha_T) (F2:ngen_maker__freshd_T) (F3:ngen_maker__freshl_T) (F4:ngen_maker__freshi_T) (t1 t2 b0_0:Int) (b1:List Int) (b2:List (Sh.T Za0)) (b3 b4 b5:List Int) (b6:List (Sh.T Za1)) (b7:List (Sh.T Za0)):Option (Out ngen_maker__latchesf_outs):=
 bnd (F3 (t1,(b0_0,(b1,(b2,(b3,(b4,(b5,(b6,(b7,(t2,()))))))))))) fun x0=>
 some (x0.2.2.2.2.2.2.2.2.2.1,(x0.1,(x0.2.1,(x0.2.2.1,(x0.2.2.2.1,(x0.2.2.2.2.1,(x0.2.2.2.2.2.1,(x0.2.2.2.2.2.2.1,(x0.2.2.2.2.2.2.2.2.1,())))))))))
def ngen_maker__latchesf_G (c0:lits_Make_D) (c1:ngen_maker__fresha_D) (c2:ngen_maker__freshd_D) (c3:ngen_maker__freshl_D) (c4:ngen_maker__freshi_D) :ngen_maker__latchesf_D:=⟨u10 (ngen_maker__latchesf_F c0.F c1.F c2.F c3.F c4.F),pB Tryz.func89 11 (kD c0 (kB c1 (kB c2 (kB c3 (kB c4 k0))))) (eC Tryz.func172 (by kernel_rfl) e0) 5 (sS l0) fun d=>by kernel_rfl⟩
def ngen_maker__latchesf_K:ngen_maker__latchesf_D:=ngen_maker__latchesf_G lits_Make_K ngen_maker__fresha_K ngen_maker__freshd_K ngen_maker__freshl_K ngen_maker__freshi_K 
def ngen_maker__latchesf_FF:ngen_maker__latchesf_T:=ngen_maker__latchesf_K.F
abbrev ngen_maker__count_lay:Lay:={ T:=[(0,.ptr 0 0),(1,.fz (.int .i64)),(2,.int .i64),(3,.int .i64)],h:=yRg0,nx:=8 }
abbrev ngen_maker__count_outs:List (Ev.Ex×Lay):=[(.ret,{ T:=[],h:=yRg1,nx:=9 })]
abbrev ngen_maker__count_T:=TL ngen_maker__count_lay.σs→Option (Out ngen_maker__count_outs)
abbrev ngen_maker__count_D:=Kb 90 4 ngen_maker__count_lay 0 ngen_maker__count_outs
abbrev ngen_maker__count_lay1:Lay:={ T:=[(0,.ptr 0 0),(2,.int .i64),(3,.int .i64),(10,.fz (.int .i64)),(11,.int .i64),(12,.int .i64)],h:=yRg1,nx:=9 }
abbrev ngen_maker__count_outs1:List (Ev.Ex×Lay):=[((.exit 0),{ T:=[],h:=yRg1,nx:=9 })]
abbrev ngen_maker__count_T1:=TL ngen_maker__count_lay1.σs→Option (Out ngen_maker__count_outs1)
abbrev ngen_maker__count_D1:=Ld 8 38 (Zb5 [0] (Zaa Tryz.f90)) ngen_maker__count_lay1 ngen_maker__count_outs1
def ngen_maker__count_B1 (F0:lits_Not_T) (F1:ngen_maker__and_T) (F2:ngen_maker__choose_T) (t2 t3:Int) (t10:List Int) (t11 t12 b0_0:Int) (b1:List Int) (b2:List (Sh.T Za0)) (b3 b4 b5:List Int) (b6:List (Sh.T Za1)) (b8:List (Sh.T Za0)):Option (TL ngen_maker__count_lay1.σs⊕Out ngen_maker__count_outs1):=
 br (iL t12 t11)
 (
  chk (inb t12 (List.length t10))<|
  bnd (F0 (t3,())) fun x0=>
  bnd (F2 ((gt (.int .i64) t10 t12),(x0.1,(t3,(b0_0,(b1,(b2,(b3,(b4,(b5,(b6,(b8,())))))))))))) fun x1=>
  chk (inb (IntKind.wrap .i64 (t2+t12)) (List.length x1.2.2.2.1))<|
  chk (iQ t2 t2)<|
  chk (iQ t12 t12)<|
  chk (iQ (IntKind.wrap .i64 (t2+t12)) (IntKind.wrap .i64 (t2+t12)))<|
  bnd (F1 ((gt (.int .i64) t10 t12),(t3,(x1.2.1,(x1.2.2.1,((List.set x1.2.2.2.1 (Int.toNat (IntKind.wrap .i64 (t2+t12))) ((gt Za0 x1.2.2.2.1 (IntKind.wrap .i64 (t2+t12))).1,(x1.1,((gt Za0 x1.2.2.2.1 (IntKind.wrap .i64 (t2+t12))).2.2.1,())))),x1.2.2.2.2)))))) fun x2=>
  some (.inl (t2,(x2.1,(t10,(t11,((IntKind.wrap .i64 (t12+(1:Int))),x2.2)))))))
 (
  some (.inr (b0_0,(b1,(b2,(b3,(b4,(b5,(b6,(b8,()))))))))))
def ngen_maker__count_M1 (c0:lits_Not_D) (c1:ngen_maker__and_D) (c2:ngen_maker__choose_D) :ngen_maker__count_D1:=mkL (u13 (ngen_maker__count_B1 c0.F c1.F c2.F)) (pL (kD c0 (kB c1 (kB c2 k0))) e0 1 l0 fun d=>by kernel_rfl)
def ngen_maker__count_N1:ngen_maker__count_D1:=ngen_maker__count_M1 lits_Not_K ngen_maker__and_K ngen_maker__choose_K 
def ngen_maker__count_L1:ngen_maker__count_T1:=lpD (u13 (ngen_maker__count_B1 lits_Not_FF ngen_maker__and_FF ngen_maker__choose_FF)) NN
def ngen_maker__count_F (F0:lits_Not_T) (F1:ngen_maker__and_T) (F2:ngen_maker__choose_T) (L1:ngen_maker__count_T1) (t1:List Int) (t2 t3 b0_0:Int) (b1:List Int) (b2:List (Sh.T Za0)) (b3 b4 b5:List Int) (b6:List (Sh.T Za1)) (b7:List (Sh.T Za0)):Option (Out ngen_maker__count_outs):=
 bnd (L1 (t2,(t3,(t1,((Int.ofNat (List.length t1)),((0:Int),(b0_0,(b1,(b2,(b3,(b4,(b5,(b6,(b7,())))))))))))))) fun x0=>
 some x0
def ngen_maker__count_G (c0:lits_Not_D) (c1:ngen_maker__and_D) (c2:ngen_maker__choose_D) (M1:ngen_maker__count_D1):ngen_maker__count_D:=⟨u11 (ngen_maker__count_F c0.F c1.F c2.F M1.L),pB Tryz.func90 38 (kD c0 (kB c1 (kB c2 k0))) e0 1 (sS (sC M1 l0)) fun d=>by kernel_rfl⟩
def ngen_maker__count_K:ngen_maker__count_D:=ngen_maker__count_G lits_Not_K ngen_maker__and_K ngen_maker__choose_K ngen_maker__count_N1
def ngen_maker__count_FF:ngen_maker__count_T:=ngen_maker__count_K.F
abbrev ngen_maker__write_lay:Lay:=yRg9
abbrev ngen_maker__write_outs:List (Ev.Ex×Lay):=[(.ret,{ T:=[(0,.agg [.int .i64,.fz (.int .i64),.fz (.int .i64)])],h:=yRg10,nx:=9 })]
abbrev ngen_maker__write_T:=TL ngen_maker__write_lay.σs→Option (Out ngen_maker__write_outs)
abbrev ngen_maker__write_D:=Kb 154 3 ngen_maker__write_lay 1 ngen_maker__write_outs
def ngen_maker__write_F (F0:ngen_maker__inputs_T) (t1 t2 b0_0:Int) (b1:List Int) (b2:List (Sh.T Za0)) (b3 b4 b5:List Int) (b6:List (Sh.T Za1)) (b7:List (Sh.T Za0)):Option (Out ngen_maker__write_outs):=
 bnd (F0 ((1:Int),(b0_0,(b1,(b2,(b3,(b4,(b5,(b6,(b7,())))))))))) fun x0=>
 chk (inb (0:Int) (List.length x0.1))<|
 bnd (F0 (t1,(x0.2.1,(x0.2.2.2.2.2.2.2.2.1,(x0.2.2.1,(x0.2.2.2.1,(x0.2.2.2.2.1,(x0.2.2.2.2.2.1,(x0.2.2.2.2.2.2.1,(x0.2.2.2.2.2.2.2.1,())))))))))) fun x1=>
 bnd (F0 (t2,(x1.2.1,(x1.2.2.2.2.2.2.2.2.1,(x1.2.2.1,(x1.2.2.2.1,(x1.2.2.2.2.1,(x1.2.2.2.2.2.1,(x1.2.2.2.2.2.2.1,(x1.2.2.2.2.2.2.2.1,())))))))))) fun x2=>
 some ((gt (.int .i64) x0.1 (0:Int)),(x1.1,x2))
def ngen_maker__write_G (c0:ngen_maker__inputs_D) :ngen_maker__write_D:=⟨u10 (ngen_maker__write_F c0.F),pB Tryz.func154 21 (kB c0 k0) e0 1 (sS l0) fun d=>by kernel_rfl⟩
def ngen_maker__write_K:ngen_maker__write_D:=ngen_maker__write_G ngen_maker__inputs_K 
def ngen_maker__write_FF:ngen_maker__write_T:=ngen_maker__write_K.F
abbrev gen_within_σs:List Sh:=[(.int .i64),(.int .i64)]
abbrev gen_within_τs:List Sh:=[.bool]
abbrev gen_within_T:=TL gen_within_σs→Option (TL gen_within_τs)
abbrev gen_within_D:=Kd 98 gen_within_σs gen_within_τs
def gen_within_F (a0 a1:Int):Option (TL gen_within_τs):=
 br (iE (1:Int) a0)
 (
  br (selB true (iE a0 (16:Int)) false)
  (
   br (selB true (iE (1:Int) a1) false)
   (
    some ((selB true (iE a1 (16:Int)) false),()))
   (
    some (false,())))
  (
   some (false,())))
 (
  some (false,()))
def gen_within_G  :gen_within_D:=⟨u2 gen_within_F,pD Tryz.func98 19 k0 e0 1 (sS l0) fun d=>by kernel_rfl⟩
def gen_within_K:gen_within_D:=gen_within_G  
def gen_within_FF:gen_within_T:=gen_within_K.F
abbrev gen_Echo_lay17:Lay:={ T:=[(0,.int .i64),(6,.ptr 0 0),(8,.ptr 1 0),(10,.ptr 9 0),(12,.int .i64),(13,.fz (.int .i64)),(14,.fz (.int .i64)),(16,.int .i64),(108,.fz (.int .i64)),(109,.int .i64),(110,.int .i64)],h:=[(0,.cells [.int .i64,.nils,.nils,.nils,.nils,.nils,.nils,.nils] 27),(1,.cells yRg14 161),(2,.arr (.int .i64) 3),(3,.arr Za0 95),(4,.arr (.int .i64) 3),(5,.arr (.int .i64) 3),(6,.arr (.int .i64) 3),(7,.arr Za1 116),(8,.arr Za0 150),(9,.cells [.int .i64,.fz (.int .i64),.fz (.int .i64)] 175)],nx:=10 }
abbrev gen_Echo_outs17:List (Ev.Ex×Lay):=[((.exit 0),{ T:=[(6,.ptr 0 0),(8,.ptr 1 0),(12,.int .i64),(13,.fz (.int .i64)),(14,.fz (.int .i64))],h:=[(0,.cells [.int .i64,.nils,.nils,.nils,.nils,.nils,.nils,.nils] 27),(1,.cells yRg14 161),(2,.arr (.int .i64) 3),(3,.arr Za0 95),(4,.arr (.int .i64) 3),(5,.arr (.int .i64) 3),(6,.arr (.int .i64) 3),(7,.arr Za1 116),(8,.arr Za0 150)],nx:=9 })]
abbrev gen_Echo_T17:=TL gen_Echo_lay17.σs→Option (Out gen_Echo_outs17)
abbrev gen_Echo_D17:=Ld 0 160 (Zb5 [0] (Zaa Tryz.f84)) gen_Echo_lay17 gen_Echo_outs17
def gen_Echo_B17 (F3:ngen_maker__choose_T) (t0 t12:Int) (t13 t14:List Int) (t16:Int) (t108:List Int) (t109 t110 b0_0 b1_0:Int) (b2:List Int) (b3:List (Sh.T Za0)) (b4 b5 b6:List Int) (b7:List (Sh.T Za1)) (b8:List (Sh.T Za0)) (b9_0:Int) (b9_1 b9_2:List Int):Option (TL gen_Echo_lay17.σs⊕Out gen_Echo_outs17):=
 br (iL t110 t109)
 (
  chk (inb t110 (List.length t108))<|
  chk (inb t110 (List.length b9_2))<|
  bnd (F3 (t16,((gt (.int .i64) b9_2 t110),((gt (.int .i64) t108 t110),(b1_0,(b2,(b3,(b4,(b5,(b6,(b7,(b8,())))))))))))) fun x0=>
  chk (inb (IntKind.wrap .i64 ((IntKind.wrap .i64 (t0+(1:Int)))+t110)) (List.length x0.2.2.2.1))<|
  chk (iQ t0 t0)<|
  chk (iQ (IntKind.wrap .i64 (t0+(1:Int))) (IntKind.wrap .i64 (t0+(1:Int))))<|
  chk (iQ t110 t110)<|
  chk (iQ (IntKind.wrap .i64 ((IntKind.wrap .i64 (t0+(1:Int)))+t110)) (IntKind.wrap .i64 ((IntKind.wrap .i64 (t0+(1:Int)))+t110)))<|
  some (.inl (t0,(t12,(t13,(t14,(t16,(t108,(t109,((IntKind.wrap .i64 (t110+(1:Int))),(b0_0,(x0.2.1,(x0.2.2.1,((List.set x0.2.2.2.1 (Int.toNat (IntKind.wrap .i64 ((IntKind.wrap .i64 (t0+(1:Int)))+t110))) ((gt Za0 x0.2.2.2.1 (IntKind.wrap .i64 ((IntKind.wrap .i64 (t0+(1:Int)))+t110))).1,(x0.1,((gt Za0 x0.2.2.2.1 (IntKind.wrap .i64 ((IntKind.wrap .i64 (t0+(1:Int)))+t110))).2.2.1,())))),(x0.2.2.2.2.1,(x0.2.2.2.2.2.1,(x0.2.2.2.2.2.2.1,(x0.2.2.2.2.2.2.2.1,(x0.2.2.2.2.2.2.2.2.1,(b9_0,(b9_1,(b9_2,()))))))))))))))))))))))
 (
  some (.inr (t12,(t13,(t14,(b0_0,(b1_0,(b2,(b3,(b4,(b5,(b6,(b7,(b8,()))))))))))))))
def gen_Echo_M17 (c3:ngen_maker__choose_D) :gen_Echo_D17:=mkL (u20 (gen_Echo_B17 c3.F)) (pL (kB c3 k0) e0 1 l0 fun d=>by kernel_rfl)
def gen_Echo_N17:gen_Echo_D17:=gen_Echo_M17 ngen_maker__choose_K 
def gen_Echo_L17:gen_Echo_T17:=lpD (u20 (gen_Echo_B17 ngen_maker__choose_FF)) NN
abbrev gen_Echo_σs:List Sh:=[(.int .i64),(.int .i64),.bool]
abbrev gen_Echo_τs:List Sh:=[Za5,(.int .i64)]
abbrev gen_Echo_T:=TL gen_Echo_σs→Option (TL gen_Echo_τs)
abbrev gen_Echo_D:=Kd 84 gen_Echo_σs gen_Echo_τs
def gen_Echo_F (F0:lits_Not_T) (F1:Zb3g) (F2:gen_within_T) (F3:ngen_maker__choose_T) (F4:ngen_maker__or_T) (F5:ngen_maker__and_T) (F6:ngen_maker__same_T) (F7:ngen_maker__data_T) (F8:ngen_maker__latchesf_T) (F9:ngen_maker__latches_T) (F10:ngen_maker__write_T) (L17:gen_Echo_T17) (a0 a1:Int) (a2:Bool):Option (TL gen_Echo_τs):=
 bnd (F2 (a0,(a1,()))) fun x0=>
 br (Bool.not x0.1)
 (
  some (((0:Int),([],([],([],([],([],([],([],())))))))),((1:Int),())))
 (
  bnd (F10 (a0,(a1,((0:Int),([],([],([],([],([],([],([],()))))))))))) fun x1=>
  br a2
  (
   bnd (F10 (a0,(a1,(x1.2.2.2.1,(x1.2.2.2.2.2.2.2.2.2.2.1,(x1.2.2.2.2.1,(x1.2.2.2.2.2.1,(x1.2.2.2.2.2.2.1,(x1.2.2.2.2.2.2.2.1,(x1.2.2.2.2.2.2.2.2.1,(x1.2.2.2.2.2.2.2.2.2.1,()))))))))))) fun x2=>
   bnd (F8 (a0,((2:Int),(x2.2.2.2.1,(x2.2.2.2.2.2.2.2.2.2.2.1,(x2.2.2.2.2.1,(x2.2.2.2.2.2.1,(x2.2.2.2.2.2.2.1,(x2.2.2.2.2.2.2.2.1,(x2.2.2.2.2.2.2.2.2.1,(x2.2.2.2.2.2.2.2.2.2.1,()))))))))))) fun x3=>
   chk (iQ a1 a1)<|
   bnd (F8 ((1:Int),((0:Int),(x3.2.1,(x3.2.2.1,(x3.2.2.2.2.2.2.2.2.1,(x3.2.2.2.1,(x3.2.2.2.2.1,(x3.2.2.2.2.2.1,(x3.2.2.2.2.2.2.1,(x3.2.2.2.2.2.2.2.1,()))))))))))) fun x4=>
   chk (inb (0:Int) (List.length x4.1))<|
   chk (iQ a1 a1)<|
   bnd (F8 (a1,((0:Int),(x4.2.1,(x4.2.2.1,(x4.2.2.2.2.2.2.2.2.1,(x4.2.2.2.1,(x4.2.2.2.2.1,(x4.2.2.2.2.2.1,(x4.2.2.2.2.2.2.1,(x4.2.2.2.2.2.2.2.1,()))))))))))) fun x5=>
   chk (inb (0:Int) (List.length x4.1))<|
   chk (Sh.beq (.int .i64) (gt (.int .i64) x4.1 (0:Int)) (gt (.int .i64) x4.1 (0:Int)))<|
   chk (iQ (gt (.int .i64) x4.1 (0:Int)) (gt (.int .i64) x4.1 (0:Int)))<|
   bnd (F7 (a1,(x5.2.1,(x5.2.2.1,(x5.2.2.2.2.2.2.2.2.1,(x5.2.2.2.1,(x5.2.2.2.2.1,(x5.2.2.2.2.2.1,(x5.2.2.2.2.2.2.1,(x5.2.2.2.2.2.2.2.1,())))))))))) fun x6=>
   chk (inb (0:Int) (List.length x6.1))<|
   bnd (F1 ((gt (.int .i64) x6.1 (0:Int)),())) fun x7=>
   chk (room 72 (List.length (ap x6.2.2.2.2.2.2.2.1 ((a0,(a1,(true,((ap [] ((x7.1,(x3.1,())) :: [])),((ap (ap [] ((x1.1,(x1.2.1,(x1.2.2.1,()))) :: [])) ((x2.1,(x2.2.1,(x2.2.2.1,()))) :: [])),()))))) :: []))))<|
   bnd (F6 (x1.2.1,(x3.1,(x6.2.1,(x6.2.2.1,(x6.2.2.2.1,(x6.2.2.2.2.1,(x6.2.2.2.2.2.1,(x6.2.2.2.2.2.2.1,((ap x6.2.2.2.2.2.2.2.1 ((a0,(a1,(true,((ap [] ((x7.1,(x3.1,())) :: [])),((ap (ap [] ((x1.1,(x1.2.1,(x1.2.2.1,()))) :: [])) ((x2.1,(x2.2.1,(x2.2.2.1,()))) :: [])),()))))) :: [])),(x6.2.2.2.2.2.2.2.2.1,()))))))))))) fun x8=>
   bnd (F5 (x1.1,x8)) fun x9=>
   bnd (F4 (x9.1,((gt (.int .i64) x4.1 (0:Int)),x9.2))) fun x10=>
   chk (inb a0 (List.length x10.2.2.2.1))<|
   chk (iQ a0 a0)<|
   bnd (L17 (a0,((gt (.int .i64) x4.1 (0:Int)),(x5.1,(x6.1,(x9.1,(x5.1,((Int.ofNat (List.length x5.1)),((0:Int),((0:Int),(x10.2.1,(x10.2.2.1,((List.set x10.2.2.2.1 (Int.toNat a0) ((gt Za0 x10.2.2.2.1 a0).1,(x10.1,((gt Za0 x10.2.2.2.1 a0).2.2.1,())))),(x10.2.2.2.2.1,(x10.2.2.2.2.2.1,(x10.2.2.2.2.2.2.1,(x10.2.2.2.2.2.2.2.1,(x10.2.2.2.2.2.2.2.2.1,(x1.1,(x1.2.1,(x1.2.2.1,()))))))))))))))))))))) fun x11=>
   bnd (F6 (x11.2.2.1,(x11.2.1,x11.2.2.2.2))) fun x12=>
   bnd (F0 (x12.1,())) fun x13=>
   bnd (F5 (x11.1,(x13.1,x12.2))) fun x14=>
   chk (room 8 (List.length (ap x14.2.2.2.2.2.1 (x14.1 :: []))))<|
   some ((x14.2.1,(x14.2.2.1,(x14.2.2.2.1,(x14.2.2.2.2.1,((ap x14.2.2.2.2.2.1 (x14.1 :: [])),x14.2.2.2.2.2.2))))),((0:Int),())))
  (
   bnd (F8 (a0,((2:Int),(x1.2.2.2.1,(x1.2.2.2.2.2.2.2.2.2.2.1,(x1.2.2.2.2.1,(x1.2.2.2.2.2.1,(x1.2.2.2.2.2.2.1,(x1.2.2.2.2.2.2.2.1,(x1.2.2.2.2.2.2.2.2.1,(x1.2.2.2.2.2.2.2.2.2.1,()))))))))))) fun x2=>
   chk (iQ a1 a1)<|
   bnd (F8 ((1:Int),((0:Int),(x2.2.1,(x2.2.2.1,(x2.2.2.2.2.2.2.2.2.1,(x2.2.2.2.1,(x2.2.2.2.2.1,(x2.2.2.2.2.2.1,(x2.2.2.2.2.2.2.1,(x2.2.2.2.2.2.2.2.1,()))))))))))) fun x3=>
   chk (inb (0:Int) (List.length x3.1))<|
   chk (iQ a1 a1)<|
   bnd (F8 (a1,((0:Int),(x3.2.1,(x3.2.2.1,(x3.2.2.2.2.2.2.2.2.1,(x3.2.2.2.1,(x3.2.2.2.2.1,(x3.2.2.2.2.2.1,(x3.2.2.2.2.2.2.1,(x3.2.2.2.2.2.2.2.1,()))))))))))) fun x4=>
   chk (inb (0:Int) (List.length x3.1))<|
   chk (Sh.beq (.int .i64) (gt (.int .i64) x3.1 (0:Int)) (gt (.int .i64) x3.1 (0:Int)))<|
   chk (iQ (gt (.int .i64) x3.1 (0:Int)) (gt (.int .i64) x3.1 (0:Int)))<|
   bnd (F7 (a1,(x4.2.1,(x4.2.2.1,(x4.2.2.2.2.2.2.2.2.1,(x4.2.2.2.1,(x4.2.2.2.2.1,(x4.2.2.2.2.2.1,(x4.2.2.2.2.2.2.1,(x4.2.2.2.2.2.2.2.1,())))))))))) fun x5=>
   chk (inb (0:Int) (List.length x5.1))<|
   bnd (F1 ((gt (.int .i64) x5.1 (0:Int)),())) fun x6=>
   chk (room 72 (List.length (ap x5.2.2.2.2.2.2.2.1 ((a0,(a1,(true,((ap [] ((x6.1,(x2.1,())) :: [])),((ap [] ((x1.1,(x1.2.1,(x1.2.2.1,()))) :: [])),()))))) :: []))))<|
   bnd (F6 (x1.2.1,(x2.1,(x5.2.1,(x5.2.2.1,(x5.2.2.2.1,(x5.2.2.2.2.1,(x5.2.2.2.2.2.1,(x5.2.2.2.2.2.2.1,((ap x5.2.2.2.2.2.2.2.1 ((a0,(a1,(true,((ap [] ((x6.1,(x2.1,())) :: [])),((ap [] ((x1.1,(x1.2.1,(x1.2.2.1,()))) :: [])),()))))) :: [])),(x5.2.2.2.2.2.2.2.2.1,()))))))))))) fun x7=>
   bnd (F5 (x1.1,x7)) fun x8=>
   bnd (F4 (x8.1,((gt (.int .i64) x3.1 (0:Int)),x8.2))) fun x9=>
   chk (inb a0 (List.length x9.2.2.2.1))<|
   chk (iQ a0 a0)<|
   bnd (L17 (a0,((gt (.int .i64) x3.1 (0:Int)),(x4.1,(x5.1,(x8.1,(x4.1,((Int.ofNat (List.length x4.1)),((0:Int),((0:Int),(x9.2.1,(x9.2.2.1,((List.set x9.2.2.2.1 (Int.toNat a0) ((gt Za0 x9.2.2.2.1 a0).1,(x9.1,((gt Za0 x9.2.2.2.1 a0).2.2.1,())))),(x9.2.2.2.2.1,(x9.2.2.2.2.2.1,(x9.2.2.2.2.2.2.1,(x9.2.2.2.2.2.2.2.1,(x9.2.2.2.2.2.2.2.2.1,(x1.1,(x1.2.1,(x1.2.2.1,()))))))))))))))))))))) fun x10=>
   bnd (F6 (x10.2.2.1,(x10.2.1,x10.2.2.2.2))) fun x11=>
   bnd (F0 (x11.1,())) fun x12=>
   bnd (F5 (x10.1,(x12.1,x11.2))) fun x13=>
   chk (room 8 (List.length (ap x13.2.2.2.2.2.1 (x13.1 :: []))))<|
   some ((x13.2.1,(x13.2.2.1,(x13.2.2.2.1,(x13.2.2.2.2.1,((ap x13.2.2.2.2.2.1 (x13.1 :: [])),x13.2.2.2.2.2.2))))),((0:Int),()))))
def gen_Echo_G (c0:lits_Not_D) (c1:Zazd) (c2:gen_within_D) (c3:ngen_maker__choose_D) (c4:ngen_maker__or_D) (c5:ngen_maker__and_D) (c6:ngen_maker__same_D) (c7:ngen_maker__data_D) (c8:ngen_maker__latchesf_D) (c9:ngen_maker__latches_D) (c10:ngen_maker__write_D) (M17:gen_Echo_D17):gen_Echo_D:=⟨u3 (gen_Echo_F c0.F c1.F c2.F c3.F c4.F c5.F c6.F c7.F c8.F c9.F c10.F M17.L),pD Tryz.func84 160 (kD c0 (kD c1 (kD c2 (kB c3 (kB c4 (kB c5 (kB c6 (kB c7 (kB c8 (kB c9 (kB c10 k0))))))))))) e0 1 (sS (sC M17 l0)) fun d=>by kernel_rfl⟩
def gen_Echo_K:gen_Echo_D:=gen_Echo_G lits_Not_K Zb3h gen_within_K ngen_maker__choose_K ngen_maker__or_K ngen_maker__and_K ngen_maker__same_K ngen_maker__data_K ngen_maker__latchesf_K ngen_maker__latches_K ngen_maker__write_K gen_Echo_N17
def gen_Echo_FF:gen_Echo_T:=gen_Echo_K.F
abbrev gen_Stack_σs:List Sh:=[(.int .i64),(.int .i64)]
abbrev gen_Stack_τs:List Sh:=[Za5,(.int .i64)]
abbrev gen_Stack_T:=TL gen_Stack_σs→Option (TL gen_Stack_τs)
abbrev gen_Stack_D:=Kd 44 gen_Stack_σs gen_Stack_τs
def gen_Stack_F (F0:lits_Not_T) (F1:Zb3g) (F2:gen_within_T) (F3:ngen_maker__all_T) (F4:ngen_maker__count_T) (F5:ngen_maker__counto_T) (F6:ngen_maker__and_T) (F7:ngen_maker__data_T) (F8:ngen_maker__latchesf_T) (F9:ngen_maker__latches_T) (F10:ngen_maker__inputs_T) (a0 a1:Int):Option (TL gen_Stack_τs):=
 bnd (F2 (a0,(a1,()))) fun x0=>
 br (Bool.not x0.1)
 (
  some (((0:Int),([],([],([],([],([],([],([],())))))))),((1:Int),())))
 (
  bnd (F10 ((1:Int),((0:Int),([],([],([],([],([],([],([],())))))))))) fun x1=>
  chk (inb (0:Int) (List.length x1.1))<|
  chk (iQ a1 a1)<|
  bnd (F10 ((1:Int),(x1.2.1,(x1.2.2.2.2.2.2.2.2.1,(x1.2.2.1,(x1.2.2.2.1,(x1.2.2.2.2.1,(x1.2.2.2.2.2.1,(x1.2.2.2.2.2.2.1,(x1.2.2.2.2.2.2.2.1,())))))))))) fun x2=>
  chk (inb (0:Int) (List.length x2.1))<|
  chk (inb (0:Int) (List.length x1.1))<|
  chk (Sh.beq (.int .i64) (gt (.int .i64) x1.1 (0:Int)) (gt (.int .i64) x1.1 (0:Int)))<|
  chk (iQ (gt (.int .i64) x1.1 (0:Int)) (gt (.int .i64) x1.1 (0:Int)))<|
  chk (iQ a1 a1)<|
  bnd (F10 (a1,(x2.2.1,(x2.2.2.2.2.2.2.2.2.1,(x2.2.2.1,(x2.2.2.2.1,(x2.2.2.2.2.1,(x2.2.2.2.2.2.1,(x2.2.2.2.2.2.2.1,(x2.2.2.2.2.2.2.2.1,())))))))))) fun x3=>
  chk (inb (0:Int) (List.length x1.1))<|
  chk (Sh.beq (.int .i64) (gt (.int .i64) x1.1 (0:Int)) (gt (.int .i64) x1.1 (0:Int)))<|
  chk (iQ (gt (.int .i64) x1.1 (0:Int)) (gt (.int .i64) x1.1 (0:Int)))<|
  chk (inb (0:Int) (List.length x2.1))<|
  chk (Sh.beq (.int .i64) (gt (.int .i64) x2.1 (0:Int)) (gt (.int .i64) x2.1 (0:Int)))<|
  chk (iQ (gt (.int .i64) x2.1 (0:Int)) (gt (.int .i64) x2.1 (0:Int)))<|
  bnd (F8 (a0,((0:Int),(x3.2.1,(x3.2.2.2.2.2.2.2.2.1,(x3.2.2.1,(x3.2.2.2.1,(x3.2.2.2.2.1,(x3.2.2.2.2.2.1,(x3.2.2.2.2.2.2.1,(x3.2.2.2.2.2.2.2.1,()))))))))))) fun x4=>
  bnd (F7 (a1,(x4.2.1,(x4.2.2.1,(x4.2.2.2.2.2.2.2.2.1,(x4.2.2.2.1,(x4.2.2.2.2.1,(x4.2.2.2.2.2.1,(x4.2.2.2.2.2.2.1,(x4.2.2.2.2.2.2.2.1,())))))))))) fun x5=>
  chk (inb (0:Int) (List.length x5.1))<|
  bnd (F1 ((gt (.int .i64) x5.1 (0:Int)),())) fun x6=>
  chk (room 72 (List.length (ap x5.2.2.2.2.2.2.2.1 ((a0,(a1,(false,((ap [] ((x6.1,(x4.1,())) :: [])),((ap [] (((gt (.int .i64) x1.1 (0:Int)),(x4.1,(x3.1,()))) :: [])),()))))) :: []))))<|
  bnd (F6 ((gt (.int .i64) x1.1 (0:Int)),((gt (.int .i64) x2.1 (0:Int)),(x5.2.1,(x5.2.2.1,(x5.2.2.2.1,(x5.2.2.2.2.1,(x5.2.2.2.2.2.1,(x5.2.2.2.2.2.2.1,((ap x5.2.2.2.2.2.2.2.1 ((a0,(a1,(false,((ap [] ((x6.1,(x4.1,())) :: [])),((ap [] (((gt (.int .i64) x1.1 (0:Int)),(x4.1,(x3.1,()))) :: [])),()))))) :: [])),(x5.2.2.2.2.2.2.2.2.1,()))))))))))) fun x7=>
  bnd (F4 (x4.1,((0:Int),((gt (.int .i64) x1.1 (0:Int)),x7.2)))) fun x8=>
  bnd (F3 (x4.1,x8)) fun x9=>
  bnd (F6 ((gt (.int .i64) x1.1 (0:Int)),x9)) fun x10=>
  chk (room 8 (List.length (ap x10.2.2.2.2.2.1 (x10.1 :: []))))<|
  bnd (F0 (x7.1,())) fun x11=>
  chk (room 8 (List.length (ap x10.2.2.2.2.2.2.1 (x11.1 :: []))))<|
  some ((x10.2.1,(x10.2.2.1,(x10.2.2.2.1,(x10.2.2.2.2.1,((ap x10.2.2.2.2.2.1 (x10.1 :: [])),((ap x10.2.2.2.2.2.2.1 (x11.1 :: [])),x10.2.2.2.2.2.2.2)))))),((0:Int),())))
def gen_Stack_G (c0:lits_Not_D) (c1:Zazd) (c2:gen_within_D) (c3:ngen_maker__all_D) (c4:ngen_maker__count_D) (c5:ngen_maker__counto_D) (c6:ngen_maker__and_D) (c7:ngen_maker__data_D) (c8:ngen_maker__latchesf_D) (c9:ngen_maker__latches_D) (c10:ngen_maker__inputs_D) :gen_Stack_D:=⟨u2 (gen_Stack_F c0.F c1.F c2.F c3.F c4.F c5.F c6.F c7.F c8.F c9.F c10.F),pD Tryz.func44 117 (kD c0 (kD c1 (kD c2 (kB c3 (kB c4 (kB c5 (kB c6 (kB c7 (kB c8 (kB c9 (kB c10 k0))))))))))) e0 1 (sS l0) fun d=>by kernel_rfl⟩
def gen_Stack_K:gen_Stack_D:=gen_Stack_G lits_Not_K Zb3h gen_within_K ngen_maker__all_K ngen_maker__count_K ngen_maker__counto_K ngen_maker__and_K ngen_maker__data_K ngen_maker__latchesf_K ngen_maker__latches_K ngen_maker__inputs_K 
def gen_Stack_FF:gen_Stack_T:=gen_Stack_K.F
abbrev gen_Kind_σs:List Sh:=[(.int .i64),(.int .i64),(.int .i64)]
abbrev gen_Kind_τs:List Sh:=[Za5,(.int .i64)]
abbrev gen_Kind_T:=TL gen_Kind_σs→Option (TL gen_Kind_τs)
abbrev gen_Kind_D:=Kd 36 gen_Kind_σs gen_Kind_τs
def gen_Kind_F (F0:gen_Stack_T) (F1:gen_Echo_T) (F2:gen_Counter_T) (a0 a1 a2:Int):Option (TL gen_Kind_τs):=
 br (iQ a0 (0:Int))
 (
  bnd (F2 (a1,((IntKind.wrap .u64 a2),()))) fun x0=>
  some ((x0.1.1,(x0.1.2.1,(x0.1.2.2.1,(x0.1.2.2.2.1,(x0.1.2.2.2.2.1,(x0.1.2.2.2.2.2.1,(x0.1.2.2.2.2.2.2.1,(x0.1.2.2.2.2.2.2.2.1,())))))))),(x0.2.1,())))
 (
  br (iQ a0 (2:Int))
  (
   bnd (F1 (a1,(a2,(true,())))) fun x0=>
   some ((x0.1.1,(x0.1.2.1,(x0.1.2.2.1,(x0.1.2.2.2.1,(x0.1.2.2.2.2.1,(x0.1.2.2.2.2.2.1,(x0.1.2.2.2.2.2.2.1,(x0.1.2.2.2.2.2.2.2.1,())))))))),(x0.2.1,())))
  (
   br (iQ a0 (1:Int))
   (
    bnd (F1 (a1,(a2,(false,())))) fun x0=>
    some ((x0.1.1,(x0.1.2.1,(x0.1.2.2.1,(x0.1.2.2.2.1,(x0.1.2.2.2.2.1,(x0.1.2.2.2.2.2.1,(x0.1.2.2.2.2.2.2.1,(x0.1.2.2.2.2.2.2.2.1,())))))))),(x0.2.1,())))
   (
    br (iQ a0 (3:Int))
    (
     bnd (F0 (a1,(a2,()))) fun x0=>
     some ((x0.1.1,(x0.1.2.1,(x0.1.2.2.1,(x0.1.2.2.2.1,(x0.1.2.2.2.2.1,(x0.1.2.2.2.2.2.1,(x0.1.2.2.2.2.2.2.1,(x0.1.2.2.2.2.2.2.2.1,())))))))),(x0.2.1,())))
    (
     some (((0:Int),([],([],([],([],([],([],([],())))))))),((1:Int),()))))))
def gen_Kind_G (c0:gen_Stack_D) (c1:gen_Echo_D) (c2:gen_Counter_D) :gen_Kind_D:=⟨u3 (gen_Kind_F c0.F c1.F c2.F),pD Tryz.func36 36 (kD c0 (kD c1 (kD c2 k0))) e0 1 (sS l0) fun d=>by kernel_rfl⟩
def gen_Kind_K:gen_Kind_D:=gen_Kind_G gen_Stack_K gen_Echo_K gen_Counter_K 
def gen_Kind_FF:gen_Kind_T:=gen_Kind_K.F
end Go.Proofs.YtkcpdpplobhpaaaGreat.V
end
section
namespace Go.Proofs.YtkcpdpplobhpaaaGreat.V
open Go Go.RowKit
open Go.Proofs.YtkcpdpplobhpaaaGreat.Pl
set_option maxRecDepth 10000
structure Gk where
 v:Nat
 i:List Int
 l:List Zgv
 a:List AndD
abbrev gT (o b c:List Int) (m:List Za1.T) (s:Gk):Int×List Int×List Za0.T×List Int×List Int×List Int×List Za1.T×List Za0.T×Unit:=
 ((s.v:Int),(s.i,(s.l.map latT,(o,(b,(c,(m,(s.a.map andT,()))))))))
structure GI (s:Gk) (D:List Int):Prop where
 perm:(s.i++(s.l.map (·.var)++(D++s.a.map (·.var)))).Perm (fr 0 s.v)
 an:∀x∈s.a,(LitOk s.v x.a∧LitOk s.v x.b)∧x.a / 2<x.var∧x.b / 2<x.var
 la:∀x∈s.l,LitOk s.v x.next∧0≤x.init∧x.init≤2
def rowG (v k:Nat):List Int:=(List.range k).map fun j:Nat=>2*((v+1+j:Nat):Int)
theorem rowG_succ (v k:Nat):rowG v (k+1)=rowG v k++[2*((v+k+1:Nat):Int)]:=by
 unfold rowG
 rw [List.range_succ,List.map_append]
 show _++[2*((v+1+k:Nat):Int)]=_
 rw [show v+1+k=v+k+1 by omega]
theorem rowG_len (v k:Nat):(rowG v k).length=k:=by simp [rowG]
theorem rowG_ok {v k:Nat}:∀x∈rowG v k,LitOk (v+k) x:=by
 intro x hx
 obtain ⟨j,hj,rfl⟩:=List.mem_map.1 hx
 have hj:=List.mem_range.1 hj
 refine ⟨by omega,?_⟩
 rw [show (2:Int)*((v+1+j:Nat):Int) / 2=((v+1+j:Nat):Int) by omega]
 omega
theorem fr_succ (v k:Nat):fr v (v+(k+1))=fr v (v+k)++[((v+k+1:Nat):Int)]:=by
 rw [←fr_add (show v≤v+k by omega) (show v+k≤v+(k+1) by omega),show v+(k+1)=v+k+1 by omega,fr_one]
theorem GI.grow {s:Gk} {D:List Int} (h:GI s D) {w:Nat} (hw:s.v≤w) {I:List Int} {L:List Zgv} {A:List AndD} {E:List Int} (hp:(I++(L.map (·.var)++(E++A.map (·.var)))).Perm (fr s.v w))
  (hA:∀x∈A,(LitOk w x.a∧LitOk w x.b)∧x.a / 2<x.var∧x.b / 2<x.var) (hL:∀x∈L,LitOk w x.next∧0≤x.init∧x.init≤2):GI ⟨w,s.i++I,s.l++L,s.a++A⟩ (D++E):=by
 refine ⟨?_,?_,?_⟩
 ·show ((s.i++I)++((s.l++L).map (·.var)++((D++E)++(s.a++A).map (·.var)))).Perm (fr 0 w)
  rw [←fr_add (Nat.zero_le s.v) hw,List.perm_iff_count]
  intro x
  have c1:=h.perm.count_eq x
  have c2:=hp.count_eq x
  simp only [List.count_append,List.map_append] at c1 c2 ⊢
  omega
 ·intro x hx
  rcases List.mem_append.1 hx with q | q
  ·obtain ⟨⟨q1,q2⟩,q3⟩:=h.an x q
   exact ⟨⟨q1.up hw,q2.up hw⟩,q3⟩
  ·exact hA x q
 ·intro x hx
  rcases List.mem_append.1 hx with q | q
  ·obtain ⟨q1,q2⟩:=h.la x q
   exact ⟨q1.up hw,q2⟩
  ·exact hL x q
abbrev anG (v:Nat) (x y:Int):AndD:=⟨(v:Int),x,y⟩
section
variable (o b c:List Int) (m:List Za1.T) {s:Gk}
theorem g_inputs (k:Nat) (hv:s.v+k≤50000) (hi:s.i.length+k≤50000):ngen_maker__inputs_FF ((k:Int),gT o b c m s)=some (rowG s.v k,(((s.v+k:Nat):Int),(s.l.map latT,(o,(b,(c,(m,(s.a.map andT,(s.i++fr s.v (s.v+k),()))))))))):=by
 have e2:ngen_maker__freshi_L2 ((k:Int),((0:Int),((s.v:Int),(s.l.map latT,(o,(b,(c,(m,(s.a.map andT,(s.i,([],())))))))))))=some (((s.v+k:Nat):Int),(s.l.map latT,(o,(b,(c,(m,(s.a.map andT,(s.i++fr s.v (s.v+k),(rowG s.v k,()))))))))):=by
  unfold ngen_maker__freshi_L2;delta u11
  refine Zif (fun j:Nat=>((k:Int),((j:Int),(((s.v+j:Nat):Int),(s.l.map latT,(o,(b,(c,(m,(s.a.map andT,(s.i++fr s.v (s.v+j),(rowG s.v j,())))))))))))) k ?_ ?_ ?_ (Ze8 (by omega))
  ·simp only [Nat.add_zero,fr_same,List.append_nil,rowG,List.range_zero,List.map_nil]
   rfl
  ·intro j hj
   have w:IntKind.wrap .i64 (((s.v+j:Nat):Int)+1)=((s.v+j+1:Nat):Int):=i64w (x:=((s.v+j:Nat):Int)+1) (by omega)
   have e1:lits_Make_FF (IntKind.wrap .i64 (((s.v+j:Nat):Int)+1),(false,()))=some (2*((s.v+j+1:Nat):Int),()):=by rw [w];exact lits_Make_is (by omega) (by omega)
   have hfl:(fr s.v (s.v+j)).length=j:=by simp [fr]
   have r1:room 8 (List.length ((s.i++fr s.v (s.v+j))++[IntKind.wrap .i64 (((s.v+j:Nat):Int)+1)]))=true:=Zsm (by rw [List.length_append,hfl];omega) (by omega)
   have r2:room 8 (List.length (rowG s.v j++[2*((s.v+j+1:Nat):Int)]))=true:=Zsm (by rw [rowG_len];omega) (by omega)
   have e:∀(p q u v':Int) (A B R R':List Int),p=q→u=v'→A=B→R=R'→(some (.inl ((k:Int),(p,(u,(s.l.map latT,(o,(b,(c,(m,(s.a.map andT,(A,(R,())))))))))))):Option (TL ngen_maker__freshi_lay2.σs⊕Out ngen_maker__freshi_outs2))=some (.inl ((k:Int),(q,(v',(s.l.map latT,(o,(b,(c,(m,(s.a.map andT,(B,(R',())))))))))))):=by rintro _ _ _ _ _ _ _ _ rfl rfl rfl rfl;rfl
   refine br_tt (dec_t (show (j:Int)<(k:Int) by omega)) (Zaj r1 (Zba e1 (Zaj r2 (e _ _ _ _ _ _ _ _ (i64n (x:=(j:Int)+1) (n:=j+1) (by omega) (by omega)) (w.trans (by omega)) ?_ (rowG_succ s.v j).symm))))
   show (s.i++fr s.v (s.v+j))++[IntKind.wrap .i64 (((s.v+j:Nat):Int)+1)]=s.i++fr s.v (s.v+(j+1))
   rw [w,fr_succ,List.append_assoc]
  ·exact br_ff (dec_f (show ¬(k:Int)<(k:Int) by omega)) rfl
 have e3:ngen_maker__freshi_FF ((k:Int),((s.v:Int),(s.i,(s.l.map latT,(o,(b,(c,(m,(s.a.map andT,())))))))))=some (((s.v+k:Nat):Int),(s.l.map latT,(o,(b,(c,(m,(s.a.map andT,(s.i++fr s.v (s.v+k),(rowG s.v k,()))))))))):=Zba e2 rfl
 exact Zba e3 rfl
theorem g_data (k:Nat) (hv:s.v+k≤50000):ngen_maker__data_FF ((k:Int),gT o b c m s)=some (rowG s.v k,gT o b c m ⟨s.v+k,s.i,s.l,s.a⟩):=by
 have e2:ngen_maker__freshd_L2 ((k:Int),((0:Int),((s.v:Int),(s.i,(s.l.map latT,(o,(b,(c,(m,(s.a.map andT,([],())))))))))))=some (((s.v+k:Nat):Int),(s.i,(s.l.map latT,(o,(b,(c,(m,(s.a.map andT,(rowG s.v k,()))))))))):=by
  unfold ngen_maker__freshd_L2;delta u11
  refine Zif (fun j:Nat=>((k:Int),((j:Int),(((s.v+j:Nat):Int),(s.i,(s.l.map latT,(o,(b,(c,(m,(s.a.map andT,(rowG s.v j,())))))))))))) k rfl ?_ ?_ (Ze8 (by omega))
  ·intro j hj
   have w:IntKind.wrap .i64 (((s.v+j:Nat):Int)+1)=((s.v+j+1:Nat):Int):=i64w (x:=((s.v+j:Nat):Int)+1) (by omega)
   have e0:ngen_maker__data_1_FF (IntKind.wrap .i64 (((s.v+j:Nat):Int)+1),())=some ():=rfl
   have e1:lits_Make_FF (IntKind.wrap .i64 (((s.v+j:Nat):Int)+1),(false,()))=some (2*((s.v+j+1:Nat):Int),()):=by rw [w];exact lits_Make_is (by omega) (by omega)
   have r2:room 8 (List.length (rowG s.v j++[2*((s.v+j+1:Nat):Int)]))=true:=Zsm (by rw [rowG_len];omega) (by omega)
   have e:∀(p q u v':Int) (R R':List Int),p=q→u=v'→R=R'→(some (.inl ((k:Int),(p,(u,(s.i,(s.l.map latT,(o,(b,(c,(m,(s.a.map andT,(R,())))))))))))):Option (TL ngen_maker__freshd_lay2.σs⊕Out ngen_maker__freshd_outs2))=some (.inl ((k:Int),(q,(v',(s.i,(s.l.map latT,(o,(b,(c,(m,(s.a.map andT,(R',())))))))))))):=by rintro _ _ _ _ _ _ rfl rfl rfl;rfl
   exact br_tt (dec_t (show (j:Int)<(k:Int) by omega)) (Zba e0 (Zba e1 (Zaj r2 (e _ _ _ _ _ _ (i64n (x:=(j:Int)+1) (n:=j+1) (by omega) (by omega)) (w.trans (by omega)) (rowG_succ s.v j).symm))))
  ·exact br_ff (dec_f (show ¬(k:Int)<(k:Int) by omega)) rfl
 have e3:ngen_maker__freshd_FF ((k:Int),((s.v:Int),(s.i,(s.l.map latT,(o,(b,(c,(m,(s.a.map andT,())))))))))=some (((s.v+k:Nat):Int),(s.i,(s.l.map latT,(o,(b,(c,(m,(s.a.map andT,(rowG s.v k,()))))))))):=Zba e2 rfl
 exact Zba e3 rfl
def latG (v k:Nat) (st:Int):List Zgv:=(List.range k).map fun j:Nat=>⟨((v+1+j:Nat):Int),2*((v+1+j:Nat):Int),st⟩
theorem latG_succ (v k:Nat) (st:Int):latG v (k+1) st=latG v k st++[⟨((v+k+1:Nat):Int),2*((v+k+1:Nat):Int),st⟩]:=by
 unfold latG
 rw [List.range_succ,List.map_append]
 show _++[(⟨((v+1+k:Nat):Int),2*((v+1+k:Nat):Int),st⟩:Zgv)]=_
 rw [show v+1+k=v+k+1 by omega]
theorem latG_len (v k:Nat) (st:Int):(latG v k st).length=k:=by simp [latG]
theorem g_freshl (k:Nat) (st:Int) (hv:s.v+k≤50000) (hl:s.l.length+k≤50000):ngen_maker__freshl_FF ((k:Int),((s.v:Int),(s.i,(s.l.map latT,(o,(b,(c,(m,(s.a.map andT,(st,()))))))))))=some (((s.v+k:Nat):Int),(s.i,(o,(b,(c,(m,(s.a.map andT,(st,((s.l++latG s.v k st).map latT,(rowG s.v k,())))))))))):=by
 have e2:ngen_maker__freshl_L2 ((k:Int),((0:Int),((s.v:Int),(s.i,(o,(b,(c,(m,(s.a.map andT,(st,(s.l.map latT,([],()))))))))))))=some (((s.v+k:Nat):Int),(s.i,(o,(b,(c,(m,(s.a.map andT,(st,((s.l++latG s.v k st).map latT,(rowG s.v k,())))))))))):=by
  unfold ngen_maker__freshl_L2;delta u12
  refine Zif (fun j:Nat=>((k:Int),((j:Int),(((s.v+j:Nat):Int),(s.i,(o,(b,(c,(m,(s.a.map andT,(st,((s.l++latG s.v j st).map latT,(rowG s.v j,()))))))))))))) k ?_ ?_ ?_ (Ze8 (by omega))
  ·simp only [Nat.add_zero,latG,List.append_nil,rowG,List.range_zero,List.map_nil]
   rfl
  ·intro j hj
   have w:IntKind.wrap .i64 (((s.v+j:Nat):Int)+1)=((s.v+j+1:Nat):Int):=i64w (x:=((s.v+j:Nat):Int)+1) (by omega)
   have e1:lits_Make_FF (IntKind.wrap .i64 (((s.v+j:Nat):Int)+1),(false,()))=some (2*((s.v+j+1:Nat):Int),()):=by rw [w];exact lits_Make_is (by omega) (by omega)
   have hll:((s.l++latG s.v j st).map latT).length=s.l.length+j:=by rw [List.length_map,List.length_append,latG_len]
   have r1:room 24 (List.length ((s.l++latG s.v j st).map latT++[latT ⟨IntKind.wrap .i64 (((s.v+j:Nat):Int)+1),2*((s.v+j+1:Nat):Int),st⟩]))=true:=room24 (by omega)
   have r2:room 8 (List.length (rowG s.v j++[2*((s.v+j+1:Nat):Int)]))=true:=Zsm (by rw [rowG_len];omega) (by omega)
   have e:∀(p q u v':Int) (A B:List Za0.T) (R R':List Int),p=q→u=v'→A=B→R=R'→(some (.inl ((k:Int),(p,(u,(s.i,(o,(b,(c,(m,(s.a.map andT,(st,(A,(R,()))))))))))))):Option (TL ngen_maker__freshl_lay2.σs⊕Out ngen_maker__freshl_outs2))=some (.inl ((k:Int),(q,(v',(s.i,(o,(b,(c,(m,(s.a.map andT,(st,(B,(R',()))))))))))))):=by rintro _ _ _ _ _ _ _ _ rfl rfl rfl rfl;rfl
   refine br_tt (dec_t (show (j:Int)<(k:Int) by omega)) (Zba e1 (Zaj r1 (Zba e1 (Zaj r2 (e _ _ _ _ _ _ _ _ (i64n (x:=(j:Int)+1) (n:=j+1) (by omega) (by omega)) (w.trans (by omega)) ?_ (rowG_succ s.v j).symm)))))
   show (s.l++latG s.v j st).map latT++[latT ⟨IntKind.wrap .i64 (((s.v+j:Nat):Int)+1),2*((s.v+j+1:Nat):Int),st⟩]=(s.l++latG s.v (j+1) st).map latT
   rw [w,latG_succ,←List.append_assoc,List.map_append (l₁:=s.l++latG s.v j st)]
   rfl
  ·exact br_ff (dec_f (show ¬(k:Int)<(k:Int) by omega)) rfl
 exact Zba e2 rfl
theorem g_latchesf (k:Nat) (st:Int) (hv:s.v+k≤50000) (hl:s.l.length+k≤50000):ngen_maker__latchesf_FF ((k:Int),(st,gT o b c m s))=some (rowG s.v k,(((s.v+k:Nat):Int),(s.i,(o,(b,(c,(m,(s.a.map andT,((s.l++latG s.v k st).map latT,()))))))))):=
 Zba (g_freshl o b c m k st hv hl) rfl
theorem g_and (x y:Int) (hv:s.v≤50000) (ha:s.a.length≤50000):ngen_maker__and_FF (x,(y,gT o b c m s))=some (2*((s.v+1:Nat):Int),gT o b c m ⟨s.v+1,s.i,s.l,s.a++[anG (s.v+1) x y]⟩):=by
 have w:IntKind.wrap .i64 ((s.v:Int)+1)=((s.v+1:Nat):Int):=i64w (x:=(s.v:Int)+1) (by omega)
 have e1:lits_Make_FF (IntKind.wrap .i64 ((s.v:Int)+1),(false,()))=some (2*((s.v+1:Nat):Int),()):=by rw [w];exact lits_Make_is (by omega) (by omega)
 have e2:ngen_maker__fresha_L2 ((1:Int),((0:Int),((s.v:Int),(s.i,(s.l.map latT,(o,(b,(c,(m,(x,(y,(s.a.map andT,([],())))))))))))))=some (((s.v+1:Nat):Int),(s.i,(s.l.map latT,(o,(b,(c,(m,(x,(y,((s.a++[anG (s.v+1) x y]).map andT,([2*((s.v+1:Nat):Int)],()))))))))))):=by
  unfold ngen_maker__fresha_L2;delta u13
  refine Zif (fun j:Nat=>match j with
   | 0=>((1:Int),((0:Int),((s.v:Int),(s.i,(s.l.map latT,(o,(b,(c,(m,(x,(y,(s.a.map andT,([],())))))))))))))
   | _=>((1:Int),((1:Int),(((s.v+1:Nat):Int),(s.i,(s.l.map latT,(o,(b,(c,(m,(x,(y,((s.a++[anG (s.v+1) x y]).map andT,([2*((s.v+1:Nat):Int)],())))))))))))))) 1 rfl ?_ ?_ (Ze8 (by omega))
  ·intro j hj
   obtain rfl:j=0:=by omega
   have r1:room 24 (List.length (s.a.map andT++[andT ⟨IntKind.wrap .i64 ((s.v:Int)+1),x,y⟩]))=true:=room24 (by rw [List.length_map];omega)
   have r2:room 8 (List.length (([]:List Int)++[2*((s.v+1:Nat):Int)]))=true:=Zsm (Nat.zero_le _) (by omega)
   have e:∀(u v':Int) (A B:List Za0.T),u=v'→A=B→(some (.inl ((1:Int),((1:Int),(u,(s.i,(s.l.map latT,(o,(b,(c,(m,(x,(y,(A,([2*((s.v+1:Nat):Int)],())))))))))))))):Option (TL ngen_maker__fresha_lay2.σs⊕Out ngen_maker__fresha_outs2))=some (.inl ((1:Int),((1:Int),(v',(s.i,(s.l.map latT,(o,(b,(c,(m,(x,(y,(B,([2*((s.v+1:Nat):Int)],())))))))))))))):=by rintro _ _ _ _ rfl rfl;rfl
   refine br_tt rfl (Zaj r1 (Zba e1 (Zaj r2 (e _ _ _ _ w ?_))))
   show s.a.map andT++[andT ⟨IntKind.wrap .i64 ((s.v:Int)+1),x,y⟩]=(s.a++[anG (s.v+1) x y]).map andT
   rw [w,List.map_append];rfl
  ·exact br_ff rfl rfl
 have e3:ngen_maker__fresha_FF ((1:Int),((s.v:Int),(s.i,(s.l.map latT,(o,(b,(c,(m,(s.a.map andT,(x,(y,())))))))))))=some (((s.v+1:Nat):Int),(s.i,(s.l.map latT,(o,(b,(c,(m,(x,(y,((s.a++[anG (s.v+1) x y]).map andT,([2*((s.v+1:Nat):Int)],()))))))))))):=Zba e2 rfl
 exact Zba e3 (Zaj rfl rfl)
end
structure GO (s:Gk) (D:List Int) (K:Nat) (t:Gk):Prop where
 gi:GI t D
 lo:s.v≤t.v
 hi:t.v≤s.v+K
 len:t.a.length≤s.a.length+K
 ins:t.i=s.i
 lav:t.l.map (·.var)=s.l.map (·.var)
theorem GO.refl {s:Gk} {D:List Int} (h:GI s D):GO s D 0 s:=⟨h,by omega,by omega,by omega,rfl,rfl⟩
theorem GO.trans {s t u:Gk} {D:List Int} {K J M:Nat} (h:GO s D K t) (g:GO t D J u) (hM:K+J≤M):GO s D M u:=
 ⟨g.gi,Nat.le_trans h.lo g.lo,by have:=h.hi;have:=g.hi;omega,by have:=h.len;have:=g.len;omega,g.ins.trans h.ins,g.lav.trans h.lav⟩
section
variable (o b c:List Int) (m:List Za1.T) {s:Gk} {D:List Int}
theorem gand (h:GI s D) {x y:Int} (hx:LitOk s.v x) (hy:LitOk s.v y) (hv:s.v≤40000) (ha:s.a.length≤40000) :
  ∃(z:Int) (t:Gk),ngen_maker__and_FF (x,(y,gT o b c m s))=some (z,gT o b c m t)∧GO s D 1 t∧LitOk t.v z:=by
 refine ⟨_,_,g_and o b c m x y (by omega) (by omega),⟨?_,by show s.v≤s.v+1;omega,Nat.le_refl _,by show (s.a++[_]).length≤_;simp,rfl,rfl⟩,by omega,?_⟩
 ·have g:=h.grow (w:=s.v+1) (by omega) (I:=[]) (L:=[]) (A:=[anG (s.v+1) x y]) (E:=[]) (by rw [fr_one];exact List.Perm.refl _)
   (fun z hz=>by
    obtain rfl:=List.mem_singleton.1 hz
    have h1:=hx.2;have h2:=hy.2
    exact ⟨⟨hx.up (by omega),hy.up (by omega)⟩,by show x / 2<((s.v+1:Nat):Int);omega,by show y / 2<((s.v+1:Nat):Int);omega⟩)
   (fun z hz=>nomatch hz)
  rw [List.append_nil,List.append_nil,List.append_nil] at g
  exact g
 ·show 2*((s.v+1:Nat):Int) / 2≤((s.v+1:Nat):Int)
  omega
end
def setNx:List Zgv→Nat→Int→List Zgv
 | [],_,_=>[]
 | d :: l,0,x=>⟨d.var,x,d.init⟩ :: l
 | d :: l,k+1,x=>d :: setNx l k x
theorem setNx_vars:∀(l:List Zgv) (k:Nat) (x:Int),(setNx l k x).map (·.var)=l.map (·.var)
 | [],_,_=>rfl
 | d :: l,0,x=>rfl
 | d :: l,k+1,x=>congrArg (List.cons d.var) (setNx_vars l k x)
theorem setNx_mem:∀(l:List Zgv) (k:Nat) (x:Int),∀y∈setNx l k x,y∈l∨∃d∈l,y=⟨d.var,x,d.init⟩
 | [],_,_,y,h=>by cases h
 | d :: l,0,x,y,h=>by
  rcases List.mem_cons.1 h with q | q
  ·exact .inr ⟨d,List.mem_cons_self ..,q⟩
  ·exact .inl (List.mem_cons_of_mem _ q)
 | d :: l,k+1,x,y,h=>by
  rcases List.mem_cons.1 h with q | q
  ·exact .inl (q▸List.mem_cons_self ..)
  ·rcases setNx_mem l k x y q with r | ⟨e,r,r2⟩
   ·exact .inl (List.mem_cons_of_mem _ r)
   ·exact .inr ⟨e,List.mem_cons_of_mem _ r,r2⟩
theorem setNx_set:∀(l:List Zgv) (k:Nat) (x:Int) (d:Zgv),l[k]?=some d→List.set (l.map latT) k (latT ⟨d.var,x,d.init⟩)=(setNx l k x).map latT
 | [],_,_,_,h=>by simp at h
 | e :: l,0,x,d,h=>by
  have h:e=d:=by simpa using h
  subst h;rfl
 | e :: l,k+1,x,d,h=>congrArg (List.cons (latT e)) (setNx_set l k x d (by simpa using h))
theorem GI.setNx {s:Gk} {D:List Int} (h:GI s D) (k:Nat) {x:Int} (hx:LitOk s.v x):GI ⟨s.v,s.i,setNx s.l k x,s.a⟩ D:=by
 refine ⟨?_,h.an,fun y hy=>?_⟩
 ·show (s.i++((V.setNx s.l k x).map (·.var)++(D++s.a.map (·.var)))).Perm (fr 0 s.v)
  rw [setNx_vars]
  exact h.perm
 ·rcases setNx_mem _ _ _ y hy with q | ⟨d,q,rfl⟩
  ·exact h.la y q
  ·exact ⟨hx,(h.la d q).2⟩
section
variable (o b c:List Int) (m:List Za1.T) {s:Gk} {D:List Int}
theorem gset (h:GI s D) {k:Nat} {w:Int} (hw:w=(k:Int)) (hk:k<s.l.length) (z:Int) (hz:LitOk s.v z):GO s D 0 ⟨s.v,s.i,setNx s.l k z,s.a⟩ ∧
  List.set (s.l.map latT) (Int.toNat w) ((gt Za0 (s.l.map latT) w).1,(z,((gt Za0 (s.l.map latT) w).2.2.1,())))=(setNx s.l k z).map latT:=by
 subst hw
 refine ⟨⟨h.setNx k hz,Nat.le_refl _,by show s.v≤s.v+0;omega,by show s.a.length≤s.a.length+0;omega,rfl,setNx_vars ..⟩,?_⟩
 have e0:(s.l.map latT)[k]?=some (latT s.l[k]):=by rw [List.getElem?_map,List.getElem?_eq_getElem hk];rfl
 have eg:gt Za0 (s.l.map latT) (k:Int)=latT s.l[k]:=gt_at (σ:=Za0) e0
 rw [eg,Int.toNat_natCast]
 exact setNx_set s.l k z s.l[k] (List.getElem?_eq_getElem hk)
end
theorem frm {lo hi:Nat} {x:Int}:x∈fr lo hi↔(lo:Int)<x∧x≤(hi:Int):=by
 unfold fr
 constructor
 ·intro h
  obtain ⟨i,hi,rfl⟩:=List.mem_map.1 h
  have:=List.mem_range.1 hi
  omega
 ·intro h
  exact List.mem_map.2 ⟨(x - lo - 1).toNat,List.mem_range.2 (by omega),by omega⟩
theorem frlen (lo hi:Nat):(fr lo hi).length=hi - lo:=by simp [fr]
def gk0:Gk:=⟨0,[],[],[]⟩
theorem gi0:GI gk0 []:=⟨List.Perm.refl _,fun x hx=>(nomatch hx),fun x hx=>(nomatch hx)⟩
theorem latG_vars (v k:Nat) (st:Int):(latG v k st).map (·.var)=fr v (v+k):=by
 unfold latG fr
 rw [List.map_map,show v+k - v=k by omega]
 rfl
theorem glat {s:Gk} {D:List Int} (h:GI s D) (k:Nat) {st:Int} (h1:0≤st) (h2:st≤2):GI ⟨s.v+k,s.i,s.l++latG s.v k st,s.a⟩ D:=by
 have g:=h.grow (w:=s.v+k) (by omega) (I:=[]) (L:=latG s.v k st) (A:=[]) (E:=[]) (by rw [latG_vars];simp) (fun x hx=>nomatch hx) (fun x hx=>by
  obtain ⟨j,hj,rfl⟩:=List.mem_map.1 hx
  have hj:=List.mem_range.1 hj
  exact ⟨⟨by show (0:Int)≤2*((s.v+1+j:Nat):Int);omega,by show 2*((s.v+1+j:Nat):Int) / 2≤((s.v+k:Nat):Int);omega⟩,h1,h2⟩)
 simp only [List.append_nil] at g
 exact g
theorem counter_no {a bad:Int} (h:a<1∨20<a):gen_Counter_FF (a,(bad,()))=some (netT ⟨0,[],[],[],[],[],[],[]⟩,((1:Int),())):=by
 by_cases q:a<1
 ·exact br_tt (dec_t (show a<1 from q)) rfl
 ·refine br_ff (dec_f (show ¬a<1 from q)) (br_tt ?_ rfl)
  show selB false true (iL 20 a)=true
  have q:iL 20 a=true:=dec_t (show (20:Int)<a by omega)
  rw [q];rfl
end Go.Proofs.YtkcpdpplobhpaaaGreat.V
end
