import Derived.Test.YtkcpdpplobhpaaaGreatKRe
import Derived.Test.YtkcpdpplobhpaaaGreatKRf
import Derived.Test.YtkcpdpplobhpaaaGreatKRd
set_option linter.unusedVariables false
set_option linter.unusedSimpArgs false
set_option linter.unnecessarySimpa false
section
namespace Go.Proofs.YtkcpdpplobhpaaaGreat.V
open Go Go.RowKit
set_option maxRecDepth 1000000
abbrev __gen_maker__data_1_σs:List Sh:=[(.int .i64)]
abbrev __gen_maker__data_1_τs:List Sh:=[]
abbrev ngen_maker__data_1_T:=TL __gen_maker__data_1_σs→Option (TL __gen_maker__data_1_τs)
abbrev ngen_maker__data_1_D:=Kd 176 __gen_maker__data_1_σs __gen_maker__data_1_τs
def ngen_maker__data_1_F (a0:Int):Option (TL __gen_maker__data_1_τs):=
 some ()
def ngen_maker__data_1_G  :ngen_maker__data_1_D:=⟨u1 ngen_maker__data_1_F,pD Tryz.func176 2 k0 e0 1 (sS l0) fun d=>by kernel_rfl⟩
def ngen_maker__data_1_K:ngen_maker__data_1_D:=ngen_maker__data_1_G  
abbrev yRg8:List LA:=[.int .i64,.hd 1 (.int .i64),.hd 2 Za0,.hd 3 (.int .i64),.hd 4 (.int .i64),.hd 5 (.int .i64),.hd 6 Za1,.hd 7 Za0]
abbrev yRg0:List (Nat×LO):=[(0,.cells yRg8 161),(1,.arr (.int .i64) 3),(2,.arr Za0 95),(3,.arr (.int .i64) 3),(4,.arr (.int .i64) 3),(5,.arr (.int .i64) 3),(6,.arr Za1 116),(7,.arr Za0 150)]
abbrev yRg1:List (Nat×LO):=[(0,.cells [.int .i64,.hd 1 (.int .i64),.hd 2 Za0,.hd 3 (.int .i64),.hd 4 (.int .i64),.hd 5 (.int .i64),.hd 6 Za1,.hd 8 Za0] 161),(1,.arr (.int .i64) 3),(2,.arr Za0 95),(3,.arr (.int .i64) 3),(4,.arr (.int .i64) 3),(5,.arr (.int .i64) 3),(6,.arr Za1 116),(8,.arr Za0 150)]
abbrev yRg2:List (Nat×LO):=[(0,.cells yRg8 161),(1,.arr (.int .i64) 3),(2,.arr Za0 95),(3,.arr (.int .i64) 3),(4,.arr (.int .i64) 3),(5,.arr (.int .i64) 3),(6,.arr Za1 116),(7,.arr Za0 150),(8,.arr (.int .i64) 3)]
abbrev yRg3:List (Nat×LO):=[(0,.cells [.int .i64,.hd 1 (.int .i64),.hd 2 Za0,.hd 3 (.int .i64),.hd 4 (.int .i64),.hd 5 (.int .i64),.hd 6 Za1,.hd 11 Za0] 161),(1,.arr (.int .i64) 3),(2,.arr Za0 95),(3,.arr (.int .i64) 3),(4,.arr (.int .i64) 3),(5,.arr (.int .i64) 3),(6,.arr Za1 116),(8,.cells [.ptr 0 0] 159),(9,.cells [.int .i64] 3),(10,.cells [.int .i64] 3),(11,.arr Za0 150),(12,.arr (.int .i64) 3)]
abbrev yRg4:List (Nat×LO):=[(0,.cells [.int .i64,.hd 1 (.int .i64),.hd 10 Za0,.hd 3 (.int .i64),.hd 4 (.int .i64),.hd 5 (.int .i64),.hd 6 Za1,.hd 7 Za0] 161),(1,.arr (.int .i64) 3),(3,.arr (.int .i64) 3),(4,.arr (.int .i64) 3),(5,.arr (.int .i64) 3),(6,.arr Za1 116),(7,.arr Za0 150),(8,.cells [.ptr 0 0] 159),(9,.cells [.int .i64] 3),(10,.arr Za0 95),(11,.arr (.int .i64) 3)]
abbrev yRg5:List (Nat×LO):=[(0,.cells [.int .i64,.hd 9 (.int .i64),.hd 2 Za0,.hd 3 (.int .i64),.hd 4 (.int .i64),.hd 5 (.int .i64),.hd 6 Za1,.hd 7 Za0] 161),(2,.arr Za0 95),(3,.arr (.int .i64) 3),(4,.arr (.int .i64) 3),(5,.arr (.int .i64) 3),(6,.arr Za1 116),(7,.arr Za0 150),(8,.cells [.ptr 0 0] 159),(9,.arr (.int .i64) 3),(10,.arr (.int .i64) 3)]
abbrev yRg6:List (Nat×LO):=[(0,.cells [.int .i64,.hd 1 (.int .i64),.hd 2 Za0,.hd 3 (.int .i64),.hd 4 (.int .i64),.hd 5 (.int .i64),.hd 6 Za1,.hd 9 Za0] 161),(1,.arr (.int .i64) 3),(2,.arr Za0 95),(3,.arr (.int .i64) 3),(4,.arr (.int .i64) 3),(5,.arr (.int .i64) 3),(6,.arr Za1 116),(8,.arr (.int .i64) 3),(9,.arr Za0 150)]
abbrev yRg7:List (Nat×LO):=[(0,.cells [.int .i64,.nils,.nils,.nils,.nils,.nils,.nils,.nils] 27),(1,.cells [.int .i64,.hd 2 (.int .i64),.hd 3 Za0,.hd 4 (.int .i64),.hd 5 (.int .i64),.hd 6 (.int .i64),.hd 7 Za1,.hd 8 Za0] 161),(2,.arr (.int .i64) 3),(3,.arr Za0 95),(4,.arr (.int .i64) 3),(5,.arr (.int .i64) 3),(6,.arr (.int .i64) 3),(7,.arr Za1 116),(8,.arr Za0 150),(9,.arr (.int .i64) 3)]
abbrev yRg9:Lay:={ T:=[(0,.ptr 0 0),(1,.int .i64),(2,.int .i64)],h:=yRg0,nx:=8 }
abbrev yRg10:Lay:={ T:=[(0,.int .i64)],h:=yRg1,nx:=9 }
abbrev yRg11:List LA:=[.int .i64,.hd 1 (.int .i64),.hd 8 Za0,.hd 3 (.int .i64),.hd 4 (.int .i64),.hd 5 (.int .i64),.hd 6 Za1,.hd 7 Za0]
abbrev ngen_maker__freshi_lay:Lay:={ T:=[(0,.ptr 0 0),(1,.int .i64),(2,.func 175 [] [.ptr 8 0])],h:=[(0,.cells yRg8 161),(1,.arr (.int .i64) 3),(2,.arr Za0 95),(3,.arr (.int .i64) 3),(4,.arr (.int .i64) 3),(5,.arr (.int .i64) 3),(6,.arr Za1 116),(7,.arr Za0 150),(8,.cells [.ptr 0 0] 159)],nx:=9 }
abbrev ngen_maker__freshi_outs:List (Ev.Ex×Lay):=[(.ret,{ T:=[(0,.hd 10 (.int .i64))],h:=yRg5,nx:=11 })]
abbrev ngen_maker__freshi_T:=TL ngen_maker__freshi_lay.σs→Option (Out ngen_maker__freshi_outs)
abbrev ngen_maker__freshi_D:=Kb 171 3 ngen_maker__freshi_lay 1 ngen_maker__freshi_outs
abbrev ngen_maker__freshi_lay2:Lay:={ T:=[(0,.ptr 0 0),(2,.func 175 [] [.ptr 8 0]),(6,.hd 10 (.int .i64)),(7,.int .i64),(8,.int .i64)],h:=yRg5,nx:=11 }
abbrev ngen_maker__freshi_outs2:List (Ev.Ex×Lay):=[((.exit 0),{ T:=[(6,.hd 10 (.int .i64))],h:=yRg5,nx:=11 })]
abbrev ngen_maker__freshi_T2:=TL ngen_maker__freshi_lay2.σs→Option (Out ngen_maker__freshi_outs2)
abbrev ngen_maker__freshi_D2:=Ld 9 37 (Zb5 [0] (Zaa Tryz.f171)) ngen_maker__freshi_lay2 ngen_maker__freshi_outs2
def ngen_maker__freshi_B2 (F0:lits_Make_T) (t7 t8 b0_0:Int) (b2:List (Sh.T Za0)) (b3 b4 b5:List Int) (b6:List (Sh.T Za1)) (b7:List (Sh.T Za0)) (b9 b10:List Int):Option (TL ngen_maker__freshi_lay2.σs⊕Out ngen_maker__freshi_outs2):=
 br (iL t8 t7)
 (
  chk (room 8 (List.length (ap b9 ((IntKind.wrap .i64 (b0_0+(1:Int))) :: []))))<|
  bnd (F0 ((IntKind.wrap .i64 (b0_0+(1:Int))),(false,()))) fun x0=>
  chk (room 8 (List.length (ap b10 (x0.1 :: []))))<|
  some (.inl (t7,((IntKind.wrap .i64 (t8+(1:Int))),((IntKind.wrap .i64 (b0_0+(1:Int))),(b2,(b3,(b4,(b5,(b6,(b7,((ap b9 ((IntKind.wrap .i64 (b0_0+(1:Int))) :: [])),((ap b10 (x0.1 :: [])),())))))))))))))
 (
  some (.inr (b0_0,(b2,(b3,(b4,(b5,(b6,(b7,(b9,(b10,())))))))))))
def ngen_maker__freshi_M2 (c0:lits_Make_D) :ngen_maker__freshi_D2:=mkL (u11 (ngen_maker__freshi_B2 c0.F)) (pL (kD c0 k0) (eC Tryz.func175 (by kernel_rfl) e0) 5 l0 fun d=>by kernel_rfl)
def ngen_maker__freshi_N2:ngen_maker__freshi_D2:=ngen_maker__freshi_M2 lits_Make_K 
def ngen_maker__freshi_F (F0:lits_Make_T) (L2:ngen_maker__freshi_T2) (t1 b0_0:Int) (b1:List Int) (b2:List (Sh.T Za0)) (b3 b4 b5:List Int) (b6:List (Sh.T Za1)) (b7:List (Sh.T Za0)):Option (Out ngen_maker__freshi_outs):=
 bnd (L2 (t1,((0:Int),(b0_0,(b2,(b3,(b4,(b5,(b6,(b7,(b1,([],())))))))))))) fun x0=>
 some x0
def ngen_maker__freshi_G (c0:lits_Make_D) (M2:ngen_maker__freshi_D2):ngen_maker__freshi_D:=⟨u9 (ngen_maker__freshi_F c0.F M2.L),pB Tryz.func171 37 (kD c0 k0) (eC Tryz.func175 (by kernel_rfl) e0) 5 (sS (sC M2 l0)) fun d=>by kernel_rfl⟩
def ngen_maker__freshi_K:ngen_maker__freshi_D:=ngen_maker__freshi_G lits_Make_K ngen_maker__freshi_N2
abbrev ngen_maker__freshl_lay:Lay:={ T:=[(0,.ptr 0 0),(1,.int .i64),(2,.func 172 [] [.ptr 8 0,.ptr 9 0])],h:=[(0,.cells yRg8 161),(1,.arr (.int .i64) 3),(2,.arr Za0 95),(3,.arr (.int .i64) 3),(4,.arr (.int .i64) 3),(5,.arr (.int .i64) 3),(6,.arr Za1 116),(7,.arr Za0 150),(8,.cells [.ptr 0 0] 159),(9,.cells [.int .i64] 3)],nx:=10 }
abbrev ngen_maker__freshl_outs:List (Ev.Ex×Lay):=[(.ret,{ T:=[(0,.hd 11 (.int .i64))],h:=yRg4,nx:=12 })]
abbrev ngen_maker__freshl_T:=TL ngen_maker__freshl_lay.σs→Option (Out ngen_maker__freshl_outs)
abbrev ngen_maker__freshl_D:=Kb 171 3 ngen_maker__freshl_lay 1 ngen_maker__freshl_outs
abbrev ngen_maker__freshl_lay2:Lay:={ T:=[(0,.ptr 0 0),(2,.func 172 [] [.ptr 8 0,.ptr 9 0]),(6,.hd 11 (.int .i64)),(7,.int .i64),(8,.int .i64)],h:=yRg4,nx:=12 }
abbrev ngen_maker__freshl_outs2:List (Ev.Ex×Lay):=[((.exit 0),{ T:=[(6,.hd 11 (.int .i64))],h:=yRg4,nx:=12 })]
abbrev ngen_maker__freshl_T2:=TL ngen_maker__freshl_lay2.σs→Option (Out ngen_maker__freshl_outs2)
abbrev ngen_maker__freshl_D2:=Ld 10 37 (Zb5 [0] (Zaa Tryz.f171)) ngen_maker__freshl_lay2 ngen_maker__freshl_outs2
def ngen_maker__freshl_B2 (F0:lits_Make_T) (t7 t8 b0_0:Int) (b1 b3 b4 b5:List Int) (b6:List (Sh.T Za1)) (b7:List (Sh.T Za0)) (b9_0:Int) (b10:List (Sh.T Za0)) (b11:List Int):Option (TL ngen_maker__freshl_lay2.σs⊕Out ngen_maker__freshl_outs2):=
 br (iL t8 t7)
 (
  bnd (F0 ((IntKind.wrap .i64 (b0_0+(1:Int))),(false,()))) fun x0=>
  chk (room 24 (List.length (ap b10 (((IntKind.wrap .i64 (b0_0+(1:Int))),(x0.1,(b9_0,()))) :: []))))<|
  bnd (F0 ((IntKind.wrap .i64 (b0_0+(1:Int))),(false,()))) fun x1=>
  chk (room 8 (List.length (ap b11 (x1.1 :: []))))<|
  some (.inl (t7,((IntKind.wrap .i64 (t8+(1:Int))),((IntKind.wrap .i64 (b0_0+(1:Int))),(b1,(b3,(b4,(b5,(b6,(b7,(b9_0,((ap b10 (((IntKind.wrap .i64 (b0_0+(1:Int))),(x0.1,(b9_0,()))) :: [])),((ap b11 (x1.1 :: [])),()))))))))))))))
 (
  some (.inr (b0_0,(b1,(b3,(b4,(b5,(b6,(b7,(b9_0,(b10,(b11,()))))))))))))
def ngen_maker__freshl_M2 (c0:lits_Make_D) :ngen_maker__freshl_D2:=mkL (u12 (ngen_maker__freshl_B2 c0.F)) (pL (kD c0 k0) (eC Tryz.func172 (by kernel_rfl) e0) 5 l0 fun d=>by kernel_rfl)
def ngen_maker__freshl_N2:ngen_maker__freshl_D2:=ngen_maker__freshl_M2 lits_Make_K 
def ngen_maker__freshl_F (F0:lits_Make_T) (L2:ngen_maker__freshl_T2) (t1 b0_0:Int) (b1:List Int) (b2:List (Sh.T Za0)) (b3 b4 b5:List Int) (b6:List (Sh.T Za1)) (b7:List (Sh.T Za0)) (b9_0:Int):Option (Out ngen_maker__freshl_outs):=
 bnd (L2 (t1,((0:Int),(b0_0,(b1,(b3,(b4,(b5,(b6,(b7,(b9_0,(b2,([],()))))))))))))) fun x0=>
 some x0
def ngen_maker__freshl_G (c0:lits_Make_D) (M2:ngen_maker__freshl_D2):ngen_maker__freshl_D:=⟨u10 (ngen_maker__freshl_F c0.F M2.L),pB Tryz.func171 37 (kD c0 k0) (eC Tryz.func172 (by kernel_rfl) e0) 5 (sS (sC M2 l0)) fun d=>by kernel_rfl⟩
def ngen_maker__freshl_K:ngen_maker__freshl_D:=ngen_maker__freshl_G lits_Make_K ngen_maker__freshl_N2
abbrev ngen_maker__freshd_lay:Lay:={ T:=[(0,.ptr 0 0),(1,.int .i64),(2,.func 176 [] [])],h:=yRg0,nx:=8 }
abbrev ngen_maker__freshd_outs:List (Ev.Ex×Lay):=[(.ret,{ T:=[(0,.hd 8 (.int .i64))],h:=yRg2,nx:=9 })]
abbrev ngen_maker__freshd_T:=TL ngen_maker__freshd_lay.σs→Option (Out ngen_maker__freshd_outs)
abbrev ngen_maker__freshd_D:=Kb 171 3 ngen_maker__freshd_lay 1 ngen_maker__freshd_outs
abbrev ngen_maker__freshd_lay2:Lay:={ T:=[(0,.ptr 0 0),(2,.func 176 [] []),(6,.hd 8 (.int .i64)),(7,.int .i64),(8,.int .i64)],h:=yRg2,nx:=9 }
abbrev ngen_maker__freshd_outs2:List (Ev.Ex×Lay):=[((.exit 0),{ T:=[(6,.hd 8 (.int .i64))],h:=yRg2,nx:=9 })]
abbrev ngen_maker__freshd_T2:=TL ngen_maker__freshd_lay2.σs→Option (Out ngen_maker__freshd_outs2)
abbrev ngen_maker__freshd_D2:=Ld 8 37 (Zb5 [0] (Zaa Tryz.f171)) ngen_maker__freshd_lay2 ngen_maker__freshd_outs2
def ngen_maker__freshd_B2 (F0:ngen_maker__data_1_T) (F1:lits_Make_T) (t7 t8 b0_0:Int) (b1:List Int) (b2:List (Sh.T Za0)) (b3 b4 b5:List Int) (b6:List (Sh.T Za1)) (b7:List (Sh.T Za0)) (b8:List Int):Option (TL ngen_maker__freshd_lay2.σs⊕Out ngen_maker__freshd_outs2):=
 br (iL t8 t7)
 (
  bnd (F0 ((IntKind.wrap .i64 (b0_0+(1:Int))),())) fun x0=>
  bnd (F1 ((IntKind.wrap .i64 (b0_0+(1:Int))),(false,()))) fun x1=>
  chk (room 8 (List.length (ap b8 (x1.1 :: []))))<|
  some (.inl (t7,((IntKind.wrap .i64 (t8+(1:Int))),((IntKind.wrap .i64 (b0_0+(1:Int))),(b1,(b2,(b3,(b4,(b5,(b6,(b7,((ap b8 (x1.1 :: [])),())))))))))))))
 (
  some (.inr (b0_0,(b1,(b2,(b3,(b4,(b5,(b6,(b7,(b8,())))))))))))
def ngen_maker__freshd_M2 (c0:ngen_maker__data_1_D) (c1:lits_Make_D) :ngen_maker__freshd_D2:=mkL (u11 (ngen_maker__freshd_B2 c0.F c1.F)) (pL (kD c0 (kD c1 k0)) e0 1 l0 fun d=>by kernel_rfl)
def ngen_maker__freshd_N2:ngen_maker__freshd_D2:=ngen_maker__freshd_M2 ngen_maker__data_1_K lits_Make_K 
def ngen_maker__freshd_F (F0:ngen_maker__data_1_T) (F1:lits_Make_T) (L2:ngen_maker__freshd_T2) (t1 b0_0:Int) (b1:List Int) (b2:List (Sh.T Za0)) (b3 b4 b5:List Int) (b6:List (Sh.T Za1)) (b7:List (Sh.T Za0)):Option (Out ngen_maker__freshd_outs):=
 bnd (L2 (t1,((0:Int),(b0_0,(b1,(b2,(b3,(b4,(b5,(b6,(b7,([],())))))))))))) fun x0=>
 some x0
def ngen_maker__freshd_G (c0:ngen_maker__data_1_D) (c1:lits_Make_D) (M2:ngen_maker__freshd_D2):ngen_maker__freshd_D:=⟨u9 (ngen_maker__freshd_F c0.F c1.F M2.L),pB Tryz.func171 37 (kD c0 (kD c1 k0)) e0 1 (sS (sC M2 l0)) fun d=>by kernel_rfl⟩
def ngen_maker__freshd_K:ngen_maker__freshd_D:=ngen_maker__freshd_G ngen_maker__data_1_K lits_Make_K ngen_maker__freshd_N2
abbrev ngen_maker__fresha_lay:Lay:={ T:=[(0,.ptr 0 0),(1,.int .i64),(2,.func 177 [] [.ptr 8 0,.ptr 9 0,.ptr 10 0])],h:=[(0,.cells yRg8 161),(1,.arr (.int .i64) 3),(2,.arr Za0 95),(3,.arr (.int .i64) 3),(4,.arr (.int .i64) 3),(5,.arr (.int .i64) 3),(6,.arr Za1 116),(7,.arr Za0 150),(8,.cells [.ptr 0 0] 159),(9,.cells [.int .i64] 3),(10,.cells [.int .i64] 3)],nx:=11 }
abbrev ngen_maker__fresha_outs:List (Ev.Ex×Lay):=[(.ret,{ T:=[(0,.hd 12 (.int .i64))],h:=yRg3,nx:=13 })]
abbrev ngen_maker__fresha_T:=TL ngen_maker__fresha_lay.σs→Option (Out ngen_maker__fresha_outs)
abbrev ngen_maker__fresha_D:=Kb 171 3 ngen_maker__fresha_lay 1 ngen_maker__fresha_outs
abbrev ngen_maker__fresha_lay2:Lay:={ T:=[(0,.ptr 0 0),(2,.func 177 [] [.ptr 8 0,.ptr 9 0,.ptr 10 0]),(6,.hd 12 (.int .i64)),(7,.int .i64),(8,.int .i64)],h:=yRg3,nx:=13 }
abbrev ngen_maker__fresha_outs2:List (Ev.Ex×Lay):=[((.exit 0),{ T:=[(6,.hd 12 (.int .i64))],h:=yRg3,nx:=13 })]
abbrev ngen_maker__fresha_T2:=TL ngen_maker__fresha_lay2.σs→Option (Out ngen_maker__fresha_outs2)
abbrev ngen_maker__fresha_D2:=Ld 11 37 (Zb5 [0] (Zaa Tryz.f171)) ngen_maker__fresha_lay2 ngen_maker__fresha_outs2
def ngen_maker__fresha_B2 (F0:lits_Make_T) (t7 t8 b0_0:Int) (b1:List Int) (b2:List (Sh.T Za0)) (b3 b4 b5:List Int) (b6:List (Sh.T Za1)) (b9_0 b10_0:Int) (b11:List (Sh.T Za0)) (b12:List Int):Option (TL ngen_maker__fresha_lay2.σs⊕Out ngen_maker__fresha_outs2):=
 br (iL t8 t7)
 (
  chk (room 24 (List.length (ap b11 (((IntKind.wrap .i64 (b0_0+(1:Int))),(b9_0,(b10_0,()))) :: []))))<|
  bnd (F0 ((IntKind.wrap .i64 (b0_0+(1:Int))),(false,()))) fun x0=>
  chk (room 8 (List.length (ap b12 (x0.1 :: []))))<|
  some (.inl (t7,((IntKind.wrap .i64 (t8+(1:Int))),((IntKind.wrap .i64 (b0_0+(1:Int))),(b1,(b2,(b3,(b4,(b5,(b6,(b9_0,(b10_0,((ap b11 (((IntKind.wrap .i64 (b0_0+(1:Int))),(b9_0,(b10_0,()))) :: [])),((ap b12 (x0.1 :: [])),())))))))))))))))
 (
  some (.inr (b0_0,(b1,(b2,(b3,(b4,(b5,(b6,(b9_0,(b10_0,(b11,(b12,())))))))))))))
def ngen_maker__fresha_M2 (c0:lits_Make_D) :ngen_maker__fresha_D2:=mkL (u13 (ngen_maker__fresha_B2 c0.F)) (pL (kD c0 k0) (eC Tryz.func177 (by kernel_rfl) e0) 5 l0 fun d=>by kernel_rfl)
def ngen_maker__fresha_N2:ngen_maker__fresha_D2:=ngen_maker__fresha_M2 lits_Make_K 
def ngen_maker__fresha_F (F0:lits_Make_T) (L2:ngen_maker__fresha_T2) (t1 b0_0:Int) (b1:List Int) (b2:List (Sh.T Za0)) (b3 b4 b5:List Int) (b6:List (Sh.T Za1)) (b7:List (Sh.T Za0)) (b9_0 b10_0:Int):Option (Out ngen_maker__fresha_outs):=
 bnd (L2 (t1,((0:Int),(b0_0,(b1,(b2,(b3,(b4,(b5,(b6,(b9_0,(b10_0,(b7,([],())))))))))))))) fun x0=>
 some x0
def ngen_maker__fresha_G (c0:lits_Make_D) (M2:ngen_maker__fresha_D2):ngen_maker__fresha_D:=⟨u11 (ngen_maker__fresha_F c0.F M2.L),pB Tryz.func171 37 (kD c0 k0) (eC Tryz.func177 (by kernel_rfl) e0) 5 (sS (sC M2 l0)) fun d=>by kernel_rfl⟩
def ngen_maker__fresha_K:ngen_maker__fresha_D:=ngen_maker__fresha_G lits_Make_K ngen_maker__fresha_N2
abbrev ngen_maker__inputs_lay:Lay:={ T:=[(0,.ptr 0 0),(1,.int .i64)],h:=yRg0,nx:=8 }
abbrev ngen_maker__inputs_outs:List (Ev.Ex×Lay):=[(.ret,{ T:=[(0,.fz (.int .i64))],h:=[(0,.cells [.int .i64,.hd 8 (.int .i64),.hd 2 Za0,.hd 3 (.int .i64),.hd 4 (.int .i64),.hd 5 (.int .i64),.hd 6 Za1,.hd 7 Za0] 161),(2,.arr Za0 95),(3,.arr (.int .i64) 3),(4,.arr (.int .i64) 3),(5,.arr (.int .i64) 3),(6,.arr Za1 116),(7,.arr Za0 150),(8,.arr (.int .i64) 3)],nx:=9 })]
abbrev ngen_maker__inputs_T:=TL ngen_maker__inputs_lay.σs→Option (Out ngen_maker__inputs_outs)
abbrev ngen_maker__inputs_D:=Kb 99 2 ngen_maker__inputs_lay 1 ngen_maker__inputs_outs
def ngen_maker__inputs_F (F0:ngen_maker__fresha_T) (F1:ngen_maker__freshd_T) (F2:ngen_maker__freshl_T) (F3:ngen_maker__freshi_T) (t1 b0_0:Int) (b1:List Int) (b2:List (Sh.T Za0)) (b3 b4 b5:List Int) (b6:List (Sh.T Za1)) (b7:List (Sh.T Za0)):Option (Out ngen_maker__inputs_outs):=
 bnd (F3 (t1,(b0_0,(b1,(b2,(b3,(b4,(b5,(b6,(b7,())))))))))) fun x0=>
 some (x0.2.2.2.2.2.2.2.2.1,(x0.1,(x0.2.1,(x0.2.2.1,(x0.2.2.2.1,(x0.2.2.2.2.1,(x0.2.2.2.2.2.1,(x0.2.2.2.2.2.2.1,(x0.2.2.2.2.2.2.2.1,())))))))))
def ngen_maker__inputs_G (c0:ngen_maker__fresha_D) (c1:ngen_maker__freshd_D) (c2:ngen_maker__freshl_D) (c3:ngen_maker__freshi_D) :ngen_maker__inputs_D:=⟨u9 (ngen_maker__inputs_F c0.F c1.F c2.F c3.F),pB Tryz.func99 9 (kB c0 (kB c1 (kB c2 (kB c3 k0)))) (eC Tryz.func175 (by kernel_rfl) e0) 5 (sS l0) fun d=>by kernel_rfl⟩
def ngen_maker__inputs_K:ngen_maker__inputs_D:=ngen_maker__inputs_G ngen_maker__fresha_K ngen_maker__freshd_K ngen_maker__freshl_K ngen_maker__freshi_K 
abbrev ngen_maker__latches_lay:Lay:=yRg9
abbrev ngen_maker__latches_outs:List (Ev.Ex×Lay):=[(.ret,{ T:=[(0,.hd 9 (.int .i64))],h:=[(0,.cells yRg11 161),(1,.arr (.int .i64) 3),(3,.arr (.int .i64) 3),(4,.arr (.int .i64) 3),(5,.arr (.int .i64) 3),(6,.arr Za1 116),(7,.arr Za0 150),(8,.arr Za0 95),(9,.arr (.int .i64) 3)],nx:=10 })]
abbrev ngen_maker__latches_T:=TL ngen_maker__latches_lay.σs→Option (Out ngen_maker__latches_outs)
abbrev ngen_maker__latches_D:=Kb 89 3 ngen_maker__latches_lay 1 ngen_maker__latches_outs
def ngen_maker__latches_F (F0:lits_Make_T) (F1:ngen_maker__fresha_T) (F2:ngen_maker__freshd_T) (F3:ngen_maker__freshl_T) (F4:ngen_maker__freshi_T) (t1 t2 b0_0:Int) (b1:List Int) (b2:List (Sh.T Za0)) (b3 b4 b5:List Int) (b6:List (Sh.T Za1)) (b7:List (Sh.T Za0)):Option (Out ngen_maker__latches_outs):=
 bnd (F3 (t1,(b0_0,(b1,(b2,(b3,(b4,(b5,(b6,(b7,(t2,()))))))))))) fun x0=>
 some (x0.1,(x0.2.1,(x0.2.2.1,(x0.2.2.2.1,(x0.2.2.2.2.1,(x0.2.2.2.2.2.1,(x0.2.2.2.2.2.2.1,x0.2.2.2.2.2.2.2.2)))))))
def ngen_maker__latches_G (c0:lits_Make_D) (c1:ngen_maker__fresha_D) (c2:ngen_maker__freshd_D) (c3:ngen_maker__freshl_D) (c4:ngen_maker__freshi_D) :ngen_maker__latches_D:=⟨u10 (ngen_maker__latches_F c0.F c1.F c2.F c3.F c4.F),pB Tryz.func89 11 (kD c0 (kB c1 (kB c2 (kB c3 (kB c4 k0))))) (eC Tryz.func172 (by kernel_rfl) e0) 5 (sS l0) fun d=>by kernel_rfl⟩
def ngen_maker__latches_K:ngen_maker__latches_D:=ngen_maker__latches_G lits_Make_K ngen_maker__fresha_K ngen_maker__freshd_K ngen_maker__freshl_K ngen_maker__freshi_K 
abbrev ngen_maker__data_lay:Lay:={ T:=[(0,.ptr 0 0),(1,.int .i64)],h:=yRg0,nx:=8 }
abbrev ngen_maker__data_outs:List (Ev.Ex×Lay):=[(.ret,{ T:=[(0,.fz (.int .i64))],h:=yRg0,nx:=8 })]
abbrev ngen_maker__data_T:=TL ngen_maker__data_lay.σs→Option (Out ngen_maker__data_outs)
abbrev ngen_maker__data_D:=Kb 100 2 ngen_maker__data_lay 1 ngen_maker__data_outs
def ngen_maker__data_F (F0:ngen_maker__fresha_T) (F1:ngen_maker__freshd_T) (F2:ngen_maker__freshl_T) (F3:ngen_maker__freshi_T) (t1 b0_0:Int) (b1:List Int) (b2:List (Sh.T Za0)) (b3 b4 b5:List Int) (b6:List (Sh.T Za1)) (b7:List (Sh.T Za0)):Option (Out ngen_maker__data_outs):=
 bnd (F1 (t1,(b0_0,(b1,(b2,(b3,(b4,(b5,(b6,(b7,())))))))))) fun x0=>
 some (x0.2.2.2.2.2.2.2.2.1,(x0.1,(x0.2.1,(x0.2.2.1,(x0.2.2.2.1,(x0.2.2.2.2.1,(x0.2.2.2.2.2.1,(x0.2.2.2.2.2.2.1,(x0.2.2.2.2.2.2.2.1,())))))))))
def ngen_maker__data_G (c0:ngen_maker__fresha_D) (c1:ngen_maker__freshd_D) (c2:ngen_maker__freshl_D) (c3:ngen_maker__freshi_D) :ngen_maker__data_D:=⟨u9 (ngen_maker__data_F c0.F c1.F c2.F c3.F),pB Tryz.func100 8 (kB c0 (kB c1 (kB c2 (kB c3 k0)))) e0 1 (sS l0) fun d=>by kernel_rfl⟩
def ngen_maker__data_K:ngen_maker__data_D:=ngen_maker__data_G ngen_maker__fresha_K ngen_maker__freshd_K ngen_maker__freshl_K ngen_maker__freshi_K 
abbrev ngen_maker__and_lay:Lay:=yRg9
abbrev ngen_maker__and_outs:List (Ev.Ex×Lay):=[(.ret,yRg10)]
abbrev ngen_maker__and_T:=TL ngen_maker__and_lay.σs→Option (Out ngen_maker__and_outs)
abbrev ngen_maker__and_D:=Kb 102 3 ngen_maker__and_lay 1 ngen_maker__and_outs
def ngen_maker__and_F (F0:ngen_maker__fresha_T) (F1:ngen_maker__freshd_T) (F2:ngen_maker__freshl_T) (F3:ngen_maker__freshi_T) (t1 t2 b0_0:Int) (b1:List Int) (b2:List (Sh.T Za0)) (b3 b4 b5:List Int) (b6:List (Sh.T Za1)) (b7:List (Sh.T Za0)):Option (Out ngen_maker__and_outs):=
 bnd (F0 ((1:Int),(b0_0,(b1,(b2,(b3,(b4,(b5,(b6,(b7,(t1,(t2,())))))))))))) fun x0=>
 chk (inb (0:Int) (List.length x0.2.2.2.2.2.2.2.2.2.2.1))<|
 some ((gt (.int .i64) x0.2.2.2.2.2.2.2.2.2.2.1 (0:Int)),(x0.1,(x0.2.1,(x0.2.2.1,(x0.2.2.2.1,(x0.2.2.2.2.1,(x0.2.2.2.2.2.1,(x0.2.2.2.2.2.2.1,(x0.2.2.2.2.2.2.2.2.2.1,())))))))))
def ngen_maker__and_G (c0:ngen_maker__fresha_D) (c1:ngen_maker__freshd_D) (c2:ngen_maker__freshl_D) (c3:ngen_maker__freshi_D) :ngen_maker__and_D:=⟨u10 (ngen_maker__and_F c0.F c1.F c2.F c3.F),pB Tryz.func102 12 (kB c0 (kB c1 (kB c2 (kB c3 k0)))) (eC Tryz.func177 (by kernel_rfl) e0) 5 (sS l0) fun d=>by kernel_rfl⟩
def ngen_maker__and_K:ngen_maker__and_D:=ngen_maker__and_G ngen_maker__fresha_K ngen_maker__freshd_K ngen_maker__freshl_K ngen_maker__freshi_K 
abbrev ngen_maker__or_lay:Lay:=yRg9
abbrev ngen_maker__or_outs:List (Ev.Ex×Lay):=[(.ret,yRg10)]
abbrev ngen_maker__or_T:=TL ngen_maker__or_lay.σs→Option (Out ngen_maker__or_outs)
abbrev ngen_maker__or_D:=Kb 156 3 ngen_maker__or_lay 1 ngen_maker__or_outs
def ngen_maker__or_F (F0:lits_Not_T) (F1:ngen_maker__and_T) (t1 t2 b0_0:Int) (b1:List Int) (b2:List (Sh.T Za0)) (b3 b4 b5:List Int) (b6:List (Sh.T Za1)) (b7:List (Sh.T Za0)):Option (Out ngen_maker__or_outs):=
 bnd (F0 (t1,())) fun x0=>
 bnd (F0 (t2,())) fun x1=>
 bnd (F1 (x0.1,(x1.1,(b0_0,(b1,(b2,(b3,(b4,(b5,(b6,(b7,()))))))))))) fun x2=>
 bnd (F0 (x2.1,())) fun x3=>
 some (x3.1,x2.2)
def ngen_maker__or_G (c0:lits_Not_D) (c1:ngen_maker__and_D) :ngen_maker__or_D:=⟨u10 (ngen_maker__or_F c0.F c1.F),pB Tryz.func156 14 (kD c0 (kB c1 k0)) e0 1 (sS l0) fun d=>by kernel_rfl⟩
def ngen_maker__or_K:ngen_maker__or_D:=ngen_maker__or_G lits_Not_K ngen_maker__and_K 
abbrev ngen_maker__all_lay:Lay:={ T:=[(0,.ptr 0 0),(1,.fz (.int .i64))],h:=yRg0,nx:=8 }
abbrev ngen_maker__all_outs:List (Ev.Ex×Lay):=[(.ret,yRg10)]
abbrev ngen_maker__all_T:=TL ngen_maker__all_lay.σs→Option (Out ngen_maker__all_outs)
abbrev ngen_maker__all_D:=Kb 92 2 ngen_maker__all_lay 1 ngen_maker__all_outs
abbrev ngen_maker__all_lay4:Lay:={ T:=[(5,.int .i64),(6,.func 102 [.ptr 0 0] []),(11,.fz (.int .i64)),(12,.int .i64),(13,.int .i64)],h:=yRg1,nx:=9 }
abbrev ngen_maker__all_outs4:List (Ev.Ex×Lay):=[((.exit 0),{ T:=[(5,.int .i64)],h:=yRg1,nx:=9 })]
abbrev ngen_maker__all_T4:=TL ngen_maker__all_lay4.σs→Option (Out ngen_maker__all_outs4)
abbrev ngen_maker__all_D4:=Ld 8 23 (Zb5 [0] (Zaa Tryz.f92)) ngen_maker__all_lay4 ngen_maker__all_outs4
def ngen_maker__all_B4 (F0:ngen_maker__and_T) (t5:Int) (t11:List Int) (t12 t13 b0_0:Int) (b1:List Int) (b2:List (Sh.T Za0)) (b3 b4 b5:List Int) (b6:List (Sh.T Za1)) (b8:List (Sh.T Za0)):Option (TL ngen_maker__all_lay4.σs⊕Out ngen_maker__all_outs4):=
 br (iL t13 t12)
 (
  chk (inb t13 (List.length t11))<|
  bnd (F0 (t5,((gt (.int .i64) t11 t13),(b0_0,(b1,(b2,(b3,(b4,(b5,(b6,(b8,()))))))))))) fun x0=>
  some (.inl (x0.1,(t11,(t12,((IntKind.wrap .i64 (t13+(1:Int))),x0.2))))))
 (
  some (.inr (t5,(b0_0,(b1,(b2,(b3,(b4,(b5,(b6,(b8,())))))))))))
def ngen_maker__all_M4 (c0:ngen_maker__and_D) :ngen_maker__all_D4:=mkL (u12 (ngen_maker__all_B4 c0.F)) (pL (kB c0 k0) e0 1 l0 fun d=>by kernel_rfl)
def ngen_maker__all_N4:ngen_maker__all_D4:=ngen_maker__all_M4 ngen_maker__and_K 
def ngen_maker__all_F (F0:ngen_maker__and_T) (L4:ngen_maker__all_T4) (t1:List Int) (b0_0:Int) (b1:List Int) (b2:List (Sh.T Za0)) (b3 b4 b5:List Int) (b6:List (Sh.T Za1)) (b7:List (Sh.T Za0)):Option (Out ngen_maker__all_outs):=
 bnd (L4 ((1:Int),(t1,((Int.ofNat (List.length t1)),((0:Int),(b0_0,(b1,(b2,(b3,(b4,(b5,(b6,(b7,()))))))))))))) fun x0=>
 some x0
def ngen_maker__all_G (c0:ngen_maker__and_D) (M4:ngen_maker__all_D4):ngen_maker__all_D:=⟨u9 (ngen_maker__all_F c0.F M4.L),pB Tryz.func92 23 (kB c0 k0) e0 1 (sS (sC M4 l0)) fun d=>by kernel_rfl⟩
def ngen_maker__all_K:ngen_maker__all_D:=ngen_maker__all_G ngen_maker__and_K ngen_maker__all_N4
abbrev ngen_maker__choose_lay:Lay:={ T:=[(0,.ptr 0 0),(1,.int .i64),(2,.int .i64),(3,.int .i64)],h:=yRg0,nx:=8 }
abbrev ngen_maker__choose_outs:List (Ev.Ex×Lay):=[(.ret,yRg10)]
abbrev ngen_maker__choose_T:=TL ngen_maker__choose_lay.σs→Option (Out ngen_maker__choose_outs)
abbrev ngen_maker__choose_D:=Kb 157 4 ngen_maker__choose_lay 1 ngen_maker__choose_outs
def ngen_maker__choose_F (F0:lits_Not_T) (F1:ngen_maker__or_T) (F2:ngen_maker__and_T) (t1 t2 t3 b0_0:Int) (b1:List Int) (b2:List (Sh.T Za0)) (b3 b4 b5:List Int) (b6:List (Sh.T Za1)) (b7:List (Sh.T Za0)):Option (Out ngen_maker__choose_outs):=
 bnd (F2 (t1,(t2,(b0_0,(b1,(b2,(b3,(b4,(b5,(b6,(b7,()))))))))))) fun x0=>
 bnd (F0 (t1,())) fun x1=>
 bnd (F2 (x1.1,(t3,x0.2))) fun x2=>
 bnd (F1 (x0.1,x2)) fun x3=>
 some x3
def ngen_maker__choose_G (c0:lits_Not_D) (c1:ngen_maker__or_D) (c2:ngen_maker__and_D) :ngen_maker__choose_D:=⟨u11 (ngen_maker__choose_F c0.F c1.F c2.F),pB Tryz.func157 24 (kD c0 (kB c1 (kB c2 k0))) e0 1 (sS l0) fun d=>by kernel_rfl⟩
def ngen_maker__choose_K:ngen_maker__choose_D:=ngen_maker__choose_G lits_Not_K ngen_maker__or_K ngen_maker__and_K 
abbrev ngen_maker__counto_lay:Lay:={ T:=[(0,.ptr 0 0),(1,.hd 8 (.int .i64)),(2,.int .i64),(3,.int .i64)],h:=yRg2,nx:=9 }
abbrev ngen_maker__counto_outs:List (Ev.Ex×Lay):=[(.ret,{ T:=[],h:=yRg6,nx:=10 })]
abbrev ngen_maker__counto_T:=TL ngen_maker__counto_lay.σs→Option (Out ngen_maker__counto_outs)
abbrev ngen_maker__counto_D:=Kb 90 4 ngen_maker__counto_lay 0 ngen_maker__counto_outs
abbrev ngen_maker__counto_lay1:Lay:={ T:=[(0,.ptr 0 0),(2,.int .i64),(3,.int .i64),(10,.hd 8 (.int .i64)),(11,.int .i64),(12,.int .i64)],h:=yRg6,nx:=10 }
abbrev ngen_maker__counto_outs1:List (Ev.Ex×Lay):=[((.exit 0),{ T:=[],h:=yRg6,nx:=10 })]
abbrev ngen_maker__counto_T1:=TL ngen_maker__counto_lay1.σs→Option (Out ngen_maker__counto_outs1)
abbrev ngen_maker__counto_D1:=Ld 9 38 (Zb5 [0] (Zaa Tryz.f90)) ngen_maker__counto_lay1 ngen_maker__counto_outs1
def ngen_maker__counto_B1 (F0:lits_Not_T) (F1:ngen_maker__and_T) (F2:ngen_maker__choose_T) (t2 t3 t11 t12 b0_0:Int) (b1:List Int) (b2:List (Sh.T Za0)) (b3 b4 b5:List Int) (b6:List (Sh.T Za1)) (b8:List Int) (b9:List (Sh.T Za0)):Option (TL ngen_maker__counto_lay1.σs⊕Out ngen_maker__counto_outs1):=
 br (iL t12 t11)
 (
  chk (inb t12 (List.length b8))<|
  bnd (F0 (t3,())) fun x0=>
  bnd (F2 ((gt (.int .i64) b8 t12),(x0.1,(t3,(b0_0,(b1,(b2,(b3,(b4,(b5,(b6,(b9,())))))))))))) fun x1=>
  chk (inb (IntKind.wrap .i64 (t2+t12)) (List.length x1.2.2.2.1))<|
  chk (iQ t2 t2)<|
  chk (iQ t12 t12)<|
  chk (iQ (IntKind.wrap .i64 (t2+t12)) (IntKind.wrap .i64 (t2+t12)))<|
  bnd (F1 ((gt (.int .i64) b8 t12),(t3,(x1.2.1,(x1.2.2.1,((List.set x1.2.2.2.1 (Int.toNat (IntKind.wrap .i64 (t2+t12))) ((gt Za0 x1.2.2.2.1 (IntKind.wrap .i64 (t2+t12))).1,(x1.1,((gt Za0 x1.2.2.2.1 (IntKind.wrap .i64 (t2+t12))).2.2.1,())))),x1.2.2.2.2)))))) fun x2=>
  some (.inl (t2,(x2.1,(t11,((IntKind.wrap .i64 (t12+(1:Int))),(x2.2.1,(x2.2.2.1,(x2.2.2.2.1,(x2.2.2.2.2.1,(x2.2.2.2.2.2.1,(x2.2.2.2.2.2.2.1,(x2.2.2.2.2.2.2.2.1,(b8,(x2.2.2.2.2.2.2.2.2.1,())))))))))))))))
 (
  some (.inr (b0_0,(b1,(b2,(b3,(b4,(b5,(b6,(b8,(b9,())))))))))))
def ngen_maker__counto_M1 (c0:lits_Not_D) (c1:ngen_maker__and_D) (c2:ngen_maker__choose_D) :ngen_maker__counto_D1:=mkL (u13 (ngen_maker__counto_B1 c0.F c1.F c2.F)) (pL (kD c0 (kB c1 (kB c2 k0))) e0 1 l0 fun d=>by kernel_rfl)
def ngen_maker__counto_N1:ngen_maker__counto_D1:=ngen_maker__counto_M1 lits_Not_K ngen_maker__and_K ngen_maker__choose_K 
def ngen_maker__counto_F (F0:lits_Not_T) (F1:ngen_maker__and_T) (F2:ngen_maker__choose_T) (L1:ngen_maker__counto_T1) (t2 t3 b0_0:Int) (b1:List Int) (b2:List (Sh.T Za0)) (b3 b4 b5:List Int) (b6:List (Sh.T Za1)) (b7:List (Sh.T Za0)) (b8:List Int):Option (Out ngen_maker__counto_outs):=
 bnd (L1 (t2,(t3,((Int.ofNat (List.length b8)),((0:Int),(b0_0,(b1,(b2,(b3,(b4,(b5,(b6,(b8,(b7,())))))))))))))) fun x0=>
 some x0
def ngen_maker__counto_G (c0:lits_Not_D) (c1:ngen_maker__and_D) (c2:ngen_maker__choose_D) (M1:ngen_maker__counto_D1):ngen_maker__counto_D:=⟨u11 (ngen_maker__counto_F c0.F c1.F c2.F M1.L),pB Tryz.func90 38 (kD c0 (kB c1 (kB c2 k0))) e0 1 (sS (sC M1 l0)) fun d=>by kernel_rfl⟩
def ngen_maker__counto_K:ngen_maker__counto_D:=ngen_maker__counto_G lits_Not_K ngen_maker__and_K ngen_maker__choose_K ngen_maker__counto_N1
abbrev gen_Counter_lay7:Lay:={ T:=[(1,.int .u64),(4,.ptr 0 0),(6,.ptr 1 0),(7,.hd 9 (.int .i64)),(25,.int .i64),(26,.int .i64)],h:=yRg7,nx:=10 }
abbrev gen_Counter_outs7:List (Ev.Ex×Lay):=[((.exit 0),{ T:=[(4,.ptr 0 0),(6,.ptr 1 0),(7,.hd 9 (.int .i64))],h:=yRg7,nx:=10 })]
abbrev gen_Counter_T7:=TL gen_Counter_lay7.σs→Option (Out gen_Counter_outs7)
abbrev gen_Counter_D7:=Ld 0 61 (Zb5 [0] (Zaa Tryz.f40)) gen_Counter_lay7 gen_Counter_outs7
def gen_Counter_B7 (F0:lits_Xor_T) (t1 t25 t26 b0_0 b1_0:Int) (b2:List Int) (b3:List (Sh.T Za0)) (b4 b5 b6:List Int) (b7:List (Sh.T Za1)) (b8:List (Sh.T Za0)) (b9:List Int):Option (TL gen_Counter_lay7.σs⊕Out gen_Counter_outs7):=
 br (iL t26 t25)
 (
  chk (inb t26 (List.length b9))<|
  chk (iE (0:Int) t26)<|
  bnd (F0 ((gt (.int .i64) b9 t26),((iQ (bandI .u64 (Int.fdiv t1 (HPow.hPow (2:Int) (Min.min (Int.toNat t26) 64))) (1:Int)) (0:Int)),()))) fun x0=>
  chk (inb t26 (List.length b9))<|
  some (.inl (t1,(t25,((IntKind.wrap .i64 (t26+(1:Int))),(b0_0,(b1_0,(b2,(b3,(b4,(b5,(b6,(b7,(b8,((List.set b9 (Int.toNat t26) x0.1),())))))))))))))))
 (
  some (.inr (b0_0,(b1_0,(b2,(b3,(b4,(b5,(b6,(b7,(b8,(b9,()))))))))))))
def gen_Counter_M7 (c0:lits_Xor_D) :gen_Counter_D7:=mkL (u13 (gen_Counter_B7 c0.F)) (pL (kD c0 k0) e0 1 l0 fun d=>by kernel_rfl)
def gen_Counter_N7:gen_Counter_D7:=gen_Counter_M7 lits_Xor_K 
abbrev gen_Counter_σs:List Sh:=[(.int .i64),(.int .u64)]
abbrev gen_Counter_τs:List Sh:=[Za5,(.int .i64)]
abbrev gen_Counter_T:=TL gen_Counter_σs→Option (TL gen_Counter_τs)
abbrev gen_Counter_D:=Kd 40 gen_Counter_σs gen_Counter_τs
def gen_Counter_F (F0:lits_Xor_T) (F1:ngen_maker__all_T) (F2:ngen_maker__counto_T) (F3:ngen_maker__latches_T) (L7:gen_Counter_T7) (a0 a1:Int):Option (TL gen_Counter_τs):=
 br (iL a0 (1:Int))
 (
  some (((0:Int),([],([],([],([],([],([],([],())))))))),((1:Int),())))
 (
  br (selB false true (iL (20:Int) a0))
  (
   some (((0:Int),([],([],([],([],([],([],([],())))))))),((1:Int),())))
  (
   bnd (F3 (a0,((0:Int),((0:Int),([],([],([],([],([],([],([],()))))))))))) fun x0=>
   bnd (F2 ((0:Int),((1:Int),(x0.1,(x0.2.1,(x0.2.2.2.2.2.2.2.1,(x0.2.2.1,(x0.2.2.2.1,(x0.2.2.2.2.1,(x0.2.2.2.2.2.1,(x0.2.2.2.2.2.2.1,(x0.2.2.2.2.2.2.2.2.1,())))))))))))) fun x1=>
   bnd (L7 (a1,((Int.ofNat (List.length x1.2.2.2.2.2.2.2.1)),((0:Int),((0:Int),(x1.1,(x1.2.1,(x1.2.2.1,(x1.2.2.2.1,(x1.2.2.2.2.1,(x1.2.2.2.2.2.1,(x1.2.2.2.2.2.2.1,(x1.2.2.2.2.2.2.2.2.1,(x1.2.2.2.2.2.2.2.1,())))))))))))))) fun x2=>
   bnd (F1 (x2.2.2.2.2.2.2.2.2.2.1,(x2.2.1,(x2.2.2.1,(x2.2.2.2.1,(x2.2.2.2.2.1,(x2.2.2.2.2.2.1,(x2.2.2.2.2.2.2.1,(x2.2.2.2.2.2.2.2.1,(x2.2.2.2.2.2.2.2.2.1,())))))))))) fun x3=>
   chk (room 8 (List.length (ap x3.2.2.2.2.2.1 (x3.1 :: []))))<|
   some ((x3.2.1,(x3.2.2.1,(x3.2.2.2.1,(x3.2.2.2.2.1,((ap x3.2.2.2.2.2.1 (x3.1 :: [])),x3.2.2.2.2.2.2))))),((0:Int),()))))
def gen_Counter_G (c0:lits_Xor_D) (c1:ngen_maker__all_D) (c2:ngen_maker__counto_D) (c3:ngen_maker__latches_D) (M7:gen_Counter_D7):gen_Counter_D:=⟨u2 (gen_Counter_F c0.F c1.F c2.F c3.F M7.L),pD Tryz.func40 61 (kD c0 (kB c1 (kB c2 (kB c3 k0)))) e0 1 (sS (sC M7 l0)) fun d=>by kernel_rfl⟩
def gen_Counter_K:gen_Counter_D:=gen_Counter_G lits_Xor_K ngen_maker__all_K ngen_maker__counto_K ngen_maker__latches_K gen_Counter_N7
abbrev ngen_maker__latchesf_lay:Lay:=yRg9
abbrev ngen_maker__latchesf_outs:List (Ev.Ex×Lay):=[(.ret,{ T:=[(0,.fz (.int .i64))],h:=[(0,.cells yRg11 161),(1,.arr (.int .i64) 3),(3,.arr (.int .i64) 3),(4,.arr (.int .i64) 3),(5,.arr (.int .i64) 3),(6,.arr Za1 116),(7,.arr Za0 150),(8,.arr Za0 95)],nx:=9 })]
abbrev ngen_maker__latchesf_T:=TL ngen_maker__latchesf_lay.σs→Option (Out ngen_maker__latchesf_outs)
abbrev ngen_maker__latchesf_D:=Kb 89 3 ngen_maker__latchesf_lay 1 ngen_maker__latchesf_outs
def ngen_maker__latchesf_F (F0:lits_Make_T) (F1:ngen_maker__fresha_T) (F2:ngen_maker__freshd_T) (F3:ngen_maker__freshl_T) (F4:ngen_maker__freshi_T) (t1 t2 b0_0:Int) (b1:List Int) (b2:List (Sh.T Za0)) (b3 b4 b5:List Int) (b6:List (Sh.T Za1)) (b7:List (Sh.T Za0)):Option (Out ngen_maker__latchesf_outs):=
 bnd (F3 (t1,(b0_0,(b1,(b2,(b3,(b4,(b5,(b6,(b7,(t2,()))))))))))) fun x0=>
 some (x0.2.2.2.2.2.2.2.2.2.1,(x0.1,(x0.2.1,(x0.2.2.1,(x0.2.2.2.1,(x0.2.2.2.2.1,(x0.2.2.2.2.2.1,(x0.2.2.2.2.2.2.1,(x0.2.2.2.2.2.2.2.2.1,())))))))))
def ngen_maker__latchesf_G (c0:lits_Make_D) (c1:ngen_maker__fresha_D) (c2:ngen_maker__freshd_D) (c3:ngen_maker__freshl_D) (c4:ngen_maker__freshi_D) :ngen_maker__latchesf_D:=⟨u10 (ngen_maker__latchesf_F c0.F c1.F c2.F c3.F c4.F),pB Tryz.func89 11 (kD c0 (kB c1 (kB c2 (kB c3 (kB c4 k0))))) (eC Tryz.func172 (by kernel_rfl) e0) 5 (sS l0) fun d=>by kernel_rfl⟩
def ngen_maker__latchesf_K:ngen_maker__latchesf_D:=ngen_maker__latchesf_G lits_Make_K ngen_maker__fresha_K ngen_maker__freshd_K ngen_maker__freshl_K ngen_maker__freshi_K 
abbrev ngen_maker__count_lay:Lay:={ T:=[(0,.ptr 0 0),(1,.fz (.int .i64)),(2,.int .i64),(3,.int .i64)],h:=yRg0,nx:=8 }
abbrev ngen_maker__count_outs:List (Ev.Ex×Lay):=[(.ret,{ T:=[],h:=yRg1,nx:=9 })]
abbrev ngen_maker__count_T:=TL ngen_maker__count_lay.σs→Option (Out ngen_maker__count_outs)
abbrev ngen_maker__count_D:=Kb 90 4 ngen_maker__count_lay 0 ngen_maker__count_outs
abbrev ngen_maker__count_lay1:Lay:={ T:=[(0,.ptr 0 0),(2,.int .i64),(3,.int .i64),(10,.fz (.int .i64)),(11,.int .i64),(12,.int .i64)],h:=yRg1,nx:=9 }
abbrev ngen_maker__count_outs1:List (Ev.Ex×Lay):=[((.exit 0),{ T:=[],h:=yRg1,nx:=9 })]
abbrev ngen_maker__count_T1:=TL ngen_maker__count_lay1.σs→Option (Out ngen_maker__count_outs1)
abbrev ngen_maker__count_D1:=Ld 8 38 (Zb5 [0] (Zaa Tryz.f90)) ngen_maker__count_lay1 ngen_maker__count_outs1
def ngen_maker__count_B1 (F0:lits_Not_T) (F1:ngen_maker__and_T) (F2:ngen_maker__choose_T) (t2 t3:Int) (t10:List Int) (t11 t12 b0_0:Int) (b1:List Int) (b2:List (Sh.T Za0)) (b3 b4 b5:List Int) (b6:List (Sh.T Za1)) (b8:List (Sh.T Za0)):Option (TL ngen_maker__count_lay1.σs⊕Out ngen_maker__count_outs1):=
 br (iL t12 t11)
 (
  chk (inb t12 (List.length t10))<|
  bnd (F0 (t3,())) fun x0=>
  bnd (F2 ((gt (.int .i64) t10 t12),(x0.1,(t3,(b0_0,(b1,(b2,(b3,(b4,(b5,(b6,(b8,())))))))))))) fun x1=>
  chk (inb (IntKind.wrap .i64 (t2+t12)) (List.length x1.2.2.2.1))<|
  chk (iQ t2 t2)<|
  chk (iQ t12 t12)<|
  chk (iQ (IntKind.wrap .i64 (t2+t12)) (IntKind.wrap .i64 (t2+t12)))<|
  bnd (F1 ((gt (.int .i64) t10 t12),(t3,(x1.2.1,(x1.2.2.1,((List.set x1.2.2.2.1 (Int.toNat (IntKind.wrap .i64 (t2+t12))) ((gt Za0 x1.2.2.2.1 (IntKind.wrap .i64 (t2+t12))).1,(x1.1,((gt Za0 x1.2.2.2.1 (IntKind.wrap .i64 (t2+t12))).2.2.1,())))),x1.2.2.2.2)))))) fun x2=>
  some (.inl (t2,(x2.1,(t10,(t11,((IntKind.wrap .i64 (t12+(1:Int))),x2.2)))))))
 (
  some (.inr (b0_0,(b1,(b2,(b3,(b4,(b5,(b6,(b8,()))))))))))
def ngen_maker__count_M1 (c0:lits_Not_D) (c1:ngen_maker__and_D) (c2:ngen_maker__choose_D) :ngen_maker__count_D1:=mkL (u13 (ngen_maker__count_B1 c0.F c1.F c2.F)) (pL (kD c0 (kB c1 (kB c2 k0))) e0 1 l0 fun d=>by kernel_rfl)
def ngen_maker__count_N1:ngen_maker__count_D1:=ngen_maker__count_M1 lits_Not_K ngen_maker__and_K ngen_maker__choose_K 
def ngen_maker__count_F (F0:lits_Not_T) (F1:ngen_maker__and_T) (F2:ngen_maker__choose_T) (L1:ngen_maker__count_T1) (t1:List Int) (t2 t3 b0_0:Int) (b1:List Int) (b2:List (Sh.T Za0)) (b3 b4 b5:List Int) (b6:List (Sh.T Za1)) (b7:List (Sh.T Za0)):Option (Out ngen_maker__count_outs):=
 bnd (L1 (t2,(t3,(t1,((Int.ofNat (List.length t1)),((0:Int),(b0_0,(b1,(b2,(b3,(b4,(b5,(b6,(b7,())))))))))))))) fun x0=>
 some x0
def ngen_maker__count_G (c0:lits_Not_D) (c1:ngen_maker__and_D) (c2:ngen_maker__choose_D) (M1:ngen_maker__count_D1):ngen_maker__count_D:=⟨u11 (ngen_maker__count_F c0.F c1.F c2.F M1.L),pB Tryz.func90 38 (kD c0 (kB c1 (kB c2 k0))) e0 1 (sS (sC M1 l0)) fun d=>by kernel_rfl⟩
def ngen_maker__count_K:ngen_maker__count_D:=ngen_maker__count_G lits_Not_K ngen_maker__and_K ngen_maker__choose_K ngen_maker__count_N1
abbrev gen_within_σs:List Sh:=[(.int .i64),(.int .i64)]
abbrev gen_within_τs:List Sh:=[.bool]
abbrev gen_within_T:=TL gen_within_σs→Option (TL gen_within_τs)
abbrev gen_within_D:=Kd 98 gen_within_σs gen_within_τs
def gen_within_F (a0 a1:Int):Option (TL gen_within_τs):=
 br (iE (1:Int) a0)
 (
  br (selB true (iE a0 (16:Int)) false)
  (
   br (selB true (iE (1:Int) a1) false)
   (
    some ((selB true (iE a1 (16:Int)) false),()))
   (
    some (false,())))
  (
   some (false,())))
 (
  some (false,()))
def gen_within_G  :gen_within_D:=⟨u2 gen_within_F,pD Tryz.func98 19 k0 e0 1 (sS l0) fun d=>by kernel_rfl⟩
def gen_within_K:gen_within_D:=gen_within_G  
abbrev gen_Stack_σs:List Sh:=[(.int .i64),(.int .i64)]
abbrev gen_Stack_τs:List Sh:=[Za5,(.int .i64)]
abbrev gen_Stack_T:=TL gen_Stack_σs→Option (TL gen_Stack_τs)
abbrev gen_Stack_D:=Kd 44 gen_Stack_σs gen_Stack_τs
def gen_Stack_F (F0:lits_Not_T) (F1:Zb3g) (F2:gen_within_T) (F3:ngen_maker__all_T) (F4:ngen_maker__count_T) (F5:ngen_maker__counto_T) (F6:ngen_maker__and_T) (F7:ngen_maker__data_T) (F8:ngen_maker__latchesf_T) (F9:ngen_maker__latches_T) (F10:ngen_maker__inputs_T) (a0 a1:Int):Option (TL gen_Stack_τs):=
 bnd (F2 (a0,(a1,()))) fun x0=>
 br (Bool.not x0.1)
 (
  some (((0:Int),([],([],([],([],([],([],([],())))))))),((1:Int),())))
 (
  bnd (F10 ((1:Int),((0:Int),([],([],([],([],([],([],([],())))))))))) fun x1=>
  chk (inb (0:Int) (List.length x1.1))<|
  chk (iQ a1 a1)<|
  bnd (F10 ((1:Int),(x1.2.1,(x1.2.2.2.2.2.2.2.2.1,(x1.2.2.1,(x1.2.2.2.1,(x1.2.2.2.2.1,(x1.2.2.2.2.2.1,(x1.2.2.2.2.2.2.1,(x1.2.2.2.2.2.2.2.1,())))))))))) fun x2=>
  chk (inb (0:Int) (List.length x2.1))<|
  chk (inb (0:Int) (List.length x1.1))<|
  chk (Sh.beq (.int .i64) (gt (.int .i64) x1.1 (0:Int)) (gt (.int .i64) x1.1 (0:Int)))<|
  chk (iQ (gt (.int .i64) x1.1 (0:Int)) (gt (.int .i64) x1.1 (0:Int)))<|
  chk (iQ a1 a1)<|
  bnd (F10 (a1,(x2.2.1,(x2.2.2.2.2.2.2.2.2.1,(x2.2.2.1,(x2.2.2.2.1,(x2.2.2.2.2.1,(x2.2.2.2.2.2.1,(x2.2.2.2.2.2.2.1,(x2.2.2.2.2.2.2.2.1,())))))))))) fun x3=>
  chk (inb (0:Int) (List.length x1.1))<|
  chk (Sh.beq (.int .i64) (gt (.int .i64) x1.1 (0:Int)) (gt (.int .i64) x1.1 (0:Int)))<|
  chk (iQ (gt (.int .i64) x1.1 (0:Int)) (gt (.int .i64) x1.1 (0:Int)))<|
  chk (inb (0:Int) (List.length x2.1))<|
  chk (Sh.beq (.int .i64) (gt (.int .i64) x2.1 (0:Int)) (gt (.int .i64) x2.1 (0:Int)))<|
  chk (iQ (gt (.int .i64) x2.1 (0:Int)) (gt (.int .i64) x2.1 (0:Int)))<|
  bnd (F8 (a0,((0:Int),(x3.2.1,(x3.2.2.2.2.2.2.2.2.1,(x3.2.2.1,(x3.2.2.2.1,(x3.2.2.2.2.1,(x3.2.2.2.2.2.1,(x3.2.2.2.2.2.2.1,(x3.2.2.2.2.2.2.2.1,()))))))))))) fun x4=>
  bnd (F7 (a1,(x4.2.1,(x4.2.2.1,(x4.2.2.2.2.2.2.2.2.1,(x4.2.2.2.1,(x4.2.2.2.2.1,(x4.2.2.2.2.2.1,(x4.2.2.2.2.2.2.1,(x4.2.2.2.2.2.2.2.1,())))))))))) fun x5=>
  chk (inb (0:Int) (List.length x5.1))<|
  bnd (F1 ((gt (.int .i64) x5.1 (0:Int)),())) fun x6=>
  chk (room 72 (List.length (ap x5.2.2.2.2.2.2.2.1 ((a0,(a1,(false,((ap [] ((x6.1,(x4.1,())) :: [])),((ap [] (((gt (.int .i64) x1.1 (0:Int)),(x4.1,(x3.1,()))) :: [])),()))))) :: []))))<|
  bnd (F6 ((gt (.int .i64) x1.1 (0:Int)),((gt (.int .i64) x2.1 (0:Int)),(x5.2.1,(x5.2.2.1,(x5.2.2.2.1,(x5.2.2.2.2.1,(x5.2.2.2.2.2.1,(x5.2.2.2.2.2.2.1,((ap x5.2.2.2.2.2.2.2.1 ((a0,(a1,(false,((ap [] ((x6.1,(x4.1,())) :: [])),((ap [] (((gt (.int .i64) x1.1 (0:Int)),(x4.1,(x3.1,()))) :: [])),()))))) :: [])),(x5.2.2.2.2.2.2.2.2.1,()))))))))))) fun x7=>
  bnd (F4 (x4.1,((0:Int),((gt (.int .i64) x1.1 (0:Int)),x7.2)))) fun x8=>
  bnd (F3 (x4.1,x8)) fun x9=>
  bnd (F6 ((gt (.int .i64) x1.1 (0:Int)),x9)) fun x10=>
  chk (room 8 (List.length (ap x10.2.2.2.2.2.1 (x10.1 :: []))))<|
  bnd (F0 (x7.1,())) fun x11=>
  chk (room 8 (List.length (ap x10.2.2.2.2.2.2.1 (x11.1 :: []))))<|
  some ((x10.2.1,(x10.2.2.1,(x10.2.2.2.1,(x10.2.2.2.2.1,((ap x10.2.2.2.2.2.1 (x10.1 :: [])),((ap x10.2.2.2.2.2.2.1 (x11.1 :: [])),x10.2.2.2.2.2.2.2)))))),((0:Int),())))
def gen_Stack_G (c0:lits_Not_D) (c1:Zazd) (c2:gen_within_D) (c3:ngen_maker__all_D) (c4:ngen_maker__count_D) (c5:ngen_maker__counto_D) (c6:ngen_maker__and_D) (c7:ngen_maker__data_D) (c8:ngen_maker__latchesf_D) (c9:ngen_maker__latches_D) (c10:ngen_maker__inputs_D) :gen_Stack_D:=⟨u2 (gen_Stack_F c0.F c1.F c2.F c3.F c4.F c5.F c6.F c7.F c8.F c9.F c10.F),pD Tryz.func44 117 (kD c0 (kD c1 (kD c2 (kB c3 (kB c4 (kB c5 (kB c6 (kB c7 (kB c8 (kB c9 (kB c10 k0))))))))))) e0 1 (sS l0) fun d=>by kernel_rfl⟩
def gen_Stack_K:gen_Stack_D:=gen_Stack_G lits_Not_K Zb3h gen_within_K ngen_maker__all_K ngen_maker__count_K ngen_maker__counto_K ngen_maker__and_K ngen_maker__data_K ngen_maker__latchesf_K ngen_maker__latches_K ngen_maker__inputs_K 
def gen_Stack_FF:gen_Stack_T:=gen_Stack_K.F
end Go.Proofs.YtkcpdpplobhpaaaGreat.V
end
section
namespace Go.Proofs.YtkcpdpplobhpaaaGreat.V
open Go Go.RowKit
open Go.Proofs.YtkcpdpplobhpaaaGreat.Pl
set_option maxRecDepth 10000
structure Gk where
 v:Nat
 i:List Int
 l:List Zgv
 a:List AndD
section
variable (o b c:List Int) (m:List Za1.T) {s:Gk}
end
section
variable (o b c:List Int) (m:List Za1.T) {s:Gk} {D:List Int}
end
section
variable (o b c:List Int) (m:List Za1.T) {s:Gk} {D:List Int}
end
theorem frm {lo hi:Nat} {x:Int}:x∈fr lo hi↔(lo:Int)<x∧x≤(hi:Int):=by
 unfold fr
 constructor
 ·intro h
  obtain ⟨i,hi,rfl⟩:=List.mem_map.1 h
  have:=List.mem_range.1 hi
  omega
 ·intro h
  exact List.mem_map.2 ⟨(x - lo - 1).toNat,List.mem_range.2 (by omega),by omega⟩
end Go.Proofs.YtkcpdpplobhpaaaGreat.V
end
