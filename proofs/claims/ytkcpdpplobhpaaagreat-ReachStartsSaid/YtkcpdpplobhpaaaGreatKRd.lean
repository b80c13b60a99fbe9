import Derived.Test.YtkcpdpplobhpaaaGreatKSa
import Derived.Test.YtkcpdpplobhpaaaGreatKRa
import Derived.Test.YtkcpdpplobhpaaaGreatKRc
import Derived.Test.YtkcpdpplobhpaaaGreatKSb
set_option linter.unusedVariables false
set_option linter.unusedSimpArgs false
set_option linter.unnecessarySimpa false
section
namespace Go.Proofs.YtkcpdpplobhpaaaGreat.V
open Go Go.RowKit
set_option maxRecDepth 1000000
abbrev net_Bits_1_σs:List Sh:=[Za1]
abbrev net_Bits_1_τs:List Sh:=[(.int .i64)]
abbrev net_Bits_1_T:=TL net_Bits_1_σs→Option (TL net_Bits_1_τs)
abbrev net_Bits_1_D:=Kd 186 net_Bits_1_σs net_Bits_1_τs
def net_Bits_1_F (a0:Sh.T Za1):Option (TL net_Bits_1_τs):=
 br (iE (10:Int) a0.1)
 (
  some ((1000:Int),()))
 (
  chk (iE (0:Int) a0.1)<|
  some ((IntKind.wrap .i64 (@HMul.hMul (Int) (Int) (Int) _ a0.2.1 (HPow.hPow (2:Int) (Min.min (Int.toNat a0.1) 64)))),()))
def net_Bits_1_G  :net_Bits_1_D:=⟨u1 net_Bits_1_F,pD Tryz.func186 11 k0 e0 1 (sS l0) fun d=>by kernel_rfl⟩
def net_Bits_1_K:net_Bits_1_D:=net_Bits_1_G  
def net_Bits_1_FF:net_Bits_1_T:=net_Bits_1_K.F
abbrev net_Ports_1_σs:List Sh:=[Za1]
abbrev net_Ports_1_τs:List Sh:=[(.int .i64)]
abbrev net_Ports_1_T:=TL net_Ports_1_σs→Option (TL net_Ports_1_τs)
abbrev net_Ports_1_D:=Kd 130 net_Ports_1_σs net_Ports_1_τs
def net_Ports_1_F (a0:Sh.T Za1):Option (TL net_Ports_1_τs):=
 some ((IntKind.wrap .i64 ((Int.ofNat (List.length a0.2.2.2.1))+(Int.ofNat (List.length a0.2.2.2.2.1)))),())
def net_Ports_1_G  :net_Ports_1_D:=⟨u1 net_Ports_1_F,pD Tryz.func130 10 k0 e0 1 (sS l0) fun d=>by kernel_rfl⟩
def net_Ports_1_K:net_Ports_1_D:=net_Ports_1_G  
abbrev net_sumb_lay:Lay:={ T:=[(0,.agg lNet),(1,.func 186 [] [])],h:=[],nx:=0 }
abbrev net_sumb_outs:List (Ev.Ex×Lay):=[(.ret,{ T:=[(0,.int .i64)],h:=[],nx:=0 })]
abbrev net_sumb_T:=TL net_sumb_lay.σs→Option (Out net_sumb_outs)
abbrev net_sumb_D:=Kb 129 2 net_sumb_lay 1 net_sumb_outs
abbrev net_sumb_lay2:Lay:={ T:=[(1,.func 186 [] []),(4,.int .i64),(8,.fz Za1),(9,.int .i64),(10,.int .i64)],h:=[],nx:=0 }
abbrev net_sumb_outs2:List (Ev.Ex×Lay):=[((.exit 0),{ T:=[(4,.int .i64)],h:=[],nx:=0 })]
abbrev net_sumb_T2:=TL net_sumb_lay2.σs→Option (Out net_sumb_outs2)
abbrev net_sumb_D2:=Ld 0 21 (Zb5 [0] (Zaa Tryz.f129)) net_sumb_lay2 net_sumb_outs2
def net_sumb_B2 (F0:net_Bits_1_T) (t4:Int) (t8:List (Sh.T Za1)) (t9 t10:Int):Option (TL net_sumb_lay2.σs⊕Out net_sumb_outs2):=
 br (iL t10 t9)
 (
  chk (inb t10 (List.length t8))<|
  bnd (F0 (((gt Za1 t8 t10).1,((gt Za1 t8 t10).2.1,((gt Za1 t8 t10).2.2.1,((gt Za1 t8 t10).2.2.2.1,((gt Za1 t8 t10).2.2.2.2.1,()))))),())) fun x0=>
  some (.inl ((IntKind.wrap .i64 (@HAdd.hAdd (Int) (Int) (Int) _ t4 x0.1)),(t8,(t9,((IntKind.wrap .i64 (t10+(1:Int))),()))))))
 (
  some (.inr (t4,())))
def net_sumb_M2 (c0:net_Bits_1_D) :net_sumb_D2:=mkL (u4 (net_sumb_B2 c0.F)) (pL (kD c0 k0) e0 1 l0 fun d=>by kernel_rfl)
def net_sumb_N2:net_sumb_D2:=net_sumb_M2 net_Bits_1_K 
def net_sumb_L2:net_sumb_T2:=lpD (u4 (net_sumb_B2 net_Bits_1_FF)) NN
def net_sumb_F (F0:net_Bits_1_T) (L2:net_sumb_T2) (t0_0:Int) (t0_1:List Int) (t0_2:List (Sh.T Za0)) (t0_3 t0_4 t0_5:List Int) (t0_6:List (Sh.T Za1)) (t0_7:List (Sh.T Za0)):Option (Out net_sumb_outs):=
 bnd (L2 ((0:Int),(t0_6,((Int.ofNat (List.length t0_6)),((0:Int),()))))) fun x0=>
 some (x0.1,())
def net_sumb_G (c0:net_Bits_1_D) (M2:net_sumb_D2):net_sumb_D:=⟨u8 (net_sumb_F c0.F M2.L),pB Tryz.func129 21 (kD c0 k0) e0 1 (sS (sC M2 l0)) fun d=>by kernel_rfl⟩
def net_sumb_K:net_sumb_D:=net_sumb_G net_Bits_1_K net_sumb_N2
def net_sumb_FF:net_sumb_T:=net_sumb_K.F
abbrev net_sump_lay:Lay:={ T:=[(0,.agg lNet),(1,.func 130 [] [])],h:=[],nx:=0 }
abbrev net_sump_outs:List (Ev.Ex×Lay):=[(.ret,{ T:=[(0,.int .i64)],h:=[],nx:=0 })]
abbrev net_sump_T:=TL net_sump_lay.σs→Option (Out net_sump_outs)
abbrev net_sump_D:=Kb 129 2 net_sump_lay 1 net_sump_outs
abbrev net_sump_lay2:Lay:={ T:=[(1,.func 130 [] []),(4,.int .i64),(8,.fz Za1),(9,.int .i64),(10,.int .i64)],h:=[],nx:=0 }
abbrev net_sump_outs2:List (Ev.Ex×Lay):=[((.exit 0),{ T:=[(4,.int .i64)],h:=[],nx:=0 })]
abbrev net_sump_T2:=TL net_sump_lay2.σs→Option (Out net_sump_outs2)
abbrev net_sump_D2:=Ld 0 21 (Zb5 [0] (Zaa Tryz.f129)) net_sump_lay2 net_sump_outs2
def net_sump_B2 (F0:net_Ports_1_T) (t4:Int) (t8:List (Sh.T Za1)) (t9 t10:Int):Option (TL net_sump_lay2.σs⊕Out net_sump_outs2):=
 br (iL t10 t9)
 (
  chk (inb t10 (List.length t8))<|
  bnd (F0 (((gt Za1 t8 t10).1,((gt Za1 t8 t10).2.1,((gt Za1 t8 t10).2.2.1,((gt Za1 t8 t10).2.2.2.1,((gt Za1 t8 t10).2.2.2.2.1,()))))),())) fun x0=>
  some (.inl ((IntKind.wrap .i64 (@HAdd.hAdd (Int) (Int) (Int) _ t4 x0.1)),(t8,(t9,((IntKind.wrap .i64 (t10+(1:Int))),()))))))
 (
  some (.inr (t4,())))
def net_sump_M2 (c0:net_Ports_1_D) :net_sump_D2:=mkL (u4 (net_sump_B2 c0.F)) (pL (kD c0 k0) e0 1 l0 fun d=>by kernel_rfl)
def net_sump_N2:net_sump_D2:=net_sump_M2 net_Ports_1_K 
def net_sump_F (F0:net_Ports_1_T) (L2:net_sump_T2) (t0_0:Int) (t0_1:List Int) (t0_2:List (Sh.T Za0)) (t0_3 t0_4 t0_5:List Int) (t0_6:List (Sh.T Za1)) (t0_7:List (Sh.T Za0)):Option (Out net_sump_outs):=
 bnd (L2 ((0:Int),(t0_6,((Int.ofNat (List.length t0_6)),((0:Int),()))))) fun x0=>
 some (x0.1,())
def net_sump_G (c0:net_Ports_1_D) (M2:net_sump_D2):net_sump_D:=⟨u8 (net_sump_F c0.F M2.L),pB Tryz.func129 21 (kD c0 k0) e0 1 (sS (sC M2 l0)) fun d=>by kernel_rfl⟩
def net_sump_K:net_sump_D:=net_sump_G net_Ports_1_K net_sump_N2
abbrev net_Bits_σs:List Sh:=[Za5]
abbrev net_Bits_τs:List Sh:=[(.int .i64)]
abbrev net_Bits_T:=TL net_Bits_σs→Option (TL net_Bits_τs)
abbrev net_Bits_D:=Kd 114 net_Bits_σs net_Bits_τs
def net_Bits_F (F0:net_sump_T) (F1:net_sumb_T) (a0:Sh.T Za5):Option (TL net_Bits_τs):=
 bnd (F1 a0) fun x0=>
 some ((selI (iL (1000:Int) (IntKind.wrap .i64 (@HAdd.hAdd (Int) (Int) (Int) _ (Int.ofNat (List.length a0.2.2.1)) x0.1))) (1000:Int) (IntKind.wrap .i64 (@HAdd.hAdd (Int) (Int) (Int) _ (Int.ofNat (List.length a0.2.2.1)) x0.1))),())
def net_Bits_G (c0:net_sump_D) (c1:net_sumb_D) :net_Bits_D:=⟨u1 (net_Bits_F c0.F c1.F),pD Tryz.func114 12 (kB c0 (kB c1 k0)) e0 1 (sS l0) fun d=>by kernel_rfl⟩
def net_Bits_K:net_Bits_D:=net_Bits_G net_sump_K net_sumb_K 
def net_Bits_FF:net_Bits_T:=net_Bits_K.F
abbrev expand_Cells_σs:List Sh:=[Za5]
abbrev expand_Cells_τs:List Sh:=[(.int .i64)]
abbrev expand_Cells_T:=TL expand_Cells_σs→Option (TL expand_Cells_τs)
abbrev expand_Cells_D:=Kd 52 expand_Cells_σs expand_Cells_τs
def expand_Cells_F (F0:net_Bits_T) (F1:Zaq7) (a0:Sh.T Za5):Option (TL expand_Cells_τs):=
 bnd (F1 (a0,())) fun x0=>
 br (Bool.not (iQ x0.1 (0:Int)))
 (
  some ((0:Int),()))
 (
  bnd (F0 (((0:Int),([],([],([],([],([],(a0.2.2.2.2.2.2.1,([],())))))))),())) fun x1=>
  some ((selI (iL (1000:Int) x1.1) (1000:Int) x1.1),()))
def expand_Cells_G (c0:net_Bits_D) (c1:Zamw) :expand_Cells_D:=⟨u1 (expand_Cells_F c0.F c1.F),pD Tryz.func52 11 (kD c0 (kD c1 k0)) e0 1 (sS l0) fun d=>by kernel_rfl⟩
def expand_Cells_K:expand_Cells_D:=expand_Cells_G net_Bits_K Zaq8 
def expand_Cells_FF:expand_Cells_T:=expand_Cells_K.F
abbrev bits_Word_lay2:Lay:={ T:=[(2,.int .u64),(9,.fz .bool),(10,.int .i64),(11,.int .i64)],h:=[],nx:=0 }
abbrev bits_Word_outs2:List (Ev.Ex×Lay):=[((.exit 0),{ T:=[(2,.int .u64)],h:=[],nx:=0 })]
abbrev bits_Word_T2:=TL bits_Word_lay2.σs→Option (Out bits_Word_outs2)
abbrev bits_Word_D2:=Ld 0 23 (Zb5 [0] (Zaa Tryz.f76)) bits_Word_lay2 bits_Word_outs2
def bits_Word_B2 (t2:Int) (t9:List Bool) (t10 t11:Int):Option (TL bits_Word_lay2.σs⊕Out bits_Word_outs2):=
 br (iL t11 t10)
 (
  chk (inb t11 (List.length t9))<|
  br (gt .bool t9 t11)
  (
   chk (iE (0:Int) t11)<|
   some (.inl ((borI .u64 t2 (IntKind.wrap .u64 ((1:Int)*(HPow.hPow (2:Int) (Min.min (Int.toNat t11) 64))))),(t9,(t10,((IntKind.wrap .i64 (t11+(1:Int))),()))))))
  (
   some (.inl (t2,(t9,(t10,((IntKind.wrap .i64 (t11+(1:Int))),())))))))
 (
  some (.inr (t2,())))
def bits_Word_N2  :bits_Word_D2:=mkL (u4 bits_Word_B2) (pL k0 e0 1 l0 fun d=>by kernel_rfl)
def bits_Word_L2:bits_Word_T2:=lpD (u4 bits_Word_B2) NN
abbrev bits_Word_σs:List Sh:=[(.sl .bool)]
abbrev bits_Word_τs:List Sh:=[(.int .u64)]
abbrev bits_Word_T:=TL bits_Word_σs→Option (TL bits_Word_τs)
abbrev bits_Word_D:=Kd 76 bits_Word_σs bits_Word_τs
def bits_Word_F (L2:bits_Word_T2) (a0:List Bool):Option (TL bits_Word_τs):=
 chk (both (iE (0:Int) (selI (iL (64:Int) (Int.ofNat (List.length a0))) (64:Int) (Int.ofNat (List.length a0)))) (iE (selI (iL (64:Int) (Int.ofNat (List.length a0))) (64:Int) (Int.ofNat (List.length a0))) (Int.ofNat (List.length a0))))<|
 bnd (L2 ((0:Int),((List.take (Int.toNat (selI (iL (64:Int) (Int.ofNat (List.length a0))) (64:Int) (Int.ofNat (List.length a0)))) a0),((Int.ofNat (List.length (List.take (Int.toNat (selI (iL (64:Int) (Int.ofNat (List.length a0))) (64:Int) (Int.ofNat (List.length a0)))) a0))),((0:Int),()))))) fun x0=>
 some (x0.1,())
def bits_Word_G (M2:bits_Word_D2):bits_Word_D:=⟨u1 (bits_Word_F M2.L),pD Tryz.func76 23 k0 e0 1 (sS (sC M2 l0)) fun d=>by kernel_rfl⟩
def bits_Word_K:bits_Word_D:=bits_Word_G  bits_Word_N2
def bits_Word_FF:bits_Word_T:=bits_Word_K.F
abbrev expand_State_lay:Lay:={ T:=[(0,.agg lNet),(1,.agg [.fz .bool,.fz (.sl Za3)])],h:=[],nx:=0 }
abbrev expand_State_outs:List (Ev.Ex×Lay):=[(.ret,{ T:=[(0,.agg [.hd 0 .bool,.nils]),(1,.int .i64)],h:=[(0,.arr .bool 4)],nx:=1 })]
abbrev expand_State_T:=TL expand_State_lay.σs→Option (Out expand_State_outs)
abbrev expand_State_D:=Kb 29 2 expand_State_lay 2 expand_State_outs
abbrev yRd0:Lay:={ T:=[(3,.ptr 0 0),(4,.ptr 1 0),(29,.fz Za1),(30,.int .i64),(31,.int .i64)],h:=[(0,.cells [.fz .bool,.fz (.sl Za3)] 40),(1,.cells [.hd 2 .bool,.nils] 40),(2,.arr .bool 4)],nx:=3 }
abbrev yRd1:List (Nat×LO):=[(0,.cells lNet 27),(1,.cells [.nils,.nils] 40),(2,.cells [.hd 3 .bool,.hd 4 (.sl Za3)] 40),(3,.arr .bool 4),(4,.arr (.sl Za3) 104),(5,.arr Za3 137)]
abbrev expand_State_lay8:Lay:=yRd0
abbrev expand_State_outs8:List (Ev.Ex×Lay):=[((.exit 0),{ T:=[(4,.ptr 0 0)],h:=[(0,.cells [.hd 1 .bool,.nils] 40),(1,.arr .bool 4)],nx:=2 })]
abbrev expand_State_T8:=TL expand_State_lay8.σs→Option (Out expand_State_outs8)
abbrev expand_State_D8:=Ld 0 70 (Zb5 [0] (Zaa Tryz.f29)) expand_State_lay8 expand_State_outs8
abbrev expand_State_lay13:Lay:={ T:=[(3,.ptr 0 0),(4,.ptr 1 0),(8,.ptr 3 0),(11,.func 75 [.ptr 4 0] []),(29,.fz Za1),(30,.int .i64),(31,.int .i64),(53,.int .u64),(54,.int .u64)],h:=[(0,.cells [.fz .bool,.fz (.sl Za3)] 40),(1,.cells [.hd 2 .bool,.nils] 40),(2,.arr .bool 4),(3,.cells [.int .i64,.int .i64,.bool,.fz Zb3,.fz Zb8] 116),(4,.cells [.int .i64,.int .i64,.mp 5] 220),(5,.map .u64 (.int .u64))],nx:=6 }
abbrev expand_State_outs13:List (Ev.Ex×Lay):=[((.exit 2),yRd0)]
abbrev expand_State_T13:=TL expand_State_lay13.σs→Option (Out expand_State_outs13)
abbrev expand_State_D13:=Ld 0 70 (Zb5 [0,0] (Zaa Tryz.f29)) expand_State_lay13 expand_State_outs13
def expand_State_B13 (F0:Zb2u) (F3:Zawf) (t29:List (Sh.T Za1)) (t30 t31 t53 t54:Int) (b0_0:List Bool) (b0_1:List (List (Sh.T Za3))) (b2:List Bool) (b3_0 b3_1:Int) (b3_2:Bool) (b3_3:List (Sh.T Zb3)) (b3_4:List (Sh.T Zb8)) (b4_0 b4_1:Int) (b5:List (Sh.T Za3)):Option (TL expand_State_lay13.σs⊕Out expand_State_outs13):=
 br (iL t54 t53)
 (
  bnd (F3 (t54,(b4_0,(b4_1,(b5,()))))) fun x0=>
  chk (iQ b3_1 b3_1)<|
  bnd (F0 (x0.1,(b3_1,()))) fun x1=>
  chk (room 1 (List.length (ap b2 x1.1)))<|
  some (.inl (t29,(t30,(t31,(t53,((IntKind.wrap .u64 (t54+(1:Int))),(b0_0,(b0_1,((ap b2 x1.1),(b3_0,(b3_1,(b3_2,(b3_3,(b3_4,x0.2)))))))))))))))
 (
  some (.inr (t29,(t30,(t31,(b0_0,(b0_1,(b2,()))))))))
def expand_State_M13 (c0:Zayo) (c3:Zarj) :expand_State_D13:=mkL (u16 (expand_State_B13 c0.F c3.F)) (pL (kD c0 (kB c3 k0)) e0 1 l0 fun d=>by kernel_rfl)
def expand_State_N13:expand_State_D13:=expand_State_M13 Zb2v Zawg 
def expand_State_B8 (F4:Zawc) (L13:expand_State_T13) (t29:List (Sh.T Za1)) (t30 t31:Int) (b0_0:List Bool) (b0_1:List (List (Sh.T Za3))) (b2:List Bool):Option (TL expand_State_lay8.σs⊕Out expand_State_outs8):=
 br (iL t31 t30)
 (
  chk (inb t31 (List.length t29))<|
  chk (inb t31 (List.length b0_1))<|
  bnd (F4 ((gt Za1 t29 t31).1,((gt Za1 t29 t31).2.1,((gt (.sl Za3) b0_1 t31),())))) fun x0=>
  (match x0 with
  | .inl x1=>
   chk (iE (0:Int) (gt Za1 t29 t31).1)<|
   none
  | .inr x1=>
   chk (iE (0:Int) (gt Za1 t29 t31).1)<|
   bnd (L13 (t29,(t30,(t31,((IntKind.wrap .u64 ((1:Int)*(HPow.hPow (2:Int) (Min.min (Int.toNat (gt Za1 t29 t31).1) 64)))),((0:Int),(b0_0,(b0_1,(b2,((gt Za1 t29 t31).1,((gt Za1 t29 t31).2.1,((gt Za1 t29 t31).2.2.1,((gt Za1 t29 t31).2.2.2.1,((gt Za1 t29 t31).2.2.2.2.1,x1.2)))))))))))))) fun x2=>
   some (.inl (x2.1,(x2.2.1,((IntKind.wrap .i64 (@HAdd.hAdd (Int) (Int) (Int) _ x2.2.2.1 (1:Int))),x2.2.2.2))))
  ))
 (
  some (.inr (b2,())))
def expand_State_M8 (c4:Zarc) (M13:expand_State_D13):expand_State_D8:=mkL (u6 (expand_State_B8 c4.F M13.L)) (pL (kB c4 k0) e0 1 (sC M13 l0) fun d=>by kernel_rfl)
def expand_State_N8:expand_State_D8:=expand_State_M8 Zawd expand_State_N13
def expand_State_F (F0:Zb2u) (F1:expand_Cells_T) (F2:Zaz6) (F3:Zawf) (F4:Zawc) (F5:Zaj5) (F6:Zaey) (L8:expand_State_T8) (L13:expand_State_T13) (t0_0:Int) (t0_1:List Int) (t0_2:List (Sh.T Za0)) (t0_3 t0_4 t0_5:List Int) (t0_6:List (Sh.T Za1)) (t0_7:List (Sh.T Za0)) (t1_0:List Bool) (t1_1:List (List (Sh.T Za3))):Option (Out expand_State_outs):=
 bnd (F2 ((t0_0,(t0_1,(t0_2,(t0_3,(t0_4,(t0_5,(t0_6,(t0_7,())))))))),((t1_0,(t1_1,())),()))) fun x0=>
 br (Bool.not (iQ x0.1 (0:Int)))
 (
  some (x0.1,([],())))
 (
  bnd (F1 ((t0_0,(t0_1,(t0_2,(t0_3,(t0_4,(t0_5,(t0_6,(t0_7,())))))))),())) fun x1=>
  br (iL (64:Int) x1.1)
  (
   some ((17:Int),([],())))
  (
   bnd (F6 (t1_0,())) fun x2=>
   bnd (L8 (t0_6,((Int.ofNat (List.length t0_6)),((0:Int),(t1_0,(t1_1,(x2.1,()))))))) fun x3=>
   some ((0:Int),(x3.1,()))))
def expand_State_G (c0:Zayo) (c1:expand_Cells_D) (c2:Zawa) (c3:Zarj) (c4:Zarc) (c5:Zaj7) (c6:Zaez) (M8:expand_State_D8) (M13:expand_State_D13):expand_State_D:=⟨u10 (expand_State_F c0.F c1.F c2.F c3.F c4.F c5.F c6.F M8.L M13.L),pB Tryz.func29 70 (kD c0 (kD c1 (kD c2 (kB c3 (kB c4 (kB c5 (kB c6 k0))))))) e0 1 (sS (sC M8 l0)) fun d=>by kernel_rfl⟩
def expand_State_K:expand_State_D:=expand_State_G Zb2v expand_Cells_K Zaz7 Zawg Zawd Zaj6 Zacy expand_State_N8 expand_State_N13
abbrev expand_Back_lay12:Lay:={ T:=[(4,.ptr 0 0),(8,.fz .bool),(58,.fz Za1),(59,.int .i64),(60,.int .i64)],h:=[(0,.cells [.hd 1 .bool,.hd 2 (.sl Za3)] 40),(1,.arr .bool 4),(2,.arr (.sl Za3) 104)],nx:=3 }
abbrev expand_Back_outs12:List (Ev.Ex×Lay):=[((.exit 1),{ T:=[(4,.ptr 0 0)],h:=[(0,.cells [.hd 1 .bool,.hd 2 (.sl Za3)] 40),(1,.arr .bool 4),(2,.arr (.sl Za3) 104)],nx:=3 })]
abbrev expand_Back_T12:=TL expand_Back_lay12.σs→Option (Out expand_Back_outs12)
abbrev expand_Back_D12:=Ld 0 96 (Zb5 [0] (Zaa Tryz.f30)) expand_Back_lay12 expand_Back_outs12
abbrev expand_Back_lay16:Lay:={ T:=[(4,.ptr 0 0),(8,.fz .bool),(10,.ptr 3 0),(11,.hd 4 Za3),(58,.fz Za1),(59,.int .i64),(60,.int .i64),(66,.int .u64),(67,.int .u64)],h:=[(0,.cells [.hd 1 .bool,.hd 2 (.sl Za3)] 40),(1,.arr .bool 4),(2,.arr (.sl Za3) 104),(3,.cells [.int .i64,.int .i64,.bool,.fz Zb3,.fz Zb8] 116),(4,.arr Za3 137)],nx:=5 }
abbrev expand_Back_outs16:List (Ev.Ex×Lay):=[((.exit 3),{ T:=[(4,.ptr 0 0),(8,.fz .bool),(11,.hd 3 Za3),(58,.fz Za1),(59,.int .i64),(60,.int .i64)],h:=[(0,.cells [.hd 1 .bool,.hd 2 (.sl Za3)] 40),(1,.arr .bool 4),(2,.arr (.sl Za3) 104),(3,.arr Za3 137)],nx:=4 })]
abbrev expand_Back_T16:=TL expand_Back_lay16.σs→Option (Out expand_Back_outs16)
abbrev expand_Back_D16:=Ld 0 96 (Zb5 [0,0] (Zaa Tryz.f30)) expand_Back_lay16 expand_Back_outs16
def expand_Back_B16 (F0:bits_Word_T) (t8:List Bool) (t58:List (Sh.T Za1)) (t59 t60 t66 t67:Int) (b1:List Bool) (b2:List (List (Sh.T Za3))) (b3_0 b3_1:Int) (b3_2:Bool) (b3_3:List (Sh.T Zb3)) (b3_4:List (Sh.T Zb8)) (b4:List (Sh.T Za3)):Option (TL expand_Back_lay16.σs⊕Out expand_Back_outs16):=
 br (iL t67 t66)
 (
  chk (both (iE (0:Int) b3_1) (iE b3_1 (Int.ofNat (List.length t8))))<|
  bnd (F0 ((List.take (Int.toNat b3_1) t8),())) fun x0=>
  br (Bool.not (iQ x0.1 (0:Int)))
  (
   chk (room 16 (List.length (ap b4 ((t67,(x0.1,())) :: []))))<|
   chk (both (iE (0:Int) b3_1) (iE b3_1 (Int.ofNat (List.length t8))))<|
   some (.inl ((List.drop (Int.toNat b3_1) t8),(t58,(t59,(t60,(t66,((IntKind.wrap .u64 (t67+(1:Int))),(b1,(b2,(b3_0,(b3_1,(b3_2,(b3_3,(b3_4,((ap b4 ((t67,(x0.1,())) :: [])),()))))))))))))))))
  (
   chk (both (iE (0:Int) b3_1) (iE b3_1 (Int.ofNat (List.length t8))))<|
   some (.inl ((List.drop (Int.toNat b3_1) t8),(t58,(t59,(t60,(t66,((IntKind.wrap .u64 (t67+(1:Int))),(b1,(b2,(b3_0,(b3_1,(b3_2,(b3_3,(b3_4,(b4,())))))))))))))))))
 (
  some (.inr (t8,(t58,(t59,(t60,(b1,(b2,(b4,())))))))))
def expand_Back_M16 (c0:bits_Word_D) :expand_Back_D16:=mkL (u14 (expand_Back_B16 c0.F)) (pL (kD c0 k0) e0 1 l0 fun d=>by kernel_rfl)
def expand_Back_N16:expand_Back_D16:=expand_Back_M16 bits_Word_K 
def expand_Back_L16:expand_Back_T16:=lpD (u14 (expand_Back_B16 bits_Word_FF)) NN
def expand_Back_B12 (L16:expand_Back_T16) (t8:List Bool) (t58:List (Sh.T Za1)) (t59 t60:Int) (b1:List Bool) (b2:List (List (Sh.T Za3))):Option (TL expand_Back_lay12.σs⊕Out expand_Back_outs12):=
 br (iL t60 t59)
 (
  chk (inb t60 (List.length t58))<|
  chk (iE (0:Int) (gt Za1 t58 t60).1)<|
  bnd (L16 (t8,(t58,(t59,(t60,((IntKind.wrap .u64 ((1:Int)*(HPow.hPow (2:Int) (Min.min (Int.toNat (gt Za1 t58 t60).1) 64)))),((0:Int),(b1,(b2,((gt Za1 t58 t60).1,((gt Za1 t58 t60).2.1,((gt Za1 t58 t60).2.2.1,((gt Za1 t58 t60).2.2.2.1,((gt Za1 t58 t60).2.2.2.2.1,([],()))))))))))))))) fun x0=>
  chk (room 24 (List.length (ap x0.2.2.2.2.2.1 (x0.2.2.2.2.2.2.1 :: []))))<|
  some (.inl (x0.1,(x0.2.1,(x0.2.2.1,((IntKind.wrap .i64 (@HAdd.hAdd (Int) (Int) (Int) _ x0.2.2.2.1 (1:Int))),(x0.2.2.2.2.1,((ap x0.2.2.2.2.2.1 (x0.2.2.2.2.2.2.1 :: [])),()))))))))
 (
  some (.inr (b1,(b2,()))))
def expand_Back_M12 (M16:expand_Back_D16):expand_Back_D12:=mkL (u6 (expand_Back_B12 M16.L)) (pL k0 e0 1 (sC M16 l0) fun d=>by kernel_rfl)
def expand_Back_N12:expand_Back_D12:=expand_Back_M12  expand_Back_N16
def expand_Back_L12:expand_Back_T12:=lpD (u6 (expand_Back_B12 expand_Back_L16)) NN
abbrev expand_Back_σs:List Sh:=[Za5,Zab]
abbrev expand_Back_τs:List Sh:=[Zab,(.int .i64)]
abbrev expand_Back_T:=TL expand_Back_σs→Option (TL expand_Back_τs)
abbrev expand_Back_D:=Kd 30 expand_Back_σs expand_Back_τs
def expand_Back_F (F0:bits_Word_T) (F1:expand_Cells_T) (F2:Zaq7) (F3:Zaj5) (F4:Zaey) (L12:expand_Back_T12) (L16:expand_Back_T16) (a0:Sh.T Za5) (a1:Sh.T Zab):Option (TL expand_Back_τs):=
 bnd (F2 (a0,())) fun x0=>
 br (Bool.not (iQ x0.1 (0:Int)))
 (
  some (([],([],())),(x0.1,())))
 (
  bnd (F1 (a0,())) fun x1=>
  br (iL (64:Int) x1.1)
  (
   some (([],([],())),((17:Int),())))
  (
   br (Bool.not (iQ (Int.ofNat (List.length a1.1)) (IntKind.wrap .i64 (@HAdd.hAdd (Int) (Int) (Int) _ (Int.ofNat (List.length a0.2.2.1)) x1.1))))
   (
    some (([],([],())),((14:Int),())))
   (
    br (selB false true (iL (0:Int) (Int.ofNat (List.length a1.2.1))))
    (
     some (([],([],())),((14:Int),())))
    (
     chk (both (iE (0:Int) (Int.ofNat (List.length a0.2.2.1))) (iE (Int.ofNat (List.length a0.2.2.1)) (Int.ofNat (List.length a1.1))))<|
     bnd (F4 ((List.take (Int.toNat (Int.ofNat (List.length a0.2.2.1))) a1.1),())) fun x2=>
     chk (both (iE (0:Int) (Int.ofNat (List.length a0.2.2.1))) (iE (Int.ofNat (List.length a0.2.2.1)) (Int.ofNat (List.length a1.1))))<|
     bnd (L12 ((List.drop (Int.toNat (Int.ofNat (List.length a0.2.2.1))) a1.1),(a0.2.2.2.2.2.2.1,((Int.ofNat (List.length a0.2.2.2.2.2.2.1)),((0:Int),(x2.1,([],()))))))) fun x3=>
     some (x3,((0:Int),()))))))
def expand_Back_G (c0:bits_Word_D) (c1:expand_Cells_D) (c2:Zamw) (c3:Zaj7) (c4:Zaez) (M12:expand_Back_D12) (M16:expand_Back_D16):expand_Back_D:=⟨u2 (expand_Back_F c0.F c1.F c2.F c3.F c4.F M12.L M16.L),pD Tryz.func30 96 (kD c0 (kD c1 (kD c2 (kB c3 (kB c4 k0))))) e0 1 (sS (sC M12 l0)) fun d=>by kernel_rfl⟩
def expand_Back_K:expand_Back_D:=expand_Back_G bits_Word_K expand_Cells_K Zaq8 Zaj6 Zacy expand_Back_N12 expand_Back_N16
def expand_Back_FF:expand_Back_T:=expand_Back_K.F
abbrev astrariumref13_Cells_lay5:Lay:={ T:=[(1,.ptr 0 0),(3,.int .i64),(4,.int .i64)],h:=[(0,.cells lNet 27)],nx:=1 }
abbrev astrariumref13_Cells_outs5:List (Ev.Ex×Lay):=[((.exit 0),{ T:=[(3,.int .i64)],h:=[],nx:=0 })]
abbrev astrariumref13_Cells_T5:=TL astrariumref13_Cells_lay5.σs→Option (Out astrariumref13_Cells_outs5)
abbrev astrariumref13_Cells_D5:=Ld 0 44 (Zb5 [0] (Zaa Tryz.f55)) astrariumref13_Cells_lay5 astrariumref13_Cells_outs5
abbrev astrariumref13_Cells_lay9:Lay:={ T:=[(1,.ptr 0 0),(3,.int .i64),(4,.int .i64),(5,.int .i64),(6,.int .i64)],h:=[(0,.cells lNet 27)],nx:=1 }
abbrev astrariumref13_Cells_outs9:List (Ev.Ex×Lay):=[((.exit 2),{ T:=[(1,.ptr 0 0),(3,.int .i64),(4,.int .i64),(5,.int .i64)],h:=[(0,.cells lNet 27)],nx:=1 })]
abbrev astrariumref13_Cells_T9:=TL astrariumref13_Cells_lay9.σs→Option (Out astrariumref13_Cells_outs9)
abbrev astrariumref13_Cells_D9:=Ld 0 44 (Zb5 [0,0] (Zaa Tryz.f55)) astrariumref13_Cells_lay9 astrariumref13_Cells_outs9
def astrariumref13_Cells_B9 (t3 t4 t5 t6 b0_0:Int) (b0_1:List Int) (b0_2:List (Sh.T Za0)) (b0_3 b0_4 b0_5:List Int) (b0_6:List (Sh.T Za1)) (b0_7:List (Sh.T Za0)):Option (TL astrariumref13_Cells_lay9.σs⊕Out astrariumref13_Cells_outs9):=
 chk (inb t4 (List.length b0_6))<|
 br (iL t6 (gt Za1 b0_6 t4).1)
 (
  br (selB true (iL t5 (1000:Int)) false)
  (
   some (.inl (t3,(t4,((IntKind.wrap .i64 ((2:Int)*t5)),((IntKind.wrap .i64 (t6+(1:Int))),(b0_0,(b0_1,(b0_2,(b0_3,(b0_4,(b0_5,(b0_6,(b0_7,()))))))))))))))
  (
   some (.inr (t3,(t4,(t5,(b0_0,(b0_1,(b0_2,(b0_3,(b0_4,(b0_5,(b0_6,(b0_7,()))))))))))))))
 (
  some (.inr (t3,(t4,(t5,(b0_0,(b0_1,(b0_2,(b0_3,(b0_4,(b0_5,(b0_6,(b0_7,())))))))))))))
def astrariumref13_Cells_N9  :astrariumref13_Cells_D9:=mkL (u12 astrariumref13_Cells_B9) (pL k0 e0 1 l0 fun d=>by kernel_rfl)
def astrariumref13_Cells_L9:astrariumref13_Cells_T9:=lpD (u12 astrariumref13_Cells_B9) NN
def astrariumref13_Cells_B5 (L9:astrariumref13_Cells_T9) (t3 t4 b0_0:Int) (b0_1:List Int) (b0_2:List (Sh.T Za0)) (b0_3 b0_4 b0_5:List Int) (b0_6:List (Sh.T Za1)) (b0_7:List (Sh.T Za0)):Option (TL astrariumref13_Cells_lay5.σs⊕Out astrariumref13_Cells_outs5):=
 br (iL t4 (Int.ofNat (List.length b0_6)))
 (
  chk (inb t4 (List.length b0_6))<|
  bnd (L9 (t3,(t4,((gt Za1 b0_6 t4).2.1,((0:Int),(b0_0,(b0_1,(b0_2,(b0_3,(b0_4,(b0_5,(b0_6,(b0_7,()))))))))))))) fun x0=>
  some (.inl ((IntKind.wrap .i64 (@HAdd.hAdd (Int) (Int) (Int) _ x0.1 x0.2.2.1)),((IntKind.wrap .i64 (@HAdd.hAdd (Int) (Int) (Int) _ x0.2.1 (1:Int))),x0.2.2.2))))
 (
  some (.inr (t3,())))
def astrariumref13_Cells_M5 (M9:astrariumref13_Cells_D9):astrariumref13_Cells_D5:=mkL (u10 (astrariumref13_Cells_B5 M9.L)) (pL k0 e0 1 (sC M9 l0) fun d=>by kernel_rfl)
def astrariumref13_Cells_N5:astrariumref13_Cells_D5:=astrariumref13_Cells_M5  astrariumref13_Cells_N9
def astrariumref13_Cells_L5:astrariumref13_Cells_T5:=lpD (u10 (astrariumref13_Cells_B5 astrariumref13_Cells_L9)) NN
abbrev astrariumref13_Cells_σs:List Sh:=[Za5]
abbrev astrariumref13_Cells_τs:List Sh:=[(.int .i64)]
abbrev astrariumref13_Cells_T:=TL astrariumref13_Cells_σs→Option (TL astrariumref13_Cells_τs)
abbrev astrariumref13_Cells_D:=Kd 55 astrariumref13_Cells_σs astrariumref13_Cells_τs
def astrariumref13_Cells_F (F0:Zadp) (L5:astrariumref13_Cells_T5) (L9:astrariumref13_Cells_T9) (a0:Sh.T Za5):Option (TL astrariumref13_Cells_τs):=
 bnd (F0 (a0,())) fun x0=>
 br (Bool.not (iQ x0.1 (0:Int)))
 (
  some ((0:Int),()))
 (
  bnd (L5 ((0:Int),((0:Int),a0))) fun x1=>
  some ((selI (iL (1000:Int) x1.1) (1000:Int) x1.1),()))
def astrariumref13_Cells_G (c0:Zacr) (M5:astrariumref13_Cells_D5) (M9:astrariumref13_Cells_D9):astrariumref13_Cells_D:=⟨u1 (astrariumref13_Cells_F c0.F M5.L M9.L),pD Tryz.func55 44 (kD c0 k0) e0 1 (sS (sC M5 l0)) fun d=>by kernel_rfl⟩
def astrariumref13_Cells_K:astrariumref13_Cells_D:=astrariumref13_Cells_G Zadq astrariumref13_Cells_N5 astrariumref13_Cells_N9
def astrariumref13_Cells_FF:astrariumref13_Cells_T:=astrariumref13_Cells_K.F
abbrev astrariumref13_Back_lay11:Lay:={ T:=[(2,.ptr 0 0),(4,.ptr 1 0),(7,.ptr 2 0),(8,.fz .bool),(9,.int .i64)],h:=[(0,.cells lNet 27),(1,.cells [.nils,.nils] 40),(2,.cells [.hd 3 .bool,.hd 4 (.sl Za3)] 40),(3,.arr .bool 4),(4,.arr (.sl Za3) 104)],nx:=5 }
abbrev astrariumref13_Back_outs11:List (Ev.Ex×Lay):=[((.exit 0),{ T:=[(4,.ptr 0 0),(7,.ptr 1 0)],h:=[(0,.cells [.nils,.nils] 40),(1,.cells [.hd 2 .bool,.hd 3 (.sl Za3)] 40),(2,.arr .bool 4),(3,.arr (.sl Za3) 104)],nx:=4 })]
abbrev astrariumref13_Back_T11:=TL astrariumref13_Back_lay11.σs→Option (Out astrariumref13_Back_outs11)
abbrev astrariumref13_Back_D11:=Ld 0 104 (Zb5 [0] (Zaa Tryz.f115)) astrariumref13_Back_lay11 astrariumref13_Back_outs11
abbrev astrariumref13_Back_lay15:Lay:={ T:=[(2,.ptr 0 0),(4,.ptr 1 0),(7,.ptr 2 0),(8,.fz .bool),(9,.int .i64),(10,.hd 5 Za3),(11,.int .u64)],h:=yRd1,nx:=6 }
abbrev astrariumref13_Back_outs15:List (Ev.Ex×Lay):=[((.exit 2),{ T:=[(2,.ptr 0 0),(4,.ptr 1 0),(7,.ptr 2 0),(8,.fz .bool),(9,.int .i64),(10,.hd 5 Za3)],h:=yRd1,nx:=6 })]
abbrev astrariumref13_Back_T15:=TL astrariumref13_Back_lay15.σs→Option (Out astrariumref13_Back_outs15)
abbrev astrariumref13_Back_D15:=Ld 0 104 (Zb5 [0,0] (Zaa Tryz.f115)) astrariumref13_Back_lay15 astrariumref13_Back_outs15
def astrariumref13_Back_B15 (F0:Zaws) (F1:Zad5) (t8:List Bool) (t9 t11 b0_0:Int) (b0_1:List Int) (b0_2:List (Sh.T Za0)) (b0_3 b0_4 b0_5:List Int) (b0_6:List (Sh.T Za1)) (b0_7:List (Sh.T Za0)) (b3:List Bool) (b4:List (List (Sh.T Za3))) (b5:List (Sh.T Za3)):Option (TL astrariumref13_Back_lay15.σs⊕Out astrariumref13_Back_outs15):=
 chk (inb t9 (List.length b0_6))<|
 bnd (F1 (t11,((gt Za1 b0_6 t9).1,()))) fun x0=>
 br x0.1
 (
  chk (inb t9 (List.length b0_6))<|
  chk (both (iE (0:Int) (gt Za1 b0_6 t9).2.1) (iE (gt Za1 b0_6 t9).2.1 (Int.ofNat (List.length t8))))<|
  bnd (F0 ((List.take (Int.toNat (gt Za1 b0_6 t9).2.1) t8),())) fun x1=>
  chk (inb t9 (List.length b0_6))<|
  chk (both (iE (0:Int) (gt Za1 b0_6 t9).2.1) (iE (gt Za1 b0_6 t9).2.1 (Int.ofNat (List.length t8))))<|
  br (Bool.not (iQ x1.1 (0:Int)))
  (
   chk (room 16 (List.length (ap b5 ((t11,(x1.1,())) :: []))))<|
   some (.inl ((List.drop (Int.toNat (gt Za1 b0_6 t9).2.1) t8),(t9,((IntKind.wrap .u64 (t11+(1:Int))),(b0_0,(b0_1,(b0_2,(b0_3,(b0_4,(b0_5,(b0_6,(b0_7,(b3,(b4,((ap b5 ((t11,(x1.1,())) :: [])),()))))))))))))))))
  (
   some (.inl ((List.drop (Int.toNat (gt Za1 b0_6 t9).2.1) t8),(t9,((IntKind.wrap .u64 (t11+(1:Int))),(b0_0,(b0_1,(b0_2,(b0_3,(b0_4,(b0_5,(b0_6,(b0_7,(b3,(b4,(b5,())))))))))))))))))
 (
  some (.inr (t8,(t9,(b0_0,(b0_1,(b0_2,(b0_3,(b0_4,(b0_5,(b0_6,(b0_7,(b3,(b4,(b5,())))))))))))))))
def astrariumref13_Back_M15 (c0:Zaqs) (c1:Zabf) :astrariumref13_Back_D15:=mkL (u14 (astrariumref13_Back_B15 c0.F c1.F)) (pL (kD c0 (kD c1 k0)) e0 1 l0 fun d=>by kernel_rfl)
def astrariumref13_Back_N15:astrariumref13_Back_D15:=astrariumref13_Back_M15 Zawt Zad6 
def astrariumref13_Back_L15:astrariumref13_Back_T15:=lpD (u14 (astrariumref13_Back_B15 Zavw Zdg)) NN
def astrariumref13_Back_B11 (L15:astrariumref13_Back_T15) (t8:List Bool) (t9 b0_0:Int) (b0_1:List Int) (b0_2:List (Sh.T Za0)) (b0_3 b0_4 b0_5:List Int) (b0_6:List (Sh.T Za1)) (b0_7:List (Sh.T Za0)) (b3:List Bool) (b4:List (List (Sh.T Za3))):Option (TL astrariumref13_Back_lay11.σs⊕Out astrariumref13_Back_outs11):=
 br (iL t9 (Int.ofNat (List.length b0_6)))
 (
  bnd (L15 (t8,(t9,((0:Int),(b0_0,(b0_1,(b0_2,(b0_3,(b0_4,(b0_5,(b0_6,(b0_7,(b3,(b4,([],()))))))))))))))) fun x0=>
  chk (room 24 (List.length (ap x0.2.2.2.2.2.2.2.2.2.2.2.1 (x0.2.2.2.2.2.2.2.2.2.2.2.2.1 :: []))))<|
  some (.inl (x0.1,((IntKind.wrap .i64 (@HAdd.hAdd (Int) (Int) (Int) _ x0.2.1 (1:Int))),(x0.2.2.1,(x0.2.2.2.1,(x0.2.2.2.2.1,(x0.2.2.2.2.2.1,(x0.2.2.2.2.2.2.1,(x0.2.2.2.2.2.2.2.1,(x0.2.2.2.2.2.2.2.2.1,(x0.2.2.2.2.2.2.2.2.2.1,(x0.2.2.2.2.2.2.2.2.2.2.1,((ap x0.2.2.2.2.2.2.2.2.2.2.2.1 (x0.2.2.2.2.2.2.2.2.2.2.2.2.1 :: [])),()))))))))))))))
 (
  some (.inr (b3,(b4,()))))
def astrariumref13_Back_M11 (M15:astrariumref13_Back_D15):astrariumref13_Back_D11:=mkL (u12 (astrariumref13_Back_B11 M15.L)) (pL k0 e0 1 (sC M15 l0) fun d=>by kernel_rfl)
def astrariumref13_Back_N11:astrariumref13_Back_D11:=astrariumref13_Back_M11  astrariumref13_Back_N15
def astrariumref13_Back_L11:astrariumref13_Back_T11:=lpD (u12 (astrariumref13_Back_B11 astrariumref13_Back_L15)) NN
abbrev astrariumref13_Back_σs:List Sh:=[Za5,Zab]
abbrev astrariumref13_Back_τs:List Sh:=[Zab,(.int .i64)]
abbrev astrariumref13_Back_T:=TL astrariumref13_Back_σs→Option (TL astrariumref13_Back_τs)
abbrev astrariumref13_Back_D:=Kd 115 astrariumref13_Back_σs astrariumref13_Back_τs
def astrariumref13_Back_F (F0:Zaws) (F1:Zad5) (F2:astrariumref13_Cells_T) (F3:Zadp) (L11:astrariumref13_Back_T11) (L15:astrariumref13_Back_T15) (a0:Sh.T Za5) (a1:Sh.T Zab):Option (TL astrariumref13_Back_τs):=
 bnd (F3 (a0,())) fun x0=>
 br (Bool.not (iQ x0.1 (0:Int)))
 (
  some (([],([],())),(x0.1,())))
 (
  bnd (F2 (a0,())) fun x1=>
  br (iL (64:Int) x1.1)
  (
   some (([],([],())),((17:Int),())))
  (
   bnd (F2 (a0,())) fun x2=>
   br (Bool.not (iQ (Int.ofNat (List.length a1.1)) (IntKind.wrap .i64 (@HAdd.hAdd (Int) (Int) (Int) _ (Int.ofNat (List.length a0.2.2.1)) x2.1))))
   (
    some (([],([],())),((14:Int),())))
   (
    br (selB false true (Bool.not (iQ (Int.ofNat (List.length a1.2.1)) (0:Int))))
    (
     some (([],([],())),((14:Int),())))
    (
     chk (both (iE (0:Int) (Int.ofNat (List.length a0.2.2.1))) (iE (Int.ofNat (List.length a0.2.2.1)) (Int.ofNat (List.length a1.1))))<|
     chk (room 1 (List.length (ap [] (List.take (Int.toNat (Int.ofNat (List.length a0.2.2.1))) a1.1))))<|
     chk (both (iE (0:Int) (Int.ofNat (List.length a0.2.2.1))) (iE (Int.ofNat (List.length a0.2.2.1)) (Int.ofNat (List.length a1.1))))<|
     bnd (L11 ((List.drop (Int.toNat (Int.ofNat (List.length a0.2.2.1))) a1.1),((0:Int),(a0.1,(a0.2.1,(a0.2.2.1,(a0.2.2.2.1,(a0.2.2.2.2.1,(a0.2.2.2.2.2.1,(a0.2.2.2.2.2.2.1,(a0.2.2.2.2.2.2.2.1,((ap [] (List.take (Int.toNat (Int.ofNat (List.length a0.2.2.1))) a1.1)),([],()))))))))))))) fun x3=>
     some (x3,((0:Int),()))))))
def astrariumref13_Back_G (c0:Zaqs) (c1:Zabf) (c2:astrariumref13_Cells_D) (c3:Zacr) (M11:astrariumref13_Back_D11) (M15:astrariumref13_Back_D15):astrariumref13_Back_D:=⟨u2 (astrariumref13_Back_F c0.F c1.F c2.F c3.F M11.L M15.L),pD Tryz.func115 104 (kD c0 (kD c1 (kD c2 (kD c3 k0)))) e0 1 (sS (sC M11 l0)) fun d=>by kernel_rfl⟩
def astrariumref13_Back_K:astrariumref13_Back_D:=astrariumref13_Back_G Zawt Zad6 astrariumref13_Cells_K Zadq astrariumref13_Back_N11 astrariumref13_Back_N15
def astrariumref13_Back_FF:astrariumref13_Back_T:=astrariumref13_Back_K.F
end Go.Proofs.YtkcpdpplobhpaaaGreat.V
end
section
namespace Go.Proofs.YtkcpdpplobhpaaaGreat.V
open Go Go.RowKit
open Go.Proofs.YtkcpdpplobhpaaaGreat.Pl
def cutT (x:Int):Int:=if 1000<x then 1000 else x
def tP (m:MemD):Int:=if 10≤m.addr then 1000 else m.word*2^m.addr.toNat
def dblF (w:Int):Nat→Int
 | 0=>w
 | k+1=>if dblF w k<1000 then 2*dblF w k else dblF w k
def sumP (l:List MemD):Int:=l.foldl (fun a m=>a+tP m) 0
def sumR (l:List MemD):Int:=l.foldl (fun a m=>a+dblF m.word m.addr.toNat) 0
def Many (t u:Int):Prop:=t=u∨(1000≤t∧1000≤u)
theorem cut_many {t u:Int} (h:Many t u):cutT t=cutT u:=by
 unfold cutT
 rcases h with rfl | ⟨h1,h2⟩
 ·rfl
 ·split<;>split<;>omega
theorem pow_pos2 (k:Nat):(1:Int)≤2^k:=by
 have:=Int.pow_pos (n:=(2:Int)) (m:=k) (by decide)
 omega
theorem mul_mono {w a b:Int} (hw:0≤w) (h:a≤b):w*a≤w*b:=Int.mul_le_mul_of_nonneg_left h hw
theorem dbl_rel {w:Int} (hw:1≤w):∀k,dblF w k=w*2^k∨(1000≤dblF w k∧1000≤w*2^k):=by
 intro k
 induction k with
 | zero=>left;rw [dblF];simp
 | succ k ih=>
  have e:w*2^(k+1)=2*(w*2^k):=by rw [Int.pow_succ];rw [←Int.mul_assoc,Int.mul_comm]
  rw [dblF,e]
  split
  ·rename_i q
   rcases ih with h | ⟨h1,h2⟩
   ·left;rw [h]
   ·omega
  ·rename_i q
   right
   rcases ih with h | ⟨h1,h2⟩<;>omega
theorem dbl_low {w:Int} (hw:1≤w):∀k,w≤dblF w k:=by
 intro k
 induction k with
 | zero=>rw [dblF];omega
 | succ k ih=>rw [dblF];split<;>omega
theorem dbl_up {w:Int} (hw:w≤64):∀k,dblF w k≤2000:=by
 intro k
 induction k with
 | zero=>rw [dblF];omega
 | succ k ih=>rw [dblF];split<;>omega
theorem dbl_stay {w:Int} {k:Nat} (h:1000≤dblF w k):∀j,dblF w (k+j)=dblF w k:=by
 intro j
 induction j with
 | zero=>rfl
 | succ j ih=>rw [show k+(j+1)=k+j+1 by omega,dblF,ih,if_neg (by omega)]
theorem many_mem {m:MemD} (h1:1≤m.addr) (h2:1≤m.word):Many (tP m) (dblF m.word m.addr.toNat):=by
 have r:=dbl_rel h2 m.addr.toNat
 unfold tP
 split
 ·rename_i q
  right
  have p:(2:Int)^10≤2^m.addr.toNat:=by
   have:=Nat.pow_le_pow_right (n:=2) (by decide) (show 10≤m.addr.toNat by omega)
   exact_mod_cast this
  have p2:(2:Int)^10=1024:=by decide
  have p3:=mul_mono (w:=m.word) (by omega) p
  have p4:=mul_mono (w:=1024) (a:=1) (b:=m.word) (by omega) h2
  rw [p2] at p3
  have p5:m.word*1024=1024*m.word:=Int.mul_comm ..
  rcases r with h | ⟨a,b⟩<;>omega
 ·rcases r with h | ⟨a,b⟩
  ·left;exact h.symm
  ·right;exact ⟨b,a⟩
theorem tP_rng {m:MemD} (h1:1≤m.addr) (h2:1≤m.word) (h3:m.word≤64):0≤tP m∧tP m≤40000:=by
 unfold tP
 split
 ·omega
 ·have p:(2:Int)^m.addr.toNat≤2^9:=by
   have:=Nat.pow_le_pow_right (n:=2) (by decide) (show m.addr.toNat≤9 by omega)
   exact_mod_cast this
  have p2:(2:Int)^9=512:=by decide
  have p3:=mul_mono (w:=m.word) (by omega) p
  have p4:=mul_mono (w:=m.word) (by omega) (pow_pos2 m.addr.toNat)
  rw [p2] at p3
  omega
theorem many_add {a b c d:Int} (h1:Many a b) (h2:Many c d) (ha:0≤a) (hb:0≤b) (hc:0≤c) (hd:0≤d):Many (a+c) (b+d):=by
 rcases h1 with h1 | h1<;>rcases h2 with h2 | h2
 ·left;omega
 ·right;omega
 ·right;omega
 ·right;omega
theorem sum_many:∀(l:List MemD) (a b:Int),(∀m∈l,1≤m.addr∧1≤m.word∧m.word≤64)→Many a b→0≤a→0≤b→Many (l.foldl (fun a m=>a+tP m) a) (l.foldl (fun a m=>a+dblF m.word m.addr.toNat) b):=by
 intro l
 induction l with
 | nil=>intro a b _ h _ _;exact h
 | cons m l ih=>
  intro a b hl h ha hb
  obtain ⟨h1,h2,h3⟩:=hl m (by simp)
  have t:=tP_rng h1 h2 h3
  have u:=dbl_low h2 m.addr.toNat
  exact ih _ _ (fun x hx=>hl x (by simp [hx])) (many_add h (many_mem h1 h2) ha hb t.1 (by omega)) (show 0≤a+tP m by omega) (show 0≤b+dblF m.word m.addr.toNat by omega)
theorem sumP_rng:∀(l:List MemD) (a:Int),(∀m∈l,1≤m.addr∧1≤m.word∧m.word≤64)→a≤l.foldl (fun a m=>a+tP m) a∧l.foldl (fun a m=>a+tP m) a≤a+40000*(l.length:Int):=by
 intro l
 induction l with
 | nil=>intro a _;exact ⟨Int.le_refl _,by simp⟩
 | cons m l ih=>
  intro a hl
  obtain ⟨h1,h2,h3⟩:=hl m (by simp)
  have t:=tP_rng h1 h2 h3
  obtain ⟨x,y⟩:=ih (a+tP m) (fun x hx=>hl x (by simp [hx]))
  rw [List.foldl_cons,List.length_cons]
  omega
theorem sumR_rng:∀(l:List MemD) (a:Int),(∀m∈l,1≤m.addr∧1≤m.word∧m.word≤64)→a≤l.foldl (fun a m=>a+dblF m.word m.addr.toNat) a∧l.foldl (fun a m=>a+dblF m.word m.addr.toNat) a≤a+2000*(l.length:Int):=by
 intro l
 induction l with
 | nil=>intro a _;exact ⟨Int.le_refl _,by simp⟩
 | cons m l ih=>
  intro a hl
  obtain ⟨h1,h2,h3⟩:=hl m (by simp)
  have t:=dbl_low h2 m.addr.toNat
  have t2:=dbl_up h3 m.addr.toNat
  obtain ⟨x,y⟩:=ih (a+dblF m.word m.addr.toNat) (fun x hx=>hl x (by simp [hx]))
  rw [List.foldl_cons,List.length_cons]
  omega
def cellsN (n:NetD):Int:=if Pl.Zkz n≠0 then 0 else cutT (sumP n.mems)
section
variable {n:NetD} {V:Nat} (hs:Snd n V)
include hs
theorem mem_rngs:∀m∈n.mems,1≤m.addr∧1≤m.word∧m.word≤64:=fun m hm=>by
 obtain ⟨m1,m2,m3,m4,_⟩:=hs.mems m hm
 exact ⟨m1,m3,m4⟩
end
section
variable {n:NetD} {V:Nat}
theorem sel_cut (x:Int):selI (iL (1000:Int) x) (1000:Int) x=cutT x:=by
 unfold cutT selI
 by_cases q:1000<x
 ·rw [if_pos q,show iL (1000:Int) x=true from dec_t q]
 ·rw [if_neg q,show iL (1000:Int) x=false from dec_f q]
end
section
variable {n:NetD} {V:Nat} (hs:Snd n V)
include hs
theorem sumb_is:net_sumb_FF ((0:Int),([],([],([],([],([],(n.mems.map memT,([],()))))))))=some (sumP n.mems,()):=by
 have hM:=hs.lens.2.2.2.2
 have hL:((n.mems.map memT).length:Int)=(n.mems.length:Int):=by rw [List.length_map]
 have e2:net_sumb_L2 ((0:Int),(n.mems.map memT,(((n.mems.map memT).length:Int),((0:Int),()))))=some (sumP n.mems,()):=by
  unfold net_sumb_L2;delta u4
  refine Zif (fun k:Nat=>(sumP (n.mems.take k),(n.mems.map memT,(((n.mems.map memT).length:Int),((k:Int),()))))) n.mems.length rfl ?_ ?_ (Ze8 (by omega))
  ·intro k hk
   have hx:=List.getElem?_eq_getElem hk
   obtain ⟨h1,h2,h3⟩:=mem_rngs hs _ (List.getElem_mem hk)
   have t:=tP_rng h1 h2 h3
   have hx':(n.mems.map memT)[k]?=some (memT n.mems[k]):=by rw [List.getElem?_map,hx];rfl
   have g:gt Za1 (n.mems.map memT) (k:Int)=memT n.mems[k]:=gt_at (σ:=Za1) hx'
   have eb:net_Bits_1_FF (memT n.mems[k],())=some (tP n.mems[k],()):=by
    show net_Bits_1_F (memT n.mems[k])=_
    unfold net_Bits_1_F tP
    by_cases q:10≤n.mems[k].addr
    ·rw [if_pos q];exact br_tt (dec_t q) rfl
    ·rw [if_neg q]
     have e:∀p q:Int,p=q→(some (p,()):Option (TL net_Bits_1_τs))=some (q,()):=by rintro _ _ rfl;rfl
     refine br_ff (dec_f q) (Zaj (dec_t (show (0:Int)≤n.mems[k].addr by omega)) (e _ _ ?_))
     show IntKind.wrap .i64 (n.mems[k].word*2^min (Int.toNat n.mems[k].addr) 64)=_
     rw [Nat.min_eq_left (by omega)]
     unfold tP at t
     rw [if_neg q] at t
     exact i64w (by omega)
   have eb':net_Bits_1_FF (((gt Za1 (n.mems.map memT) (k:Int)).1,((gt Za1 (n.mems.map memT) (k:Int)).2.1,((gt Za1 (n.mems.map memT) (k:Int)).2.2.1,((gt Za1 (n.mems.map memT) (k:Int)).2.2.2.1,((gt Za1 (n.mems.map memT) (k:Int)).2.2.2.2.1,()))))),())=some (tP n.mems[k],()):=by rw [g];exact eb
   have hr:=sumP_rng (n.mems.take k) 0 (fun m hm=>mem_rngs hs m (List.mem_of_mem_take hm))
   have hl:(n.mems.take k).length≤4:=by rw [List.length_take];omega
   have hst:sumP (n.mems.take (k+1))=sumP (n.mems.take k)+tP n.mems[k]:=by unfold sumP;rw [Pl.Zd8 hx,List.foldl_append];rfl
   have e:∀(a b p q:Int),a=b→p=q→(some (.inl (a,(n.mems.map memT,(((n.mems.map memT).length:Int),(p,()))))):Option (TL net_sumb_lay2.σs⊕Out net_sumb_outs2))=some (.inl (b,(n.mems.map memT,(((n.mems.map memT).length:Int),(q,()))))):=by rintro _ _ _ _ rfl rfl;rfl
   have hr:0≤sumP (n.mems.take k)∧sumP (n.mems.take k)≤0+40000*((n.mems.take k).length:Int):=hr
   refine br_tt (dec_t (show (k:Int)<((n.mems.map memT).length:Int) by omega)) (Zaj (show inb (k:Int) (List.length (n.mems.map memT))=true from Zar ⟨by omega,by omega⟩) (Zba eb' (e _ _ _ _ ?_ (i64n (show (k:Int)+1=((k+1:Nat):Int) by omega) (by omega)))))
   rw [hst]
   exact i64w (by omega)
  ·have e:∀(a b:Int),a=b→(some (.inr (a,())):Option (TL net_sumb_lay2.σs⊕Out net_sumb_outs2))=some (.inr (b,())):=by rintro _ _ rfl;rfl
   rw [List.take_length]
   exact br_ff (dec_f (show ¬(n.mems.length:Int)<((n.mems.map memT).length:Int) by omega)) rfl
 exact Zba e2 rfl
theorem bitsN_is:net_Bits_FF (((0:Int),([],([],([],([],([],(n.mems.map memT,([],())))))))),())=some (cutT (sumP n.mems),()):=by
 have hM:=hs.lens.2.2.2.2
 have e1:=sumb_is hs
 have hr:=sumP_rng n.mems 0 (mem_rngs hs)
 have hr:0≤sumP n.mems∧sumP n.mems≤0+40000*(n.mems.length:Int):=hr
 have w:IntKind.wrap .i64 (((0:Nat):Int)+sumP n.mems)=sumP n.mems:=by rw [show ((0:Nat):Int)+sumP n.mems=sumP n.mems by omega];exact i64w (by omega)
 have e:∀(a b:Int),a=b→(some (a,()):Option (TL net_Bits_τs))=some (b,()):=by rintro _ _ rfl;rfl
 refine Zba e1 (e _ _ ?_)
 show selI (iL (1000:Int) (IntKind.wrap .i64 (((0:Nat):Int)+sumP n.mems))) (1000:Int) (IntKind.wrap .i64 (((0:Nat):Int)+sumP n.mems))=_
 rw [w]
 exact sel_cut _
theorem refC_9 {k:Nat} {m:MemD} (hm:n.mems[k]?=some m) (acc:Int) :
  astrariumref13_Cells_L9 (acc,((k:Int),(m.word,((0:Int),nt n ()))))=some (acc,((k:Int),(dblF m.word m.addr.toNat,nt n ()))):=by
 obtain ⟨h1,h2,h3⟩:=mem_rngs hs m (List.mem_of_getElem? hm)
 obtain ⟨_,h4,_⟩:=hs.mems m (List.mem_of_getElem? hm)
 have hk:=Zhb hm
 have hL:((n.mems.map memT).length:Int)=(n.mems.length:Int):=by rw [List.length_map]
 have hM:=hs.lens.2.2.2.2
 have hx':(n.mems.map memT)[k]?=some (memT m):=by rw [List.getElem?_map,hm];rfl
 have g:gt Za1 (n.mems.map memT) (k:Int)=memT m:=gt_at (σ:=Za1) hx'
 have hin:inb (k:Int) (List.length (n.mems.map memT))=true:=Zar ⟨by omega,by omega⟩
 have hq:=Za80 (B:=fun d=>astrariumref13_Cells_B9 d.1 d.2.1 d.2.2.1 d.2.2.2.1 d.2.2.2.2.1 d.2.2.2.2.2.1 d.2.2.2.2.2.2.1 d.2.2.2.2.2.2.2.1 d.2.2.2.2.2.2.2.2.1 d.2.2.2.2.2.2.2.2.2.1 d.2.2.2.2.2.2.2.2.2.2.1 d.2.2.2.2.2.2.2.2.2.2.2.1)
  (I:=fun d:TL astrariumref13_Cells_lay9.σs=>∃j:Nat,j≤m.addr.toNat∧d=(acc,((k:Int),(dblF m.word j,((j:Int),nt n ())))))
  (Q:=fun o:Out astrariumref13_Cells_outs9=>o=(acc,((k:Int),(dblF m.word m.addr.toNat,nt n ()))))
  (fun d:TL astrariumref13_Cells_lay9.σs=>m.addr.toNat - Int.toNat d.2.2.2.1) ?_ NN (acc,((k:Int),(m.word,((0:Int),nt n ())))) ⟨0,by omega,rfl⟩ (Ze8 (by show m.addr.toNat - _≤_;omega))
 ·obtain ⟨o,ho,rfl⟩:=hq
  exact ho
 ·rintro d ⟨j,hj,rfl⟩
  have e0:(gt Za1 (n.mems.map memT) (k:Int)).1=m.addr:=by rw [g];rfl
  by_cases q:j<m.addr.toNat
  ·have c0:iL (j:Int) (gt Za1 (n.mems.map memT) (k:Int)).1=true:=dec_t (by rw [e0];omega)
   have lo:=dbl_low h2 j
   have up:=dbl_up h3 j
   by_cases r:dblF m.word j<1000
   ·refine .inr ⟨(acc,((k:Int),(dblF m.word (j+1),(((j+1:Nat):Int),nt n ())))),?_,⟨j+1,by omega,rfl⟩,by show m.addr.toNat - Int.toNat ((j+1:Nat):Int)<m.addr.toNat - Int.toNat (j:Int);omega⟩
    have e:∀(a b p q:Int),a=b→p=q→(some (.inl (acc,((k:Int),(a,(p,nt n ()))))):Option (TL astrariumref13_Cells_lay9.σs⊕Out astrariumref13_Cells_outs9))=some (.inl (acc,((k:Int),(b,(q,nt n ()))))):=by rintro _ _ _ _ rfl rfl;rfl
    refine Zaj hin (br_tt c0 (br_tt (show selB true (iL (dblF m.word j) (1000:Int)) false=true from dec_t r) (e _ _ _ _ ?_ (i64n (show (j:Int)+1=((j+1:Nat):Int) by omega) (by omega)))))
    rw [dblF,if_pos r]
    exact i64w (x:=2*dblF m.word j) (by omega)
   ·refine .inl ⟨_,Zaj hin (br_tt c0 (br_ff (show selB true (iL (dblF m.word j) (1000:Int)) false=false from dec_f r) rfl)),?_⟩
    have:=dbl_stay (w:=m.word) (k:=j) (by omega) (m.addr.toNat - j)
    rw [show j+(m.addr.toNat - j)=m.addr.toNat by omega] at this
    rw [this];rfl
  ·obtain rfl:j=m.addr.toNat:=by omega
   exact .inl ⟨_,Zaj hin (br_ff (dec_f (show ¬((m.addr.toNat:Nat):Int)<(gt Za1 (n.mems.map memT) (k:Int)).1 by rw [e0];omega)) rfl),rfl⟩
theorem refC_5:astrariumref13_Cells_L5 ((0:Int),((0:Int),nt n ()))=some (sumR n.mems,()):=by
 have hM:=hs.lens.2.2.2.2
 have hL:((n.mems.map memT).length:Int)=(n.mems.length:Int):=by rw [List.length_map]
 unfold astrariumref13_Cells_L5;delta u10
 refine Zif (fun k:Nat=>(sumR (n.mems.take k),((k:Int),nt n ()))) n.mems.length rfl ?_ ?_ (Ze8 (by omega))
 ·intro k hk
  have hx:=List.getElem?_eq_getElem hk
  have hx':(n.mems.map memT)[k]?=some (memT n.mems[k]):=by rw [List.getElem?_map,hx];rfl
  have g:gt Za1 (n.mems.map memT) (k:Int)=memT n.mems[k]:=gt_at (σ:=Za1) hx'
  obtain ⟨h1,h2,h3⟩:=mem_rngs hs _ (List.getElem_mem hk)
  have lo:=dbl_low h2 n.mems[k].addr.toNat
  have up:=dbl_up h3 n.mems[k].addr.toNat
  have e9:astrariumref13_Cells_L9 (sumR (n.mems.take k),((k:Int),((gt Za1 (n.mems.map memT) (k:Int)).2.1,((0:Int),nt n ()))))=some (sumR (n.mems.take k),((k:Int),(dblF n.mems[k].word n.mems[k].addr.toNat,nt n ()))):=by rw [g];exact refC_9 hs hx _
  have hr:0≤sumR (n.mems.take k)∧sumR (n.mems.take k)≤0+2000*((n.mems.take k).length:Int):=sumR_rng (n.mems.take k) 0 (fun m hm=>mem_rngs hs m (List.mem_of_mem_take hm))
  have hl:(n.mems.take k).length≤4:=by rw [List.length_take];omega
  have hst:sumR (n.mems.take (k+1))=sumR (n.mems.take k)+dblF n.mems[k].word n.mems[k].addr.toNat:=by unfold sumR;rw [Pl.Zd8 hx,List.foldl_append];rfl
  have e:∀(a b p q:Int),a=b→p=q→(some (.inl (a,(p,nt n ()))):Option (TL astrariumref13_Cells_lay5.σs⊕Out astrariumref13_Cells_outs5))=some (.inl (b,(q,nt n ()))):=by rintro _ _ _ _ rfl rfl;rfl
  refine br_tt (dec_t (show (k:Int)<((n.mems.map memT).length:Int) by omega)) (Zaj (show inb (k:Int) (List.length (n.mems.map memT))=true from Zar ⟨by omega,by omega⟩) (Zba e9 (e _ _ _ _ ?_ (i64n (show (k:Int)+1=((k+1:Nat):Int) by omega) (by omega)))))
  rw [hst]
  exact i64w (x:=sumR (n.mems.take k)+dblF n.mems[k].word n.mems[k].addr.toNat) (by omega)
 ·rw [List.take_length]
  exact br_ff (dec_f (show ¬(n.mems.length:Int)<((n.mems.map memT).length:Int) by omega)) rfl
end
section
variable {n:NetD} (ft:Fit n)
include ft
theorem cells_is:expand_Cells_FF (netT n,())=some (cellsN n,()):=by
 have ec:=Zq6 ft
 unfold cellsN
 by_cases hc:Pl.Zkz n=0
 ·rw [if_neg (fun q=>q hc)]
  unfold Pl.Zkz at hc
  have h0:Zj3 n=0:=by
   by_cases q:Zj3 n=0
   ·exact q
   ·rw [if_pos q] at hc;exact absurd hc q
  obtain ⟨V,hs⟩:=Za74 h0
  have eb:=bitsN_is hs
  have hc':Pl.Zkz n=0:=by unfold Pl.Zkz;exact hc
  have e:∀(a b:Int),a=b→(some (a,()):Option (TL expand_Cells_τs))=some (b,()):=by rintro _ _ rfl;rfl
  refine Zba ec (br_ff (not_f (dec_t hc')) (Zba eb (e _ _ ?_)))
  show selI (iL (1000:Int) (cutT (sumP n.mems))) (1000:Int) (cutT (sumP n.mems))=_
  rw [sel_cut]
  unfold cutT
  split
  ·rfl
  ·rfl
 ·rw [if_pos hc]
  exact Zba ec (br_tt (not_t (dec_f hc)) rfl)
theorem cells13_is:astrariumref13_Cells_FF (netT n,())=some (cellsN n,()):=by
 have ec:=Zxe ft
 unfold cellsN
 by_cases hc:Pl.Zkz n=0
 ·rw [if_neg (fun q=>q hc)]
  have hc':=hc
  unfold Pl.Zkz at hc
  have h0:Zj3 n=0:=by
   by_cases q:Zj3 n=0
   ·exact q
   ·rw [if_pos q] at hc;exact absurd hc q
  obtain ⟨V,hs⟩:=Za74 h0
  have e5:=refC_5 hs
  have e:∀(a b:Int),a=b→(some (a,()):Option (TL astrariumref13_Cells_τs))=some (b,()):=by rintro _ _ rfl;rfl
  refine Zba ec (br_ff (not_f (dec_t hc')) (Zba e5 (e _ _ ?_)))
  show selI (iL (1000:Int) (sumR n.mems)) (1000:Int) (sumR n.mems)=_
  rw [sel_cut]
  exact (cut_many (sum_many n.mems 0 0 (mem_rngs hs) (.inl rfl) (by omega) (by omega))).symm
 ·rw [if_pos hc]
  exact Zba ec (br_tt (not_t (dec_f hc)) rfl)
end
theorem roomN' (L:List Bool) (h:L.length≤100000):room 1 (List.length ([]++L))=true:=by
 rw [List.nil_append];exact Za3a (by omega) (by omega)
def mz:MemD:=⟨0,0,false,[],[]⟩
theorem cell_at' {c:List CellT} {i:Nat} {p:CellT} (h:c[i]?=some p):cAt c (i:Int)=p.1∧cWord c (i:Int)=p.2.1:=by
 have g:gt Za3 c (i:Int)=p:=gt_at (σ:=Za3) h
 unfold cAt cWord
 rw [g];exact ⟨rfl,rfl⟩
structure Small (m:MemD):Prop where
 a1:1≤m.addr
 a2:m.addr<10
 w1:1≤m.word
 w2:m.word≤64
 sz:m.word*2^m.addr.toNat≤64
theorem Small.nat {m:MemD} (h:Small m):2^m.addr.toNat*m.word.toNat≤64∧1≤2^m.addr.toNat:=by
 have hp:(1:Nat)≤2^m.addr.toNat:=Nat.pos_of_ne_zero (by simp)
 refine ⟨?_,hp⟩
 have e:((2^m.addr.toNat*m.word.toNat:Nat):Int)=m.word*2^m.addr.toNat:=by
  push_cast
  rw [show ((m.word.toNat:Nat):Int)=m.word by have:=h.w1;omega,Int.mul_comm]
 have:=h.sz
 omega
theorem Small.cnt {m:MemD} (h:Small m):2^m.addr.toNat≤64:=by
 have h1:=h.nat.1
 have h2:2^m.addr.toNat*1≤2^m.addr.toNat*m.word.toNat:=Nat.mul_le_mul_left _ (by have:=h.w1;omega)
 omega
theorem foldT_ge:∀(l:List MemD) (a:Int),(∀m∈l,1≤m.addr∧1≤m.word∧m.word≤64)→∀m∈l,a+tP m≤l.foldl (fun a m=>a+tP m) a:=by
 intro l
 induction l with
 | nil=>intro a _ m hm;cases hm
 | cons x l ih=>
  intro a hl m hm
  obtain ⟨h1,h2,h3⟩:=hl x (by simp)
  have t:=tP_rng h1 h2 h3
  have hl':∀m∈l,1≤m.addr∧1≤m.word∧m.word≤64:=fun y hy=>hl y (by simp [hy])
  rw [List.foldl_cons]
  rcases List.mem_cons.1 hm with rfl | hm
  ·exact (sumP_rng l (a+tP m) hl').1
  ·have:=ih (a+tP x) hl' m hm
   omega
section
variable {n:NetD} {V:Nat} (hs:Snd n V)
include hs
theorem small_of (h:cutT (sumP n.mems)≤64):∀m∈n.mems,Small m:=by
 intro m hm
 have h2:sumP n.mems≤64:=by unfold cutT at h;split at h<;>omega
 have h3:=foldT_ge n.mems 0 (mem_rngs hs) m hm
 have h3:0+tP m≤sumP n.mems:=h3
 obtain ⟨m1,m2,m3⟩:=mem_rngs hs m hm
 unfold tP at h3
 by_cases q:10≤m.addr
 ·rw [if_pos q] at h3;omega
 ·rw [if_neg q] at h3
  exact ⟨m1,by omega,m2,m3,by omega⟩
end
section
variable {n:NetD} {V:Nat}
end
section
variable {n:NetD} {V:Nat} (hs:Snd n V)
include hs
end
section
variable {n:NetD} {V:Nat}
theorem addr_pow {m:MemD} (h:Small m):IntKind.wrap .u64 ((1:Int)*(HPow.hPow (2:Int) (Min.min (Int.toNat m.addr) 64)))=((2^m.addr.toNat:Nat):Int):=by
 have h1:=h.a2
 have h2:=h.a1
 rw [Nat.min_eq_left (by omega),Int.one_mul]
 have hc:=h.cnt
 have e:((2^m.addr.toNat:Nat):Int)=(2:Int)^m.addr.toNat:=by push_cast;rfl
 have hp:(0:Int)≤(2:Int)^m.addr.toNat:=Int.le_of_lt (Int.pow_pos (by decide))
 have hc':(2:Int)^m.addr.toNat≤64:=by exact_mod_cast hc
 rw [e]
 exact u64w ⟨hp,by omega⟩
end
section
variable {n:NetD} {V:Nat} (hs:Snd n V)
include hs
end
section
variable {n:NetD} {V:Nat}
end
section
variable {n:NetD} {V:Nat} (hs:Snd n V)
include hs
end
section
variable {n:NetD} (ft:Fit n)
include ft
end
section
variable {n:NetD}
end
section
variable {n:NetD} (ft:Fit n)
include ft
end
section
variable {n:NetD}
theorem snd_c (h:Pl.Zkz n=0):∃V,Snd n V∧cellsN n=cutT (sumP n.mems):=by
 have hc:=h
 unfold Pl.Zkz at hc
 have h0:Zj3 n=0:=by
  by_cases q:Zj3 n=0
  ·exact q
  ·rw [if_pos q] at hc;exact absurd hc q
 obtain ⟨V,hs⟩:=Za74 h0
 exact ⟨V,hs,by unfold cellsN;rw [if_neg (fun q=>q h)]⟩
end
section
variable {n:NetD} (ft:Fit n)
include ft
end
theorem bothT {a b:Bool} (h1:a=true) (h2:b=true):both a b=true:=by subst h1;subst h2;rfl
theorem take_le {l:List Bool} {k n:Nat} (h:k≤n):(l.take k).length≤n:=by rw [List.length_take];omega
theorem bits_Word_is (l:List Bool) (hl:l.length≤64):bits_Word_FF (l,())=some ((wordF l:Int),()):=by
 have s:selI (iL (64:Int) (Int.ofNat (List.length l))) (64:Int) (Int.ofNat (List.length l))=Int.ofNat (List.length l):=by
  unfold selI
  rw [show iL (64:Int) (Int.ofNat (List.length l))=false from dec_f (show ¬(64:Int)<((l.length:Nat):Int) by omega)]
  try rfl
 have ht:List.take (Int.toNat (Int.ofNat (List.length l))) l=l:=by
  show List.take l.length l=l
  exact List.take_length
 have eL:bits_Word_L2 ((0:Int),(l,(((l.length:Nat):Int),((0:Int),()))))=some ((wordF l:Int),()):=by
  unfold bits_Word_L2;delta u4
  refine Zif (fun k:Nat=>((wordF (l.take k):Int),(l,(((l.length:Nat):Int),((k:Int),()))))) l.length rfl ?_ ?_ (Ze8 (by omega))
  ·intro k hk
   have hx:=List.getElem?_eq_getElem hk
   have ht:l.take (k+1)=l.take k++[l[k]]:=Pl.Zd8 hx
   have hk2:(l.take k).length=k:=by rw [List.length_take];omega
   have hw:=Zb74 (l.take k)
   rw [hk2] at hw
   have e:∀(a b p q:Int),a=b→p=q→(some (.inl (a,(l,(((l.length:Nat):Int),(p,()))))):Option (TL bits_Word_lay2.σs⊕Out bits_Word_outs2))=some (.inl (b,(l,(((l.length:Nat):Int),(q,()))))):=by rintro _ _ _ _ rfl rfl;rfl
   refine br_tt (dec_t (show (k:Int)<((l.length:Nat):Int) by omega)) (Zaj (show inb (k:Int) (List.length l)=true from Zar ⟨by omega,by omega⟩) ?_)
   have g:gt .bool l (k:Int)=l[k]:=gt_at (σ:=.bool) hx
   have hz:=bor_pow (i:=k) (w:=wordF (l.take k)) (by omega) hw
   have hs:(wordF (l.take (k+1)):Int)=((wordF (l.take k)+(if l[k] then 2^k else 0):Nat):Int):=by rw [ht,Zb6w,hk2]
   cases hb:l[k]
   ·rw [hb] at g hs
    exact br_ff g (e _ _ _ _ hs.symm (i64n (show (k:Int)+1=((k+1:Nat):Int) by omega) (by omega)))
   ·rw [hb] at g hs
    exact br_tt g (Zaj (dec_t (show (0:Int)≤(k:Int) by omega)) (e _ _ _ _ (hz.trans hs.symm) (i64n (show (k:Int)+1=((k+1:Nat):Int) by omega) (by omega))))
  ·rw [List.take_length]
   exact br_ff (dec_f (show ¬((l.length:Nat):Int)<((l.length:Nat):Int) by omega)) rfl
 have eL':∀l':List Bool,l'=l→bits_Word_L2 ((0:Int),(l',(((List.length l':Nat):Int),((0:Int),()))))=some ((wordF l:Int),()):=by rintro _ rfl;exact eL
 show bits_Word_F bits_Word_L2 l=_
 unfold bits_Word_F
 rw [s]
 refine Zaj (bothT (dec_t (show (0:Int)≤((l.length:Nat):Int) by omega)) (dec_t (show ((l.length:Nat):Int)≤((l.length:Nat):Int) by omega))) (Zba (eL' _ ht) rfl)
def cellAt (w:Nat) (l:List Bool) (a:Nat):Nat:=wordF ((l.drop (a*w)).take w)
def bkC (w:Nat) (l:List Bool) (k:Nat):List CellT:=(List.range k).flatMap (fun a=>if cellAt w l a=0 then [] else [((a:Int),((cellAt w l a:Int),()))])
def szM (m:MemD):Nat:=2^m.addr.toNat*m.word.toNat
def offL (L:List MemD):Nat:=L.foldl (fun a m=>a+szM m) 0
def offM (n:NetD) (k:Nat):Nat:=offL (n.mems.take k)
def bkM (n:NetD) (l:List Bool) (k:Nat):List (List CellT):=(List.range k).map fun i=>bkC (n.mems.getD i mz).word.toNat (l.drop (offM n i)) (2^(n.mems.getD i mz).addr.toNat)
theorem bkC_succ (w:Nat) (l:List Bool) (k:Nat):bkC w l (k+1)=bkC w l k++(if cellAt w l k=0 then [] else [((k:Int),((cellAt w l k:Int),()))]):=by
 unfold bkC;rw [List.range_succ,List.flatMap_append];simp
theorem bkC_len (w:Nat) (l:List Bool):∀k,(bkC w l k).length≤k:=by
 intro k
 induction k with
 | zero=>simp [bkC]
 | succ k ih=>
  rw [bkC_succ,List.length_append]
  split<;>simp<;>omega
theorem bkM_len (n:NetD) (l:List Bool) (k:Nat):(bkM n l k).length=k:=by simp [bkM]
theorem bkM_succ (n:NetD) (l:List Bool) {k:Nat} {m:MemD} (hm:n.mems[k]?=some m):bkM n l (k+1)=bkM n l k++[bkC m.word.toNat (l.drop (offM n k)) (2^m.addr.toNat)]:=by
 unfold bkM
 rw [List.range_succ,List.map_append]
 congr 1
 simp only [List.map_cons,List.map_nil]
 rw [List.getD_eq_getElem?_getD,hm];rfl
theorem offM_succ (n:NetD) {k:Nat} {m:MemD} (hm:n.mems[k]?=some m):offM n (k+1)=offM n k+szM m:=by
 unfold offM offL
 rw [Pl.Zd8 hm,List.foldl_append];rfl
theorem szM_tP {m:MemD} (h:Small m):(szM m:Int)=tP m:=by
 unfold szM tP
 rw [if_neg (by have:=h.a2;omega)]
 push_cast
 rw [show ((m.word.toNat:Nat):Int)=m.word by have:=h.w1;omega,Int.mul_comm]
theorem offL_sum:∀(L:List MemD) (a:Nat),(∀m∈L,Small m)→((L.foldl (fun a m=>a+szM m) a:Nat):Int)=L.foldl (fun a m=>a+tP m) (a:Int):=by
 intro L
 induction L with
 | nil=>intro a _;rfl
 | cons m L ih=>
  intro a h
  have e:=szM_tP (h m (by simp))
  rw [List.foldl_cons,List.foldl_cons,ih _ (fun x hx=>h x (by simp [hx]))]
  congr 1
  push_cast
  rw [e]
theorem offL_mono:∀(L:List MemD) (a:Nat),a≤L.foldl (fun a m=>a+szM m) a:=by
 intro L
 induction L with
 | nil=>intro a;exact Nat.le_refl _
 | cons m L ih=>intro a;rw [List.foldl_cons];exact Nat.le_trans (Nat.le_add_right ..) (ih _)
theorem offM_le (n:NetD) (k:Nat):offM n k≤offL n.mems:=by
 unfold offM offL
 conv=>rhs;rw [←List.take_append_drop k n.mems,List.foldl_append]
 exact offL_mono _ _
theorem drop_more (l:List Bool) (i w:Nat):(l.drop i).drop w=l.drop (i+w):=by rw [List.drop_drop]
theorem bk_tab {w a N:Nat} {l:List Bool} (ha:a<N) (h:N*w≤l.length):w≤(l.drop (a*w)).length:=by
 have:(a+1)*w≤N*w:=Nat.mul_le_mul_right _ (by omega)
 rw [Nat.succ_mul] at this
 rw [List.length_drop]
 omega
theorem room_cells (c:List CellT) (d:CellT) (h:c.length≤1000):room 16 (List.length (c++[d]))=true:=by
 rw [List.length_append,List.length_cons,List.length_nil]
 exact Za3a (by omega) (by omega)
theorem room_rows (c:List (List CellT)) (d:List CellT) (h:c.length≤1000):room 24 (List.length (c++[d]))=true:=by
 rw [List.length_append,List.length_cons,List.length_nil]
 exact Za3a (by omega) (by omega)
theorem bk_16 {m:MemD} (hm:Small m) (T:List (Sh.T Za1)) (L K:Int) (b1:List Bool) (b2:List (List CellT)) (an:Bool) (rs:List (Sh.T Zb3)) (ws:List (Sh.T Zb8)) (rest:List Bool) (hr:szM m≤rest.length) :
  expand_Back_L16 (rest,(T,(L,(K,(((2^m.addr.toNat:Nat):Int),((0:Int),(b1,(b2,(m.addr,(m.word,(an,(rs,(ws,([],())))))))))))))) =
   some (rest.drop (szM m),(T,(L,(K,(b1,(b2,(bkC m.word.toNat rest (2^m.addr.toNat),()))))))):=by
 have hcn:=hm.cnt
 have hw1:=hm.w1
 have hw2:=hm.w2
 unfold szM at hr
 unfold expand_Back_L16;delta u14
 refine Zif (fun a:Nat=>(rest.drop (a*m.word.toNat),(T,(L,(K,(((2^m.addr.toNat:Nat):Int),((a:Int),(b1,(b2,(m.addr,(m.word,(an,(rs,(ws,(bkC m.word.toNat rest a,()))))))))))))))) (2^m.addr.toNat) (by (have h:rest.drop (0*m.word.toNat)=rest:=by rw [Nat.zero_mul];rfl);dsimp only;rw [h];try rfl) ?_ ?_ (Ze8 (by omega))
 ·intro a ha
  have hlen:=bk_tab (w:=m.word.toNat) ha hr
  have e1:bits_Word_FF (List.take (Int.toNat m.word) (rest.drop (a*m.word.toNat)),())=some ((cellAt m.word.toNat rest a:Int),()):=bits_Word_is _ (take_le (by omega))
  have hb:both (iE (0:Int) m.word) (iE m.word (Int.ofNat (List.length (rest.drop (a*m.word.toNat)))))=true:=bothT (dec_t (by omega)) (dec_t (show m.word≤((List.length (rest.drop (a*m.word.toNat)):Nat):Int) by omega))
  have hd:List.drop (Int.toNat m.word) (rest.drop (a*m.word.toNat))=rest.drop ((a+1)*m.word.toNat):=by rw [drop_more,Nat.succ_mul]
  have hl:=bkC_len m.word.toNat rest a
  have hst:=bkC_succ m.word.toNat rest a
  have e:∀(r r':List Bool) (p q:Int) (c c':List CellT),r=r'→p=q→c=c'→(some (.inl (r,(T,(L,(K,(((2^m.addr.toNat:Nat):Int),(p,(b1,(b2,(m.addr,(m.word,(an,(rs,(ws,(c,()))))))))))))))):Option (TL expand_Back_lay16.σs⊕Out expand_Back_outs16))=some (.inl (r',(T,(L,(K,(((2^m.addr.toNat:Nat):Int),(q,(b1,(b2,(m.addr,(m.word,(an,(rs,(ws,(c',()))))))))))))))):=by rintro _ _ _ _ _ _ rfl rfl rfl;rfl
  have hu:IntKind.wrap .u64 ((a:Int)+1)=((a+1:Nat):Int):=u64w (x:=(a:Int)+1) (by omega)
  by_cases q:cellAt m.word.toNat rest a=0
  ·rw [if_pos q,List.append_nil] at hst
   exact br_tt (dec_t (show (a:Int)<((2^m.addr.toNat:Nat):Int) by omega)) (Zaj hb (Zba e1 (br_ff (not_f (dec_t (show ((cellAt m.word.toNat rest a:Nat):Int)=0 by omega))) (Zaj hb (e _ _ _ _ _ _ hd hu hst.symm)))))
  ·rw [if_neg q] at hst
   exact br_tt (dec_t (show (a:Int)<((2^m.addr.toNat:Nat):Int) by omega)) (Zaj hb (Zba e1 (br_tt (not_t (dec_f (show ¬((cellAt m.word.toNat rest a:Nat):Int)=0 by omega))) (Zaj (show room 16 (List.length (bkC m.word.toNat rest a++[((a:Int),((cellAt m.word.toNat rest a:Int),()))]))=true from room_cells _ _ (by omega)) (Zaj hb (e _ _ _ _ _ _ hd hu hst.symm))))))
 ·exact br_ff (dec_f (show ¬((2^m.addr.toNat:Nat):Int)<((2^m.addr.toNat:Nat):Int) by omega)) rfl
section
variable {n:NetD} {V:Nat} (hs:Snd n V)
include hs
theorem bk_12 (hsm:∀m∈n.mems,Small m) (lat:List Bool) (rest:List Bool) (hr:offL n.mems≤rest.length) :
  expand_Back_L12 (rest,(n.mems.map memT,(((n.mems.map memT).length:Int),((0:Int),(lat,([],()))))))=some (lat,(bkM n rest n.mems.length,())):=by
 have hM:=hs.lens.2.2.2.2
 have hL:((n.mems.map memT).length:Int)=(n.mems.length:Int):=by rw [List.length_map]
 unfold expand_Back_L12;delta u6
 refine Zif (fun k:Nat=>(rest.drop (offM n k),(n.mems.map memT,(((n.mems.map memT).length:Int),((k:Int),(lat,(bkM n rest k,()))))))) n.mems.length (by (have h:rest.drop (offM n 0)=rest:=rfl);dsimp only;(try rw [h]);try rfl) ?_ ?_ (Ze8 (by omega))
 ·intro k hk
  obtain ⟨m,hm⟩:∃m,n.mems[k]?=some m:=⟨_,List.getElem?_eq_getElem hk⟩
  have sm:=hsm m (List.mem_of_getElem? hm)
  have hm':(n.mems.map memT)[k]?=some (memT m):=by rw [List.getElem?_map,hm];rfl
  have g1:gt Za1 (n.mems.map memT) (k:Int)=memT m:=gt_at (σ:=Za1) hm'
  have ho:=offM_succ n hm
  have ho2:=offM_le n (k+1)
  have e16:=bk_16 sm (n.mems.map memT) ((n.mems.map memT).length:Int) (k:Int) lat (bkM n rest k) m.any (m.reads.map readT) (m.writes.map Zt4) (rest.drop (offM n k)) (by rw [List.length_drop];omega)
  have e16':expand_Back_L16 (rest.drop (offM n k),(n.mems.map memT,(((n.mems.map memT).length:Int),((k:Int),((IntKind.wrap .u64 ((1:Int)*(HPow.hPow (2:Int) (Min.min (Int.toNat (gt Za1 (n.mems.map memT) (k:Int)).1) 64)))),((0:Int),(lat,(bkM n rest k,((gt Za1 (n.mems.map memT) (k:Int)).1,((gt Za1 (n.mems.map memT) (k:Int)).2.1,((gt Za1 (n.mems.map memT) (k:Int)).2.2.1,((gt Za1 (n.mems.map memT) (k:Int)).2.2.2.1,((gt Za1 (n.mems.map memT) (k:Int)).2.2.2.2.1,([],())))))))))))))) =
    some ((rest.drop (offM n k)).drop (szM m),(n.mems.map memT,(((n.mems.map memT).length:Int),((k:Int),(lat,(bkM n rest k,(bkC m.word.toNat (rest.drop (offM n k)) (2^m.addr.toNat),()))))))):=by
   rw [g1]
   have:=addr_pow sm
   show expand_Back_L16 (rest.drop (offM n k),(n.mems.map memT,(((n.mems.map memT).length:Int),((k:Int),((IntKind.wrap .u64 ((1:Int)*(HPow.hPow (2:Int) (Min.min (Int.toNat m.addr) 64)))),_)))))=_
   rw [this]
   exact e16
  have hc0:iE (0:Int) (gt Za1 (n.mems.map memT) (k:Int)).1=true:=dec_t (by rw [g1];have:=sm.a1;show (0:Int)≤m.addr;omega)
  have hd:(rest.drop (offM n k)).drop (szM m)=rest.drop (offM n (k+1)):=by rw [drop_more,ho]
  have hroom:=room_rows (bkM n rest k) (bkC m.word.toNat (rest.drop (offM n k)) (2^m.addr.toNat)) (by rw [bkM_len];omega)
  have e:∀(r r':List Bool) (p q:Int) (c c':List (List CellT)),r=r'→p=q→c=c'→(some (.inl (r,(n.mems.map memT,(((n.mems.map memT).length:Int),(p,(lat,(c,()))))))):Option (TL expand_Back_lay12.σs⊕Out expand_Back_outs12))=some (.inl (r',(n.mems.map memT,(((n.mems.map memT).length:Int),(q,(lat,(c',()))))))):=by rintro _ _ _ _ _ _ rfl rfl rfl;rfl
  exact br_tt (dec_t (show (k:Int)<((n.mems.map memT).length:Int) by omega)) (Zaj (show inb (k:Int) (List.length (n.mems.map memT))=true from Zar ⟨by omega,by omega⟩) (Zaj hc0 (Zba e16' (Zaj hroom (e _ _ _ _ _ _ hd (i64n (show (k:Int)+1=((k+1:Nat):Int) by omega) (by omega)) (bkM_succ n rest hm).symm)))))
 ·exact br_ff (dec_f (show ¬(n.mems.length:Int)<((n.mems.map memT).length:Int) by omega)) rfl
theorem rb_15 {k:Nat} {m:MemD} (hmk:n.mems[k]?=some m) (hm:Small m) (b3:List Bool) (b4:List (List CellT)) (rest:List Bool) (hr:szM m≤rest.length) :
  astrariumref13_Back_L15 (rest,((k:Int),((0:Int),nt n (b3,(b4,([],()))))))=some (rest.drop (szM m),((k:Int),nt n (b3,(b4,(bkC m.word.toNat rest (2^m.addr.toNat),()))))):=by
 have hcn:=hm.cnt
 have hw1:=hm.w1
 have hw2:=hm.w2
 have hk:=Zhb hmk
 have hM:=hs.lens.2.2.2.2
 have hm':(n.mems.map memT)[k]?=some (memT m):=by rw [List.getElem?_map,hmk];rfl
 have g1:gt Za1 (n.mems.map memT) (k:Int)=memT m:=gt_at (σ:=Za1) hm'
 have gw:(gt Za1 (n.mems.map memT) (k:Int)).2.1=m.word:=by rw [g1];rfl
 have hin:inb (k:Int) (List.length (n.mems.map memT))=true:=Zar ⟨by omega,by rw [List.length_map];omega⟩
 have a1:=hm.a1
 have a2:=hm.a2
 have hfit:∀j:Nat,j≤2^m.addr.toNat→Zdg ((j:Int),((gt Za1 (n.mems.map memT) (k:Int)).1,()))=some (decide (j<2^m.addr.toNat),()):=by
  intro j hj
  rw [g1]
  have:=Zvi (v:=(j:Int)) (w:=m.addr) ⟨by omega,by omega⟩ ⟨by omega,by omega⟩
  refine this.trans ?_
  have e:∀p q:Bool,p=q→(some (p,()):Option (TL Zgq))=some (q,()):=by rintro _ _ rfl;rfl
  refine e _ _ ?_
  unfold fitB2
  have hp:((2^m.addr.toNat:Nat):Int)=(2:Int)^m.addr.toNat:=by push_cast;rfl
  by_cases q:j<2^m.addr.toNat
  ·rw [decide_eq_true q,decide_eq_true]
   exact Int.ediv_eq_zero_of_lt (by omega) (by omega)
  ·obtain rfl:j=2^m.addr.toNat:=by omega
   rw [decide_eq_false q,hp,decide_eq_false]
   have h2:(2:Int)^m.addr.toNat≠0:=by have:=hm.nat.2;rw [←hp];omega
   rw [Int.ediv_self h2]
   omega
 unfold szM at hr
 unfold astrariumref13_Back_L15;delta u14
 refine Zif (fun a:Nat=>(rest.drop (a*m.word.toNat),((k:Int),((a:Int),nt n (b3,(b4,(bkC m.word.toNat rest a,()))))))) (2^m.addr.toNat) (by (have h:rest.drop (0*m.word.toNat)=rest:=by rw [Nat.zero_mul];rfl);dsimp only;rw [h];try rfl) ?_ ?_ (Ze8 (by omega))
 ·intro a ha
  have e0:=hfit a (by omega)
  rw [decide_eq_true ha] at e0
  have hlen:=bk_tab (w:=m.word.toNat) ha hr
  have e1:Zavw (List.take (Int.toNat (gt Za1 (n.mems.map memT) (k:Int)).2.1) (rest.drop (a*m.word.toNat)),())=some ((cellAt m.word.toNat rest a:Int),()):=by
   rw [gw];exact Zba0 _ (take_le (by omega))
  have hb:both (iE (0:Int) (gt Za1 (n.mems.map memT) (k:Int)).2.1) (iE (gt Za1 (n.mems.map memT) (k:Int)).2.1 (Int.ofNat (List.length (rest.drop (a*m.word.toNat)))))=true:=by
   rw [gw];exact bothT (dec_t (by omega)) (dec_t (show m.word≤((List.length (rest.drop (a*m.word.toNat)):Nat):Int) by omega))
  have hd:List.drop (Int.toNat (gt Za1 (n.mems.map memT) (k:Int)).2.1) (rest.drop (a*m.word.toNat))=rest.drop ((a+1)*m.word.toNat):=by rw [gw,drop_more,Nat.succ_mul]
  have hl:=bkC_len m.word.toNat rest a
  have hst:=bkC_succ m.word.toNat rest a
  have e:∀(r r':List Bool) (p q:Int) (c c':List CellT),r=r'→p=q→c=c'→(some (.inl (r,((k:Int),(p,nt n (b3,(b4,(c,()))))))):Option (TL astrariumref13_Back_lay15.σs⊕Out astrariumref13_Back_outs15))=some (.inl (r',((k:Int),(q,nt n (b3,(b4,(c',()))))))):=by rintro _ _ _ _ _ _ rfl rfl rfl;rfl
  have hu:IntKind.wrap .u64 ((a:Int)+1)=((a+1:Nat):Int):=u64w (x:=(a:Int)+1) (by omega)
  by_cases q:cellAt m.word.toNat rest a=0
  ·rw [if_pos q,List.append_nil] at hst
   exact Zaj hin (Zba e0 (br_tt rfl (Zaj hin (Zaj hb (Zba e1 (Zaj hin (Zaj hb (br_ff (not_f (dec_t (show ((cellAt m.word.toNat rest a:Nat):Int)=0 by omega))) (e _ _ _ _ _ _ hd hu hst.symm)))))))))
  ·rw [if_neg q] at hst
   exact Zaj hin (Zba e0 (br_tt rfl (Zaj hin (Zaj hb (Zba e1 (Zaj hin (Zaj hb (br_tt (not_t (dec_f (show ¬((cellAt m.word.toNat rest a:Nat):Int)=0 by omega))) (Zaj (show room 16 (List.length (bkC m.word.toNat rest a++[((a:Int),((cellAt m.word.toNat rest a:Int),()))]))=true from room_cells _ _ (by omega)) (e _ _ _ _ _ _ hd hu hst.symm))))))))))
 ·have e0:=hfit (2^m.addr.toNat) (Nat.le_refl _)
  rw [decide_eq_false (by omega)] at e0
  exact Zaj hin (Zba e0 (br_ff rfl rfl))
theorem rb_11 (hsm:∀m∈n.mems,Small m) (lat:List Bool) (rest:List Bool) (hr:offL n.mems≤rest.length) :
  astrariumref13_Back_L11 (rest,((0:Int),nt n (lat,([],()))))=some (lat,(bkM n rest n.mems.length,())):=by
 have hM:=hs.lens.2.2.2.2
 have hL:((n.mems.map memT).length:Int)=(n.mems.length:Int):=by rw [List.length_map]
 unfold astrariumref13_Back_L11;delta u12
 refine Zif (fun k:Nat=>(rest.drop (offM n k),((k:Int),nt n (lat,(bkM n rest k,()))))) n.mems.length (by (have h:rest.drop (offM n 0)=rest:=rfl);dsimp only;(try rw [h]);try rfl) ?_ ?_ (Ze8 (by omega))
 ·intro k hk
  obtain ⟨m,hm⟩:∃m,n.mems[k]?=some m:=⟨_,List.getElem?_eq_getElem hk⟩
  have sm:=hsm m (List.mem_of_getElem? hm)
  have ho:=offM_succ n hm
  have ho2:=offM_le n (k+1)
  have e15:=rb_15 hs hm sm lat (bkM n rest k) (rest.drop (offM n k)) (by rw [List.length_drop];omega)
  have hd:(rest.drop (offM n k)).drop (szM m)=rest.drop (offM n (k+1)):=by rw [drop_more,ho]
  have hroom:=room_rows (bkM n rest k) (bkC m.word.toNat (rest.drop (offM n k)) (2^m.addr.toNat)) (by rw [bkM_len];omega)
  have e:∀(r r':List Bool) (p q:Int) (c c':List (List CellT)),r=r'→p=q→c=c'→(some (.inl (r,(p,nt n (lat,(c,()))))):Option (TL astrariumref13_Back_lay11.σs⊕Out astrariumref13_Back_outs11))=some (.inl (r',(q,nt n (lat,(c',()))))):=by rintro _ _ _ _ _ _ rfl rfl rfl;rfl
  exact br_tt (dec_t (show (k:Int)<((n.mems.map memT).length:Int) by omega)) (Zba e15 (Zaj hroom (e _ _ _ _ _ _ hd (i64n (show (k:Int)+1=((k+1:Nat):Int) by omega) (by omega)) (bkM_succ n rest hm).symm)))
 ·exact br_ff (dec_f (show ¬(n.mems.length:Int)<((n.mems.map memT).length:Int) by omega)) rfl
end
def bkR (n:NetD) (ls:List Bool) (cs:List (List CellT)):Int×(List Bool×List (List CellT)):=
 if Pl.Zkz n≠0 then (Pl.Zkz n,([],[])) else if 64<cellsN n then (17,([],[])) else
 if (ls.length:Int)=(n.latches.length:Int)+cellsN n∧cs.length=0 then (0,(ls.take n.latches.length,bkM n (ls.drop n.latches.length) n.mems.length)) else (14,([],[]))
section
variable {n:NetD} (ft:Fit n)
include ft
theorem back_is13 (ls:List Bool) (cs:List (List CellT)) (hl:ls.length≤100000) :
  expand_Back_FF (netT n,((ls,(cs,())),()))=some (((bkR n ls cs).2.1,((bkR n ls cs).2.2,())),((bkR n ls cs).1,())) ∧
  astrariumref13_Back_FF (netT n,((ls,(cs,())),()))=some (((bkR n ls cs).2.1,((bkR n ls cs).2.2,())),((bkR n ls cs).1,())):=by
 have c1:=Zq6 ft
 have c2:=Zxe ft
 have d1:=cells_is ft
 have d2:=cells13_is ft
 have hla:=ft.lat.1
 have hL:((n.latches.map latT).length:Int)=(n.latches.length:Int):=by rw [List.length_map]
 unfold bkR
 by_cases hc:Pl.Zkz n=0
 ·rw [if_neg (fun q=>q hc)]
  by_cases h1:64<cellsN n
  ·rw [if_pos h1]
   exact ⟨Zba c1 (br_ff (not_f (dec_t hc)) (Zba d1 (br_tt (dec_t h1) rfl))),Zba c2 (br_ff (not_f (dec_t hc)) (Zba d2 (br_tt (dec_t h1) rfl)))⟩
  ·rw [if_neg h1]
   obtain ⟨V,hs,hcl2⟩:=snd_c hc
   have hsm:=small_of hs (by rw [←hcl2];omega)
   have hsum:((offL n.mems:Nat):Int)=sumP n.mems:=offL_sum n.mems 0 hsm
   have hcells:cellsN n=sumP n.mems:=by
    rw [hcl2]
    unfold cutT
    rw [hcl2] at h1
    unfold cutT at h1
    split at h1
    ·omega
    ·rename_i q;rw [if_neg q]
   have hw:IntKind.wrap .i64 (((n.latches.map latT).length:Int)+cellsN n)=(n.latches.length:Int)+cellsN n:=by rw [hL];exact i64w (by omega)
   by_cases h2:(ls.length:Int)=(n.latches.length:Int)+cellsN n
   ·by_cases h3:cs.length=0
    ·rw [if_pos ⟨h2,h3⟩]
     have hdl:offL n.mems≤(ls.drop n.latches.length).length:=by rw [List.length_drop];omega
     have f1:=bk_12 hs hsm (ls.take n.latches.length) (ls.drop n.latches.length) hdl
     have f2:=rb_11 hs hsm (ls.take n.latches.length) (ls.drop n.latches.length) hdl
     have tn:Int.toNat (Int.ofNat (List.length (n.latches.map latT)))=n.latches.length:=by show (n.latches.map latT).length=_;rw [List.length_map]
     have b2:not (iQ (Int.ofNat (List.length ls)) (IntKind.wrap .i64 (((n.latches.map latT).length:Int)+cellsN n)))=false:=not_f (dec_t (by rw [hw];exact h2))
     have b3:selB false true (iL (0:Int) (Int.ofNat (List.length cs)))=false:=dec_f (show ¬(0:Int)<((cs.length:Nat):Int) by omega)
     have b4:selB false true (not (iQ (Int.ofNat (List.length cs)) (0:Int)))=false:=not_f (dec_t (show ((cs.length:Nat):Int)=0 by omega))
     have b5:both (iE (0:Int) (Int.ofNat (List.length (n.latches.map latT)))) (iE (Int.ofNat (List.length (n.latches.map latT))) (Int.ofNat (List.length ls)))=true:=bothT (dec_t (show (0:Int)≤(((n.latches.map latT).length:Nat):Int) by omega)) (dec_t (show (((n.latches.map latT).length:Nat):Int)≤((ls.length:Nat):Int) by omega))
     have tk:(ls.take n.latches.length).length≤100000:=by rw [List.length_take];omega
     have hcb:Zaj8 (List.take (Int.toNat (Int.ofNat (List.length (n.latches.map latT)))) ls,())=some (ls.take n.latches.length,()):=by
      rw [tn]
      exact Zaj (roomN' _ tk) rfl
     have f1':expand_Back_L12 (List.drop (Int.toNat (Int.ofNat (List.length (n.latches.map latT)))) ls,(n.mems.map memT,(((n.mems.map memT).length:Int),((0:Int),(ls.take n.latches.length,([],()))))))=some (ls.take n.latches.length,(bkM n (ls.drop n.latches.length) n.mems.length,())):=by rw [tn];exact f1
     have f2':astrariumref13_Back_L11 (List.drop (Int.toNat (Int.ofNat (List.length (n.latches.map latT)))) ls,((0:Int),nt n ([]++List.take (Int.toNat (Int.ofNat (List.length (n.latches.map latT)))) ls,([],()))))=some (ls.take n.latches.length,(bkM n (ls.drop n.latches.length) n.mems.length,())):=by rw [tn];exact f2
     have hroom:room 1 (List.length ([]++List.take (Int.toNat (Int.ofNat (List.length (n.latches.map latT)))) ls))=true:=by rw [tn];exact roomN' _ tk
     exact ⟨Zba c1 (br_ff (not_f (dec_t hc)) (Zba d1 (br_ff (dec_f h1) (br_ff b2 (br_ff b3 (Zaj b5 (Zba hcb (Zaj b5 (Zba f1' rfl))))))))),
      Zba c2 (br_ff (not_f (dec_t hc)) (Zba d2 (br_ff (dec_f h1) (Zba d2 (br_ff b2 (br_ff b4 (Zaj b5 (Zaj hroom (Zaj b5 (Zba f2' rfl))))))))))⟩
    ·rw [if_neg (fun q=>h3 q.2)]
     have b2:not (iQ (Int.ofNat (List.length ls)) (IntKind.wrap .i64 (((n.latches.map latT).length:Int)+cellsN n)))=false:=not_f (dec_t (by rw [hw];exact h2))
     have b3:selB false true (iL (0:Int) (Int.ofNat (List.length cs)))=true:=dec_t (show (0:Int)<((cs.length:Nat):Int) by omega)
     have b4:selB false true (not (iQ (Int.ofNat (List.length cs)) (0:Int)))=true:=not_t (dec_f (show ¬((cs.length:Nat):Int)=0 by omega))
     exact ⟨Zba c1 (br_ff (not_f (dec_t hc)) (Zba d1 (br_ff (dec_f h1) (br_ff b2 (br_tt b3 rfl))))),
      Zba c2 (br_ff (not_f (dec_t hc)) (Zba d2 (br_ff (dec_f h1) (Zba d2 (br_ff b2 (br_tt b4 rfl))))))⟩
   ·rw [if_neg (fun q=>h2 q.1)]
    have b2:not (iQ (Int.ofNat (List.length ls)) (IntKind.wrap .i64 (((n.latches.map latT).length:Int)+cellsN n)))=true:=not_t (dec_f (by rw [hw];exact h2))
    exact ⟨Zba c1 (br_ff (not_f (dec_t hc)) (Zba d1 (br_ff (dec_f h1) (br_tt b2 rfl)))),
     Zba c2 (br_ff (not_f (dec_t hc)) (Zba d2 (br_ff (dec_f h1) (Zba d2 (br_tt b2 rfl)))))⟩
 ·rw [if_pos hc]
  exact ⟨Zba c1 (br_tt (not_t (dec_f hc)) rfl),Zba c2 (br_tt (not_t (dec_f hc)) rfl)⟩
end
end Go.Proofs.YtkcpdpplobhpaaaGreat.V
end
section
namespace Go.Proofs.YtkcpdpplobhpaaaGreat.V
open Go Go.RowKit
open Go.Proofs.YtkcpdpplobhpaaaGreat.Pl
set_option maxRecDepth 10000
section
variable {n:NetD} {V:Nat} (hs:Snd n V)
include hs
end
theorem check_snd0 {n:NetD} (h:Pl.Zkz n=0):∃V,Snd n V∧Zj3 n=0∧acyB (ndL n) V=true:=by
 unfold Pl.Zkz at h
 by_cases h0:Zj3 n≠0
 ·rw [if_pos h0] at h;exact absurd h h0
 rw [if_neg h0] at h
 have h0:Zj3 n=0:=by omega
 obtain ⟨V,hs⟩:=Za74 h0
 refine ⟨V,hs,h0,?_⟩
 rw [hs.vars,Int.toNat_natCast] at h
 by_cases q:acyB (ndL n) V=true
 ·exact q
 ·rw [if_neg q] at h;omega
end Go.Proofs.YtkcpdpplobhpaaaGreat.V
end
