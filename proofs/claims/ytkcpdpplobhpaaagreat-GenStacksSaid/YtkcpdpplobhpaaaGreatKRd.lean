import Derived.Test.YtkcpdpplobhpaaaGreatKSa
import Derived.Test.YtkcpdpplobhpaaaGreatKRa
import Derived.Test.YtkcpdpplobhpaaaGreatKRc
import Derived.Test.YtkcpdpplobhpaaaGreatKSb
set_option linter.unusedVariables false
set_option linter.unusedSimpArgs false
set_option linter.unnecessarySimpa false
section
namespace Go.Proofs.YtkcpdpplobhpaaaGreat.V
open Go Go.RowKit
set_option maxRecDepth 1000000
abbrev net_Bits_1_σs:List Sh:=[Za1]
abbrev net_Bits_1_τs:List Sh:=[(.int .i64)]
abbrev net_Bits_1_T:=TL net_Bits_1_σs→Option (TL net_Bits_1_τs)
abbrev net_Bits_1_D:=Kd 186 net_Bits_1_σs net_Bits_1_τs
def net_Bits_1_F (a0:Sh.T Za1):Option (TL net_Bits_1_τs):=
 br (iE (10:Int) a0.1)
 (
  some ((1000:Int),()))
 (
  chk (iE (0:Int) a0.1)<|
  some ((IntKind.wrap .i64 (@HMul.hMul (Int) (Int) (Int) _ a0.2.1 (HPow.hPow (2:Int) (Min.min (Int.toNat a0.1) 64)))),()))
def net_Bits_1_G  :net_Bits_1_D:=⟨u1 net_Bits_1_F,pD Tryz.func186 11 k0 e0 1 (sS l0) fun d=>by kernel_rfl⟩
def net_Bits_1_K:net_Bits_1_D:=net_Bits_1_G  
abbrev net_Ports_1_σs:List Sh:=[Za1]
abbrev net_Ports_1_τs:List Sh:=[(.int .i64)]
abbrev net_Ports_1_T:=TL net_Ports_1_σs→Option (TL net_Ports_1_τs)
abbrev net_Ports_1_D:=Kd 130 net_Ports_1_σs net_Ports_1_τs
def net_Ports_1_F (a0:Sh.T Za1):Option (TL net_Ports_1_τs):=
 some ((IntKind.wrap .i64 ((Int.ofNat (List.length a0.2.2.2.1))+(Int.ofNat (List.length a0.2.2.2.2.1)))),())
def net_Ports_1_G  :net_Ports_1_D:=⟨u1 net_Ports_1_F,pD Tryz.func130 10 k0 e0 1 (sS l0) fun d=>by kernel_rfl⟩
def net_Ports_1_K:net_Ports_1_D:=net_Ports_1_G  
abbrev net_sumb_lay:Lay:={ T:=[(0,.agg lNet),(1,.func 186 [] [])],h:=[],nx:=0 }
abbrev net_sumb_outs:List (Ev.Ex×Lay):=[(.ret,{ T:=[(0,.int .i64)],h:=[],nx:=0 })]
abbrev net_sumb_T:=TL net_sumb_lay.σs→Option (Out net_sumb_outs)
abbrev net_sumb_D:=Kb 129 2 net_sumb_lay 1 net_sumb_outs
abbrev net_sumb_lay2:Lay:={ T:=[(1,.func 186 [] []),(4,.int .i64),(8,.fz Za1),(9,.int .i64),(10,.int .i64)],h:=[],nx:=0 }
abbrev net_sumb_outs2:List (Ev.Ex×Lay):=[((.exit 0),{ T:=[(4,.int .i64)],h:=[],nx:=0 })]
abbrev net_sumb_T2:=TL net_sumb_lay2.σs→Option (Out net_sumb_outs2)
abbrev net_sumb_D2:=Ld 0 21 (Zb5 [0] (Zaa Tryz.f129)) net_sumb_lay2 net_sumb_outs2
def net_sumb_B2 (F0:net_Bits_1_T) (t4:Int) (t8:List (Sh.T Za1)) (t9 t10:Int):Option (TL net_sumb_lay2.σs⊕Out net_sumb_outs2):=
 br (iL t10 t9)
 (
  chk (inb t10 (List.length t8))<|
  bnd (F0 (((gt Za1 t8 t10).1,((gt Za1 t8 t10).2.1,((gt Za1 t8 t10).2.2.1,((gt Za1 t8 t10).2.2.2.1,((gt Za1 t8 t10).2.2.2.2.1,()))))),())) fun x0=>
  some (.inl ((IntKind.wrap .i64 (@HAdd.hAdd (Int) (Int) (Int) _ t4 x0.1)),(t8,(t9,((IntKind.wrap .i64 (t10+(1:Int))),()))))))
 (
  some (.inr (t4,())))
def net_sumb_M2 (c0:net_Bits_1_D) :net_sumb_D2:=mkL (u4 (net_sumb_B2 c0.F)) (pL (kD c0 k0) e0 1 l0 fun d=>by kernel_rfl)
def net_sumb_N2:net_sumb_D2:=net_sumb_M2 net_Bits_1_K 
def net_sumb_F (F0:net_Bits_1_T) (L2:net_sumb_T2) (t0_0:Int) (t0_1:List Int) (t0_2:List (Sh.T Za0)) (t0_3 t0_4 t0_5:List Int) (t0_6:List (Sh.T Za1)) (t0_7:List (Sh.T Za0)):Option (Out net_sumb_outs):=
 bnd (L2 ((0:Int),(t0_6,((Int.ofNat (List.length t0_6)),((0:Int),()))))) fun x0=>
 some (x0.1,())
def net_sumb_G (c0:net_Bits_1_D) (M2:net_sumb_D2):net_sumb_D:=⟨u8 (net_sumb_F c0.F M2.L),pB Tryz.func129 21 (kD c0 k0) e0 1 (sS (sC M2 l0)) fun d=>by kernel_rfl⟩
def net_sumb_K:net_sumb_D:=net_sumb_G net_Bits_1_K net_sumb_N2
abbrev net_sump_lay:Lay:={ T:=[(0,.agg lNet),(1,.func 130 [] [])],h:=[],nx:=0 }
abbrev net_sump_outs:List (Ev.Ex×Lay):=[(.ret,{ T:=[(0,.int .i64)],h:=[],nx:=0 })]
abbrev net_sump_T:=TL net_sump_lay.σs→Option (Out net_sump_outs)
abbrev net_sump_D:=Kb 129 2 net_sump_lay 1 net_sump_outs
abbrev net_sump_lay2:Lay:={ T:=[(1,.func 130 [] []),(4,.int .i64),(8,.fz Za1),(9,.int .i64),(10,.int .i64)],h:=[],nx:=0 }
abbrev net_sump_outs2:List (Ev.Ex×Lay):=[((.exit 0),{ T:=[(4,.int .i64)],h:=[],nx:=0 })]
abbrev net_sump_T2:=TL net_sump_lay2.σs→Option (Out net_sump_outs2)
abbrev net_sump_D2:=Ld 0 21 (Zb5 [0] (Zaa Tryz.f129)) net_sump_lay2 net_sump_outs2
def net_sump_B2 (F0:net_Ports_1_T) (t4:Int) (t8:List (Sh.T Za1)) (t9 t10:Int):Option (TL net_sump_lay2.σs⊕Out net_sump_outs2):=
 br (iL t10 t9)
 (
  chk (inb t10 (List.length t8))<|
  bnd (F0 (((gt Za1 t8 t10).1,((gt Za1 t8 t10).2.1,((gt Za1 t8 t10).2.2.1,((gt Za1 t8 t10).2.2.2.1,((gt Za1 t8 t10).2.2.2.2.1,()))))),())) fun x0=>
  some (.inl ((IntKind.wrap .i64 (@HAdd.hAdd (Int) (Int) (Int) _ t4 x0.1)),(t8,(t9,((IntKind.wrap .i64 (t10+(1:Int))),()))))))
 (
  some (.inr (t4,())))
def net_sump_M2 (c0:net_Ports_1_D) :net_sump_D2:=mkL (u4 (net_sump_B2 c0.F)) (pL (kD c0 k0) e0 1 l0 fun d=>by kernel_rfl)
def net_sump_N2:net_sump_D2:=net_sump_M2 net_Ports_1_K 
def net_sump_F (F0:net_Ports_1_T) (L2:net_sump_T2) (t0_0:Int) (t0_1:List Int) (t0_2:List (Sh.T Za0)) (t0_3 t0_4 t0_5:List Int) (t0_6:List (Sh.T Za1)) (t0_7:List (Sh.T Za0)):Option (Out net_sump_outs):=
 bnd (L2 ((0:Int),(t0_6,((Int.ofNat (List.length t0_6)),((0:Int),()))))) fun x0=>
 some (x0.1,())
def net_sump_G (c0:net_Ports_1_D) (M2:net_sump_D2):net_sump_D:=⟨u8 (net_sump_F c0.F M2.L),pB Tryz.func129 21 (kD c0 k0) e0 1 (sS (sC M2 l0)) fun d=>by kernel_rfl⟩
def net_sump_K:net_sump_D:=net_sump_G net_Ports_1_K net_sump_N2
abbrev net_Bits_σs:List Sh:=[Za5]
abbrev net_Bits_τs:List Sh:=[(.int .i64)]
abbrev net_Bits_T:=TL net_Bits_σs→Option (TL net_Bits_τs)
abbrev net_Bits_D:=Kd 114 net_Bits_σs net_Bits_τs
def net_Bits_F (F0:net_sump_T) (F1:net_sumb_T) (a0:Sh.T Za5):Option (TL net_Bits_τs):=
 bnd (F1 a0) fun x0=>
 some ((selI (iL (1000:Int) (IntKind.wrap .i64 (@HAdd.hAdd (Int) (Int) (Int) _ (Int.ofNat (List.length a0.2.2.1)) x0.1))) (1000:Int) (IntKind.wrap .i64 (@HAdd.hAdd (Int) (Int) (Int) _ (Int.ofNat (List.length a0.2.2.1)) x0.1))),())
def net_Bits_G (c0:net_sump_D) (c1:net_sumb_D) :net_Bits_D:=⟨u1 (net_Bits_F c0.F c1.F),pD Tryz.func114 12 (kB c0 (kB c1 k0)) e0 1 (sS l0) fun d=>by kernel_rfl⟩
def net_Bits_K:net_Bits_D:=net_Bits_G net_sump_K net_sumb_K 
abbrev expand_Cells_σs:List Sh:=[Za5]
abbrev expand_Cells_τs:List Sh:=[(.int .i64)]
abbrev expand_Cells_T:=TL expand_Cells_σs→Option (TL expand_Cells_τs)
abbrev expand_Cells_D:=Kd 52 expand_Cells_σs expand_Cells_τs
def expand_Cells_F (F0:net_Bits_T) (F1:Zaq7) (a0:Sh.T Za5):Option (TL expand_Cells_τs):=
 bnd (F1 (a0,())) fun x0=>
 br (Bool.not (iQ x0.1 (0:Int)))
 (
  some ((0:Int),()))
 (
  bnd (F0 (((0:Int),([],([],([],([],([],(a0.2.2.2.2.2.2.1,([],())))))))),())) fun x1=>
  some ((selI (iL (1000:Int) x1.1) (1000:Int) x1.1),()))
def expand_Cells_G (c0:net_Bits_D) (c1:Zamw) :expand_Cells_D:=⟨u1 (expand_Cells_F c0.F c1.F),pD Tryz.func52 11 (kD c0 (kD c1 k0)) e0 1 (sS l0) fun d=>by kernel_rfl⟩
def expand_Cells_K:expand_Cells_D:=expand_Cells_G net_Bits_K Zaq8 
def expand_Cells_FF:expand_Cells_T:=expand_Cells_K.F
abbrev bits_Word_lay2:Lay:={ T:=[(2,.int .u64),(9,.fz .bool),(10,.int .i64),(11,.int .i64)],h:=[],nx:=0 }
abbrev bits_Word_outs2:List (Ev.Ex×Lay):=[((.exit 0),{ T:=[(2,.int .u64)],h:=[],nx:=0 })]
abbrev bits_Word_T2:=TL bits_Word_lay2.σs→Option (Out bits_Word_outs2)
abbrev bits_Word_D2:=Ld 0 23 (Zb5 [0] (Zaa Tryz.f76)) bits_Word_lay2 bits_Word_outs2
def bits_Word_B2 (t2:Int) (t9:List Bool) (t10 t11:Int):Option (TL bits_Word_lay2.σs⊕Out bits_Word_outs2):=
 br (iL t11 t10)
 (
  chk (inb t11 (List.length t9))<|
  br (gt .bool t9 t11)
  (
   chk (iE (0:Int) t11)<|
   some (.inl ((borI .u64 t2 (IntKind.wrap .u64 ((1:Int)*(HPow.hPow (2:Int) (Min.min (Int.toNat t11) 64))))),(t9,(t10,((IntKind.wrap .i64 (t11+(1:Int))),()))))))
  (
   some (.inl (t2,(t9,(t10,((IntKind.wrap .i64 (t11+(1:Int))),())))))))
 (
  some (.inr (t2,())))
def bits_Word_N2  :bits_Word_D2:=mkL (u4 bits_Word_B2) (pL k0 e0 1 l0 fun d=>by kernel_rfl)
abbrev bits_Word_σs:List Sh:=[(.sl .bool)]
abbrev bits_Word_τs:List Sh:=[(.int .u64)]
abbrev bits_Word_T:=TL bits_Word_σs→Option (TL bits_Word_τs)
abbrev bits_Word_D:=Kd 76 bits_Word_σs bits_Word_τs
def bits_Word_F (L2:bits_Word_T2) (a0:List Bool):Option (TL bits_Word_τs):=
 chk (both (iE (0:Int) (selI (iL (64:Int) (Int.ofNat (List.length a0))) (64:Int) (Int.ofNat (List.length a0)))) (iE (selI (iL (64:Int) (Int.ofNat (List.length a0))) (64:Int) (Int.ofNat (List.length a0))) (Int.ofNat (List.length a0))))<|
 bnd (L2 ((0:Int),((List.take (Int.toNat (selI (iL (64:Int) (Int.ofNat (List.length a0))) (64:Int) (Int.ofNat (List.length a0)))) a0),((Int.ofNat (List.length (List.take (Int.toNat (selI (iL (64:Int) (Int.ofNat (List.length a0))) (64:Int) (Int.ofNat (List.length a0)))) a0))),((0:Int),()))))) fun x0=>
 some (x0.1,())
def bits_Word_G (M2:bits_Word_D2):bits_Word_D:=⟨u1 (bits_Word_F M2.L),pD Tryz.func76 23 k0 e0 1 (sS (sC M2 l0)) fun d=>by kernel_rfl⟩
def bits_Word_K:bits_Word_D:=bits_Word_G  bits_Word_N2
def bits_Word_FF:bits_Word_T:=bits_Word_K.F
abbrev expand_State_lay:Lay:={ T:=[(0,.agg lNet),(1,.agg [.fz .bool,.fz (.sl Za3)])],h:=[],nx:=0 }
abbrev expand_State_outs:List (Ev.Ex×Lay):=[(.ret,{ T:=[(0,.agg [.hd 0 .bool,.nils]),(1,.int .i64)],h:=[(0,.arr .bool 4)],nx:=1 })]
abbrev expand_State_T:=TL expand_State_lay.σs→Option (Out expand_State_outs)
abbrev expand_State_D:=Kb 29 2 expand_State_lay 2 expand_State_outs
abbrev yRd0:Lay:={ T:=[(2,.ptr 0 0),(3,.ptr 1 0),(4,.ptr 2 0),(7,.hd 3 .bool),(8,.int .i64)],h:=[(0,.cells lNet 27),(1,.cells [.fz .bool,.fz (.sl Za3)] 40),(2,.cells [.nils,.nils] 40),(3,.arr .bool 4)],nx:=4 }
abbrev yRd1:Lay:={ T:=[(3,.ptr 0 0),(4,.ptr 1 0),(29,.fz Za1),(30,.int .i64),(31,.int .i64)],h:=[(0,.cells [.fz .bool,.fz (.sl Za3)] 40),(1,.cells [.hd 2 .bool,.nils] 40),(2,.arr .bool 4)],nx:=3 }
abbrev yRd2:List (Nat×LO):=[(0,.cells lNet 27),(1,.cells [.nils,.nils] 40),(2,.cells [.hd 3 .bool,.hd 4 (.sl Za3)] 40),(3,.arr .bool 4),(4,.arr (.sl Za3) 104),(5,.arr Za3 137)]
abbrev expand_State_lay8:Lay:=yRd1
abbrev expand_State_outs8:List (Ev.Ex×Lay):=[((.exit 0),{ T:=[(4,.ptr 0 0)],h:=[(0,.cells [.hd 1 .bool,.nils] 40),(1,.arr .bool 4)],nx:=2 })]
abbrev expand_State_T8:=TL expand_State_lay8.σs→Option (Out expand_State_outs8)
abbrev expand_State_D8:=Ld 0 70 (Zb5 [0] (Zaa Tryz.f29)) expand_State_lay8 expand_State_outs8
abbrev expand_State_lay13:Lay:={ T:=[(3,.ptr 0 0),(4,.ptr 1 0),(8,.ptr 3 0),(11,.func 75 [.ptr 4 0] []),(29,.fz Za1),(30,.int .i64),(31,.int .i64),(53,.int .u64),(54,.int .u64)],h:=[(0,.cells [.fz .bool,.fz (.sl Za3)] 40),(1,.cells [.hd 2 .bool,.nils] 40),(2,.arr .bool 4),(3,.cells [.int .i64,.int .i64,.bool,.fz Zb3,.fz Zb8] 116),(4,.cells [.int .i64,.int .i64,.mp 5] 220),(5,.map .u64 (.int .u64))],nx:=6 }
abbrev expand_State_outs13:List (Ev.Ex×Lay):=[((.exit 2),yRd1)]
abbrev expand_State_T13:=TL expand_State_lay13.σs→Option (Out expand_State_outs13)
abbrev expand_State_D13:=Ld 0 70 (Zb5 [0,0] (Zaa Tryz.f29)) expand_State_lay13 expand_State_outs13
def expand_State_B13 (F0:Zb2u) (F3:Zawf) (t29:List (Sh.T Za1)) (t30 t31 t53 t54:Int) (b0_0:List Bool) (b0_1:List (List (Sh.T Za3))) (b2:List Bool) (b3_0 b3_1:Int) (b3_2:Bool) (b3_3:List (Sh.T Zb3)) (b3_4:List (Sh.T Zb8)) (b4_0 b4_1:Int) (b5:List (Sh.T Za3)):Option (TL expand_State_lay13.σs⊕Out expand_State_outs13):=
 br (iL t54 t53)
 (
  bnd (F3 (t54,(b4_0,(b4_1,(b5,()))))) fun x0=>
  chk (iQ b3_1 b3_1)<|
  bnd (F0 (x0.1,(b3_1,()))) fun x1=>
  chk (room 1 (List.length (ap b2 x1.1)))<|
  some (.inl (t29,(t30,(t31,(t53,((IntKind.wrap .u64 (t54+(1:Int))),(b0_0,(b0_1,((ap b2 x1.1),(b3_0,(b3_1,(b3_2,(b3_3,(b3_4,x0.2)))))))))))))))
 (
  some (.inr (t29,(t30,(t31,(b0_0,(b0_1,(b2,()))))))))
def expand_State_M13 (c0:Zayo) (c3:Zarj) :expand_State_D13:=mkL (u16 (expand_State_B13 c0.F c3.F)) (pL (kD c0 (kB c3 k0)) e0 1 l0 fun d=>by kernel_rfl)
def expand_State_N13:expand_State_D13:=expand_State_M13 Zb2v Zawg 
def expand_State_B8 (F4:Zawc) (L13:expand_State_T13) (t29:List (Sh.T Za1)) (t30 t31:Int) (b0_0:List Bool) (b0_1:List (List (Sh.T Za3))) (b2:List Bool):Option (TL expand_State_lay8.σs⊕Out expand_State_outs8):=
 br (iL t31 t30)
 (
  chk (inb t31 (List.length t29))<|
  chk (inb t31 (List.length b0_1))<|
  bnd (F4 ((gt Za1 t29 t31).1,((gt Za1 t29 t31).2.1,((gt (.sl Za3) b0_1 t31),())))) fun x0=>
  (match x0 with
  | .inl x1=>
   chk (iE (0:Int) (gt Za1 t29 t31).1)<|
   none
  | .inr x1=>
   chk (iE (0:Int) (gt Za1 t29 t31).1)<|
   bnd (L13 (t29,(t30,(t31,((IntKind.wrap .u64 ((1:Int)*(HPow.hPow (2:Int) (Min.min (Int.toNat (gt Za1 t29 t31).1) 64)))),((0:Int),(b0_0,(b0_1,(b2,((gt Za1 t29 t31).1,((gt Za1 t29 t31).2.1,((gt Za1 t29 t31).2.2.1,((gt Za1 t29 t31).2.2.2.1,((gt Za1 t29 t31).2.2.2.2.1,x1.2)))))))))))))) fun x2=>
   some (.inl (x2.1,(x2.2.1,((IntKind.wrap .i64 (@HAdd.hAdd (Int) (Int) (Int) _ x2.2.2.1 (1:Int))),x2.2.2.2))))
  ))
 (
  some (.inr (b2,())))
def expand_State_M8 (c4:Zarc) (M13:expand_State_D13):expand_State_D8:=mkL (u6 (expand_State_B8 c4.F M13.L)) (pL (kB c4 k0) e0 1 (sC M13 l0) fun d=>by kernel_rfl)
def expand_State_N8:expand_State_D8:=expand_State_M8 Zawd expand_State_N13
def expand_State_F (F0:Zb2u) (F1:expand_Cells_T) (F2:Zaz6) (F3:Zawf) (F4:Zawc) (F5:Zaj5) (F6:Zaey) (L8:expand_State_T8) (L13:expand_State_T13) (t0_0:Int) (t0_1:List Int) (t0_2:List (Sh.T Za0)) (t0_3 t0_4 t0_5:List Int) (t0_6:List (Sh.T Za1)) (t0_7:List (Sh.T Za0)) (t1_0:List Bool) (t1_1:List (List (Sh.T Za3))):Option (Out expand_State_outs):=
 bnd (F2 ((t0_0,(t0_1,(t0_2,(t0_3,(t0_4,(t0_5,(t0_6,(t0_7,())))))))),((t1_0,(t1_1,())),()))) fun x0=>
 br (Bool.not (iQ x0.1 (0:Int)))
 (
  some (x0.1,([],())))
 (
  bnd (F1 ((t0_0,(t0_1,(t0_2,(t0_3,(t0_4,(t0_5,(t0_6,(t0_7,())))))))),())) fun x1=>
  br (iL (64:Int) x1.1)
  (
   some ((17:Int),([],())))
  (
   bnd (F6 (t1_0,())) fun x2=>
   bnd (L8 (t0_6,((Int.ofNat (List.length t0_6)),((0:Int),(t1_0,(t1_1,(x2.1,()))))))) fun x3=>
   some ((0:Int),(x3.1,()))))
def expand_State_G (c0:Zayo) (c1:expand_Cells_D) (c2:Zawa) (c3:Zarj) (c4:Zarc) (c5:Zaj7) (c6:Zaez) (M8:expand_State_D8) (M13:expand_State_D13):expand_State_D:=⟨u10 (expand_State_F c0.F c1.F c2.F c3.F c4.F c5.F c6.F M8.L M13.L),pB Tryz.func29 70 (kD c0 (kD c1 (kD c2 (kB c3 (kB c4 (kB c5 (kB c6 k0))))))) e0 1 (sS (sC M8 l0)) fun d=>by kernel_rfl⟩
def expand_State_K:expand_State_D:=expand_State_G Zb2v expand_Cells_K Zaz7 Zawg Zawd Zaj6 Zacy expand_State_N8 expand_State_N13
def expand_State_FF:expand_State_T:=expand_State_K.F
abbrev expand_Back_lay12:Lay:={ T:=[(4,.ptr 0 0),(8,.fz .bool),(58,.fz Za1),(59,.int .i64),(60,.int .i64)],h:=[(0,.cells [.hd 1 .bool,.hd 2 (.sl Za3)] 40),(1,.arr .bool 4),(2,.arr (.sl Za3) 104)],nx:=3 }
abbrev expand_Back_outs12:List (Ev.Ex×Lay):=[((.exit 1),{ T:=[(4,.ptr 0 0)],h:=[(0,.cells [.hd 1 .bool,.hd 2 (.sl Za3)] 40),(1,.arr .bool 4),(2,.arr (.sl Za3) 104)],nx:=3 })]
abbrev expand_Back_T12:=TL expand_Back_lay12.σs→Option (Out expand_Back_outs12)
abbrev expand_Back_D12:=Ld 0 96 (Zb5 [0] (Zaa Tryz.f30)) expand_Back_lay12 expand_Back_outs12
abbrev expand_Back_lay16:Lay:={ T:=[(4,.ptr 0 0),(8,.fz .bool),(10,.ptr 3 0),(11,.hd 4 Za3),(58,.fz Za1),(59,.int .i64),(60,.int .i64),(66,.int .u64),(67,.int .u64)],h:=[(0,.cells [.hd 1 .bool,.hd 2 (.sl Za3)] 40),(1,.arr .bool 4),(2,.arr (.sl Za3) 104),(3,.cells [.int .i64,.int .i64,.bool,.fz Zb3,.fz Zb8] 116),(4,.arr Za3 137)],nx:=5 }
abbrev expand_Back_outs16:List (Ev.Ex×Lay):=[((.exit 3),{ T:=[(4,.ptr 0 0),(8,.fz .bool),(11,.hd 3 Za3),(58,.fz Za1),(59,.int .i64),(60,.int .i64)],h:=[(0,.cells [.hd 1 .bool,.hd 2 (.sl Za3)] 40),(1,.arr .bool 4),(2,.arr (.sl Za3) 104),(3,.arr Za3 137)],nx:=4 })]
abbrev expand_Back_T16:=TL expand_Back_lay16.σs→Option (Out expand_Back_outs16)
abbrev expand_Back_D16:=Ld 0 96 (Zb5 [0,0] (Zaa Tryz.f30)) expand_Back_lay16 expand_Back_outs16
def expand_Back_B16 (F0:bits_Word_T) (t8:List Bool) (t58:List (Sh.T Za1)) (t59 t60 t66 t67:Int) (b1:List Bool) (b2:List (List (Sh.T Za3))) (b3_0 b3_1:Int) (b3_2:Bool) (b3_3:List (Sh.T Zb3)) (b3_4:List (Sh.T Zb8)) (b4:List (Sh.T Za3)):Option (TL expand_Back_lay16.σs⊕Out expand_Back_outs16):=
 br (iL t67 t66)
 (
  chk (both (iE (0:Int) b3_1) (iE b3_1 (Int.ofNat (List.length t8))))<|
  bnd (F0 ((List.take (Int.toNat b3_1) t8),())) fun x0=>
  br (Bool.not (iQ x0.1 (0:Int)))
  (
   chk (room 16 (List.length (ap b4 ((t67,(x0.1,())) :: []))))<|
   chk (both (iE (0:Int) b3_1) (iE b3_1 (Int.ofNat (List.length t8))))<|
   some (.inl ((List.drop (Int.toNat b3_1) t8),(t58,(t59,(t60,(t66,((IntKind.wrap .u64 (t67+(1:Int))),(b1,(b2,(b3_0,(b3_1,(b3_2,(b3_3,(b3_4,((ap b4 ((t67,(x0.1,())) :: [])),()))))))))))))))))
  (
   chk (both (iE (0:Int) b3_1) (iE b3_1 (Int.ofNat (List.length t8))))<|
   some (.inl ((List.drop (Int.toNat b3_1) t8),(t58,(t59,(t60,(t66,((IntKind.wrap .u64 (t67+(1:Int))),(b1,(b2,(b3_0,(b3_1,(b3_2,(b3_3,(b3_4,(b4,())))))))))))))))))
 (
  some (.inr (t8,(t58,(t59,(t60,(b1,(b2,(b4,())))))))))
def expand_Back_M16 (c0:bits_Word_D) :expand_Back_D16:=mkL (u14 (expand_Back_B16 c0.F)) (pL (kD c0 k0) e0 1 l0 fun d=>by kernel_rfl)
def expand_Back_N16:expand_Back_D16:=expand_Back_M16 bits_Word_K 
def expand_Back_B12 (L16:expand_Back_T16) (t8:List Bool) (t58:List (Sh.T Za1)) (t59 t60:Int) (b1:List Bool) (b2:List (List (Sh.T Za3))):Option (TL expand_Back_lay12.σs⊕Out expand_Back_outs12):=
 br (iL t60 t59)
 (
  chk (inb t60 (List.length t58))<|
  chk (iE (0:Int) (gt Za1 t58 t60).1)<|
  bnd (L16 (t8,(t58,(t59,(t60,((IntKind.wrap .u64 ((1:Int)*(HPow.hPow (2:Int) (Min.min (Int.toNat (gt Za1 t58 t60).1) 64)))),((0:Int),(b1,(b2,((gt Za1 t58 t60).1,((gt Za1 t58 t60).2.1,((gt Za1 t58 t60).2.2.1,((gt Za1 t58 t60).2.2.2.1,((gt Za1 t58 t60).2.2.2.2.1,([],()))))))))))))))) fun x0=>
  chk (room 24 (List.length (ap x0.2.2.2.2.2.1 (x0.2.2.2.2.2.2.1 :: []))))<|
  some (.inl (x0.1,(x0.2.1,(x0.2.2.1,((IntKind.wrap .i64 (@HAdd.hAdd (Int) (Int) (Int) _ x0.2.2.2.1 (1:Int))),(x0.2.2.2.2.1,((ap x0.2.2.2.2.2.1 (x0.2.2.2.2.2.2.1 :: [])),()))))))))
 (
  some (.inr (b1,(b2,()))))
def expand_Back_M12 (M16:expand_Back_D16):expand_Back_D12:=mkL (u6 (expand_Back_B12 M16.L)) (pL k0 e0 1 (sC M16 l0) fun d=>by kernel_rfl)
def expand_Back_N12:expand_Back_D12:=expand_Back_M12  expand_Back_N16
abbrev expand_Back_σs:List Sh:=[Za5,Zab]
abbrev expand_Back_τs:List Sh:=[Zab,(.int .i64)]
abbrev expand_Back_T:=TL expand_Back_σs→Option (TL expand_Back_τs)
abbrev expand_Back_D:=Kd 30 expand_Back_σs expand_Back_τs
def expand_Back_F (F0:bits_Word_T) (F1:expand_Cells_T) (F2:Zaq7) (F3:Zaj5) (F4:Zaey) (L12:expand_Back_T12) (L16:expand_Back_T16) (a0:Sh.T Za5) (a1:Sh.T Zab):Option (TL expand_Back_τs):=
 bnd (F2 (a0,())) fun x0=>
 br (Bool.not (iQ x0.1 (0:Int)))
 (
  some (([],([],())),(x0.1,())))
 (
  bnd (F1 (a0,())) fun x1=>
  br (iL (64:Int) x1.1)
  (
   some (([],([],())),((17:Int),())))
  (
   br (Bool.not (iQ (Int.ofNat (List.length a1.1)) (IntKind.wrap .i64 (@HAdd.hAdd (Int) (Int) (Int) _ (Int.ofNat (List.length a0.2.2.1)) x1.1))))
   (
    some (([],([],())),((14:Int),())))
   (
    br (selB false true (iL (0:Int) (Int.ofNat (List.length a1.2.1))))
    (
     some (([],([],())),((14:Int),())))
    (
     chk (both (iE (0:Int) (Int.ofNat (List.length a0.2.2.1))) (iE (Int.ofNat (List.length a0.2.2.1)) (Int.ofNat (List.length a1.1))))<|
     bnd (F4 ((List.take (Int.toNat (Int.ofNat (List.length a0.2.2.1))) a1.1),())) fun x2=>
     chk (both (iE (0:Int) (Int.ofNat (List.length a0.2.2.1))) (iE (Int.ofNat (List.length a0.2.2.1)) (Int.ofNat (List.length a1.1))))<|
     bnd (L12 ((List.drop (Int.toNat (Int.ofNat (List.length a0.2.2.1))) a1.1),(a0.2.2.2.2.2.2.1,((Int.ofNat (List.length a0.2.2.2.2.2.2.1)),((0:Int),(x2.1,([],()))))))) fun x3=>
     some (x3,((0:Int),()))))))
def expand_Back_G (c0:bits_Word_D) (c1:expand_Cells_D) (c2:Zamw) (c3:Zaj7) (c4:Zaez) (M12:expand_Back_D12) (M16:expand_Back_D16):expand_Back_D:=⟨u2 (expand_Back_F c0.F c1.F c2.F c3.F c4.F M12.L M16.L),pD Tryz.func30 96 (kD c0 (kD c1 (kD c2 (kB c3 (kB c4 k0))))) e0 1 (sS (sC M12 l0)) fun d=>by kernel_rfl⟩
def expand_Back_K:expand_Back_D:=expand_Back_G bits_Word_K expand_Cells_K Zaq8 Zaj6 Zacy expand_Back_N12 expand_Back_N16
def expand_Back_FF:expand_Back_T:=expand_Back_K.F
abbrev astrariumref13_Cells_lay5:Lay:={ T:=[(1,.ptr 0 0),(3,.int .i64),(4,.int .i64)],h:=[(0,.cells lNet 27)],nx:=1 }
abbrev astrariumref13_Cells_outs5:List (Ev.Ex×Lay):=[((.exit 0),{ T:=[(3,.int .i64)],h:=[],nx:=0 })]
abbrev astrariumref13_Cells_T5:=TL astrariumref13_Cells_lay5.σs→Option (Out astrariumref13_Cells_outs5)
abbrev astrariumref13_Cells_D5:=Ld 0 44 (Zb5 [0] (Zaa Tryz.f55)) astrariumref13_Cells_lay5 astrariumref13_Cells_outs5
abbrev astrariumref13_Cells_lay9:Lay:={ T:=[(1,.ptr 0 0),(3,.int .i64),(4,.int .i64),(5,.int .i64),(6,.int .i64)],h:=[(0,.cells lNet 27)],nx:=1 }
abbrev astrariumref13_Cells_outs9:List (Ev.Ex×Lay):=[((.exit 2),{ T:=[(1,.ptr 0 0),(3,.int .i64),(4,.int .i64),(5,.int .i64)],h:=[(0,.cells lNet 27)],nx:=1 })]
abbrev astrariumref13_Cells_T9:=TL astrariumref13_Cells_lay9.σs→Option (Out astrariumref13_Cells_outs9)
abbrev astrariumref13_Cells_D9:=Ld 0 44 (Zb5 [0,0] (Zaa Tryz.f55)) astrariumref13_Cells_lay9 astrariumref13_Cells_outs9
def astrariumref13_Cells_B9 (t3 t4 t5 t6 b0_0:Int) (b0_1:List Int) (b0_2:List (Sh.T Za0)) (b0_3 b0_4 b0_5:List Int) (b0_6:List (Sh.T Za1)) (b0_7:List (Sh.T Za0)):Option (TL astrariumref13_Cells_lay9.σs⊕Out astrariumref13_Cells_outs9):=
 chk (inb t4 (List.length b0_6))<|
 br (iL t6 (gt Za1 b0_6 t4).1)
 (
  br (selB true (iL t5 (1000:Int)) false)
  (
   some (.inl (t3,(t4,((IntKind.wrap .i64 ((2:Int)*t5)),((IntKind.wrap .i64 (t6+(1:Int))),(b0_0,(b0_1,(b0_2,(b0_3,(b0_4,(b0_5,(b0_6,(b0_7,()))))))))))))))
  (
   some (.inr (t3,(t4,(t5,(b0_0,(b0_1,(b0_2,(b0_3,(b0_4,(b0_5,(b0_6,(b0_7,()))))))))))))))
 (
  some (.inr (t3,(t4,(t5,(b0_0,(b0_1,(b0_2,(b0_3,(b0_4,(b0_5,(b0_6,(b0_7,())))))))))))))
def astrariumref13_Cells_N9  :astrariumref13_Cells_D9:=mkL (u12 astrariumref13_Cells_B9) (pL k0 e0 1 l0 fun d=>by kernel_rfl)
def astrariumref13_Cells_B5 (L9:astrariumref13_Cells_T9) (t3 t4 b0_0:Int) (b0_1:List Int) (b0_2:List (Sh.T Za0)) (b0_3 b0_4 b0_5:List Int) (b0_6:List (Sh.T Za1)) (b0_7:List (Sh.T Za0)):Option (TL astrariumref13_Cells_lay5.σs⊕Out astrariumref13_Cells_outs5):=
 br (iL t4 (Int.ofNat (List.length b0_6)))
 (
  chk (inb t4 (List.length b0_6))<|
  bnd (L9 (t3,(t4,((gt Za1 b0_6 t4).2.1,((0:Int),(b0_0,(b0_1,(b0_2,(b0_3,(b0_4,(b0_5,(b0_6,(b0_7,()))))))))))))) fun x0=>
  some (.inl ((IntKind.wrap .i64 (@HAdd.hAdd (Int) (Int) (Int) _ x0.1 x0.2.2.1)),((IntKind.wrap .i64 (@HAdd.hAdd (Int) (Int) (Int) _ x0.2.1 (1:Int))),x0.2.2.2))))
 (
  some (.inr (t3,())))
def astrariumref13_Cells_M5 (M9:astrariumref13_Cells_D9):astrariumref13_Cells_D5:=mkL (u10 (astrariumref13_Cells_B5 M9.L)) (pL k0 e0 1 (sC M9 l0) fun d=>by kernel_rfl)
def astrariumref13_Cells_N5:astrariumref13_Cells_D5:=astrariumref13_Cells_M5  astrariumref13_Cells_N9
abbrev astrariumref13_Cells_σs:List Sh:=[Za5]
abbrev astrariumref13_Cells_τs:List Sh:=[(.int .i64)]
abbrev astrariumref13_Cells_T:=TL astrariumref13_Cells_σs→Option (TL astrariumref13_Cells_τs)
abbrev astrariumref13_Cells_D:=Kd 55 astrariumref13_Cells_σs astrariumref13_Cells_τs
def astrariumref13_Cells_F (F0:Zadp) (L5:astrariumref13_Cells_T5) (L9:astrariumref13_Cells_T9) (a0:Sh.T Za5):Option (TL astrariumref13_Cells_τs):=
 bnd (F0 (a0,())) fun x0=>
 br (Bool.not (iQ x0.1 (0:Int)))
 (
  some ((0:Int),()))
 (
  bnd (L5 ((0:Int),((0:Int),a0))) fun x1=>
  some ((selI (iL (1000:Int) x1.1) (1000:Int) x1.1),()))
def astrariumref13_Cells_G (c0:Zacr) (M5:astrariumref13_Cells_D5) (M9:astrariumref13_Cells_D9):astrariumref13_Cells_D:=⟨u1 (astrariumref13_Cells_F c0.F M5.L M9.L),pD Tryz.func55 44 (kD c0 k0) e0 1 (sS (sC M5 l0)) fun d=>by kernel_rfl⟩
def astrariumref13_Cells_K:astrariumref13_Cells_D:=astrariumref13_Cells_G Zadq astrariumref13_Cells_N5 astrariumref13_Cells_N9
abbrev astrariumref13_State_lay8:Lay:=yRd0
abbrev astrariumref13_State_outs8:List (Ev.Ex×Lay):=[((.exit 0),{ T:=[(4,.ptr 0 0),(7,.hd 1 .bool)],h:=[(0,.cells [.nils,.nils] 40),(1,.arr .bool 4)],nx:=2 })]
abbrev astrariumref13_State_T8:=TL astrariumref13_State_lay8.σs→Option (Out astrariumref13_State_outs8)
abbrev astrariumref13_State_D8:=Ld 0 60 (Zb5 [0] (Zaa Tryz.f120)) astrariumref13_State_lay8 astrariumref13_State_outs8
abbrev astrariumref13_State_lay11:Lay:={ T:=[(2,.ptr 0 0),(3,.ptr 1 0),(4,.ptr 2 0),(7,.hd 3 .bool),(8,.int .i64),(9,.int .u64)],h:=[(0,.cells lNet 27),(1,.cells [.fz .bool,.fz (.sl Za3)] 40),(2,.cells [.nils,.nils] 40),(3,.arr .bool 4)],nx:=4 }
abbrev astrariumref13_State_outs11:List (Ev.Ex×Lay):=[((.exit 2),yRd0)]
abbrev astrariumref13_State_T11:=TL astrariumref13_State_lay11.σs→Option (Out astrariumref13_State_outs11)
abbrev astrariumref13_State_D11:=Ld 0 60 (Zb5 [0,0] (Zaa Tryz.f120)) astrariumref13_State_lay11 astrariumref13_State_outs11
def astrariumref13_State_B11 (F0:Zapa) (F1:Zaqo) (F2:Zad5) (t8 t9 b0_0:Int) (b0_1:List Int) (b0_2:List (Sh.T Za0)) (b0_3 b0_4 b0_5:List Int) (b0_6:List (Sh.T Za1)) (b0_7:List (Sh.T Za0)) (b1_0:List Bool) (b1_1:List (List (Sh.T Za3))) (b3:List Bool):Option (TL astrariumref13_State_lay11.σs⊕Out astrariumref13_State_outs11):=
 chk (inb t8 (List.length b0_6))<|
 bnd (F2 (t9,((gt Za1 b0_6 t8).1,()))) fun x0=>
 br x0.1
 (
  chk (inb t8 (List.length b1_1))<|
  chk (inb t8 (List.length b0_6))<|
  bnd (F1 ((gt (.sl Za3) b1_1 t8),(t9,()))) fun x1=>
  bnd (F0 (x1.1,((gt Za1 b0_6 t8).2.1,()))) fun x2=>
  chk (room 1 (List.length (ap b3 x2.1)))<|
  some (.inl (t8,((IntKind.wrap .u64 (t9+(1:Int))),(b0_0,(b0_1,(b0_2,(b0_3,(b0_4,(b0_5,(b0_6,(b0_7,(b1_0,(b1_1,((ap b3 x2.1),())))))))))))))))
 (
  some (.inr (t8,(b0_0,(b0_1,(b0_2,(b0_3,(b0_4,(b0_5,(b0_6,(b0_7,(b1_0,(b1_1,(b3,()))))))))))))))
def astrariumref13_State_M11 (c0:Zakl) (c1:Zall) (c2:Zabf) :astrariumref13_State_D11:=mkL (u13 (astrariumref13_State_B11 c0.F c1.F c2.F)) (pL (kD c0 (kD c1 (kD c2 k0))) e0 1 l0 fun d=>by kernel_rfl)
def astrariumref13_State_N11:astrariumref13_State_D11:=astrariumref13_State_M11 Zapb Zaqp Zad6 
def astrariumref13_State_B8 (L11:astrariumref13_State_T11) (t8 b0_0:Int) (b0_1:List Int) (b0_2:List (Sh.T Za0)) (b0_3 b0_4 b0_5:List Int) (b0_6:List (Sh.T Za1)) (b0_7:List (Sh.T Za0)) (b1_0:List Bool) (b1_1:List (List (Sh.T Za3))) (b3:List Bool):Option (TL astrariumref13_State_lay8.σs⊕Out astrariumref13_State_outs8):=
 br (iL t8 (Int.ofNat (List.length b0_6)))
 (
  bnd (L11 (t8,((0:Int),(b0_0,(b0_1,(b0_2,(b0_3,(b0_4,(b0_5,(b0_6,(b0_7,(b1_0,(b1_1,(b3,())))))))))))))) fun x0=>
  some (.inl ((IntKind.wrap .i64 (@HAdd.hAdd (Int) (Int) (Int) _ x0.1 (1:Int))),x0.2)))
 (
  some (.inr (b3,())))
def astrariumref13_State_M8 (M11:astrariumref13_State_D11):astrariumref13_State_D8:=mkL (u12 (astrariumref13_State_B8 M11.L)) (pL k0 e0 1 (sC M11 l0) fun d=>by kernel_rfl)
def astrariumref13_State_N8:astrariumref13_State_D8:=astrariumref13_State_M8  astrariumref13_State_N11
abbrev astrariumref13_State_σs:List Sh:=[Za5,Zab]
abbrev astrariumref13_State_τs:List Sh:=[Zab,(.int .i64)]
abbrev astrariumref13_State_T:=TL astrariumref13_State_σs→Option (TL astrariumref13_State_τs)
abbrev astrariumref13_State_D:=Kd 120 astrariumref13_State_σs astrariumref13_State_τs
def astrariumref13_State_F (F0:Zapa) (F1:Zaqo) (F2:Zad5) (F3:astrariumref13_Cells_T) (F4:Zahu) (L8:astrariumref13_State_T8) (L11:astrariumref13_State_T11) (a0:Sh.T Za5) (a1:Sh.T Zab):Option (TL astrariumref13_State_τs):=
 bnd (F4 (a0,(a1,()))) fun x0=>
 br (Bool.not (iQ x0.1 (0:Int)))
 (
  some (([],([],())),(x0.1,())))
 (
  bnd (F3 (a0,())) fun x1=>
  br (iL (64:Int) x1.1)
  (
   some (([],([],())),((17:Int),())))
  (
   chk (room 1 (List.length (ap [] a1.1)))<|
   bnd (L8 ((0:Int),(a0.1,(a0.2.1,(a0.2.2.1,(a0.2.2.2.1,(a0.2.2.2.2.1,(a0.2.2.2.2.2.1,(a0.2.2.2.2.2.2.1,(a0.2.2.2.2.2.2.2.1,(a1.1,(a1.2.1,((ap [] a1.1),()))))))))))))) fun x2=>
   some ((x2.1,([],())),((0:Int),()))))
def astrariumref13_State_G (c0:Zakl) (c1:Zall) (c2:Zabf) (c3:astrariumref13_Cells_D) (c4:Zad0) (M8:astrariumref13_State_D8) (M11:astrariumref13_State_D11):astrariumref13_State_D:=⟨u2 (astrariumref13_State_F c0.F c1.F c2.F c3.F c4.F M8.L M11.L),pD Tryz.func120 60 (kD c0 (kD c1 (kD c2 (kD c3 (kD c4 k0))))) e0 1 (sS (sC M8 l0)) fun d=>by kernel_rfl⟩
def astrariumref13_State_K:astrariumref13_State_D:=astrariumref13_State_G Zapb Zaqp Zad6 astrariumref13_Cells_K Zahv astrariumref13_State_N8 astrariumref13_State_N11
abbrev astrariumref13_Back_lay11:Lay:={ T:=[(2,.ptr 0 0),(4,.ptr 1 0),(7,.ptr 2 0),(8,.fz .bool),(9,.int .i64)],h:=[(0,.cells lNet 27),(1,.cells [.nils,.nils] 40),(2,.cells [.hd 3 .bool,.hd 4 (.sl Za3)] 40),(3,.arr .bool 4),(4,.arr (.sl Za3) 104)],nx:=5 }
abbrev astrariumref13_Back_outs11:List (Ev.Ex×Lay):=[((.exit 0),{ T:=[(4,.ptr 0 0),(7,.ptr 1 0)],h:=[(0,.cells [.nils,.nils] 40),(1,.cells [.hd 2 .bool,.hd 3 (.sl Za3)] 40),(2,.arr .bool 4),(3,.arr (.sl Za3) 104)],nx:=4 })]
abbrev astrariumref13_Back_T11:=TL astrariumref13_Back_lay11.σs→Option (Out astrariumref13_Back_outs11)
abbrev astrariumref13_Back_D11:=Ld 0 104 (Zb5 [0] (Zaa Tryz.f115)) astrariumref13_Back_lay11 astrariumref13_Back_outs11
abbrev astrariumref13_Back_lay15:Lay:={ T:=[(2,.ptr 0 0),(4,.ptr 1 0),(7,.ptr 2 0),(8,.fz .bool),(9,.int .i64),(10,.hd 5 Za3),(11,.int .u64)],h:=yRd2,nx:=6 }
abbrev astrariumref13_Back_outs15:List (Ev.Ex×Lay):=[((.exit 2),{ T:=[(2,.ptr 0 0),(4,.ptr 1 0),(7,.ptr 2 0),(8,.fz .bool),(9,.int .i64),(10,.hd 5 Za3)],h:=yRd2,nx:=6 })]
abbrev astrariumref13_Back_T15:=TL astrariumref13_Back_lay15.σs→Option (Out astrariumref13_Back_outs15)
abbrev astrariumref13_Back_D15:=Ld 0 104 (Zb5 [0,0] (Zaa Tryz.f115)) astrariumref13_Back_lay15 astrariumref13_Back_outs15
def astrariumref13_Back_B15 (F0:Zaws) (F1:Zad5) (t8:List Bool) (t9 t11 b0_0:Int) (b0_1:List Int) (b0_2:List (Sh.T Za0)) (b0_3 b0_4 b0_5:List Int) (b0_6:List (Sh.T Za1)) (b0_7:List (Sh.T Za0)) (b3:List Bool) (b4:List (List (Sh.T Za3))) (b5:List (Sh.T Za3)):Option (TL astrariumref13_Back_lay15.σs⊕Out astrariumref13_Back_outs15):=
 chk (inb t9 (List.length b0_6))<|
 bnd (F1 (t11,((gt Za1 b0_6 t9).1,()))) fun x0=>
 br x0.1
 (
  chk (inb t9 (List.length b0_6))<|
  chk (both (iE (0:Int) (gt Za1 b0_6 t9).2.1) (iE (gt Za1 b0_6 t9).2.1 (Int.ofNat (List.length t8))))<|
  bnd (F0 ((List.take (Int.toNat (gt Za1 b0_6 t9).2.1) t8),())) fun x1=>
  chk (inb t9 (List.length b0_6))<|
  chk (both (iE (0:Int) (gt Za1 b0_6 t9).2.1) (iE (gt Za1 b0_6 t9).2.1 (Int.ofNat (List.length t8))))<|
  br (Bool.not (iQ x1.1 (0:Int)))
  (
   chk (room 16 (List.length (ap b5 ((t11,(x1.1,())) :: []))))<|
   some (.inl ((List.drop (Int.toNat (gt Za1 b0_6 t9).2.1) t8),(t9,((IntKind.wrap .u64 (t11+(1:Int))),(b0_0,(b0_1,(b0_2,(b0_3,(b0_4,(b0_5,(b0_6,(b0_7,(b3,(b4,((ap b5 ((t11,(x1.1,())) :: [])),()))))))))))))))))
  (
   some (.inl ((List.drop (Int.toNat (gt Za1 b0_6 t9).2.1) t8),(t9,((IntKind.wrap .u64 (t11+(1:Int))),(b0_0,(b0_1,(b0_2,(b0_3,(b0_4,(b0_5,(b0_6,(b0_7,(b3,(b4,(b5,())))))))))))))))))
 (
  some (.inr (t8,(t9,(b0_0,(b0_1,(b0_2,(b0_3,(b0_4,(b0_5,(b0_6,(b0_7,(b3,(b4,(b5,())))))))))))))))
def astrariumref13_Back_M15 (c0:Zaqs) (c1:Zabf) :astrariumref13_Back_D15:=mkL (u14 (astrariumref13_Back_B15 c0.F c1.F)) (pL (kD c0 (kD c1 k0)) e0 1 l0 fun d=>by kernel_rfl)
def astrariumref13_Back_N15:astrariumref13_Back_D15:=astrariumref13_Back_M15 Zawt Zad6 
def astrariumref13_Back_B11 (L15:astrariumref13_Back_T15) (t8:List Bool) (t9 b0_0:Int) (b0_1:List Int) (b0_2:List (Sh.T Za0)) (b0_3 b0_4 b0_5:List Int) (b0_6:List (Sh.T Za1)) (b0_7:List (Sh.T Za0)) (b3:List Bool) (b4:List (List (Sh.T Za3))):Option (TL astrariumref13_Back_lay11.σs⊕Out astrariumref13_Back_outs11):=
 br (iL t9 (Int.ofNat (List.length b0_6)))
 (
  bnd (L15 (t8,(t9,((0:Int),(b0_0,(b0_1,(b0_2,(b0_3,(b0_4,(b0_5,(b0_6,(b0_7,(b3,(b4,([],()))))))))))))))) fun x0=>
  chk (room 24 (List.length (ap x0.2.2.2.2.2.2.2.2.2.2.2.1 (x0.2.2.2.2.2.2.2.2.2.2.2.2.1 :: []))))<|
  some (.inl (x0.1,((IntKind.wrap .i64 (@HAdd.hAdd (Int) (Int) (Int) _ x0.2.1 (1:Int))),(x0.2.2.1,(x0.2.2.2.1,(x0.2.2.2.2.1,(x0.2.2.2.2.2.1,(x0.2.2.2.2.2.2.1,(x0.2.2.2.2.2.2.2.1,(x0.2.2.2.2.2.2.2.2.1,(x0.2.2.2.2.2.2.2.2.2.1,(x0.2.2.2.2.2.2.2.2.2.2.1,((ap x0.2.2.2.2.2.2.2.2.2.2.2.1 (x0.2.2.2.2.2.2.2.2.2.2.2.2.1 :: [])),()))))))))))))))
 (
  some (.inr (b3,(b4,()))))
def astrariumref13_Back_M11 (M15:astrariumref13_Back_D15):astrariumref13_Back_D11:=mkL (u12 (astrariumref13_Back_B11 M15.L)) (pL k0 e0 1 (sC M15 l0) fun d=>by kernel_rfl)
def astrariumref13_Back_N11:astrariumref13_Back_D11:=astrariumref13_Back_M11  astrariumref13_Back_N15
abbrev astrariumref13_Back_σs:List Sh:=[Za5,Zab]
abbrev astrariumref13_Back_τs:List Sh:=[Zab,(.int .i64)]
abbrev astrariumref13_Back_T:=TL astrariumref13_Back_σs→Option (TL astrariumref13_Back_τs)
abbrev astrariumref13_Back_D:=Kd 115 astrariumref13_Back_σs astrariumref13_Back_τs
def astrariumref13_Back_F (F0:Zaws) (F1:Zad5) (F2:astrariumref13_Cells_T) (F3:Zadp) (L11:astrariumref13_Back_T11) (L15:astrariumref13_Back_T15) (a0:Sh.T Za5) (a1:Sh.T Zab):Option (TL astrariumref13_Back_τs):=
 bnd (F3 (a0,())) fun x0=>
 br (Bool.not (iQ x0.1 (0:Int)))
 (
  some (([],([],())),(x0.1,())))
 (
  bnd (F2 (a0,())) fun x1=>
  br (iL (64:Int) x1.1)
  (
   some (([],([],())),((17:Int),())))
  (
   bnd (F2 (a0,())) fun x2=>
   br (Bool.not (iQ (Int.ofNat (List.length a1.1)) (IntKind.wrap .i64 (@HAdd.hAdd (Int) (Int) (Int) _ (Int.ofNat (List.length a0.2.2.1)) x2.1))))
   (
    some (([],([],())),((14:Int),())))
   (
    br (selB false true (Bool.not (iQ (Int.ofNat (List.length a1.2.1)) (0:Int))))
    (
     some (([],([],())),((14:Int),())))
    (
     chk (both (iE (0:Int) (Int.ofNat (List.length a0.2.2.1))) (iE (Int.ofNat (List.length a0.2.2.1)) (Int.ofNat (List.length a1.1))))<|
     chk (room 1 (List.length (ap [] (List.take (Int.toNat (Int.ofNat (List.length a0.2.2.1))) a1.1))))<|
     chk (both (iE (0:Int) (Int.ofNat (List.length a0.2.2.1))) (iE (Int.ofNat (List.length a0.2.2.1)) (Int.ofNat (List.length a1.1))))<|
     bnd (L11 ((List.drop (Int.toNat (Int.ofNat (List.length a0.2.2.1))) a1.1),((0:Int),(a0.1,(a0.2.1,(a0.2.2.1,(a0.2.2.2.1,(a0.2.2.2.2.1,(a0.2.2.2.2.2.1,(a0.2.2.2.2.2.2.1,(a0.2.2.2.2.2.2.2.1,((ap [] (List.take (Int.toNat (Int.ofNat (List.length a0.2.2.1))) a1.1)),([],()))))))))))))) fun x3=>
     some (x3,((0:Int),()))))))
def astrariumref13_Back_G (c0:Zaqs) (c1:Zabf) (c2:astrariumref13_Cells_D) (c3:Zacr) (M11:astrariumref13_Back_D11) (M15:astrariumref13_Back_D15):astrariumref13_Back_D:=⟨u2 (astrariumref13_Back_F c0.F c1.F c2.F c3.F M11.L M15.L),pD Tryz.func115 104 (kD c0 (kD c1 (kD c2 (kD c3 k0)))) e0 1 (sS (sC M11 l0)) fun d=>by kernel_rfl⟩
def astrariumref13_Back_K:astrariumref13_Back_D:=astrariumref13_Back_G Zawt Zad6 astrariumref13_Cells_K Zadq astrariumref13_Back_N11 astrariumref13_Back_N15
end Go.Proofs.YtkcpdpplobhpaaaGreat.V
end
section
namespace Go.Proofs.YtkcpdpplobhpaaaGreat.V
open Go Go.RowKit
open Go.Proofs.YtkcpdpplobhpaaaGreat.Pl
def cutT (x:Int):Int:=if 1000<x then 1000 else x
def tP (m:MemD):Int:=if 10≤m.addr then 1000 else m.word*2^m.addr.toNat
def sumP (l:List MemD):Int:=l.foldl (fun a m=>a+tP m) 0
def cellsN (n:NetD):Int:=if Pl.Zkz n≠0 then 0 else cutT (sumP n.mems)
section
variable {n:NetD} {V:Nat} (hs:Snd n V)
include hs
end
section
variable {n:NetD} {V:Nat}
end
section
variable {n:NetD} {V:Nat} (hs:Snd n V)
include hs
end
section
variable {n:NetD} (ft:Fit n)
include ft
end
structure Small (m:MemD):Prop where
 a1:1≤m.addr
 a2:m.addr<10
 w1:1≤m.word
 w2:m.word≤64
 sz:m.word*2^m.addr.toNat≤64
theorem Small.nat {m:MemD} (h:Small m):2^m.addr.toNat*m.word.toNat≤64∧1≤2^m.addr.toNat:=by
 have hp:(1:Nat)≤2^m.addr.toNat:=Nat.pos_of_ne_zero (by simp)
 refine ⟨?_,hp⟩
 have e:((2^m.addr.toNat*m.word.toNat:Nat):Int)=m.word*2^m.addr.toNat:=by
  push_cast
  rw [show ((m.word.toNat:Nat):Int)=m.word by have:=h.w1;omega,Int.mul_comm]
 have:=h.sz
 omega
theorem Small.cnt {m:MemD} (h:Small m):2^m.addr.toNat≤64:=by
 have h1:=h.nat.1
 have h2:2^m.addr.toNat*1≤2^m.addr.toNat*m.word.toNat:=Nat.mul_le_mul_left _ (by have:=h.w1;omega)
 omega
section
variable {n:NetD} {V:Nat} (hs:Snd n V)
include hs
end
section
variable {n:NetD} {V:Nat}
end
section
variable {n:NetD} {V:Nat} (hs:Snd n V)
include hs
end
section
variable {n:NetD} {V:Nat}
end
section
variable {n:NetD} {V:Nat} (hs:Snd n V)
include hs
end
section
variable {n:NetD} {V:Nat}
end
section
variable {n:NetD} {V:Nat} (hs:Snd n V)
include hs
end
section
variable {n:NetD} (ft:Fit n)
include ft
end
section
variable {n:NetD}
end
section
variable {n:NetD} (ft:Fit n)
include ft
end
section
variable {n:NetD}
end
section
variable {n:NetD} (ft:Fit n)
include ft
end
def szM (m:MemD):Nat:=2^m.addr.toNat*m.word.toNat
def offL (L:List MemD):Nat:=L.foldl (fun a m=>a+szM m) 0
section
variable {n:NetD} {V:Nat} (hs:Snd n V)
include hs
end
section
variable {n:NetD} (ft:Fit n)
include ft
end
end Go.Proofs.YtkcpdpplobhpaaaGreat.V
end
section
namespace Go.Proofs.YtkcpdpplobhpaaaGreat.V
open Go Go.RowKit
open Go.Proofs.YtkcpdpplobhpaaaGreat.Pl
set_option maxRecDepth 10000
section
variable {n:NetD} {V:Nat} (hs:Snd n V)
include hs
end
end Go.Proofs.YtkcpdpplobhpaaaGreat.V
end
