import Derived.Test.YtnocaehijdmkkaaKSa
import Derived.Test.YtnocaehijdmkkaaKXa
import Derived.Test.YtnocaehijdmkkaaKSb
set_option linter.unusedVariables false
set_option linter.unusedSimpArgs false
set_option linter.unnecessarySimpa false
section
namespace Go.Proofs.Ytnocaehijdmkkaa.V
open Go Go.RowKit
set_option maxRecDepth 1000000
abbrev net_Bits_1_σs:List Sh:=[Za1]
abbrev net_Bits_1_τs:List Sh:=[(.int .i64)]
abbrev net_Bits_1_T:=TL net_Bits_1_σs→Option (TL net_Bits_1_τs)
abbrev net_Bits_1_D:=Kd 86 net_Bits_1_σs net_Bits_1_τs
def net_Bits_1_F (a0:Sh.T Za1):Option (TL net_Bits_1_τs):=
 br (iE (10:Int) a0.1)
 (
  some ((1000:Int),()))
 (
  chk (iE (0:Int) a0.1)<|
  some ((IntKind.wrap .i64 (@HMul.hMul (Int) (Int) (Int) _ a0.2.1 (HPow.hPow (2:Int) (Min.min (Int.toNat a0.1) 64)))),()))
def net_Bits_1_G  :net_Bits_1_D:=⟨u1 net_Bits_1_F,pD Try.func86 11 k0 e0 1 (sS l0) fun d=>by kernel_rfl⟩
def net_Bits_1_K:net_Bits_1_D:=net_Bits_1_G  
def net_Bits_1_FF:net_Bits_1_T:=net_Bits_1_K.F
abbrev net_Ports_1_σs:List Sh:=[Za1]
abbrev net_Ports_1_τs:List Sh:=[(.int .i64)]
abbrev net_Ports_1_T:=TL net_Ports_1_σs→Option (TL net_Ports_1_τs)
abbrev net_Ports_1_D:=Kd 63 net_Ports_1_σs net_Ports_1_τs
def net_Ports_1_F (a0:Sh.T Za1):Option (TL net_Ports_1_τs):=
 some ((IntKind.wrap .i64 ((Int.ofNat (List.length a0.2.2.2.1))+(Int.ofNat (List.length a0.2.2.2.2.1)))),())
def net_Ports_1_G  :net_Ports_1_D:=⟨u1 net_Ports_1_F,pD Try.func63 10 k0 e0 1 (sS l0) fun d=>by kernel_rfl⟩
def net_Ports_1_K:net_Ports_1_D:=net_Ports_1_G  
def net_Ports_1_FF:net_Ports_1_T:=net_Ports_1_K.F
abbrev net_sumb_lay:Lay:={ T:=[(0,.agg lNet),(1,.func 86 [] [])],h:=[],nx:=0 }
abbrev net_sumb_outs:List (Ev.Ex×Lay):=[(.ret,{ T:=[(0,.int .i64)],h:=[],nx:=0 })]
abbrev net_sumb_T:=TL net_sumb_lay.σs→Option (Out net_sumb_outs)
abbrev net_sumb_D:=Kb 62 2 net_sumb_lay 1 net_sumb_outs
abbrev net_sumb_lay2:Lay:={ T:=[(1,.func 86 [] []),(4,.int .i64),(8,.fz Za1),(9,.int .i64),(10,.int .i64)],h:=[],nx:=0 }
abbrev net_sumb_outs2:List (Ev.Ex×Lay):=[((.exit 0),{ T:=[(4,.int .i64)],h:=[],nx:=0 })]
abbrev net_sumb_T2:=TL net_sumb_lay2.σs→Option (Out net_sumb_outs2)
abbrev net_sumb_D2:=Ld 0 21 (Zb5 [0] (Zaa Try.f62)) net_sumb_lay2 net_sumb_outs2
def net_sumb_B2 (F0:net_Bits_1_T) (t4:Int) (t8:List (Sh.T Za1)) (t9 t10:Int):Option (TL net_sumb_lay2.σs⊕Out net_sumb_outs2):=
 br (iL t10 t9)
 (
  chk (inb t10 (List.length t8))<|
  bnd (F0 (((gt Za1 t8 t10).1,((gt Za1 t8 t10).2.1,((gt Za1 t8 t10).2.2.1,((gt Za1 t8 t10).2.2.2.1,((gt Za1 t8 t10).2.2.2.2.1,()))))),())) fun x0=>
  some (.inl ((IntKind.wrap .i64 (@HAdd.hAdd (Int) (Int) (Int) _ t4 x0.1)),(t8,(t9,((IntKind.wrap .i64 (t10+(1:Int))),()))))))
 (
  some (.inr (t4,())))
def net_sumb_M2 (c0:net_Bits_1_D) :net_sumb_D2:=mkL (u4 (net_sumb_B2 c0.F)) (pL (kD c0 k0) e0 1 l0 fun d=>by kernel_rfl)
def net_sumb_N2:net_sumb_D2:=net_sumb_M2 net_Bits_1_K 
def net_sumb_L2:net_sumb_T2:=lpD (u4 (net_sumb_B2 net_Bits_1_FF)) NN
def net_sumb_F (F0:net_Bits_1_T) (L2:net_sumb_T2) (t0_0:Int) (t0_1:List Int) (t0_2:List (Sh.T Za0)) (t0_3 t0_4 t0_5:List Int) (t0_6:List (Sh.T Za1)) (t0_7:List (Sh.T Za0)):Option (Out net_sumb_outs):=
 bnd (L2 ((0:Int),(t0_6,((Int.ofNat (List.length t0_6)),((0:Int),()))))) fun x0=>
 some (x0.1,())
def net_sumb_G (c0:net_Bits_1_D) (M2:net_sumb_D2):net_sumb_D:=⟨u8 (net_sumb_F c0.F M2.L),pB Try.func62 21 (kD c0 k0) e0 1 (sS (sC M2 l0)) fun d=>by kernel_rfl⟩
def net_sumb_K:net_sumb_D:=net_sumb_G net_Bits_1_K net_sumb_N2
def net_sumb_FF:net_sumb_T:=net_sumb_K.F
abbrev net_sump_lay:Lay:={ T:=[(0,.agg lNet),(1,.func 63 [] [])],h:=[],nx:=0 }
abbrev net_sump_outs:List (Ev.Ex×Lay):=[(.ret,{ T:=[(0,.int .i64)],h:=[],nx:=0 })]
abbrev net_sump_T:=TL net_sump_lay.σs→Option (Out net_sump_outs)
abbrev net_sump_D:=Kb 62 2 net_sump_lay 1 net_sump_outs
abbrev net_sump_lay2:Lay:={ T:=[(1,.func 63 [] []),(4,.int .i64),(8,.fz Za1),(9,.int .i64),(10,.int .i64)],h:=[],nx:=0 }
abbrev net_sump_outs2:List (Ev.Ex×Lay):=[((.exit 0),{ T:=[(4,.int .i64)],h:=[],nx:=0 })]
abbrev net_sump_T2:=TL net_sump_lay2.σs→Option (Out net_sump_outs2)
abbrev net_sump_D2:=Ld 0 21 (Zb5 [0] (Zaa Try.f62)) net_sump_lay2 net_sump_outs2
def net_sump_B2 (F0:net_Ports_1_T) (t4:Int) (t8:List (Sh.T Za1)) (t9 t10:Int):Option (TL net_sump_lay2.σs⊕Out net_sump_outs2):=
 br (iL t10 t9)
 (
  chk (inb t10 (List.length t8))<|
  bnd (F0 (((gt Za1 t8 t10).1,((gt Za1 t8 t10).2.1,((gt Za1 t8 t10).2.2.1,((gt Za1 t8 t10).2.2.2.1,((gt Za1 t8 t10).2.2.2.2.1,()))))),())) fun x0=>
  some (.inl ((IntKind.wrap .i64 (@HAdd.hAdd (Int) (Int) (Int) _ t4 x0.1)),(t8,(t9,((IntKind.wrap .i64 (t10+(1:Int))),()))))))
 (
  some (.inr (t4,())))
def net_sump_M2 (c0:net_Ports_1_D) :net_sump_D2:=mkL (u4 (net_sump_B2 c0.F)) (pL (kD c0 k0) e0 1 l0 fun d=>by kernel_rfl)
def net_sump_N2:net_sump_D2:=net_sump_M2 net_Ports_1_K 
def net_sump_L2:net_sump_T2:=lpD (u4 (net_sump_B2 net_Ports_1_FF)) NN
def net_sump_F (F0:net_Ports_1_T) (L2:net_sump_T2) (t0_0:Int) (t0_1:List Int) (t0_2:List (Sh.T Za0)) (t0_3 t0_4 t0_5:List Int) (t0_6:List (Sh.T Za1)) (t0_7:List (Sh.T Za0)):Option (Out net_sump_outs):=
 bnd (L2 ((0:Int),(t0_6,((Int.ofNat (List.length t0_6)),((0:Int),()))))) fun x0=>
 some (x0.1,())
def net_sump_G (c0:net_Ports_1_D) (M2:net_sump_D2):net_sump_D:=⟨u8 (net_sump_F c0.F M2.L),pB Try.func62 21 (kD c0 k0) e0 1 (sS (sC M2 l0)) fun d=>by kernel_rfl⟩
def net_sump_K:net_sump_D:=net_sump_G net_Ports_1_K net_sump_N2
def net_sump_FF:net_sump_T:=net_sump_K.F
abbrev net_Bits_σs:List Sh:=[Za5]
abbrev net_Bits_τs:List Sh:=[(.int .i64)]
abbrev net_Bits_T:=TL net_Bits_σs→Option (TL net_Bits_τs)
abbrev net_Bits_D:=Kd 50 net_Bits_σs net_Bits_τs
def net_Bits_F (F0:net_sump_T) (F1:net_sumb_T) (a0:Sh.T Za5):Option (TL net_Bits_τs):=
 bnd (F1 a0) fun x0=>
 some ((selI (iL (1000:Int) (IntKind.wrap .i64 (@HAdd.hAdd (Int) (Int) (Int) _ (Int.ofNat (List.length a0.2.2.1)) x0.1))) (1000:Int) (IntKind.wrap .i64 (@HAdd.hAdd (Int) (Int) (Int) _ (Int.ofNat (List.length a0.2.2.1)) x0.1))),())
def net_Bits_G (c0:net_sump_D) (c1:net_sumb_D) :net_Bits_D:=⟨u1 (net_Bits_F c0.F c1.F),pD Try.func50 12 (kB c0 (kB c1 k0)) e0 1 (sS l0) fun d=>by kernel_rfl⟩
def net_Bits_K:net_Bits_D:=net_Bits_G net_sump_K net_sumb_K 
def net_Bits_FF:net_Bits_T:=net_Bits_K.F
abbrev net_Ports_σs:List Sh:=[Za5]
abbrev net_Ports_τs:List Sh:=[(.int .i64)]
abbrev net_Ports_T:=TL net_Ports_σs→Option (TL net_Ports_τs)
abbrev net_Ports_D:=Kd 31 net_Ports_σs net_Ports_τs
def net_Ports_F (F0:net_sump_T) (F1:net_sumb_T) (a0:Sh.T Za5):Option (TL net_Ports_τs):=
 bnd (F0 a0) fun x0=>
 some (x0.1,())
def net_Ports_G (c0:net_sump_D) (c1:net_sumb_D) :net_Ports_D:=⟨u1 (net_Ports_F c0.F c1.F),pD Try.func31 5 (kB c0 (kB c1 k0)) e0 1 (sS l0) fun d=>by kernel_rfl⟩
def net_Ports_K:net_Ports_D:=net_Ports_G net_sump_K net_sumb_K 
def net_Ports_FF:net_Ports_T:=net_Ports_K.F
abbrev expand_Cells_σs:List Sh:=[Za5]
abbrev expand_Cells_τs:List Sh:=[(.int .i64)]
abbrev expand_Cells_T:=TL expand_Cells_σs→Option (TL expand_Cells_τs)
abbrev expand_Cells_D:=Kd 22 expand_Cells_σs expand_Cells_τs
def expand_Cells_F (F0:net_Bits_T) (F1:Zaq7) (a0:Sh.T Za5):Option (TL expand_Cells_τs):=
 bnd (F1 (a0,())) fun x0=>
 br (Bool.not (iQ x0.1 (0:Int)))
 (
  some ((0:Int),()))
 (
  bnd (F0 (((0:Int),([],([],([],([],([],(a0.2.2.2.2.2.2.1,([],())))))))),())) fun x1=>
  some ((selI (iL (1000:Int) x1.1) (1000:Int) x1.1),()))
def expand_Cells_G (c0:net_Bits_D) (c1:Zamw) :expand_Cells_D:=⟨u1 (expand_Cells_F c0.F c1.F),pD Try.func22 11 (kD c0 (kD c1 k0)) e0 1 (sS l0) fun d=>by kernel_rfl⟩
def expand_Cells_K:expand_Cells_D:=expand_Cells_G net_Bits_K Zaq8 
def expand_Cells_FF:expand_Cells_T:=expand_Cells_K.F
abbrev expand_State_lay:Lay:={ T:=[(0,.agg lNet),(1,.agg [.fz .bool,.fz (.sl Za3)])],h:=[],nx:=0 }
abbrev expand_State_outs:List (Ev.Ex×Lay):=[(.ret,{ T:=[(0,.agg [.hd 0 .bool,.nils]),(1,.int .i64)],h:=[(0,.arr .bool 4)],nx:=1 })]
abbrev expand_State_T:=TL expand_State_lay.σs→Option (Out expand_State_outs)
abbrev expand_State_D:=Kb 17 2 expand_State_lay 2 expand_State_outs
abbrev yXb0:Lay:={ T:=[(2,.ptr 0 0),(3,.ptr 1 0),(4,.ptr 2 0),(7,.hd 3 .bool),(8,.int .i64)],h:=[(0,.cells lNet 27),(1,.cells [.fz .bool,.fz (.sl Za3)] 39),(2,.cells [.nils,.nils] 39),(3,.arr .bool 4)],nx:=4 }
abbrev yXb1:Lay:={ T:=[(3,.ptr 0 0),(4,.ptr 1 0),(29,.fz Za1),(30,.int .i64),(31,.int .i64)],h:=[(0,.cells [.fz .bool,.fz (.sl Za3)] 39),(1,.cells [.hd 2 .bool,.nils] 39),(2,.arr .bool 4)],nx:=3 }
abbrev expand_State_lay8:Lay:=yXb1
abbrev expand_State_outs8:List (Ev.Ex×Lay):=[((.exit 0),{ T:=[(4,.ptr 0 0)],h:=[(0,.cells [.hd 1 .bool,.nils] 39),(1,.arr .bool 4)],nx:=2 })]
abbrev expand_State_T8:=TL expand_State_lay8.σs→Option (Out expand_State_outs8)
abbrev expand_State_D8:=Ld 0 70 (Zb5 [0] (Zaa Try.f17)) expand_State_lay8 expand_State_outs8
abbrev expand_State_lay13:Lay:={ T:=[(3,.ptr 0 0),(4,.ptr 1 0),(8,.ptr 3 0),(11,.func 43 [.ptr 4 0] []),(29,.fz Za1),(30,.int .i64),(31,.int .i64),(53,.int .u64),(54,.int .u64)],h:=[(0,.cells [.fz .bool,.fz (.sl Za3)] 39),(1,.cells [.hd 2 .bool,.nils] 39),(2,.arr .bool 4),(3,.cells [.int .i64,.int .i64,.bool,.fz Zb3,.fz Zb8] 60),(4,.cells [.int .i64,.int .i64,.mp 5] 147),(5,.map .u64 (.int .u64))],nx:=6 }
abbrev expand_State_outs13:List (Ev.Ex×Lay):=[((.exit 2),yXb1)]
abbrev expand_State_T13:=TL expand_State_lay13.σs→Option (Out expand_State_outs13)
abbrev expand_State_D13:=Ld 0 70 (Zb5 [0,0] (Zaa Try.f17)) expand_State_lay13 expand_State_outs13
def expand_State_B13 (F0:Zb2u) (F3:Zawf) (t29:List (Sh.T Za1)) (t30 t31 t53 t54:Int) (b0_0:List Bool) (b0_1:List (List (Sh.T Za3))) (b2:List Bool) (b3_0 b3_1:Int) (b3_2:Bool) (b3_3:List (Sh.T Zb3)) (b3_4:List (Sh.T Zb8)) (b4_0 b4_1:Int) (b5:List (Sh.T Za3)):Option (TL expand_State_lay13.σs⊕Out expand_State_outs13):=
 br (iL t54 t53)
 (
  bnd (F3 (t54,(b4_0,(b4_1,(b5,()))))) fun x0=>
  chk (iQ b3_1 b3_1)<|
  bnd (F0 (x0.1,(b3_1,()))) fun x1=>
  chk (room 1 (List.length (ap b2 x1.1)))<|
  some (.inl (t29,(t30,(t31,(t53,((IntKind.wrap .u64 (t54+(1:Int))),(b0_0,(b0_1,((ap b2 x1.1),(b3_0,(b3_1,(b3_2,(b3_3,(b3_4,x0.2)))))))))))))))
 (
  some (.inr (t29,(t30,(t31,(b0_0,(b0_1,(b2,()))))))))
def expand_State_M13 (c0:Zayo) (c3:Zarj) :expand_State_D13:=mkL (u16 (expand_State_B13 c0.F c3.F)) (pL (kD c0 (kB c3 k0)) e0 1 l0 fun d=>by kernel_rfl)
def expand_State_N13:expand_State_D13:=expand_State_M13 Zb2v Zawg 
def expand_State_L13:expand_State_T13:=lpD (u16 (expand_State_B13 Zaxv Ztu)) NN
def expand_State_B8 (F4:Zawc) (L13:expand_State_T13) (t29:List (Sh.T Za1)) (t30 t31:Int) (b0_0:List Bool) (b0_1:List (List (Sh.T Za3))) (b2:List Bool):Option (TL expand_State_lay8.σs⊕Out expand_State_outs8):=
 br (iL t31 t30)
 (
  chk (inb t31 (List.length t29))<|
  chk (inb t31 (List.length b0_1))<|
  bnd (F4 ((gt Za1 t29 t31).1,((gt Za1 t29 t31).2.1,((gt (.sl Za3) b0_1 t31),())))) fun x0=>
  (match x0 with
  | .inl x1=>
   chk (iE (0:Int) (gt Za1 t29 t31).1)<|
   none
  | .inr x1=>
   chk (iE (0:Int) (gt Za1 t29 t31).1)<|
   bnd (L13 (t29,(t30,(t31,((IntKind.wrap .u64 ((1:Int)*(HPow.hPow (2:Int) (Min.min (Int.toNat (gt Za1 t29 t31).1) 64)))),((0:Int),(b0_0,(b0_1,(b2,((gt Za1 t29 t31).1,((gt Za1 t29 t31).2.1,((gt Za1 t29 t31).2.2.1,((gt Za1 t29 t31).2.2.2.1,((gt Za1 t29 t31).2.2.2.2.1,x1.2)))))))))))))) fun x2=>
   some (.inl (x2.1,(x2.2.1,((IntKind.wrap .i64 (@HAdd.hAdd (Int) (Int) (Int) _ x2.2.2.1 (1:Int))),x2.2.2.2))))
  ))
 (
  some (.inr (b2,())))
def expand_State_M8 (c4:Zarc) (M13:expand_State_D13):expand_State_D8:=mkL (u6 (expand_State_B8 c4.F M13.L)) (pL (kB c4 k0) e0 1 (sC M13 l0) fun d=>by kernel_rfl)
def expand_State_N8:expand_State_D8:=expand_State_M8 Zawd expand_State_N13
def expand_State_L8:expand_State_T8:=lpD (u6 (expand_State_B8 Zk8 expand_State_L13)) NN
def expand_State_F (F0:Zb2u) (F1:expand_Cells_T) (F2:Zaz6) (F3:Zawf) (F4:Zawc) (F5:Zaj5) (F6:Zaey) (L8:expand_State_T8) (L13:expand_State_T13) (t0_0:Int) (t0_1:List Int) (t0_2:List (Sh.T Za0)) (t0_3 t0_4 t0_5:List Int) (t0_6:List (Sh.T Za1)) (t0_7:List (Sh.T Za0)) (t1_0:List Bool) (t1_1:List (List (Sh.T Za3))):Option (Out expand_State_outs):=
 bnd (F2 ((t0_0,(t0_1,(t0_2,(t0_3,(t0_4,(t0_5,(t0_6,(t0_7,())))))))),((t1_0,(t1_1,())),()))) fun x0=>
 br (Bool.not (iQ x0.1 (0:Int)))
 (
  some (x0.1,([],())))
 (
  bnd (F1 ((t0_0,(t0_1,(t0_2,(t0_3,(t0_4,(t0_5,(t0_6,(t0_7,())))))))),())) fun x1=>
  br (iL (64:Int) x1.1)
  (
   some ((17:Int),([],())))
  (
   bnd (F6 (t1_0,())) fun x2=>
   bnd (L8 (t0_6,((Int.ofNat (List.length t0_6)),((0:Int),(t1_0,(t1_1,(x2.1,()))))))) fun x3=>
   some ((0:Int),(x3.1,()))))
def expand_State_G (c0:Zayo) (c1:expand_Cells_D) (c2:Zawa) (c3:Zarj) (c4:Zarc) (c5:Zaj7) (c6:Zaez) (M8:expand_State_D8) (M13:expand_State_D13):expand_State_D:=⟨u10 (expand_State_F c0.F c1.F c2.F c3.F c4.F c5.F c6.F M8.L M13.L),pB Try.func17 70 (kD c0 (kD c1 (kD c2 (kB c3 (kB c4 (kB c5 (kB c6 k0))))))) e0 1 (sS (sC M8 l0)) fun d=>by kernel_rfl⟩
def expand_State_K:expand_State_D:=expand_State_G Zb2v expand_Cells_K Zaz7 Zawg Zawd Zaj6 Zacy expand_State_N8 expand_State_N13
def expand_State_FF:expand_State_T:=expand_State_K.F
abbrev astrariumref13_Cells_lay5:Lay:={ T:=[(1,.ptr 0 0),(3,.int .i64),(4,.int .i64)],h:=[(0,.cells lNet 27)],nx:=1 }
abbrev astrariumref13_Cells_outs5:List (Ev.Ex×Lay):=[((.exit 0),{ T:=[(3,.int .i64)],h:=[],nx:=0 })]
abbrev astrariumref13_Cells_T5:=TL astrariumref13_Cells_lay5.σs→Option (Out astrariumref13_Cells_outs5)
abbrev astrariumref13_Cells_D5:=Ld 0 44 (Zb5 [0] (Zaa Try.f11)) astrariumref13_Cells_lay5 astrariumref13_Cells_outs5
abbrev astrariumref13_Cells_lay9:Lay:={ T:=[(1,.ptr 0 0),(3,.int .i64),(4,.int .i64),(5,.int .i64),(6,.int .i64)],h:=[(0,.cells lNet 27)],nx:=1 }
abbrev astrariumref13_Cells_outs9:List (Ev.Ex×Lay):=[((.exit 2),{ T:=[(1,.ptr 0 0),(3,.int .i64),(4,.int .i64),(5,.int .i64)],h:=[(0,.cells lNet 27)],nx:=1 })]
abbrev astrariumref13_Cells_T9:=TL astrariumref13_Cells_lay9.σs→Option (Out astrariumref13_Cells_outs9)
abbrev astrariumref13_Cells_D9:=Ld 0 44 (Zb5 [0,0] (Zaa Try.f11)) astrariumref13_Cells_lay9 astrariumref13_Cells_outs9
def astrariumref13_Cells_B9 (t3 t4 t5 t6 b0_0:Int) (b0_1:List Int) (b0_2:List (Sh.T Za0)) (b0_3 b0_4 b0_5:List Int) (b0_6:List (Sh.T Za1)) (b0_7:List (Sh.T Za0)):Option (TL astrariumref13_Cells_lay9.σs⊕Out astrariumref13_Cells_outs9):=
 chk (inb t4 (List.length b0_6))<|
 br (iL t6 (gt Za1 b0_6 t4).1)
 (
  br (selB true (iL t5 (1000:Int)) false)
  (
   some (.inl (t3,(t4,((IntKind.wrap .i64 ((2:Int)*t5)),((IntKind.wrap .i64 (t6+(1:Int))),(b0_0,(b0_1,(b0_2,(b0_3,(b0_4,(b0_5,(b0_6,(b0_7,()))))))))))))))
  (
   some (.inr (t3,(t4,(t5,(b0_0,(b0_1,(b0_2,(b0_3,(b0_4,(b0_5,(b0_6,(b0_7,()))))))))))))))
 (
  some (.inr (t3,(t4,(t5,(b0_0,(b0_1,(b0_2,(b0_3,(b0_4,(b0_5,(b0_6,(b0_7,())))))))))))))
def astrariumref13_Cells_N9  :astrariumref13_Cells_D9:=mkL (u12 astrariumref13_Cells_B9) (pL k0 e0 1 l0 fun d=>by kernel_rfl)
def astrariumref13_Cells_L9:astrariumref13_Cells_T9:=lpD (u12 astrariumref13_Cells_B9) NN
def astrariumref13_Cells_B5 (L9:astrariumref13_Cells_T9) (t3 t4 b0_0:Int) (b0_1:List Int) (b0_2:List (Sh.T Za0)) (b0_3 b0_4 b0_5:List Int) (b0_6:List (Sh.T Za1)) (b0_7:List (Sh.T Za0)):Option (TL astrariumref13_Cells_lay5.σs⊕Out astrariumref13_Cells_outs5):=
 br (iL t4 (Int.ofNat (List.length b0_6)))
 (
  chk (inb t4 (List.length b0_6))<|
  bnd (L9 (t3,(t4,((gt Za1 b0_6 t4).2.1,((0:Int),(b0_0,(b0_1,(b0_2,(b0_3,(b0_4,(b0_5,(b0_6,(b0_7,()))))))))))))) fun x0=>
  some (.inl ((IntKind.wrap .i64 (@HAdd.hAdd (Int) (Int) (Int) _ x0.1 x0.2.2.1)),((IntKind.wrap .i64 (@HAdd.hAdd (Int) (Int) (Int) _ x0.2.1 (1:Int))),x0.2.2.2))))
 (
  some (.inr (t3,())))
def astrariumref13_Cells_M5 (M9:astrariumref13_Cells_D9):astrariumref13_Cells_D5:=mkL (u10 (astrariumref13_Cells_B5 M9.L)) (pL k0 e0 1 (sC M9 l0) fun d=>by kernel_rfl)
def astrariumref13_Cells_N5:astrariumref13_Cells_D5:=astrariumref13_Cells_M5  astrariumref13_Cells_N9
def astrariumref13_Cells_L5:astrariumref13_Cells_T5:=lpD (u10 (astrariumref13_Cells_B5 astrariumref13_Cells_L9)) NN
abbrev astrariumref13_Cells_σs:List Sh:=[Za5]
abbrev astrariumref13_Cells_τs:List Sh:=[(.int .i64)]
abbrev astrariumref13_Cells_T:=TL astrariumref13_Cells_σs→Option (TL astrariumref13_Cells_τs)
abbrev astrariumref13_Cells_D:=Kd 11 astrariumref13_Cells_σs astrariumref13_Cells_τs
def astrariumref13_Cells_F (F0:Zadp) (L5:astrariumref13_Cells_T5) (L9:astrariumref13_Cells_T9) (a0:Sh.T Za5):Option (TL astrariumref13_Cells_τs):=
 bnd (F0 (a0,())) fun x0=>
 br (Bool.not (iQ x0.1 (0:Int)))
 (
  some ((0:Int),()))
 (
  bnd (L5 ((0:Int),((0:Int),a0))) fun x1=>
  some ((selI (iL (1000:Int) x1.1) (1000:Int) x1.1),()))
def astrariumref13_Cells_G (c0:Zacr) (M5:astrariumref13_Cells_D5) (M9:astrariumref13_Cells_D9):astrariumref13_Cells_D:=⟨u1 (astrariumref13_Cells_F c0.F M5.L M9.L),pD Try.func11 44 (kD c0 k0) e0 1 (sS (sC M5 l0)) fun d=>by kernel_rfl⟩
def astrariumref13_Cells_K:astrariumref13_Cells_D:=astrariumref13_Cells_G Zadq astrariumref13_Cells_N5 astrariumref13_Cells_N9
def astrariumref13_Cells_FF:astrariumref13_Cells_T:=astrariumref13_Cells_K.F
abbrev astrariumref13_State_lay8:Lay:=yXb0
abbrev astrariumref13_State_outs8:List (Ev.Ex×Lay):=[((.exit 0),{ T:=[(4,.ptr 0 0),(7,.hd 1 .bool)],h:=[(0,.cells [.nils,.nils] 39),(1,.arr .bool 4)],nx:=2 })]
abbrev astrariumref13_State_T8:=TL astrariumref13_State_lay8.σs→Option (Out astrariumref13_State_outs8)
abbrev astrariumref13_State_D8:=Ld 0 60 (Zb5 [0] (Zaa Try.f19)) astrariumref13_State_lay8 astrariumref13_State_outs8
abbrev astrariumref13_State_lay11:Lay:={ T:=[(2,.ptr 0 0),(3,.ptr 1 0),(4,.ptr 2 0),(7,.hd 3 .bool),(8,.int .i64),(9,.int .u64)],h:=[(0,.cells lNet 27),(1,.cells [.fz .bool,.fz (.sl Za3)] 39),(2,.cells [.nils,.nils] 39),(3,.arr .bool 4)],nx:=4 }
abbrev astrariumref13_State_outs11:List (Ev.Ex×Lay):=[((.exit 2),yXb0)]
abbrev astrariumref13_State_T11:=TL astrariumref13_State_lay11.σs→Option (Out astrariumref13_State_outs11)
abbrev astrariumref13_State_D11:=Ld 0 60 (Zb5 [0,0] (Zaa Try.f19)) astrariumref13_State_lay11 astrariumref13_State_outs11
def astrariumref13_State_B11 (F0:Zapa) (F1:Zaqo) (F2:Zad5) (t8 t9 b0_0:Int) (b0_1:List Int) (b0_2:List (Sh.T Za0)) (b0_3 b0_4 b0_5:List Int) (b0_6:List (Sh.T Za1)) (b0_7:List (Sh.T Za0)) (b1_0:List Bool) (b1_1:List (List (Sh.T Za3))) (b3:List Bool):Option (TL astrariumref13_State_lay11.σs⊕Out astrariumref13_State_outs11):=
 chk (inb t8 (List.length b0_6))<|
 bnd (F2 (t9,((gt Za1 b0_6 t8).1,()))) fun x0=>
 br x0.1
 (
  chk (inb t8 (List.length b1_1))<|
  chk (inb t8 (List.length b0_6))<|
  bnd (F1 ((gt (.sl Za3) b1_1 t8),(t9,()))) fun x1=>
  bnd (F0 (x1.1,((gt Za1 b0_6 t8).2.1,()))) fun x2=>
  chk (room 1 (List.length (ap b3 x2.1)))<|
  some (.inl (t8,((IntKind.wrap .u64 (t9+(1:Int))),(b0_0,(b0_1,(b0_2,(b0_3,(b0_4,(b0_5,(b0_6,(b0_7,(b1_0,(b1_1,((ap b3 x2.1),())))))))))))))))
 (
  some (.inr (t8,(b0_0,(b0_1,(b0_2,(b0_3,(b0_4,(b0_5,(b0_6,(b0_7,(b1_0,(b1_1,(b3,()))))))))))))))
def astrariumref13_State_M11 (c0:Zakl) (c1:Zall) (c2:Zabf) :astrariumref13_State_D11:=mkL (u13 (astrariumref13_State_B11 c0.F c1.F c2.F)) (pL (kD c0 (kD c1 (kD c2 k0))) e0 1 l0 fun d=>by kernel_rfl)
def astrariumref13_State_N11:astrariumref13_State_D11:=astrariumref13_State_M11 Zapb Zaqp Zad6 
def astrariumref13_State_L11:astrariumref13_State_T11:=lpD (u13 (astrariumref13_State_B11 Zajf Zakh Zdg)) NN
def astrariumref13_State_B8 (L11:astrariumref13_State_T11) (t8 b0_0:Int) (b0_1:List Int) (b0_2:List (Sh.T Za0)) (b0_3 b0_4 b0_5:List Int) (b0_6:List (Sh.T Za1)) (b0_7:List (Sh.T Za0)) (b1_0:List Bool) (b1_1:List (List (Sh.T Za3))) (b3:List Bool):Option (TL astrariumref13_State_lay8.σs⊕Out astrariumref13_State_outs8):=
 br (iL t8 (Int.ofNat (List.length b0_6)))
 (
  bnd (L11 (t8,((0:Int),(b0_0,(b0_1,(b0_2,(b0_3,(b0_4,(b0_5,(b0_6,(b0_7,(b1_0,(b1_1,(b3,())))))))))))))) fun x0=>
  some (.inl ((IntKind.wrap .i64 (@HAdd.hAdd (Int) (Int) (Int) _ x0.1 (1:Int))),x0.2)))
 (
  some (.inr (b3,())))
def astrariumref13_State_M8 (M11:astrariumref13_State_D11):astrariumref13_State_D8:=mkL (u12 (astrariumref13_State_B8 M11.L)) (pL k0 e0 1 (sC M11 l0) fun d=>by kernel_rfl)
def astrariumref13_State_N8:astrariumref13_State_D8:=astrariumref13_State_M8  astrariumref13_State_N11
def astrariumref13_State_L8:astrariumref13_State_T8:=lpD (u12 (astrariumref13_State_B8 astrariumref13_State_L11)) NN
abbrev astrariumref13_State_σs:List Sh:=[Za5,Zab]
abbrev astrariumref13_State_τs:List Sh:=[Zab,(.int .i64)]
abbrev astrariumref13_State_T:=TL astrariumref13_State_σs→Option (TL astrariumref13_State_τs)
abbrev astrariumref13_State_D:=Kd 19 astrariumref13_State_σs astrariumref13_State_τs
def astrariumref13_State_F (F0:Zapa) (F1:Zaqo) (F2:Zad5) (F3:astrariumref13_Cells_T) (F4:Zahu) (L8:astrariumref13_State_T8) (L11:astrariumref13_State_T11) (a0:Sh.T Za5) (a1:Sh.T Zab):Option (TL astrariumref13_State_τs):=
 bnd (F4 (a0,(a1,()))) fun x0=>
 br (Bool.not (iQ x0.1 (0:Int)))
 (
  some (([],([],())),(x0.1,())))
 (
  bnd (F3 (a0,())) fun x1=>
  br (iL (64:Int) x1.1)
  (
   some (([],([],())),((17:Int),())))
  (
   chk (room 1 (List.length (ap [] a1.1)))<|
   bnd (L8 ((0:Int),(a0.1,(a0.2.1,(a0.2.2.1,(a0.2.2.2.1,(a0.2.2.2.2.1,(a0.2.2.2.2.2.1,(a0.2.2.2.2.2.2.1,(a0.2.2.2.2.2.2.2.1,(a1.1,(a1.2.1,((ap [] a1.1),()))))))))))))) fun x2=>
   some ((x2.1,([],())),((0:Int),()))))
def astrariumref13_State_G (c0:Zakl) (c1:Zall) (c2:Zabf) (c3:astrariumref13_Cells_D) (c4:Zad0) (M8:astrariumref13_State_D8) (M11:astrariumref13_State_D11):astrariumref13_State_D:=⟨u2 (astrariumref13_State_F c0.F c1.F c2.F c3.F c4.F M8.L M11.L),pD Try.func19 60 (kD c0 (kD c1 (kD c2 (kD c3 (kD c4 k0))))) e0 1 (sS (sC M8 l0)) fun d=>by kernel_rfl⟩
def astrariumref13_State_K:astrariumref13_State_D:=astrariumref13_State_G Zapb Zaqp Zad6 astrariumref13_Cells_K Zahv astrariumref13_State_N8 astrariumref13_State_N11
def astrariumref13_State_FF:astrariumref13_State_T:=astrariumref13_State_K.F
end Go.Proofs.Ytnocaehijdmkkaa.V
end
section
namespace Go.Proofs.Ytnocaehijdmkkaa.V
open Go Go.RowKit
open Go.Proofs.Ytnocaehijdmkkaa.Pl
def cutT (x:Int):Int:=if 1000<x then 1000 else x
def tP (m:MemD):Int:=if 10≤m.addr then 1000 else m.word*2^m.addr.toNat
def dblF (w:Int):Nat→Int
 | 0=>w
 | k+1=>if dblF w k<1000 then 2*dblF w k else dblF w k
def sumP (l:List MemD):Int:=l.foldl (fun a m=>a+tP m) 0
def sumR (l:List MemD):Int:=l.foldl (fun a m=>a+dblF m.word m.addr.toNat) 0
def Many (t u:Int):Prop:=t=u∨(1000≤t∧1000≤u)
theorem cut_many {t u:Int} (h:Many t u):cutT t=cutT u:=by
 unfold cutT
 rcases h with rfl | ⟨h1,h2⟩
 ·rfl
 ·split<;>split<;>omega
theorem pow_pos2 (k:Nat):(1:Int)≤2^k:=by
 have:=Int.pow_pos (n:=(2:Int)) (m:=k) (by decide)
 omega
theorem mul_mono {w a b:Int} (hw:0≤w) (h:a≤b):w*a≤w*b:=Int.mul_le_mul_of_nonneg_left h hw
theorem dbl_rel {w:Int} (hw:1≤w):∀k,dblF w k=w*2^k∨(1000≤dblF w k∧1000≤w*2^k):=by
 intro k
 induction k with
 | zero=>left;rw [dblF];simp
 | succ k ih=>
  have e:w*2^(k+1)=2*(w*2^k):=by rw [Int.pow_succ];rw [←Int.mul_assoc,Int.mul_comm]
  rw [dblF,e]
  split
  ·rename_i q
   rcases ih with h | ⟨h1,h2⟩
   ·left;rw [h]
   ·omega
  ·rename_i q
   right
   rcases ih with h | ⟨h1,h2⟩<;>omega
theorem dbl_low {w:Int} (hw:1≤w):∀k,w≤dblF w k:=by
 intro k
 induction k with
 | zero=>rw [dblF];omega
 | succ k ih=>rw [dblF];split<;>omega
theorem dbl_up {w:Int} (hw:w≤64):∀k,dblF w k≤2000:=by
 intro k
 induction k with
 | zero=>rw [dblF];omega
 | succ k ih=>rw [dblF];split<;>omega
theorem dbl_stay {w:Int} {k:Nat} (h:1000≤dblF w k):∀j,dblF w (k+j)=dblF w k:=by
 intro j
 induction j with
 | zero=>rfl
 | succ j ih=>rw [show k+(j+1)=k+j+1 by omega,dblF,ih,if_neg (by omega)]
theorem many_mem {m:MemD} (h1:1≤m.addr) (h2:1≤m.word):Many (tP m) (dblF m.word m.addr.toNat):=by
 have r:=dbl_rel h2 m.addr.toNat
 unfold tP
 split
 ·rename_i q
  right
  have p:(2:Int)^10≤2^m.addr.toNat:=by
   have:=Nat.pow_le_pow_right (n:=2) (by decide) (show 10≤m.addr.toNat by omega)
   exact_mod_cast this
  have p2:(2:Int)^10=1024:=by decide
  have p3:=mul_mono (w:=m.word) (by omega) p
  have p4:=mul_mono (w:=1024) (a:=1) (b:=m.word) (by omega) h2
  rw [p2] at p3
  have p5:m.word*1024=1024*m.word:=Int.mul_comm ..
  rcases r with h | ⟨a,b⟩<;>omega
 ·rcases r with h | ⟨a,b⟩
  ·left;exact h.symm
  ·right;exact ⟨b,a⟩
theorem tP_rng {m:MemD} (h1:1≤m.addr) (h2:1≤m.word) (h3:m.word≤64):0≤tP m∧tP m≤40000:=by
 unfold tP
 split
 ·omega
 ·have p:(2:Int)^m.addr.toNat≤2^9:=by
   have:=Nat.pow_le_pow_right (n:=2) (by decide) (show m.addr.toNat≤9 by omega)
   exact_mod_cast this
  have p2:(2:Int)^9=512:=by decide
  have p3:=mul_mono (w:=m.word) (by omega) p
  have p4:=mul_mono (w:=m.word) (by omega) (pow_pos2 m.addr.toNat)
  rw [p2] at p3
  omega
theorem many_add {a b c d:Int} (h1:Many a b) (h2:Many c d) (ha:0≤a) (hb:0≤b) (hc:0≤c) (hd:0≤d):Many (a+c) (b+d):=by
 rcases h1 with h1 | h1<;>rcases h2 with h2 | h2
 ·left;omega
 ·right;omega
 ·right;omega
 ·right;omega
theorem sum_many:∀(l:List MemD) (a b:Int),(∀m∈l,1≤m.addr∧1≤m.word∧m.word≤64)→Many a b→0≤a→0≤b→Many (l.foldl (fun a m=>a+tP m) a) (l.foldl (fun a m=>a+dblF m.word m.addr.toNat) b):=by
 intro l
 induction l with
 | nil=>intro a b _ h _ _;exact h
 | cons m l ih=>
  intro a b hl h ha hb
  obtain ⟨h1,h2,h3⟩:=hl m (by simp)
  have t:=tP_rng h1 h2 h3
  have u:=dbl_low h2 m.addr.toNat
  exact ih _ _ (fun x hx=>hl x (by simp [hx])) (many_add h (many_mem h1 h2) ha hb t.1 (by omega)) (show 0≤a+tP m by omega) (show 0≤b+dblF m.word m.addr.toNat by omega)
theorem sumP_rng:∀(l:List MemD) (a:Int),(∀m∈l,1≤m.addr∧1≤m.word∧m.word≤64)→a≤l.foldl (fun a m=>a+tP m) a∧l.foldl (fun a m=>a+tP m) a≤a+40000*(l.length:Int):=by
 intro l
 induction l with
 | nil=>intro a _;exact ⟨Int.le_refl _,by simp⟩
 | cons m l ih=>
  intro a hl
  obtain ⟨h1,h2,h3⟩:=hl m (by simp)
  have t:=tP_rng h1 h2 h3
  obtain ⟨x,y⟩:=ih (a+tP m) (fun x hx=>hl x (by simp [hx]))
  rw [List.foldl_cons,List.length_cons]
  omega
theorem sumR_rng:∀(l:List MemD) (a:Int),(∀m∈l,1≤m.addr∧1≤m.word∧m.word≤64)→a≤l.foldl (fun a m=>a+dblF m.word m.addr.toNat) a∧l.foldl (fun a m=>a+dblF m.word m.addr.toNat) a≤a+2000*(l.length:Int):=by
 intro l
 induction l with
 | nil=>intro a _;exact ⟨Int.le_refl _,by simp⟩
 | cons m l ih=>
  intro a hl
  obtain ⟨h1,h2,h3⟩:=hl m (by simp)
  have t:=dbl_low h2 m.addr.toNat
  have t2:=dbl_up h3 m.addr.toNat
  obtain ⟨x,y⟩:=ih (a+dblF m.word m.addr.toNat) (fun x hx=>hl x (by simp [hx]))
  rw [List.foldl_cons,List.length_cons]
  omega
def cellsN (n:NetD):Int:=if Pl.Zkz n≠0 then 0 else cutT (sumP n.mems)
section
variable {n:NetD} {V:Nat} (hs:Snd n V)
include hs
theorem mem_rngs:∀m∈n.mems,1≤m.addr∧1≤m.word∧m.word≤64:=fun m hm=>by
 obtain ⟨m1,m2,m3,m4,_⟩:=hs.mems m hm
 exact ⟨m1,m3,m4⟩
end
section
variable {n:NetD} {V:Nat}
theorem sel_cut (x:Int):selI (iL (1000:Int) x) (1000:Int) x=cutT x:=by
 unfold cutT selI
 by_cases q:1000<x
 ·rw [if_pos q,show iL (1000:Int) x=true from dec_t q]
 ·rw [if_neg q,show iL (1000:Int) x=false from dec_f q]
end
section
variable {n:NetD} {V:Nat} (hs:Snd n V)
include hs
theorem sumb_is:net_sumb_FF ((0:Int),([],([],([],([],([],(n.mems.map memT,([],()))))))))=some (sumP n.mems,()):=by
 have hM:=hs.lens.2.2.2.2
 have hL:((n.mems.map memT).length:Int)=(n.mems.length:Int):=by rw [List.length_map]
 have e2:net_sumb_L2 ((0:Int),(n.mems.map memT,(((n.mems.map memT).length:Int),((0:Int),()))))=some (sumP n.mems,()):=by
  unfold net_sumb_L2;delta u4
  refine Zif (fun k:Nat=>(sumP (n.mems.take k),(n.mems.map memT,(((n.mems.map memT).length:Int),((k:Int),()))))) n.mems.length rfl ?_ ?_ (Ze8 (by omega))
  ·intro k hk
   have hx:=List.getElem?_eq_getElem hk
   obtain ⟨h1,h2,h3⟩:=mem_rngs hs _ (List.getElem_mem hk)
   have t:=tP_rng h1 h2 h3
   have hx':(n.mems.map memT)[k]?=some (memT n.mems[k]):=by rw [List.getElem?_map,hx];rfl
   have g:gt Za1 (n.mems.map memT) (k:Int)=memT n.mems[k]:=gt_at (σ:=Za1) hx'
   have eb:net_Bits_1_FF (memT n.mems[k],())=some (tP n.mems[k],()):=by
    show net_Bits_1_F (memT n.mems[k])=_
    unfold net_Bits_1_F tP
    by_cases q:10≤n.mems[k].addr
    ·rw [if_pos q];exact br_tt (dec_t q) rfl
    ·rw [if_neg q]
     have e:∀p q:Int,p=q→(some (p,()):Option (TL net_Bits_1_τs))=some (q,()):=by rintro _ _ rfl;rfl
     refine br_ff (dec_f q) (Zaj (dec_t (show (0:Int)≤n.mems[k].addr by omega)) (e _ _ ?_))
     show IntKind.wrap .i64 (n.mems[k].word*2^min (Int.toNat n.mems[k].addr) 64)=_
     rw [Nat.min_eq_left (by omega)]
     unfold tP at t
     rw [if_neg q] at t
     exact i64w (by omega)
   have eb':net_Bits_1_FF (((gt Za1 (n.mems.map memT) (k:Int)).1,((gt Za1 (n.mems.map memT) (k:Int)).2.1,((gt Za1 (n.mems.map memT) (k:Int)).2.2.1,((gt Za1 (n.mems.map memT) (k:Int)).2.2.2.1,((gt Za1 (n.mems.map memT) (k:Int)).2.2.2.2.1,()))))),())=some (tP n.mems[k],()):=by rw [g];exact eb
   have hr:=sumP_rng (n.mems.take k) 0 (fun m hm=>mem_rngs hs m (List.mem_of_mem_take hm))
   have hl:(n.mems.take k).length≤4:=by rw [List.length_take];omega
   have hst:sumP (n.mems.take (k+1))=sumP (n.mems.take k)+tP n.mems[k]:=by unfold sumP;rw [Pl.Zd8 hx,List.foldl_append];rfl
   have e:∀(a b p q:Int),a=b→p=q→(some (.inl (a,(n.mems.map memT,(((n.mems.map memT).length:Int),(p,()))))):Option (TL net_sumb_lay2.σs⊕Out net_sumb_outs2))=some (.inl (b,(n.mems.map memT,(((n.mems.map memT).length:Int),(q,()))))):=by rintro _ _ _ _ rfl rfl;rfl
   have hr:0≤sumP (n.mems.take k)∧sumP (n.mems.take k)≤0+40000*((n.mems.take k).length:Int):=hr
   refine br_tt (dec_t (show (k:Int)<((n.mems.map memT).length:Int) by omega)) (Zaj (show inb (k:Int) (List.length (n.mems.map memT))=true from Zar ⟨by omega,by omega⟩) (Zba eb' (e _ _ _ _ ?_ (i64n (show (k:Int)+1=((k+1:Nat):Int) by omega) (by omega)))))
   rw [hst]
   exact i64w (by omega)
  ·have e:∀(a b:Int),a=b→(some (.inr (a,())):Option (TL net_sumb_lay2.σs⊕Out net_sumb_outs2))=some (.inr (b,())):=by rintro _ _ rfl;rfl
   rw [List.take_length]
   exact br_ff (dec_f (show ¬(n.mems.length:Int)<((n.mems.map memT).length:Int) by omega)) rfl
 exact Zba e2 rfl
theorem bitsN_is:net_Bits_FF (((0:Int),([],([],([],([],([],(n.mems.map memT,([],())))))))),())=some (cutT (sumP n.mems),()):=by
 have hM:=hs.lens.2.2.2.2
 have e1:=sumb_is hs
 have hr:=sumP_rng n.mems 0 (mem_rngs hs)
 have hr:0≤sumP n.mems∧sumP n.mems≤0+40000*(n.mems.length:Int):=hr
 have w:IntKind.wrap .i64 (((0:Nat):Int)+sumP n.mems)=sumP n.mems:=by rw [show ((0:Nat):Int)+sumP n.mems=sumP n.mems by omega];exact i64w (by omega)
 have e:∀(a b:Int),a=b→(some (a,()):Option (TL net_Bits_τs))=some (b,()):=by rintro _ _ rfl;rfl
 refine Zba e1 (e _ _ ?_)
 show selI (iL (1000:Int) (IntKind.wrap .i64 (((0:Nat):Int)+sumP n.mems))) (1000:Int) (IntKind.wrap .i64 (((0:Nat):Int)+sumP n.mems))=_
 rw [w]
 exact sel_cut _
theorem refC_9 {k:Nat} {m:MemD} (hm:n.mems[k]?=some m) (acc:Int) :
  astrariumref13_Cells_L9 (acc,((k:Int),(m.word,((0:Int),nt n ()))))=some (acc,((k:Int),(dblF m.word m.addr.toNat,nt n ()))):=by
 obtain ⟨h1,h2,h3⟩:=mem_rngs hs m (List.mem_of_getElem? hm)
 obtain ⟨_,h4,_⟩:=hs.mems m (List.mem_of_getElem? hm)
 have hk:=Zhb hm
 have hL:((n.mems.map memT).length:Int)=(n.mems.length:Int):=by rw [List.length_map]
 have hM:=hs.lens.2.2.2.2
 have hx':(n.mems.map memT)[k]?=some (memT m):=by rw [List.getElem?_map,hm];rfl
 have g:gt Za1 (n.mems.map memT) (k:Int)=memT m:=gt_at (σ:=Za1) hx'
 have hin:inb (k:Int) (List.length (n.mems.map memT))=true:=Zar ⟨by omega,by omega⟩
 have hq:=Za80 (B:=fun d=>astrariumref13_Cells_B9 d.1 d.2.1 d.2.2.1 d.2.2.2.1 d.2.2.2.2.1 d.2.2.2.2.2.1 d.2.2.2.2.2.2.1 d.2.2.2.2.2.2.2.1 d.2.2.2.2.2.2.2.2.1 d.2.2.2.2.2.2.2.2.2.1 d.2.2.2.2.2.2.2.2.2.2.1 d.2.2.2.2.2.2.2.2.2.2.2.1)
  (I:=fun d:TL astrariumref13_Cells_lay9.σs=>∃j:Nat,j≤m.addr.toNat∧d=(acc,((k:Int),(dblF m.word j,((j:Int),nt n ())))))
  (Q:=fun o:Out astrariumref13_Cells_outs9=>o=(acc,((k:Int),(dblF m.word m.addr.toNat,nt n ()))))
  (fun d:TL astrariumref13_Cells_lay9.σs=>m.addr.toNat - Int.toNat d.2.2.2.1) ?_ NN (acc,((k:Int),(m.word,((0:Int),nt n ())))) ⟨0,by omega,rfl⟩ (Ze8 (by show m.addr.toNat - _≤_;omega))
 ·obtain ⟨o,ho,rfl⟩:=hq
  exact ho
 ·rintro d ⟨j,hj,rfl⟩
  have e0:(gt Za1 (n.mems.map memT) (k:Int)).1=m.addr:=by rw [g];rfl
  by_cases q:j<m.addr.toNat
  ·have c0:iL (j:Int) (gt Za1 (n.mems.map memT) (k:Int)).1=true:=dec_t (by rw [e0];omega)
   have lo:=dbl_low h2 j
   have up:=dbl_up h3 j
   by_cases r:dblF m.word j<1000
   ·refine .inr ⟨(acc,((k:Int),(dblF m.word (j+1),(((j+1:Nat):Int),nt n ())))),?_,⟨j+1,by omega,rfl⟩,by show m.addr.toNat - Int.toNat ((j+1:Nat):Int)<m.addr.toNat - Int.toNat (j:Int);omega⟩
    have e:∀(a b p q:Int),a=b→p=q→(some (.inl (acc,((k:Int),(a,(p,nt n ()))))):Option (TL astrariumref13_Cells_lay9.σs⊕Out astrariumref13_Cells_outs9))=some (.inl (acc,((k:Int),(b,(q,nt n ()))))):=by rintro _ _ _ _ rfl rfl;rfl
    refine Zaj hin (br_tt c0 (br_tt (show selB true (iL (dblF m.word j) (1000:Int)) false=true from dec_t r) (e _ _ _ _ ?_ (i64n (show (j:Int)+1=((j+1:Nat):Int) by omega) (by omega)))))
    rw [dblF,if_pos r]
    exact i64w (x:=2*dblF m.word j) (by omega)
   ·refine .inl ⟨_,Zaj hin (br_tt c0 (br_ff (show selB true (iL (dblF m.word j) (1000:Int)) false=false from dec_f r) rfl)),?_⟩
    have:=dbl_stay (w:=m.word) (k:=j) (by omega) (m.addr.toNat - j)
    rw [show j+(m.addr.toNat - j)=m.addr.toNat by omega] at this
    rw [this];rfl
  ·obtain rfl:j=m.addr.toNat:=by omega
   exact .inl ⟨_,Zaj hin (br_ff (dec_f (show ¬((m.addr.toNat:Nat):Int)<(gt Za1 (n.mems.map memT) (k:Int)).1 by rw [e0];omega)) rfl),rfl⟩
theorem refC_5:astrariumref13_Cells_L5 ((0:Int),((0:Int),nt n ()))=some (sumR n.mems,()):=by
 have hM:=hs.lens.2.2.2.2
 have hL:((n.mems.map memT).length:Int)=(n.mems.length:Int):=by rw [List.length_map]
 unfold astrariumref13_Cells_L5;delta u10
 refine Zif (fun k:Nat=>(sumR (n.mems.take k),((k:Int),nt n ()))) n.mems.length rfl ?_ ?_ (Ze8 (by omega))
 ·intro k hk
  have hx:=List.getElem?_eq_getElem hk
  have hx':(n.mems.map memT)[k]?=some (memT n.mems[k]):=by rw [List.getElem?_map,hx];rfl
  have g:gt Za1 (n.mems.map memT) (k:Int)=memT n.mems[k]:=gt_at (σ:=Za1) hx'
  obtain ⟨h1,h2,h3⟩:=mem_rngs hs _ (List.getElem_mem hk)
  have lo:=dbl_low h2 n.mems[k].addr.toNat
  have up:=dbl_up h3 n.mems[k].addr.toNat
  have e9:astrariumref13_Cells_L9 (sumR (n.mems.take k),((k:Int),((gt Za1 (n.mems.map memT) (k:Int)).2.1,((0:Int),nt n ()))))=some (sumR (n.mems.take k),((k:Int),(dblF n.mems[k].word n.mems[k].addr.toNat,nt n ()))):=by rw [g];exact refC_9 hs hx _
  have hr:0≤sumR (n.mems.take k)∧sumR (n.mems.take k)≤0+2000*((n.mems.take k).length:Int):=sumR_rng (n.mems.take k) 0 (fun m hm=>mem_rngs hs m (List.mem_of_mem_take hm))
  have hl:(n.mems.take k).length≤4:=by rw [List.length_take];omega
  have hst:sumR (n.mems.take (k+1))=sumR (n.mems.take k)+dblF n.mems[k].word n.mems[k].addr.toNat:=by unfold sumR;rw [Pl.Zd8 hx,List.foldl_append];rfl
  have e:∀(a b p q:Int),a=b→p=q→(some (.inl (a,(p,nt n ()))):Option (TL astrariumref13_Cells_lay5.σs⊕Out astrariumref13_Cells_outs5))=some (.inl (b,(q,nt n ()))):=by rintro _ _ _ _ rfl rfl;rfl
  refine br_tt (dec_t (show (k:Int)<((n.mems.map memT).length:Int) by omega)) (Zaj (show inb (k:Int) (List.length (n.mems.map memT))=true from Zar ⟨by omega,by omega⟩) (Zba e9 (e _ _ _ _ ?_ (i64n (show (k:Int)+1=((k+1:Nat):Int) by omega) (by omega)))))
  rw [hst]
  exact i64w (x:=sumR (n.mems.take k)+dblF n.mems[k].word n.mems[k].addr.toNat) (by omega)
 ·rw [List.take_length]
  exact br_ff (dec_f (show ¬(n.mems.length:Int)<((n.mems.map memT).length:Int) by omega)) rfl
end
section
variable {n:NetD} (ft:Fit n)
include ft
theorem cells_is:expand_Cells_FF (netT n,())=some (cellsN n,()):=by
 have ec:=Zq6 ft
 unfold cellsN
 by_cases hc:Pl.Zkz n=0
 ·rw [if_neg (fun q=>q hc)]
  unfold Pl.Zkz at hc
  have h0:Zj3 n=0:=by
   by_cases q:Zj3 n=0
   ·exact q
   ·rw [if_pos q] at hc;exact absurd hc q
  obtain ⟨V,hs⟩:=Za74 h0
  have eb:=bitsN_is hs
  have hc':Pl.Zkz n=0:=by unfold Pl.Zkz;exact hc
  have e:∀(a b:Int),a=b→(some (a,()):Option (TL expand_Cells_τs))=some (b,()):=by rintro _ _ rfl;rfl
  refine Zba ec (br_ff (not_f (dec_t hc')) (Zba eb (e _ _ ?_)))
  show selI (iL (1000:Int) (cutT (sumP n.mems))) (1000:Int) (cutT (sumP n.mems))=_
  rw [sel_cut]
  unfold cutT
  split
  ·rfl
  ·rfl
 ·rw [if_pos hc]
  exact Zba ec (br_tt (not_t (dec_f hc)) rfl)
theorem cells13_is:astrariumref13_Cells_FF (netT n,())=some (cellsN n,()):=by
 have ec:=Zxe ft
 unfold cellsN
 by_cases hc:Pl.Zkz n=0
 ·rw [if_neg (fun q=>q hc)]
  have hc':=hc
  unfold Pl.Zkz at hc
  have h0:Zj3 n=0:=by
   by_cases q:Zj3 n=0
   ·exact q
   ·rw [if_pos q] at hc;exact absurd hc q
  obtain ⟨V,hs⟩:=Za74 h0
  have e5:=refC_5 hs
  have e:∀(a b:Int),a=b→(some (a,()):Option (TL astrariumref13_Cells_τs))=some (b,()):=by rintro _ _ rfl;rfl
  refine Zba ec (br_ff (not_f (dec_t hc')) (Zba e5 (e _ _ ?_)))
  show selI (iL (1000:Int) (sumR n.mems)) (1000:Int) (sumR n.mems)=_
  rw [sel_cut]
  exact (cut_many (sum_many n.mems 0 0 (mem_rngs hs) (.inl rfl) (by omega) (by omega))).symm
 ·rw [if_pos hc]
  exact Zba ec (br_tt (not_t (dec_f hc)) rfl)
end
def wordB (m:MemD) (c:List CellT) (a:Nat):List Bool:=Zaqa (rd c ((a:Nat):Int)).toNat m.word.toNat
def memB (m:MemD) (c:List CellT) (k:Nat):List Bool:=(List.range k).flatMap (wordB m c)
theorem roomN' (L:List Bool) (h:L.length≤100000):room 1 (List.length ([]++L))=true:=by
 rw [List.nil_append];exact Za3a (by omega) (by omega)
def mz:MemD:=⟨0,0,false,[],[]⟩
def stB (n:NetD) (ls:List Bool) (cs:List (List CellT)) (k:Nat):List Bool:=ls++(List.range k).flatMap fun i=>memB (n.mems.getD i mz) (cs.getD i []) (2^(n.mems.getD i mz).addr.toNat)
theorem memB_succ (m:MemD) (c:List CellT) (k:Nat):memB m c (k+1)=memB m c k++wordB m c k:=by
 unfold memB;rw [List.range_succ,List.flatMap_append];simp
theorem memB_len (m:MemD) (c:List CellT):∀k,(memB m c k).length=k*m.word.toNat:=by
 intro k
 induction k with
 | zero=>simp [memB]
 | succ k ih=>rw [memB_succ,List.length_append,ih,Nat.succ_mul];unfold wordB;rw [Zare]
theorem stB_succ (n:NetD) (ls:List Bool) (cs:List (List CellT)) {k:Nat} {m:MemD} {c:List CellT} (hm:n.mems[k]?=some m) (hc:cs[k]?=some c):stB n ls cs (k+1)=stB n ls cs k++memB m c (2^m.addr.toNat):=by
 unfold stB
 rw [List.range_succ,List.flatMap_append,←List.append_assoc]
 congr 1
 simp only [List.flatMap_cons,List.flatMap_nil,List.append_nil]
 rw [List.getD_eq_getElem?_getD,List.getD_eq_getElem?_getD,hm,hc];rfl
theorem rd_or (c:List CellT) (a:Int):rd c a=0∨∃p∈c,rd c a=p.2.1:=by
 induction c with
 | nil=>exact .inl rfl
 | cons p c ih=>
  rw [Zbag]
  by_cases q:p.1=a
  ·rw [if_pos q];exact .inr ⟨p,by simp,rfl⟩
  ·rw [if_neg q]
   rcases ih with h | ⟨r,hr,h⟩
   ·exact .inl h
   ·exact .inr ⟨r,by simp [hr],h⟩
theorem cell_at' {c:List CellT} {i:Nat} {p:CellT} (h:c[i]?=some p):cAt c (i:Int)=p.1∧cWord c (i:Int)=p.2.1:=by
 have g:gt Za3 c (i:Int)=p:=gt_at (σ:=Za3) h
 unfold cAt cWord
 rw [g];exact ⟨rfl,rfl⟩
theorem rd_u64 {c:List CellT} (h:okC c) (a:Int):0≤rd c a∧rd c a≤18446744073709551615:=by
 rcases rd_or c a with e | ⟨p,hp,e⟩
 ·omega
 ·obtain ⟨i,hi⟩:=List.getElem?_of_mem hp
  have hw:=(h i (Zhb hi)).2
  rw [(cell_at' hi).2] at hw
  omega
structure Small (m:MemD):Prop where
 a1:1≤m.addr
 a2:m.addr<10
 w1:1≤m.word
 w2:m.word≤64
 sz:m.word*2^m.addr.toNat≤64
theorem Small.nat {m:MemD} (h:Small m):2^m.addr.toNat*m.word.toNat≤64∧1≤2^m.addr.toNat:=by
 have hp:(1:Nat)≤2^m.addr.toNat:=Nat.pos_of_ne_zero (by simp)
 refine ⟨?_,hp⟩
 have e:((2^m.addr.toNat*m.word.toNat:Nat):Int)=m.word*2^m.addr.toNat:=by
  push_cast
  rw [show ((m.word.toNat:Nat):Int)=m.word by have:=h.w1;omega,Int.mul_comm]
 have:=h.sz
 omega
theorem Small.cnt {m:MemD} (h:Small m):2^m.addr.toNat≤64:=by
 have h1:=h.nat.1
 have h2:2^m.addr.toNat*1≤2^m.addr.toNat*m.word.toNat:=Nat.mul_le_mul_left _ (by have:=h.w1;omega)
 omega
theorem foldT_ge:∀(l:List MemD) (a:Int),(∀m∈l,1≤m.addr∧1≤m.word∧m.word≤64)→∀m∈l,a+tP m≤l.foldl (fun a m=>a+tP m) a:=by
 intro l
 induction l with
 | nil=>intro a _ m hm;cases hm
 | cons x l ih=>
  intro a hl m hm
  obtain ⟨h1,h2,h3⟩:=hl x (by simp)
  have t:=tP_rng h1 h2 h3
  have hl':∀m∈l,1≤m.addr∧1≤m.word∧m.word≤64:=fun y hy=>hl y (by simp [hy])
  rw [List.foldl_cons]
  rcases List.mem_cons.1 hm with rfl | hm
  ·exact (sumP_rng l (a+tP m) hl').1
  ·have:=ih (a+tP x) hl' m hm
   omega
section
variable {n:NetD} {V:Nat} (hs:Snd n V)
include hs
theorem small_of (h:cutT (sumP n.mems)≤64):∀m∈n.mems,Small m:=by
 intro m hm
 have h2:sumP n.mems≤64:=by unfold cutT at h;split at h<;>omega
 have h3:=foldT_ge n.mems 0 (mem_rngs hs) m hm
 have h3:0+tP m≤sumP n.mems:=h3
 obtain ⟨m1,m2,m3⟩:=mem_rngs hs m hm
 unfold tP at h3
 by_cases q:10≤m.addr
 ·rw [if_pos q] at h3;omega
 ·rw [if_neg q] at h3
  exact ⟨m1,by omega,m2,m3,by omega⟩
end
section
variable {n:NetD} {V:Nat}
theorem stB_len (ls:List Bool) (cs:List (List CellT)) (hsm:∀m∈n.mems,Small m):∀k,k≤n.mems.length→k≤cs.length→(stB n ls cs k).length≤ls.length+64*k:=by
 intro k
 induction k with
 | zero=>intro _ _;simp [stB]
 | succ k ih=>
  intro hk hc
  have hx:=List.getElem?_eq_getElem (l:=n.mems) (i:=k) (by omega)
  have hy:=List.getElem?_eq_getElem (l:=cs) (i:=k) (by omega)
  rw [stB_succ n ls cs hx hy,List.length_append,memB_len]
  have:=(hsm _ (List.getElem_mem (show k<n.mems.length by omega))).nat.1
  have:=ih (by omega) (by omega)
  omega
end
section
variable {n:NetD} {V:Nat} (hs:Snd n V)
include hs
end
section
variable {n:NetD} {V:Nat}
theorem addr_pow {m:MemD} (h:Small m):IntKind.wrap .u64 ((1:Int)*(HPow.hPow (2:Int) (Min.min (Int.toNat m.addr) 64)))=((2^m.addr.toNat:Nat):Int):=by
 have h1:=h.a2
 have h2:=h.a1
 rw [Nat.min_eq_left (by omega),Int.one_mul]
 have hc:=h.cnt
 have e:((2^m.addr.toNat:Nat):Int)=(2:Int)^m.addr.toNat:=by push_cast;rfl
 have hp:(0:Int)≤(2:Int)^m.addr.toNat:=Int.le_of_lt (Int.pow_pos (by decide))
 have hc':(2:Int)^m.addr.toNat≤64:=by exact_mod_cast hc
 rw [e]
 exact u64w ⟨hp,by omega⟩
end
section
variable {n:NetD} {V:Nat} (hs:Snd n V)
include hs
end
section
variable {n:NetD} {V:Nat}
theorem st_13 {k:Nat} {m:MemD} {c:List CellT} (hm:Small m) (hc:okC c) (L:Int) (ls:List Bool) (cs:List (List CellT)) (acc:List Bool) (hacc:acc.length≤1000000) (ra:Int) :
  expand_State_L13 (n.mems.map memT,(L,((k:Int),(((2^m.addr.toNat:Nat):Int),((0:Int),(ls,(cs,(acc,(m.addr,(m.word,(m.any,(m.reads.map readT,(m.writes.map Zt4,(ra,(m.word,(c,())))))))))))))))) =
   some (n.mems.map memT,(L,((k:Int),(ls,(cs,(acc++memB m c (2^m.addr.toNat),())))))):=by
 have hn:=hm.nat
 have hcn:=hm.cnt
 unfold expand_State_L13;delta u16
 refine Zif (fun j:Nat=>(n.mems.map memT,(L,((k:Int),(((2^m.addr.toNat:Nat):Int),((j:Int),(ls,(cs,(acc++memB m c j,(m.addr,(m.word,(m.any,(m.reads.map readT,(m.writes.map Zt4,(ra,(m.word,(c,()))))))))))))))))) (2^m.addr.toNat) (by have h:acc++memB m c 0=acc:=List.append_nil acc;dsimp only;rw [h];try rfl) ?_ ?_ (Ze8 (by omega))
 ·intro j hj
  have hr:=rd_u64 hc (j:Int)
  have e1:Ztu ((j:Int),(ra,(m.word,(c,()))))=some (rd c (j:Int),(ra,(m.word,(c,())))):=by
   have e:∀p q:Int,p=q→(some (p,(ra,(m.word,(c,())))):Option (Out Zhx))=some (q,(ra,(m.word,(c,())))):=by rintro _ _ rfl;rfl
   exact e _ _ (mget_c c (j:Int))
  have hw1:=hm.w1
  have hw2:=hm.w2
  have e2:Zaxv (rd c (j:Int),(m.word,()))=some (wordB m c j,()):=by
   have:=bools_is (rd c (j:Int)).toNat m.word.toNat (by omega) (by omega)
   rw [show (((rd c (j:Int)).toNat:Nat):Int)=rd c (j:Int) by omega,show ((m.word.toNat:Nat):Int)=m.word by omega] at this
   exact this
  have hl:(memB m c j).length≤64:=by
   rw [memB_len]
   have:j*m.word.toNat≤2^m.addr.toNat*m.word.toNat:=Nat.mul_le_mul_right _ (by omega)
   omega
  have hwl:(wordB m c j).length≤64:=by unfold wordB;rw [Zare];omega
  have hroom:room 1 (List.length ((acc++memB m c j)++wordB m c j))=true:=by
   rw [List.length_append,List.length_append]
   exact Za3a (by omega) (by omega)
  have ht:(acc++memB m c j)++wordB m c j=acc++memB m c (j+1):=by rw [memB_succ,List.append_assoc]
  have e:∀(a b:List Bool) (p q:Int),a=b→p=q→(some (.inl (n.mems.map memT,(L,((k:Int),(((2^m.addr.toNat:Nat):Int),(p,(ls,(cs,(a,(m.addr,(m.word,(m.any,(m.reads.map readT,(m.writes.map Zt4,(ra,(m.word,(c,())))))))))))))))) ):Option (TL expand_State_lay13.σs⊕Out expand_State_outs13))=some (.inl (n.mems.map memT,(L,((k:Int),(((2^m.addr.toNat:Nat):Int),(q,(ls,(cs,(b,(m.addr,(m.word,(m.any,(m.reads.map readT,(m.writes.map Zt4,(ra,(m.word,(c,())))))))))))))))) ):=by rintro _ _ _ _ rfl rfl;rfl
  exact br_tt (dec_t (show (j:Int)<((2^m.addr.toNat:Nat):Int) by omega)) (Zba e1 (Zaj (dec_t rfl) (Zba e2 (Zaj hroom (e _ _ _ _ ht (u64w (x:=(j:Int)+1) (by omega)))))))
 ·exact br_ff (dec_f (show ¬((2^m.addr.toNat:Nat):Int)<((2^m.addr.toNat:Nat):Int) by omega)) rfl
end
section
variable {n:NetD} {V:Nat} (hs:Snd n V)
include hs
theorem st_8 (ls:List Bool) (cs:List (List CellT)) (hsm:∀m∈n.mems,Small m) (hok:okS cs) (hf:fitsS (netT n) (ls,(cs,()))=true) (hl:ls.length≤100000) :
  expand_State_L8 (n.mems.map memT,(((n.mems.map memT).length:Int),((0:Int),(ls,(cs,(ls,()))))))=some (stB n ls cs n.mems.length,()):=by
 have hM:=hs.lens.2.2.2.2
 have hL:((n.mems.map memT).length:Int)=(n.mems.length:Int):=by rw [List.length_map]
 unfold fitsS at hf
 simp only [Bool.and_eq_true,decide_eq_true_eq] at hf
 obtain ⟨⟨f1,f2⟩,f3⟩:=hf
 have f2:cs.length=n.mems.length:=f2.trans (List.length_map ..)
 have f3:(List.range (n.mems.map memT).length).all (loadP (n.mems.map memT) cs)=true:=f3
 unfold expand_State_L8;delta u6
 refine Zif (fun k:Nat=>(n.mems.map memT,(((n.mems.map memT).length:Int),((k:Int),(ls,(cs,(stB n ls cs k,()))))))) n.mems.length (by have h:stB n ls cs 0=ls:=List.append_nil ls;dsimp only;rw [h];try rfl) ?_ ?_ (Ze8 (by omega))
 ·intro k hk
  obtain ⟨m,hm⟩:∃m,n.mems[k]?=some m:=⟨_,List.getElem?_eq_getElem hk⟩
  obtain ⟨c,hc⟩:∃c,cs[k]?=some c:=⟨_,List.getElem?_eq_getElem (by omega)⟩
  have hmm:=List.mem_of_getElem? hm
  have sm:=hsm m hmm
  have hm':(n.mems.map memT)[k]?=some (memT m):=by rw [List.getElem?_map,hm];rfl
  have g1:gt Za1 (n.mems.map memT) (k:Int)=memT m:=gt_at (σ:=Za1) hm'
  have g2:gt (.sl Za3) cs (k:Int)=c:=gt_at (σ:=.sl Za3) hc
  have hp:=(List.all_eq_true.1 f3) k (List.mem_range.2 (by rw [List.length_map];exact hk))
  unfold loadP at hp
  rw [g1,g2] at hp
  have hp:Zr2 m.addr m.word c=true:=hp
  have e4:=Zyb m.addr m.word c
  rw [hp] at e4
  have e4':Zk8 ((gt Za1 (n.mems.map memT) (k:Int)).1,((gt Za1 (n.mems.map memT) (k:Int)).2.1,(gt (.sl Za3) cs (k:Int),())))=some (.inr ((0:Int),(m.addr,(m.word,(c,()))))):=by rw [g1,g2];exact e4
  have hsl:=stB_len ls cs hsm k (by omega) (by omega)
  have e13:=st_13 (n:=n) (k:=k) sm (hok c (List.mem_of_getElem? hc)) ((n.mems.map memT).length:Int) ls cs (stB n ls cs k) (by omega) m.addr
  have e13':expand_State_L13 (n.mems.map memT,(((n.mems.map memT).length:Int),((k:Int),((IntKind.wrap .u64 ((1:Int)*(HPow.hPow (2:Int) (Min.min (Int.toNat (gt Za1 (n.mems.map memT) (k:Int)).1) 64)))),((0:Int),(ls,(cs,(stB n ls cs k,((gt Za1 (n.mems.map memT) (k:Int)).1,((gt Za1 (n.mems.map memT) (k:Int)).2.1,((gt Za1 (n.mems.map memT) (k:Int)).2.2.1,((gt Za1 (n.mems.map memT) (k:Int)).2.2.2.1,((gt Za1 (n.mems.map memT) (k:Int)).2.2.2.2.1,(m.addr,(m.word,(c,())))))))))))))))) =
   some (n.mems.map memT,(((n.mems.map memT).length:Int),((k:Int),(ls,(cs,(stB n ls cs k++memB m c (2^m.addr.toNat),())))))):=by
   rw [g1]
   have:=addr_pow sm
   show expand_State_L13 (n.mems.map memT,(((n.mems.map memT).length:Int),((k:Int),((IntKind.wrap .u64 ((1:Int)*(HPow.hPow (2:Int) (Min.min (Int.toNat m.addr) 64)))),_))))=_
   rw [this]
   exact e13
  have hc0:iE (0:Int) (gt Za1 (n.mems.map memT) (k:Int)).1=true:=dec_t (by rw [g1];have:=sm.a1;show (0:Int)≤m.addr;omega)
  have e:∀(a b:List Bool) (p q:Int),a=b→p=q→(some (.inl (n.mems.map memT,(((n.mems.map memT).length:Int),(p,(ls,(cs,(a,()))))))):Option (TL expand_State_lay8.σs⊕Out expand_State_outs8))=some (.inl (n.mems.map memT,(((n.mems.map memT).length:Int),(q,(ls,(cs,(b,()))))))):=by rintro _ _ _ _ rfl rfl;rfl
  exact br_tt (dec_t (show (k:Int)<((n.mems.map memT).length:Int) by omega)) (Zaj (show inb (k:Int) (List.length (n.mems.map memT))=true from Zar ⟨by omega,by omega⟩) (Zaj (show inb (k:Int) (List.length cs)=true from Zar ⟨by omega,by omega⟩) (Zba e4' (Zaj hc0 (Zba e13' (e _ _ _ _ (stB_succ n ls cs hm hc).symm (i64n (show (k:Int)+1=((k+1:Nat):Int) by omega) (by omega))))))))
 ·exact br_ff (dec_f (show ¬(n.mems.length:Int)<((n.mems.map memT).length:Int) by omega)) rfl
theorem rs_11 {k:Nat} {m:MemD} {c:List CellT} (hmk:n.mems[k]?=some m) (hck:∀cs:List (List CellT),cs[k]?=some c→True) (hm:Small m) (hc:okC c) (hcl:c.length≤100000) (ls:List Bool) (cs:List (List CellT)) (hcs:cs[k]?=some c) (acc:List Bool) (hacc:acc.length≤1000000) :
  astrariumref13_State_L11 ((k:Int),((0:Int),nt n (ls,(cs,(acc,())))))=some ((k:Int),nt n (ls,(cs,(acc++memB m c (2^m.addr.toNat),())))):=by
 have hn:=hm.nat
 have hcn:=hm.cnt
 have hk:=Zhb hmk
 have hM:=hs.lens.2.2.2.2
 have hm':(n.mems.map memT)[k]?=some (memT m):=by rw [List.getElem?_map,hmk];rfl
 have g1:gt Za1 (n.mems.map memT) (k:Int)=memT m:=gt_at (σ:=Za1) hm'
 have g2:gt (.sl Za3) cs (k:Int)=c:=gt_at (σ:=.sl Za3) hcs
 have hin:inb (k:Int) (List.length (n.mems.map memT))=true:=Zar ⟨by omega,by rw [List.length_map];omega⟩
 have hin2:inb (k:Int) (List.length cs)=true:=Zar ⟨by omega,by have:k<List.length (α:=List CellT) cs:=Zhb hcs;omega⟩
 have a1:=hm.a1
 have a2:=hm.a2
 have hfit:∀j:Nat,j≤2^m.addr.toNat→Zdg ((j:Int),((gt Za1 (n.mems.map memT) (k:Int)).1,()))=some (decide (j<2^m.addr.toNat),()):=by
  intro j hj
  rw [g1]
  have:=Zvi (v:=(j:Int)) (w:=m.addr) ⟨by omega,by omega⟩ ⟨by omega,by omega⟩
  refine this.trans ?_
  have e:∀p q:Bool,p=q→(some (p,()):Option (TL Zgq))=some (q,()):=by rintro _ _ rfl;rfl
  refine e _ _ ?_
  unfold fitB2
  have hp:((2^m.addr.toNat:Nat):Int)=(2:Int)^m.addr.toNat:=by push_cast;rfl
  by_cases q:j<2^m.addr.toNat
  ·rw [decide_eq_true q,decide_eq_true]
   exact Int.ediv_eq_zero_of_lt (by omega) (by omega)
  ·obtain rfl:j=2^m.addr.toNat:=by omega
   rw [decide_eq_false q,hp,decide_eq_false]
   rw [Int.ediv_self (by omega)]
   omega
 unfold astrariumref13_State_L11;delta u13
 refine Zif (fun j:Nat=>((k:Int),((j:Int),nt n (ls,(cs,(acc++memB m c j,())))))) (2^m.addr.toNat) (by have h:acc++memB m c 0=acc:=List.append_nil acc;dsimp only;rw [h];try rfl) ?_ ?_ (Ze8 (by omega))
 ·intro j hj
  have e0:=hfit j (by omega)
  rw [decide_eq_true hj] at e0
  have hr:=rd_u64 hc (j:Int)
  have hw1:=hm.w1
  have hw2:=hm.w2
  have e1:Zakh (gt (.sl Za3) cs (k:Int),((j:Int),()))=some (rd c (j:Int),()):=by rw [g2];exact Zbaf c (j:Int) hcl
  have e2:Zajf (rd c (j:Int),((gt Za1 (n.mems.map memT) (k:Int)).2.1,()))=some (wordB m c j,()):=by
   rw [g1]
   have:=Zb9x (rd c (j:Int)).toNat m.word.toNat (by omega) (by omega)
   rw [show (((rd c (j:Int)).toNat:Nat):Int)=rd c (j:Int) by omega,show ((m.word.toNat:Nat):Int)=m.word by omega] at this
   exact this
  have hl:(memB m c j).length≤64:=by
   rw [memB_len]
   have:j*m.word.toNat≤2^m.addr.toNat*m.word.toNat:=Nat.mul_le_mul_right _ (by omega)
   omega
  have hwl:(wordB m c j).length≤64:=by unfold wordB;rw [Zare];omega
  have hroom:room 1 (List.length ((acc++memB m c j)++wordB m c j))=true:=by
   rw [List.length_append,List.length_append]
   exact Za3a (by omega) (by omega)
  have ht:(acc++memB m c j)++wordB m c j=acc++memB m c (j+1):=by rw [memB_succ,List.append_assoc]
  have e:∀(a b:List Bool) (p q:Int),a=b→p=q→(some (.inl ((k:Int),(p,nt n (ls,(cs,(a,())))))):Option (TL astrariumref13_State_lay11.σs⊕Out astrariumref13_State_outs11))=some (.inl ((k:Int),(q,nt n (ls,(cs,(b,())))))):=by rintro _ _ _ _ rfl rfl;rfl
  exact Zaj hin (Zba e0 (br_tt rfl (Zaj hin2 (Zaj hin (Zba e1 (Zba e2 (Zaj hroom (e _ _ _ _ ht (u64w (x:=(j:Int)+1) (by omega))))))))))
 ·have e0:=hfit (2^m.addr.toNat) (Nat.le_refl _)
  rw [decide_eq_false (by omega)] at e0
  exact Zaj hin (Zba e0 (br_ff rfl rfl))
theorem rs_8 (ls:List Bool) (cs:List (List CellT)) (hsm:∀m∈n.mems,Small m) (hok:okS cs) (hcs:cs.length=n.mems.length) (hcl:∀c∈cs,c.length≤100000) (hl:ls.length≤100000) :
  astrariumref13_State_L8 ((0:Int),nt n (ls,(cs,(ls,()))))=some (stB n ls cs n.mems.length,()):=by
 have hM:=hs.lens.2.2.2.2
 have hL:((n.mems.map memT).length:Int)=(n.mems.length:Int):=by rw [List.length_map]
 unfold astrariumref13_State_L8;delta u12
 refine Zif (fun k:Nat=>((k:Int),nt n (ls,(cs,(stB n ls cs k,()))))) n.mems.length (by have h:stB n ls cs 0=ls:=List.append_nil ls;dsimp only;rw [h];try rfl) ?_ ?_ (Ze8 (by omega))
 ·intro k hk
  obtain ⟨m,hm⟩:∃m,n.mems[k]?=some m:=⟨_,List.getElem?_eq_getElem hk⟩
  obtain ⟨c,hc⟩:∃c,cs[k]?=some c:=⟨_,List.getElem?_eq_getElem (by omega)⟩
  have sm:=hsm m (List.mem_of_getElem? hm)
  have hsl:=stB_len ls cs hsm k (by omega) (by omega)
  have e11:=rs_11 hs hm (fun _ _=>trivial) sm (hok c (List.mem_of_getElem? hc)) (hcl c (List.mem_of_getElem? hc)) ls cs hc (stB n ls cs k) (by omega)
  have e:∀(a b:List Bool) (p q:Int),a=b→p=q→(some (.inl (p,nt n (ls,(cs,(a,()))))):Option (TL astrariumref13_State_lay8.σs⊕Out astrariumref13_State_outs8))=some (.inl (q,nt n (ls,(cs,(b,()))))):=by rintro _ _ _ _ rfl rfl;rfl
  exact br_tt (dec_t (show (k:Int)<((n.mems.map memT).length:Int) by omega)) (Zba e11 (e _ _ _ _ (stB_succ n ls cs hm hc).symm (i64n (show (k:Int)+1=((k+1:Nat):Int) by omega) (by omega))))
 ·exact br_ff (dec_f (show ¬(n.mems.length:Int)<((n.mems.map memT).length:Int) by omega)) rfl
end
def stR (n:NetD) (ls:List Bool) (cs:List (List CellT)):Int×List Bool:=
 if fitsF (netT n) (ls,(cs,()))≠0 then (fitsF (netT n) (ls,(cs,())),[]) else if 64<cellsN n then (17,[]) else (0,stB n ls cs n.mems.length)
section
variable {n:NetD} (ft:Fit n)
include ft
end
section
variable {n:NetD}
theorem fits0 {ls:List Bool} {cs:List (List CellT)} (h:fitsF (netT n) (ls,(cs,()))=0):Pl.Zkz n=0∧fitsS (netT n) (ls,(cs,()))=true:=by
 unfold fitsF at h
 rw [Zww] at h
 by_cases q:Pl.Zkz n=0
 ·rw [if_neg (fun w=>w q)] at h
  refine ⟨q,?_⟩
  cases hf:fitsS (netT n) (ls,(cs,())) with
  | true=>rfl
  | false=>rw [hf] at h;simp at h
 ·rw [if_pos q] at h;exact absurd h q
end
section
variable {n:NetD} (ft:Fit n)
include ft
end
section
variable {n:NetD}
theorem snd_c (h:Pl.Zkz n=0):∃V,Snd n V∧cellsN n=cutT (sumP n.mems):=by
 have hc:=h
 unfold Pl.Zkz at hc
 have h0:Zj3 n=0:=by
  by_cases q:Zj3 n=0
  ·exact q
  ·rw [if_pos q] at hc;exact absurd hc q
 obtain ⟨V,hs⟩:=Za74 h0
 exact ⟨V,hs,by unfold cellsN;rw [if_neg (fun q=>q h)]⟩
end
section
variable {n:NetD} (ft:Fit n)
include ft
theorem state_is13 (ls:List Bool) (cs:List (List CellT)) (hok:okS cs) (hl:ls.length≤100000) (hcl:∀c∈cs,c.length≤100000) :
  expand_State_FF (nt n (ls,(cs,())))=some ((stR n ls cs).1,((stR n ls cs).2,())) ∧
  astrariumref13_State_FF (netT n,((ls,(cs,())),()))=some (((stR n ls cs).2,([],())),((stR n ls cs).1,())):=by
 have ft':Fit (netD (netT n)):=by rw [Zww];exact ft
 have hT:List.length (netT n).2.2.2.2.2.2.1≤100000:=by show (n.mems.map memT).length≤_;rw [List.length_map];have:=ft.mems.1;omega
 have e1:=Zy6 (netT n) (ls,(cs,())) ft' hT
 have e2:=Zya (netT n) (ls,(cs,())) ft' hT hok
 have c1:=cells_is ft
 have c2:=cells13_is ft
 unfold stR
 by_cases h0:fitsF (netT n) (ls,(cs,()))=0
 ·rw [if_neg (fun q=>q h0)]
  obtain ⟨hc,hf⟩:=fits0 h0
  obtain ⟨V,hs,hcl2⟩:=snd_c hc
  by_cases h1:64<cellsN n
  ·rw [if_pos h1]
   exact ⟨Zba e1 (br_ff (not_f (dec_t h0)) (Zba c1 (br_tt (dec_t h1) rfl))),Zba e2 (br_ff (not_f (dec_t h0)) (Zba c2 (br_tt (dec_t h1) rfl)))⟩
  ·rw [if_neg h1]
   have hsm:=small_of hs (by rw [←hcl2];omega)
   have e8:=st_8 hs ls cs hsm hok hf hl
   have hcs:cs.length=n.mems.length:=by
    unfold fitsS at hf
    simp only [Bool.and_eq_true,decide_eq_true_eq] at hf
    exact hf.1.2.trans (List.length_map ..)
   have r8:=rs_8 hs ls cs hsm hok hcs hcl hl
   have hcb:Zaj8 (ls,())=some (ls,()):=Zaj (roomN' ls hl) rfl
   refine ⟨Zba e1 (br_ff (not_f (dec_t h0)) (Zba c1 (br_ff (dec_f h1) (Zba hcb (Zba e8 rfl))))),Zba e2 (br_ff (not_f (dec_t h0)) (Zba c2 (br_ff (dec_f h1) (Zaj (roomN' ls hl) (Zba r8 rfl)))))⟩
 ·rw [if_pos h0]
  exact ⟨Zba e1 (br_tt (not_t (dec_f h0)) rfl),Zba e2 (br_tt (not_t (dec_f h0)) rfl)⟩
end
end Go.Proofs.Ytnocaehijdmkkaa.V
end
