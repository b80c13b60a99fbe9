import Derived.Test.YtkcpdpplobhpaaaGreatKRe
import Derived.Test.YtkcpdpplobhpaaaGreatKRf
set_option linter.unusedVariables false
set_option linter.unusedSimpArgs false
set_option linter.unnecessarySimpa false
section
namespace Go.Proofs.YtkcpdpplobhpaaaGreat.V
open Go Go.RowKit
set_option maxRecDepth 1000000
abbrev __gen_maker__data_1_σs:List Sh:=[(.int .i64)]
abbrev __gen_maker__data_1_τs:List Sh:=[]
abbrev NW:=TL __gen_maker__data_1_σs->Option (TL __gen_maker__data_1_τs)
abbrev uF:=Kd 176 __gen_maker__data_1_σs __gen_maker__data_1_τs
def aaW(a0:Int):Option (TL __gen_maker__data_1_τs):=some ()
def aaX  :uF:=⟨u1 aaW,pD Tryz.func176 2 k0 e0 1 (sS l0) fun d=>by kernel_rfl⟩
def NV:uF:=aaX
abbrev sN:List LA:=[.int .i64,.hd 1 (.int .i64),.hd 2 aa,.hd 3 (.int .i64),.hd 4 (.int .i64),.hd 5 (.int .i64),.hd 6 ab,.hd 7 aa]
abbrev zv:List (Nat×LO):=[(0,.cells sN 161),(1,.arr (.int .i64) 3),(2,.arr aa 95),(3,.arr (.int .i64) 3),(4,.arr (.int .i64) 3),(5,.arr (.int .i64) 3),(6,.arr ab 116),(7,.arr aa 150)]
abbrev JN:List (Nat×LO):=[(0,.cells [.int .i64,.hd 1 (.int .i64),.hd 2 aa,.hd 3 (.int .i64),.hd 4 (.int .i64),.hd 5 (.int .i64),.hd 6 ab,.hd 8 aa] 161),(1,.arr (.int .i64) 3),(2,.arr aa 95),(3,.arr (.int .i64) 3),(4,.arr (.int .i64) 3),(5,.arr (.int .i64) 3),(6,.arr ab 116),(8,.arr aa 150)]
abbrev zw:List (Nat×LO):=[(0,.cells sN 161),(1,.arr (.int .i64) 3),(2,.arr aa 95),(3,.arr (.int .i64) 3),(4,.arr (.int .i64) 3),(5,.arr (.int .i64) 3),(6,.arr ab 116),(7,.arr aa 150),(8,.arr (.int .i64) 3)]
abbrev JO:List (Nat×LO):=[(0,.cells [.int .i64,.hd 1 (.int .i64),.hd 2 aa,.hd 3 (.int .i64),.hd 4 (.int .i64),.hd 5 (.int .i64),.hd 6 ab,.hd 11 aa] 161),(1,.arr (.int .i64) 3),(2,.arr aa 95),(3,.arr (.int .i64) 3),(4,.arr (.int .i64) 3),(5,.arr (.int .i64) 3),(6,.arr ab 116),(8,.cells [.ptr 0 0] 159),(9,.cells [.int .i64] 3),(10,.cells [.int .i64] 3),(11,.arr aa 150),(12,.arr (.int .i64) 3)]
abbrev JP:List (Nat×LO):=[(0,.cells [.int .i64,.hd 1 (.int .i64),.hd 10 aa,.hd 3 (.int .i64),.hd 4 (.int .i64),.hd 5 (.int .i64),.hd 6 ab,.hd 7 aa] 161),(1,.arr (.int .i64) 3),(3,.arr (.int .i64) 3),(4,.arr (.int .i64) 3),(5,.arr (.int .i64) 3),(6,.arr ab 116),(7,.arr aa 150),(8,.cells [.ptr 0 0] 159),(9,.cells [.int .i64] 3),(10,.arr aa 95),(11,.arr (.int .i64) 3)]
abbrev JQ:List (Nat×LO):=[(0,.cells [.int .i64,.hd 9 (.int .i64),.hd 2 aa,.hd 3 (.int .i64),.hd 4 (.int .i64),.hd 5 (.int .i64),.hd 6 ab,.hd 7 aa] 161),(2,.arr aa 95),(3,.arr (.int .i64) 3),(4,.arr (.int .i64) 3),(5,.arr (.int .i64) 3),(6,.arr ab 116),(7,.arr aa 150),(8,.cells [.ptr 0 0] 159),(9,.arr (.int .i64) 3),(10,.arr (.int .i64) 3)]
abbrev JR:List (Nat×LO):=[(0,.cells [.int .i64,.hd 1 (.int .i64),.hd 2 aa,.hd 3 (.int .i64),.hd 4 (.int .i64),.hd 5 (.int .i64),.hd 6 ab,.hd 9 aa] 161),(1,.arr (.int .i64) 3),(2,.arr aa 95),(3,.arr (.int .i64) 3),(4,.arr (.int .i64) 3),(5,.arr (.int .i64) 3),(6,.arr ab 116),(8,.arr (.int .i64) 3),(9,.arr aa 150)]
abbrev XX:List (Nat×LO):=[(0,.cells [.int .i64,.nils,.nils,.nils,.nils,.nils,.nils,.nils] 27),(1,.cells [.int .i64,.hd 2 (.int .i64),.hd 3 aa,.hd 4 (.int .i64),.hd 5 (.int .i64),.hd 6 (.int .i64),.hd 7 ab,.hd 8 aa] 161),(2,.arr (.int .i64) 3),(3,.arr aa 95),(4,.arr (.int .i64) 3),(5,.arr (.int .i64) 3),(6,.arr (.int .i64) 3),(7,.arr ab 116),(8,.arr aa 150),(9,.arr (.int .i64) 3)]
abbrev JS:ae:={ T:=[(0,.ptr 0 0),(1,.int .i64),(2,.int .i64)],h:=zv,nx:=8 }
abbrev wc:ae:={ T:=[(0,.int .i64)],h:=JN,nx:=9 }
abbrev Nu:ae:={ T:=[(0,.ptr 0 0),(1,.int .i64),(2,.func 175 [] [.ptr 8 0])],h:=[(0,.cells sN 161),(1,.arr (.int .i64) 3),(2,.arr aa 95),(3,.arr (.int .i64) 3),(4,.arr (.int .i64) 3),(5,.arr (.int .i64) 3),(6,.arr ab 116),(7,.arr aa 150),(8,.cells [.ptr 0 0] 159)],nx:=9 }
abbrev B9:List (Ev.Ex×ae):=[(.ret,{ T:=[(0,.hd 10 (.int .i64))],h:=JQ,nx:=11 })]
abbrev N1:=TL Nu.σs->Option (Out B9)
abbrev uI:=Kb 171 3 Nu 1 B9
abbrev B8:ae:={ T:=[(0,.ptr 0 0),(2,.func 175 [] [.ptr 8 0]),(6,.hd 10 (.int .i64)),(7,.int .i64),(8,.int .i64)],h:=JQ,nx:=11 }
abbrev BL:List (Ev.Ex×ae):=[((.exit 0),{ T:=[(6,.hd 10 (.int .i64))],h:=JQ,nx:=11 })]
abbrev aaJ:=TL B8.σs->Option (Out BL)
abbrev Cp:=Ld 9 37 (aT [0] (aG Tryz.f171)) B8 BL
def aaG(F0:jY)(t7 t8 b0_0:Int)(b2:List (Sh.T aa))(b3 b4 b5:List Int)(b6:List (Sh.T ab))(b7:List (Sh.T aa))(b9 b10:List Int):Option (TL B8.σs⊕Out BL):=
 br (iL t8 t7)
 (
  ah (room 8 (List.length (ap b9 ((IntKind.wrap .i64 (b0_0+(1:Int)))::[]))))<|
  ai (F0 ((IntKind.wrap .i64 (b0_0+(1:Int))),(false,()))) fun x0=>
  ah (room 8 (List.length (ap b10 (x0.1::[]))))<|
  some (.inl (t7,((IntKind.wrap .i64 (t8+(1:Int))),((IntKind.wrap .i64 (b0_0+(1:Int))),(b2,(b3,(b4,(b5,(b6,(b7,((ap b9 ((IntKind.wrap .i64 (b0_0+(1:Int)))::[])),((ap b10 (x0.1::[])),())))))))))))))
 (
  some (.inr (b0_0,(b2,(b3,(b4,(b5,(b6,(b7,(b9,(b10,())))))))))))
def aaH(c0:jo) :Cp:=aU (eH (aaG c0.F)) (pL (kD c0 k0) (eC Tryz.func175 (by kernel_rfl) e0) 5 l0 fun d=>by kernel_rfl)
def aaI:Cp:=aaH jX
def aa2(F0:jY)(L2:aaJ)(t1 b0_0:Int)(b1:List Int)(b2:List (Sh.T aa))(b3 b4 b5:List Int)(b6:List (Sh.T ab))(b7:List (Sh.T aa)):Option (Out B9):=
 ai (L2 (t1,((0:Int),(b0_0,(b2,(b3,(b4,(b5,(b6,(b7,(b1,([],())))))))))))) fun x0=>
 some x0
def aa3(c0:jo)(M2:Cp):uI:=⟨u9 (aa2 c0.F M2.L),pB Tryz.func171 37 (kD c0 k0) (eC Tryz.func175 (by kernel_rfl) e0) 5 (sS (sC M2 l0)) fun d=>by kernel_rfl⟩
def NZ:uI:=aa3 jX aaI
abbrev Nv:ae:={ T:=[(0,.ptr 0 0),(1,.int .i64),(2,.func 172 [] [.ptr 8 0,.ptr 9 0])],h:=[(0,.cells sN 161),(1,.arr (.int .i64) 3),(2,.arr aa 95),(3,.arr (.int .i64) 3),(4,.arr (.int .i64) 3),(5,.arr (.int .i64) 3),(6,.arr ab 116),(7,.arr aa 150),(8,.cells [.ptr 0 0] 159),(9,.cells [.int .i64] 3)],nx:=10 }
abbrev Ca:List (Ev.Ex×ae):=[(.ret,{ T:=[(0,.hd 11 (.int .i64))],h:=JP,nx:=12 })]
abbrev CI:=TL Nv.σs->Option (Out Ca)
abbrev uJ:=Kb 171 3 Nv 1 Ca
abbrev uw:ae:={ T:=[(0,.ptr 0 0),(2,.func 172 [] [.ptr 8 0,.ptr 9 0]),(6,.hd 11 (.int .i64)),(7,.int .i64),(8,.int .i64)],h:=JP,nx:=12 }
abbrev uq:List (Ev.Ex×ae):=[((.exit 0),{ T:=[(6,.hd 11 (.int .i64))],h:=JP,nx:=12 })]
abbrev NL:=TL uw.σs->Option (Out uq)
abbrev Cq:=Ld 10 37 (aT [0] (aG Tryz.f171)) uw uq
def NJ(F0:jY)(t7 t8 b0_0:Int)(b1 b3 b4 b5:List Int)(b6:List (Sh.T ab))(b7:List (Sh.T aa))(b9_0:Int)(b10:List (Sh.T aa))(b11:List Int):Option (TL uw.σs⊕Out uq):=
 br (iL t8 t7)
 (
  ai (F0 ((IntKind.wrap .i64 (b0_0+(1:Int))),(false,()))) fun x0=>
  ah (room 24 (List.length (ap b10 (((IntKind.wrap .i64 (b0_0+(1:Int))),(x0.1,(b9_0,())))::[]))))<|
  ai (F0 ((IntKind.wrap .i64 (b0_0+(1:Int))),(false,()))) fun x1=>
  ah (room 8 (List.length (ap b11 (x1.1::[]))))<|
  some (.inl (t7,((IntKind.wrap .i64 (t8+(1:Int))),((IntKind.wrap .i64 (b0_0+(1:Int))),(b1,(b3,(b4,(b5,(b6,(b7,(b9_0,((ap b10 (((IntKind.wrap .i64 (b0_0+(1:Int))),(x0.1,(b9_0,())))::[])),((ap b11 (x1.1::[])),()))))))))))))))
 (
  some (.inr (b0_0,(b1,(b3,(b4,(b5,(b6,(b7,(b9_0,(b10,(b11,()))))))))))))
def aaL(c0:jo) :Cq:=aU (eI (NJ c0.F)) (pL (kD c0 k0) (eC Tryz.func172 (by kernel_rfl) e0) 5 l0 fun d=>by kernel_rfl)
def aaM:Cq:=aaL jX
def NK:NL:=aE (eI (NJ qC)) NN
def aa4(F0:jY)(L2:NL)(t1 b0_0:Int)(b1:List Int)(b2:List (Sh.T aa))(b3 b4 b5:List Int)(b6:List (Sh.T ab))(b7:List (Sh.T aa))(b9_0:Int):Option (Out Ca):=
 ai (L2 (t1,((0:Int),(b0_0,(b1,(b3,(b4,(b5,(b6,(b7,(b9_0,(b2,([],()))))))))))))) fun x0=>
 some x0
def aa5(c0:jo)(M2:Cq):uJ:=⟨gG (aa4 c0.F M2.L),pB Tryz.func171 37 (kD c0 k0) (eC Tryz.func172 (by kernel_rfl) e0) 5 (sS (sC M2 l0)) fun d=>by kernel_rfl⟩
def CH:uJ:=aa5 jX aaM
def aaK:CI:=CH.F
abbrev Nt:ae:={ T:=[(0,.ptr 0 0),(1,.int .i64),(2,.func 176 [] [])],h:=zv,nx:=8 }
abbrev B7:List (Ev.Ex×ae):=[(.ret,{ T:=[(0,.hd 8 (.int .i64))],h:=zw,nx:=9 })]
abbrev NY:=TL Nt.σs->Option (Out B7)
abbrev uH:=Kb 171 3 Nt 1 B7
abbrev B6:ae:={ T:=[(0,.ptr 0 0),(2,.func 176 [] []),(6,.hd 8 (.int .i64)),(7,.int .i64),(8,.int .i64)],h:=zw,nx:=9 }
abbrev BK:List (Ev.Ex×ae):=[((.exit 0),{ T:=[(6,.hd 8 (.int .i64))],h:=zw,nx:=9 })]
abbrev aaF:=TL B6.σs->Option (Out BK)
abbrev Co:=Ld 8 37 (aT [0] (aG Tryz.f171)) B6 BK
def aaC(F0:NW)(F1:jY)(t7 t8 b0_0:Int)(b1:List Int)(b2:List (Sh.T aa))(b3 b4 b5:List Int)(b6:List (Sh.T ab))(b7:List (Sh.T aa))(b8:List Int):Option (TL B6.σs⊕Out BK):=
 br (iL t8 t7)
 (
  ai (F0 ((IntKind.wrap .i64 (b0_0+(1:Int))),())) fun x0=>
  ai (F1 ((IntKind.wrap .i64 (b0_0+(1:Int))),(false,()))) fun x1=>
  ah (room 8 (List.length (ap b8 (x1.1::[]))))<|
  some (.inl (t7,((IntKind.wrap .i64 (t8+(1:Int))),((IntKind.wrap .i64 (b0_0+(1:Int))),(b1,(b2,(b3,(b4,(b5,(b6,(b7,((ap b8 (x1.1::[])),())))))))))))))
 (
  some (.inr (b0_0,(b1,(b2,(b3,(b4,(b5,(b6,(b7,(b8,())))))))))))
def aaD(c0:uF)(c1:jo) :Co:=aU (eH (aaC c0.F c1.F)) (pL (kD c0 (kD c1 k0)) e0 1 l0 fun d=>by kernel_rfl)
def aaE:Co:=aaD NV jX
def aa0(F0:NW)(F1:jY)(L2:aaF)(t1 b0_0:Int)(b1:List Int)(b2:List (Sh.T aa))(b3 b4 b5:List Int)(b6:List (Sh.T ab))(b7:List (Sh.T aa)):Option (Out B7):=
 ai (L2 (t1,((0:Int),(b0_0,(b1,(b2,(b3,(b4,(b5,(b6,(b7,([],())))))))))))) fun x0=>
 some x0
def aa1(c0:uF)(c1:jo)(M2:Co):uH:=⟨u9 (aa0 c0.F c1.F M2.L),pB Tryz.func171 37 (kD c0 (kD c1 k0)) e0 1 (sS (sC M2 l0)) fun d=>by kernel_rfl⟩
def NX:uH:=aa1 NV jX aaE
abbrev Ns:ae:={ T:=[(0,.ptr 0 0),(1,.int .i64),(2,.func 177 [] [.ptr 8 0,.ptr 9 0,.ptr 10 0])],h:=[(0,.cells sN 161),(1,.arr (.int .i64) 3),(2,.arr aa 95),(3,.arr (.int .i64) 3),(4,.arr (.int .i64) 3),(5,.arr (.int .i64) 3),(6,.arr ab 116),(7,.arr aa 150),(8,.cells [.ptr 0 0] 159),(9,.cells [.int .i64] 3),(10,.cells [.int .i64] 3)],nx:=11 }
abbrev B5:List (Ev.Ex×ae):=[(.ret,{ T:=[(0,.hd 12 (.int .i64))],h:=JO,nx:=13 })]
abbrev CG:=TL Ns.σs->Option (Out B5)
abbrev uG:=Kb 171 3 Ns 1 B5
abbrev uv:ae:={ T:=[(0,.ptr 0 0),(2,.func 177 [] [.ptr 8 0,.ptr 9 0,.ptr 10 0]),(6,.hd 12 (.int .i64)),(7,.int .i64),(8,.int .i64)],h:=JO,nx:=13 }
abbrev uo:List (Ev.Ex×ae):=[((.exit 0),{ T:=[(6,.hd 12 (.int .i64))],h:=JO,nx:=13 })]
abbrev NI:=TL uv.σs->Option (Out uo)
abbrev Cn:=Ld 11 37 (aT [0] (aG Tryz.f171)) uv uo
def NG(F0:jY)(t7 t8 b0_0:Int)(b1:List Int)(b2:List (Sh.T aa))(b3 b4 b5:List Int)(b6:List (Sh.T ab))(b9_0 b10_0:Int)(b11:List (Sh.T aa))(b12:List Int):Option (TL uv.σs⊕Out uo):=
 br (iL t8 t7)
 (
  ah (room 24 (List.length (ap b11 (((IntKind.wrap .i64 (b0_0+(1:Int))),(b9_0,(b10_0,())))::[]))))<|
  ai (F0 ((IntKind.wrap .i64 (b0_0+(1:Int))),(false,()))) fun x0=>
  ah (room 8 (List.length (ap b12 (x0.1::[]))))<|
  some (.inl (t7,((IntKind.wrap .i64 (t8+(1:Int))),((IntKind.wrap .i64 (b0_0+(1:Int))),(b1,(b2,(b3,(b4,(b5,(b6,(b9_0,(b10_0,((ap b11 (((IntKind.wrap .i64 (b0_0+(1:Int))),(b9_0,(b10_0,())))::[])),((ap b12 (x0.1::[])),())))))))))))))))
 (
  some (.inr (b0_0,(b1,(b2,(b3,(b4,(b5,(b6,(b9_0,(b10_0,(b11,(b12,())))))))))))))
def aaA(c0:jo) :Cn:=aU (fC (NG c0.F)) (pL (kD c0 k0) (eC Tryz.func177 (by kernel_rfl) e0) 5 l0 fun d=>by kernel_rfl)
def aaB:Cn:=aaA jX
def NH:NI:=aE (fC (NG qC)) NN
def aaY(F0:jY)(L2:NI)(t1 b0_0:Int)(b1:List Int)(b2:List (Sh.T aa))(b3 b4 b5:List Int)(b6:List (Sh.T ab))(b7:List (Sh.T aa))(b9_0 b10_0:Int):Option (Out B5):=
 ai (L2 (t1,((0:Int),(b0_0,(b1,(b2,(b3,(b4,(b5,(b6,(b9_0,(b10_0,(b7,([],())))))))))))))) fun x0=>
 some x0
def aaZ(c0:jo)(M2:Cn):uG:=⟨eH (aaY c0.F M2.L),pB Tryz.func171 37 (kD c0 k0) (eC Tryz.func177 (by kernel_rfl) e0) 5 (sS (sC M2 l0)) fun d=>by kernel_rfl⟩
def CF:uG:=aaZ jX aaB
def aaz:CG:=CF.F
abbrev Na:ae:=JS
abbrev BM:List (Ev.Ex×ae):=[(.ret,{ T:=[(0,.hd 9 (.int .i64))],h:=[(0,.cells [.int .i64,.hd 1 (.int .i64),.hd 8 aa,.hd 3 (.int .i64),.hd 4 (.int .i64),.hd 5 (.int .i64),.hd 6 ab,.hd 7 aa] 161),(1,.arr (.int .i64) 3),(3,.arr (.int .i64) 3),(4,.arr (.int .i64) 3),(5,.arr (.int .i64) 3),(6,.arr ab 116),(7,.arr aa 150),(8,.arr aa 95),(9,.arr (.int .i64) 3)],nx:=10 })]
abbrev NO:=TL Na.σs->Option (Out BM)
abbrev Cr:=Kb 89 3 Na 1 BM
def aaN(F0:jY)(F1:CG)(F2:NY)(F3:CI)(F4:N1)(t1 t2 b0_0:Int)(b1:List Int)(b2:List (Sh.T aa))(b3 b4 b5:List Int)(b6:List (Sh.T ab))(b7:List (Sh.T aa)):Option (Out BM):=
 ai (F3 (t1,(b0_0,(b1,(b2,(b3,(b4,(b5,(b6,(b7,(t2,()))))))))))) fun x0=>
 some (x0.1,(x0.2.1,(x0.2.2.1,(x0.2.2.2.1,(x0.2.2.2.2.1,(x0.2.2.2.2.2.1,(x0.2.2.2.2.2.2.1,x0.2.2.2.2.2.2.2.2)))))))
def aaO(c0:jo)(c1:uG)(c2:uH)(c3:uJ)(c4:uI) :Cr:=⟨gG (aaN c0.F c1.F c2.F c3.F c4.F),pB Tryz.func89 11 (kD c0 (kB c1 (kB c2 (kB c3 (kB c4 k0))))) (eC Tryz.func172 (by kernel_rfl) e0) 5 (sS l0) fun d=>by kernel_rfl⟩
def NM:Cr:=aaO jX CF NX CH NZ
def aan:NO:=NM.F
abbrev N7:ae:=JS
abbrev CA:List (Ev.Ex×ae):=[(.ret,wc)]
abbrev mQ:=TL N7.σs->Option (Out CA)
abbrev lI:=Kb 102 3 N7 1 CA
def abf(F0:CG)(F1:NY)(F2:CI)(F3:N1)(t1 t2 b0_0:Int)(b1:List Int)(b2:List (Sh.T aa))(b3 b4 b5:List Int)(b6:List (Sh.T ab))(b7:List (Sh.T aa)):Option (Out CA):=
 ai (F0 ((1:Int),(b0_0,(b1,(b2,(b3,(b4,(b5,(b6,(b7,(t1,(t2,())))))))))))) fun x0=>
 ah (ar (0:Int) (List.length x0.2.2.2.2.2.2.2.2.2.2.1))<|
 some ((gt (.int .i64) x0.2.2.2.2.2.2.2.2.2.2.1 (0:Int)),(x0.1,(x0.2.1,(x0.2.2.1,(x0.2.2.2.1,(x0.2.2.2.2.1,(x0.2.2.2.2.2.1,(x0.2.2.2.2.2.2.1,(x0.2.2.2.2.2.2.2.2.2.1,())))))))))
def abg(c0:uG)(c1:uH)(c2:uJ)(c3:uI) :lI:=⟨gG (abf c0.F c1.F c2.F c3.F),pB Tryz.func102 12 (kB c0 (kB c1 (kB c2 (kB c3 k0)))) (eC Tryz.func177 (by kernel_rfl) e0) 5 (sS l0) fun d=>by kernel_rfl⟩
def mP:lI:=abg CF NX CH NZ
def kJ:mQ:=mP.F
abbrev Ob:ae:=JS
abbrev CK:List (Ev.Ex×ae):=[(.ret,wc)]
abbrev Oj:=TL Ob.σs->Option (Out CK)
abbrev CT:=Kb 156 3 Ob 1 CK
def CU(F0:qG)(F1:mQ)(t1 t2 b0_0:Int)(b1:List Int)(b2:List (Sh.T aa))(b3 b4 b5:List Int)(b6:List (Sh.T ab))(b7:List (Sh.T aa)):Option (Out CK):=
 ai (F0 (t1,())) fun x0=>
 ai (F0 (t2,())) fun x1=>
 ai (F1 (x0.1,(x1.1,(b0_0,(b1,(b2,(b3,(b4,(b5,(b6,(b7,()))))))))))) fun x2=>
 ai (F0 (x2.1,())) fun x3=>
 some (x3.1,x2.2)
def abi(c0:od)(c1:lI) :CT:=⟨gG (CU c0.F c1.F),pB Tryz.func156 14 (kD c0 (kB c1 k0)) e0 1 (sS l0) fun d=>by kernel_rfl⟩
def Oi:CT:=abi qF mP
def Oe:Oj:=Oi.F
abbrev N5:ae:={ T:=[(0,.ptr 0 0),(1,.fz (.int .i64))],h:=zv,nx:=8 }
abbrev Cz:List (Ev.Ex×ae):=[(.ret,wc)]
abbrev Od:=TL N5.σs->Option (Out Cz)
abbrev CQ:=Kb 92 2 N5 1 Cz
abbrev Cy:ae:={ T:=[(5,.int .i64),(6,.func 102 [.ptr 0 0] []),(11,.fz (.int .i64)),(12,.int .i64),(13,.int .i64)],h:=JN,nx:=9 }
abbrev Ck:List (Ev.Ex×ae):=[((.exit 0),{ T:=[(5,.int .i64)],h:=JN,nx:=9 })]
abbrev Oa:=TL Cy.σs->Option (Out Ck)
abbrev CN:=Ld 8 23 (aT [0] (aG Tryz.f92)) Cy Ck
def N8(F0:mQ)(t5:Int)(t11:List Int)(t12 t13 b0_0:Int)(b1:List Int)(b2:List (Sh.T aa))(b3 b4 b5:List Int)(b6:List (Sh.T ab))(b8:List (Sh.T aa)):Option (TL Cy.σs⊕Out Ck):=
 br (iL t13 t12)
 (
  ah (ar t13 (List.length t11))<|
  ai (F0 (t5,((gt (.int .i64) t11 t13),(b0_0,(b1,(b2,(b3,(b4,(b5,(b6,(b8,()))))))))))) fun x0=>
  some (.inl (x0.1,(t11,(t12,((IntKind.wrap .i64 (t13+(1:Int))),x0.2))))))
 (
  some (.inr (t5,(b0_0,(b1,(b2,(b3,(b4,(b5,(b6,(b8,())))))))))))
def abb(c0:lI) :CN:=aU (eI (N8 c0.F)) (pL (kB c0 k0) e0 1 l0 fun d=>by kernel_rfl)
def abc:CN:=abb mP
def N9:Oa:=aE (eI (N8 kJ)) NN
def abd(F0:mQ)(L4:Oa)(t1:List Int)(b0_0:Int)(b1:List Int)(b2:List (Sh.T aa))(b3 b4 b5:List Int)(b6:List (Sh.T ab))(b7:List (Sh.T aa)):Option (Out Cz):=
 ai (L4 ((1:Int),(t1,((Int.ofNat (List.length t1)),((0:Int),(b0_0,(b1,(b2,(b3,(b4,(b5,(b6,(b7,()))))))))))))) fun x0=>
 some x0
def abe(c0:lI)(M4:CN):CQ:=⟨u9 (abd c0.F M4.L),pB Tryz.func92 23 (kB c0 k0) e0 1 (sS (sC M4 l0)) fun d=>by kernel_rfl⟩
def Oc:CQ:=abe mP abc
def aba:Od:=Oc.F
abbrev Nq:ae:={ T:=[(0,.ptr 0 0),(1,.int .i64),(2,.int .i64),(3,.int .i64)],h:=zv,nx:=8 }
abbrev B2:List (Ev.Ex×ae):=[(.ret,wc)]
abbrev CD:=TL Nq.σs->Option (Out B2)
abbrev uE:=Kb 157 4 Nq 1 B2
def CB(F0:qG)(F1:Oj)(F2:mQ)(t1 t2 t3 b0_0:Int)(b1:List Int)(b2:List (Sh.T aa))(b3 b4 b5:List Int)(b6:List (Sh.T ab))(b7:List (Sh.T aa)):Option (Out B2):=
 ai (F2 (t1,(t2,(b0_0,(b1,(b2,(b3,(b4,(b5,(b6,(b7,()))))))))))) fun x0=>
 ai (F0 (t1,())) fun x1=>
 ai (F2 (x1.1,(t3,x0.2))) fun x2=>
 ai (F1 (x0.1,x2)) fun x3=>
 some x3
def aaT(c0:od)(c1:CT)(c2:lI) :uE:=⟨eH (CB c0.F c1.F c2.F),pB Tryz.func157 24 (kD c0 (kB c1 (kB c2 k0))) e0 1 (sS l0) fun d=>by kernel_rfl⟩
def CC:uE:=aaT qF Oi mP
def Cl:CD:=CC.F
abbrev Nr:ae:={ T:=[(0,.ptr 0 0),(1,.hd 8 (.int .i64)),(2,.int .i64),(3,.int .i64)],h:=zw,nx:=9 }
abbrev B4:List (Ev.Ex×ae):=[(.ret,{ T:=[],h:=JR,nx:=10 })]
abbrev NU:=TL Nr.σs->Option (Out B4)
abbrev CE:=Kb 90 4 Nr 0 B4
abbrev B3:ae:={ T:=[(0,.ptr 0 0),(2,.int .i64),(3,.int .i64),(10,.hd 8 (.int .i64)),(11,.int .i64),(12,.int .i64)],h:=JR,nx:=10 }
abbrev BJ:List (Ev.Ex×ae):=[((.exit 0),{ T:=[],h:=JR,nx:=10 })]
abbrev NF:=TL B3.σs->Option (Out BJ)
abbrev Cm:=Ld 9 38 (aT [0] (aG Tryz.f90)) B3 BJ
def NC(F0:qG)(F1:mQ)(F2:CD)(t2 t3 t11 t12 b0_0:Int)(b1:List Int)(b2:List (Sh.T aa))(b3 b4 b5:List Int)(b6:List (Sh.T ab))(b8:List Int)(b9:List (Sh.T aa)):Option (TL B3.σs⊕Out BJ):=
 br (iL t12 t11)
 (
  ah (ar t12 (List.length b8))<|
  ai (F0 (t3,())) fun x0=>
  ai (F2 ((gt (.int .i64) b8 t12),(x0.1,(t3,(b0_0,(b1,(b2,(b3,(b4,(b5,(b6,(b9,())))))))))))) fun x1=>
  ah (ar (IntKind.wrap .i64 (t2+t12)) (List.length x1.2.2.2.1))<|
  ah (iQ t2 t2)<|
  ah (iQ t12 t12)<|
  ah (iQ (IntKind.wrap .i64 (t2+t12)) (IntKind.wrap .i64 (t2+t12)))<|
  ai (F1 ((gt (.int .i64) b8 t12),(t3,(x1.2.1,(x1.2.2.1,((List.set x1.2.2.2.1 (Int.toNat (IntKind.wrap .i64 (t2+t12))) ((gt aa x1.2.2.2.1 (IntKind.wrap .i64 (t2+t12))).1,(x1.1,((gt aa x1.2.2.2.1 (IntKind.wrap .i64 (t2+t12))).2.2.1,())))),x1.2.2.2.2)))))) fun x2=>
  some (.inl (t2,(x2.1,(t11,((IntKind.wrap .i64 (t12+(1:Int))),(x2.2.1,(x2.2.2.1,(x2.2.2.2.1,(x2.2.2.2.2.1,(x2.2.2.2.2.2.1,(x2.2.2.2.2.2.2.1,(x2.2.2.2.2.2.2.2.1,(b8,(x2.2.2.2.2.2.2.2.2.1,())))))))))))))))
 (
  some (.inr (b0_0,(b1,(b2,(b3,(b4,(b5,(b6,(b8,(b9,())))))))))))
def aax(c0:od)(c1:lI)(c2:uE) :Cm:=aU (fC (NC c0.F c1.F c2.F)) (pL (kD c0 (kB c1 (kB c2 k0))) e0 1 l0 fun d=>by kernel_rfl)
def aay:Cm:=aax qF mP CC
def ND:NF:=aE (fC (NC vl kJ Cl)) NN
def aaU(F0:qG)(F1:mQ)(F2:CD)(L1:NF)(t2 t3 b0_0:Int)(b1:List Int)(b2:List (Sh.T aa))(b3 b4 b5:List Int)(b6:List (Sh.T ab))(b7:List (Sh.T aa))(b8:List Int):Option (Out B4):=
 ai (L1 (t2,(t3,((Int.ofNat (List.length b8)),((0:Int),(b0_0,(b1,(b2,(b3,(b4,(b5,(b6,(b8,(b7,())))))))))))))) fun x0=>
 some x0
def aaV(c0:od)(c1:lI)(c2:uE)(M1:Cm):CE:=⟨eH (aaU c0.F c1.F c2.F M1.L),pB Tryz.func90 38 (kD c0 (kB c1 (kB c2 k0))) e0 1 (sS (sC M1 l0)) fun d=>by kernel_rfl⟩
def NT:CE:=aaV qF mP CC aay
def aaw:NU:=NT.F
abbrev qp:ae:={ T:=[(1,.int .u64),(4,.ptr 0 0),(6,.ptr 1 0),(7,.hd 9 (.int .i64)),(25,.int .i64),(26,.int .i64)],h:=XX,nx:=10 }
abbrev qn:List (Ev.Ex×ae):=[((.exit 0),{ T:=[(4,.ptr 0 0),(6,.ptr 1 0),(7,.hd 9 (.int .i64))],h:=XX,nx:=10 })]
abbrev OC:=TL qp.σs->Option (Out qn)
abbrev C4:=Ld 0 61 (aT [0] (aG Tryz.f40)) qp qn
def ve(F0:vp)(t1 t25 t26 b0_0 b1_0:Int)(b2:List Int)(b3:List (Sh.T aa))(b4 b5 b6:List Int)(b7:List (Sh.T ab))(b8:List (Sh.T aa))(b9:List Int):Option (TL qp.σs⊕Out qn):=
 br (iL t26 t25)
 (
  ah (ar t26 (List.length b9))<|
  ah (iE (0:Int) t26)<|
  ai (F0 ((gt (.int .i64) b9 t26),((iQ (gH .u64 (Int.fdiv t1 (HPow.hPow (2:Int) (Min.min (Int.toNat t26) 64))) (1:Int)) (0:Int)),()))) fun x0=>
  ah (ar t26 (List.length b9))<|
  some (.inl (t1,(t25,((IntKind.wrap .i64 (t26+(1:Int))),(b0_0,(b1_0,(b2,(b3,(b4,(b5,(b6,(b7,(b8,((List.set b9 (Int.toNat t26) x0.1),())))))))))))))))
 (
  some (.inr (b0_0,(b1_0,(b2,(b3,(b4,(b5,(b6,(b7,(b8,(b9,()))))))))))))
def abz(c0:qH) :C4:=aU (fC (ve c0.F)) (pL (kD c0 k0) e0 1 l0 fun d=>by kernel_rfl)
def abA:C4:=abz vn
def C5:OC:=aE (fC (ve qE)) NN
abbrev OD:List Sh:=[(.int .i64),(.int .u64)]
abbrev C6:List Sh:=[ba,(.int .i64)]
abbrev Dg:=TL OD->Option (TL C6)
abbrev vg:=Kd 40 OD C6
def abL(F0:vp)(F1:Od)(F2:NU)(F3:NO)(L7:OC)(a0 a1:Int):Option (TL C6):=
 br (iL a0 (1:Int))
 (
  some (((0:Int),([],([],([],([],([],([],([],())))))))),((1:Int),())))
 (
  br (aR false true (iL (20:Int) a0))
  (
   some (((0:Int),([],([],([],([],([],([],([],())))))))),((1:Int),())))
  (
   ai (F3 (a0,((0:Int),((0:Int),([],([],([],([],([],([],([],()))))))))))) fun x0=>
   ai (F2 ((0:Int),((1:Int),(x0.1,(x0.2.1,(x0.2.2.2.2.2.2.2.1,(x0.2.2.1,(x0.2.2.2.1,(x0.2.2.2.2.1,(x0.2.2.2.2.2.1,(x0.2.2.2.2.2.2.1,(x0.2.2.2.2.2.2.2.2.1,())))))))))))) fun x1=>
   ai (L7 (a1,((Int.ofNat (List.length x1.2.2.2.2.2.2.2.1)),((0:Int),((0:Int),(x1.1,(x1.2.1,(x1.2.2.1,(x1.2.2.2.1,(x1.2.2.2.2.1,(x1.2.2.2.2.2.1,(x1.2.2.2.2.2.2.1,(x1.2.2.2.2.2.2.2.2.1,(x1.2.2.2.2.2.2.2.1,())))))))))))))) fun x2=>
   ai (F1 (x2.2.2.2.2.2.2.2.2.2.1,(x2.2.1,(x2.2.2.1,(x2.2.2.2.1,(x2.2.2.2.2.1,(x2.2.2.2.2.2.1,(x2.2.2.2.2.2.2.1,(x2.2.2.2.2.2.2.2.1,(x2.2.2.2.2.2.2.2.2.1,())))))))))) fun x3=>
   ah (room 8 (List.length (ap x3.2.2.2.2.2.1 (x3.1::[]))))<|
   some ((x3.2.1,(x3.2.2.1,(x3.2.2.2.1,(x3.2.2.2.2.1,((ap x3.2.2.2.2.2.1 (x3.1::[])),x3.2.2.2.2.2.2))))),((0:Int),()))))
def abM(c0:qH)(c1:CQ)(c2:CE)(c3:Cr)(M7:C4):vg:=⟨u2 (abL c0.F c1.F c2.F c3.F M7.L),pD Tryz.func40 61 (kD c0 (kB c1 (kB c2 (kB c3 k0)))) e0 1 (sS (sC M7 l0)) fun d=>by kernel_rfl⟩
def Df:vg:=abM vn Oc NT NM abA
def aby:Dg:=Df.F
open Go.Proofs.YtkcpdpplobhpaaaGreat.Pl
set_option maxRecDepth 10000
structure Gk where
 v:Nat
 i:List Int
 l:List bA
 a:List cM
abbrev gT(o b c:List Int)(m:List ab.T)(s:Gk):Int×List Int×List aa.T×List Int×List Int×List Int×List ab.T×List aa.T×Unit:=((s.v:Int),(s.i,(s.l.map aB,(o,(b,(c,(m,(s.a.map aY,()))))))))
structure GI(s:Gk)(D:List Int):Prop where
 perm:(s.i++(s.l.map (·.var)++(D++s.a.map (·.var)))).Perm (fr 0 s.v)
 an:∀x∈s.a,(bR s.v x.a/\bR s.v x.b)/\x.a / 2<x.var/\x.b / 2<x.var
 la:∀x∈s.l,bR s.v x.next/\0<=x.init/\x.init<=2
def cN(v k:Nat):List Int:=(List.range k).map fun j:Nat=>2*((v+1+j:Nat):Int)
theorem acN(v k:Nat):cN v (k+1)=cN v k++[2*((v+k+1:Nat):Int)]:=by unfold cN;rw[List.range_succ,List.map_append];show _++[2*((v+1+k:Nat):Int)]=_;rw[show v+1+k=v+k+1 by omega]
theorem j2(v k:Nat):(cN v k).length=k:=by simp[cN]
theorem aeY{v k:Nat}:∀x∈cN v k,bR (v+k) x:=by intro x hx;obtain⟨j,hj,rfl⟩:=List.mem_map.1 hx;have hj:=List.mem_range.1 hj;refine⟨by omega,?_⟩;rw[show(2:Int)*((v+1+j:Nat):Int) / 2=((v+1+j:Nat):Int) by omega];omega
theorem GI.grow{s:Gk}{D:List Int}(h:GI s D){w:Nat}(hw:s.v<=w){I:List Int}{L:List bA}{A:List cM}{E:List Int}(hp:(I++(L.map (·.var)++(E++A.map (·.var)))).Perm (fr s.v w))
  (hA:∀x∈A,(bR w x.a/\bR w x.b)/\x.a / 2<x.var/\x.b / 2<x.var) (hL:∀x∈L,bR w x.next/\0<=x.init/\x.init<=2):GI ⟨w,s.i++I,s.l++L,s.a++A⟩ (D++E):=by
 refine⟨?_,?_,?_⟩
 .show((s.i++I)++((s.l++L).map (·.var)++((D++E)++(s.a++A).map (·.var)))).Perm (fr 0 w);rw[<-afx (Nat.zero_le s.v) hw,List.perm_iff_count];intro x;have c1:=h.perm.count_eq x;have c2:=hp.count_eq x;simp only[List.count_append,List.map_append]at c1 c2 |-;omega
 .intro x hx;rcases List.mem_append.1 hx with q|q
  .obtain⟨⟨q1,q2⟩,q3⟩:=h.an x q;exact⟨⟨q1.up hw,q2.up hw⟩,q3⟩
  .exact hA x q
 .intro x hx;rcases List.mem_append.1 hx with q|q
  .obtain⟨q1,q2⟩:=h.la x q;exact⟨q1.up hw,q2⟩
  .exact hL x q
abbrev kz(v:Nat)(x y:Int):cM:=⟨(v:Int),x,y⟩
section
variable(o b c:List Int)(m:List ab.T){s:Gk}
def dz(v k:Nat)(st:Int):List bA:=(List.range k).map fun j:Nat=>⟨((v+1+j:Nat):Int),2*((v+1+j:Nat):Int),st⟩
theorem Pr(v k:Nat)(st:Int):dz v (k+1) st=dz v k st++[⟨((v+k+1:Nat):Int),2*((v+k+1:Nat):Int),st⟩]:=by unfold dz;rw[List.range_succ,List.map_append];show _++[(⟨((v+1+k:Nat):Int),2*((v+1+k:Nat):Int),st⟩:bA)]=_;rw[show v+1+k=v+k+1 by omega]
theorem PI(v k:Nat)(st:Int):(dz v k st).length=k:=by simp[dz]
theorem adp(k:Nat)(st:Int)(hv:s.v+k<=50000)(hl:s.l.length+k<=50000):aaK ((k:Int),((s.v:Int),(s.i,(s.l.map aB,(o,(b,(c,(m,(s.a.map aY,(st,()))))))))))=some (((s.v+k:Nat):Int),(s.i,(o,(b,(c,(m,(s.a.map aY,(st,((s.l++dz s.v k st).map aB,(cN s.v k,())))))))))):=by
 have e2:NK ((k:Int),((0:Int),((s.v:Int),(s.i,(o,(b,(c,(m,(s.a.map aY,(st,(s.l.map aB,([],()))))))))))))=some (((s.v+k:Nat):Int),(s.i,(o,(b,(c,(m,(s.a.map aY,(st,((s.l++dz s.v k st).map aB,(cN s.v k,())))))))))):=by
  unfold NK;delta eI;refine bN (fun j:Nat=>((k:Int),((j:Int),(((s.v+j:Nat):Int),(s.i,(o,(b,(c,(m,(s.a.map aY,(st,((s.l++dz s.v j st).map aB,(cN s.v j,()))))))))))))) k ?_ ?_ ?_ (aW (by omega))
  .simp only[Nat.add_zero,dz,List.append_nil,cN,List.range_zero,List.map_nil];rfl
  .intro j hj;have w:IntKind.wrap .i64 (((s.v+j:Nat):Int)+1)=((s.v+j+1:Nat):Int):=bf (x:=((s.v+j:Nat):Int)+1) (by omega);have e1:qC (IntKind.wrap .i64 (((s.v+j:Nat):Int)+1),(false,()))=some (2*((s.v+j+1:Nat):Int),()):=by rw[w];exact OX (by omega) (by omega)
   have hll:((s.l++dz s.v j st).map aB).length=s.l.length+j:=by rw[List.length_map,List.length_append,PI]
   have r1:room 24 (List.length ((s.l++dz s.v j st).map aB++[aB ⟨IntKind.wrap .i64 (((s.v+j:Nat):Int)+1),2*((s.v+j+1:Nat):Int),st⟩]))=true:=QG (by omega);have r2:room 8 (List.length (cN s.v j++[2*((s.v+j+1:Nat):Int)]))=true:=jj (by rw[j2];omega) (by omega);have e:∀(p q u v':Int) (A B:List aa.T) (R R':List Int),p=q->u=v'->A=B->R=R'->(some (.inl ((k:Int),(p,(u,(s.i,(o,(b,(c,(m,(s.a.map aY,(st,(A,(R,()))))))))))))):Option (TL uw.σs⊕Out uq))=some (.inl ((k:Int),(q,(v',(s.i,(o,(b,(c,(m,(s.a.map aY,(st,(B,(R',()))))))))))))):=by rintro _ _ _ _ _ _ _ _ rfl rfl rfl rfl;rfl
   refine av (al (show(j:Int)<(k:Int) by omega)) (af e1 (aj r1 (af e1 (aj r2 (e _ _ _ _ _ _ _ _ (aZ (x:=(j:Int)+1) (n:=j+1) (by omega) (by omega)) (w.trans (by omega)) ?_ (acN s.v j).symm)))));show(s.l++dz s.v j st).map aB++[aB ⟨IntKind.wrap .i64 (((s.v+j:Nat):Int)+1),2*((s.v+j+1:Nat):Int),st⟩]=(s.l++dz s.v (j+1) st).map aB;rw[w,Pr,<-List.append_assoc,List.map_append (l₁:=s.l++dz s.v j st)];rfl
  .exact ao (aw (show ¬(k:Int)<(k:Int) by omega)) rfl
 exact af e2 rfl
theorem QZ(x y:Int)(hv:s.v<=50000)(ha:s.a.length<=50000):kJ (x,(y,gT o b c m s))=some (2*((s.v+1:Nat):Int),gT o b c m ⟨s.v+1,s.i,s.l,s.a++[kz (s.v+1) x y]⟩):=by
 have w:IntKind.wrap .i64 ((s.v:Int)+1)=((s.v+1:Nat):Int):=bf (x:=(s.v:Int)+1) (by omega);have e1:qC (IntKind.wrap .i64 ((s.v:Int)+1),(false,()))=some (2*((s.v+1:Nat):Int),()):=by rw[w];exact OX (by omega) (by omega)
 have e2:NH ((1:Int),((0:Int),((s.v:Int),(s.i,(s.l.map aB,(o,(b,(c,(m,(x,(y,(s.a.map aY,([],())))))))))))))=some (((s.v+1:Nat):Int),(s.i,(s.l.map aB,(o,(b,(c,(m,(x,(y,((s.a++[kz (s.v+1) x y]).map aY,([2*((s.v+1:Nat):Int)],()))))))))))):=by
  unfold NH;delta fC;refine bN (fun j:Nat=>match j with|0=>((1:Int),((0:Int),((s.v:Int),(s.i,(s.l.map aB,(o,(b,(c,(m,(x,(y,(s.a.map aY,([],())))))))))))))|_=>((1:Int),((1:Int),(((s.v+1:Nat):Int),(s.i,(s.l.map aB,(o,(b,(c,(m,(x,(y,((s.a++[kz (s.v+1) x y]).map aY,([2*((s.v+1:Nat):Int)],())))))))))))))) 1 rfl ?_ ?_ (aW (by omega))
  .intro j hj;obtain rfl:j=0:=by omega
   have r1:room 24 (List.length (s.a.map aY++[aY ⟨IntKind.wrap .i64 ((s.v:Int)+1),x,y⟩]))=true:=QG (by rw[List.length_map];omega);have r2:room 8 (List.length (([]:List Int)++[2*((s.v+1:Nat):Int)]))=true:=jj (Nat.zero_le _) (by omega);have e:∀(u v':Int) (A B:List aa.T),u=v'->A=B->(some (.inl ((1:Int),((1:Int),(u,(s.i,(s.l.map aB,(o,(b,(c,(m,(x,(y,(A,([2*((s.v+1:Nat):Int)],())))))))))))))):Option (TL uv.σs⊕Out uo))=some (.inl ((1:Int),((1:Int),(v',(s.i,(s.l.map aB,(o,(b,(c,(m,(x,(y,(B,([2*((s.v+1:Nat):Int)],())))))))))))))):=by rintro _ _ _ _ rfl rfl;rfl
   refine av rfl (aj r1 (af e1 (aj r2 (e _ _ _ _ w ?_))));show s.a.map aY++[aY ⟨IntKind.wrap .i64 ((s.v:Int)+1),x,y⟩]=(s.a++[kz (s.v+1) x y]).map aY;rw[w,List.map_append];rfl
  .exact ao rfl rfl
 have e3:aaz ((1:Int),((s.v:Int),(s.i,(s.l.map aB,(o,(b,(c,(m,(s.a.map aY,(x,(y,())))))))))))=some (((s.v+1:Nat):Int),(s.i,(s.l.map aB,(o,(b,(c,(m,(x,(y,((s.a++[kz (s.v+1) x y]).map aY,([2*((s.v+1:Nat):Int)],()))))))))))):=af e2 rfl;exact af e3 (aj rfl rfl)
end
structure GO(s:Gk)(D:List Int)(K:Nat)(t:Gk):Prop where
 gi:GI t D
 lo:s.v<=t.v
 hi:t.v<=s.v+K
 len:t.a.length<=s.a.length+K
 ins:t.i=s.i
 lav:t.l.map (·.var)=s.l.map (·.var)
theorem GO.refl{s:Gk}{D:List Int}(h:GI s D):GO s D 0 s:=⟨h,by omega,by omega,by omega,rfl,rfl⟩
theorem GO.trans{s t u:Gk}{D:List Int}{K J M:Nat}(h:GO s D K t)(g:GO t D J u)(hM:K+J<=M):GO s D M u:=⟨g.gi,Nat.le_trans h.lo g.lo,by have:=h.hi;have:=g.hi;omega,by have:=h.len;have:=g.len;omega,g.ins.trans h.ins,g.lav.trans h.lav⟩
section
variable(o b c:List Int)(m:List ab.T){s:Gk}{D:List Int}
theorem al6(h:GI s D){x y:Int}(hx:bR s.v x)(hy:bR s.v y)(hv:s.v<=40000)(ha:s.a.length<=40000) :
  ∃(z:Int) (t:Gk),kJ (x,(y,gT o b c m s))=some (z,gT o b c m t)/\GO s D 1 t/\bR t.v z:=by
 refine⟨_,_,QZ o b c m x y (by omega) (by omega),⟨?_,by show s.v<=s.v+1;omega,Nat.le_refl _,by show(s.a++[_]).length<=_;simp,rfl,rfl⟩,by omega,?_⟩
 .have g:=h.grow (w:=s.v+1) (by omega) (I:=[]) (L:=[]) (A:=[kz (s.v+1) x y]) (E:=[]) (by rw[afy];exact List.Perm.refl _)
   (fun z hz=>by obtain rfl:=List.mem_singleton.1 hz;have h1:=hx.2;have h2:=hy.2;exact⟨⟨hx.up (by omega),hy.up (by omega)⟩,by show x / 2<((s.v+1:Nat):Int);omega,by show y / 2<((s.v+1:Nat):Int);omega⟩)
   (fun z hz=>nomatch hz)
  rw[List.append_nil,List.append_nil,List.append_nil]at g;exact g
 .show 2*((s.v+1:Nat):Int) / 2<=((s.v+1:Nat):Int);omega
end
def setNx:List bA->Nat->Int->List bA
 |[],_,_=>[]|d::l,0,x=>⟨d.var,x,d.init⟩::l|d::l,k+1,x=>d::setNx l k x
theorem DH:∀(l:List bA) (k:Nat) (x:Int),(setNx l k x).map (·.var)=l.map (·.var)
 |[],_,_=>rfl|d::l,0,x=>rfl|d::l,k+1,x=>congrArg (List.cons d.var) (DH l k x)
theorem Pv:∀(l:List bA) (k:Nat) (x:Int),∀y∈setNx l k x,y∈l\/∃d∈l,y=⟨d.var,x,d.init⟩
 |[],_,_,y,h=>by cases h
 |d::l,0,x,y,h=>by
  rcases List.mem_cons.1 h with q|q
  .exact .inr ⟨d,List.mem_cons_self ..,q⟩
  .exact .inl (List.mem_cons_of_mem _ q)
 |d::l,k+1,x,y,h=>by
  rcases List.mem_cons.1 h with q|q
  .exact .inl (q▸List.mem_cons_self ..)
  .rcases Pv l k x y q with r|⟨e,r,r2⟩
   .exact .inl (List.mem_cons_of_mem _ r)
   .exact .inr ⟨e,List.mem_cons_of_mem _ r,r2⟩
theorem Pw:∀(l:List bA) (k:Nat) (x:Int) (d:bA),l[k]?=some d->List.set (l.map aB) k (aB ⟨d.var,x,d.init⟩)=(setNx l k x).map aB
 |[],_,_,_,h=>by simp at h|e::l,0,x,d,h=>by
  have h:e=d:=by simpa using h
  subst h;rfl
 |e::l,k+1,x,d,h=>congrArg (List.cons (aB e)) (Pw l k x d (by simpa using h))
theorem GI.setNx{s:Gk}{D:List Int}(h:GI s D)(k:Nat){x:Int}(hx:bR s.v x):GI ⟨s.v,s.i,setNx s.l k x,s.a⟩ D:=by
 refine⟨?_,h.an,fun y hy=>?_⟩
 .show(s.i++((V.setNx s.l k x).map (·.var)++(D++s.a.map (·.var)))).Perm (fr 0 s.v);rw[DH];exact h.perm
 .rcases Pv _ _ _ y hy with q|⟨d,q,rfl⟩
  .exact h.la y q
  .exact⟨hx,(h.la d q).2⟩
section
variable(o b c:List Int)(m:List ab.T){s:Gk}{D:List Int}
theorem al8(h:GI s D){k:Nat}{w:Int}(hw:w=(k:Int))(hk:k<s.l.length)(z:Int)(hz:bR s.v z):GO s D 0 ⟨s.v,s.i,setNx s.l k z,s.a⟩ /\
  List.set (s.l.map aB) (Int.toNat w) ((gt aa (s.l.map aB) w).1,(z,((gt aa (s.l.map aB) w).2.2.1,())))=(setNx s.l k z).map aB:=by
 subst hw;refine⟨⟨h.setNx k hz,Nat.le_refl _,by show s.v<=s.v+0;omega,by show s.a.length<=s.a.length+0;omega,rfl,DH ..⟩,?_⟩;have e0:(s.l.map aB)[k]?=some (aB s.l[k]):=by rw[List.getElem?_map,List.getElem?_eq_getElem hk];rfl
 have eg:gt aa (s.l.map aB) (k:Int)=aB s.l[k]:=aS (σ:=aa) e0;rw[eg,Int.toNat_natCast];exact Pw s.l k z s.l[k] (List.getElem?_eq_getElem hk)
end
theorem frm{lo hi:Nat}{x:Int}:x∈fr lo hi↔(lo:Int)<x/\x<=(hi:Int):=by
 unfold fr;constructor
 .intro h;obtain⟨i,hi,rfl⟩:=List.mem_map.1 h;have:=List.mem_range.1 hi;omega
 .intro h;exact List.mem_map.2 ⟨(x-lo-1).toNat,List.mem_range.2 (by omega),by omega⟩
theorem al5(lo hi:Nat):(fr lo hi).Nodup:=by unfold fr;unfold List.Nodup;rw[List.pairwise_map];exact List.Pairwise.imp (fun h e=>h (by omega)) (List.nodup_range (n:=hi-lo))
theorem qU(lo hi:Nat):(fr lo hi).length=hi-lo:=by simp[fr]
theorem afz{s:Gk}{D:List Int}(h:GI s D)(hv:s.v<=2000){o b c:List Int}{M:List aX}(hD:M.flatMap gD=D)(hl:o.length+b.length+c.length<=1000)(hM:M.length<=4)
  (hm:∀m∈M,1<=m.addr/\m.addr<=62/\1<=m.word/\m.word<=64/\(∀r∈m.reads,(r.addr.length:Int)=m.addr)/\(∀x∈m.writes,(x.addr.length:Int)=m.addr/\(x.data.length:Int)=m.word)/\m.reads.length<=4/\m.writes.length<=4)
  (hL:∀x∈o++(b++(c++M.flatMap h9)),bR s.v x) (hr:∀m∈M,∀r∈m.reads,∀x∈r.addr,x / 2∈s.l.map (·.var)):Pl.bP ⟨s.v,s.i,s.l,o,b,c,M,s.a⟩=0:=by
 have ed:bp ⟨s.v,s.i,s.l,o,b,c,M,s.a⟩=s.i++(s.l.map (·.var)++(D++s.a.map (·.var))):=by unfold bp;show s.i++s.l.map (·.var)++M.flatMap gD++s.a.map (·.var)=_;rw[hD];simp only[List.append_assoc]
 have hp:(bp ⟨s.v,s.i,s.l,o,b,c,M,s.a⟩).Perm (fr 0 s.v):=by rw[ed];exact h.perm
 have hlen:=hp.length_eq;rw[qU,ed]at hlen;simp only[List.length_append,List.length_map]at hlen;have hs:bo ⟨s.v,s.i,s.l,o,b,c,M,s.a⟩ s.v:=by
  refine⟨rfl,hv,hp.nodup_iff.2 (al5 ..),fun x hx=>?_,fun x hx=>?_,hm,fun x hx=>(h.la x hx).2,by show s.i.length<=2000;omega,by show s.l.length<=2000;omega,by show s.a.length<=2000;omega,hl,hM⟩
  .have:=frm.1 (hp.mem_iff.1 hx);omega
  .unfold bG at hx;have hx:x∈s.l.map (·.next)++o++b++c++M.flatMap h9++s.a.flatMap fJ:=hx;simp only[List.mem_append]at hx hL;rcases hx with((((q|q)|q)|q)|q)|q
   .obtain⟨y,hy,rfl⟩:=List.mem_map.1 q;exact(h.la y hy).1
   .exact hL x (.inl q)
   .exact hL x (.inr (.inl q))
   .exact hL x (.inr (.inr (.inl q)))
   .exact hL x (.inr (.inr (.inr q)))
   .obtain⟨y,hy,q⟩:=List.mem_flatMap.1 q;have:=(h.an y hy).1;unfold fJ at q;simp only[List.mem_cons,List.not_mem_nil,or_false]at q;rcases q with rfl|rfl
    .exact this.1
    .exact this.2
 have h0:ca ⟨s.v,s.i,s.l,o,b,c,M,s.a⟩=0:=adQ hs (by have:=hp.length_eq;rw[qU]at this;omega);refine ac1 hs h0 ?_;intro v
 induction v using Nat.strongRecOn with
 |ind v ih=>
  intro hv';by_cases hz:v=0
  .subst hz;exact acF hs
  have hd:(v:Int)∈bp ⟨s.v,s.i,s.l,o,b,c,M,s.a⟩:=hp.mem_iff.2 (frm.2 (by omega));rw[ed]at hd;simp only[List.mem_append]at hd;rcases hd with q|q|q|q
  .exact DN hs (v:=(v:Int)) (.inl q)
  .exact DN hs (v:=(v:Int)) (.inr q)
  .rw[<-hD]at q;obtain⟨m,h1,q⟩:=List.mem_flatMap.1 q;unfold gD at q;obtain⟨r,h2,q⟩:=List.mem_flatMap.1 q;refine Pq (x:=(kQ m.word r).nd) ?_ ?_ ?_
   .unfold aF cP;refine List.mem_map_of_mem (List.mem_append_right _ ?_);exact List.mem_flatMap.2 ⟨m,h1,List.mem_map_of_mem h2⟩
   .exact List.mem_map.2 ⟨(v:Int),q,Int.toNat_natCast v⟩
   .intro u hu;obtain⟨x,hx,rfl⟩:=List.mem_map.1 hu;exact DN hs (v:=x / 2) (.inr (hr m h1 r h2 x hx))
  .obtain⟨a,h1,q⟩:=List.mem_map.1 q;obtain⟨⟨k1,k2⟩,k3,k4⟩:=h.an a h1;have k1:=k1.1;have k2:=k2.1;have g:=adr (n:=⟨s.v,s.i,s.l,o,b,c,M,s.a⟩) (a:=a) h1 (ih (a.a / 2).toNat (by omega) (by omega)) (ih (a.b / 2).toNat (by omega) (by omega));have e:a.var.toNat=v:=by have q:a.var=(v:Int):=q;omega
   rw[e]at g;exact g
def ZN:Gk:=⟨0,[],[],[]⟩
theorem gi0:GI ZN []:=⟨List.Perm.refl _,fun x hx=>(nomatch hx),fun x hx=>(nomatch hx)⟩
theorem Ps(v k:Nat)(st:Int):(dz v k st).map (·.var)=fr v (v+k):=by unfold dz fr;rw[List.map_map,show v+k-v=k by omega];rfl
theorem al7{s:Gk}{D:List Int}(h:GI s D)(k:Nat){st:Int}(h1:0<=st)(h2:st<=2):GI ⟨s.v+k,s.i,s.l++dz s.v k st,s.a⟩ D:=by have g:=h.grow (w:=s.v+k) (by omega) (I:=[]) (L:=dz s.v k st) (A:=[]) (E:=[]) (by rw[Ps];simp) (fun x hx=>nomatch hx) (fun x hx=>by obtain⟨j,hj,rfl⟩:=List.mem_map.1 hx;have hj:=List.mem_range.1 hj;exact⟨⟨by show(0:Int)<=2*((s.v+1+j:Nat):Int);omega,by show 2*((s.v+1+j:Nat):Int) / 2<=((s.v+k:Nat):Int);omega⟩,h1,h2⟩);simp only[List.append_nil]at g;exact g
end Go.Proofs.YtkcpdpplobhpaaaGreat.V
end
