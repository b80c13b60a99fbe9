import Derived.Test.YtkcpdpplobhpaaaGreatWRc
set_option linter.unusedVariables false
set_option linter.unusedSimpArgs false
set_option linter.unnecessarySimpa false
section
namespace Go.Proofs.YtkcpdpplobhpaaaGreat.V
open Go Go.RowKit
set_option maxRecDepth 1000000
abbrev S8:List Sh:=[ab]
abbrev zL:List Sh:=[(.int .i64)]
abbrev Iz:=TL S8->Option (TL zL)
abbrev zQ:=Kd 186 S8 zL
def Ix(a0:Sh.T ab):Option (TL zL):=
 br (iE (10:Int) a0.1)
 (
  some ((1000:Int),()))
 (
  ai (iE (0:Int) a0.1)<|
  some ((IntKind.wrap .i64 (@HMul.hMul (Int) (Int) (Int) _ a0.2.1 (HPow.hPow (2:Int) (Min.min (Int.toNat a0.1) 64)))),()))
def adR  :zQ:=⟨u1 Ix,pD Tryz.func186 11 k0 e0 1 (sS l0) fun d=>by kernel_rfl⟩
def Iy:zQ:=adR
def Il:Iz:=Iy.F
abbrev S4:List Sh:=[ab]
abbrev Ii:List Sh:=[(.int .i64)]
abbrev Ip:=TL S4->Option (TL Ii)
abbrev zN:=Kd 130 S4 Ii
def adK(a0:Sh.T ab):Option (TL Ii):=some ((IntKind.wrap .i64 ((Int.ofNat (List.length (cJ a0)))+(Int.ofNat (List.length (cK a0))))),())
def adL  :zN:=⟨u1 adK,pD Tryz.func130 10 k0 e0 1 (sS l0) fun d=>by kernel_rfl⟩
def Io:zN:=adL
def Ih:Ip:=Io.F
abbrev Tm:Lay:={ T:=[(0,.agg jf),(1,.func 186 [] [])],h:=[],nx:=0 }
abbrev Iq:List (Ev.Ex×Lay):=[(.ret,{ T:=[(0,.int .i64)],h:=[],nx:=0 })]
abbrev IU:=TL Tm.σs->Option (Out Iq)
abbrev zZ:=Kb 129 2 Tm 1 Iq
abbrev uY:Lay:={ T:=[(1,.func 186 [] []),(4,.int .i64),(8,.fz ab),(9,.int .i64),(10,.int .i64)],h:=[],nx:=0 }
abbrev uW:List (Ev.Ex×Lay):=[((.exit 0),{ T:=[(4,.int .i64)],h:=[],nx:=0 })]
abbrev Ty:=TL uY.σs->Option (Out uW)
abbrev IK:=Ld 0 21 (bI [0] (bh Tryz.f129)) uY uW
def Tw(F0:Iz)(t4:Int)(t8:List (Sh.T ab))(t9 t10:Int):Option (TL uY.σs⊕Out uW):=
 br (iL t10 t9)
 (
  ai (av t10 (List.length t8))<|
  ao (F0 (((gt ab t8 t10).1,((gt ab t8 t10).2.1,((gt ab t8 t10).2.2.1,((gt ab t8 t10).2.2.2.1,((gt ab t8 t10).2.2.2.2.1,()))))),())) fun x0=>
  some (.inl ((IntKind.wrap .i64 (@HAdd.hAdd (Int) (Int) (Int) _ t4 x0.1)),(t8,(t9,((IntKind.wrap .i64 (t10+(1:Int))),()))))))
 (
  some (.inr (t4,())))
def ad5(c0:zQ) :IK:=bN (u4 (Tw c0.F)) (pL (kD c0 k0) e0 1 l0 fun d=>by kernel_rfl)
def ad6:IK:=ad5 Iy
def Tx:Ty:=aX (u4 (Tw Il)) NN
def aek(F0:Iz)(L2:Ty)(eX:Int)(jh:List Int)(iV:List (Sh.T ae))(jL jM jN:List Int)(fA:List (Sh.T ab))(iW:List (Sh.T ae)):Option (Out Iq):=
 ao (L2 ((0:Int),(fA,((Int.ofNat (List.length fA)),((0:Int),()))))) fun x0=>
 some (x0.1,())
def ael(c0:zQ)(M2:IK):zZ:=⟨u8 (aek c0.F M2.L),pB Tryz.func129 21 (kD c0 k0) e0 1 (sS (sC M2 l0)) fun d=>by kernel_rfl⟩
def IQ:zZ:=ael Iy ad6
def ad4:IU:=IQ.F
abbrev Tn:Lay:={ T:=[(0,.agg jf),(1,.func 130 [] [])],h:=[],nx:=0 }
abbrev Ir:List (Ev.Ex×Lay):=[(.ret,{ T:=[(0,.int .i64)],h:=[],nx:=0 })]
abbrev IW:=TL Tn.σs->Option (Out Ir)
abbrev z6:=Kb 129 2 Tn 1 Ir
abbrev uZ:Lay:={ T:=[(1,.func 130 [] []),(4,.int .i64),(8,.fz ab),(9,.int .i64),(10,.int .i64)],h:=[],nx:=0 }
abbrev uX:List (Ev.Ex×Lay):=[((.exit 0),{ T:=[(4,.int .i64)],h:=[],nx:=0 })]
abbrev TC:=TL uZ.σs->Option (Out uX)
abbrev IL:=Ld 0 21 (bI [0] (bh Tryz.f129)) uZ uX
def Tz(F0:Ip)(t4:Int)(t8:List (Sh.T ab))(t9 t10:Int):Option (TL uZ.σs⊕Out uX):=
 br (iL t10 t9)
 (
  ai (av t10 (List.length t8))<|
  ao (F0 (((gt ab t8 t10).1,((gt ab t8 t10).2.1,((gt ab t8 t10).2.2.1,((gt ab t8 t10).2.2.2.1,((gt ab t8 t10).2.2.2.2.1,()))))),())) fun x0=>
  some (.inl ((IntKind.wrap .i64 (@HAdd.hAdd (Int) (Int) (Int) _ t4 x0.1)),(t8,(t9,((IntKind.wrap .i64 (t10+(1:Int))),()))))))
 (
  some (.inr (t4,())))
def ad8(c0:zN) :IL:=bN (u4 (Tz c0.F)) (pL (kD c0 k0) e0 1 l0 fun d=>by kernel_rfl)
def ad9:IL:=ad8 Io
def TB:TC:=aX (u4 (Tz Ih)) NN
def aem(F0:Ip)(L2:TC)(eX:Int)(jh:List Int)(iV:List (Sh.T ae))(jL jM jN:List Int)(fA:List (Sh.T ab))(iW:List (Sh.T ae)):Option (Out Ir):=
 ao (L2 ((0:Int),(fA,((Int.ofNat (List.length fA)),((0:Int),()))))) fun x0=>
 some (x0.1,())
def aen(c0:zN)(M2:IL):z6:=⟨u8 (aem c0.F M2.L),pB Tryz.func129 21 (kD c0 k0) e0 1 (sS (sC M2 l0)) fun d=>by kernel_rfl⟩
def IV:z6:=aen Io ad9
def ad7:IW:=IV.F
abbrev Tt:List Sh:=[ca]
abbrev zT:List Sh:=[(.int .i64)]
abbrev TI:=TL Tt->Option (TL zT)
abbrev IP:=Kd 114 Tt zT
def aei(F0:IW)(F1:IU)(a0:Sh.T ca):Option (TL zT):=
 ao (F1 a0) fun x0=>
 some ((du (iL (1000:Int) (IntKind.wrap .i64 (@HAdd.hAdd (Int) (Int) (Int) _ (Int.ofNat (List.length a0.2.2.1)) x0.1))) (1000:Int) (IntKind.wrap .i64 (@HAdd.hAdd (Int) (Int) (Int) _ (Int.ofNat (List.length a0.2.2.1)) x0.1))),())
def aej(c0:z6)(c1:zZ) :IP:=⟨u1 (aei c0.F c1.F),pD Tryz.func114 12 (kB c0 (kB c1 k0)) e0 1 (sS l0) fun d=>by kernel_rfl⟩
def TH:IP:=aej IV IQ
def ad1:TI:=TH.F
abbrev Tl:List Sh:=[ca]
abbrev IB:List Sh:=[(.int .i64)]
abbrev Tv:=TL Tl->Option (TL IB)
abbrev IJ:=Kd 67 Tl IB
def ad2(F0:IW)(F1:IU)(a0:Sh.T ca):Option (TL IB):=
 ao (F0 a0) fun x0=>
 some (x0.1,())
def ad3(c0:z6)(c1:zZ) :IJ:=⟨u1 (ad2 c0.F c1.F),pD Tryz.func67 5 (kB c0 (kB c1 k0)) e0 1 (sS l0) fun d=>by kernel_rfl⟩
def Tu:IJ:=ad3 IV IQ
def adU:Tv:=Tu.F
abbrev SQ:List Sh:=[ca]
abbrev zA:List Sh:=[(.int .i64)]
abbrev uU:=TL SQ->Option (TL zA)
abbrev rY:=Kd 52 SQ zA
def adw(F0:TI)(F1:sT)(a0:Sh.T ca):Option (TL zA):=
 ao (F1 (a0,())) fun x0=>
 br (Bool.not (iQ x0.1 (0:Int)))
 (
  some ((0:Int),()))
 (
  ao (F0 (((0:Int),([],([],([],([],([],(cO a0,([],())))))))),())) fun x1=>
  some ((du (iL (1000:Int) x1.1) (1000:Int) x1.1),()))
def adx(c0:IP)(c1:qN) :rY:=⟨u1 (adw c0.F c1.F),pD Tryz.func52 11 (kD c0 (kD c1 k0)) e0 1 (sS l0) fun d=>by kernel_rfl⟩
def uT:rY:=adx TH sU
def ado:uU:=uT.F
abbrev zD:Lay:={ T:=[(2,.int .u64),(9,.fz .bool),(10,.int .i64),(11,.int .i64)],h:=[],nx:=0 }
abbrev zy:List (Ev.Ex×Lay):=[((.exit 0),{ T:=[(2,.int .u64)],h:=[],nx:=0 })]
abbrev Td:=TL zD.σs->Option (Out zy)
abbrev Tc:=Ld 0 23 (bI [0] (bh Tryz.f76)) zD zy
def Tb(t2:Int)(t9:List Bool)(t10 t11:Int):Option (TL zD.σs⊕Out zy):=
 br (iL t11 t10)
 (
  ai (av t11 (List.length t9))<|
  br (gt .bool t9 t11)
  (
   ai (iE (0:Int) t11)<|
   some (.inl ((tt .u64 t2 (IntKind.wrap .u64 ((1:Int)*(HPow.hPow (2:Int) (Min.min (Int.toNat t11) 64))))),(t9,(t10,((IntKind.wrap .i64 (t11+(1:Int))),()))))))
  (
   some (.inl (t2,(t9,(t10,((IntKind.wrap .i64 (t11+(1:Int))),())))))))
 (
  some (.inr (t2,())))
def adM  :Tc:=bN (u4 Tb) (pL k0 e0 1 l0 fun d=>by kernel_rfl)
def zO:Td:=aX (u4 Tb) NN
abbrev Te:List Sh:=[(.sl .bool)]
abbrev It:List Sh:=[(.int .u64)]
abbrev IE:=TL Te->Option (TL It)
abbrev zS:=Kd 76 Te It
def IC(L2:Td)(a0:List Bool):Option (TL It):=
 ai (both (iE (0:Int) (du (iL (64:Int) (Int.ofNat (List.length a0))) (64:Int) (Int.ofNat (List.length a0)))) (iE (du (iL (64:Int) (Int.ofNat (List.length a0))) (64:Int) (Int.ofNat (List.length a0))) (Int.ofNat (List.length a0))))<|
 ao (L2 ((0:Int),((List.take (Int.toNat (du (iL (64:Int) (Int.ofNat (List.length a0))) (64:Int) (Int.ofNat (List.length a0)))) a0),((Int.ofNat (List.length (List.take (Int.toNat (du (iL (64:Int) (Int.ofNat (List.length a0))) (64:Int) (Int.ofNat (List.length a0)))) a0))),((0:Int),()))))) fun x0=>
 some (x0.1,())
def adV(M2:Tc):zS:=⟨u1 (IC M2.L),pD Tryz.func76 23 k0 e0 1 (sS (sC M2 l0)) fun d=>by kernel_rfl⟩
def ID:zS:=adV  adM
def Is:IE:=ID.F
abbrev ab3:Lay:={ T:=[(3,.ptr 0 0),(4,.ptr 1 0),(29,.fz ab),(30,.int .i64),(31,.int .i64)],h:=[(0,.cells [.fz .bool,.fz (.sl aA)] 40),(1,.cells [.hd 2 .bool,.bk] 40),(2,.arr .bool 4)],nx:=3 }
abbrev ab4:List (Nat×LO):=[(0,.cells jf 27),(1,.cells [.bk,.bk] 40),(2,.cells [.hd 3 .bool,.hd 4 (.sl aA)] 40),(3,.arr .bool 4),(4,.arr (.sl aA) 104),(5,.arr aA 137)]
abbrev HH:Lay:=ab3
abbrev Hx:List (Ev.Ex×Lay):=[((.exit 0),{ T:=[(4,.ptr 0 0)],h:=[(0,.cells [.hd 1 .bool,.bk] 40),(1,.arr .bool 4)],nx:=2 })]
abbrev adq:=TL HH.σs->Option (Out Hx)
abbrev Hw:Lay:={ T:=[(3,.ptr 0 0),(4,.ptr 1 0),(8,.ptr 3 0),(11,.func 75 [.ptr 4 0] []),(29,.fz ab),(30,.int .i64),(31,.int .i64),(53,.int .u64),(54,.int .u64)],h:=[(0,.cells [.fz .bool,.fz (.sl aA)] 40),(1,.cells [.hd 2 .bool,.bk] 40),(2,.arr .bool 4),(3,.cells [.int .i64,.int .i64,.bool,.fz bg,.fz aH] 116),(4,.cells [.int .i64,.int .i64,.mp 5] 220),(5,.map .u64 (.int .u64))],nx:=6 }
abbrev Hr:List (Ev.Ex×Lay):=[((.exit 2),ab3)]
abbrev SH:=TL Hw.σs->Option (Out Hr)
def adh(F0:tb)(F3:s9)(t29:List (Sh.T ab))(t30 t31 t53 t54:Int)(aw:List Bool)(aG:List (List (Sh.T aA)))(b2:List Bool)(ti fg:Int)(tj:Bool)(tm:List (Sh.T bg))(tp:List (Sh.T aH))(mZ w9:Int)(b5:List (Sh.T aA)):Option (TL Hw.σs⊕Out Hr):=
 br (iL t54 t53)
 (
  ao (F3 (t54,(mZ,(w9,(b5,()))))) fun x0=>
  ai (iQ fg fg)<|
  ao (F0 (x0.1,(fg,()))) fun x1=>
  ai (room 1 (List.length (ap b2 x1.1)))<|
  some (.inl (t29,(t30,(t31,(t53,((IntKind.wrap .u64 (t54+(1:Int))),(aw,(aG,((ap b2 x1.1),(ti,(fg,(tj,(tm,(tp,x0.2)))))))))))))))
 (
  some (.inr (t29,(t30,(t31,(aw,(aG,(b2,()))))))))
def uR:SH:=aX (u16 (adh qS rH)) NN
def adp(F4:sY)(L13:SH)(t29:List (Sh.T ab))(t30 t31:Int)(aw:List Bool)(aG:List (List (Sh.T aA)))(b2:List Bool):Option (TL HH.σs⊕Out Hx):=
 br (iL t31 t30)
 (
  ai (av t31 (List.length t29))<|
  ai (av t31 (List.length aG))<|
  ao (F4 ((gt ab t29 t31).1,((gt ab t29 t31).2.1,((gt (.sl aA) aG t31),())))) fun x0=>
  (match x0 with
  |.inl x1=>
   ai (iE (0:Int) (gt ab t29 t31).1)<|
   none
  |.inr x1=>
   ai (iE (0:Int) (gt ab t29 t31).1)<|
   ao (L13 (t29,(t30,(t31,((IntKind.wrap .u64 ((1:Int)*(HPow.hPow (2:Int) (Min.min (Int.toNat (gt ab t29 t31).1) 64)))),((0:Int),(aw,(aG,(b2,((gt ab t29 t31).1,((gt ab t29 t31).2.1,((gt ab t29 t31).2.2.1,((gt ab t29 t31).2.2.2.1,((gt ab t29 t31).2.2.2.2.1,x1.2)))))))))))))) fun x2=>
   some (.inl (x2.1,(x2.2.1,((IntKind.wrap .i64 (@HAdd.hAdd (Int) (Int) (Int) _ x2.2.2.1 (1:Int))),rN x2))))
  ))
 (
  some (.inr (b2,())))
def H4:adq:=aX (u6 (adp tV uR)) NN
abbrev zl:Lay:={ T:=[(4,.ptr 0 0),(8,.fz .bool),(58,.fz ab),(59,.int .i64),(60,.int .i64)],h:=[(0,.cells [.hd 1 .bool,.hd 2 (.sl aA)] 40),(1,.arr .bool 4),(2,.arr (.sl aA) 104)],nx:=3 }
abbrev zj:List (Ev.Ex×Lay):=[((.exit 1),{ T:=[(4,.ptr 0 0)],h:=[(0,.cells [.hd 1 .bool,.hd 2 (.sl aA)] 40),(1,.arr .bool 4),(2,.arr (.sl aA) 104)],nx:=3 })]
abbrev SP:=TL zl.σs->Option (Out zj)
abbrev HU:=Ld 0 96 (bI [0] (bh Tryz.f30)) zl zj
abbrev zm:Lay:={ T:=[(4,.ptr 0 0),(8,.fz .bool),(10,.ptr 3 0),(11,.hd 4 aA),(58,.fz ab),(59,.int .i64),(60,.int .i64),(66,.int .u64),(67,.int .u64)],h:=[(0,.cells [.hd 1 .bool,.hd 2 (.sl aA)] 40),(1,.arr .bool 4),(2,.arr (.sl aA) 104),(3,.cells [.int .i64,.int .i64,.bool,.fz bg,.fz aH] 116),(4,.arr aA 137)],nx:=5 }
abbrev zk:List (Ev.Ex×Lay):=[((.exit 3),{ T:=[(4,.ptr 0 0),(8,.fz .bool),(11,.hd 3 aA),(58,.fz ab),(59,.int .i64),(60,.int .i64)],h:=[(0,.cells [.hd 1 .bool,.hd 2 (.sl aA)] 40),(1,.arr .bool 4),(2,.arr (.sl aA) 104),(3,.arr aA 137)],nx:=4 })]
abbrev H2:=TL zm.σs->Option (Out zk)
abbrev zz:=Ld 0 96 (bI [0,0] (bh Tryz.f30)) zm zk
def SN(F0:IE)(t8:List Bool)(t58:List (Sh.T ab))(t59 t60 t66 t67:Int)(b1:List Bool)(b2:List (List (Sh.T aA)))(ti fg:Int)(tj:Bool)(tm:List (Sh.T bg))(tp:List (Sh.T aH))(b4:List (Sh.T aA)):Option (TL zm.σs⊕Out zk):=
 br (iL t67 t66)
 (
  ai (both (iE (0:Int) fg) (iE fg (Int.ofNat (List.length t8))))<|
  ao (F0 ((List.take (Int.toNat fg) t8),())) fun x0=>
  br (Bool.not (iQ x0.1 (0:Int)))
  (
   ai (room 16 (List.length (ap b4 ((t67,(x0.1,()))::[]))))<|
   ai (both (iE (0:Int) fg) (iE fg (Int.ofNat (List.length t8))))<|
   some (.inl ((List.drop (Int.toNat fg) t8),(t58,(t59,(t60,(t66,((IntKind.wrap .u64 (t67+(1:Int))),(b1,(b2,(ti,(fg,(tj,(tm,(tp,((ap b4 ((t67,(x0.1,()))::[])),()))))))))))))))))
  (
   ai (both (iE (0:Int) fg) (iE fg (Int.ofNat (List.length t8))))<|
   some (.inl ((List.drop (Int.toNat fg) t8),(t58,(t59,(t60,(t66,((IntKind.wrap .u64 (t67+(1:Int))),(b1,(b2,(ti,(fg,(tj,(tm,(tp,(b4,())))))))))))))))))
 (
  some (.inr (t8,(t58,(t59,(t60,(b1,(b2,(b4,())))))))))
def adm(c0:zS) :zz:=bN (i7 (SN c0.F)) (pL (kD c0 k0) e0 1 l0 fun d=>by kernel_rfl)
def SO:zz:=adm ID
def uS:H2:=aX (i7 (SN Is)) NN
def SM(L16:H2)(t8:List Bool)(t58:List (Sh.T ab))(t59 t60:Int)(b1:List Bool)(b2:List (List (Sh.T aA))):Option (TL zl.σs⊕Out zj):=
 br (iL t60 t59)
 (
  ai (av t60 (List.length t58))<|
  ai (iE (0:Int) (gt ab t58 t60).1)<|
  ao (L16 (t8,(t58,(t59,(t60,((IntKind.wrap .u64 ((1:Int)*(HPow.hPow (2:Int) (Min.min (Int.toNat (gt ab t58 t60).1) 64)))),((0:Int),(b1,(b2,((gt ab t58 t60).1,((gt ab t58 t60).2.1,((gt ab t58 t60).2.2.1,((gt ab t58 t60).2.2.2.1,((gt ab t58 t60).2.2.2.2.1,([],()))))))))))))))) fun x0=>
  ai (room 24 (List.length (ap (cT x0) ((cO x0)::[]))))<|
  some (.inl (x0.1,(x0.2.1,(x0.2.2.1,((IntKind.wrap .i64 (@HAdd.hAdd (Int) (Int) (Int) _ (cJ x0) (1:Int))),(cK x0,((ap (cT x0) ((cO x0)::[])),()))))))))
 (
  some (.inr (b1,(b2,()))))
def adl(M16:zz):HU:=bN (u6 (SM M16.L)) (pL k0 e0 1 (sC M16 l0) fun d=>by kernel_rfl)
def adn:HU:=adl  SO
def H0:SP:=aX (u6 (SM uS)) NN
abbrev SR:List Sh:=[ca,gK]
abbrev H8:List Sh:=[gK,(.int .i64)]
abbrev S6:=TL SR->Option (TL H8)
abbrev Ij:=Kd 30 SR H8
def adE(F0:IE)(F1:uU)(F2:sT)(F3:wC)(F4:wz)(L12:SP)(L16:H2)(a0:Sh.T ca)(a1:Sh.T gK):Option (TL H8):=
 ao (F2 (a0,())) fun x0=>
 br (Bool.not (iQ x0.1 (0:Int)))
 (
  some (([],([],())),(x0.1,())))
 (
  ao (F1 (a0,())) fun x1=>
  br (iL (64:Int) x1.1)
  (
   some (([],([],())),((17:Int),())))
  (
   br (Bool.not (iQ (Int.ofNat (List.length a1.1)) (IntKind.wrap .i64 (@HAdd.hAdd (Int) (Int) (Int) _ (Int.ofNat (List.length a0.2.2.1)) x1.1))))
   (
    some (([],([],())),((14:Int),())))
   (
    br (bn false true (iL (0:Int) (Int.ofNat (List.length a1.2.1))))
    (
     some (([],([],())),((14:Int),())))
    (
     ai (both (iE (0:Int) (Int.ofNat (List.length a0.2.2.1))) (iE (Int.ofNat (List.length a0.2.2.1)) (Int.ofNat (List.length a1.1))))<|
     ao (F4 ((List.take (Int.toNat (Int.ofNat (List.length a0.2.2.1))) a1.1),())) fun x2=>
     ai (both (iE (0:Int) (Int.ofNat (List.length a0.2.2.1))) (iE (Int.ofNat (List.length a0.2.2.1)) (Int.ofNat (List.length a1.1))))<|
     ao (L12 ((List.drop (Int.toNat (Int.ofNat (List.length a0.2.2.1))) a1.1),(cO a0,((Int.ofNat (List.length (cO a0))),((0:Int),(x2.1,([],()))))))) fun x3=>
     some (x3,((0:Int),()))))))
def adF(c0:zS)(c1:rY)(c2:qN)(c3:wE)(c4:wA)(M12:HU)(M16:zz):Ij:=⟨u2 (adE c0.F c1.F c2.F c3.F c4.F M12.L M16.L),pD Tryz.func30 96 (kD c0 (kD c1 (kD c2 (kB c3 (kB c4 k0))))) e0 1 (sS (sC M12 l0)) fun d=>by kernel_rfl⟩
def S5:Ij:=adF ID uT sU wD sO adn SO
def adv:S6:=S5.F
abbrev yY:Lay:={ T:=[(1,.ptr 0 0),(3,.int .i64),(4,.int .i64)],h:=[(0,.cells jf 27)],nx:=1 }
abbrev yP:List (Ev.Ex×Lay):=[((.exit 0),{ T:=[(3,.int .i64)],h:=[],nx:=0 })]
abbrev Sj:=TL yY.σs->Option (Out yP)
abbrev G0:=Ld 0 44 (bI [0] (bh Tryz.f55)) yY yP
abbrev rW:Lay:={ T:=[(1,.ptr 0 0),(3,.int .i64),(4,.int .i64),(5,.int .i64),(6,.int .i64)],h:=[(0,.cells jf 27)],nx:=1 }
abbrev uC:List (Ev.Ex×Lay):=[((.exit 2),{ T:=[(1,.ptr 0 0),(3,.int .i64),(4,.int .i64),(5,.int .i64)],h:=[(0,.cells jf 27)],nx:=1 })]
abbrev G6:=TL rW.σs->Option (Out uC)
abbrev G4:=Ld 0 44 (bI [0,0] (bh Tryz.f55)) rW uC
def GZ(t3 t4 t5 t6 aw:Int)(aG:List Int)(aT:List (Sh.T ae))(aP aW ba:List Int)(aD:List (Sh.T ab))(aM:List (Sh.T ae)):Option (TL rW.σs⊕Out uC):=
 ai (av t4 (List.length aD))<|
 br (iL t6 (gt ab aD t4).1)
 (
  br (bn true (iL t5 (1000:Int)) false)
  (
   some (.inl (t3,(t4,((IntKind.wrap .i64 ((2:Int)*t5)),((IntKind.wrap .i64 (t6+(1:Int))),(aw,(aG,(aT,(aP,(aW,(ba,(aD,(aM,()))))))))))))))
  (
   some (.inr (t3,(t4,(t5,(aw,(aG,(aT,(aP,(aW,(ba,(aD,(aM,()))))))))))))))
 (
  some (.inr (t3,(t4,(t5,(aw,(aG,(aT,(aP,(aW,(ba,(aD,(aM,())))))))))))))
def Si  :G4:=bN (mO GZ) (pL k0 e0 1 l0 fun d=>by kernel_rfl)
def G5:G6:=aX (mO GZ) NN
def Se(L9:G6)(t3 t4 aw:Int)(aG:List Int)(aT:List (Sh.T ae))(aP aW ba:List Int)(aD:List (Sh.T ab))(aM:List (Sh.T ae)):Option (TL yY.σs⊕Out yP):=
 br (iL t4 (Int.ofNat (List.length aD)))
 (
  ai (av t4 (List.length aD))<|
  ao (L9 (t3,(t4,((gt ab aD t4).2.1,((0:Int),(aw,(aG,(aT,(aP,(aW,(ba,(aD,(aM,()))))))))))))) fun x0=>
  some (.inl ((IntKind.wrap .i64 (@HAdd.hAdd (Int) (Int) (Int) _ x0.1 x0.2.2.1)),((IntKind.wrap .i64 (@HAdd.hAdd (Int) (Int) (Int) _ x0.2.1 (1:Int))),rN x0))))
 (
  some (.inr (t3,())))
def acO(M9:G4):G0:=bN (kU (Se M9.L)) (pL k0 e0 1 (sC M9 l0) fun d=>by kernel_rfl)
def acP:G0:=acO  Si
def Sf:Sj:=aX (kU (Se G5)) NN
abbrev Sk:List Sh:=[ca]
abbrev y4:List Sh:=[(.int .i64)]
abbrev Sr:=TL Sk->Option (TL y4)
abbrev Hf:=Kd 55 Sk y4
def acU(F0:Cb)(L5:Sj)(L9:G6)(a0:Sh.T ca):Option (TL y4):=
 ao (F0 (a0,())) fun x0=>
 br (Bool.not (iQ x0.1 (0:Int)))
 (
  some ((0:Int),()))
 (
  ao (L5 ((0:Int),((0:Int),a0))) fun x1=>
  some ((du (iL (1000:Int) x1.1) (1000:Int) x1.1),()))
def acV(c0:wh)(M5:G0)(M9:G4):Hf:=⟨u1 (acU c0.F M5.L M9.L),pD Tryz.func55 44 (kD c0 k0) e0 1 (sS (sC M5 l0)) fun d=>by kernel_rfl⟩
def Sq:Hf:=acV Cc acP Si
def acN:Sr:=Sq.F
abbrev yW:Lay:={ T:=[(2,.ptr 0 0),(4,.ptr 1 0),(7,.ptr 2 0),(8,.fz .bool),(9,.int .i64)],h:=[(0,.cells jf 27),(1,.cells [.bk,.bk] 40),(2,.cells [.hd 3 .bool,.hd 4 (.sl aA)] 40),(3,.arr .bool 4),(4,.arr (.sl aA) 104)],nx:=5 }
abbrev yN:List (Ev.Ex×Lay):=[((.exit 0),{ T:=[(4,.ptr 0 0),(7,.ptr 1 0)],h:=[(0,.cells [.bk,.bk] 40),(1,.cells [.hd 2 .bool,.hd 3 (.sl aA)] 40),(2,.arr .bool 4),(3,.arr (.sl aA) 104)],nx:=4 })]
abbrev Sd:=TL yW.σs->Option (Out yN)
abbrev GV:=Ld 0 104 (bI [0] (bh Tryz.f115)) yW yN
abbrev yX:Lay:={ T:=[(2,.ptr 0 0),(4,.ptr 1 0),(7,.ptr 2 0),(8,.fz .bool),(9,.int .i64),(10,.hd 5 aA),(11,.int .u64)],h:=ab4,nx:=6 }
abbrev yO:List (Ev.Ex×Lay):=[((.exit 2),{ T:=[(2,.ptr 0 0),(4,.ptr 1 0),(7,.ptr 2 0),(8,.fz .bool),(9,.int .i64),(10,.hd 5 aA)],h:=ab4,nx:=6 })]
abbrev GY:=TL yX.σs->Option (Out yO)
abbrev y2:=Ld 0 104 (bI [0,0] (bh Tryz.f115)) yX yO
def Sb(F0:MY)(F1:wi)(t8:List Bool)(t9 t11 aw:Int)(aG:List Int)(aT:List (Sh.T ae))(aP aW ba:List Int)(aD:List (Sh.T ab))(aM:List (Sh.T ae))(b3:List Bool)(b4:List (List (Sh.T aA)))(b5:List (Sh.T aA)):Option (TL yX.σs⊕Out yO):=
 ai (av t9 (List.length aD))<|
 ao (F1 (t11,((gt ab aD t9).1,()))) fun x0=>
 br x0.1
 (
  ai (av t9 (List.length aD))<|
  ai (both (iE (0:Int) (gt ab aD t9).2.1) (iE (gt ab aD t9).2.1 (Int.ofNat (List.length t8))))<|
  ao (F0 ((List.take (Int.toNat (gt ab aD t9).2.1) t8),())) fun x1=>
  ai (av t9 (List.length aD))<|
  ai (both (iE (0:Int) (gt ab aD t9).2.1) (iE (gt ab aD t9).2.1 (Int.ofNat (List.length t8))))<|
  br (Bool.not (iQ x1.1 (0:Int)))
  (
   ai (room 16 (List.length (ap b5 ((t11,(x1.1,()))::[]))))<|
   some (.inl ((List.drop (Int.toNat (gt ab aD t9).2.1) t8),(t9,((IntKind.wrap .u64 (t11+(1:Int))),(aw,(aG,(aT,(aP,(aW,(ba,(aD,(aM,(b3,(b4,((ap b5 ((t11,(x1.1,()))::[])),()))))))))))))))))
  (
   some (.inl ((List.drop (Int.toNat (gt ab aD t9).2.1) t8),(t9,((IntKind.wrap .u64 (t11+(1:Int))),(aw,(aG,(aT,(aP,(aW,(ba,(aD,(aM,(b3,(b4,(b5,())))))))))))))))))
 (
  some (.inr (t8,(t9,(aw,(aG,(aT,(aP,(aW,(ba,(aD,(aM,(b3,(b4,(b5,())))))))))))))))
def acL(c0:CX)(c1:sM) :y2:=bN (i7 (Sb c0.F c1.F)) (pL (kD c0 (kD c1 k0)) e0 1 l0 fun d=>by kernel_rfl)
def Sc:y2:=acL MZ wj
def GX:GY:=aX (i7 (Sb MV xD)) NN
def Sa(L15:GY)(t8:List Bool)(t9 aw:Int)(aG:List Int)(aT:List (Sh.T ae))(aP aW ba:List Int)(aD:List (Sh.T ab))(aM:List (Sh.T ae))(b3:List Bool)(b4:List (List (Sh.T aA))):Option (TL yW.σs⊕Out yN):=
 br (iL t9 (Int.ofNat (List.length aD)))
 (
  ao (L15 (t8,(t9,((0:Int),(aw,(aG,(aT,(aP,(aW,(ba,(aD,(aM,(b3,(b4,([],()))))))))))))))) fun x0=>
  ai (room 24 (List.length (ap (jg x0) ((fF x0)::[]))))<|
  some (.inl (x0.1,((IntKind.wrap .i64 (@HAdd.hAdd (Int) (Int) (Int) _ x0.2.1 (1:Int))),(x0.2.2.1,(cJ x0,(cK x0,(cT x0,(cO x0,(dt x0,(dX x0,(fu x0,(dD x0,((ap (jg x0) ((fF x0)::[])),()))))))))))))))
 (
  some (.inr (b3,(b4,()))))
def acK(M15:y2):GV:=bN (mO (Sa M15.L)) (pL k0 e0 1 (sC M15 l0) fun d=>by kernel_rfl)
def acM:GV:=acK  Sc
def GW:Sd:=aX (mO (Sa GX)) NN
abbrev Sn:List Sh:=[ca,gK]
abbrev He:List Sh:=[gK,(.int .i64)]
abbrev ac2:=TL Sn->Option (TL He)
abbrev Sy:=Kd 115 Sn He
def acZ(F0:MY)(F1:wi)(F2:Sr)(F3:Cb)(L11:Sd)(L15:GY)(a0:Sh.T ca)(a1:Sh.T gK):Option (TL He):=
 ao (F3 (a0,())) fun x0=>
 br (Bool.not (iQ x0.1 (0:Int)))
 (
  some (([],([],())),(x0.1,())))
 (
  ao (F2 (a0,())) fun x1=>
  br (iL (64:Int) x1.1)
  (
   some (([],([],())),((17:Int),())))
  (
   ao (F2 (a0,())) fun x2=>
   br (Bool.not (iQ (Int.ofNat (List.length a1.1)) (IntKind.wrap .i64 (@HAdd.hAdd (Int) (Int) (Int) _ (Int.ofNat (List.length a0.2.2.1)) x2.1))))
   (
    some (([],([],())),((14:Int),())))
   (
    br (bn false true (Bool.not (iQ (Int.ofNat (List.length a1.2.1)) (0:Int))))
    (
     some (([],([],())),((14:Int),())))
    (
     ai (both (iE (0:Int) (Int.ofNat (List.length a0.2.2.1))) (iE (Int.ofNat (List.length a0.2.2.1)) (Int.ofNat (List.length a1.1))))<|
     ai (room 1 (List.length (ap [] (List.take (Int.toNat (Int.ofNat (List.length a0.2.2.1))) a1.1))))<|
     ai (both (iE (0:Int) (Int.ofNat (List.length a0.2.2.1))) (iE (Int.ofNat (List.length a0.2.2.1)) (Int.ofNat (List.length a1.1))))<|
     ao (L11 ((List.drop (Int.toNat (Int.ofNat (List.length a0.2.2.1))) a1.1),((0:Int),(a0.1,(a0.2.1,(a0.2.2.1,(cJ a0,(cK a0,(cT a0,(cO a0,(dt a0,((ap [] (List.take (Int.toNat (Int.ofNat (List.length a0.2.2.1))) a1.1)),([],()))))))))))))) fun x3=>
     some (x3,((0:Int),()))))))
def ac0(c0:CX)(c1:sM)(c2:Hf)(c3:wh)(M11:GV)(M15:y2):Sy:=⟨u2 (acZ c0.F c1.F c2.F c3.F M11.L M15.L),pD Tryz.func115 104 (kD c0 (kD c1 (kD c2 (kD c3 k0)))) e0 1 (sS (sC M11 l0)) fun d=>by kernel_rfl⟩
def ac1:Sy:=ac0 MZ wj Sq Cc acM Sc
def acT:ac2:=ac1.F
open Go.Proofs.YtkcpdpplobhpaaaGreat.Pl
def iT(x:Int):Int:=if 1000<x then 1000 else x
def tP(m:aV):Int:=if 10<=m.addr then 1000 else m.word*2^m.addr.toNat
def eE(w:Int):Nat->Int
 |0=>w|k+1=>if eE w k<1000 then 2*eE w k else eE w k
def fy(l:List aV):Int:=l.foldl (fun a m=>a+tP m) 0
def mr(l:List aV):Int:=l.foldl (fun a m=>a+eE m.word m.addr.toNat) 0
def qG(t u:Int):Prop:=t=u\/(1000<=t/\1000<=u)
theorem ae1{t u:Int}(h:qG t u):iT t=iT u:=by
 unfold iT;rcases h with rfl|⟨h1,h2⟩
 .rfl
 .split<;>split<;>omega
theorem afL(k:Nat):(1:Int)<=2^k:=by have:=Int.pow_pos (n:=(2:Int)) (m:=k) (by decide);omega
theorem Ak{w a b:Int}(hw:0<=w)(h:a<=b):w*a<=w*b:=Int.mul_le_mul_of_nonneg_left h hw
theorem agk{w:Int}(hw:1<=w):∀k,eE w k=w*2^k\/(1000<=eE w k/\1000<=w*2^k):=by
 intro k
 induction k with
 |zero=>left;rw[eE];simp|succ k ih=>
  have e:w*2^(k+1)=2*(w*2^k):=by rw[Int.pow_succ];rw[<-Int.mul_assoc,Int.mul_comm]
  rw[eE,e];split
  .rename_i q;rcases ih with h|⟨h1,h2⟩
   .left;rw[h]
   .omega
  .rename_i q;right;rcases ih with h|⟨h1,h2⟩<;>omega
theorem Ax{w:Int}(hw:1<=w):∀k,w<=eE w k:=by
 intro k
 induction k with|zero=>rw[eE];omega|succ k ih=>rw[eE];split<;>omega
theorem Jd{w:Int}(hw:w<=64):∀k,eE w k<=2000:=by
 intro k
 induction k with|zero=>rw[eE];omega|succ k ih=>rw[eE];split<;>omega
theorem ae4{w:Int}{k:Nat}(h:1000<=eE w k):∀j,eE w (k+j)=eE w k:=by
 intro j
 induction j with|zero=>rfl|succ j ih=>rw[show k+(j+1)=k+j+1 by omega,eE,ih,if_neg (by omega)]
theorem afz{m:aV}(h1:1<=m.addr)(h2:1<=m.word):qG (tP m) (eE m.word m.addr.toNat):=by
 have r:=agk h2 m.addr.toNat;unfold tP;split
 .rename_i q;right;have p:(2:Int)^10<=2^m.addr.toNat:=by
   have:=Nat.pow_le_pow_right (n:=2) (by decide) (show 10<=m.addr.toNat by omega)
   exact_mod_cast this
  have p2:(2:Int)^10=1024:=by decide
  have p3:=Ak (w:=m.word) (by omega) p;have p4:=Ak (w:=1024) (a:=1) (b:=m.word) (by omega) h2;rw[p2]at p3;have p5:m.word*1024=1024*m.word:=Int.mul_comm ..;rcases r with h|⟨a,b⟩<;>omega
 .rcases r with h|⟨a,b⟩
  .left;exact h.symm
  .right;exact⟨b,a⟩
theorem AH{m:aV}(h1:1<=m.addr)(h2:1<=m.word)(h3:m.word<=64):0<=tP m/\tP m<=40000:=by
 unfold tP;split
 .omega
 .have p:(2:Int)^m.addr.toNat<=2^9:=by
   have:=Nat.pow_le_pow_right (n:=2) (by decide) (show m.addr.toNat<=9 by omega)
   exact_mod_cast this
  have p2:(2:Int)^9=512:=by decide
  have p3:=Ak (w:=m.word) (by omega) p;have p4:=Ak (w:=m.word) (by omega) (afL m.addr.toNat);rw[p2]at p3;omega
theorem afy{a b c d:Int}(h1:qG a b)(h2:qG c d)(ha:0<=a)(hb:0<=b)(hc:0<=c)(hd:0<=d):qG (a+c) (b+d):=by
 rcases h1 with h1|h1<;>rcases h2 with h2|h2
 .left;omega
 .right;omega
 .right;omega
 .right;omega
theorem afZ:∀(l:List aV) (a b:Int),(∀m∈l,1<=m.addr/\1<=m.word/\m.word<=64)->qG a b->0<=a->0<=b->qG (l.foldl (fun a m=>a+tP m) a) (l.foldl (fun a m=>a+eE m.word m.addr.toNat) b):=by
 intro l
 induction l with|nil=>intro a b _ h _ _;exact h|cons m l ih=>intro a b hl h ha hb;obtain⟨h1,h2,h3⟩:=hl m (by simp);have t:=AH h1 h2 h3;have u:=Ax h2 m.addr.toNat;exact ih _ _ (fun x hx=>hl x (by simp[hx])) (afy h (afz h1 h2) ha hb t.1 (by omega)) (show 0<=a+tP m by omega) (show 0<=b+eE m.word m.addr.toNat by omega)
theorem Au:∀(l:List aV) (a:Int),(∀m∈l,1<=m.addr/\1<=m.word/\m.word<=64)->a<=l.foldl (fun a m=>a+tP m) a/\l.foldl (fun a m=>a+tP m) a<=a+40000*(l.length:Int):=by
 intro l
 induction l with|nil=>intro a _;exact⟨Int.le_refl _,by simp⟩|cons m l ih=>intro a hl;obtain⟨h1,h2,h3⟩:=hl m (by simp);have t:=AH h1 h2 h3;obtain⟨x,y⟩:=ih (a+tP m) (fun x hx=>hl x (by simp[hx]));rw[List.foldl_cons,cp];omega
theorem afY:∀(l:List aV) (a:Int),(∀m∈l,1<=m.addr/\1<=m.word/\m.word<=64)->a<=l.foldl (fun a m=>a+eE m.word m.addr.toNat) a/\l.foldl (fun a m=>a+eE m.word m.addr.toNat) a<=a+2000*(l.length:Int):=by
 intro l
 induction l with|nil=>intro a _;exact⟨Int.le_refl _,by simp⟩|cons m l ih=>intro a hl;obtain⟨h1,h2,h3⟩:=hl m (by simp);have t:=Ax h2 m.addr.toNat;have t2:=Jd h3 m.addr.toNat;obtain⟨x,y⟩:=ih (a+eE m.word m.addr.toNat) (fun x hx=>hl x (by simp[hx]));rw[List.foldl_cons,cp];omega
def dA(n:aB):Int:=if Pl.dF n≠0 then 0 else iT (fy n.aa)
section
variable{n:aB}{V:Nat}(hs:cr n V)
include hs
theorem mS:∀m∈n.aa,1<=m.addr/\1<=m.word/\m.word<=64:=fun m hm=>by obtain⟨m1,m2,m3,m4,_⟩:=hs.aa m hm;exact⟨m1,m3,m4⟩
end
section
variable{n:aB}{V:Nat}
theorem I8(x:Int):du (iL (1000:Int) x) (1000:Int) x=iT x:=by
 unfold iT du;by_cases q:1000<x
 .rw[if_pos q,show iL (1000:Int) x=true from ar q]
 .rw[if_neg q,show iL (1000:Int) x=false from au q]
end
section
variable{n:aB}{V:Nat}(hs:cr n V)
include hs
theorem ag6:ad4 ((0:Int),([],([],([],([],([],(n.aa.map af,([],()))))))))=some (fy n.aa,()):=by
 have hM:=hs.lens.2.2.2.2;have hL:((n.aa.map af).length:Int)=(n.aa.length:Int):=by rw[aI]
 have e2:Tx ((0:Int),(n.aa.map af,(((n.aa.map af).length:Int),((0:Int),()))))=some (fy n.aa,()):=by
  unfold Tx;delta u4;refine dn (fun k:Nat=>(fy (n.aa.take k),(n.aa.map af,(((n.aa.map af).length:Int),((k:Int),()))))) n.aa.length rfl ?_ ?_ (bL (by omega))
  .intro k hk;have hx:=aN hk;obtain⟨h1,h2,h3⟩:=mS hs _ (dk hk);have t:=AH h1 h2 h3;have hx':(n.aa.map af)[k]?=some (af n.aa[k]):=by rw[bT,hx];rfl
   have g:gt ab (n.aa.map af) (k:Int)=af n.aa[k]:=bF (σ:=ab) hx';have eb:Il (af n.aa[k],())=some (tP n.aa[k],()):=by
    show Ix (af n.aa[k])=_;unfold Ix tP;by_cases q:10<=n.aa[k].addr
    .rw[if_pos q];exact ax (ar q) rfl
    .rw[if_neg q];have e:∀p q:Int,p=q->(some (p,()):Option (TL zL))=some (q,()):=by rintro _ _ rfl;rfl
     refine ag (au q) (ak (ar (show(0:Int)<=n.aa[k].addr by omega)) (e _ _ ?_));show IntKind.wrap .i64 (n.aa[k].word*2^min (Int.toNat n.aa[k].addr) 64)=_;rw[Nat.min_eq_left (by omega)];unfold tP at t;rw[if_neg q]at t;exact cf (by omega)
   have eb':Il (((gt ab (n.aa.map af) (k:Int)).1,((gt ab (n.aa.map af) (k:Int)).2.1,((gt ab (n.aa.map af) (k:Int)).2.2.1,((gt ab (n.aa.map af) (k:Int)).2.2.2.1,((gt ab (n.aa.map af) (k:Int)).2.2.2.2.1,()))))),())=some (tP n.aa[k],()):=by rw[g];exact eb
   have hr:=Au (n.aa.take k) 0 (fun m hm=>mS hs m (List.mem_of_mem_take hm));have hl:(n.aa.take k).length<=4:=by rw[dx];omega
   have hst:fy (n.aa.take (k+1))=fy (n.aa.take k)+tP n.aa[k]:=by unfold fy;rw[Pl.dy hx,List.foldl_append];rfl
   have e:∀(a b p q:Int),a=b->p=q->(some (.inl (a,(n.aa.map af,(((n.aa.map af).length:Int),(p,()))))):Option (TL uY.σs⊕Out uW))=some (.inl (b,(n.aa.map af,(((n.aa.map af).length:Int),(q,()))))):=by rintro _ _ _ _ rfl rfl;rfl
   have hr:0<=fy (n.aa.take k)/\fy (n.aa.take k)<=0+40000*((n.aa.take k).length:Int):=hr;refine ax (ar (show(k:Int)<((n.aa.map af).length:Int) by omega)) (ak (show av (k:Int) (List.length (n.aa.map af))=true from aK ⟨by omega,by omega⟩) (ah eb' (e _ _ _ _ ?_ (bR (show(k:Int)+1=((k+1:Nat):Int) by omega) (by omega)))));rw[hst];exact cf (by omega)
  .have e:∀(a b:Int),a=b->(some (.inr (a,())):Option (TL uY.σs⊕Out uW))=some (.inr (b,())):=by rintro _ _ rfl;rfl
   rw[dS];exact ag (au (show ¬(n.aa.length:Int)<((n.aa.map af).length:Int) by omega)) rfl
 exact ah e2 rfl
theorem aeU:ad1 (((0:Int),([],([],([],([],([],(n.aa.map af,([],())))))))),())=some (iT (fy n.aa),()):=by
 have hM:=hs.lens.2.2.2.2;have e1:=ag6 hs;have hr:=Au n.aa 0 (mS hs);have hr:0<=fy n.aa/\fy n.aa<=0+40000*(n.aa.length:Int):=hr;have w:IntKind.wrap .i64 (((0:Nat):Int)+fy n.aa)=fy n.aa:=by rw[show((0:Nat):Int)+fy n.aa=fy n.aa by omega];exact cf (by omega)
 have e:∀(a b:Int),a=b->(some (a,()):Option (TL zT))=some (b,()):=by rintro _ _ rfl;rfl
 refine ah e1 (e _ _ ?_);show du (iL (1000:Int) (IntKind.wrap .i64 (((0:Nat):Int)+fy n.aa))) (1000:Int) (IntKind.wrap .i64 (((0:Nat):Int)+fy n.aa))=_;rw[w];exact I8 _
theorem ahR{k:Nat}{m:aV}(hm:n.aa[k]?=some m)(acc:Int) :
  G5 (acc,((k:Int),(m.word,((0:Int),nt n ()))))=some (acc,((k:Int),(eE m.word m.addr.toNat,nt n ()))):=by
 obtain⟨h1,h2,h3⟩:=mS hs m (dc hm);obtain⟨_,h4,_⟩:=hs.aa m (dc hm);have hk:=dz hm;have hL:((n.aa.map af).length:Int)=(n.aa.length:Int):=by rw[aI]
 have hM:=hs.lens.2.2.2.2;have hx':(n.aa.map af)[k]?=some (af m):=by rw[bT,hm];rfl
 have g:gt ab (n.aa.map af) (k:Int)=af m:=bF (σ:=ab) hx';have aY:av (k:Int) (List.length (n.aa.map af))=true:=aK ⟨by omega,by omega⟩;have hq:=mW (B:=fun d=>GZ d.1 d.2.1 d.2.2.1 d.2.2.2.1 d.2.2.2.2.1 d.2.2.2.2.2.1 d.2.2.2.2.2.2.1 d.2.2.2.2.2.2.2.1 d.2.2.2.2.2.2.2.2.1 d.2.2.2.2.2.2.2.2.2.1 d.2.2.2.2.2.2.2.2.2.2.1 d.2.2.2.2.2.2.2.2.2.2.2.1)
  (I:=fun d:TL rW.σs=>∃j:Nat,j<=m.addr.toNat/\d=(acc,((k:Int),(eE m.word j,((j:Int),nt n ())))))
  (Q:=fun o:Out uC=>o=(acc,((k:Int),(eE m.word m.addr.toNat,nt n ()))))
  (fun d:TL rW.σs=>m.addr.toNat-Int.toNat d.2.2.2.1) ?_ NN (acc,((k:Int),(m.word,((0:Int),nt n ())))) ⟨0,by omega,rfl⟩ (bL (by show m.addr.toNat-_<=_;omega))
 .obtain⟨o,ho,rfl⟩:=hq;exact ho
 .rintro d ⟨j,hj,rfl⟩;have e0:(gt ab (n.aa.map af) (k:Int)).1=m.addr:=by rw[g];rfl
  by_cases q:j<m.addr.toNat
  .have c0:iL (j:Int) (gt ab (n.aa.map af) (k:Int)).1=true:=ar (by rw[e0];omega);have lo:=Ax h2 j;have up:=Jd h3 j;by_cases r:eE m.word j<1000
   .refine .inr ⟨(acc,((k:Int),(eE m.word (j+1),(((j+1:Nat):Int),nt n ())))),?_,⟨j+1,by omega,rfl⟩,by show m.addr.toNat-Int.toNat ((j+1:Nat):Int)<m.addr.toNat-Int.toNat (j:Int);omega⟩;have e:∀(a b p q:Int),a=b->p=q->(some (.inl (acc,((k:Int),(a,(p,nt n ()))))):Option (TL rW.σs⊕Out uC))=some (.inl (acc,((k:Int),(b,(q,nt n ()))))):=by rintro _ _ _ _ rfl rfl;rfl
    refine ak aY (ax c0 (ax (show bn true (iL (eE m.word j) (1000:Int)) false=true from ar r) (e _ _ _ _ ?_ (bR (show(j:Int)+1=((j+1:Nat):Int) by omega) (by omega)))));rw[eE,if_pos r];exact cf (x:=2*eE m.word j) (by omega)
   .refine .inl ⟨_,ak aY (ax c0 (ag (show bn true (iL (eE m.word j) (1000:Int)) false=false from au r) rfl)),?_⟩;have:=ae4 (w:=m.word) (k:=j) (by omega) (m.addr.toNat-j);rw[show j+(m.addr.toNat-j)=m.addr.toNat by omega]at this;rw[this];rfl
  .obtain rfl:j=m.addr.toNat:=by omega
   exact .inl ⟨_,ak aY (ag (au (show ¬((m.addr.toNat:Nat):Int)<(gt ab (n.aa.map af) (k:Int)).1 by rw[e0];omega)) rfl),rfl⟩
theorem ahQ:Sf ((0:Int),((0:Int),nt n ()))=some (mr n.aa,()):=by
 have hM:=hs.lens.2.2.2.2;have hL:((n.aa.map af).length:Int)=(n.aa.length:Int):=by rw[aI]
 unfold Sf;delta kU;refine dn (fun k:Nat=>(mr (n.aa.take k),((k:Int),nt n ()))) n.aa.length rfl ?_ ?_ (bL (by omega))
 .intro k hk;have hx:=aN hk;have hx':(n.aa.map af)[k]?=some (af n.aa[k]):=by rw[bT,hx];rfl
  have g:gt ab (n.aa.map af) (k:Int)=af n.aa[k]:=bF (σ:=ab) hx';obtain⟨h1,h2,h3⟩:=mS hs _ (dk hk);have lo:=Ax h2 n.aa[k].addr.toNat;have up:=Jd h3 n.aa[k].addr.toNat;have e9:G5 (mr (n.aa.take k),((k:Int),((gt ab (n.aa.map af) (k:Int)).2.1,((0:Int),nt n ()))))=some (mr (n.aa.take k),((k:Int),(eE n.aa[k].word n.aa[k].addr.toNat,nt n ()))):=by rw[g];exact ahR hs hx _
  have hr:0<=mr (n.aa.take k)/\mr (n.aa.take k)<=0+2000*((n.aa.take k).length:Int):=afY (n.aa.take k) 0 (fun m hm=>mS hs m (List.mem_of_mem_take hm));have hl:(n.aa.take k).length<=4:=by rw[dx];omega
  have hst:mr (n.aa.take (k+1))=mr (n.aa.take k)+eE n.aa[k].word n.aa[k].addr.toNat:=by unfold mr;rw[Pl.dy hx,List.foldl_append];rfl
  have e:∀(a b p q:Int),a=b->p=q->(some (.inl (a,(p,nt n ()))):Option (TL yY.σs⊕Out yP))=some (.inl (b,(q,nt n ()))):=by rintro _ _ _ _ rfl rfl;rfl
  refine ax (ar (show(k:Int)<((n.aa.map af).length:Int) by omega)) (ak (show av (k:Int) (List.length (n.aa.map af))=true from aK ⟨by omega,by omega⟩) (ah e9 (e _ _ _ _ ?_ (bR (show(k:Int)+1=((k+1:Nat):Int) by omega) (by omega)))));rw[hst];exact cf (x:=mr (n.aa.take k)+eE n.aa[k].word n.aa[k].addr.toNat) (by omega)
 .rw[dS];exact ag (au (show ¬(n.aa.length:Int)<((n.aa.map af).length:Int) by omega)) rfl
end
section
variable{n:aB}(ft:Fit n)
include ft
theorem I0:ado (cH n,())=some (dA n,()):=by
 have ec:=xZ ft;unfold dA;by_cases hc:Pl.dF n=0
 .rw[if_neg (fun q=>q hc)];unfold Pl.dF at hc;have h0:dv n=0:=by
   by_cases q:dv n=0
   .exact q
   .rw[if_pos q]at hc;exact absurd hc q
  obtain⟨V,hs⟩:=qK h0;have eb:=aeU hs;have hc':Pl.dF n=0:=by unfold Pl.dF;exact hc
  have e:∀(a b:Int),a=b->(some (a,()):Option (TL zA))=some (b,()):=by rintro _ _ rfl;rfl
  refine ah ec (ag (fQ (ar hc')) (ah eb (e _ _ ?_)));show du (iL (1000:Int) (iT (fy n.aa))) (1000:Int) (iT (fy n.aa))=_;rw[I8];unfold iT;split
  .rfl
  .rfl
 .rw[if_pos hc];exact ah ec (ax (ke (au hc)) rfl)
theorem aea:acN (cH n,())=some (dA n,()):=by
 have ec:=QQ ft;unfold dA;by_cases hc:Pl.dF n=0
 .rw[if_neg (fun q=>q hc)];have hc':=hc;unfold Pl.dF at hc;have h0:dv n=0:=by
   by_cases q:dv n=0
   .exact q
   .rw[if_pos q]at hc;exact absurd hc q
  obtain⟨V,hs⟩:=qK h0;have e5:=ahQ hs;have e:∀(a b:Int),a=b->(some (a,()):Option (TL y4))=some (b,()):=by rintro _ _ rfl;rfl
  refine ah ec (ag (fQ (ar hc')) (ah e5 (e _ _ ?_)));show du (iL (1000:Int) (mr n.aa)) (1000:Int) (mr n.aa)=_;rw[I8];exact(ae1 (afZ n.aa 0 0 (mS hs) (.inl rfl) (by omega) (by omega))).symm
 .rw[if_pos hc];exact ah ec (ax (ke (au hc)) rfl)
end
def nL(m:aV)(c:List aJ)(a:Nat):List Bool:=gG (rd c ((a:Nat):Int)).toNat m.word.toNat
def j3(m:aV)(c:List aJ)(k:Nat):List Bool:=(List.range k).flatMap (nL m c)
theorem Ji(L:List Bool)(h:L.length<=100000):room 1 (List.length ([]++L))=true:=by rw[List.nil_append];exact l9 (by omega) (by omega)
def mz:aV:=⟨0,0,false,[],[]⟩
def bS(n:aB)(ls:List Bool)(cs:List (List aJ))(k:Nat):List Bool:=ls++(List.range k).flatMap fun i=>j3 (n.aa.getD i mz) (cs.getD i []) (2^(n.aa.getD i mz).addr.toNat)
theorem IZ(m:aV)(c:List aJ)(k:Nat):j3 m c (k+1)=j3 m c k++nL m c k:=by unfold j3;rw[List.range_succ,List.flatMap_append];simp
theorem Aj(m:aV)(c:List aJ):∀k,(j3 m c k).length=k*m.word.toNat:=by
 intro k
 induction k with|zero=>simp[j3]|succ k ih=>rw[IZ,aU,ih,Nat.succ_mul];unfold nL;rw[qP]
theorem Ar(n:aB)(ls:List Bool)(cs:List (List aJ)){k:Nat}{m:aV}{c:List aJ}(hm:n.aa[k]?=some m)(hc:cs[k]?=some c):bS n ls cs (k+1)=bS n ls cs k++j3 m c (2^m.addr.toNat):=by unfold bS;rw[List.range_succ,List.flatMap_append,<-cz];congr 1;simp only[List.flatMap_cons,List.flatMap_nil,dB];rw[bM,bM,hm,hc];rfl
theorem aiv(c:List aJ)(a:Int):rd c a=0\/∃p∈c,rd c a=p.2.1:=by
 induction c with
 |nil=>exact .inl rfl|cons p c ih=>
  rw[mh];by_cases q:p.1=a
  .rw[if_pos q];exact .inr ⟨p,by simp,rfl⟩
  .rw[if_neg q];rcases ih with h|⟨r,hr,h⟩
   .exact .inl h
   .exact .inr ⟨r,by simp[hr],h⟩
theorem aeV{c:List aJ}{i:Nat}{p:aJ}(h:c[i]?=some p):ez c (i:Int)=p.1/\ib c (i:Int)=p.2.1:=by have g:gt aA c (i:Int)=p:=bF (σ:=aA) h;unfold ez ib;rw[g];exact⟨rfl,rfl⟩
theorem ahO{c:List aJ}(h:oh c)(a:Int):0<=rd c a/\rd c a<=18446744073709551615:=by
 rcases aiv c a with e|⟨p,hp,e⟩
 .omega
 .obtain⟨i,hi⟩:=List.getElem?_of_mem hp;have hw:=(h i (dz hi)).2;rw[(aeV hi).2]at hw;omega
structure Small(m:aV):Prop where
 a1:1<=m.addr
 a2:m.addr<10
 w1:1<=m.word
 w2:m.word<=64
 sz:m.word*2^m.addr.toNat<=64
theorem Small.nat{m:aV}(h:Small m):2^m.addr.toNat*m.word.toNat<=64/\1<=2^m.addr.toNat:=by
 have hp:(1:Nat)<=2^m.addr.toNat:=Nat.pos_of_ne_zero (by simp);refine⟨?_,hp⟩;have e:((2^m.addr.toNat*m.word.toNat:Nat):Int)=m.word*2^m.addr.toNat:=by
  push_cast
  rw[show((m.word.toNat:Nat):Int)=m.word by have:=h.w1;omega,Int.mul_comm]
 have:=h.sz;omega
theorem Small.jw{m:aV}(h:Small m):2^m.addr.toNat<=64:=by have h1:=h.nat.1;have h2:2^m.addr.toNat*1<=2^m.addr.toNat*m.word.toNat:=Nat.mul_le_mul_left _ (by have:=h.w1;omega);omega
theorem afe:∀(l:List aV) (a:Int),(∀m∈l,1<=m.addr/\1<=m.word/\m.word<=64)->∀m∈l,a+tP m<=l.foldl (fun a m=>a+tP m) a:=by
 intro l
 induction l with
 |nil=>intro a _ m hm;cases hm
 |cons x l ih=>
  intro a hl m hm;obtain⟨h1,h2,h3⟩:=hl x (by simp);have t:=AH h1 h2 h3;have hl':∀m∈l,1<=m.addr/\1<=m.word/\m.word<=64:=fun y hy=>hl y (by simp[hy]);rw[List.foldl_cons];rcases List.mem_cons.1 hm with rfl|hm
  .exact(Au l (a+tP m) hl').1
  .have:=ih (a+tP x) hl' m hm;omega
section
variable{n:aB}{V:Nat}(hs:cr n V)
include hs
theorem Aq(h:iT (fy n.aa)<=64):∀m∈n.aa,Small m:=by
 intro m hm;have h2:fy n.aa<=64:=by unfold iT at h;split at h<;>omega
 have h3:=afe n.aa 0 (mS hs) m hm;have h3:0+tP m<=fy n.aa:=h3;obtain⟨m1,m2,m3⟩:=mS hs m hm;unfold tP at h3;by_cases q:10<=m.addr
 .rw[if_pos q]at h3;omega
 .rw[if_neg q]at h3;exact⟨m1,by omega,m2,m3,by omega⟩
end
section
variable{n:aB}{V:Nat}
theorem ag0(ls:List Bool)(cs:List (List aJ))(hsm:∀m∈n.aa,Small m):∀k,k<=n.aa.length->k<=cs.length->(bS n ls cs k).length<=ls.length+64*k:=by
 intro k
 induction k with|zero=>intro _ _;simp[bS]|succ k ih=>intro hk hc;have hx:=List.getElem?_eq_getElem (l:=n.aa) (i:=k) (by omega);have hy:=List.getElem?_eq_getElem (l:=cs) (i:=k) (by omega);rw[Ar n ls cs hx hy,aU,Aj];have:=(hsm _ (dk (show k<n.aa.length by omega))).nat.1;have:=ih (by omega) (by omega);omega
end
section
variable{n:aB}{V:Nat}
theorem TX{m:aV}(h:Small m):IntKind.wrap .u64 ((1:Int)*(HPow.hPow (2:Int) (Min.min (Int.toNat m.addr) 64)))=((2^m.addr.toNat:Nat):Int):=by
 have h1:=h.a2;have h2:=h.a1;rw[Nat.min_eq_left (by omega),Int.one_mul];have hc:=h.jw;have e:((2^m.addr.toNat:Nat):Int)=(2:Int)^m.addr.toNat:=by push_cast;rfl
 have hp:(0:Int)<=(2:Int)^m.addr.toNat:=Int.le_of_lt (Int.pow_pos (by decide));have hc':(2:Int)^m.addr.toNat<=64:=by exact_mod_cast hc
 rw[e];exact mu ⟨hp,by omega⟩
end
section
variable{n:aB}{V:Nat}
theorem aiB{k:Nat}{m:aV}{c:List aJ}(hm:Small m)(hc:oh c)(L:Int)(ls:List Bool)(cs:List (List aJ))(acc:List Bool)(hacc:acc.length<=1000000)(ra:Int) :
  uR (n.aa.map af,(L,((k:Int),(((2^m.addr.toNat:Nat):Int),((0:Int),(ls,(cs,(acc,(m.addr,(m.word,(m.any,(m.reads.map bW,(m.writes.map bH,(ra,(m.word,(c,())))))))))))))))) =
   some (n.aa.map af,(L,((k:Int),(ls,(cs,(acc++j3 m c (2^m.addr.toNat),())))))):=by
 have hn:=hm.nat;have hcn:=hm.jw;unfold uR;delta u16;refine dn (fun j:Nat=>(n.aa.map af,(L,((k:Int),(((2^m.addr.toNat:Nat):Int),((j:Int),(ls,(cs,(acc++j3 m c j,(m.addr,(m.word,(m.any,(m.reads.map bW,(m.writes.map bH,(ra,(m.word,(c,()))))))))))))))))) (2^m.addr.toNat) (by have h:acc++j3 m c 0=acc:=dB acc;dsimp only;rw[h];try rfl) ?_ ?_ (bL (by omega))
 .intro j hj;have hr:=ahO hc (j:Int);have e1:rH ((j:Int),(ra,(m.word,(c,()))))=some (rd c (j:Int),(ra,(m.word,(c,())))):=by
   have e:∀p q:Int,p=q->(some (p,(ra,(m.word,(c,())))):Option (Out xL))=some (q,(ra,(m.word,(c,())))):=by rintro _ _ rfl;rfl
   exact e _ _ (vl c (j:Int))
  have hw1:=hm.w1;have hw2:=hm.w2;have e2:qS (rd c (j:Int),(m.word,()))=some (nL m c j,()):=by have:=T3 (rd c (j:Int)).toNat m.word.toNat (by omega) (by omega);rw[show(((rd c (j:Int)).toNat:Nat):Int)=rd c (j:Int) by omega,show((m.word.toNat:Nat):Int)=m.word by omega]at this;exact this
  have hl:(j3 m c j).length<=64:=by rw[Aj];have:j*m.word.toNat<=2^m.addr.toNat*m.word.toNat:=Nat.mul_le_mul_right _ (by omega);omega
  have hwl:(nL m c j).length<=64:=by unfold nL;rw[qP];omega
  have hroom:room 1 (List.length ((acc++j3 m c j)++nL m c j))=true:=by rw[aU,aU];exact l9 (by omega) (by omega)
  have ht:(acc++j3 m c j)++nL m c j=acc++j3 m c (j+1):=by rw[IZ,cz]
  have e:∀(a b:List Bool) (p q:Int),a=b->p=q->(some (.inl (n.aa.map af,(L,((k:Int),(((2^m.addr.toNat:Nat):Int),(p,(ls,(cs,(a,(m.addr,(m.word,(m.any,(m.reads.map bW,(m.writes.map bH,(ra,(m.word,(c,())))))))))))))))) ):Option (TL Hw.σs⊕Out Hr))=some (.inl (n.aa.map af,(L,((k:Int),(((2^m.addr.toNat:Nat):Int),(q,(ls,(cs,(b,(m.addr,(m.word,(m.any,(m.reads.map bW,(m.writes.map bH,(ra,(m.word,(c,())))))))))))))))) ):=by rintro _ _ _ _ rfl rfl;rfl
  exact ax (ar (show(j:Int)<((2^m.addr.toNat:Nat):Int) by omega)) (ah e1 (ak (ar rfl) (ah e2 (ak hroom (e _ _ _ _ ht (mu (x:=(j:Int)+1) (by omega)))))))
 .exact ag (au (show ¬((2^m.addr.toNat:Nat):Int)<((2^m.addr.toNat:Nat):Int) by omega)) rfl
end
section
variable{n:aB}{V:Nat}(hs:cr n V)
include hs
theorem aoo(ls:List Bool)(cs:List (List aJ))(hsm:∀m∈n.aa,Small m)(hok:pb cs)(hf:iN (cH n) (ls,(cs,()))=true)(hl:ls.length<=100000) :
  H4 (n.aa.map af,(((n.aa.map af).length:Int),((0:Int),(ls,(cs,(ls,()))))))=some (bS n ls cs n.aa.length,()):=by
 have hM:=hs.lens.2.2.2.2;have hL:((n.aa.map af).length:Int)=(n.aa.length:Int):=by rw[aI]
 unfold iN at hf;simp only[Bool.and_eq_true,decide_eq_true_eq]at hf;obtain⟨⟨f1,f2⟩,f3⟩:=hf;have f2:cs.length=n.aa.length:=f2.trans (aI ..);have f3:(List.range (n.aa.map af).length).all (kY (n.aa.map af) cs)=true:=f3;unfold H4;delta u6;refine dn (fun k:Nat=>(n.aa.map af,(((n.aa.map af).length:Int),((k:Int),(ls,(cs,(bS n ls cs k,()))))))) n.aa.length (by have h:bS n ls cs 0=ls:=dB ls;dsimp only;rw[h];try rfl) ?_ ?_ (bL (by omega))
 .intro k hk;obtain⟨m,hm⟩:∃m,n.aa[k]?=some m:=⟨_,aN hk⟩;obtain⟨c,hc⟩:∃c,cs[k]?=some c:=⟨_,aN (by omega)⟩;have hmm:=dc hm;have sm:=hsm m hmm;have hm':(n.aa.map af)[k]?=some (af m):=by rw[bT,hm];rfl
  have g1:gt ab (n.aa.map af) (k:Int)=af m:=bF (σ:=ab) hm';have g2:gt (.sl aA) cs (k:Int)=c:=bF (σ:=.sl aA) hc;have hp:=(List.all_eq_true.1 f3) k (List.mem_range.2 (by rw[aI];exact hk));unfold kY at hp;rw[g1,g2]at hp;have hp:jT m.addr m.word c=true:=hp;have e4:=QR m.addr m.word c;rw[hp]at e4;have e4':tV ((gt ab (n.aa.map af) (k:Int)).1,((gt ab (n.aa.map af) (k:Int)).2.1,(gt (.sl aA) cs (k:Int),())))=some (.inr ((0:Int),(m.addr,(m.word,(c,()))))):=by rw[g1,g2];exact e4
  have hsl:=ag0 ls cs hsm k (by omega) (by omega);have e13:=aiB (n:=n) (k:=k) sm (hok c (dc hc)) ((n.aa.map af).length:Int) ls cs (bS n ls cs k) (by omega) m.addr;have e13':uR (n.aa.map af,(((n.aa.map af).length:Int),((k:Int),((IntKind.wrap .u64 ((1:Int)*(HPow.hPow (2:Int) (Min.min (Int.toNat (gt ab (n.aa.map af) (k:Int)).1) 64)))),((0:Int),(ls,(cs,(bS n ls cs k,((gt ab (n.aa.map af) (k:Int)).1,((gt ab (n.aa.map af) (k:Int)).2.1,((gt ab (n.aa.map af) (k:Int)).2.2.1,((gt ab (n.aa.map af) (k:Int)).2.2.2.1,((gt ab (n.aa.map af) (k:Int)).2.2.2.2.1,(m.addr,(m.word,(c,())))))))))))))))) =
   some (n.aa.map af,(((n.aa.map af).length:Int),((k:Int),(ls,(cs,(bS n ls cs k++j3 m c (2^m.addr.toNat),())))))):=by
   rw[g1];have:=TX sm;show uR (n.aa.map af,(((n.aa.map af).length:Int),((k:Int),((IntKind.wrap .u64 ((1:Int)*(HPow.hPow (2:Int) (Min.min (Int.toNat m.addr) 64)))),_))))=_;rw[this];exact e13
  have hc0:iE (0:Int) (gt ab (n.aa.map af) (k:Int)).1=true:=ar (by rw[g1];have:=sm.a1;show(0:Int)<=m.addr;omega);have e:∀(a b:List Bool) (p q:Int),a=b->p=q->(some (.inl (n.aa.map af,(((n.aa.map af).length:Int),(p,(ls,(cs,(a,()))))))):Option (TL HH.σs⊕Out Hx))=some (.inl (n.aa.map af,(((n.aa.map af).length:Int),(q,(ls,(cs,(b,()))))))):=by rintro _ _ _ _ rfl rfl;rfl
  exact ax (ar (show(k:Int)<((n.aa.map af).length:Int) by omega)) (ak (show av (k:Int) (List.length (n.aa.map af))=true from aK ⟨by omega,by omega⟩) (ak (show av (k:Int) (List.length cs)=true from aK ⟨by omega,by omega⟩) (ah e4' (ak hc0 (ah e13' (e _ _ _ _ (Ar n ls cs hm hc).symm (bR (show(k:Int)+1=((k+1:Nat):Int) by omega) (by omega))))))))
 .exact ag (au (show ¬(n.aa.length:Int)<((n.aa.map af).length:Int) by omega)) rfl
end
section
variable{n:aB}
theorem Vy{ls:List Bool}{cs:List (List aJ)}(h:kb (cH n) (ls,(cs,()))=0):Pl.dF n=0/\iN (cH n) (ls,(cs,()))=true:=by
 unfold kb at h;rw[o9]at h;by_cases q:Pl.dF n=0
 .rw[if_neg (fun w=>w q)]at h;refine⟨q,?_⟩;cases hf:iN (cH n) (ls,(cs,()))with|true=>rfl|false=>rw[hf]at h;simp at h
 .rw[if_pos q]at h;exact absurd h q
end
section
variable{n:aB}
theorem VM(h:Pl.dF n=0):∃V,cr n V/\dA n=iT (fy n.aa):=by
 have hc:=h;unfold Pl.dF at hc;have h0:dv n=0:=by
  by_cases q:dv n=0
  .exact q
  .rw[if_pos q]at hc;exact absurd hc q
 obtain⟨V,hs⟩:=qK h0;exact⟨V,hs,by unfold dA;rw[if_neg (fun q=>q h)]⟩
end
theorem kW{a b:Bool}(h1:a=true)(h2:b=true):both a b=true:=by subst h1;subst h2;rfl
theorem UK{l:List Bool}{k n:Nat}(h:k<=n):(l.take k).length<=n:=by rw[dx];omega
theorem adN(l:List Bool)(hl:l.length<=64):Is (l,())=some ((cd l:Int),()):=by
 have s:du (iL (64:Int) (Int.ofNat (List.length l))) (64:Int) (Int.ofNat (List.length l))=Int.ofNat (List.length l):=by
  unfold du;rw[show iL (64:Int) (Int.ofNat (List.length l))=false from au (show ¬(64:Int)<((l.length:Nat):Int) by omega)]
  try rfl
 have ht:List.take (Int.toNat (Int.ofNat (List.length l))) l=l:=by show List.take l.length l=l;exact dS
 have eL:zO ((0:Int),(l,(((l.length:Nat):Int),((0:Int),()))))=some ((cd l:Int),()):=by
  unfold zO;delta u4;refine dn (fun k:Nat=>((cd (l.take k):Int),(l,(((l.length:Nat):Int),((k:Int),()))))) l.length rfl ?_ ?_ (bL (by omega))
  .intro k hk;have hx:=aN hk;have ht:l.take (k+1)=l.take k++[l[k]]:=Pl.dy hx;have hk2:(l.take k).length=k:=by rw[dx];omega
   have hw:=pH (l.take k);rw[hk2]at hw;have e:∀(a b p q:Int),a=b->p=q->(some (.inl (a,(l,(((l.length:Nat):Int),(p,()))))):Option (TL zD.σs⊕Out zy))=some (.inl (b,(l,(((l.length:Nat):Int),(q,()))))):=by rintro _ _ _ _ rfl rfl;rfl
   refine ax (ar (show(k:Int)<((l.length:Nat):Int) by omega)) (ak (show av (k:Int) (List.length l)=true from aK ⟨by omega,by omega⟩) ?_);have g:gt .bool l (k:Int)=l[k]:=bF (σ:=.bool) hx;have hz:=Uv (i:=k) (w:=cd (l.take k)) (by omega) hw;have hs:(cd (l.take (k+1)):Int)=((cd (l.take k)+(if l[k]then 2^k else 0):Nat):Int):=by rw[ht,NS,hk2]
   cases hb:l[k]
   .rw[hb]at g hs;exact ag g (e _ _ _ _ hs.symm (bR (show(k:Int)+1=((k+1:Nat):Int) by omega) (by omega)))
   .rw[hb]at g hs;exact ax g (ak (ar (show(0:Int)<=(k:Int) by omega)) (e _ _ _ _ (hz.trans hs.symm) (bR (show(k:Int)+1=((k+1:Nat):Int) by omega) (by omega))))
  .rw[dS];exact ag (au (show ¬((l.length:Nat):Int)<((l.length:Nat):Int) by omega)) rfl
 have eL':∀l':List Bool,l'=l->zO ((0:Int),(l',(((List.length l':Nat):Int),((0:Int),()))))=some ((cd l:Int),()):=by rintro _ rfl;exact eL
 show IC zO l=_;unfold IC;rw[s];refine ak (kW (ar (show(0:Int)<=((l.length:Nat):Int) by omega)) (ar (show((l.length:Nat):Int)<=((l.length:Nat):Int) by omega))) (ah (eL' _ ht) rfl)
def cellAt(w:Nat)(l:List Bool)(a:Nat):Nat:=cd ((l.drop (a*w)).take w)
def iK(w:Nat)(l:List Bool)(k:Nat):List aJ:=(List.range k).flatMap (fun a=>if cellAt w l a=0 then[]else[((a:Int),((cellAt w l a:Int),()))])
def cq(m:aV):Nat:=2^m.addr.toNat*m.word.toNat
def ir(L:List aV):Nat:=L.foldl (fun a m=>a+cq m) 0
def cj(n:aB)(k:Nat):Nat:=ir (n.aa.take k)
def i6(n:aB)(l:List Bool)(k:Nat):List (List aJ):=(List.range k).map fun i=>iK (n.aa.getD i mz).word.toNat (l.drop (cj n i)) (2^(n.aa.getD i mz).addr.toNat)
theorem Af(w:Nat)(l:List Bool)(k:Nat):iK w l (k+1)=iK w l k++(if cellAt w l k=0 then[]else[((k:Int),((cellAt w l k:Int),()))]):=by unfold iK;rw[List.range_succ,List.flatMap_append];simp
theorem Ut(w:Nat)(l:List Bool):∀k,(iK w l k).length<=k:=by
 intro k
 induction k with|zero=>simp[iK]|succ k ih=>rw[Af,aU];split<;>simp<;>omega
theorem Uu(n:aB)(l:List Bool)(k:Nat):(i6 n l k).length=k:=by simp[i6]
theorem TZ(n:aB)(l:List Bool){k:Nat}{m:aV}(hm:n.aa[k]?=some m):i6 n l (k+1)=i6 n l k++[iK m.word.toNat (l.drop (cj n k)) (2^m.addr.toNat)]:=by unfold i6;rw[List.range_succ,eJ];congr 1;simp only[List.map_cons,List.map_nil];rw[bM,hm];rfl
theorem lZ(n:aB){k:Nat}{m:aV}(hm:n.aa[k]?=some m):cj n (k+1)=cj n k+cq m:=by unfold cj ir;rw[Pl.dy hm,List.foldl_append];rfl
theorem ahU{m:aV}(h:Small m):(cq m:Int)=tP m:=by
 unfold cq tP;rw[if_neg (by have:=h.a2;omega)]
 push_cast
 rw[show((m.word.toNat:Nat):Int)=m.word by have:=h.w1;omega,Int.mul_comm]
theorem I2:∀(L:List aV) (a:Nat),(∀m∈L,Small m)->((L.foldl (fun a m=>a+cq m) a:Nat):Int)=L.foldl (fun a m=>a+tP m) (a:Int):=by
 intro L
 induction L with
 |nil=>intro a _;rfl|cons m L ih=>
  intro a h;have e:=ahU (h m (by simp));rw[List.foldl_cons,List.foldl_cons,ih _ (fun x hx=>h x (by simp[hx]))];congr 1
  push_cast
  rw[e]
theorem aeH:∀(L:List aV) (a:Nat),a<=L.foldl (fun a m=>a+cq m) a:=by
 intro L
 induction L with|nil=>intro a;exact aS _|cons m L ih=>intro a;rw[List.foldl_cons];exact dK (Nat.le_add_right ..) (ih _)
theorem I7(n:aB)(k:Nat):cj n k<=ir n.aa:=by
 unfold cj ir
 conv=>rhs;rw[<-List.take_append_drop k n.aa,List.foldl_append]
 exact aeH _ _
theorem z7(l:List Bool)(i w:Nat):(l.drop i).drop w=l.drop (i+w):=by rw[List.drop_drop]
theorem UP{w a N:Nat}{l:List Bool}(ha:a<N)(h:N*w<=l.length):w<=(l.drop (a*w)).length:=by have:(a+1)*w<=N*w:=Nat.mul_le_mul_right _ (by omega);rw[Nat.succ_mul]at this;rw[List.length_drop];omega
theorem TJ(c:List aJ)(d:aJ)(h:c.length<=1000):room 16 (List.length (c++[d]))=true:=by rw[aU,cp,List.length_nil];exact l9 (by omega) (by omega)
theorem TU(c:List (List aJ))(d:List aJ)(h:c.length<=1000):room 24 (List.length (c++[d]))=true:=by rw[aU,cp,List.length_nil];exact l9 (by omega) (by omega)
theorem ah8{m:aV}(hm:Small m)(T:List (Sh.T ab))(L K:Int)(b1:List Bool)(b2:List (List aJ))(an:Bool)(rs:List (Sh.T bg))(ws:List (Sh.T aH))(rest:List Bool)(hr:cq m<=rest.length) :
  uS (rest,(T,(L,(K,(((2^m.addr.toNat:Nat):Int),((0:Int),(b1,(b2,(m.addr,(m.word,(an,(rs,(ws,([],())))))))))))))) =
   some (rest.drop (cq m),(T,(L,(K,(b1,(b2,(iK m.word.toNat rest (2^m.addr.toNat),()))))))):=by
 have hcn:=hm.jw;have hw1:=hm.w1;have hw2:=hm.w2;unfold cq at hr;unfold uS;delta i7;refine dn (fun a:Nat=>(rest.drop (a*m.word.toNat),(T,(L,(K,(((2^m.addr.toNat:Nat):Int),((a:Int),(b1,(b2,(m.addr,(m.word,(an,(rs,(ws,(iK m.word.toNat rest a,()))))))))))))))) (2^m.addr.toNat) (by(have h:rest.drop (0*m.word.toNat)=rest:=by rw[Nat.zero_mul];rfl);dsimp only;rw[h];try rfl) ?_ ?_ (bL (by omega))
 .intro a ha;have hlen:=UP (w:=m.word.toNat) ha hr;have e1:Is (List.take (Int.toNat m.word) (rest.drop (a*m.word.toNat)),())=some ((cellAt m.word.toNat rest a:Int),()):=adN _ (UK (by omega));have hb:both (iE (0:Int) m.word) (iE m.word (Int.ofNat (List.length (rest.drop (a*m.word.toNat)))))=true:=kW (ar (by omega)) (ar (show m.word<=((List.length (rest.drop (a*m.word.toNat)):Nat):Int) by omega));have hd:List.drop (Int.toNat m.word) (rest.drop (a*m.word.toNat))=rest.drop ((a+1)*m.word.toNat):=by rw[z7,Nat.succ_mul]
  have hl:=Ut m.word.toNat rest a;have hst:=Af m.word.toNat rest a;have e:∀(r r':List Bool) (p q:Int) (c c':List aJ),r=r'->p=q->c=c'->(some (.inl (r,(T,(L,(K,(((2^m.addr.toNat:Nat):Int),(p,(b1,(b2,(m.addr,(m.word,(an,(rs,(ws,(c,()))))))))))))))):Option (TL zm.σs⊕Out zk))=some (.inl (r',(T,(L,(K,(((2^m.addr.toNat:Nat):Int),(q,(b1,(b2,(m.addr,(m.word,(an,(rs,(ws,(c',()))))))))))))))):=by rintro _ _ _ _ _ _ rfl rfl rfl;rfl
  have hu:IntKind.wrap .u64 ((a:Int)+1)=((a+1:Nat):Int):=mu (x:=(a:Int)+1) (by omega);by_cases q:cellAt m.word.toNat rest a=0
  .rw[if_pos q,dB]at hst;exact ax (ar (show(a:Int)<((2^m.addr.toNat:Nat):Int) by omega)) (ak hb (ah e1 (ag (fQ (ar (show((cellAt m.word.toNat rest a:Nat):Int)=0 by omega))) (ak hb (e _ _ _ _ _ _ hd hu hst.symm)))))
  .rw[if_neg q]at hst;exact ax (ar (show(a:Int)<((2^m.addr.toNat:Nat):Int) by omega)) (ak hb (ah e1 (ax (ke (au (show ¬((cellAt m.word.toNat rest a:Nat):Int)=0 by omega))) (ak (show room 16 (List.length (iK m.word.toNat rest a++[((a:Int),((cellAt m.word.toNat rest a:Int),()))]))=true from TJ _ _ (by omega)) (ak hb (e _ _ _ _ _ _ hd hu hst.symm))))))
 .exact ag (au (show ¬((2^m.addr.toNat:Nat):Int)<((2^m.addr.toNat:Nat):Int) by omega)) rfl
section
variable{n:aB}{V:Nat}(hs:cr n V)
include hs
theorem ah7(hsm:∀m∈n.aa,Small m)(aE:List Bool)(rest:List Bool)(hr:ir n.aa<=rest.length) :
  H0 (rest,(n.aa.map af,(((n.aa.map af).length:Int),((0:Int),(aE,([],()))))))=some (aE,(i6 n rest n.aa.length,())):=by
 have hM:=hs.lens.2.2.2.2;have hL:((n.aa.map af).length:Int)=(n.aa.length:Int):=by rw[aI]
 unfold H0;delta u6;refine dn (fun k:Nat=>(rest.drop (cj n k),(n.aa.map af,(((n.aa.map af).length:Int),((k:Int),(aE,(i6 n rest k,()))))))) n.aa.length (by(have h:rest.drop (cj n 0)=rest:=rfl);dsimp only;(try rw[h]);try rfl) ?_ ?_ (bL (by omega))
 .intro k hk;obtain⟨m,hm⟩:∃m,n.aa[k]?=some m:=⟨_,aN hk⟩;have sm:=hsm m (dc hm);have hm':(n.aa.map af)[k]?=some (af m):=by rw[bT,hm];rfl
  have g1:gt ab (n.aa.map af) (k:Int)=af m:=bF (σ:=ab) hm';have ho:=lZ n hm;have ho2:=I7 n (k+1);have e16:=ah8 sm (n.aa.map af) ((n.aa.map af).length:Int) (k:Int) aE (i6 n rest k) m.any (m.reads.map bW) (m.writes.map bH) (rest.drop (cj n k)) (by rw[List.length_drop];omega);have e16':uS (rest.drop (cj n k),(n.aa.map af,(((n.aa.map af).length:Int),((k:Int),((IntKind.wrap .u64 ((1:Int)*(HPow.hPow (2:Int) (Min.min (Int.toNat (gt ab (n.aa.map af) (k:Int)).1) 64)))),((0:Int),(aE,(i6 n rest k,((gt ab (n.aa.map af) (k:Int)).1,((gt ab (n.aa.map af) (k:Int)).2.1,((gt ab (n.aa.map af) (k:Int)).2.2.1,((gt ab (n.aa.map af) (k:Int)).2.2.2.1,((gt ab (n.aa.map af) (k:Int)).2.2.2.2.1,([],())))))))))))))) =
    some ((rest.drop (cj n k)).drop (cq m),(n.aa.map af,(((n.aa.map af).length:Int),((k:Int),(aE,(i6 n rest k,(iK m.word.toNat (rest.drop (cj n k)) (2^m.addr.toNat),()))))))):=by
   rw[g1];have:=TX sm;show uS (rest.drop (cj n k),(n.aa.map af,(((n.aa.map af).length:Int),((k:Int),((IntKind.wrap .u64 ((1:Int)*(HPow.hPow (2:Int) (Min.min (Int.toNat m.addr) 64)))),_)))))=_;rw[this];exact e16
  have hc0:iE (0:Int) (gt ab (n.aa.map af) (k:Int)).1=true:=ar (by rw[g1];have:=sm.a1;show(0:Int)<=m.addr;omega);have hd:(rest.drop (cj n k)).drop (cq m)=rest.drop (cj n (k+1)):=by rw[z7,ho]
  have hroom:=TU (i6 n rest k) (iK m.word.toNat (rest.drop (cj n k)) (2^m.addr.toNat)) (by rw[Uu];omega);have e:∀(r r':List Bool) (p q:Int) (c c':List (List aJ)),r=r'->p=q->c=c'->(some (.inl (r,(n.aa.map af,(((n.aa.map af).length:Int),(p,(aE,(c,()))))))):Option (TL zl.σs⊕Out zj))=some (.inl (r',(n.aa.map af,(((n.aa.map af).length:Int),(q,(aE,(c',()))))))):=by rintro _ _ _ _ _ _ rfl rfl rfl;rfl
  exact ax (ar (show(k:Int)<((n.aa.map af).length:Int) by omega)) (ak (show av (k:Int) (List.length (n.aa.map af))=true from aK ⟨by omega,by omega⟩) (ak hc0 (ah e16' (ak hroom (e _ _ _ _ _ _ hd (bR (show(k:Int)+1=((k+1:Nat):Int) by omega) (by omega)) (TZ n rest hm).symm)))))
 .exact ag (au (show ¬(n.aa.length:Int)<((n.aa.map af).length:Int) by omega)) rfl
theorem ait{k:Nat}{m:aV}(hmk:n.aa[k]?=some m)(hm:Small m)(b3:List Bool)(b4:List (List aJ))(rest:List Bool)(hr:cq m<=rest.length) :
  GX (rest,((k:Int),((0:Int),nt n (b3,(b4,([],()))))))=some (rest.drop (cq m),((k:Int),nt n (b3,(b4,(iK m.word.toNat rest (2^m.addr.toNat),()))))):=by
 have hcn:=hm.jw;have hw1:=hm.w1;have hw2:=hm.w2;have hk:=dz hmk;have hM:=hs.lens.2.2.2.2;have hm':(n.aa.map af)[k]?=some (af m):=by rw[bT,hmk];rfl
 have g1:gt ab (n.aa.map af) (k:Int)=af m:=bF (σ:=ab) hm';have gw:(gt ab (n.aa.map af) (k:Int)).2.1=m.word:=by rw[g1];rfl
 have aY:av (k:Int) (List.length (n.aa.map af))=true:=aK ⟨by omega,by rw[aI];omega⟩;have a1:=hm.a1;have a2:=hm.a2;have hfit:∀j:Nat,j<=2^m.addr.toNat->xD ((j:Int),((gt ab (n.aa.map af) (k:Int)).1,()))=some (decide (j<2^m.addr.toNat),()):=by
  intro j hj;rw[g1];have:=yg (v:=(j:Int)) (w:=m.addr) ⟨by omega,by omega⟩ ⟨by omega,by omega⟩;refine this.trans ?_;have e:∀p q:Bool,p=q->(some (p,()):Option (TL E9))=some (q,()):=by rintro _ _ rfl;rfl
  refine e _ _ ?_;unfold jD;have hp:((2^m.addr.toNat:Nat):Int)=(2:Int)^m.addr.toNat:=by push_cast;rfl
  by_cases q:j<2^m.addr.toNat
  .rw[bG q,bG];exact Int.ediv_eq_zero_of_lt (by omega) (by omega)
  .obtain rfl:j=2^m.addr.toNat:=by omega
   rw[cw q,hp,cw];have h2:(2:Int)^m.addr.toNat≠0:=by have:=hm.nat.2;rw[<-hp];omega
   rw[Int.ediv_self h2];omega
 unfold cq at hr;unfold GX;delta i7;refine dn (fun a:Nat=>(rest.drop (a*m.word.toNat),((k:Int),((a:Int),nt n (b3,(b4,(iK m.word.toNat rest a,()))))))) (2^m.addr.toNat) (by(have h:rest.drop (0*m.word.toNat)=rest:=by rw[Nat.zero_mul];rfl);dsimp only;rw[h];try rfl) ?_ ?_ (bL (by omega))
 .intro a ha;have e0:=hfit a (by omega);rw[bG ha]at e0;have hlen:=UP (w:=m.word.toNat) ha hr;have e1:MV (List.take (Int.toNat (gt ab (n.aa.map af) (k:Int)).2.1) (rest.drop (a*m.word.toNat)),())=some ((cellAt m.word.toNat rest a:Int),()):=by rw[gw];exact anH _ (UK (by omega))
  have hb:both (iE (0:Int) (gt ab (n.aa.map af) (k:Int)).2.1) (iE (gt ab (n.aa.map af) (k:Int)).2.1 (Int.ofNat (List.length (rest.drop (a*m.word.toNat)))))=true:=by rw[gw];exact kW (ar (by omega)) (ar (show m.word<=((List.length (rest.drop (a*m.word.toNat)):Nat):Int) by omega))
  have hd:List.drop (Int.toNat (gt ab (n.aa.map af) (k:Int)).2.1) (rest.drop (a*m.word.toNat))=rest.drop ((a+1)*m.word.toNat):=by rw[gw,z7,Nat.succ_mul]
  have hl:=Ut m.word.toNat rest a;have hst:=Af m.word.toNat rest a;have e:∀(r r':List Bool) (p q:Int) (c c':List aJ),r=r'->p=q->c=c'->(some (.inl (r,((k:Int),(p,nt n (b3,(b4,(c,()))))))):Option (TL yX.σs⊕Out yO))=some (.inl (r',((k:Int),(q,nt n (b3,(b4,(c',()))))))):=by rintro _ _ _ _ _ _ rfl rfl rfl;rfl
  have hu:IntKind.wrap .u64 ((a:Int)+1)=((a+1:Nat):Int):=mu (x:=(a:Int)+1) (by omega);by_cases q:cellAt m.word.toNat rest a=0
  .rw[if_pos q,dB]at hst;exact ak aY (ah e0 (ax rfl (ak aY (ak hb (ah e1 (ak aY (ak hb (ag (fQ (ar (show((cellAt m.word.toNat rest a:Nat):Int)=0 by omega))) (e _ _ _ _ _ _ hd hu hst.symm)))))))))
  .rw[if_neg q]at hst;exact ak aY (ah e0 (ax rfl (ak aY (ak hb (ah e1 (ak aY (ak hb (ax (ke (au (show ¬((cellAt m.word.toNat rest a:Nat):Int)=0 by omega))) (ak (show room 16 (List.length (iK m.word.toNat rest a++[((a:Int),((cellAt m.word.toNat rest a:Int),()))]))=true from TJ _ _ (by omega)) (e _ _ _ _ _ _ hd hu hst.symm))))))))))
 .have e0:=hfit (2^m.addr.toNat) (aS _);rw[cw (by omega)]at e0;exact ak aY (ah e0 (ag rfl rfl))
theorem ais(hsm:∀m∈n.aa,Small m)(aE:List Bool)(rest:List Bool)(hr:ir n.aa<=rest.length) :
  GW (rest,((0:Int),nt n (aE,([],()))))=some (aE,(i6 n rest n.aa.length,())):=by
 have hM:=hs.lens.2.2.2.2;have hL:((n.aa.map af).length:Int)=(n.aa.length:Int):=by rw[aI]
 unfold GW;delta mO;refine dn (fun k:Nat=>(rest.drop (cj n k),((k:Int),nt n (aE,(i6 n rest k,()))))) n.aa.length (by(have h:rest.drop (cj n 0)=rest:=rfl);dsimp only;(try rw[h]);try rfl) ?_ ?_ (bL (by omega))
 .intro k hk;obtain⟨m,hm⟩:∃m,n.aa[k]?=some m:=⟨_,aN hk⟩;have sm:=hsm m (dc hm);have ho:=lZ n hm;have ho2:=I7 n (k+1);have e15:=ait hs hm sm aE (i6 n rest k) (rest.drop (cj n k)) (by rw[List.length_drop];omega);have hd:(rest.drop (cj n k)).drop (cq m)=rest.drop (cj n (k+1)):=by rw[z7,ho]
  have hroom:=TU (i6 n rest k) (iK m.word.toNat (rest.drop (cj n k)) (2^m.addr.toNat)) (by rw[Uu];omega);have e:∀(r r':List Bool) (p q:Int) (c c':List (List aJ)),r=r'->p=q->c=c'->(some (.inl (r,(p,nt n (aE,(c,()))))):Option (TL yW.σs⊕Out yN))=some (.inl (r',(q,nt n (aE,(c',()))))):=by rintro _ _ _ _ _ _ rfl rfl rfl;rfl
  exact ax (ar (show(k:Int)<((n.aa.map af).length:Int) by omega)) (ah e15 (ak hroom (e _ _ _ _ _ _ hd (bR (show(k:Int)+1=((k+1:Nat):Int) by omega) (by omega)) (TZ n rest hm).symm)))
 .exact ag (au (show ¬(n.aa.length:Int)<((n.aa.map af).length:Int) by omega)) rfl
end
def oe(n:aB)(ls:List Bool)(cs:List (List aJ)):Int×(List Bool×List (List aJ)):=
 if Pl.dF n≠0 then(Pl.dF n,([],[]))else if 64<dA n then(17,([],[]))else
 if(ls.length:Int)=(n.aj.length:Int)+dA n/\cs.length=0 then(0,(ls.take n.aj.length,i6 n (ls.drop n.aj.length) n.aa.length))else(14,([],[]))
section
variable{n:aB}(ft:Fit n)
include ft
theorem aeq(ls:List Bool)(cs:List (List aJ))(hl:ls.length<=100000) :
  adv (cH n,((ls,(cs,())),()))=some (((oe n ls cs).2.1,((oe n ls cs).2.2,())),((oe n ls cs).1,())) /\
  acT (cH n,((ls,(cs,())),()))=some (((oe n ls cs).2.1,((oe n ls cs).2.2,())),((oe n ls cs).1,())):=by
 have c1:=xZ ft;have c2:=QQ ft;have d1:=I0 ft;have d2:=aea ft;have hla:=ft.aE.1;have hL:((n.aj.map bf).length:Int)=(n.aj.length:Int):=by rw[aI]
 unfold oe;by_cases hc:Pl.dF n=0
 .rw[if_neg (fun q=>q hc)];by_cases h1:64<dA n
  .rw[if_pos h1];exact⟨ah c1 (ag (fQ (ar hc)) (ah d1 (ax (ar h1) rfl))),ah c2 (ag (fQ (ar hc)) (ah d2 (ax (ar h1) rfl)))⟩
  .rw[if_neg h1];obtain⟨V,hs,hcl2⟩:=VM hc;have hsm:=Aq hs (by rw[<-hcl2];omega);have hsum:((ir n.aa:Nat):Int)=fy n.aa:=I2 n.aa 0 hsm;have hcells:dA n=fy n.aa:=by
    rw[hcl2];unfold iT;rw[hcl2]at h1;unfold iT at h1;split at h1
    .omega
    .rename_i q;rw[if_neg q]
   have hw:IntKind.wrap .i64 (((n.aj.map bf).length:Int)+dA n)=(n.aj.length:Int)+dA n:=by rw[hL];exact cf (by omega)
   by_cases h2:(ls.length:Int)=(n.aj.length:Int)+dA n
   .by_cases h3:cs.length=0
    .rw[if_pos ⟨h2,h3⟩];have hdl:ir n.aa<=(ls.drop n.aj.length).length:=by rw[List.length_drop];omega
     have f1:=ah7 hs hsm (ls.take n.aj.length) (ls.drop n.aj.length) hdl;have f2:=ais hs hsm (ls.take n.aj.length) (ls.drop n.aj.length) hdl;have tn:Int.toNat (Int.ofNat (List.length (n.aj.map bf)))=n.aj.length:=by show(n.aj.map bf).length=_;rw[aI]
     have b2:not (iQ (Int.ofNat (List.length ls)) (IntKind.wrap .i64 (((n.aj.map bf).length:Int)+dA n)))=false:=fQ (ar (by rw[hw];exact h2));have b3:bn false true (iL (0:Int) (Int.ofNat (List.length cs)))=false:=au (show ¬(0:Int)<((cs.length:Nat):Int) by omega);have b4:bn false true (not (iQ (Int.ofNat (List.length cs)) (0:Int)))=false:=fQ (ar (show((cs.length:Nat):Int)=0 by omega));have b5:both (iE (0:Int) (Int.ofNat (List.length (n.aj.map bf)))) (iE (Int.ofNat (List.length (n.aj.map bf))) (Int.ofNat (List.length ls)))=true:=kW (ar (show(0:Int)<=(((n.aj.map bf).length:Nat):Int) by omega)) (ar (show(((n.aj.map bf).length:Nat):Int)<=((ls.length:Nat):Int) by omega));have tk:(ls.take n.aj.length).length<=100000:=by rw[dx];omega
     have hcb:LH (List.take (Int.toNat (Int.ofNat (List.length (n.aj.map bf)))) ls,())=some (ls.take n.aj.length,()):=by rw[tn];exact ak (Ji _ tk) rfl
     have f1':H0 (List.drop (Int.toNat (Int.ofNat (List.length (n.aj.map bf)))) ls,(n.aa.map af,(((n.aa.map af).length:Int),((0:Int),(ls.take n.aj.length,([],()))))))=some (ls.take n.aj.length,(i6 n (ls.drop n.aj.length) n.aa.length,())):=by rw[tn];exact f1
     have f2':GW (List.drop (Int.toNat (Int.ofNat (List.length (n.aj.map bf)))) ls,((0:Int),nt n ([]++List.take (Int.toNat (Int.ofNat (List.length (n.aj.map bf)))) ls,([],()))))=some (ls.take n.aj.length,(i6 n (ls.drop n.aj.length) n.aa.length,())):=by rw[tn];exact f2
     have hroom:room 1 (List.length ([]++List.take (Int.toNat (Int.ofNat (List.length (n.aj.map bf)))) ls))=true:=by rw[tn];exact Ji _ tk
     exact⟨ah c1 (ag (fQ (ar hc)) (ah d1 (ag (au h1) (ag b2 (ag b3 (ak b5 (ah hcb (ak b5 (ah f1' rfl))))))))),
      ah c2 (ag (fQ (ar hc)) (ah d2 (ag (au h1) (ah d2 (ag b2 (ag b4 (ak b5 (ak hroom (ak b5 (ah f2' rfl))))))))))⟩
    .rw[if_neg (fun q=>h3 q.2)];have b2:not (iQ (Int.ofNat (List.length ls)) (IntKind.wrap .i64 (((n.aj.map bf).length:Int)+dA n)))=false:=fQ (ar (by rw[hw];exact h2));have b3:bn false true (iL (0:Int) (Int.ofNat (List.length cs)))=true:=ar (show(0:Int)<((cs.length:Nat):Int) by omega);have b4:bn false true (not (iQ (Int.ofNat (List.length cs)) (0:Int)))=true:=ke (au (show ¬((cs.length:Nat):Int)=0 by omega));exact⟨ah c1 (ag (fQ (ar hc)) (ah d1 (ag (au h1) (ag b2 (ax b3 rfl))))),
      ah c2 (ag (fQ (ar hc)) (ah d2 (ag (au h1) (ah d2 (ag b2 (ax b4 rfl))))))⟩
   .rw[if_neg (fun q=>h2 q.1)];have b2:not (iQ (Int.ofNat (List.length ls)) (IntKind.wrap .i64 (((n.aj.map bf).length:Int)+dA n)))=true:=ke (au (by rw[hw];exact h2));exact⟨ah c1 (ag (fQ (ar hc)) (ah d1 (ag (au h1) (ax b2 rfl)))),
     ah c2 (ag (fQ (ar hc)) (ah d2 (ag (au h1) (ah d2 (ax b2 rfl)))))⟩
 .rw[if_pos hc];exact⟨ah c1 (ax (ke (au hc)) rfl),ah c2 (ax (ke (au hc)) rfl)⟩
end
set_option maxRecDepth 10000
theorem T4{V:Int}:∀(l pre:List Int),(pre++l).Nodup->(∀x∈l,1<=x/\x<=V)->V<=((pre++l).length:Int)->dup V pre l=0
 |[],pre,_,_,h=>by rw[dB]at h;rw[dup,if_neg (by omega)]|v::l,pre,hn,hr,h=>by
  obtain⟨r1,r2⟩:=hr v (List.mem_cons_self ..);have hc:pre.contains v=false:=by
   cases q:pre.contains v
   .rfl
   .have hv:v∈pre:=by simpa using q
    rw[List.nodup_append]at hn;exact absurd rfl (hn.2.2 v hv v (List.mem_cons_self ..))
  have e:pre++v::l=(pre++[v])++l:=by simp
  rw[dup,if_neg (by omega),if_neg (by rw[hc];simp)];exact T4 l (pre++[v]) (by rw[<-e];exact hn) (fun x hx=>hr x (eK _ hx)) (by rw[<-e];exact h)
theorem Uw{V:Int}:∀(l pre:List Int),dup V pre l=0->V<=((pre++l).length:Int)
 |[],pre,h=>by
  rw[dup]at h;rw[dB];by_cases q:(pre.length:Int)<V
  .rw[if_pos q]at h;omega
  .omega
 |v::l,pre,h=>by
  rw[dup]at h;by_cases q:v<1\/V<v
  .rw[if_pos q]at h;omega
  rw[if_neg q]at h;by_cases q2:pre.contains v=true
  .rw[if_pos q2]at h;omega
  rw[if_neg q2]at h;have:=Uw l (pre++[v]) h;rw[cz]at this;exact this
theorem aeP{n:aB}(h:dv n=0):dup n.vars [] (bX n)=0:=by
 unfold dv at h;by_cases h1:jP n=true
 .rw[if_pos h1]at h;omega
 rw[if_neg h1]at h;by_cases h2:n.aa.any ga=true
 .rw[if_pos h2]at h;omega
 rw[if_neg h2]at h;by_cases h3:n.aj.any iO=true
 .rw[if_pos h3]at h;omega
 rw[if_neg h3]at h;by_cases h4:dup n.vars [] (bX n)≠0
 .rw[if_pos h4]at h;exact absurd h h4
 .omega
theorem Us{n:aB}{V:Nat}(hs:cr n V)(h:dv n=0):V<=(bX n).length/\∀v:Nat,1<=v->v<=V->(v:Int)∈bX n:=by
 have h1:=Uw (bX n) [] (aeP h);rw[hs.vars,List.nil_append]at h1;have h1:V<=(bX n).length:=by omega
 exact⟨h1,(I1 V (bX n) hs.nodup hs.jB).2 h1⟩
theorem sk{α:Type}{p:α->Bool}{l:List α}(h:∀x∈l,p x=false):l.any p=false:=by rw[Bool.eq_false_iff];intro q;obtain⟨x,hx,hp⟩:=List.any_eq_true.1 q;rw[h x hx]at hp;cases hp
theorem afS{m:aB}{V:Nat}(hs:cr m V)(hl:V<=(bX m).length):dv m=0:=by
 have e1:jP m=false:=by unfold jP;rw[sk (p:=iI) (fun x hx=>by unfold iI;obtain⟨_,_,_,_,_,_,h1,h2⟩:=hs.aa x hx;exact cw (by omega))];obtain⟨l1,l2,l3,l4,l5⟩:=hs.lens;have:=hs.vars;have:=hs.v2;rw[cw (by omega)];rfl
 have e2:m.aa.any ga=false:=sk (fun x hx=>by obtain⟨a1,a2,w1,w2,hr,hw,_,_⟩:=hs.aa x hx;unfold ga;rw[cw (by omega),sk (p:=lG x) (fun r h=>by unfold lG;rw[hr r h];simp),sk (p:=kH x) (fun w h=>by obtain⟨h1,h2⟩:=hw w h;unfold kH;rw[h1,h2];simp)];rfl);have e3:m.aj.any iO=false:=sk (fun x hx=>by have:=hs.init x hx;unfold iO;exact cw (by omega));have e4:dup m.vars [] (bX m)=0:=by rw[hs.vars];exact T4 _ [] (by rw[List.nil_append];exact hs.nodup) hs.jB (by rw[List.nil_append];omega)
 have e5:(cD m).any (kO m.vars)=false:=sk (fun x hx=>by have:=hs.lits x hx;have hv:=hs.vars;unfold kO;exact cw (by omega));unfold dv;rw[e1,e2,e3,if_neg (by decide),if_neg (by decide),if_neg (by decide),if_neg (by omega),e5];rfl
def Good(N:List Nd)(v:Nat):Prop:=∃k,df N v k
theorem TQ{N:List Nd}{v:Nat}(h:∀x∈N,v∉x.to):Good N v:=⟨0,.free v h⟩
theorem aeA{N:List Nd}{x:Nd}{v:Nat}(hx:x∈N)(hv:v∈x.to)(h:∀u∈x.aQ,Good N u):Good N v:=by
 classical
 exact⟨_,.node x v (fun u=>if q:Good N u then Classical.choose q else 0) hx hv (fun u hu=>by show df N u (if q:Good N u then Classical.choose q else 0);rw[dif_pos (h u hu)];exact Classical.choose_spec (h u hu))⟩
theorem afk{n:aB}{a:fw}(ha:a∈n.aC)(h1:Good (aR n) (a.a / 2).toNat)(h2:Good (aR n) (a.b / 2).toNat):Good (aR n) a.var.toNat:=by
 refine aeA (x:=(ij a).nd) ?_ (by simp[bq.nd,ij]) ?_
 .unfold aR fm;exact List.mem_map_of_mem (List.mem_append_left _ (List.mem_map_of_mem ha))
 .intro u hu;simp only[bq.nd,ij,List.map_cons,List.map_nil,List.mem_cons,List.not_mem_nil,or_false]at hu;rcases hu with rfl|rfl
  .exact h1
  .exact h2
section
variable{n:aB}{V:Nat}(hs:cr n V)
include hs
theorem aeB:Good (aR n) 0:=TQ (fun x hx h=>by obtain⟨y,hy,rfl⟩:=vW hx;obtain⟨v,hv,e⟩:=List.mem_map.1 h;have:=(hs.lF hy hv).1;omega)
theorem afl{v:Int}(h:v∈n.aL\/v∈n.aj.map (·.var)):Good (aR n) v.toNat:=by
 refine TQ (fun x hx h2=>?_);obtain⟨y,hy,rfl⟩:=vW hx;obtain⟨u,hu,e⟩:=List.mem_map.1 h2;have hu1:=(hs.lF hy hu).1;have hu2:u∈n.aa.flatMap iJ++n.aC.map (·.var):=by have:u∈(fm n).flatMap bq.to:=List.mem_flatMap.2 ⟨y,hy,hu⟩;rw[Bg]at this;exact List.mem_append.2 (List.mem_append.1 this).symm
 have hn:=hs.nodup;unfold bX at hn;have hn2:((n.aL++n.aj.map (·.var))++(n.aa.flatMap iJ++n.aC.map (·.var))).Nodup:=by simp only[cz]at hn |-;exact hn
 have hv:v∈n.aL++n.aj.map (·.var):=List.mem_append.2 h;have hr:=hs.jB v (by unfold bX;simp only[List.mem_append]at hv |-;exact .inl (.inl hv));rw[List.nodup_append]at hn2;exact hn2.2.2 v hv u hu2 (by omega)
theorem aeZ(h0:dv n=0)(h:∀v,v<=V->Good (aR n) v):Pl.dF n=0:=by unfold Pl.dF;rw[if_neg (by omega),hs.vars,eD,if_pos ((qJ hs.apart V).2 h)]
end
theorem IM{n:aB}(h:Pl.dF n=0):∃V,cr n V/\dv n=0/\eO (aR n) V=true:=by
 unfold Pl.dF at h;by_cases h0:dv n≠0
 .rw[if_pos h0]at h;exact absurd h h0
 rw[if_neg h0]at h;have h0:dv n=0:=by omega
 obtain⟨V,hs⟩:=qK h0;refine⟨V,hs,h0,?_⟩;rw[hs.vars,eD]at h;by_cases q:eO (aR n) V=true
 .exact q
 .rw[if_neg q]at h;omega
