import Derived.Test.YtjflbmpepamfjaaGreatKNx
set_option linter.all false
/- the document's topo (printed by VTool.lean). -/
namespace Go.Proofs.YtjflbmpepamfjaaGreat.V
open Go Go.RowKit
set_option maxRecDepth 1000000
abbrev Zja:List Sh:=[.I]
abbrev MI:List Sh:=[.I]
abbrev JA:=TL Zja->Option (TL MI)
abbrev Bt:=Kd 99 Zja MI
def MP(a0:Int):Option (TL MI):=some ((ol (Int.tdiv a0 (2:Int))),())
def auS  :Bt:=⟨u1 MP,pD Tryz.func99 5 k0 e0 1 (sS l0) fun d=>aGm⟩
def JB:Bt:=auS
def xF:JA:=JB.F
abbrev sB:List (Nat×LO):=[(0,.arr .I 3)]
abbrev xw:List (Nat×LO):=[(0,.cells jI 27),(1,.arr du 114)]
abbrev adv:Lay:=⟨[(4,.hd 0 .I),(5,.fz du),(8,.I),(9,.I),(10,.I)],sB,1⟩
abbrev adw:Lay:=⟨[(4,.hd 0 .I),(5,.fz du),(8,.I),(9,.I)],sB,1⟩
abbrev adx:Lay:=⟨[(4,.hd 0 .I),(5,.fz du),(6,.I)],sB,1⟩
abbrev CY:Lay:=⟨[(1,.ptr 0 0),(3,.hd 1 du),(6,.I)],xw,2⟩
abbrev CU:List (Ev.Ex×Lay):=[((.exit 2),⟨[(3,.hd 0 du)],[(0,.arr du 114)],1⟩)]
abbrev Yn:=be CY CU
abbrev JK:=Ld 0 75 (cw [1] (bL Tryz.f57)) CY CU
abbrev LP:Lay:=⟨[(1,.ptr 0 0),(3,.hd 1 du),(6,.I),(7,.I)],xw,2⟩
abbrev LL:List (Ev.Ex×Lay):=[((.exit 4),⟨[(1,.ptr 0 0),(3,.hd 1 du),(6,.I)],xw,2⟩)]
abbrev JC:=be LP LL
abbrev Bs:=Ld 0 75 (cw [1,0] (bL Tryz.f57)) LP LL
abbrev LZ:Lay:=⟨[(1,.ptr 0 0),(3,.hd 1 du),(4,.I)],xw,2⟩
abbrev LX:List (Ev.Ex×Lay):=[((.exit 0),⟨[(1,.ptr 0 0),(3,.hd 1 du)],xw,2⟩)]
abbrev Yo:=be LZ LX
abbrev Yp:=Ld 0 75 (cw [0] (bL Tryz.f57)) LZ LX
def Dk(t4 aM:Int)(aS:io)(aI:bi)(aN aP bf:io)(az:bv)(aJ:bi)(b1:ii):am LZ LX:=
 br (iL t4 (Int.ofNat aJ.length))
 (
  aq (ar t4 aJ.length)<|
  aq (room 72 (List.length (ap b1 ((false,(0:Int),t4,((gt ag aJ t4).2.1::((gt ag aJ t4).2.2.1::[])),((gt ag aJ t4).1::[]),())::[]))))<|
  aGt ((ol (t4+(1:Int))),aM,aS,aI,aN,aP,bf,az,aJ,(ap b1 ((false,(0:Int),t4,((gt ag aJ t4).2.1::((gt ag aJ t4).2.2.1::[])),((gt ag aJ t4).1::[]),())::[])),()))
 (
  aGu (aM,aS,aI,aN,aP,bf,az,aJ,b1,()))
def auG  :Yp:=cH (eC Dk) (pL k0 e0 1 l0 fun d=>aGm)
def G1:Yo:=bu (eC Dk) NN
def Dd(F0:wH)(t6 t7 aM:Int)(aS:io)(aI:bi)(aN aP bf:io)(az:bv)(aJ:bi)(b1:ii):am LP LL:=
 aq (ar t6 az.length)<|
 br (iL t7 (Int.ofNat (List.length (gt aj az t6).2.2.2.1)))
 (
  aq (ar t6 az.length)<|
  aq (ar t7 (List.length (gt aj az t6).2.2.2.1))<|
  aq (ar t6 az.length)<|
  aL (F0 ((gt aj az t6),t7,())) fun x0=>
  aq (room 72 (List.length (ap b1 ((true,t6,t7,(gt bW (gt aj az t6).2.2.2.1 t7).2.1,x0.1,())::[]))))<|
  aGt (t6,(ol (t7+(1:Int))),aM,aS,aI,aN,aP,bf,az,aJ,(ap b1 ((true,t6,t7,(gt bW (gt aj az t6).2.2.2.1 t7).2.1,x0.1,())::[])),()))
 (
  aGu (t6,aM,aS,aI,aN,aP,bf,az,aJ,b1,()))
def auu(c0:ud) :Bs:=cH (nN (Dd c0.F)) (pL (kD c0 k0) e0 1 l0 fun d=>aGm)
def Yf:Bs:=auu wI
def Ma:JC:=bu (nN (Dd LQ)) NN
def Dj(L11:JC)(t6 aM:Int)(aS:io)(aI:bi)(aN aP bf:io)(az:bv)(aJ:bi)(b1:ii):am CY CU:=
 br (iL t6 (Int.ofNat az.length))
 (
  aL (L11 (t6,(0:Int),aM,aS,aI,aN,aP,bf,az,aJ,b1,())) fun x0=>
  aGt ((ol (md x0.1 (1:Int))),x0.2))
 (
  aGu (b1,()))
def auH(M11:Bs):JK:=cH (eC (Dj M11.L)) (pL k0 e0 1 (sC M11 l0) fun d=>aGm)
def auF:JK:=auH  Yf
def FP:Yn:=bu (eC (Dj Ma)) NN
abbrev Zik:List Sh:=[bD]
abbrev Mx:List Sh:=[(.sl du)]
abbrev X1:=TL Zik->Option (TL Mx)
abbrev Ju:=Kd 57 Zik Mx
def Zl7(F0:wH)(L3:Yo)(L8:Yn)(L11:JC)(a0:Sh.T bD):Option (TL Mx):=
 aL (L3 ((0:Int),a0.1,a0.2.1,a0.2.2.1,a0.2.2.2.1,a0.2.2.2.2.1,a0.2.2.2.2.2.1,a0.2.2.2.2.2.2.1,a0.2.2.2.2.2.2.2.1,[],())) fun x0=>
 aL (L8 ((0:Int),x0)) fun x1=>
 some (x1.1,())
def auK(c0:ud)(M3:Yp)(M8:JK)(M11:Bs):Ju:=⟨u1 (Zl7 c0.F M3.L M8.L M11.L),pD Tryz.func57 75 (kD c0 k0) e0 1 (sS (sC M3 (sC M8 l0))) fun d=>aGm⟩
def X2:Ju:=auK wI auG auF Yf
def ly:X1:=X2.F
abbrev xE:Lay:=⟨[(1,.fz .I),(2,.ptr 0 0),(5,.I),(6,.I)],[(0,.cells [.bool,.I,.I,.fz .I,.fz .I] 114)],1⟩
abbrev xD:List (Ev.Ex×Lay):=[(.ret,⟨[(4,.I)],[],0⟩),((.exit 0),⟨[(5,.I)],[],0⟩)]
abbrev Ym:=be xE xD
abbrev JJ:=Ld 0 31 (cw [0] (bL Tryz.f58)) xE xD
def MS(F0:JA)(t1:io)(t5 t6:Int)(aM:Bool)(aS aI:Int)(aN aP:io):am xE xD:=
 br (iL t6 (Int.ofNat aN.length))
 (
  aq (ar t6 aN.length)<|
  aL (F0 ((gt .I aN t6),())) fun x0=>
  aq (ar x0.1 t1.length)<|
  br (iL (gt .I t1 x0.1) (0:Int))
  (
   aGu (.inl ((Int.negSucc 0),())))
  (
   aGt (t1,(mn (iL t5 (gt .I t1 x0.1)) (gt .I t1 x0.1) t5),(ol (t6+(1:Int))),aM,aS,aI,aN,aP,())))
 (
  aGu (.inr (t5,())))
def auE(c0:Bt) :JJ:=cH (u8 (MS c0.F)) (pL (kD c0 k0) e0 1 l0 fun d=>aGm)
def auD:JJ:=auE JB
def Zfs:Ym:=bu (u8 (MS xF)) NN
abbrev Y2:List Sh:=[du,(.sl .I)]
abbrev Mw:List Sh:=[.I]
abbrev JL:=TL Y2->Option (TL Mw)
abbrev Bu:=Kd 58 Y2 Mw
def Zl6(F0:JA)(L3:Ym)(a0:Sh.T du)(a1:io):Option (TL Mw):=
 aL (L3 (a1,(0:Int),(0:Int),a0)) fun x0=>
 (match x0 with|.inl x1=>some (x1.1,())|.inr x1=>some ((ol (md x1.1 (1:Int))),())
 )
def auJ(c0:Bt)(M3:JJ):Bu:=⟨u2 (Zl6 c0.F M3.L),pD Tryz.func58 31 (kD c0 k0) e0 1 (sS (sC M3 l0)) fun d=>aGm⟩
def JM:Bu:=auJ JB auD
def LJ:JL:=JM.F
abbrev CS:Lay:=adw
abbrev CQ:List (Ev.Ex×Lay):=[((.exit 4),⟨[(4,.hd 0 .I),(8,.I)],sB,1⟩)]
abbrev Ya:=be CS CQ
abbrev Jz:=Ld 0 94 (cw [1] (bL Tryz.f25)) CS CQ
abbrev CJ:Lay:=adv
abbrev CH:List (Ev.Ex×Lay):=[((.exit 6),adw)]
abbrev Jw:=be CJ CH
abbrev Br:=Ld 0 94 (cw [1,0] (bL Tryz.f25)) CJ CH
abbrev CG:Lay:=⟨[(4,.hd 0 .I),(5,.fz du),(8,.I),(9,.I),(10,.I),(11,.I),(12,.I)],sB,1⟩
abbrev CF:List (Ev.Ex×Lay):=[((.exit 8),adv)]
abbrev Jv:=be CG CF
abbrev Jy:=Ld 0 94 (cw [1,0,0] (bL Tryz.f25)) CG CF
abbrev CV:Lay:=adx
abbrev CR:List (Ev.Ex×Lay):=[((.exit 0),⟨[(4,.hd 0 .I),(5,.fz du)],sB,1⟩)]
abbrev Yg:=be CV CR
abbrev JF:=Ld 0 94 (cw [0] (bL Tryz.f25)) CV CR
abbrev CM:Lay:=⟨[(4,.hd 0 .I),(5,.fz du),(6,.I),(7,.I)],sB,1⟩
abbrev CI:List (Ev.Ex×Lay):=[((.exit 2),adx)]
abbrev JD:=be CM CI
abbrev JE:=Ld 0 94 (cw [0,0] (bL Tryz.f25)) CM CI
def De(t5:ii)(t6 t7:Int)(b0:io):am CM CI:=
 aq (ar t6 t5.length)<|
 br (iL t7 (Int.ofNat (List.length (gt du t5 t6).2.2.2.2.1)))
 (
  aq (ar t6 t5.length)<|
  aq (ar t7 (List.length (gt du t5 t6).2.2.2.2.1))<|
  aq (ar (gt .I (gt du t5 t6).2.2.2.2.1 t7) b0.length)<|
  aGt (t5,t6,(ol (t7+(1:Int))),(List.set b0 (Int.toNat (gt .I (gt du t5 t6).2.2.2.2.1 t7)) (Int.negSucc 0)),()))
 (
  aGu (t5,t6,b0,()))
def Yh  :JE:=cH (u4 De) (pL k0 e0 1 l0 fun d=>aGm)
def C7:JD:=bu (u4 De) NN
def Dh(L9:JD)(t5:ii)(t6:Int)(b0:io):am CV CR:=
 br (iL t6 (Int.ofNat t5.length))
 (
  aL (L9 (t5,t6,(0:Int),b0,())) fun x0=>
  aGt (x0.1,(ol (md x0.2.1 (1:Int))),x0.2.2.1,()))
 (
  aGu (t5,b0,()))
def auw(M9:JE):JF:=cH (u3 (Dh M9.L)) (pL k0 e0 1 (sC M9 l0) fun d=>aGm)
def auv:JF:=auw  Yh
def Mj:Yg:=bu (u3 (Dh C7)) NN
def C9(t5:ii)(t8 t9 t10 t11 t12:Int)(b0:io):am CG CF:=
 aq (ar t10 t5.length)<|
 br (iL t12 (Int.ofNat (List.length (gt du t5 t10).2.2.2.2.1)))
 (
  aq (ar t10 t5.length)<|
  aq (ar t12 (List.length (gt du t5 t10).2.2.2.2.1))<|
  aq (ar (gt .I (gt du t5 t10).2.2.2.2.1 t12) b0.length)<|
  aGt (t5,t8,t9,t10,t11,(ol (t12+(1:Int))),(List.set b0 (Int.toNat (gt .I (gt du t5 t10).2.2.2.2.1 t12)) t11),()))
 (
  aGu (t5,t8,t9,t10,b0,()))
def Yb  :Jy:=cH (u7 C9) (pL k0 e0 1 l0 fun d=>aGm)
def CP:Jv:=bu (u7 C9) NN
def Da(F0:JL)(L24:Jv)(t5:ii)(t8 t9 t10:Int)(b0:io):am CJ CH:=
 br (iL t10 (Int.ofNat t5.length))
 (
  aq (ar t10 t5.length)<|
  aL (F0 ((gt du t5 t10),b0,())) fun x0=>
  br (iL x0.1 (0:Int))
  (
   aL (L24 (t5,(ol (t8+(1:Int))),t9,t10,x0.1,(0:Int),b0,())) fun x1=>
   aGt (x1.1,x1.2.1,x1.2.2.1,(ol (md x1.2.2.2.1 (1:Int))),x1.2.2.2.2.1,()))
  (
   aL (L24 (t5,t8,t9,t10,x0.1,(0:Int),b0,())) fun x1=>
   aGt (x1.1,x1.2.1,x1.2.2.1,(ol (md x1.2.2.2.1 (1:Int))),x1.2.2.2.2.1,())))
 (
  aGu (t5,t8,t9,b0,()))
def aur(c0:Bu)(M24:Jy):Br:=cH (u5 (Da c0.F M24.L)) (pL (kD c0 k0) e0 1 (sC M24 l0) fun d=>aGm)
def Yc:Br:=aur JM Yb
def CZ:Jw:=bu (u5 (Da LJ CP)) NN
def Db(L18:Jw)(t5:ii)(t8 t9:Int)(b0:io):am CS CQ:=
 br (iE t9 (Int.ofNat t5.length))
 (
  aL (L18 (t5,(0:Int),t9,(0:Int),b0,())) fun x0=>
  aGt (x0.1,x0.2.1,(ol (md x0.2.2.1 (1:Int))),x0.2.2.2.1,()))
 (
  aGu (t8,b0,()))
def aus(M18:Br):Jz:=cH (u4 (Db M18.L)) (pL k0 e0 1 (sC M18 l0) fun d=>aGm)
def auq:Jz:=aus  Yc
def Mh:Ya:=bu (u4 (Db CZ)) NN
abbrev Vf:List Sh:=[bD]
abbrev Mt:List Sh:=[(.sl .I),.bool]
abbrev XZ:=TL Vf->Option (TL Mt)
abbrev Jt:=Kd 25 Vf Mt
def My(F0:JL)(F1:X1)(F2:JT)(L6:Yg)(L9:JD)(L14:Ya)(L18:Jw)(L24:Jv)(a0:Sh.T bD):Option (TL Mt):=
 aL (F2 (a0,())) fun x0=>
 br (Bool.not (iQ x0.1 (0:Int)))
 (
  some ([],false,()))
 (
  aq (both (iE (0:Int) (ol (md a0.1 (1:Int)))) (both (iE (ol (md a0.1 (1:Int))) (ol (md a0.1 (1:Int)))) (iE ((Int.ofNat 8)*(ol (md a0.1 (1:Int)))) (281474976710656:Int))))<|
  aL (F1 (a0,())) fun x1=>
  aL (L6 (x1.1,(0:Int),(List.replicate (Int.toNat (ol (md a0.1 (1:Int)))) (Sh.zero .I)),())) fun x2=>
  aL (L14 (x2.1,(0:Int),(0:Int),x2.2.1,())) fun x3=>
  br (iL (0:Int) x3.1)
  (
   some ([],false,()))
  (
   some (x3.2.1,true,())))
def auI(c0:Bu)(c1:Ju)(c2:Bz)(M6:JF)(M9:JE)(M14:Jz)(M18:Br)(M24:Jy):Jt:=⟨u1 (My c0.F c1.F c2.F M6.L M9.L M14.L M18.L M24.L),pD Tryz.func25 94 (kD c0 (kD c1 (kD c2 k0))) e0 1 (sS (sC M6 (sC M14 l0))) fun d=>aGm⟩
def X0:Jt:=auI JM X2 JU auv Yh auq Yc Yb
def Zfg:XZ:=X0.F
abbrev Zil:List Sh:=[bD]
abbrev Mz:List Sh:=[.I]
abbrev atj:=TL Zil->Option (TL Mz)
abbrev WH:=Kd 13 Zil Mz
def Zl8(F0:XZ)(F1:JT)(a0:Sh.T bD):Option (TL Mz):=
 aL (F1 (a0,())) fun x0=>
 br (Bool.not (iQ x0.1 (0:Int)))
 (
  some (x0.1,()))
 (
  aL (F0 (a0,())) fun x1=>
  br (Bool.not x1.2.1)
  (
   some ((8:Int),()))
  (
   some ((0:Int),())))
def auL(c0:Jt)(c1:Bz) :WH:=⟨u1 (Zl8 c0.F c1.F),pD Tryz.func13 18 (kD c0 (kD c1 k0)) e0 1 (sS l0) fun d=>aGm⟩
def WL:WH:=auL X0 JU
def Zb7:atj:=WL.F
