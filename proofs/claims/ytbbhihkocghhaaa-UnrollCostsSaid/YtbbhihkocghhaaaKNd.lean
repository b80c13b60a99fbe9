import Derived.Test.YtbbhihkocghhaaaKNx
set_option linter.all false
/- the document's topo (printed by VTool.lean). -/
namespace Go.Proofs.Ytbbhihkocghhaaa.V
open Go Go.RowKit
set_option maxRecDepth 1000000
abbrev Qd:List Sh:=[.I]
abbrev Gf:List Sh:=[.I]
abbrev DH:=TL Qd->Option (TL Gf)
abbrev wY:=Kd 63 Qd Gf
def Gm(a0:Int):Option (TL Gf):=some ((mt (Int.tdiv a0 (2:Int))),())
def ZU  :wY:=⟨u1 Gm,pD Try.func63 5 k0 e0 1 (sS l0) fun d=>acu⟩
def DI:wY:=ZU
def s9:DH:=DI.F
abbrev oM:List (Nat×LO):=[(0,.arr .I 3)]
abbrev sQ:List (Nat×LO):=[(0,.cells iN 27),(1,.arr cO 85)]
abbrev PH:ae:=⟨[(4,.hd 0 .I),(5,.fz cO),(8,.I),(9,.I),(10,.I)],oM,1⟩
abbrev PI:ae:=⟨[(4,.hd 0 .I),(5,.fz cO),(8,.I),(9,.I)],oM,1⟩
abbrev PJ:ae:=⟨[(4,.hd 0 .I),(5,.fz cO),(6,.I)],oM,1⟩
abbrev yq:ae:=⟨[(1,.ptr 0 0),(3,.hd 1 cO),(6,.I)],sQ,2⟩
abbrev ym:List (Ev.Ex×ae):=[((.exit 2),⟨[(3,.hd 0 cO)],[(0,.arr cO 85)],1⟩)]
abbrev Oi:=be yq ym
abbrev DS:=Ld 0 75 (bZ [1] (bC Try.f41)) yq ym
abbrev Fo:ae:=⟨[(1,.ptr 0 0),(3,.hd 1 cO),(6,.I),(7,.I)],sQ,2⟩
abbrev Fm:List (Ev.Ex×ae):=[((.exit 4),⟨[(1,.ptr 0 0),(3,.hd 1 cO),(6,.I)],sQ,2⟩)]
abbrev DJ:=be Fo Fm
abbrev wX:=Ld 0 75 (bZ [1,0] (bC Try.f41)) Fo Fm
abbrev Fw:ae:=⟨[(1,.ptr 0 0),(3,.hd 1 cO),(4,.I)],sQ,2⟩
abbrev Fu:List (Ev.Ex×ae):=[((.exit 0),⟨[(1,.ptr 0 0),(3,.hd 1 cO)],sQ,2⟩)]
abbrev Oj:=be Fw Fu
abbrev Ok:=Ld 0 75 (bZ [0] (bC Try.f41)) Fw Fu
def yG(t4 aF:Int)(aN:io)(aC:bi)(aG aJ aY:io)(ar:bv)(aD:bi)(b1:ii):am Fw Fu:=
 br (iL t4 (Int.ofNat aD.length))
 (
  ak (al t4 aD.length)<|
  ak (room 72 (List.length (ap b1 ((false,(0:Int),t4,((gt ag aD t4).2.1::((gt ag aD t4).2.2.1::[])),((gt ag aD t4).1::[]),())::[]))))<|
  acB ((mt (t4+(1:Int))),aF,aN,aC,aG,aJ,aY,ar,aD,(ap b1 ((false,(0:Int),t4,((gt ag aD t4).2.1::((gt ag aD t4).2.2.1::[])),((gt ag aD t4).1::[]),())::[])),()))
 (
  acC (aF,aN,aC,aG,aJ,aY,ar,aD,b1,()))
def ZI  :Ok:=cj (dB yG) (pL k0 e0 1 l0 fun d=>acu)
def P3:Oj:=bh (dB yG) NN
def yB(F0:r9)(t6 t7 aF:Int)(aN:io)(aC:bi)(aG aJ aY:io)(ar:bv)(aD:bi)(b1:ii):am Fo Fm:=
 ak (al t6 ar.length)<|
 br (iL t7 (Int.ofNat (List.length (gt aj ar t6).2.2.2.1)))
 (
  ak (al t6 ar.length)<|
  ak (al t7 (List.length (gt aj ar t6).2.2.2.1))<|
  ak (al t6 ar.length)<|
  aE (F0 ((gt aj ar t6),t7,())) fun x0=>
  ak (room 72 (List.length (ap b1 ((true,t6,t7,(gt bK (gt aj ar t6).2.2.2.1 t7).2.1,x0.1,())::[]))))<|
  acB (t6,(mt (t7+(1:Int))),aF,aN,aC,aG,aJ,aY,ar,aD,(ap b1 ((true,t6,t7,(gt bK (gt aj ar t6).2.2.2.1 t7).2.1,x0.1,())::[])),()))
 (
  acC (t6,aF,aN,aC,aG,aJ,aY,ar,aD,b1,()))
def Zx(c0:pS) :wX:=cj (kT (yB c0.F)) (pL (kD c0 k0) e0 1 l0 fun d=>acu)
def Oa:wX:=Zx sd
def Fy:DJ:=bh (kT (yB Fp)) NN
def yF(L11:DJ)(t6 aF:Int)(aN:io)(aC:bi)(aG aJ aY:io)(ar:bv)(aD:bi)(b1:ii):am yq ym:=
 br (iL t6 (Int.ofNat ar.length))
 (
  aE (L11 (t6,(0:Int),aF,aN,aC,aG,aJ,aY,ar,aD,b1,())) fun x0=>
  acB ((mt (lw x0.1 (1:Int))),x0.2))
 (
  acC (b1,()))
def ZJ(M11:wX):DS:=cj (dB (yF M11.L)) (pL k0 e0 1 (sC M11 l0) fun d=>acu)
def ZH:DS:=ZJ  Oa
def P0:Oi:=bh (dB (yF Fy)) NN
abbrev P8:List Sh:=[bB]
abbrev FY:List Sh:=[(.sl cO)]
abbrev NY:=TL P8->Option (TL FY)
abbrev DC:=Kd 41 P8 FY
def Zl7(F0:r9)(L3:Oj)(L8:Oi)(L11:DJ)(a0:Sh.T bB):Option (TL FY):=
 aE (L3 ((0:Int),a0.1,a0.2.1,a0.2.2.1,a0.2.2.2.1,a0.2.2.2.2.1,a0.2.2.2.2.2.1,a0.2.2.2.2.2.2.1,a0.2.2.2.2.2.2.2.1,[],())) fun x0=>
 aE (L8 ((0:Int),x0)) fun x1=>
 some (x1.1,())
def ZM(c0:pS)(M3:Ok)(M8:DS)(M11:wX):DC:=⟨u1 (Zl7 c0.F M3.L M8.L M11.L),pD Try.func41 75 (kD c0 k0) e0 1 (sS (sC M3 (sC M8 l0))) fun d=>acu⟩
def NZ:DC:=ZM sd ZI ZH Oa
def PU:NY:=NZ.F
abbrev sZ:ae:=⟨[(1,.fz .I),(2,.ptr 0 0),(5,.I),(6,.I)],[(0,.cells [.bool,.I,.I,.fz .I,.fz .I] 85)],1⟩
abbrev sY:List (Ev.Ex×ae):=[(.ret,⟨[(4,.I)],[],0⟩),((.exit 0),⟨[(5,.I)],[],0⟩)]
abbrev Oh:=be sZ sY
abbrev DR:=Ld 0 31 (bZ [0] (bC Try.f42)) sZ sY
def Gq(F0:DH)(t1:io)(t5 t6:Int)(aF:Bool)(aN aC:Int)(aG aJ:io):am sZ sY:=
 br (iL t6 (Int.ofNat aG.length))
 (
  ak (al t6 aG.length)<|
  aE (F0 ((gt .I aG t6),())) fun x0=>
  ak (al x0.1 t1.length)<|
  br (iL (gt .I t1 x0.1) (0:Int))
  (
   acC (.inl ((Int.negSucc 0),())))
  (
   acB (t1,(j9 (iL t5 (gt .I t1 x0.1)) (gt .I t1 x0.1) t5),(mt (t6+(1:Int))),aF,aN,aC,aG,aJ,())))
 (
  acC (.inr (t5,())))
def ZG(c0:wY) :DR:=cj (u8 (Gq c0.F)) (pL (kD c0 k0) e0 1 l0 fun d=>acu)
def ZF:DR:=ZG DI
def Zfs:Oh:=bh (u8 (Gq s9)) NN
abbrev P7:List Sh:=[cO,(.sl .I)]
abbrev FX:List Sh:=[.I]
abbrev DT:=TL P7->Option (TL FX)
abbrev w8:=Kd 42 P7 FX
def Zl6(F0:DH)(L3:Oh)(a0:Sh.T cO)(a1:io):Option (TL FX):=
 aE (L3 (a1,(0:Int),(0:Int),a0)) fun x0=>
 (match x0 with|.inl x1=>some (x1.1,())|.inr x1=>some ((mt (lw x1.1 (1:Int))),())
 )
def ZL(c0:wY)(M3:DR):w8:=⟨u2 (Zl6 c0.F M3.L),pD Try.func42 31 (kD c0 k0) e0 1 (sS (sC M3 l0)) fun d=>acu⟩
def DU:w8:=ZL DI ZF
def Fk:DT:=DU.F
abbrev yk:ae:=PI
abbrev yi:List (Ev.Ex×ae):=[((.exit 4),⟨[(4,.hd 0 .I),(8,.I)],oM,1⟩)]
abbrev N4:=be yk yi
abbrev DG:=Ld 0 94 (bZ [1] (bC Try.f16)) yk yi
abbrev yb:ae:=PH
abbrev x9:List (Ev.Ex×ae):=[((.exit 6),PI)]
abbrev DE:=be yb x9
abbrev wW:=Ld 0 94 (bZ [1,0] (bC Try.f16)) yb x9
abbrev xZ:ae:=⟨[(4,.hd 0 .I),(5,.fz cO),(8,.I),(9,.I),(10,.I),(11,.I),(12,.I)],oM,1⟩
abbrev xY:List (Ev.Ex×ae):=[((.exit 8),PH)]
abbrev DD:=be xZ xY
abbrev DF:=Ld 0 94 (bZ [1,0,0] (bC Try.f16)) xZ xY
abbrev yn:ae:=PJ
abbrev yj:List (Ev.Ex×ae):=[((.exit 0),⟨[(4,.hd 0 .I),(5,.fz cO)],oM,1⟩)]
abbrev Ob:=be yn yj
abbrev DN:=Ld 0 94 (bZ [0] (bC Try.f16)) yn yj
abbrev ye:ae:=⟨[(4,.hd 0 .I),(5,.fz cO),(6,.I),(7,.I)],oM,1⟩
abbrev ya:List (Ev.Ex×ae):=[((.exit 2),PJ)]
abbrev DK:=be ye ya
abbrev DL:=Ld 0 94 (bZ [0,0] (bC Try.f16)) ye ya
def yC(t5:ii)(t6 t7:Int)(b0:io):am ye ya:=
 ak (al t6 t5.length)<|
 br (iL t7 (Int.ofNat (List.length (gt cO t5 t6).2.2.2.2.1)))
 (
  ak (al t6 t5.length)<|
  ak (al t7 (List.length (gt cO t5 t6).2.2.2.2.1))<|
  ak (al (gt .I (gt cO t5 t6).2.2.2.2.1 t7) b0.length)<|
  acB (t5,t6,(mt (t7+(1:Int))),(List.set b0 (Int.toNat (gt .I (gt cO t5 t6).2.2.2.2.1 t7)) (Int.negSucc 0)),()))
 (
  acC (t5,t6,b0,()))
def Oc  :DL:=cj (u4 yC) (pL k0 e0 1 l0 fun d=>acu)
def yv:DK:=bh (u4 yC) NN
def yD(L9:DK)(t5:ii)(t6:Int)(b0:io):am yn yj:=
 br (iL t6 (Int.ofNat t5.length))
 (
  aE (L9 (t5,t6,(0:Int),b0,())) fun x0=>
  acB (x0.1,(mt (lw x0.2.1 (1:Int))),x0.2.2.1,()))
 (
  acC (t5,b0,()))
def Zz(M9:DL):DN:=cj (u3 (yD M9.L)) (pL k0 e0 1 (sC M9 l0) fun d=>acu)
def Zy:DN:=Zz  Oc
def FJ:Ob:=bh (u3 (yD yv)) NN
def yx(t5:ii)(t8 t9 t10 t11 t12:Int)(b0:io):am xZ xY:=
 ak (al t10 t5.length)<|
 br (iL t12 (Int.ofNat (List.length (gt cO t5 t10).2.2.2.2.1)))
 (
  ak (al t10 t5.length)<|
  ak (al t12 (List.length (gt cO t5 t10).2.2.2.2.1))<|
  ak (al (gt .I (gt cO t5 t10).2.2.2.2.1 t12) b0.length)<|
  acB (t5,t8,t9,t10,t11,(mt (t12+(1:Int))),(List.set b0 (Int.toNat (gt .I (gt cO t5 t10).2.2.2.2.1 t12)) t11),()))
 (
  acC (t5,t8,t9,t10,b0,()))
def N5  :DF:=cj (u7 yx) (pL k0 e0 1 l0 fun d=>acu)
def yh:DD:=bh (u7 yx) NN
def yy(F0:DT)(L24:DD)(t5:ii)(t8 t9 t10:Int)(b0:io):am yb x9:=
 br (iL t10 (Int.ofNat t5.length))
 (
  ak (al t10 t5.length)<|
  aE (F0 ((gt cO t5 t10),b0,())) fun x0=>
  br (iL x0.1 (0:Int))
  (
   aE (L24 (t5,(mt (t8+(1:Int))),t9,t10,x0.1,(0:Int),b0,())) fun x1=>
   acB (x1.1,x1.2.1,x1.2.2.1,(mt (lw x1.2.2.2.1 (1:Int))),x1.2.2.2.2.1,()))
  (
   aE (L24 (t5,t8,t9,t10,x0.1,(0:Int),b0,())) fun x1=>
   acB (x1.1,x1.2.1,x1.2.2.1,(mt (lw x1.2.2.2.1 (1:Int))),x1.2.2.2.2.1,())))
 (
  acC (t5,t8,t9,b0,()))
def Zu(c0:w8)(M24:DF):wW:=cj (u5 (yy c0.F M24.L)) (pL (kD c0 k0) e0 1 (sC M24 l0) fun d=>acu)
def N7:wW:=Zu DU N5
def yr:DE:=bh (u5 (yy Fk yh)) NN
def yz(L18:DE)(t5:ii)(t8 t9:Int)(b0:io):am yk yi:=
 br (iE t9 (Int.ofNat t5.length))
 (
  aE (L18 (t5,(0:Int),t9,(0:Int),b0,())) fun x0=>
  acB (x0.1,x0.2.1,(mt (lw x0.2.2.1 (1:Int))),x0.2.2.2.1,()))
 (
  acC (t8,b0,()))
def Zv(M18:wW):DG:=cj (u4 (yz M18.L)) (pL k0 e0 1 (sC M18 l0) fun d=>acu)
def Zt:DG:=Zv  N7
def FH:N4:=bh (u4 (yz yr)) NN
abbrev P6:List Sh:=[bB]
abbrev FU:List Sh:=[(.sl .I),.bool]
abbrev NW:=TL P6->Option (TL FU)
abbrev DB:=Kd 16 P6 FU
def FZ(F0:DT)(F1:NY)(F2:D9)(L6:Ob)(L9:DK)(L14:N4)(L18:DE)(L24:DD)(a0:Sh.T bB):Option (TL FU):=
 aE (F2 (a0,())) fun x0=>
 br (Bool.not (iQ x0.1 (0:Int)))
 (
  some ([],false,()))
 (
  ak (both (iE (0:Int) (mt (lw a0.1 (1:Int)))) (both (iE (mt (lw a0.1 (1:Int))) (mt (lw a0.1 (1:Int)))) (iE ((Int.ofNat 8)*(mt (lw a0.1 (1:Int)))) (281474976710656:Int))))<|
  aE (F1 (a0,())) fun x1=>
  aE (L6 (x1.1,(0:Int),(List.replicate (Int.toNat (mt (lw a0.1 (1:Int)))) (Sh.zero .I)),())) fun x2=>
  aE (L14 (x2.1,(0:Int),(0:Int),x2.2.1,())) fun x3=>
  br (iL (0:Int) x3.1)
  (
   some ([],false,()))
  (
   some (x3.2.1,true,())))
def ZK(c0:w8)(c1:DC)(c2:xc)(M6:DN)(M9:DL)(M14:DG)(M18:wW)(M24:DF):DB:=⟨u1 (FZ c0.F c1.F c2.F M6.L M9.L M14.L M18.L M24.L),pD Try.func16 94 (kD c0 (kD c1 (kD c2 k0))) e0 1 (sS (sC M6 (sC M14 l0))) fun d=>acu⟩
def NX:DB:=ZK DU NZ Ea Zy Oc Zt N7 N5
def Zfg:NW:=NX.F
abbrev P9:List Sh:=[bB]
abbrev F6:List Sh:=[.I]
abbrev Yn:=TL P9->Option (TL F6)
abbrev MD:=Kd 5 P9 F6
def Zl8(F0:NW)(F1:D9)(a0:Sh.T bB):Option (TL F6):=
 aE (F1 (a0,())) fun x0=>
 br (Bool.not (iQ x0.1 (0:Int)))
 (
  some (x0.1,()))
 (
  aE (F0 (a0,())) fun x1=>
  br (Bool.not x1.2.1)
  (
   some ((8:Int),()))
  (
   some ((0:Int),())))
def ZN(c0:DB)(c1:xc) :MD:=⟨u1 (Zl8 c0.F c1.F),pD Try.func5 18 (kD c0 (kD c1 k0)) e0 1 (sS l0) fun d=>acu⟩
def MH:MD:=ZN NX Ea
def Zb7:Yn:=MH.F
