import Derived.Test.YtbbhihkocghhaaaKNc
set_option linter.all false
/- the document's iU: what is sound (printed by VTool.lean). -/
namespace Go.Proofs.Ytbbhihkocghhaaa.V
open Go Go.RowKit
set_option maxRecDepth 1000000
abbrev qf:List (Nat×LO):=[(0,.cells iN 27),(1,.arr .I 3)]
abbrev sR:List LA:=[.I,.I,.bool,.fz bK,.fz bj]
abbrev xR:ae:=⟨[(1,.ptr 0 0),(3,.hd 1 .I),(5,.I)],qf,2⟩
abbrev xS:ae:=⟨[(1,.ptr 0 0),(3,.hd 1 .I)],qf,2⟩
abbrev sT:ae:=⟨[(2,.I)],[],0⟩
abbrev Fb:ae:=⟨[(1,.ptr 0 0)],[(0,.cells iN 27)],1⟩
abbrev Fc:List (Nat×LO):=[(0,.cells iN 27),(1,.arr .I 3),(2,.cells sR 73)]
abbrev PK:ae:=⟨[(1,.ptr 0 0),(3,.hd 1 .I),(4,.I)],qf,2⟩
abbrev FA:ae:=⟨[(1,.I),(2,.ptr 0 0),(5,.hd 1 .I),(6,.I)],[(0,.cells sR 73),(1,.arr .I 3)],2⟩
abbrev Fx:List (Ev.Ex×ae):=[((.exit 0),⟨[(5,.hd 0 .I)],[(0,.arr .I 3)],1⟩)]
abbrev Ol:=be FA Fx
abbrev Om:=Ld 0 34 (bZ [0] (bC Try.f62)) FA Fx
def yH(t1 t6 aF aN:Int)(aC:Bool)(aG:eq)(aJ:ge)(b1:io):am FA Fx:=
 br (iL t6 aN)
 (
  ak (al t1 aG.length)<|
  ak (room 8 (List.length (ap b1 ((mt (lw (gt bK aG t1).1 t6))::[]))))<|
  acB (t1,(mt (t6+(1:Int))),aF,aN,aC,aG,aJ,(ap b1 ((mt (lw (gt bK aG t1).1 t6))::[])),()))
 (
  acC (b1,()))
def ZO  :Om:=cj (u8 yH) (pL k0 e0 1 l0 fun d=>acu)
def FP:Ol:=bh (u8 yH) NN
abbrev Qc:List Sh:=[aj,.I]
abbrev Gc:List Sh:=[(.sl .I)]
abbrev r9:=TL Qc->Option (TL Gc)
abbrev pS:=Kd 62 Qc Gc
def Ge(L5:Ol)(a0:Sh.T aj)(a1:Int):Option (TL Gc):=
 br (iL a1 (0:Int))
 (
  some ([],()))
 (
  br (bw false true (iE (Int.ofNat (List.length (eZ a0))) a1))
  (
   some ([],()))
  (
   aE (L5 (a1,(0:Int),a0.1,a0.2.1,a0.2.2.1,eZ a0,fj a0,[],())) fun x0=>
   some (x0.1,())))
def ZQ(M5:Om):pS:=⟨u2 (Ge M5.L),pD Try.func62 34 k0 e0 1 (sS (sC M5 l0)) fun d=>acu⟩
def sd:pS:=ZQ  ZO
def Fp:r9:=sd.F
abbrev uV:ae:=⟨[(1,.ptr 0 0),(4,.I)],[(0,.cells sR 73)],1⟩
abbrev uR:List (Ev.Ex×ae):=[(.ret,⟨[(2,.bool)],[],0⟩),((.exit 2),⟨[],[],0⟩)]
abbrev Ja:=be uV uR
abbrev I8:=Ld 0 69 (bZ [1] (bC Try.f38)) uV uR
abbrev uU:ae:=⟨[(1,.ptr 0 0),(3,.I)],[(0,.cells sR 73)],1⟩
abbrev uQ:List (Ev.Ex×ae):=[(.ret,⟨[(2,.bool)],[],0⟩),((.exit 0),⟨[(1,.ptr 0 0)],[(0,.cells sR 73)],1⟩)]
abbrev I9:=be uU uQ
abbrev I7:=Ld 0 69 (bZ [0] (bC Try.f38)) uU uQ
def uZ(t3 aF aN:Int)(aC:Bool)(aG:eq)(aJ:ge):am uU uQ:=
 br (iL t3 (Int.ofNat aG.length))
 (
  ak (al t3 aG.length)<|
  br (Bool.not (iQ (Int.ofNat (List.length (gt bK aG t3).2.1)) aF))
  (
   acC (.inl (true,())))
  (
   acB ((mt (t3+(1:Int))),aF,aN,aC,aG,aJ,())))
 (
  acC (.inr (aF,aN,aC,aG,aJ,())))
def R4  :I7:=cj (u6 uZ) (pL k0 e0 1 l0 fun d=>acu)
def Ay:I9:=bh (u6 uZ) NN
def va(t4 aF aN:Int)(aC:Bool)(aG:eq)(aJ:ge):am uV uR:=
 br (iL t4 (Int.ofNat aJ.length))
 (
  ak (al t4 aJ.length)<|
  br (Bool.not (iQ (Int.ofNat (List.length (gt bj aJ t4).2.1)) aF))
  (
   acC (.inl (true,())))
  (
   ak (al t4 aJ.length)<|
   br (bw false true (Bool.not (iQ (Int.ofNat (List.length (gt bj aJ t4).2.2.1)) aN)))
   (
    acC (.inl (true,())))
   (
    acB ((mt (t4+(1:Int))),aF,aN,aC,aG,aJ,()))))
 (
  acC (.inr ()))
def R5  :I8:=cj (u6 va) (pL k0 e0 1 l0 fun d=>acu)
def Az:Ja:=bh (u6 va) NN
abbrev Jb:List Sh:=[aj]
abbrev AA:List Sh:=[.bool]
abbrev AE:=TL Jb->Option (TL AA)
abbrev vb:=Kd 38 Jb AA
def AB(L4:I9)(L9:Ja)(a0:Sh.T aj):Option (TL AA):=
 br (iL a0.1 (1:Int))
 (
  some (true,()))
 (
  br (bw false true (iL (62:Int) a0.1))
  (
   some (true,()))
  (
   br (bw false true (iL a0.2.1 (1:Int)))
   (
    some (true,()))
   (
    br (bw false true (iL (64:Int) a0.2.1))
    (
     some (true,()))
    (
     aE (L4 ((0:Int),a0)) fun x0=>
     (match x0 with
     |.inl x1=>some (x1.1,())|.inr x1=>
      aE (L9 ((0:Int),x1)) fun x2=>
      (match x2 with|.inl x3=>some (x3.1,())|.inr x3=>some (false,())
      )
     )))))
def R7(M4:I7)(M9:I8):vb:=⟨u1 (AB M4.L M9.L),pD Try.func38 69 k0 e0 1 (sS (sC M4 (sC M9 l0))) fun d=>acu⟩
def AD:vb:=R7  R4 R5
def Ax:AE:=AD.F
abbrev uM:ae:=⟨[(1,.ptr 0 0),(3,.I)],[(0,.cells iN 27)],1⟩
abbrev uG:List (Ev.Ex×ae):=[(.ret,⟨[(2,.bool)],[],0⟩),((.exit 0),Fb)]
abbrev IZ:=be uM uG
abbrev IX:=Ld 0 73 (bZ [0] (bC Try.f37)) uM uG
def uT(t3 aF:Int)(aN:io)(aC:bi)(aG aJ aY:io)(ar:bv)(aD:bi):am uM uG:=
 br (iL t3 (Int.ofNat ar.length))
 (
  ak (al t3 ar.length)<|
  br (iL (4:Int) (Int.ofNat (List.length (gt aj ar t3).2.2.2.1)))
  (
   acC (.inl (true,())))
  (
   ak (al t3 ar.length)<|
   br (bw false true (iL (4:Int) (Int.ofNat (List.length (gt aj ar t3).2.2.2.2.1))))
   (
    acC (.inl (true,())))
   (
    acB ((mt (t3+(1:Int))),aF,aN,aC,aG,aJ,aY,ar,aD,()))))
 (
  acC (.inr (aF,aN,aC,aG,aJ,aY,ar,aD,())))
def RQ  :IX:=cj (u9 uT) (pL k0 e0 1 l0 fun d=>acu)
def Ak:IZ:=bh (u9 uT) NN
abbrev I0:List Sh:=[bB]
abbrev qU:List Sh:=[.bool]
abbrev I6:=TL I0->Option (TL qU)
abbrev At:=Kd 37 I0 qU
def Au(L4:IZ)(a0:Sh.T bB):Option (TL qU):=
 br (iL a0.1 (0:Int))
 (
  some (true,()))
 (
  br (bw false true (iL (2000:Int) a0.1))
  (
   some (true,()))
  (
   br (bw false true (iL (1000:Int) (mt ((mt ((Int.ofNat (List.length (eZ a0)))+(Int.ofNat (List.length (fj a0)))))+(Int.ofNat (List.length (gi a0)))))))
   (
    some (true,()))
   (
    br (bw false true (iL (4:Int) (Int.ofNat (List.length (iH a0)))))
    (
     some (true,()))
    (
     aE (L4 ((0:Int),a0)) fun x0=>
     (match x0 with
     |.inl x1=>some (x1.1,())|.inr x1=>
      br (iL (2000:Int) (Int.ofNat (List.length x1.2.1)))
      (
       some (true,()))
      (
       br (bw false true (iL (2000:Int) (Int.ofNat (List.length x1.2.2.1))))
       (
        some (true,()))
       (
        some ((bw false true (iL (2000:Int) (Int.ofNat (List.length (iI x1))))),())))
     )))))
def RW(M4:IX):At:=⟨u1 (Au M4.L),pD Try.func37 73 k0 e0 1 (sS (sC M4 l0)) fun d=>acu⟩
def I5:At:=RW  RQ
def IY:I6:=I5.F
abbrev uy:ae:=⟨[(1,.ptr 0 0),(3,.hd 1 .I),(7,.I)],qf,2⟩
abbrev um:List (Ev.Ex×ae):=[((.exit 6),⟨[(3,.hd 0 .I)],[(0,.arr .I 3)],1⟩)]
abbrev Ip:=be uy um
abbrev Il:=Ld 0 72 (bZ [2] (bC Try.f61)) uy um
abbrev uE:ae:=xR
abbrev uA:List (Ev.Ex×ae):=[((.exit 2),xS)]
abbrev IE:=be uE uA
abbrev Aa:=Ld 0 72 (bZ [1] (bC Try.f61)) uE uA
abbrev ux:ae:=⟨[(1,.ptr 0 0),(3,.hd 1 .I),(5,.I),(6,.I)],qf,2⟩
abbrev uk:List (Ev.Ex×ae):=[((.exit 4),xR)]
abbrev z7:=be ux uk
abbrev uI:=Ld 0 72 (bZ [1,0] (bC Try.f61)) ux uk
abbrev uD:ae:=PK
abbrev uz:List (Ev.Ex×ae):=[((.exit 0),xS)]
abbrev ID:=be uD uz
abbrev IA:=Ld 0 72 (bZ [0] (bC Try.f61)) uD uz
def Iy(t4 aF:Int)(aN:io)(aC:bi)(aG aJ aY:io)(ar:bv)(aD:bi)(b1:io):am uD uz:=
 br (iL t4 (Int.ofNat aC.length))
 (
  ak (al t4 aC.length)<|
  ak (room 8 (List.length (ap b1 ((gt ag aC t4).1::[]))))<|
  acB ((mt (t4+(1:Int))),aF,aN,aC,aG,aJ,aY,ar,aD,(ap b1 ((gt ag aC t4).1::[])),()))
 (
  acC (aF,aN,aC,aG,aJ,aY,ar,aD,b1,()))
def RA  :IA:=cj (dB Iy) (pL k0 e0 1 l0 fun d=>acu)
def IB:ID:=bh (dB Iy) NN
def uH(F0:r9)(t5 t6 aF:Int)(aN:io)(aC:bi)(aG aJ aY:io)(ar:bv)(aD:bi)(b1:io):am ux uk:=
 ak (al t5 ar.length)<|
 br (iL t6 (Int.ofNat (List.length (gt aj ar t5).2.2.2.1)))
 (
  ak (al t5 ar.length)<|
  aE (F0 ((gt aj ar t5),t6,())) fun x0=>
  ak (room 8 (List.length (ap b1 x0.1)))<|
  acB (t5,(mt (t6+(1:Int))),aF,aN,aC,aG,aJ,aY,ar,aD,(ap b1 x0.1),()))
 (
  acC (t5,aF,aN,aC,aG,aJ,aY,ar,aD,b1,()))
def Rt(c0:pS) :uI:=cj (kT (uH c0.F)) (pL (kD c0 k0) e0 1 l0 fun d=>acu)
def Io:uI:=Rt sd
def z6:z7:=bh (kT (uH Fp)) NN
def Iz(L10:z7)(t5 aF:Int)(aN:io)(aC:bi)(aG aJ aY:io)(ar:bv)(aD:bi)(b1:io):am uE uA:=
 br (iL t5 (Int.ofNat ar.length))
 (
  aE (L10 (t5,(0:Int),aF,aN,aC,aG,aJ,aY,ar,aD,b1,())) fun x0=>
  acB ((mt (lw x0.1 (1:Int))),x0.2))
 (
  acC (aF,aN,aC,aG,aJ,aY,ar,aD,b1,()))
def Rz(M10:uI):Aa:=cj (dB (Iz M10.L)) (pL k0 e0 1 (sC M10 l0) fun d=>acu)
def RB:Aa:=Rz  Io
def IC:IE:=bh (dB (Iz z6)) NN
def Ik(t7 aF:Int)(aN:io)(aC:bi)(aG aJ aY:io)(ar:bv)(aD:bi)(b1:io):am uy um:=
 br (iL t7 (Int.ofNat aD.length))
 (
  ak (al t7 aD.length)<|
  ak (room 8 (List.length (ap b1 ((gt ag aD t7).1::[]))))<|
  acB ((mt (t7+(1:Int))),aF,aN,aC,aG,aJ,aY,ar,aD,(ap b1 ((gt ag aD t7).1::[])),()))
 (
  acC (b1,()))
def Ru  :Il:=cj (dB Ik) (pL k0 e0 1 l0 fun d=>acu)
def Im:Ip:=bh (dB Ik) NN
abbrev IF:List Sh:=[bB]
abbrev Ad:List Sh:=[(.sl .I)]
abbrev IP:=TL IF->Option (TL Ad)
abbrev Ag:=Kd 61 IF Ad
def RK(F0:r9)(L3:ID)(L7:IE)(L10:z7)(L14:Ip)(a0:Sh.T bB):Option (TL Ad):=
 ak (room 8 (List.length (ap [] a0.2.1)))<|
 aE (L3 ((0:Int),a0.1,a0.2.1,a0.2.2.1,eZ a0,fj a0,gi a0,iH a0,iI a0,(ap [] a0.2.1),())) fun x0=>
 aE (L7 ((0:Int),x0)) fun x1=>
 aE (L14 ((0:Int),x1)) fun x2=>
 some (x2.1,())
def RL(c0:pS)(M3:IA)(M7:Aa)(M10:uI)(M14:Il):Ag:=⟨u1 (RK c0.F M3.L M7.L M10.L M14.L),pD Try.func61 72 (kD c0 k0) e0 1 (sS (sC M3 (sC M7 (sC M14 l0)))) fun d=>acu⟩
def IM:Ag:=RL sd RA RB Io Ru
def Ry:IP:=IM.F
abbrev uu:ae:=⟨[(1,.ptr 0 0),(3,.hd 1 .I),(10,.I)],qf,2⟩
abbrev uj:List (Ev.Ex×ae):=[((.exit 8),⟨[(3,.hd 0 .I)],[(0,.arr .I 3)],1⟩)]
abbrev Ij:=be uu uj
abbrev Ib:=Ld 0 114 (bZ [2] (bC Try.f40)) uu uj
abbrev uo:ae:=xR
abbrev ug:List (Ev.Ex×ae):=[((.exit 2),xS)]
abbrev Ii:=be uo ug
abbrev zT:=Ld 0 114 (bZ [1] (bC Try.f40)) uo ug
abbrev ur:ae:=⟨[(1,.ptr 0 0),(3,.hd 1 .I),(5,.I),(6,.ptr 2 0),(8,.I)],Fc,3⟩
abbrev ui:List (Ev.Ex×ae):=[((.exit 6),xR)]
abbrev zZ:=be ur ui
abbrev zV:=Ld 0 114 (bZ [1,1] (bC Try.f40)) ur ui
abbrev uq:ae:=⟨[(1,.ptr 0 0),(3,.hd 1 .I),(5,.I),(6,.ptr 2 0),(7,.I)],Fc,3⟩
abbrev uh:List (Ev.Ex×ae):=[((.exit 4),⟨[(1,.ptr 0 0),(3,.hd 1 .I),(5,.I),(6,.ptr 2 0)],Fc,3⟩)]
abbrev zY:=be uq uh
abbrev zU:=Ld 0 114 (bZ [1,0] (bC Try.f40)) uq uh
abbrev uB:ae:=PK
abbrev uv:List (Ev.Ex×ae):=[((.exit 0),xS)]
abbrev It:=be uB uv
abbrev Iq:=Ld 0 114 (bZ [0] (bC Try.f40)) uB uv
def z8(t4 aF:Int)(aN:io)(aC:bi)(aG aJ aY:io)(ar:bv)(aD:bi)(b1:io):am uB uv:=
 br (iL t4 (Int.ofNat aC.length))
 (
  ak (al t4 aC.length)<|
  ak (room 8 (List.length (ap b1 ((gt ag aC t4).2.1::[]))))<|
  acB ((mt (t4+(1:Int))),aF,aN,aC,aG,aJ,aY,ar,aD,(ap b1 ((gt ag aC t4).2.1::[])),()))
 (
  acC (aF,aN,aC,aG,aJ,aY,ar,aD,b1,()))
def Rw  :Iq:=cj (dB z8) (pL k0 e0 1 l0 fun d=>acu)
def Is:It:=bh (dB z8) NN
def zP(t5 t7 aF:Int)(aN:io)(aC:bi)(aG aJ aY:io)(ar:bv)(aD:bi)(b1:io)(bI bN:Int)(bO:Bool)(bH:eq)(bA:ge):am uq uh:=
 br (iL t7 (Int.ofNat bH.length))
 (
  ak (al t7 bH.length)<|
  ak (room 8 (List.length (ap b1 (gt bK bH t7).2.1)))<|
  acB (t5,(mt (t7+(1:Int))),aF,aN,aC,aG,aJ,aY,ar,aD,(ap b1 (gt bK bH t7).2.1),bI,bN,bO,bH,bA,()))
 (
  acC (t5,aF,aN,aC,aG,aJ,aY,ar,aD,b1,bI,bN,bO,bH,bA,()))
def Ig  :zU:=cj (u16 zP) (pL k0 e0 1 l0 fun d=>acu)
def zW:zY:=bh (u16 zP) NN
def zQ(t5 t8 aF:Int)(aN:io)(aC:bi)(aG aJ aY:io)(ar:bv)(aD:bi)(b1:io)(bI bN:Int)(bO:Bool)(bH:eq)(bA:ge):am ur ui:=
 br (iL t8 (Int.ofNat bA.length))
 (
  ak (al t8 bA.length)<|
  ak (room 8 (List.length (ap b1 ((gt bj bA t8).1::[]))))<|
  ak (room 8 (List.length (ap (ap b1 ((gt bj bA t8).1::[])) (gt bj bA t8).2.1)))<|
  ak (room 8 (List.length (ap (ap (ap b1 ((gt bj bA t8).1::[])) (gt bj bA t8).2.1) (gt bj bA t8).2.2.1)))<|
  acB (t5,(mt (t8+(1:Int))),aF,aN,aC,aG,aJ,aY,ar,aD,(ap (ap (ap b1 ((gt bj bA t8).1::[])) (gt bj bA t8).2.1) (gt bj bA t8).2.2.1),bI,bN,bO,bH,bA,()))
 (
  acC (t5,aF,aN,aC,aG,aJ,aY,ar,aD,b1,()))
def Ih  :zV:=cj (u16 zQ) (pL k0 e0 1 l0 fun d=>acu)
def zX:zZ:=bh (u16 zQ) NN
def zO(L14:zY)(L18:zZ)(t5 aF:Int)(aN:io)(aC:bi)(aG aJ aY:io)(ar:bv)(aD:bi)(b1:io):am uo ug:=
 br (iL t5 (Int.ofNat ar.length))
 (
  ak (al t5 ar.length)<|
  aE (L14 (t5,(0:Int),aF,aN,aC,aG,aJ,aY,ar,aD,b1,(gt aj ar t5))) fun x0=>
  aE (L18 (x0.1,(0:Int),x0.2)) fun x1=>
  acB ((mt (lw x1.1 (1:Int))),x1.2))
 (
  acC (aF,aN,aC,aG,aJ,aY,ar,aD,b1,()))
def Rp(M14:zU)(M18:zV):zT:=cj (dB (zO M14.L M18.L)) (pL k0 e0 1 (sC M14 (sC M18 l0)) fun d=>acu)
def Rq:zT:=Rp  Ig Ih
def Ic:Ii:=bh (dB (zO zW zX)) NN
def zS(t10 aF:Int)(aN:io)(aC:bi)(aG aJ aY:io)(ar:bv)(aD:bi)(b1:io):am uu uj:=
 br (iL t10 (Int.ofNat aD.length))
 (
  ak (al t10 aD.length)<|
  ak (al t10 aD.length)<|
  ak (room 8 (List.length (ap b1 ((gt ag aD t10).2.1::((gt ag aD t10).2.2.1::[])))))<|
  acB ((mt (t10+(1:Int))),aF,aN,aC,aG,aJ,aY,ar,aD,(ap b1 ((gt ag aD t10).2.1::((gt ag aD t10).2.2.1::[]))),()))
 (
  acC (b1,()))
def Rr  :Ib:=cj (dB zS) (pL k0 e0 1 l0 fun d=>acu)
def Ie:Ij:=bh (dB zS) NN
abbrev Iu:List Sh:=[bB]
abbrev z9:List Sh:=[(.sl .I)]
abbrev IH:=TL Iu->Option (TL z9)
abbrev Ae:=Kd 40 Iu z9
def RC(L3:It)(L10:Ii)(L14:zY)(L18:zZ)(L25:Ij)(a0:Sh.T bB):Option (TL z9):=
 aE (L3 ((0:Int),a0.1,a0.2.1,a0.2.2.1,eZ a0,fj a0,gi a0,iH a0,iI a0,[],())) fun x0=>
 ak (room 8 (List.length (ap (jo x0) (eZ x0))))<|
 ak (room 8 (List.length (ap (ap (jo x0) (eZ x0)) (fj x0))))<|
 ak (room 8 (List.length (ap (ap (ap (jo x0) (eZ x0)) (fj x0)) (gi x0))))<|
 aE (L10 ((0:Int),x0.1,x0.2.1,x0.2.2.1,eZ x0,fj x0,gi x0,iH x0,iI x0,(ap (ap (ap (jo x0) (eZ x0)) (fj x0)) (gi x0)),())) fun x1=>
 aE (L25 ((0:Int),x1)) fun x2=>
 some (x2.1,())
def RG(M3:Iq)(M10:zT)(M14:zU)(M18:zV)(M25:Ib):Ae:=⟨u1 (RC M3.L M10.L M14.L M18.L M25.L),pD Try.func40 114 k0 e0 1 (sS (sC M3 (sC M10 (sC M25 l0)))) fun d=>acu⟩
def IG:Ae:=RG  Rw Rq Ig Ih Rr
def Ir:IH:=IG.F
abbrev uC:ae:=⟨[(1,.ptr 0 0),(4,.hd 1 .bool),(6,.I)],[(0,.cells iN 27),(1,.arr .bool 4)],2⟩
abbrev uw:List (Ev.Ex×ae):=[(.ret,sT),((.exit 2),⟨[],[],0⟩)]
abbrev Ix:=be uC uw
abbrev Iv:=Ld 0 57 (bZ [1] (bC Try.f39)) uC uw
abbrev pt:ae:=⟨[(1,.ptr 0 0),(3,.fz .I),(4,.hd 1 .bool),(5,.I)],[(0,.cells iN 27),(1,.arr .bool 4)],2⟩
abbrev qS:List (Ev.Ex×ae):=[(.ret,sT),((.exit 0),⟨[(1,.ptr 0 0),(4,.hd 1 .bool)],[(0,.cells iN 27),(1,.arr .bool 4)],2⟩)]
abbrev IK:=be pt qS
abbrev II:=Ld 0 57 (bZ [0] (bC Try.f39)) pt qS
def uP(t3:io)(t5 aF:Int)(aN:io)(aC:bi)(aG aJ aY:io)(ar:bv)(aD:bi)(b1:ip):am pt qS:=
 br (iL t5 (Int.ofNat t3.length))
 (
  ak (al t5 t3.length)<|
  br (iL (gt .I t3 t5) (1:Int))
  (
   acC (.inl ((5:Int),())))
  (
   ak (al t5 t3.length)<|
   br (bw false true (iL aF (gt .I t3 t5)))
   (
    acC (.inl ((5:Int),())))
   (
    ak (al t5 t3.length)<|
    ak (al (gt .I t3 t5) b1.length)<|
    br (gt .bool b1 (gt .I t3 t5))
    (
     acC (.inl ((6:Int),())))
    (
     ak (al t5 t3.length)<|
     ak (al (gt .I t3 t5) b1.length)<|
     acB (t3,(mt (t5+(1:Int))),aF,aN,aC,aG,aJ,aY,ar,aD,(List.set b1 (Int.toNat (gt .I t3 t5)) true),())))))
 (
  acC (.inr (aF,aN,aC,aG,aJ,aY,ar,aD,b1,())))
def RJ  :II:=cj (kT uP) (pL k0 e0 1 l0 fun d=>acu)
def RH:IK:=bh (kT uP) NN
def qT(t6 aF:Int)(aN:io)(aC:bi)(aG aJ aY:io)(ar:bv)(aD:bi)(b1:ip):am uC uw:=
 br (iE t6 aF)
 (
  ak (al t6 b1.length)<|
  br (Bool.not (gt .bool b1 t6))
  (
   acC (.inl ((7:Int),())))
  (
   acB ((mt (t6+(1:Int))),aF,aN,aC,aG,aJ,aY,ar,aD,b1,())))
 (
  acC (.inr ()))
def Rx  :Iv:=cj (dB qT) (pL k0 e0 1 l0 fun d=>acu)
def Iw:Ix:=bh (dB qT) NN
abbrev IL:List Sh:=[bB]
abbrev Af:List Sh:=[.I]
abbrev IW:=TL IL->Option (TL Af)
abbrev Aj:=Kd 39 IL Af
def RO(F0:IP)(L4:IK)(L12:Ix)(a0:Sh.T bB):Option (TL Af):=
 aE (F0 (a0,())) fun x0=>
 ak (both (iE (0:Int) (mt (lw a0.1 (1:Int)))) (both (iE (mt (lw a0.1 (1:Int))) (mt (lw a0.1 (1:Int)))) (iE ((Int.ofNat 1)*(mt (lw a0.1 (1:Int)))) (281474976710656:Int))))<|
 aE (L4 (x0.1,(0:Int),a0.1,a0.2.1,a0.2.2.1,eZ a0,fj a0,gi a0,iH a0,iI a0,(List.replicate (Int.toNat (mt (lw a0.1 (1:Int)))) (Sh.zero .bool)),())) fun x1=>
 (match x1 with
 |.inl x2=>some (x2.1,())|.inr x2=>
  aE (L12 ((1:Int),x2)) fun x3=>
  (match x3 with|.inl x4=>some (x4.1,())|.inr x4=>some ((0:Int),())
  )
 )
def RP(c0:Ag)(M4:II)(M12:Iv):Aj:=⟨u1 (RO c0.F M4.L M12.L),pD Try.func39 57 (kD c0 k0) e0 1 (sS (sC M4 (sC M12 l0))) fun d=>acu⟩
def IV:Aj:=RP IM RJ Rx
def IJ:IW:=IV.F
abbrev uJ:ae:=⟨[(1,.ptr 0 0),(6,.fz .I),(7,.I)],[(0,.cells iN 27)],1⟩
abbrev uF:List (Ev.Ex×ae):=[(.ret,sT),((.exit 4),⟨[],[],0⟩)]
abbrev IU:=be uJ uF
abbrev IQ:=Ld 0 75 (bZ [2] (bC Try.f15)) uJ uF
abbrev uO:ae:=⟨[(1,.ptr 0 0),(4,.I)],[(0,.cells iN 27)],1⟩
abbrev uL:List (Ev.Ex×ae):=[(.ret,sT),((.exit 2),Fb)]
abbrev I3:=be uO uL
abbrev I1:=Ld 0 75 (bZ [1] (bC Try.f15)) uO uL
abbrev uN:ae:=⟨[(1,.ptr 0 0),(3,.I)],[(0,.cells iN 27)],1⟩
abbrev uK:List (Ev.Ex×ae):=[(.ret,sT),((.exit 0),Fb)]
abbrev I2:=be uN uK
abbrev Ap:=Ld 0 75 (bZ [0] (bC Try.f15)) uN uK
def uW(F2:AE)(t3 aF:Int)(aN:io)(aC:bi)(aG aJ aY:io)(ar:bv)(aD:bi):am uN uK:=
 br (iL t3 (Int.ofNat ar.length))
 (
  ak (al t3 ar.length)<|
  aE (F2 ((gt aj ar t3),())) fun x0=>
  br x0.1
  (
   acC (.inl ((9:Int),())))
  (
   acB ((mt (t3+(1:Int))),aF,aN,aC,aG,aJ,aY,ar,aD,())))
 (
  acC (.inr (aF,aN,aC,aG,aJ,aY,ar,aD,())))
def RS(c2:vb) :Ap:=cj (u9 (uW c2.F)) (pL (kD c2 k0) e0 1 l0 fun d=>acu)
def RT:Ap:=RS AD
def Aq:I2:=bh (u9 (uW Ax)) NN
def uX(t4 aF:Int)(aN:io)(aC:bi)(aG aJ aY:io)(ar:bv)(aD:bi):am uO uL:=
 br (iL t4 (Int.ofNat aC.length))
 (
  ak (al t4 aC.length)<|
  br (iL (gt ag aC t4).2.2.1 (0:Int))
  (
   acC (.inl ((1:Int),())))
  (
   ak (al t4 aC.length)<|
   br (bw false true (iL (2:Int) (gt ag aC t4).2.2.1))
   (
    acC (.inl ((1:Int),())))
   (
    acB ((mt (t4+(1:Int))),aF,aN,aC,aG,aJ,aY,ar,aD,()))))
 (
  acC (.inr (aF,aN,aC,aG,aJ,aY,ar,aD,())))
def RU  :I1:=cj (u9 uX) (pL k0 e0 1 l0 fun d=>acu)
def Ar:I3:=bh (u9 uX) NN
def uS(t6:io)(t7 aF:Int)(aN:io)(aC:bi)(aG aJ aY:io)(ar:bv)(aD:bi):am uJ uF:=
 br (iL t7 (Int.ofNat t6.length))
 (
  ak (al t7 t6.length)<|
  br (iL (gt .I t6 t7) (0:Int))
  (
   acC (.inl ((5:Int),())))
  (
   ak (al t7 t6.length)<|
   br (bw false true (iL (mt ((mt ((2:Int)*aF))+(1:Int))) (gt .I t6 t7)))
   (
    acC (.inl ((5:Int),())))
   (
    acB (t6,(mt (t7+(1:Int))),aF,aN,aC,aG,aJ,aY,ar,aD,()))))
 (
  acC (.inr ()))
def RM  :IQ:=cj (dB uS) (pL k0 e0 1 l0 fun d=>acu)
def Ah:IU:=bh (dB uS) NN
abbrev I4:List Sh:=[bB]
abbrev uY:List Sh:=[.I]
abbrev D9:=TL I4->Option (TL uY)
abbrev xc:=Kd 15 I4 uY
def Aw(F0:IH)(F1:IW)(F2:AE)(F3:I6)(L4:I2)(L9:I3)(L18:IU)(a0:Sh.T bB):Option (TL uY):=
 aE (F3 (a0,())) fun x0=>
 br x0.1
 (
  some ((10:Int),()))
 (
  aE (L4 ((0:Int),a0)) fun x1=>
  (match x1 with
  |.inl x2=>some (x2.1,())|.inr x2=>
   aE (L9 ((0:Int),x2)) fun x3=>
   (match x3 with
   |.inl x4=>some (x4.1,())|.inr x4=>
    aE (F1 (x4,())) fun x5=>
    br (Bool.not (iQ x5.1 (0:Int)))
    (
     some (x5.1,()))
    (
     aE (F0 (x4,())) fun x6=>
     aE (L18 (x6.1,(0:Int),x4)) fun x7=>
     (match x7 with|.inl x8=>some (x8.1,())|.inr x8=>some ((0:Int),())
     ))
   )
  ))
def RX(c0:Ae)(c1:Aj)(c2:vb)(c3:At)(M4:Ap)(M9:I1)(M18:IQ):xc:=⟨u1 (Aw c0.F c1.F c2.F c3.F M4.L M9.L M18.L),pD Try.func15 75 (kD c0 (kD c1 (kD c2 (kD c3 k0)))) e0 1 (sS (sC M4 (sC M9 (sC M18 l0)))) fun d=>acu⟩
def Ea:xc:=RX IG IV AD I5 RT RU RM
def PT:D9:=Ea.F
