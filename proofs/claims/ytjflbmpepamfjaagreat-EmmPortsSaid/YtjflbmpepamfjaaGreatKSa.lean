import Derived.Test.YtjflbmpepamfjaaGreatKNd
set_option linter.all false
/- memories, states of netlists, the documents beside them (printed by VTool.lean). -/
namespace Go.Proofs.YtjflbmpepamfjaaGreat.V
open Go Go.RowKit
set_option maxRecDepth 1000000
abbrev C0:Lay:=⟨[(1,.ptr 0 0),(3,.I)],[(0,.cells jI 27)],1⟩
abbrev CW:List (Ev.Ex×Lay):=[(.ret,⟨[(2,.bool)],[],0⟩),((.exit 0),⟨[],[],0⟩)]
abbrev WR:=be C0 CW
abbrev IB:=Ld 0 132 (cw [0] (bL Tryz.f52)) C0 CW
abbrev Lz:List (Nat×LO):=[(0,.cells jI 27),(1,.cells [.I,.I,.bool,.fz bW,.fz bA] 54)]
abbrev CN:Lay:=⟨[(1,.ptr 0 0),(3,.I),(4,.ptr 1 0),(6,.I)],Lz,2⟩
abbrev CK:List (Ev.Ex×Lay):=[(.ret,⟨[(2,.bool)],[],0⟩),((.exit 4),⟨[(1,.ptr 0 0),(3,.I)],[(0,.cells jI 27)],1⟩)]
abbrev Iw:=be CN CK
abbrev Iy:=Ld 0 132 (cw [0,1] (bL Tryz.f52)) CN CK
abbrev CO:Lay:=⟨[(1,.ptr 0 0),(3,.I),(4,.ptr 1 0),(5,.I)],Lz,2⟩
abbrev CL:List (Ev.Ex×Lay):=[(.ret,⟨[(2,.bool)],[],0⟩),((.exit 2),⟨[(1,.ptr 0 0),(3,.I),(4,.ptr 1 0)],Lz,2⟩)]
abbrev Ix:=be CO CL
abbrev Iz:=Ld 0 132 (cw [0,0] (bL Tryz.f52)) CO CL
def xH(t3 t5 aM:Int)(aS:io)(aI:bi)(aN aP bf:io)(az:bv)(aJ:bi)(ij ik:Int)(im:Bool)(gO:eq)(iI:ge):am CO CL:=
 br (iL t5 (Int.ofNat gO.length))
 (
  aq (ar t5 gO.length)<|
  br (iL (100:Int) (Int.ofNat (List.length (gt bW gO t5).2.1)))
  (
   aGu (.inl (false,())))
  (
   aq (ar t5 gO.length)<|
   br (bH false true (iL (1099511627776:Int) (gt bW gO t5).1))
   (
    aGu (.inl (false,())))
   (
    aq (ar t5 gO.length)<|
    br (bH false true (iL (gt bW gO t5).1 (Int.negSucc 1099511627775)))
    (
     aGu (.inl (false,())))
    (
     aGt (t3,(ol (t5+(1:Int))),aM,aS,aI,aN,aP,bf,az,aJ,ij,ik,im,gO,iI,())))))
 (
  aGu (.inr (t3,aM,aS,aI,aN,aP,bf,az,aJ,ij,ik,im,gO,iI,())))
def WQ  :Iz:=cH (iO xH) (pL k0 e0 1 l0 fun d=>aGm)
def Md:Ix:=bu (iO xH) NN
def xG(t3 t6 aM:Int)(aS:io)(aI:bi)(aN aP bf:io)(az:bv)(aJ:bi)(ij ik:Int)(im:Bool)(gO:eq)(iI:ge):am CN CK:=
 br (iL t6 (Int.ofNat iI.length))
 (
  aq (ar t6 iI.length)<|
  br (iL (100:Int) (Int.ofNat (List.length (gt bA iI t6).2.1)))
  (
   aGu (.inl (false,())))
  (
   aq (ar t6 iI.length)<|
   br (bH false true (iL (100:Int) (Int.ofNat (List.length (gt bA iI t6).2.2.1))))
   (
    aGu (.inl (false,())))
   (
    aGt (t3,(ol (t6+(1:Int))),aM,aS,aI,aN,aP,bf,az,aJ,ij,ik,im,gO,iI,()))))
 (
  aGu (.inr (t3,aM,aS,aI,aN,aP,bf,az,aJ,())))
def WO  :Iy:=cH (iO xG) (pL k0 e0 1 l0 fun d=>aGm)
def Mc:Iw:=bu (iO xG) NN
def xI(L10:Ix)(L15:Iw)(t3 aM:Int)(aS:io)(aI:bi)(aN aP bf:io)(az:bv)(aJ:bi):am C0 CW:=
 br (iL t3 (Int.ofNat az.length))
 (
  aq (ar t3 az.length)<|
  br (iL (6:Int) (Int.ofNat (List.length (gt aj az t3).2.2.2.1)))
  (
   aGu (.inl (false,())))
  (
   br (bH false true (iL (6:Int) (Int.ofNat (List.length (gt aj az t3).2.2.2.2.1))))
   (
    aGu (.inl (false,())))
   (
    br (bH false true (iL (100:Int) (gt aj az t3).2.1))
    (
     aGu (.inl (false,())))
    (
     aL (L10 (t3,(0:Int),aM,aS,aI,aN,aP,bf,az,aJ,(gt aj az t3))) fun x0=>
     (match x0 with
     |.inl x1=>aGu (.inl (x1.1,()))|.inr x1=>
      aL (L15 (x1.1,(0:Int),x1.2)) fun x2=>
      (match x2 with|.inl x3=>aGu (.inl (x3.1,()))|.inr x3=>aGt ((ol (md x3.1 (1:Int))),x3.2)
      )
     )))))
 (
  aGu (.inr ()))
def atz(M10:Iz)(M15:Iy):IB:=cH (u9 (xI M10.L M15.L)) (pL k0 e0 1 (sC M10 (sC M15 l0)) fun d=>aGm)
def aty:IB:=atz  WQ WO
def QA:WR:=bu (u9 (xI Md Mc)) NN
abbrev Ziq:List Sh:=[bD]
abbrev MB:List Sh:=[.bool]
abbrev Xa:=TL Ziq->Option (TL MB)
abbrev IG:=Kd 52 Ziq MB
def Zlb(L4:WR)(L10:Ix)(L15:Iw)(a0:Sh.T bD):Option (TL MB):=
 br (iL (2100:Int) (Int.ofNat (List.length a0.2.1)))
 (
  some (false,()))
 (
  br (bH false true (iL (2100:Int) (Int.ofNat (List.length a0.2.2.1))))
  (
   some (false,()))
  (
   br (bH false true (iL (2100:Int) (Int.ofNat (List.length a0.2.2.2.2.2.2.2.1))))
   (
    some (false,()))
   (
    br (bH false true (iL (1100:Int) (Int.ofNat (List.length a0.2.2.2.1))))
    (
     some (false,()))
    (
     br (bH false true (iL (1100:Int) (Int.ofNat (List.length a0.2.2.2.2.1))))
     (
      some (false,()))
     (
      br (bH false true (iL (1100:Int) (Int.ofNat (List.length a0.2.2.2.2.2.1))))
      (
       some (false,()))
      (
       br (bH false true (iL (6:Int) (Int.ofNat (List.length a0.2.2.2.2.2.2.1))))
       (
        some (false,()))
       (
        aL (L4 ((0:Int),a0)) fun x0=>
        (match x0 with|.inl x1=>some (x1.1,())|.inr x1=>some (true,())
        ))))))))
def atE(M4:IB)(M10:Iz)(M15:Iy):IG:=⟨u1 (Zlb M4.L M10.L M15.L),pD Tryz.func52 132 k0 e0 1 (sS (sC M4 l0)) fun d=>aGm⟩
def Xb:IG:=atE  aty WQ WO
def Mo:Xa:=Xb.F
abbrev Zio:List Sh:=[bD]
abbrev MA:List Sh:=[.bool]
abbrev atl:=TL Zio->Option (TL MA)
abbrev WI:=Kd 23 Zio MA
def Zla(F0:Xa)(a0:Sh.T bD):Option (TL MA):=
 aL (F0 (a0,())) fun x0=>
 br x0.1
 (
  br (bH true (iE (Int.ofNat (List.length a0.2.2.2.2.2.2.2.1)) (100:Int)) false)
  (
   br (bH true (iE (Int.ofNat (List.length a0.2.1)) (100:Int)) false)
   (
    br (bH true (iE (Int.ofNat (List.length a0.2.2.1)) (100:Int)) false)
    (
     some ((bH true (iE (ol ((ol ((Int.ofNat (List.length a0.2.2.2.1))+(Int.ofNat (List.length a0.2.2.2.2.1))))+(Int.ofNat (List.length a0.2.2.2.2.2.1)))) (100:Int)) false),()))
    (
     some (false,())))
   (
    some (false,())))
  (
   some (false,())))
 (
  some (false,()))
def atD(c0:IG) :WI:=⟨u1 (Zla c0.F),pD Tryz.func23 37 (kD c0 k0) e0 1 (sS l0) fun d=>aGm⟩
def W6:WI:=atD Xb
def Zcw:atl:=W6.F
