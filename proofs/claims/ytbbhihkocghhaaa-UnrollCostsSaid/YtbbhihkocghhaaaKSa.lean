import Derived.Test.YtbbhihkocghhaaaKNd
set_option linter.all false
/- memories, states of netlists, the documents beside them (printed by VTool.lean). -/
namespace Go.Proofs.Ytbbhihkocghhaaa.V
open Go Go.RowKit
set_option maxRecDepth 1000000
abbrev yu:ae:=⟨[(1,.ptr 0 0),(3,.I)],[(0,.cells iN 27)],1⟩
abbrev yo:List (Ev.Ex×ae):=[(.ret,⟨[(2,.bool)],[],0⟩),((.exit 0),⟨[],[],0⟩)]
abbrev MM:=be yu yo
abbrev CO:=Ld 0 132 (bZ [0] (bC Try.f14)) yu yo
abbrev Fe:List (Nat×LO):=[(0,.cells iN 27),(1,.cells [.I,.I,.bool,.fz bK,.fz bj] 73)]
abbrev yf:ae:=⟨[(1,.ptr 0 0),(3,.I),(4,.ptr 1 0),(6,.I)],Fe,2⟩
abbrev yc:List (Ev.Ex×ae):=[(.ret,⟨[(2,.bool)],[],0⟩),((.exit 4),⟨[(1,.ptr 0 0),(3,.I)],[(0,.cells iN 27)],1⟩)]
abbrev CJ:=be yf yc
abbrev CL:=Ld 0 132 (bZ [0,1] (bC Try.f14)) yf yc
abbrev yg:ae:=⟨[(1,.ptr 0 0),(3,.I),(4,.ptr 1 0),(5,.I)],Fe,2⟩
abbrev yd:List (Ev.Ex×ae):=[(.ret,⟨[(2,.bool)],[],0⟩),((.exit 2),⟨[(1,.ptr 0 0),(3,.I),(4,.ptr 1 0)],Fe,2⟩)]
abbrev CK:=be yg yd
abbrev CM:=Ld 0 132 (bZ [0,0] (bC Try.f14)) yg yd
def te(t3 t5 aF:Int)(aN:io)(aC:bi)(aG aJ aY:io)(ar:bv)(aD:bi)(fU fV:Int)(fW:Bool)(fG:eq)(gz:ge):am yg yd:=
 br (iL t5 (Int.ofNat fG.length))
 (
  ak (al t5 fG.length)<|
  br (iL (100:Int) (Int.ofNat (List.length (gt bK fG t5).2.1)))
  (
   acC (.inl (false,())))
  (
   ak (al t5 fG.length)<|
   br (bw false true (iL (1099511627776:Int) (gt bK fG t5).1))
   (
    acC (.inl (false,())))
   (
    ak (al t5 fG.length)<|
    br (bw false true (iL (gt bK fG t5).1 (Int.negSucc 1099511627775)))
    (
     acC (.inl (false,())))
    (
     acB (t3,(mt (t5+(1:Int))),aF,aN,aC,aG,aJ,aY,ar,aD,fU,fV,fW,fG,gz,())))))
 (
  acC (.inr (t3,aF,aN,aC,aG,aJ,aY,ar,aD,fU,fV,fW,fG,gz,())))
def ML  :CM:=cj (gH te) (pL k0 e0 1 l0 fun d=>acu)
def FC:CK:=bh (gH te) NN
def ta(t3 t6 aF:Int)(aN:io)(aC:bi)(aG aJ aY:io)(ar:bv)(aD:bi)(fU fV:Int)(fW:Bool)(fG:eq)(gz:ge):am yf yc:=
 br (iL t6 (Int.ofNat gz.length))
 (
  ak (al t6 gz.length)<|
  br (iL (100:Int) (Int.ofNat (List.length (gt bj gz t6).2.1)))
  (
   acC (.inl (false,())))
  (
   ak (al t6 gz.length)<|
   br (bw false true (iL (100:Int) (Int.ofNat (List.length (gt bj gz t6).2.2.1))))
   (
    acC (.inl (false,())))
   (
    acB (t3,(mt (t6+(1:Int))),aF,aN,aC,aG,aJ,aY,ar,aD,fU,fV,fW,fG,gz,()))))
 (
  acC (.inr (t3,aF,aN,aC,aG,aJ,aY,ar,aD,())))
def MK  :CL:=cj (gH ta) (pL k0 e0 1 l0 fun d=>acu)
def FB:CJ:=bh (gH ta) NN
def tf(L10:CK)(L15:CJ)(t3 aF:Int)(aN:io)(aC:bi)(aG aJ aY:io)(ar:bv)(aD:bi):am yu yo:=
 br (iL t3 (Int.ofNat ar.length))
 (
  ak (al t3 ar.length)<|
  br (iL (6:Int) (Int.ofNat (List.length (gt aj ar t3).2.2.2.1)))
  (
   acC (.inl (false,())))
  (
   br (bw false true (iL (6:Int) (Int.ofNat (List.length (gt aj ar t3).2.2.2.2.1))))
   (
    acC (.inl (false,())))
   (
    br (bw false true (iL (100:Int) (gt aj ar t3).2.1))
    (
     acC (.inl (false,())))
    (
     aE (L10 (t3,(0:Int),aF,aN,aC,aG,aJ,aY,ar,aD,(gt aj ar t3))) fun x0=>
     (match x0 with
     |.inl x1=>acC (.inl (x1.1,()))|.inr x1=>
      aE (L15 (x1.1,(0:Int),x1.2)) fun x2=>
      (match x2 with|.inl x3=>acC (.inl (x3.1,()))|.inr x3=>acB ((mt (lw x3.1 (1:Int))),x3.2)
      )
     )))))
 (
  acC (.inr ()))
def YD(M10:CM)(M15:CL):CO:=cj (u9 (tf M10.L M15.L)) (pL k0 e0 1 (sC M10 (sC M15 l0)) fun d=>acu)
def YC:CO:=YD  ML MK
def P4:MM:=bh (u9 (tf FC FB)) NN
abbrev Qb:List Sh:=[bB]
abbrev F8:List Sh:=[.bool]
abbrev MU:=TL Qb->Option (TL F8)
abbrev CT:=Kd 14 Qb F8
def Zlb(L4:MM)(L10:CK)(L15:CJ)(a0:Sh.T bB):Option (TL F8):=
 br (iL (2100:Int) (Int.ofNat (List.length a0.2.1)))
 (
  some (false,()))
 (
  br (bw false true (iL (2100:Int) (Int.ofNat (List.length a0.2.2.1))))
  (
   some (false,()))
  (
   br (bw false true (iL (2100:Int) (Int.ofNat (List.length a0.2.2.2.2.2.2.2.1))))
   (
    some (false,()))
   (
    br (bw false true (iL (1100:Int) (Int.ofNat (List.length a0.2.2.2.1))))
    (
     some (false,()))
    (
     br (bw false true (iL (1100:Int) (Int.ofNat (List.length a0.2.2.2.2.1))))
     (
      some (false,()))
     (
      br (bw false true (iL (1100:Int) (Int.ofNat (List.length a0.2.2.2.2.2.1))))
      (
       some (false,()))
      (
       br (bw false true (iL (6:Int) (Int.ofNat (List.length a0.2.2.2.2.2.2.1))))
       (
        some (false,()))
       (
        aE (L4 ((0:Int),a0)) fun x0=>
        (match x0 with|.inl x1=>some (x1.1,())|.inr x1=>some (true,())
        ))))))))
def YI(M4:CO)(M10:CM)(M15:CL):CT:=⟨u1 (Zlb M4.L M10.L M15.L),pD Try.func14 132 k0 e0 1 (sS (sC M4 l0)) fun d=>acu⟩
def MV:CT:=YI  YC ML MK
def FO:MU:=MV.F
abbrev Qa:List Sh:=[bB]
abbrev F7:List Sh:=[.bool]
abbrev Yp:=TL Qa->Option (TL F7)
abbrev ME:=Kd 4 Qa F7
def Zla(F0:MU)(a0:Sh.T bB):Option (TL F7):=
 aE (F0 (a0,())) fun x0=>
 br x0.1
 (
  br (bw true (iE (Int.ofNat (List.length a0.2.2.2.2.2.2.2.1)) (100:Int)) false)
  (
   br (bw true (iE (Int.ofNat (List.length a0.2.1)) (100:Int)) false)
   (
    br (bw true (iE (Int.ofNat (List.length a0.2.2.1)) (100:Int)) false)
    (
     some ((bw true (iE (mt ((mt ((Int.ofNat (List.length a0.2.2.2.1))+(Int.ofNat (List.length a0.2.2.2.2.1))))+(Int.ofNat (List.length a0.2.2.2.2.2.1)))) (100:Int)) false),()))
    (
     some (false,())))
   (
    some (false,())))
  (
   some (false,())))
 (
  some (false,()))
def YH(c0:CT) :ME:=⟨u1 (Zla c0.F),pD Try.func4 37 (kD c0 k0) e0 1 (sS l0) fun d=>acu⟩
def MT:ME:=YH MV
def Zcw:Yp:=MT.F
