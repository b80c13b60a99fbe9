import Derived.Test.YtmkbdfidnfmgmaaGreatKNd
set_option linter.all false
/- memories, states of netlists, the documents beside them (printed by VTool.lean). -/
namespace Go.Proofs.YtmkbdfidnfmgmaaGreat.V
open Go Go.RowKit
set_option maxRecDepth 1000000
abbrev IU:ak:=⟨[(1,.ptr 0 0),(3,.I)],[(0,.cells dx 27)],1⟩
abbrev IL:List (Ev.Ex×ak):=[(.ret,⟨[(2,.bool)],[],0⟩),((.exit 0),⟨[],[],0⟩)]
abbrev aek:=be IU IL
abbrev Qd:=Ld 0 132 (bI [0] (bt Tryz.f50)) IU IL
abbrev Sr:List (Nat×LO):=[(0,.cells dx 27),(1,.cells [.I,.I,.bool,.fz bO,.fz bu] 97)]
abbrev IA:ak:=⟨[(1,.ptr 0 0),(3,.I),(4,.ptr 1 0),(6,.I)],Sr,2⟩
abbrev Ix:List (Ev.Ex×ak):=[(.ret,⟨[(2,.bool)],[],0⟩),((.exit 4),⟨[(1,.ptr 0 0),(3,.I)],[(0,.cells dx 27)],1⟩)]
abbrev P8:=be IA Ix
abbrev Qa:=Ld 0 132 (bI [0,1] (bt Tryz.f50)) IA Ix
abbrev IB:ak:=⟨[(1,.ptr 0 0),(3,.I),(4,.ptr 1 0),(5,.I)],Sr,2⟩
abbrev Iy:List (Ev.Ex×ak):=[(.ret,⟨[(2,.bool)],[],0⟩),((.exit 2),⟨[(1,.ptr 0 0),(3,.I),(4,.ptr 1 0)],Sr,2⟩)]
abbrev P9:=be IB Iy
abbrev Qb:=Ld 0 132 (bI [0,0] (bt Tryz.f50)) IB Iy
def yM(t3 t5 ay:Int)(aC:jp)(av:bv)(aD aE aI:jp)(au:ce)(aw:bv)(bc cq:Int)(bN:Bool)(bW:ge)(bH:ii):am IB Iy:=
 br (iL t5 (Int.ofNat bW.length))
 (
  aj (an t5 bW.length)<|
  br (iL (100:Int) (Int.ofNat (List.length (gt bO bW t5).2.1)))
  (
   aum (.inl (false,())))
  (
   aj (an t5 bW.length)<|
   br (bK false true (iL (1099511627776:Int) (gt bO bW t5).1))
   (
    aum (.inl (false,())))
   (
    aj (an t5 bW.length)<|
    br (bK false true (iL (gt bO bW t5).1 (Int.negSucc 1099511627775)))
    (
     aum (.inl (false,())))
    (
     aul (t3,(pu (t5+(1:Int))),ay,aC,av,aD,aE,aI,au,aw,bc,cq,bN,bW,bH,())))))
 (
  aum (.inr (t3,ay,aC,av,aD,aE,aI,au,aw,bc,cq,bN,bW,bH,())))
def aej  :Qb:=bJ (fW yM) (pL k0 e0 1 l0 fun d=>aud)
def SP:P9:=bj (fW yM) NN
def yL(t3 t6 ay:Int)(aC:jp)(av:bv)(aD aE aI:jp)(au:ce)(aw:bv)(bc cq:Int)(bN:Bool)(bW:ge)(bH:ii):am IA Ix:=
 br (iL t6 (Int.ofNat bH.length))
 (
  aj (an t6 bH.length)<|
  br (iL (100:Int) (Int.ofNat (List.length (gt bu bH t6).2.1)))
  (
   aum (.inl (false,())))
  (
   aj (an t6 bH.length)<|
   br (bK false true (iL (100:Int) (Int.ofNat (List.length (gt bu bH t6).2.2.1))))
   (
    aum (.inl (false,())))
   (
    aul (t3,(pu (t6+(1:Int))),ay,aC,av,aD,aE,aI,au,aw,bc,cq,bN,bW,bH,()))))
 (
  aum (.inr (t3,ay,aC,av,aD,aE,aI,au,aw,())))
def aei  :Qa:=bJ (fW yL) (pL k0 e0 1 l0 fun d=>aud)
def SO:P8:=bj (fW yL) NN
def yN(L10:P9)(L15:P8)(t3 ay:Int)(aC:jp)(av:bv)(aD aE aI:jp)(au:ce)(aw:bv):am IU IL:=
 br (iL t3 (Int.ofNat au.length))
 (
  aj (an t3 au.length)<|
  br (iL (6:Int) (Int.ofNat (List.length (gt ai au t3).2.2.2.1)))
  (
   aum (.inl (false,())))
  (
   br (bK false true (iL (6:Int) (Int.ofNat (List.length (gt ai au t3).2.2.2.2.1))))
   (
    aum (.inl (false,())))
   (
    br (bK false true (iL (100:Int) (gt ai au t3).2.1))
    (
     aum (.inl (false,())))
    (
     aA (L10 (t3,(0:Int),ay,aC,av,aD,aE,aI,au,aw,(gt ai au t3))) fun x0=>
     (match x0 with
     |.inl x1=>aum (.inl (x1.1,()))|.inr x1=>
      aA (L15 (x1.1,(0:Int),x1.2)) fun x2=>
      (match x2 with|.inl x3=>aum (.inl (x3.1,()))|.inr x3=>aul ((pu (pm x3.1 (1:Int))),x3.2)
      )
     )))))
 (
  aum (.inr ()))
def aqk(M10:Qb)(M15:Qa):Qd:=bJ (u9 (yN M10.L M15.L)) (pL k0 e0 1 (sC M10 (sC M15 l0)) fun d=>aud)
def aqj:Qd:=aqk  aej aei
def Zen:aek:=bj (u9 (yN SP SO)) NN
abbrev Ziq:List Sh:=[cJ]
abbrev Tf:List Sh:=[.bool]
abbrev aer:=TL Ziq->Option (TL Tf)
abbrev Qj:=Kd 50 Ziq Tf
def Zlb(L4:aek)(L10:P9)(L15:P8)(a0:Sh.T cJ):Option (TL Tf):=
 br (iL (2100:Int) (Int.ofNat (List.length a0.2.1)))
 (
  some (false,()))
 (
  br (bK false true (iL (2100:Int) (Int.ofNat (List.length a0.2.2.1))))
  (
   some (false,()))
  (
   br (bK false true (iL (2100:Int) (Int.ofNat (List.length a0.2.2.2.2.2.2.2.1))))
   (
    some (false,()))
   (
    br (bK false true (iL (1100:Int) (Int.ofNat (List.length a0.2.2.2.1))))
    (
     some (false,()))
    (
     br (bK false true (iL (1100:Int) (Int.ofNat (List.length a0.2.2.2.2.1))))
     (
      some (false,()))
     (
      br (bK false true (iL (1100:Int) (Int.ofNat (List.length a0.2.2.2.2.2.1))))
      (
       some (false,()))
      (
       br (bK false true (iL (6:Int) (Int.ofNat (List.length a0.2.2.2.2.2.2.1))))
       (
        some (false,()))
       (
        aA (L4 ((0:Int),a0)) fun x0=>
        (match x0 with|.inl x1=>some (x1.1,())|.inr x1=>some (true,())
        ))))))))
def aqp(M4:Qd)(M10:Qb)(M15:Qa):Qj:=⟨u1 (Zlb M4.L M10.L M15.L),pD Tryz.func50 132 k0 e0 1 (sS (sC M4 l0)) fun d=>aud⟩
def aes:Qj:=aqp  aqj aej aei
def S1:aer:=aes.F
abbrev Zio:List Sh:=[cJ]
abbrev Te:List Sh:=[.bool]
abbrev aep:=TL Zio->Option (TL Te)
abbrev Qi:=Kd 16 Zio Te
def Zla(F0:aer)(a0:Sh.T cJ):Option (TL Te):=
 aA (F0 (a0,())) fun x0=>
 br x0.1
 (
  br (bK true (iE (Int.ofNat (List.length a0.2.2.2.2.2.2.2.1)) (100:Int)) false)
  (
   br (bK true (iE (Int.ofNat (List.length a0.2.1)) (100:Int)) false)
   (
    br (bK true (iE (Int.ofNat (List.length a0.2.2.1)) (100:Int)) false)
    (
     some ((bK true (iE (pu ((pu ((Int.ofNat (List.length a0.2.2.2.1))+(Int.ofNat (List.length a0.2.2.2.2.1))))+(Int.ofNat (List.length a0.2.2.2.2.2.1)))) (100:Int)) false),()))
    (
     some (false,())))
   (
    some (false,())))
  (
   some (false,())))
 (
  some (false,()))
def aqo(c0:Qj) :Qi:=⟨u1 (Zla c0.F),pD Tryz.func16 37 (kD c0 k0) e0 1 (sS l0) fun d=>aud⟩
def aeq:Qi:=aqo aes
def SJ:aep:=aeq.F
