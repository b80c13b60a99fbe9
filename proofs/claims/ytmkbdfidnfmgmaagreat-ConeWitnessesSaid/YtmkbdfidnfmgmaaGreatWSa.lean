import Derived.Test.YtmkbdfidnfmgmaaGreatWNd
set_option linter.all false
/- memories, states of netlists, the documents beside them (printed by VTool.lean). -/
namespace Go.Proofs.YtmkbdfidnfmgmaaGreat.V
open Go Go.RowKit
set_option maxRecDepth 1000000
abbrev Zos:List Sh:=[.I]
abbrev SW:List Sh:=[.I]
abbrev Qd:=TL Zos->Option (TL SW)
abbrev Gj:=Kd 134 Zos SW
def Ax(a0:Int):Option (TL SW):=some ((ed (iL (ed (iL (64:Int) a0) (64:Int) a0) (0:Int)) (0:Int) (ed (iL (64:Int) a0) (64:Int) a0)),())
def apC  :Gj:=⟨u1 Ax,pD Tryz.func134 6 k0 e0 1 (sS l0) fun d=>atP⟩
def Qe:Gj:=apC
def Jd:Qd:=Qe.F
abbrev Zrm:List Sh:=[(.int .u64),.I]
abbrev S3:List Sh:=[.bool]
abbrev Gm:=TL Zrm->Option (TL S3)
abbrev zp:=Kd 165 Zrm S3
def Tf(F0:Qd)(a0 a1:Int):Option (TL S3):=
 az (F0 (a1,())) fun x0=>
 au (iE (0:Int) x0.1)<|
 some ((iQ (Int.fdiv a0 (HPow.hPow (2:Int) (Min.min (Int.toNat x0.1) 64))) (0:Int)),())
def ap5(c0:Gj) :zp:=⟨u2 (Tf c0.F),pD Tryz.func165 10 (kD c0 k0) e0 1 (sS l0) fun d=>atP⟩
def Gn:zp:=ap5 Qe
def I6:Gm:=Gn.F
abbrev IW:ai:=⟨[(0,.I),(1,.I),(2,.fz bk),(28,.fz bk),(29,.I),(30,.I)],[],0⟩
abbrev IM:List (Ev.Ex×ai):=[(.ret,⟨[(6,.bool)],[],0⟩),((.exit 0),⟨[],[],0⟩)]
abbrev adt:=be IW IM
abbrev P9:=Ld 0 68 (cj [0] (bu Tryz.f138)) IW IM
def Au(F0:Gm)(t0 t1:Int)(t2 t28:ii)(t29 t30:Int):am IW IM:=
 br (iL t30 t29)
 (
  au (aw t30 t28.length)<|
  br (iQ (gt bk t28 t30).2.1 (0:Int))
  (
   atZ (.inl (false,())))
  (
   az (F0 ((gt bk t28 t30).1,t0,())) fun x0=>
   br (bP false true (Bool.not x0.1))
   (
    atZ (.inl (false,())))
   (
    az (F0 ((gt bk t28 t30).2.1,t1,())) fun x1=>
    br (bP false true (Bool.not x1.1))
    (
     atZ (.inl (false,())))
    (
     br (iL (0:Int) t30)
     (
      au (aw (qr (t30-(1:Int))) t2.length)<|
      br (bP false true (bP true (iE (gt bk t28 t30).1 (gt bk t2 (qr (t30-(1:Int)))).1) false))
      (
       atZ (.inl (false,())))
      (
       atY (t0,t1,t2,t28,t29,(qr (t30+(1:Int))),())))
     (
      atY (t0,t1,t2,t28,t29,(qr (t30+(1:Int))),()))))))
 (
  atZ (.inr ()))
def apT(c0:zp) :P9:=cu (u6 (Au c0.F)) (pL (kD c0 k0) e0 1 l0 fun d=>atP)
def apS:P9:=apT Gn
def SQ:adt:=bp (u6 (Au I6)) NN
abbrev Zrd:List Sh:=[.I,.I,(.sl bk)]
abbrev S1:List Sh:=[.bool]
abbrev adA:=TL Zrd->Option (TL S1)
abbrev Qi:=Kd 138 Zrd S1
def S9(F0:Gm)(L4:adt)(a0 a1:Int)(a2:ii):Option (TL S1):=
 br (iL a0 (1:Int))
 (
  some (false,()))
 (
  br (bP false true (iL (62:Int) a0))
  (
   some (false,()))
  (
   br (bP false true (iL a1 (1:Int)))
   (
    some (false,()))
   (
    br (bP false true (iL (64:Int) a1))
    (
     some (false,()))
    (
     br (bP false true (iL (4096:Int) (Int.ofNat a2.length)))
     (
      some (false,()))
     (
      az (L4 (a0,a1,a2,a2,(Int.ofNat a2.length),(0:Int),())) fun x0=>
      (match x0 with|.inl x1=>some (x1.1,())|.inr x1=>some (true,())
      ))))))
def ap3(c0:zp)(M4:P9):Qi:=⟨u3 (S9 c0.F M4.L),pD Tryz.func138 68 (kD c0 k0) e0 1 (sS (sC M4 l0)) fun d=>atP⟩
def adB:Qi:=ap3 Gn apS
def Zj4:adA:=adB.F
abbrev Zh9:ai:=⟨[(0,.I),(1,.I),(2,.fz bk)],[],0⟩
abbrev zV:List (Nat×LO):=[(0,.cells [.I,.I,.mp 1] 179),(1,.map .u64 (.int .u64))]
abbrev RS:List (Nat×LO):=[(0,.cells fR 27),(1,.cells [.I,.I,.bool,.fz cF,.fz bD] 97)]
abbrev wW:List LA:=[.fz .bool,.fz (.sl bk)]
abbrev Sv:List (Ev.Ex×ai):=[(.ret,⟨[(0,.fw),(1,.I)],[],0⟩),(.ret,⟨[(0,.ptr 0 0),(1,.I)],zV,2⟩)]
abbrev Qn:=be Zh9 Sv
abbrev Gs:=Kb 88 3 Zh9 2 Sv
abbrev I5:ai:=⟨[(8,.ptr 0 0),(21,.fz bk),(22,.I),(23,.I)],zV,2⟩
abbrev IX:List (Ev.Ex×ai):=[((.exit 0),⟨[(8,.ptr 0 0)],zV,2⟩)]
abbrev adC:=be I5 IX
abbrev adD:=Ld 0 37 (cj [0] (bu Tryz.f88)) I5 IX
def Jp(t21:ii)(t22 t23 aA aC:Int)(b1:ii):am I5 IX:=
 br (iL t23 t22)
 (
  au (aw t23 t21.length)<|
  atY (t21,t22,(qr (t23+(1:Int))),aA,aC,(@fF (.int .u64) (gt bk t21 t23).1 (gt bk t21 t23).2.1 b1),()))
 (
  atZ (aA,aC,b1,()))
def ap4  :adD:=cu (u6 Jp) (pL k0 e0 1 l0 fun d=>atP)
def SS:adC:=bp (u6 Jp) NN
def Th(F0:adA)(L5:adC)(t0 t1:Int)(t2:ii):Option (Out Sv):=
 az (F0 (t0,t1,t2,())) fun x0=>
 br (Bool.not x0.1)
 (
  atY ((14:Int),()))
 (
  az (L5 (t2,(Int.ofNat t2.length),(0:Int),t0,t1,[],())) fun x1=>
  atZ ((0:Int),x1))
def aqc(c0:Qi)(M5:adD):Gs:=⟨u3 (Th c0.F M5.L),pB Tryz.func88 37 (kD c0 k0) e0 1 (sS (sC M5 l0)) fun d=>atP⟩
def Qo:Gs:=aqc adB ap4
def SP:Qn:=Qo.F
abbrev Zjo:ai:=⟨[(0,.ptr 0 0),(1,.int .u64),(2,.int .u64)],zV,2⟩
abbrev I7:List (Ev.Ex×ai):=[(.ret,⟨[(0,.bool)],zV,2⟩)]
abbrev PC:=be Zjo I7
abbrev FK:=Kb 128 3 Zjo 1 I7
def S4(F0:Gm)(t1 t2 aA aC:Int)(b1:ii):Option (Out I7):=
 az (F0 (t1,aA,())) fun x0=>
 br (bP false true (Bool.not x0.1))
 (
  some (false,aA,aC,b1,()))
 (
  az (F0 (t2,aC,())) fun x1=>
  br (bP false true (Bool.not x1.1))
  (
   some (false,aA,aC,b1,()))
  (
   br (iQ t2 (0:Int))
   (
    some (true,aA,aC,(@lV (.int .u64) t1 b1),()))
   (
    some (true,aA,aC,(@fF (.int .u64) t1 t2 b1),()))))
def apl(c0:zp) :FK:=⟨u5 (S4 c0.F),pB Tryz.func128 42 (kD c0 k0) e0 1 (sS l0) fun d=>atP⟩
def PF:FK:=apl Gn
def Ts:PC:=PF.F
abbrev Zkg:ai:=⟨[(0,.agg fR),(1,.agg wW)],[],0⟩
abbrev SM:List (Ev.Ex×ai):=[(.ret,⟨[(0,.fB 0),(1,.I)],[(0,.fu 179)],1⟩)]
abbrev Qx:=be Zkg SM
abbrev GB:=Kb 39 2 Zkg 2 SM
abbrev I4:ai:=⟨[(3,.ptr 0 0),(4,.fB 1),(27,.fz ah),(28,.I),(29,.I)],[(0,.cells wW 31),(1,.fu 179)],2⟩
abbrev IU:List (Ev.Ex×ai):=[(.ret,⟨[(4,.bt),(5,.I)],[],0⟩),((.exit 0),⟨[(4,.fB 0)],[(0,.fu 179)],1⟩)]
abbrev adz:=be I4 IU
abbrev Qh:=Ld 0 56 (cj [0] (bu Tryz.f39)) I4 IU
def Ay(F0:Qn)(t27:ce)(t28 t29:Int)(aA:md)(aC:List ii)(b1:List (Sh.T (.agg [.I,.I,(.sl bk)]))):am I4 IU:=
 br (iL t29 t28)
 (
  au (aw t29 t27.length)<|
  au (aw t29 aC.length)<|
  az (F0 ((gt ah t27 t29).1,(gt ah t27 t29).2.1,(gt (.sl bk) aC t29),())) fun x0=>
  (match x0 with
  |.inl x1=>
   au (Bool.not (iQ x1.1 (0:Int)))<|
   atZ (.inl (x1.1,()))
  |.inr x1=>
   br (Bool.not (iQ x1.1 (0:Int)))
   (
    atZ (.inl (x1.1,())))
   (
    au (room 8 (List.length (ap b1 ((pS x1.2.1 x1.2.2.1 x1.2.2.2.1)::[]))))<|
    atY (t27,t28,(qr (t29+(1:Int))),aA,aC,(ap b1 ((pS x1.2.1 x1.2.2.1 x1.2.2.2.1)::[])),()))
  ))
 (
  atZ (.inr (b1,())))
def ap1(c0:Gs) :Qh:=cu (u6 (Ay c0.F)) (pL (kB c0 k0) e0 1 l0 fun d=>atP)
def ap0:Qh:=ap1 Qo
def SR:adz:=bp (u6 (Ay SP)) NN
def Tg(F0:Qn)(L4:adz)(fp:Int)(jN:jp)(iH:bv)(kr ku kA:jp)(iw:ce)(j8:bv)(mu:md)(jO:List ii):Option (Out SM):=
 br (Bool.not (iQ (Int.ofNat mu.length) (Int.ofNat iH.length)))
 (
  some ((14:Int),[],()))
 (
  br (bP false true (Bool.not (iQ (Int.ofNat jO.length) (Int.ofNat iw.length))))
  (
   some ((14:Int),[],()))
  (
   az (L4 (iw,(Int.ofNat iw.length),(0:Int),mu,jO,[],())) fun x0=>
   (match x0 with|.inl x1=>some (x1.1,[],())|.inr x1=>some ((0:Int),x1.1,())
   )))
def ap8(c0:Gs)(M4:Qh):GB:=⟨vl (Tg c0.F M4.L),pB Tryz.func39 56 (kB c0 k0) e0 1 (sS (sC M4 l0)) fun d=>atP⟩
def Qy:GB:=ap8 Qo ap0
def Zq8:Qx:=Qy.F
abbrev Zsj:List Sh:=[cA,oi]
abbrev S8:List Sh:=[.I]
abbrev QD:=TL Zsj->Option (TL S8)
abbrev GH:=Kd 65 Zsj S8
def Zy5(F0:uG)(F1:Qx)(a0:Sh.T cA)(a1:Sh.T oi):Option (TL S8):=
 az (F0 (a0,())) fun x0=>
 br (Bool.not (iQ x0.1 (0:Int)))
 (
  some (x0.1,()))
 (
  az (F1 (a0.1,a0.2.1,a0.2.2.1,a0.2.2.2.1,a0.2.2.2.2.1,a0.2.2.2.2.2.1,a0.2.2.2.2.2.2.1,a0.2.2.2.2.2.2.2.1,a1)) fun x1=>
  some (x1.1,()))
def aqa(c0:sx)(c1:GB) :GH:=⟨u2 (Zy5 c0.F c1.F),pD Tryz.func65 20 (kD c0 (kB c1 k0)) e0 1 (sS l0) fun d=>atP⟩
def QE:GH:=aqa sy Qy
def Zhp:QD:=QE.F
abbrev IL:ai:=⟨[(3,.ptr 0 0),(40,.fz ah),(41,.I),(42,.I)],[(0,.cells wW 31)],1⟩
abbrev II:List (Ev.Ex×ai):=[(.ret,⟨[(4,.I)],[],0⟩),((.exit 2),⟨[],[],0⟩)]
abbrev ada:=be IL II
abbrev adb:=Ld 0 60 (cj [1] (bu Tryz.f126)) IL II
abbrev IV:ai:=⟨[(2,.ptr 0 0),(3,.ptr 1 0),(17,.fz af),(18,.I),(19,.I)],[(0,.cells fR 27),(1,.cells wW 31)],2⟩
abbrev IK:List (Ev.Ex×ai):=[(.ret,⟨[(4,.I)],[],0⟩),((.exit 0),⟨[(2,.ptr 0 0),(3,.ptr 1 0)],[(0,.cells fR 27),(1,.cells wW 31)],2⟩)]
abbrev adr:=be IV IK
abbrev ads:=Ld 0 60 (cj [0] (bu Tryz.f126)) IV IK
def At(t17:bv)(t18 t19 aA:Int)(aC:jp)(aK:bv)(aM aO aQ:jp)(aE:ce)(aG:bv)(bN:md)(cW:List ii):am IV IK:=
 br (iL t19 t18)
 (
  au (aw t19 t17.length)<|
  br (Bool.not (iQ (gt af t17 t19).2.2.1 (2:Int)))
  (
   au (aw t19 bN.length)<|
   br (bP true (Bool.not (@decide _ (Bool.decEq (iQ (gt af t17 t19).2.2.1 (1:Int)) (gt .bool bN t19)))) false)
   (
    atZ (.inl ((14:Int),())))
   (
    atY (t17,t18,(qr (t19+(1:Int))),aA,aC,aK,aM,aO,aQ,aE,aG,bN,cW,())))
  (
   atY (t17,t18,(qr (t19+(1:Int))),aA,aC,aK,aM,aO,aQ,aE,aG,bN,cW,())))
 (
  atZ (.inr (aA,aC,aK,aM,aO,aQ,aE,aG,bN,cW,())))
def apR  :ads:=cu (kI At) (pL k0 e0 1 l0 fun d=>atP)
def Zlq:adr:=bp (kI At) NN
def Ap(t40:ce)(t41 t42:Int)(aA:md)(aC:List ii):am IL II:=
 br (iL t42 t41)
 (
  au (aw t42 t40.length)<|
  br (Bool.not (gt ah t40 t42).2.2.1)
  (
   au (aw t42 aC.length)<|
   br (bP true (iL (0:Int) (Int.ofNat (List.length (gt (.sl bk) aC t42)))) false)
   (
    atZ (.inl ((14:Int),())))
   (
    atY (t40,t41,(qr (t42+(1:Int))),aA,aC,())))
  (
   atY (t40,t41,(qr (t42+(1:Int))),aA,aC,())))
 (
  atZ (.inr ()))
def apB  :adb:=cu (u5 Ap) (pL k0 e0 1 l0 fun d=>atP)
def Zku:ada:=bp (u5 Ap) NN
abbrev Zr9:List Sh:=[cA,oi]
abbrev S0:List Sh:=[.I]
abbrev adN:=TL Zr9->Option (TL S0)
abbrev Qm:=Kd 126 Zr9 S0
def Zwg(F0:QD)(L5:adr)(L11:ada)(a0:Sh.T cA)(a1:Sh.T oi):Option (TL S0):=
 az (F0 (a0,a1,())) fun x0=>
 br (Bool.not (iQ x0.1 (0:Int)))
 (
  some (x0.1,()))
 (
  az (L5 (a0.2.2.1,(Int.ofNat (List.length a0.2.2.1)),(0:Int),a0.1,a0.2.1,a0.2.2.1,a0.2.2.2.1,a0.2.2.2.2.1,a0.2.2.2.2.2.1,a0.2.2.2.2.2.2.1,a0.2.2.2.2.2.2.2.1,a1)) fun x1=>
  (match x1 with
  |.inl x2=>some (x2.1,())|.inr x2=>
   az (L11 (x2.2.2.2.2.2.2.1,(Int.ofNat (List.length x2.2.2.2.2.2.2.1)),(0:Int),x2.2.2.2.2.2.2.2.2)) fun x3=>
   (match x3 with|.inl x4=>some (x4.1,())|.inr x4=>some ((0:Int),())
   )
  ))
def ap2(c0:GH)(M5:ads)(M11:adb):Qm:=⟨u2 (Zwg c0.F M5.L M11.L),pD Tryz.func126 60 (kD c0 k0) e0 1 (sS (sC M5 (sC M11 l0))) fun d=>atP⟩
def adO:Qm:=ap2 QE apR apB
def Zod:adN:=adO.F
abbrev IG:ai:=⟨[(1,.ptr 0 0),(3,.I)],[(0,.cells fR 27)],1⟩
abbrev IC:List (Ev.Ex×ai):=[(.ret,⟨[(2,.bool)],[],0⟩),((.exit 0),⟨[],[],0⟩)]
abbrev abJ:=be IG IC
abbrev OP:=Ld 0 132 (cj [0] (bu Tryz.f50)) IG IC
abbrev Ix:ai:=⟨[(1,.ptr 0 0),(3,.I),(4,.ptr 1 0),(6,.I)],RS,2⟩
abbrev Iv:List (Ev.Ex×ai):=[(.ret,⟨[(2,.bool)],[],0⟩),((.exit 4),⟨[(1,.ptr 0 0),(3,.I)],[(0,.cells fR 27)],1⟩)]
abbrev OK:=be Ix Iv
abbrev OM:=Ld 0 132 (cj [0,1] (bu Tryz.f50)) Ix Iv
abbrev Iy:ai:=⟨[(1,.ptr 0 0),(3,.I),(4,.ptr 1 0),(5,.I)],RS,2⟩
abbrev Iw:List (Ev.Ex×ai):=[(.ret,⟨[(2,.bool)],[],0⟩),((.exit 2),⟨[(1,.ptr 0 0),(3,.I),(4,.ptr 1 0)],RS,2⟩)]
abbrev OL:=be Iy Iw
abbrev ON:=Ld 0 132 (cj [0,0] (bu Tryz.f50)) Iy Iw
def z9(t3 t5 aA:Int)(aC:jp)(aK:bv)(aM aO aQ:jp)(aE:ce)(aG:bv)(bN cW:Int)(dg:Bool)(db:ip)(dk:io):am Iy Iw:=
 br (iL t5 (Int.ofNat db.length))
 (
  au (aw t5 db.length)<|
  br (iL (100:Int) (Int.ofNat (List.length (gt cF db t5).2.1)))
  (
   atZ (.inl (false,())))
  (
   au (aw t5 db.length)<|
   br (bP false true (iL (1099511627776:Int) (gt cF db t5).1))
   (
    atZ (.inl (false,())))
   (
    au (aw t5 db.length)<|
    br (bP false true (iL (gt cF db t5).1 (Int.negSucc 1099511627775)))
    (
     atZ (.inl (false,())))
    (
     atY (t3,(qr (t5+(1:Int))),aA,aC,aK,aM,aO,aQ,aE,aG,bN,cW,dg,db,dk,())))))
 (
  atZ (.inr (t3,aA,aC,aK,aM,aO,aQ,aE,aG,bN,cW,dg,db,dk,())))
def abC  :ON:=cu (gm z9) (pL k0 e0 1 l0 fun d=>atP)
def Se:OL:=bp (gm z9) NN
def z8(t3 t6 aA:Int)(aC:jp)(aK:bv)(aM aO aQ:jp)(aE:ce)(aG:bv)(bN cW:Int)(dg:Bool)(db:ip)(dk:io):am Ix Iv:=
 br (iL t6 (Int.ofNat dk.length))
 (
  au (aw t6 dk.length)<|
  br (iL (100:Int) (Int.ofNat (List.length (gt bD dk t6).2.1)))
  (
   atZ (.inl (false,())))
  (
   au (aw t6 dk.length)<|
   br (bP false true (iL (100:Int) (Int.ofNat (List.length (gt bD dk t6).2.2.1))))
   (
    atZ (.inl (false,())))
   (
    atY (t3,(qr (t6+(1:Int))),aA,aC,aK,aM,aO,aQ,aE,aG,bN,cW,dg,db,dk,()))))
 (
  atZ (.inr (t3,aA,aC,aK,aM,aO,aQ,aE,aG,())))
def abB  :OM:=cu (gm z8) (pL k0 e0 1 l0 fun d=>atP)
def Sd:OK:=bp (gm z8) NN
def Ag(L10:OL)(L15:OK)(t3 aA:Int)(aC:jp)(aK:bv)(aM aO aQ:jp)(aE:ce)(aG:bv):am IG IC:=
 br (iL t3 (Int.ofNat aE.length))
 (
  au (aw t3 aE.length)<|
  br (iL (6:Int) (Int.ofNat (List.length (gt ah aE t3).2.2.2.1)))
  (
   atZ (.inl (false,())))
  (
   br (bP false true (iL (6:Int) (Int.ofNat (List.length (gt ah aE t3).2.2.2.2.1))))
   (
    atZ (.inl (false,())))
   (
    br (bP false true (iL (100:Int) (gt ah aE t3).2.1))
    (
     atZ (.inl (false,())))
    (
     az (L10 (t3,(0:Int),aA,aC,aK,aM,aO,aQ,aE,aG,(gt ah aE t3))) fun x0=>
     (match x0 with
     |.inl x1=>atZ (.inl (x1.1,()))|.inr x1=>
      az (L15 (x1.1,(0:Int),x1.2)) fun x2=>
      (match x2 with|.inl x3=>atZ (.inl (x3.1,()))|.inr x3=>atY ((qr (pp x3.1 (1:Int))),x3.2)
      )
     )))))
 (
  atZ (.inr ()))
def aou(M10:ON)(M15:OM):OP:=cu (u9 (Ag M10.L M15.L)) (pL k0 e0 1 (sC M10 (sC M15 l0)) fun d=>atP)
def aot:OP:=aou  abC abB
def Zen:abJ:=bp (u9 (Ag Se Sd)) NN
abbrev Ziq:List Sh:=[cA]
abbrev SA:List Sh:=[.bool]
abbrev abS:=TL Ziq->Option (TL SA)
abbrev OV:=Kd 50 Ziq SA
def Zlb(L4:abJ)(L10:OL)(L15:OK)(a0:Sh.T cA):Option (TL SA):=
 br (iL (2100:Int) (Int.ofNat (List.length a0.2.1)))
 (
  some (false,()))
 (
  br (bP false true (iL (2100:Int) (Int.ofNat (List.length a0.2.2.1))))
  (
   some (false,()))
  (
   br (bP false true (iL (2100:Int) (Int.ofNat (List.length a0.2.2.2.2.2.2.2.1))))
   (
    some (false,()))
   (
    br (bP false true (iL (1100:Int) (Int.ofNat (List.length a0.2.2.2.1))))
    (
     some (false,()))
    (
     br (bP false true (iL (1100:Int) (Int.ofNat (List.length a0.2.2.2.2.1))))
     (
      some (false,()))
     (
      br (bP false true (iL (1100:Int) (Int.ofNat (List.length a0.2.2.2.2.2.1))))
      (
       some (false,()))
      (
       br (bP false true (iL (6:Int) (Int.ofNat (List.length a0.2.2.2.2.2.2.1))))
       (
        some (false,()))
       (
        az (L4 ((0:Int),a0)) fun x0=>
        (match x0 with|.inl x1=>some (x1.1,())|.inr x1=>some (true,())
        ))))))))
def aoA(M4:OP)(M10:ON)(M15:OM):OV:=⟨u1 (Zlb M4.L M10.L M15.L),pD Tryz.func50 132 k0 e0 1 (sS (sC M4 l0)) fun d=>atP⟩
def abT:OV:=aoA  aot abC abB
def Sq:abS:=abT.F
abbrev Zio:List Sh:=[cA]
abbrev Sz:List Sh:=[.bool]
abbrev abQ:=TL Zio->Option (TL Sz)
abbrev OU:=Kd 16 Zio Sz
def Zla(F0:abS)(a0:Sh.T cA):Option (TL Sz):=
 az (F0 (a0,())) fun x0=>
 br x0.1
 (
  br (bP true (iE (Int.ofNat (List.length a0.2.2.2.2.2.2.2.1)) (100:Int)) false)
  (
   br (bP true (iE (Int.ofNat (List.length a0.2.1)) (100:Int)) false)
   (
    br (bP true (iE (Int.ofNat (List.length a0.2.2.1)) (100:Int)) false)
    (
     some ((bP true (iE (qr ((qr ((Int.ofNat (List.length a0.2.2.2.1))+(Int.ofNat (List.length a0.2.2.2.2.1))))+(Int.ofNat (List.length a0.2.2.2.2.2.1)))) (100:Int)) false),()))
    (
     some (false,())))
   (
    some (false,())))
  (
   some (false,())))
 (
  some (false,()))
def aoz(c0:OV) :OU:=⟨u1 (Zla c0.F),pD Tryz.func16 37 (kD c0 k0) e0 1 (sS l0) fun d=>atP⟩
def abR:OU:=aoz abT
def Zcw:abQ:=abR.F
abbrev IE:ai:=⟨[(2,.fz (.sl .bool)),(8,.I)],[],0⟩
abbrev IA:List (Ev.Ex×ai):=[(.ret,⟨[(6,.bool)],[],0⟩),((.exit 2),⟨[],[],0⟩)]
abbrev abF:=be IE IA
abbrev abH:=Ld 0 55 (cj [1] (bu Tryz.f9)) IE IA
abbrev IF:ai:=⟨[(2,.fz (.sl .bool)),(4,.ptr 0 0),(7,.I)],[(0,.cells wW 31)],1⟩
abbrev IB:List (Ev.Ex×ai):=[(.ret,⟨[(6,.bool)],[],0⟩),((.exit 0),⟨[(2,.fz (.sl .bool))],[],0⟩)]
abbrev abG:=be IF IB
abbrev abI:=Ld 0 55 (cj [0] (bu Tryz.f9)) IF IB
def Af(t2:List md)(t7:Int)(aA:md)(aC:List ii):am IF IB:=
 br (iL t7 (Int.ofNat aC.length))
 (
  au (aw t7 aC.length)<|
  br (iL (100:Int) (Int.ofNat (List.length (gt (.sl bk) aC t7))))
  (
   atZ (.inl (false,())))
  (
   atY (t2,(qr (t7+(1:Int))),aA,aC,())))
 (
  atZ (.inr (t2,())))
def aos  :abI:=cu (u4 Af) (pL k0 e0 1 l0 fun d=>atP)
def Zek:abG:=bp (u4 Af) NN
def Ae(t2:List md)(t8:Int):am IE IA:=
 br (iL t8 (Int.ofNat t2.length))
 (
  au (aw t8 t2.length)<|
  br (iL (200:Int) (Int.ofNat (List.length (gt (.sl .bool) t2 t8))))
  (
   atZ (.inl (false,())))
  (
   atY (t2,(qr (t8+(1:Int))),())))
 (
  atZ (.inr ()))
def aor  :abH:=cu (u2 Ae) (pL k0 e0 1 l0 fun d=>atP)
def Zej:abF:=bp (u2 Ae) NN
abbrev Zin:List Sh:=[cA,oi,(.sl (.sl .bool))]
abbrev Sy:List Sh:=[.bool]
abbrev acx:=TL Zin->Option (TL Sy)
abbrev O9:=Kd 9 Zin Sy
def Zl9(F0:abQ)(L4:abG)(L9:abF)(a0:Sh.T cA)(a1:Sh.T oi)(a2:List md):Option (TL Sy):=
 az (F0 (a0,())) fun x0=>
 br (Bool.not x0.1)
 (
  some (false,()))
 (
  br (bP false true (iL (200:Int) (Int.ofNat (List.length a1.1))))
  (
   some (false,()))
  (
   br (bP false true (iL (10:Int) (Int.ofNat (List.length a1.2.1))))
   (
    some (false,()))
   (
    br (bP false true (iL (40:Int) (Int.ofNat a2.length)))
    (
     some (false,()))
    (
     az (L4 (a2,(0:Int),a1)) fun x1=>
     (match x1 with
     |.inl x2=>some (x2.1,())|.inr x2=>
      az (L9 (x2.1,(0:Int),())) fun x3=>
      (match x3 with|.inl x4=>some (x4.1,())|.inr x4=>some (true,())
      )
     )))))
def aoy(c0:OU)(M4:abI)(M9:abH):O9:=⟨u3 (Zl9 c0.F M4.L M9.L),pD Tryz.func9 55 (kD c0 k0) e0 1 (sS (sC M4 (sC M9 l0))) fun d=>atP⟩
def acy:O9:=aoy abR aos aor
def Zfz:acx:=acy.F
