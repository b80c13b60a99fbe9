import Derived.Test.YtmkbdfidnfmgmaaGreatKNx
set_option linter.all false
/- the document's topo (printed by VTool.lean). -/
namespace Go.Proofs.YtmkbdfidnfmgmaaGreat.V
open Go Go.RowKit
set_option maxRecDepth 1000000
abbrev Zja:List Sh:=[.I]
abbrev Tn:List Sh:=[.I]
abbrev tm:=TL Zja->Option (TL Tn)
abbrev rh:=Kd 85 Zja Tn
def yO(a0:Int):Option (TL Tn):=some ((pu (Int.tdiv a0 (2:Int))),())
def ars  :rh:=⟨u1 yO,pD Tryz.func85 5 k0 e0 1 (sS l0) fun d=>aud⟩
def tn:rh:=ars
def qj:tm:=tn.F
abbrev tI:List (Nat×LO):=[(0,.arr .I 3)]
abbrev yD:List (Nat×LO):=[(0,.cells dx 27),(1,.arr bT 187)]
abbrev agA:ak:=⟨[(4,.hd 0 .I),(5,.fz bT),(8,.I),(9,.I),(10,.I)],tI,1⟩
abbrev agB:ak:=⟨[(4,.hd 0 .I),(5,.fz bT),(8,.I),(9,.I)],tI,1⟩
abbrev agC:ak:=⟨[(4,.hd 0 .I),(5,.fz bT),(6,.I)],tI,1⟩
abbrev IP:ak:=⟨[(1,.ptr 0 0),(3,.hd 1 bT),(6,.I)],yD,2⟩
abbrev IJ:List (Ev.Ex×ak):=[((.exit 2),⟨[(3,.hd 0 bT)],[(0,.arr bT 187)],1⟩)]
abbrev ae9:=be IP IJ
abbrev Q0:=Ld 0 75 (bI [1] (bt Tryz.f117)) IP IJ
abbrev SC:ak:=⟨[(1,.ptr 0 0),(3,.hd 1 bT),(6,.I),(7,.I)],yD,2⟩
abbrev SB:List (Ev.Ex×ak):=[((.exit 4),⟨[(1,.ptr 0 0),(3,.hd 1 bT),(6,.I)],yD,2⟩)]
abbrev QQ:=be SC SB
abbrev GN:=Ld 0 75 (bI [1,0] (bt Tryz.f117)) SC SB
abbrev SK:ak:=⟨[(1,.ptr 0 0),(3,.hd 1 bT),(4,.I)],yD,2⟩
abbrev SH:List (Ev.Ex×ak):=[((.exit 0),⟨[(1,.ptr 0 0),(3,.hd 1 bT)],yD,2⟩)]
abbrev afa:=be SK SH
abbrev afb:=Ld 0 75 (bI [0] (bt Tryz.f117)) SK SH
def Jb(t4 ay:Int)(aC:jp)(av:bv)(aD aE aI:jp)(au:ce)(aw:bv)(b1:ip):am SK SH:=
 br (iL t4 (Int.ofNat aw.length))
 (
  aj (an t4 aw.length)<|
  aj (room 72 (List.length (ap b1 ((false,(0:Int),t4,((gt ae aw t4).2.1::((gt ae aw t4).2.2.1::[])),((gt ae aw t4).1::[]),())::[]))))<|
  aul ((pu (t4+(1:Int))),ay,aC,av,aD,aE,aI,au,aw,(ap b1 ((false,(0:Int),t4,((gt ae aw t4).2.1::((gt ae aw t4).2.2.1::[])),((gt ae aw t4).1::[]),())::[])),()))
 (
  aum (ay,aC,av,aD,aE,aI,au,aw,b1,()))
def ara  :afb:=bJ (ei Jb) (pL k0 e0 1 l0 fun d=>aud)
def Zeg:afa:=bj (ei Jb) NN
def I5(F0:tp)(t6 t7 ay:Int)(aC:jp)(av:bv)(aD aE aI:jp)(au:ce)(aw:bv)(b1:ip):am SC SB:=
 aj (an t6 au.length)<|
 br (iL t7 (Int.ofNat (List.length (gt ai au t6).2.2.2.1)))
 (
  aj (an t6 au.length)<|
  aj (an t7 (List.length (gt ai au t6).2.2.2.1))<|
  aj (an t6 au.length)<|
  aA (F0 ((gt ai au t6),t7,())) fun x0=>
  aj (room 72 (List.length (ap b1 ((true,t6,t7,(gt bO (gt ai au t6).2.2.2.1 t7).2.1,x0.1,())::[]))))<|
  aul (t6,(pu (t7+(1:Int))),ay,aC,av,aD,aE,aI,au,aw,(ap b1 ((true,t6,t7,(gt bO (gt ai au t6).2.2.2.1 t7).2.1,x0.1,())::[])),()))
 (
  aum (t6,ay,aC,av,aD,aE,aI,au,aw,b1,()))
def aqX(c0:ri) :GN:=bJ (ju (I5 c0.F)) (pL (kD c0 k0) e0 1 l0 fun d=>aud)
def aeX:GN:=aqX tt
def SM:QQ:=bj (ju (I5 II)) NN
def Ja(L11:QQ)(t6 ay:Int)(aC:jp)(av:bv)(aD aE aI:jp)(au:ce)(aw:bv)(b1:ip):am IP IJ:=
 br (iL t6 (Int.ofNat au.length))
 (
  aA (L11 (t6,(0:Int),ay,aC,av,aD,aE,aI,au,aw,b1,())) fun x0=>
  aul ((pu (pm x0.1 (1:Int))),x0.2))
 (
  aum (b1,()))
def arb(M11:GN):Q0:=bJ (ei (Ja M11.L)) (pL k0 e0 1 (sC M11 l0) fun d=>aud)
def aq9:Q0:=arb  aeX
def Zef:ae9:=bj (ei (Ja SM)) NN
abbrev Zik:List Sh:=[cJ]
abbrev Tb:List Sh:=[(.sl bT)]
abbrev GV:=TL Zik->Option (TL Tb)
abbrev yh:=Kd 117 Zik Tb
def Zl7(F0:tp)(L3:afa)(L8:ae9)(L11:QQ)(a0:Sh.T cJ):Option (TL Tb):=
 aA (L3 ((0:Int),a0.1,a0.2.1,a0.2.2.1,a0.2.2.2.1,a0.2.2.2.2.1,a0.2.2.2.2.2.1,a0.2.2.2.2.2.2.1,a0.2.2.2.2.2.2.2.1,[],())) fun x0=>
 aA (L8 ((0:Int),x0)) fun x1=>
 some (x1.1,())
def ari(c0:ri)(M3:afb)(M8:Q0)(M11:GN):yh:=⟨u1 (Zl7 c0.F M3.L M8.L M11.L),pD Tryz.func117 75 (kD c0 k0) e0 1 (sS (sC M3 (sC M8 l0))) fun d=>aud⟩
def GW:yh:=ari tt ara aq9 aeX
def Sz:GV:=GW.F
abbrev yK:ak:=⟨[(1,.fz .I),(2,.ptr 0 0),(5,.I),(6,.I)],[(0,.cells [.bool,.I,.I,.fz .I,.fz .I] 187)],1⟩
abbrev yJ:List (Ev.Ex×ak):=[(.ret,⟨[(4,.I)],[],0⟩),((.exit 0),⟨[(5,.I)],[],0⟩)]
abbrev ae4:=be yK yJ
abbrev QX:=Ld 0 31 (bI [0] (bt Tryz.f118)) yK yJ
def Tx(F0:tm)(t1:jp)(t5 t6:Int)(ay:Bool)(aC av:Int)(aD aE:jp):am yK yJ:=
 br (iL t6 (Int.ofNat aD.length))
 (
  aj (an t6 aD.length)<|
  aA (F0 ((gt .I aD t6),())) fun x0=>
  aj (an x0.1 t1.length)<|
  br (iL (gt .I t1 x0.1) (0:Int))
  (
   aum (.inl ((Int.negSucc 0),())))
  (
   aul (t1,(fD (iL t5 (gt .I t1 x0.1)) (gt .I t1 x0.1) t5),(pu (t6+(1:Int))),ay,aC,av,aD,aE,())))
 (
  aum (.inr (t5,())))
def aq6(c0:rh) :QX:=bJ (u8 (Tx c0.F)) (pL (kD c0 k0) e0 1 l0 fun d=>aud)
def aq5:QX:=aq6 tn
def Zfs:ae4:=bj (u8 (Tx qj)) NN
abbrev Zii:List Sh:=[bT,(.sl .I)]
abbrev Ta:List Sh:=[.I]
abbrev Q5:=TL Zii->Option (TL Ta)
abbrev GQ:=Kd 118 Zii Ta
def Zl6(F0:tm)(L3:ae4)(a0:Sh.T bT)(a1:jp):Option (TL Ta):=
 aA (L3 (a1,(0:Int),(0:Int),a0)) fun x0=>
 (match x0 with|.inl x1=>some (x1.1,())|.inr x1=>some ((pu (pm x1.1 (1:Int))),())
 )
def ard(c0:rh)(M3:QX):GQ:=⟨u2 (Zl6 c0.F M3.L),pD Tryz.func118 31 (kD c0 k0) e0 1 (sS (sC M3 l0)) fun d=>aud⟩
def Q6:GQ:=ard tn aq5
def Sy:Q5:=Q6.F
abbrev IG:ak:=agB
abbrev IE:List (Ev.Ex×ak):=[((.exit 4),⟨[(4,.hd 0 .I),(8,.I)],tI,1⟩)]
abbrev aeR:=be IG IE
abbrev QM:=Ld 0 94 (bI [1] (bt Tryz.f59)) IG IE
abbrev Iw:ak:=agA
abbrev Iu:List (Ev.Ex×ak):=[((.exit 6),agB)]
abbrev QK:=be Iw Iu
abbrev GL:=Ld 0 94 (bI [1,0] (bt Tryz.f59)) Iw Iu
abbrev It:ak:=⟨[(4,.hd 0 .I),(5,.fz bT),(8,.I),(9,.I),(10,.I),(11,.I),(12,.I)],tI,1⟩
abbrev Is:List (Ev.Ex×ak):=[((.exit 8),agA)]
abbrev QJ:=be It Is
abbrev QL:=Ld 0 94 (bI [1,0,0] (bt Tryz.f59)) It Is
abbrev IK:ak:=agC
abbrev IF:List (Ev.Ex×ak):=[((.exit 0),⟨[(4,.hd 0 .I),(5,.fz bT)],tI,1⟩)]
abbrev aeY:=be IK IF
abbrev QT:=Ld 0 94 (bI [0] (bt Tryz.f59)) IK IF
abbrev Iz:ak:=⟨[(4,.hd 0 .I),(5,.fz bT),(6,.I),(7,.I)],tI,1⟩
abbrev Iv:List (Ev.Ex×ak):=[((.exit 2),agC)]
abbrev QR:=be Iz Iv
abbrev QS:=Ld 0 94 (bI [0,0] (bt Tryz.f59)) Iz Iv
def I6(t5:ip)(t6 t7:Int)(b0:jp):am Iz Iv:=
 aj (an t6 t5.length)<|
 br (iL t7 (Int.ofNat (List.length (gt bT t5 t6).2.2.2.2.1)))
 (
  aj (an t6 t5.length)<|
  aj (an t7 (List.length (gt bT t5 t6).2.2.2.2.1))<|
  aj (an (gt .I (gt bT t5 t6).2.2.2.2.1 t7) b0.length)<|
  aul (t5,t6,(pu (t7+(1:Int))),(List.set b0 (Int.toNat (gt .I (gt bT t5 t6).2.2.2.2.1 t7)) (Int.negSucc 0)),()))
 (
  aum (t5,t6,b0,()))
def aeZ  :QS:=bJ (u4 I6) (pL k0 e0 1 l0 fun d=>aud)
def IV:QR:=bj (u4 I6) NN
def I7(L9:QR)(t5:ip)(t6:Int)(b0:jp):am IK IF:=
 br (iL t6 (Int.ofNat t5.length))
 (
  aA (L9 (t5,t6,(0:Int),b0,())) fun x0=>
  aul (x0.1,(pu (pm x0.2.1 (1:Int))),x0.2.2.1,()))
 (
  aum (t5,b0,()))
def aqZ(M9:QS):QT:=bJ (u3 (I7 M9.L)) (pL k0 e0 1 (sC M9 l0) fun d=>aud)
def aqY:QT:=aqZ  aeZ
def SW:aeY:=bj (u3 (I7 IV)) NN
def IX(t5:ip)(t8 t9 t10 t11 t12:Int)(b0:jp):am It Is:=
 aj (an t10 t5.length)<|
 br (iL t12 (Int.ofNat (List.length (gt bT t5 t10).2.2.2.2.1)))
 (
  aj (an t10 t5.length)<|
  aj (an t12 (List.length (gt bT t5 t10).2.2.2.2.1))<|
  aj (an (gt .I (gt bT t5 t10).2.2.2.2.1 t12) b0.length)<|
  aul (t5,t8,t9,t10,t11,(pu (t12+(1:Int))),(List.set b0 (Int.toNat (gt .I (gt bT t5 t10).2.2.2.2.1 t12)) t11),()))
 (
  aum (t5,t8,t9,t10,b0,()))
def aeS  :QL:=bJ (u7 IX) (pL k0 e0 1 l0 fun d=>aud)
def IC:QJ:=bj (u7 IX) NN
def IY(F0:Q5)(L24:QJ)(t5:ip)(t8 t9 t10:Int)(b0:jp):am Iw Iu:=
 br (iL t10 (Int.ofNat t5.length))
 (
  aj (an t10 t5.length)<|
  aA (F0 ((gt bT t5 t10),b0,())) fun x0=>
  br (iL x0.1 (0:Int))
  (
   aA (L24 (t5,(pu (t8+(1:Int))),t9,t10,x0.1,(0:Int),b0,())) fun x1=>
   aul (x1.1,x1.2.1,x1.2.2.1,(pu (pm x1.2.2.2.1 (1:Int))),x1.2.2.2.2.1,()))
  (
   aA (L24 (t5,t8,t9,t10,x0.1,(0:Int),b0,())) fun x1=>
   aul (x1.1,x1.2.1,x1.2.2.1,(pu (pm x1.2.2.2.1 (1:Int))),x1.2.2.2.2.1,())))
 (
  aum (t5,t8,t9,b0,()))
def aqU(c0:GQ)(M24:QL):GL:=bJ (u5 (IY c0.F M24.L)) (pL (kD c0 k0) e0 1 (sC M24 l0) fun d=>aud)
def aeT:GL:=aqU Q6 aeS
def IQ:QK:=bj (u5 (IY Sy IC)) NN
def IZ(L18:QK)(t5:ip)(t8 t9:Int)(b0:jp):am IG IE:=
 br (iE t9 (Int.ofNat t5.length))
 (
  aA (L18 (t5,(0:Int),t9,(0:Int),b0,())) fun x0=>
  aul (x0.1,x0.2.1,(pu (pm x0.2.2.1 (1:Int))),x0.2.2.2.1,()))
 (
  aum (t8,b0,()))
def aqV(M18:GL):QM:=bJ (u4 (IZ M18.L)) (pL k0 e0 1 (sC M18 l0) fun d=>aud)
def aqT:QM:=aqV  aeT
def SU:aeR:=bj (u4 (IZ IQ)) NN
abbrev Zi1:List Sh:=[cJ]
abbrev S7:List Sh:=[(.sl .I),.bool]
abbrev Q3:=TL Zi1->Option (TL S7)
abbrev GP:=Kd 59 Zi1 S7
def Tc(F0:Q5)(F1:GV)(F2:Rg)(L6:aeY)(L9:QR)(L14:aeR)(L18:QK)(L24:QJ)(a0:Sh.T cJ):Option (TL S7):=
 aA (F2 (a0,())) fun x0=>
 br (Bool.not (iQ x0.1 (0:Int)))
 (
  some ([],false,()))
 (
  aj (both (iE (0:Int) (pu (pm a0.1 (1:Int)))) (both (iE (pu (pm a0.1 (1:Int))) (pu (pm a0.1 (1:Int)))) (iE ((Int.ofNat 8)*(pu (pm a0.1 (1:Int)))) (281474976710656:Int))))<|
  aA (F1 (a0,())) fun x1=>
  aA (L6 (x1.1,(0:Int),(List.replicate (Int.toNat (pu (pm a0.1 (1:Int)))) (Sh.zero .I)),())) fun x2=>
  aA (L14 (x2.1,(0:Int),(0:Int),x2.2.1,())) fun x3=>
  br (iL (0:Int) x3.1)
  (
   some ([],false,()))
  (
   some (x3.2.1,true,())))
def arc(c0:GQ)(c1:yh)(c2:GX)(M6:QT)(M9:QS)(M14:QM)(M18:GL)(M24:QL):GP:=⟨u1 (Tc c0.F c1.F c2.F M6.L M9.L M14.L M18.L M24.L),pD Tryz.func59 94 (kD c0 (kD c1 (kD c2 k0))) e0 1 (sS (sC M6 (sC M14 l0))) fun d=>aud⟩
def Q4:GP:=arc Q6 GW Rh aqY aeZ aqT aeT aeS
def Zfg:Q3:=Q4.F
abbrev Zil:List Sh:=[cJ]
abbrev Td:List Sh:=[.I]
abbrev GF:=TL Zil->Option (TL Td)
abbrev yd:=Kd 19 Zil Td
def Zl8(F0:Q3)(F1:Rg)(a0:Sh.T cJ):Option (TL Td):=
 aA (F1 (a0,())) fun x0=>
 br (Bool.not (iQ x0.1 (0:Int)))
 (
  some (x0.1,()))
 (
  aA (F0 (a0,())) fun x1=>
  br (Bool.not x1.2.1)
  (
   some ((8:Int),()))
  (
   some ((0:Int),())))
def arj(c0:GP)(c1:GX) :yd:=⟨u1 (Zl8 c0.F c1.F),pD Tryz.func19 18 (kD c0 (kD c1 k0)) e0 1 (sS l0) fun d=>aud⟩
def GG:yd:=arj Q4 Rh
def ID:GF:=GG.F
