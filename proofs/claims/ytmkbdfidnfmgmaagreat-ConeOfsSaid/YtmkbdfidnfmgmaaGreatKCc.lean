import Derived.Test.YtmkbdfidnfmgmaaGreatKCb
set_option linter.all false
/- the document's cone (printed by VTool.lean). -/
namespace Go.Proofs.YtmkbdfidnfmgmaaGreat.V
open Go Go.RowKit
set_option maxRecDepth 1000000
abbrev W5:ak:=⟨[(0,.hd 0 .bool),(1,.fz .I)],[(0,.arr .bool 4)],1⟩
abbrev K3:List (Ev.Ex×ak):=[(.ret,⟨[],[(0,.arr .bool 4)],1⟩)]
abbrev uf:=be W5 K3
abbrev sm:=Kb 119 2 W5 0 K3
abbrev Ch:ak:=⟨[(0,.hd 0 .bool),(1,.fz .I),(4,.I)],[(0,.arr .bool 4)],1⟩
abbrev BM:List (Ev.Ex×ak):=[((.exit 0),⟨[],[(0,.arr .bool 4)],1⟩)]
abbrev XQ:=be Ch BM
abbrev Me:=Ld 1 22 (bI [0] (bt Tryz.f119)) Ch BM
def Da(F0:tm)(t1:jp)(t4:Int)(b0:kw):am Ch BM:=
 br (iL t4 (Int.ofNat t1.length))
 (
  aj (an t4 t1.length)<|
  aA (F0 ((gt .I t1 t4),())) fun x0=>
  br (iL (0:Int) x0.1)
  (
   aj (an x0.1 b0.length)<|
   aul (t1,(pu (t4+(1:Int))),(List.set b0 (Int.toNat x0.1) true),()))
  (
   aul (t1,(pu (t4+(1:Int))),b0,())))
 (
  aum (b0,()))
def aiq(c0:rh) :Me:=bJ (u3 (Da c0.F)) (pL (kD c0 k0) e0 1 l0 fun d=>aud)
def air:Me:=aiq tn
def XP:XQ:=bj (u3 (Da qj)) NN
def aiL(F0:tm)(L1:XQ)(t1:jp)(b0:kw):Option (Out K3):=
 aA (L1 (t1,(0:Int),b0,())) fun x0=>
 some (x0.1,())
def aiM(c0:rh)(M1:Me):sm:=⟨u2 (aiL c0.F M1.L),pB Tryz.func119 22 (kD c0 k0) e0 1 (sS (sC M1 l0)) fun d=>aud⟩
def ue:sm:=aiM tn air
def mD:uf:=ue.F
abbrev oN:List LA:=[.I,.aR,.aR,.aR,.aR,.aR,.aR,.aR]
abbrev tH:List (Nat×LO):=[(0,.cells dx 27),(1,.arr .bool 4),(2,.arr .bool 4)]
abbrev H0:List LA:=[.I,.aR,.aR,.aR,.aR,.aR,.aR,.aR,.aR,.aR,.aR]
abbrev Ia:List LA:=[.I,.hd 3 .I,.hd 4 ae,.aR,.fz .I,.fz .I,.hd 5 ai,.aR]
abbrev agr:List (Nat×LO):=[(0,.cells dx 27),(1,.cells H0 50),(2,.cells [.I,.aR,.aR,.aR,.aR,.aR,.aR,.aR,.hd 3 .I,.hd 4 .I,.hd 5 .I] 50),(3,.arr .I 3),(4,.arr .I 3),(5,.arr .I 3),(6,.cells [.I,.hd 7 .I,.hd 8 ae,.aR,.aR,.aR,.hd 9 ai,.hd 10 ae] 27),(7,.arr .I 3),(8,.arr ae 78),(9,.arr ai 97),(10,.arr ae 113)]
abbrev ags:List (Nat×LO):=[(0,.cells dx 27),(1,.cells H0 50),(2,.cells [.I,.aR,.aR,.aR,.aR,.aR,.aR,.aR,.hd 3 .I,.hd 4 .I,.hd 5 .I] 50),(3,.arr .I 3),(4,.arr .I 3),(5,.arr .I 3),(6,.cells [.I,.hd 7 .I,.hd 8 ae,.aR,.aR,.aR,.hd 9 ai,.aR] 27),(7,.arr .I 3),(8,.arr ae 78),(9,.arr ai 97)]
abbrev agt:List (Nat×LO):=[(0,.cells dx 27),(1,.cells H0 50),(2,.cells [.I,.aR,.aR,.aR,.aR,.aR,.aR,.aR,.hd 3 .I,.hd 4 .I,.aR] 50),(3,.arr .I 3),(4,.arr .I 3),(5,.cells [.I,.hd 6 .I,.hd 7 ae,.aR,.aR,.aR,.aR,.aR] 27),(6,.arr .I 3),(7,.arr ae 78)]
abbrev rO:List LA:=[.I,.I,.bool,.fz bO,.fz bu]
abbrev Ib:ak:=⟨[(1,.ptr 0 0),(4,.hd 1 .bool),(5,.hd 2 .bool),(6,.fz bT),(7,.I)],tH,3⟩
abbrev agu:List (Nat×LO):=[(0,.cells dx 27),(1,.cells H0 50),(2,.cells [.I,.aR,.aR,.aR,.aR,.aR,.aR,.aR,.hd 3 .I,.aR,.aR] 50),(3,.arr .I 3),(4,.cells [.I,.hd 5 .I,.aR,.aR,.aR,.aR,.aR,.aR] 27),(5,.arr .I 3)]
abbrev O6:ak:=⟨[(1,.ptr 0 0),(4,.hd 1 .bool),(5,.hd 2 .bool),(6,.fz bT),(7,.I),(11,.I)],tH,3⟩
abbrev acj:List (Nat×LO):=[(0,.cells dx 27),(1,.cells oN 27),(2,.cells Ia 27),(3,.arr .I 3),(4,.arr ae 78),(5,.arr ai 97),(6,.cells rO 97),(7,.cells [.I,.I,.bool,.hd 8 bO,.aR] 97),(8,.arr bO 148)]
abbrev O7:ak:=⟨[(2,.ptr 0 0),(3,.ptr 1 0)],[(0,.cells dx 27),(1,.cells dx 27)],2⟩
abbrev ack:List (Nat×LO):=[(0,.cells dx 27),(1,.cells oN 27),(2,.cells [.I,.hd 3 .I,.hd 4 ae,.aR,.fz .I,.fz .I,.aR,.aR] 27),(3,.arr .I 3),(4,.arr ae 78)]
abbrev uP:ak:=⟨[(4,.bool)],[],0⟩
abbrev acm:List (Nat×LO):=[(0,.cells dx 27),(1,.cells oN 27),(2,.cells [.I,.hd 3 .I,.aR,.aR,.fz .I,.fz .I,.aR,.aR] 27),(3,.arr .I 3)]
abbrev acn:ak:=⟨[(1,.ptr 0 0),(4,.hd 1 .bool),(5,.hd 2 .bool),(6,.fz bT),(7,.I),(9,.I)],tH,3⟩
abbrev O8:List (Tmp×LA):=[(1,.fz .I),(2,.ptr 0 0),(4,.ptr 1 0),(5,.ptr 2 0)]
abbrev aco:List (Nat×LO):=[(0,.cells dx 27),(1,.cells oN 27),(2,.cells Ia 27),(3,.arr .I 3),(4,.arr ae 78),(5,.arr ai 97)]
abbrev Ce:ak:=Ib
abbrev BJ:List (Ev.Ex×ak):=[((.exit 0),⟨[(4,.hd 0 .bool),(5,.hd 1 .bool)],[(0,.arr .bool 4),(1,.arr .bool 4)],2⟩)]
abbrev XJ:=be Ce BJ
abbrev LZ:=Ld 0 185 (bI [0] (bt Tryz.f60)) Ce BJ
abbrev BG:ak:=O6
abbrev Be:List (Ev.Ex×ak):=[((.exit 8),Ib)]
abbrev Lo:=be BG Be
abbrev CG:=Ld 0 185 (bI [0,2] (bt Tryz.f60)) BG Be
abbrev BI:ak:=⟨[(1,.ptr 0 0),(4,.hd 1 .bool),(5,.hd 2 .bool),(6,.fz bT),(7,.I),(11,.I),(13,.I)],tH,3⟩
abbrev Bg:List (Ev.Ex×ak):=[((.exit 12),O6)]
abbrev Lq:=be BI Bg
abbrev CI:=Ld 0 185 (bI [0,2,1] (bt Tryz.f60)) BI Bg
abbrev BH:ak:=⟨[(1,.ptr 0 0),(4,.hd 1 .bool),(5,.hd 2 .bool),(6,.fz bT),(7,.I),(11,.I),(12,.I)],tH,3⟩
abbrev Bf:List (Ev.Ex×ak):=[((.exit 10),O6)]
abbrev Lp:=be BH Bf
abbrev CH:=Ld 0 185 (bI [0,2,0] (bt Tryz.f60)) BH Bf
abbrev BF:ak:=acn
abbrev Bd:List (Ev.Ex×ak):=[((.exit 4),Ib)]
abbrev Lm:=be BF Bd
abbrev CE:=Ld 0 185 (bI [0,1] (bt Tryz.f60)) BF Bd
abbrev v8:ak:=⟨[(1,.ptr 0 0),(4,.hd 1 .bool),(5,.hd 2 .bool),(6,.fz bT),(7,.I),(9,.I),(10,.I)],tH,3⟩
abbrev v7:List (Ev.Ex×ak):=[((.exit 6),acn)]
abbrev Ln:=be v8 v7
abbrev CF:=Ld 0 185 (bI [0,1,0] (bt Tryz.f60)) v8 v7
abbrev Cf:ak:=⟨[(1,.ptr 0 0),(4,.hd 1 .bool),(5,.hd 2 .bool),(6,.fz bT),(7,.I),(8,.I)],tH,3⟩
abbrev BK:List (Ev.Ex×ak):=[((.exit 2),Ib)]
abbrev Ma:=be Cf BK
abbrev C7:=Ld 0 185 (bI [0,0] (bt Tryz.f60)) Cf BK
def C6(F1:uf)(t6:ip)(t7 t8 ay:Int)(aC:jp)(av:bv)(aD aE aI:jp)(au:ce)(aw:bv)(b1 b2:kw):am Cf BK:=
 br (iL t8 (Int.ofNat av.length))
 (
  aj (an t8 av.length)<|
  aj (an (gt ae av t8).1 b1.length)<|
  br (gt .bool b1 (gt ae av t8).1)
  (
   aj (an t8 av.length)<|
   aA (F1 (((gt ae av t8).2.1::[]),b1,())) fun x0=>
   aul (t6,t7,(pu (t8+(1:Int))),ay,aC,av,aD,aE,aI,au,aw,x0.1,b2,()))
  (
   aul (t6,t7,(pu (t8+(1:Int))),ay,aC,av,aD,aE,aI,au,aw,b1,b2,())))
 (
  aum (t6,t7,ay,aC,av,aD,aE,aI,au,aw,b1,b2,()))
def aim(c1:sm) :C7:=bJ (iT (C6 c1.F)) (pL (kB c1 k0) e0 1 l0 fun d=>aud)
def XI:C7:=aim ue
def C9:Ma:=bj (iT (C6 mD)) NN
def CA(F1:uf)(t6:ip)(t7 t9 t10 ay:Int)(aC:jp)(av:bv)(aD aE aI:jp)(au:ce)(aw:bv)(b1 b2:kw):am v8 v7:=
 aj (an t9 t6.length)<|
 br (iL t10 (Int.ofNat (List.length (gt bT t6 t9).2.2.2.2.1)))
 (
  aj (an t9 t6.length)<|
  aj (an t10 (List.length (gt bT t6 t9).2.2.2.2.1))<|
  aj (an (gt .I (gt bT t6 t9).2.2.2.2.1 t10) b1.length)<|
  br (gt .bool b1 (gt .I (gt bT t6 t9).2.2.2.2.1 t10))
  (
   aj (an t9 t6.length)<|
   aA (F1 ((gt bT t6 t9).2.2.2.1,b1,())) fun x0=>
   aj (an t9 t6.length)<|
   br (gt bT t6 t9).1
   (
    aj (an t9 t6.length)<|
    aj (an (gt bT t6 t9).2.1 b2.length)<|
    aul (t6,t7,t9,(pu (t10+(1:Int))),ay,aC,av,aD,aE,aI,au,aw,x0.1,(List.set b2 (Int.toNat (gt bT t6 t9).2.1) true),()))
   (
    aul (t6,t7,t9,(pu (t10+(1:Int))),ay,aC,av,aD,aE,aI,au,aw,x0.1,b2,())))
  (
   aul (t6,t7,t9,(pu (t10+(1:Int))),ay,aC,av,aD,aE,aI,au,aw,b1,b2,())))
 (
  aum (t6,t7,t9,ay,aC,av,aD,aE,aI,au,aw,b1,b2,()))
def ahT(c1:sm) :CF:=bJ (gA (CA c1.F)) (pL (kB c1 k0) e0 1 l0 fun d=>aud)
def WW:CF:=ahT ue
def CK:Ln:=bj (gA (CA mD)) NN
def Cz(L17:Ln)(t6:ip)(t7 t9 ay:Int)(aC:jp)(av:bv)(aD aE aI:jp)(au:ce)(aw:bv)(b1 b2:kw):am BF Bd:=
 br (iL t9 (Int.ofNat t6.length))
 (
  aA (L17 (t6,t7,t9,(0:Int),ay,aC,av,aD,aE,aI,au,aw,b1,b2,())) fun x0=>
  aul (x0.1,x0.2.1,(pu (pm x0.2.2.1 (1:Int))),nk x0))
 (
  aum (t6,t7,ay,aC,av,aD,aE,aI,au,aw,b1,b2,()))
def ahS(M17:CF):CE:=bJ (iT (Cz M17.L)) (pL k0 e0 1 (sC M17 l0) fun d=>aud)
def WU:CE:=ahS  WW
def CJ:Lm:=bj (iT (Cz CK)) NN
def CC(F1:uf)(t6:ip)(t7 t11 t12 ay:Int)(aC:jp)(av:bv)(aD aE aI:jp)(au:ce)(aw:bv)(b1 b2:kw):am BH Bf:=
 aj (an t11 au.length)<|
 br (iL t12 (Int.ofNat (List.length (gt ai au t11).2.2.2.1)))
 (
  aj (an t11 au.length)<|
  aj (an t12 (List.length (gt ai au t11).2.2.2.1))<|
  aA (F1 ((gt bO (gt ai au t11).2.2.2.1 t12).2.1,b1,())) fun x0=>
  aul (t6,t7,t11,(pu (t12+(1:Int))),ay,aC,av,aD,aE,aI,au,aw,x0.1,b2,()))
 (
  aum (t6,t7,t11,ay,aC,av,aD,aE,aI,au,aw,b1,b2,()))
def ahV(c1:sm) :CH:=bJ (gA (CC c1.F)) (pL (kB c1 k0) e0 1 l0 fun d=>aud)
def WY:CH:=ahV ue
def CM:Lp:=bj (gA (CC mD)) NN
def CD(F1:uf)(t6:ip)(t7 t11 t13 ay:Int)(aC:jp)(av:bv)(aD aE aI:jp)(au:ce)(aw:bv)(b1 b2:kw):am BI Bg:=
 aj (an t11 au.length)<|
 br (iL t13 (Int.ofNat (List.length (gt ai au t11).2.2.2.2.1)))
 (
  aj (an t11 au.length)<|
  aj (an t13 (List.length (gt ai au t11).2.2.2.2.1))<|
  aA (F1 (((gt bu (gt ai au t11).2.2.2.2.1 t13).1::[]),b1,())) fun x0=>
  aA (F1 ((gt bu (gt ai au t11).2.2.2.2.1 t13).2.1,x0.1,())) fun x1=>
  aA (F1 ((gt bu (gt ai au t11).2.2.2.2.1 t13).2.2.1,x1.1,())) fun x2=>
  aul (t6,t7,t11,(pu (t13+(1:Int))),ay,aC,av,aD,aE,aI,au,aw,x2.1,b2,()))
 (
  aum (t6,t7,t11,ay,aC,av,aD,aE,aI,au,aw,b1,b2,()))
def ahW(c1:sm) :CI:=bJ (gA (CD c1.F)) (pL (kB c1 k0) e0 1 l0 fun d=>aud)
def WZ:CI:=ahW ue
def CN:Lq:=bj (gA (CD mD)) NN
def CB(L28:Lp)(L32:Lq)(t6:ip)(t7 t11 ay:Int)(aC:jp)(av:bv)(aD aE aI:jp)(au:ce)(aw:bv)(b1 b2:kw):am BG Be:=
 br (iL t11 (Int.ofNat au.length))
 (
  aj (an t11 b2.length)<|
  br (Bool.not (gt .bool b2 t11))
  (
   aul (t6,t7,(pu (t11+(1:Int))),ay,aC,av,aD,aE,aI,au,aw,b1,b2,()))
  (
   aA (L28 (t6,t7,t11,(0:Int),ay,aC,av,aD,aE,aI,au,aw,b1,b2,())) fun x0=>
   aA (L32 (x0.1,x0.2.1,x0.2.2.1,(0:Int),nk x0)) fun x1=>
   aul (x1.1,x1.2.1,(pu (pm x1.2.2.1 (1:Int))),nk x1)))
 (
  aum (t6,t7,ay,aC,av,aD,aE,aI,au,aw,b1,b2,()))
def ahU(M28:CH)(M32:CI):CG:=bJ (iT (CB M28.L M32.L)) (pL k0 e0 1 (sC M28 (sC M32 l0)) fun d=>aud)
def WX:CG:=ahU  WY WZ
def CL:Lo:=bj (iT (CB CM CN)) NN
def C0(L9:Ma)(L14:Lm)(L24:Lo)(t6:ip)(t7 ay:Int)(aC:jp)(av:bv)(aD aE aI:jp)(au:ce)(aw:bv)(b1 b2:kw):am Ce BJ:=
 br (iE t7 (pu ((pu (ay+(Int.ofNat au.length)))+(1:Int))))
 (
  aA (L9 (t6,t7,(0:Int),ay,aC,av,aD,aE,aI,au,aw,b1,b2,())) fun x0=>
  aA (L14 (x0.1,x0.2.1,(0:Int),x0.2.2)) fun x1=>
  aA (L24 (x1.1,x1.2.1,(0:Int),x1.2.2)) fun x2=>
  aul (x2.1,(pu (pm x2.2.1 (1:Int))),x2.2.2))
 (
  aum (b1,b2,()))
def ail(M9:C7)(M14:CE)(M24:CG):LZ:=bJ (bV (C0 M9.L M14.L M24.L)) (pL k0 e0 1 (sC M9 (sC M14 (sC M24 l0))) fun d=>aud)
def ain:LZ:=ail  XI WU WX
def C8:XJ:=bj (bV (C0 C9 CJ CL)) NN
abbrev XK:List Sh:=[cJ]
abbrev Mb:List Sh:=[(.sl .bool),(.sl .bool)]
abbrev Yb:=TL XK->Option (TL Mb)
abbrev Mu:=Kd 60 XK Mb
def Mv(F0:GV)(F1:uf)(L6:XJ)(L9:Ma)(L14:Lm)(L17:Ln)(L24:Lo)(L28:Lp)(L32:Lq)(a0:Sh.T cJ):Option (TL Mb):=
 aj (both (iE (0:Int) (pu (pm a0.1 (1:Int)))) (both (iE (pu (pm a0.1 (1:Int))) (pu (pm a0.1 (1:Int)))) (iE ((Int.ofNat 1)*(pu (pm a0.1 (1:Int)))) (281474976710656:Int))))<|
 aj (both (iE (0:Int) (Int.ofNat (List.length (c9 a0)))) (both (iE (Int.ofNat (List.length (c9 a0))) (Int.ofNat (List.length (c9 a0)))) (iE ((Int.ofNat 1)*(Int.ofNat (List.length (c9 a0)))) (281474976710656:Int))))<|
 aA (F1 (cB a0,(List.replicate (Int.toNat (pu (pm a0.1 (1:Int)))) (Sh.zero .bool)),())) fun x0=>
 aA (F1 (cG a0,x0.1,())) fun x1=>
 aA (F0 (a0,())) fun x2=>
 aA (L6 (x2.1,(0:Int),a0.1,a0.2.1,a0.2.2.1,cu a0,cB a0,cG a0,c9 a0,dj a0,x1.1,(List.replicate (Int.toNat (Int.ofNat (List.length (c9 a0)))) (Sh.zero .bool)),())) fun x3=>
 some x3
def aiI(c0:yh)(c1:sm)(M6:LZ)(M9:C7)(M14:CE)(M17:CF)(M24:CG)(M28:CH)(M32:CI):Mu:=⟨u1 (Mv c0.F c1.F M6.L M9.L M14.L M17.L M24.L M28.L M32.L),pD Tryz.func60 185 (kD c0 (kB c1 k0)) e0 1 (sS (sC M6 l0)) fun d=>aud⟩
def Ya:Mu:=aiI GW ue ain XI WU WW WX WY WZ
def aik:Yb:=Ya.F
abbrev Yc:List Sh:=[.I,(.sl .I)]
abbrev Mw:List Sh:=[.I]
abbrev sr:=TL Yc->Option (TL Mw)
abbrev qH:=Kd 156 Yc Mw
def MC(F0:Mk)(F1:Rp)(F2:tm)(a0:Int)(a1:jp):Option (TL Mw):=
 aA (F2 (a0,())) fun x0=>
 aj (an x0.1 a1.length)<|
 aA (F1 (a0,())) fun x1=>
 aA (F0 ((gt .I a1 x0.1),x1.1,())) fun x2=>
 some (x2.1,())
def aiR(c0:De)(c1:G1)(c2:rh) :qH:=⟨u2 (MC c0.F c1.F c2.F),pD Tryz.func156 13 (kD c0 (kD c1 (kD c2 k0))) e0 1 (sS l0) fun d=>aud⟩
def so:qH:=aiR Mj Rq tn
def oc:sr:=so.F
abbrev Cg:ak:=⟨[(0,.fz .I),(1,.fz .I),(5,.hd 0 .I),(6,.I)],[(0,.arr .I 3)],1⟩
abbrev BL:List (Ev.Ex×ak):=[((.exit 0),⟨[(5,.hd 0 .I)],[(0,.arr .I 3)],1⟩)]
abbrev XN:=be Cg BL
abbrev Mc:=Ld 0 23 (bI [0] (bt Tryz.f155)) Cg BL
def XL(F0:sr)(t0 t1:jp)(t6:Int)(b0:jp):am Cg BL:=
 br (iL t6 (Int.ofNat t0.length))
 (
  aj (an t6 t0.length)<|
  aA (F0 ((gt .I t0 t6),t1,())) fun x0=>
  aj (room 8 (List.length (ap b0 (x0.1::[]))))<|
  aul (t0,t1,(pu (t6+(1:Int))),(ap b0 (x0.1::[])),()))
 (
  aum (b0,()))
def aio(c0:qH) :Mc:=bJ (u4 (XL c0.F)) (pL (kD c0 k0) e0 1 l0 fun d=>aud)
def aip:Mc:=aio so
def XM:XN:=bj (u4 (XL oc)) NN
abbrev XO:List Sh:=[(.sl .I),(.sl .I)]
abbrev Md:List Sh:=[(.sl .I)]
abbrev Dl:=TL XO->Option (TL Md)
abbrev wy:=Kd 155 XO Md
def aiJ(F0:sr)(L3:XN)(a0 a1:jp):Option (TL Md):=
 aA (L3 (a0,a1,(0:Int),[],())) fun x0=>
 some (x0.1,())
def aiK(c0:qH)(M3:Mc):wy:=⟨u2 (aiJ c0.F M3.L),pD Tryz.func155 23 (kD c0 k0) e0 1 (sS (sC M3 l0)) fun d=>aud⟩
def Dk:wy:=aiK so aip
def ua:Dl:=Dk.F
abbrev AS:ak:=⟨[(1,.fz .I),(2,.ptr 0 0),(4,.ptr 1 0),(5,.ptr 2 0),(15,.I)],[(0,.cells dx 27),(1,.cells oN 27),(2,.cells [.I,.hd 3 .I,.hd 4 ae,.aR,.fz .I,.fz .I,.hd 5 ai,.hd 6 ae] 27),(3,.arr .I 3),(4,.arr ae 78),(5,.arr ai 97),(6,.arr ae 113)],7⟩
abbrev Ax:List (Ev.Ex×ak):=[((.exit 10),⟨[(4,.ptr 0 0),(5,.ptr 1 0)],[(0,.cells oN 27),(1,.cells [.I,.hd 2 .I,.hd 3 ae,.aR,.fz .I,.fz .I,.hd 4 ai,.hd 5 ae] 27),(2,.arr .I 3),(3,.arr ae 78),(4,.arr ai 97),(5,.arr ae 113)],6⟩)]
abbrev VU:=be AS Ax
abbrev KI:=Ld 0 194 (bI [3] (bt Tryz.f121)) AS Ax
abbrev AP:ak:=⟨[(1,.fz .I),(2,.ptr 0 0),(4,.ptr 1 0),(5,.ptr 2 0),(9,.I)],aco,6⟩
abbrev At:List (Ev.Ex×ak):=[((.exit 4),⟨O8,aco,6⟩)]
abbrev VT:=be AP At
abbrev KH:=Ld 0 194 (bI [2] (bt Tryz.f121)) AP At
abbrev AR:ak:=⟨[(1,.fz .I),(2,.ptr 0 0),(4,.ptr 1 0),(5,.ptr 2 0),(9,.I),(10,.ptr 6 0),(11,.ptr 7 0),(13,.I)],[(0,.cells dx 27),(1,.cells oN 27),(2,.cells Ia 27),(3,.arr .I 3),(4,.arr ae 78),(5,.arr ai 97),(6,.cells rO 97),(7,.cells [.I,.I,.bool,.hd 8 bO,.hd 9 bu] 97),(8,.arr bO 148),(9,.arr bu 174)],10⟩
abbrev Aw:List (Ev.Ex×ak):=[((.exit 8),⟨[(1,.fz .I),(2,.ptr 0 0),(4,.ptr 1 0),(5,.ptr 2 0),(9,.I),(11,.ptr 6 0)],[(0,.cells dx 27),(1,.cells oN 27),(2,.cells Ia 27),(3,.arr .I 3),(4,.arr ae 78),(5,.arr ai 97),(6,.cells [.I,.I,.bool,.hd 7 bO,.hd 8 bu] 97),(7,.arr bO 148),(8,.arr bu 174)],9⟩)]
abbrev KM:=be AR Aw
abbrev BO:=Ld 0 194 (bI [2,1] (bt Tryz.f121)) AR Aw
abbrev AQ:ak:=⟨[(1,.fz .I),(2,.ptr 0 0),(4,.ptr 1 0),(5,.ptr 2 0),(9,.I),(10,.ptr 6 0),(11,.ptr 7 0),(12,.I)],acj,9⟩
abbrev Au:List (Ev.Ex×ak):=[((.exit 6),⟨[(1,.fz .I),(2,.ptr 0 0),(4,.ptr 1 0),(5,.ptr 2 0),(9,.I),(10,.ptr 6 0),(11,.ptr 7 0)],acj,9⟩)]
abbrev KL:=be AQ Au
abbrev BN:=Ld 0 194 (bI [2,0] (bt Tryz.f121)) AQ Au
abbrev Bj:ak:=⟨[(1,.fz .I),(2,.ptr 0 0),(4,.ptr 1 0),(5,.ptr 2 0),(7,.I)],ack,5⟩
abbrev AW:List (Ev.Ex×ak):=[((.exit 2),⟨O8,ack,5⟩)]
abbrev Wy:=be Bj AW
abbrev K5:=Ld 0 194 (bI [1] (bt Tryz.f121)) Bj AW
abbrev Bi:ak:=⟨[(1,.fz .I),(2,.ptr 0 0),(4,.ptr 1 0),(5,.ptr 2 0),(6,.I)],acm,4⟩
abbrev AU:List (Ev.Ex×ak):=[((.exit 0),⟨O8,acm,4⟩)]
abbrev Wx:=be Bi AU
abbrev Wu:=Ld 0 194 (bI [0] (bt Tryz.f121)) Bi AU
def Wr(t1:jp)(t6 ay:Int)(aC:jp)(av:bv)(aD aE aI:jp)(au:ce)(aw:bv)(bc bE:Int)(ct cS b3:jp):am Bi AU:=
 br (iL t6 (Int.ofNat aC.length))
 (
  aj (an t6 aC.length)<|
  aj (an (gt .I aC t6) t1.length)<|
  aj (room 8 (List.length (ap b3 ((gt .I t1 (gt .I aC t6))::[]))))<|
  aul (t1,(pu (t6+(1:Int))),ay,aC,av,aD,aE,aI,au,aw,bc,bE,ct,cS,(ap b3 ((gt .I t1 (gt .I aC t6))::[])),()))
 (
  aum (t1,ay,aC,av,aD,aE,aI,au,aw,bc,bE,ct,cS,b3,()))
def ahF  :Wu:=bJ (fW Wr) (pL k0 e0 1 l0 fun d=>aud)
def Wv:Wx:=bj (fW Wr) NN
def Wt(F0:sr)(t1:jp)(t7 ay:Int)(aC:jp)(av:bv)(aD aE aI:jp)(au:ce)(aw:bv)(bc bE:Int)(ct cS b3:jp)(b4:bv):am Bj AW:=
 br (iL t7 (Int.ofNat av.length))
 (
  aj (an t7 av.length)<|
  aj (an (gt ae av t7).1 t1.length)<|
  aA (F0 ((gt ae av t7).2.1,t1,())) fun x0=>
  aj (room 24 (List.length (ap b4 (((gt .I t1 (gt ae av t7).1),x0.1,(gt ae av t7).2.2.1,())::[]))))<|
  aul (t1,(pu (t7+(1:Int))),ay,aC,av,aD,aE,aI,au,aw,bc,bE,ct,cS,b3,(ap b4 (((gt .I t1 (gt ae av t7).1),x0.1,(gt ae av t7).2.2.1,())::[])),()))
 (
  aum (t1,ay,aC,av,aD,aE,aI,au,aw,bc,bE,ct,cS,b3,b4,()))
def ahE(c0:qH) :K5:=bJ (u16 (Wt c0.F)) (pL (kD c0 k0) e0 1 l0 fun d=>aud)
def ahG:K5:=ahE so
def Ww:Wy:=bj (u16 (Wt oc)) NN
def VM(F1:Dl)(t1:jp)(t9 t12 ay:Int)(aC:jp)(av:bv)(aD aE aI:jp)(au:ce)(aw:bv)(bc bE:Int)(ct cS b3:jp)(b4:bv)(b5:ce)(fK jY:Int)(jZ:Bool)(ir:ge)(iK:ii)(kG jE:Int)(jF:Bool)(b8:ge):am AQ Au:=
 br (iL t12 (Int.ofNat ir.length))
 (
  aj (an t12 ir.length)<|
  aj (an (gt bO ir t12).1 t1.length)<|
  aj (an t12 ir.length)<|
  aA (F1 ((gt bO ir t12).2.1,t1,())) fun x0=>
  aj (room 32 (List.length (ap b8 (((gt .I t1 (gt bO ir t12).1),x0.1,())::[]))))<|
  aul (t1,t9,(pu (t12+(1:Int))),ay,aC,av,aD,aE,aI,au,aw,bc,bE,ct,cS,b3,b4,b5,fK,jY,jZ,ir,iK,kG,jE,jF,(ap b8 (((gt .I t1 (gt bO ir t12).1),x0.1,())::[])),()))
 (
  aum (t1,t9,ay,aC,av,aD,aE,aI,au,aw,bc,bE,ct,cS,b3,b4,b5,fK,jY,jZ,ir,iK,kG,jE,jF,b8,()))
def ahl(c1:wy) :BN:=bJ (fun d=>fW (bV (VM c1.F) d) (cy d)) (pL (kD c1 k0) e0 1 l0 fun d=>aud)
def VR:BN:=ahl Dk
def KJ:KL:=bj (fun d=>fW (bV (VM ua) d) (cy d)) NN
def VN(F0:sr)(F1:Dl)(t1:jp)(t9 t13 ay:Int)(aC:jp)(av:bv)(aD aE aI:jp)(au:ce)(aw:bv)(bc bE:Int)(ct cS b3:jp)(b4:bv)(b5:ce)(fK jY:Int)(jZ:Bool)(ir:ge)(iK:ii)(kG jE:Int)(jF:Bool)(b8:ge)(b9:ii):am AR Aw:=
 br (iL t13 (Int.ofNat iK.length))
 (
  aj (an t13 iK.length)<|
  aA (F0 ((gt bu iK t13).1,t1,())) fun x0=>
  aA (F1 ((gt bu iK t13).2.1,t1,())) fun x1=>
  aA (F1 ((gt bu iK t13).2.2.1,t1,())) fun x2=>
  aj (room 56 (List.length (ap b9 ((x0.1,x1.1,x2.1,())::[]))))<|
  aul (t1,t9,(pu (t13+(1:Int))),ay,aC,av,aD,aE,aI,au,aw,bc,bE,ct,cS,b3,b4,b5,fK,jY,jZ,ir,iK,kG,jE,jF,b8,(ap b9 ((x0.1,x1.1,x2.1,())::[])),()))
 (
  aum (t1,t9,ay,aC,av,aD,aE,aI,au,aw,bc,bE,ct,cS,b3,b4,b5,kG,jE,jF,b8,b9,()))
def ahm(c0:qH)(c1:wy) :BO:=bJ (fun d=>u16 (bV (VN c0.F c1.F) d) (cy d)) (pL (kD c0 (kD c1 k0)) e0 1 l0 fun d=>aud)
def VS:BO:=ahm so Dk
def KK:KM:=bj (fun d=>u16 (bV (VN oc ua) d) (cy d)) NN
def KG(L17:KL)(L21:KM)(t1:jp)(t9 ay:Int)(aC:jp)(av:bv)(aD aE aI:jp)(au:ce)(aw:bv)(bc bE:Int)(ct cS b3:jp)(b4:bv)(b5:ce):am AP At:=
 br (iL t9 (Int.ofNat au.length))
 (
  aj (an t9 au.length)<|
  aA (L17 (t1,t9,(0:Int),ay,aC,av,aD,aE,aI,au,aw,bc,bE,ct,cS,b3,b4,b5,(gt ai au t9).1,(gt ai au t9).2.1,(gt ai au t9).2.2.1,(gt ai au t9).2.2.2.1,(gt ai au t9).2.2.2.2.1,(gt ai au t9).1,(gt ai au t9).2.1,(gt ai au t9).2.2.1,[],())) fun x0=>
  aA (L21 (x0.1,x0.2.1,(0:Int),x0.2.2.1,cu x0,cB x0,cG x0,c9 x0,dj x0,dN x0,ef x0,dE x0,fj x0,eW x0,(aV x0).2.1,(aV x0).2.2.1,cu (aV x0),cB (aV x0),cG (aV x0),c9 (aV x0),dj (aV x0),dN (aV x0),ef (aV x0),dE (aV x0),fj (aV x0),eW (aV x0),(aV (aV x0)).2.1,[],())) fun x1=>
  aj (room 72 (List.length (ap (cB (aV x1)) ((JS (aV x1))::[]))))<|
  aul (x1.1,(pu (pm x1.2.1 (1:Int))),x1.2.2.1,cu x1,cB x1,cG x1,c9 x1,dj x1,dN x1,ef x1,dE x1,fj x1,eW x1,(aV x1).2.1,(aV x1).2.2.1,cu (aV x1),(ap (cB (aV x1)) ((JS (aV x1))::[])),()))
 (
  aum (t1,ay,aC,av,aD,aE,aI,au,aw,bc,bE,ct,cS,b3,b4,b5,()))
def ahk(M17:BN)(M21:BO):KH:=bJ (gK (KG M17.L M21.L)) (pL k0 e0 1 (sC M17 (sC M21 l0)) fun d=>aud)
def aho:KH:=ahk  VR VS
def VP:VT:=bj (gK (KG KJ KK)) NN
def VO(F0:sr)(t1:jp)(t15 ay:Int)(aC:jp)(av:bv)(aD aE aI:jp)(au:ce)(aw:bv)(bc bE:Int)(ct cS b3:jp)(b4:bv)(b5:ce)(b6:bv):am AS Ax:=
 br (iL t15 (Int.ofNat aw.length))
 (
  aj (an t15 aw.length)<|
  aj (an (gt ae aw t15).1 t1.length)<|
  aA (F0 ((gt ae aw t15).2.1,t1,())) fun x0=>
  aA (F0 ((gt ae aw t15).2.2.1,t1,())) fun x1=>
  aj (room 24 (List.length (ap b6 (((gt .I t1 (gt ae aw t15).1),x0.1,x1.1,())::[]))))<|
  aul (t1,(pu (t15+(1:Int))),ay,aC,av,aD,aE,aI,au,aw,bc,bE,ct,cS,b3,b4,b5,(ap b6 (((gt .I t1 (gt ae aw t15).1),x0.1,x1.1,())::[])),()))
 (
  aum (bc,bE,ct,cS,b3,b4,b5,b6,()))
def ahn(c0:qH) :KI:=bJ (mC (VO c0.F)) (pL (kD c0 k0) e0 1 l0 fun d=>aud)
def ahp:KI:=ahn so
def VQ:VU:=bj (mC (VO oc)) NN
abbrev Wz:List Sh:=[cJ,(.sl .I)]
abbrev K7:List Sh:=[cJ]
abbrev W9:=TL Wz->Option (TL K7)
abbrev Lt:=Kd 121 Wz K7
def ahY(F0:sr)(F1:Dl)(L3:Wx)(L7:Wy)(L12:VT)(L17:KL)(L21:KM)(L27:VU)(a0:Sh.T cJ)(a1:jp):Option (TL K7):=
 aA (F1 (cB a0,a1,())) fun x0=>
 aA (F1 (cG a0,a1,())) fun x1=>
 aA (L3 (a1,(0:Int),a0.1,a0.2.1,a0.2.2.1,cu a0,cB a0,cG a0,c9 a0,dj a0,(0:Int),a0.1,x0.1,x1.1,[],())) fun x2=>
 aA (L7 (x2.1,(0:Int),x2.2.1,x2.2.2.1,cu x2,cB x2,cG x2,c9 x2,dj x2,dN x2,ef x2,dE x2,fj x2,eW x2,(aV x2).2.1,[],())) fun x3=>
 aA (L12 (x3.1,(0:Int),x3.2.1,x3.2.2.1,cu x3,cB x3,cG x3,c9 x3,dj x3,dN x3,ef x3,dE x3,fj x3,eW x3,(aV x3).2.1,(aV x3).2.2.1,[],())) fun x4=>
 aA (L27 (x4.1,(0:Int),x4.2.1,x4.2.2.1,cu x4,cB x4,cG x4,c9 x4,dj x4,dN x4,ef x4,dE x4,fj x4,eW x4,(aV x4).2.1,(aV x4).2.2.1,cu (aV x4),[],())) fun x5=>
 some ((x5.2.1,cB x5,cG x5,[],x5.2.2.1,cu x5,Uv x5),())
def ahZ(c0:qH)(c1:wy)(M3:Wu)(M7:K5)(M12:KH)(M17:BN)(M21:BO)(M27:KI):Lt:=⟨u2 (ahY c0.F c1.F M3.L M7.L M12.L M17.L M21.L M27.L),pD Tryz.func121 194 (kD c0 (kD c1 k0)) e0 1 (sS (sC M3 (sC M7 (sC M12 (sC M27 l0))))) fun d=>aud⟩
def W8:Lt:=ahZ so Dk ahF ahG aho VR VS ahp
def K6:W9:=W8.F
abbrev Bh:ak:=⟨[(3,.ptr 0 0),(4,.ptr 1 0),(5,.fz .I),(6,.hd 2 .I),(7,.I)],[(0,.cells dx 27),(1,.cells oN 27),(2,.arr .I 3)],3⟩
abbrev AO:List (Ev.Ex×ak):=[((.exit 0),⟨[(3,.ptr 0 0),(4,.ptr 1 0),(5,.fz .I),(6,.hd 2 .I)],[(0,.cells dx 27),(1,.cells oN 27),(2,.arr .I 3)],3⟩)]
abbrev Wp:=be Bh AO
abbrev Wo:=Ld 0 43 (bI [0] (bt Tryz.f61)) Bh AO
def Ci(t5:jp)(t7 ay:Int)(aC:jp)(av:bv)(aD aE aI:jp)(au:ce)(aw:bv)(bc:Int)(b2:jp):am Bh AO:=
 br (iL t7 (Int.ofNat t5.length))
 (
  aj (an t7 t5.length)<|
  aj (an (gt .I t5 t7) b2.length)<|
  aul (t5,(pu (t7+(1:Int))),ay,aC,av,aD,aE,aI,au,aw,bc,(List.set b2 (Int.toNat (gt .I t5 t7)) (pu (t7+(1:Int)))),()))
 (
  aum (t5,ay,aC,av,aD,aE,aI,au,aw,bc,b2,()))
def ahD  :Wo:=bJ (bV Ci) (pL k0 e0 1 l0 fun d=>aud)
def Cj:Wp:=bj (bV Ci) NN
abbrev Wq:List Sh:=[cJ,cJ]
abbrev K4:List Sh:=[cJ]
abbrev W7:=TL Wq->Option (TL K4)
abbrev Lr:=Kd 61 Wq K4
def Ls(F0:WO)(F1:W9)(F2:BV)(L4:Wp)(a0 a1:Sh.T cJ):Option (TL K4):=
 aA (F2 (a1,())) fun x0=>
 aj (both (iE (0:Int) (pu (pm a0.1 (1:Int)))) (both (iE (pu (pm a0.1 (1:Int))) (pu (pm a0.1 (1:Int)))) (iE ((Int.ofNat 8)*(pu (pm a0.1 (1:Int)))) (281474976710656:Int))))<|
 aA (L4 (x0.1,(0:Int),a1.1,a1.2.1,a1.2.2.1,cu a1,cB a1,cG a1,c9 a1,dj a1,(0:Int),(List.replicate (Int.toNat (pu (pm a0.1 (1:Int)))) (Sh.zero .I)),())) fun x1=>
 aA (F1 (((Int.ofNat (List.length x1.1)),x1.2.2.1,cu x1,cB x1,cG x1,c9 x1,dj x1,dN x1,()),dE x1,())) fun x2=>
 aA (F0 (x2.1,())) fun x3=>
 some (x3.1,())
def ahX(c0:Lg)(c1:Lt)(c2:wa)(M4:Wo):Lr:=⟨u2 (Ls c0.F c1.F c2.F M4.L),pD Tryz.func61 43 (kD c0 (kD c1 (kD c2 k0))) e0 1 (sS (sC M4 l0)) fun d=>aud⟩
def W6:Lr:=ahX WN W8 BU ahD
def ahC:W7:=W6.F
abbrev Cw:ak:=⟨[(1,.ptr 0 0),(2,.ptr 1 0),(3,.fz .bool),(5,.ptr 2 0),(6,.ptr 6 0),(10,.I)],agr,11⟩
abbrev Cd:List (Ev.Ex×ak):=[((.exit 6),⟨[(1,.ptr 0 0),(2,.ptr 1 0),(5,.ptr 2 0),(6,.ptr 6 0)],agr,11⟩)]
abbrev X9:=be Cw Cd
abbrev X0:=Ld 0 143 (bI [3] (bt Tryz.f20)) Cw Cd
abbrev Cv:ak:=⟨[(1,.ptr 0 0),(2,.ptr 1 0),(3,.fz .bool),(4,.fz .bool),(5,.ptr 2 0),(6,.ptr 6 0),(9,.I)],ags,10⟩
abbrev Cc:List (Ev.Ex×ak):=[((.exit 4),⟨[(1,.ptr 0 0),(2,.ptr 1 0),(3,.fz .bool),(5,.ptr 2 0),(6,.ptr 6 0)],ags,10⟩)]
abbrev X8:=be Cv Cc
abbrev XZ:=Ld 0 143 (bI [2] (bt Tryz.f20)) Cv Cc
abbrev Cu:ak:=⟨[(1,.ptr 0 0),(2,.ptr 1 0),(3,.fz .bool),(4,.fz .bool),(5,.ptr 2 0),(6,.ptr 5 0),(8,.I)],agt,8⟩
abbrev Cb:List (Ev.Ex×ak):=[((.exit 2),⟨[(1,.ptr 0 0),(2,.ptr 1 0),(3,.fz .bool),(4,.fz .bool),(5,.ptr 2 0),(6,.ptr 5 0)],agt,8⟩)]
abbrev X6:=be Cu Cb
abbrev XY:=Ld 0 143 (bI [1] (bt Tryz.f20)) Cu Cb
abbrev CZ:ak:=⟨[(1,.ptr 0 0),(2,.ptr 1 0),(3,.fz .bool),(4,.fz .bool),(5,.ptr 2 0),(6,.ptr 4 0),(7,.I)],agu,6⟩
abbrev Cy:List (Ev.Ex×ak):=[((.exit 0),⟨[(1,.ptr 0 0),(2,.ptr 1 0),(3,.fz .bool),(4,.fz .bool),(5,.ptr 2 0),(6,.ptr 4 0)],agu,6⟩)]
abbrev Yh:=be CZ Cy
abbrev Yf:=Ld 0 143 (bI [0] (bt Tryz.f20)) CZ Cy
def Dn(t3 t4:kw)(t7 ay:Int)(aC:jp)(av:bv)(aD aE aI:jp)(au:ce)(aw:bv)(bc bE:Int)(b3:jp)(mT:Int)(b5:jp):am CZ Cy:=
 br (iL t7 (Int.ofNat aC.length))
 (
  aj (an t7 aC.length)<|
  aj (an (gt .I aC t7) t3.length)<|
  br (gt .bool t3 (gt .I aC t7))
  (
   aj (room 8 (List.length (ap b3 (t7::[]))))<|
   aj (an t7 aC.length)<|
   aj (room 8 (List.length (ap b5 ((gt .I aC t7)::[]))))<|
   aul (t3,t4,(pu (t7+(1:Int))),ay,aC,av,aD,aE,aI,au,aw,bc,bE,(ap b3 (t7::[])),mT,(ap b5 ((gt .I aC t7)::[])),()))
  (
   aul (t3,t4,(pu (t7+(1:Int))),ay,aC,av,aD,aE,aI,au,aw,bc,bE,b3,mT,b5,())))
 (
  aum (t3,t4,ay,aC,av,aD,aE,aI,au,aw,bc,bE,b3,mT,b5,()))
def aiQ  :Yf:=bJ (u16 Dn) (pL k0 e0 1 l0 fun d=>aud)
def Yg:Yh:=bj (u16 Dn) NN
def Dh(t3 t4:kw)(t8 ay:Int)(aC:jp)(av:bv)(aD aE aI:jp)(au:ce)(aw:bv)(bc bE:Int)(b3 b4:jp)(ly:Int)(b6:jp)(b7:bv):am Cu Cb:=
 br (iL t8 (Int.ofNat av.length))
 (
  aj (an t8 av.length)<|
  aj (an (gt ae av t8).1 t3.length)<|
  br (gt .bool t3 (gt ae av t8).1)
  (
   aj (room 8 (List.length (ap b4 (t8::[]))))<|
   aj (an t8 av.length)<|
   aj (room 24 (List.length (ap b7 ((gt ae av t8)::[]))))<|
   aul (t3,t4,(pu (t8+(1:Int))),ay,aC,av,aD,aE,aI,au,aw,bc,bE,b3,(ap b4 (t8::[])),ly,b6,(ap b7 ((gt ae av t8)::[])),()))
  (
   aul (t3,t4,(pu (t8+(1:Int))),ay,aC,av,aD,aE,aI,au,aw,bc,bE,b3,b4,ly,b6,b7,())))
 (
  aum (t3,t4,ay,aC,av,aD,aE,aI,au,aw,bc,bE,b3,b4,ly,b6,b7,()))
def aiF  :XY:=bJ (mC Dh) (pL k0 e0 1 l0 fun d=>aud)
def X1:X6:=bj (mC Dh) NN
def Di(t3 t4:kw)(t9 ay:Int)(aC:jp)(av:bv)(aD aE aI:jp)(au:ce)(aw:bv)(bc bE:Int)(b3 b4 b5:jp)(fK:Int)(b7:jp)(b8:bv)(b9:ce):am Cv Cc:=
 br (iL t9 (Int.ofNat au.length))
 (
  aj (an t9 t4.length)<|
  br (gt .bool t4 t9)
  (
   aj (room 8 (List.length (ap b5 (t9::[]))))<|
   aj (an t9 au.length)<|
   aj (room 72 (List.length (ap b9 ((gt ai au t9)::[]))))<|
   aul (t3,t4,(pu (t9+(1:Int))),ay,aC,av,aD,aE,aI,au,aw,bc,bE,b3,b4,(ap b5 (t9::[])),fK,b7,b8,(ap b9 ((gt ai au t9)::[])),()))
  (
   aul (t3,t4,(pu (t9+(1:Int))),ay,aC,av,aD,aE,aI,au,aw,bc,bE,b3,b4,b5,fK,b7,b8,b9,())))
 (
  aum (t3,ay,aC,av,aD,aE,aI,au,aw,bc,bE,b3,b4,b5,fK,b7,b8,b9,()))
def aiG  :XZ:=bJ (kZ Di) (pL k0 e0 1 l0 fun d=>aud)
def X2:X8:=bj (kZ Di) NN
def Dj(t3:kw)(t10 ay:Int)(aC:jp)(av:bv)(aD aE aI:jp)(au:ce)(aw:bv)(bc bE:Int)(b3 b4 b5:jp)(fK:Int)(b7:jp)(b8:bv)(b9:ce)(b10:bv):am Cw Cd:=
 br (iL t10 (Int.ofNat aw.length))
 (
  aj (an t10 aw.length)<|
  aj (an (gt ae aw t10).1 t3.length)<|
  br (gt .bool t3 (gt ae aw t10).1)
  (
   aj (an t10 aw.length)<|
   aj (room 24 (List.length (ap b10 ((gt ae aw t10)::[]))))<|
   aul (t3,(pu (t10+(1:Int))),ay,aC,av,aD,aE,aI,au,aw,bc,bE,b3,b4,b5,fK,b7,b8,b9,(ap b10 ((gt ae aw t10)::[])),()))
  (
   aul (t3,(pu (t10+(1:Int))),ay,aC,av,aD,aE,aI,au,aw,bc,bE,b3,b4,b5,fK,b7,b8,b9,b10,())))
 (
  aum (ay,aC,av,aD,aE,aI,au,aw,bc,bE,b3,b4,b5,fK,b7,b8,b9,b10,()))
def aiH  :X0:=bJ (kZ Dj) (pL k0 e0 1 l0 fun d=>aud)
def X3:X9:=bj (kZ Dj) NN
abbrev Yi:List Sh:=[cJ]
abbrev MB:List Sh:=[Z0]
abbrev Yn:=TL Yi->Option (TL MB)
abbrev MG:=Kd 20 Yi MB
def aiV(F0:W7)(F1:Yb)(L5:Yh)(L11:X6)(L17:X8)(L23:X9)(a0:Sh.T cJ):Option (TL MB):=
 aA (F1 (a0,())) fun x0=>
 aA (L5 (x0.1,x0.2.1,(0:Int),a0.1,a0.2.1,a0.2.2.1,cu a0,cB a0,cG a0,c9 a0,dj a0,(0:Int),(0:Int),[],(0:Int),[],())) fun x1=>
 aA (L11 (x1.1,x1.2.1,(0:Int),x1.2.2.1,cu x1,cB x1,cG x1,c9 x1,dj x1,dN x1,ef x1,dE x1,fj x1,eW x1,[],(aV x1).2.1,(aV x1).2.2.1,[],())) fun x2=>
 aA (L17 (x2.1,x2.2.1,(0:Int),x2.2.2.1,cu x2,cB x2,cG x2,c9 x2,dj x2,dN x2,ef x2,dE x2,fj x2,eW x2,(aV x2).2.1,[],(aV x2).2.2.1,cu (aV x2),cB (aV x2),[],())) fun x3=>
 aA (L23 (x3.1,(0:Int),x3.2.1,x3.2.2.1,cu x3,cB x3,cG x3,c9 x3,dj x3,dN x3,ef x3,dE x3,fj x3,eW x3,(aV x3).2.1,(aV x3).2.2.1,cu (aV x3),cB (aV x3),cG (aV x3),[],())) fun x4=>
 aA (F0 ((x4.1,x4.2.1,x4.2.2.1,cu x4,cB x4,cG x4,c9 x4,dj x4,()),((aV x4).2.1,(aV x4).2.2.1,cu (aV x4),[],cB x4,cG x4,qq4 (aV x4)),())) fun x5=>
 some ((x5.1,dE x4,fj x4,eW x4,()),())
def aiW(c0:Lr)(c1:Mu)(M5:Yf)(M11:XY)(M17:XZ)(M23:X0):MG:=⟨u1 (aiV c0.F c1.F M5.L M11.L M17.L M23.L),pD Tryz.func20 143 (kD c0 (kD c1 k0)) e0 1 (sS (sC M5 (sC M11 (sC M17 (sC M23 l0))))) fun d=>aud⟩
def Ym:MG:=aiW W6 Ya aiQ aiF aiG aiH
def MA:Yn:=Ym.F
abbrev zT:ak:=⟨[(1,.ptr 0 0),(5,.I)],[(0,.cells dx 27)],1⟩
abbrev zH:List (Ev.Ex×ak):=[(.ret,⟨[(2,.bool)],[],0⟩),((.exit 2),⟨[],[],0⟩)]
abbrev UU:=be zT zH
abbrev US:=Ld 0 52 (bI [1] (bt Tryz.f23)) zT zH
abbrev Af:ak:=⟨[(1,.ptr 0 0),(3,.fz .I),(4,.I)],[(0,.cells dx 27)],1⟩
abbrev zU:List (Ev.Ex×ak):=[(.ret,⟨[(2,.bool)],[],0⟩),((.exit 0),⟨[(1,.ptr 0 0)],[(0,.cells dx 27)],1⟩)]
abbrev Vd:=be Af zU
abbrev Vb:=Ld 0 52 (bI [0] (bt Tryz.f23)) Af zU
def A9(t3:jp)(t4 ay:Int)(aC:jp)(av:bv)(aD aE aI:jp)(au:ce)(aw:bv):am Af zU:=
 br (iL t4 (Int.ofNat t3.length))
 (
  aj (an t4 t3.length)<|
  br (Bool.not (iQ (gt .I t3 t4) (pu (t4+(1:Int)))))
  (
   aum (.inl (false,())))
  (
   aul (t3,(pu (t4+(1:Int))),ay,aC,av,aD,aE,aI,au,aw,())))
 (
  aum (.inr (ay,aC,av,aD,aE,aI,au,aw,())))
def agZ  :Vb:=bJ (ei A9) (pL k0 e0 1 l0 fun d=>aud)
def Vc:Vd:=bj (ei A9) NN
def AD(t5 ay:Int)(aC:jp)(av:bv)(aD aE aI:jp)(au:ce)(aw:bv):am zT zH:=
 br (iL t5 (Int.ofNat aw.length))
 (
  aj (an t5 aw.length)<|
  br (iE (pu (@HMul.hMul (Int) (Int) (Int) _ (2:Int) (gt ae aw t5).1)) (gt ae aw t5).2.1)
  (
   aum (.inl (false,())))
  (
   br (bK false true (iL (gt ae aw t5).2.1 (gt ae aw t5).2.2.1))
   (
    aum (.inl (false,())))
   (
    aul ((pu (t5+(1:Int))),ay,aC,av,aD,aE,aI,au,aw,()))))
 (
  aum (.inr ()))
def agS  :US:=bJ (u9 AD) (pL k0 e0 1 l0 fun d=>aud)
def UT:UU:=bj (u9 AD) NN
abbrev Ve:List Sh:=[cJ]
abbrev Km:List Sh:=[.bool]
abbrev Vw:=TL Ve->Option (TL Km)
abbrev Kw:=Kd 23 Ve Km
def ag8(F0:BV)(L5:Vd)(L10:UU)(a0:Sh.T cJ):Option (TL Km):=
 aA (F0 (a0,())) fun x0=>
 br (Bool.not (iQ (Int.ofNat (List.length x0.1)) a0.1))
 (
  some (false,()))
 (
  aA (L5 (x0.1,(0:Int),a0)) fun x1=>
  (match x1 with
  |.inl x2=>some (x2.1,())|.inr x2=>
   aA (L10 ((0:Int),x2)) fun x3=>
   (match x3 with|.inl x4=>some (x4.1,())|.inr x4=>some (true,())
   )
  ))
def ag9(c0:wa)(M5:Vb)(M10:US):Kw:=⟨u1 (ag8 c0.F M5.L M10.L),pD Tryz.func23 52 (kD c0 k0) e0 1 (sS (sC M5 (sC M10 l0))) fun d=>aud⟩
def Vv:Kw:=ag9 BU agZ agS
def Kl:Vw:=Vv.F
abbrev BS:ak:=⟨[(0,.fz .I),(1,.fz .I),(5,.I)],[],0⟩
abbrev Bm:List (Ev.Ex×ak):=[(.ret,uP),((.exit 0),⟨[],[],0⟩)]
abbrev Xh:=be BS Bm
abbrev Xf:=Ld 0 26 (bI [0] (bt Tryz.f22)) BS Bm
def CR(t0 t1:jp)(t5:Int):am BS Bm:=
 br (iL t5 (Int.ofNat t0.length))
 (
  aj (an t5 t0.length)<|
  aj (an t5 t1.length)<|
  br (Bool.not (iQ (gt .I t0 t5) (gt .I t1 t5)))
  (
   aum (.inl (false,())))
  (
   aul (t0,t1,(pu (t5+(1:Int))),())))
 (
  aum (.inr ()))
def ah5  :Xf:=bJ (u3 CR) (pL k0 e0 1 l0 fun d=>aud)
def Xg:Xh:=bj (u3 CR) NN
abbrev Xi:List Sh:=[(.sl .I),(.sl .I)]
abbrev LF:List Sh:=[.bool]
abbrev sk:=TL Xi->Option (TL LF)
abbrev qD:=Kd 22 Xi LF
def aiv(L4:Xh)(a0 a1:jp):Option (TL LF):=
 br (Bool.not (iQ (Int.ofNat a0.length) (Int.ofNat a1.length)))
 (
  some (false,()))
 (
  aA (L4 (a0,a1,(0:Int),())) fun x0=>
  (match x0 with|.inl x1=>some (x1.1,())|.inr x1=>some (true,())
  ))
def aiw(M4:Xf):qD:=⟨u2 (aiv M4.L),pD Tryz.func22 26 k0 e0 1 (sS (sC M4 l0)) fun d=>aud⟩
def sj:qD:=aiw  ah5
def si:sk:=sj.F
abbrev B3:ak:=⟨[(2,.ptr 0 0),(3,.ptr 1 0),(6,.I)],[(0,.cells rO 97),(1,.cells rO 97)],2⟩
abbrev Bv:List (Ev.Ex×ak):=[(.ret,uP),((.exit 2),⟨[],[],0⟩)]
abbrev Xv:=be B3 Bv
abbrev LL:=Ld 0 120 (bI [1] (bt Tryz.f62)) B3 Bv
abbrev B2:ak:=⟨[(2,.ptr 0 0),(3,.ptr 1 0),(5,.I)],[(0,.cells rO 97),(1,.cells rO 97)],2⟩
abbrev Bu:List (Ev.Ex×ak):=[(.ret,uP),((.exit 0),⟨[(2,.ptr 0 0),(3,.ptr 1 0)],[(0,.cells rO 97),(1,.cells rO 97)],2⟩)]
abbrev Xu:=be B2 Bu
abbrev LK:=Ld 0 120 (bI [0] (bt Tryz.f62)) B2 Bu
def CU(F0:sk)(t5 ay aC:Int)(av:Bool)(aD:ge)(aE:ii)(bc cq:Int)(bN:Bool)(bW:ge)(bH:ii):am B2 Bu:=
 br (iL t5 (Int.ofNat aD.length))
 (
  aj (an t5 aD.length)<|
  aj (an t5 bW.length)<|
  br (Bool.not (iQ (gt bO aD t5).1 (gt bO bW t5).1))
  (
   aum (.inl (false,())))
  (
   aj (an t5 aD.length)<|
   aj (an t5 bW.length)<|
   aA (F0 ((gt bO aD t5).2.1,(gt bO bW t5).2.1,())) fun x0=>
   br (bK false true (Bool.not x0.1))
   (
    aum (.inl (false,())))
   (
    aul ((pu (t5+(1:Int))),ay,aC,av,aD,aE,bc,cq,bN,bW,bH,()))))
 (
  aum (.inr (ay,aC,av,aD,aE,bc,cq,bN,bW,bH,())))
def ah9(c0:qD) :LK:=bJ (ju (CU c0.F)) (pL (kD c0 k0) e0 1 l0 fun d=>aud)
def aib:LK:=ah9 sj
def Xs:Xu:=bj (ju (CU si)) NN
def CV(F0:sk)(t6 ay aC:Int)(av:Bool)(aD:ge)(aE:ii)(bc cq:Int)(bN:Bool)(bW:ge)(bH:ii):am B3 Bv:=
 br (iL t6 (Int.ofNat aE.length))
 (
  aj (an t6 aE.length)<|
  aj (an t6 bH.length)<|
  aj (iP (Sh.beq bu) bH bH)<|
  aj (iQ t6 t6)<|
  aj (an t6 bH.length)<|
  aj (Sh.beq bu (gt bu bH t6) (gt bu bH t6))<|
  aj (both (iQ (gt bu bH t6).1 (gt bu bH t6).1) (both (iP (Sh.beq .I) (gt bu bH t6).2.1 (gt bu bH t6).2.1) (both (iP (Sh.beq .I) (gt bu bH t6).2.2.1 (gt bu bH t6).2.2.1) true)))<|
  br (Bool.not (iQ (gt bu aE t6).1 (gt bu bH t6).1))
  (
   aum (.inl (false,())))
  (
   aA (F0 ((gt bu aE t6).2.1,(gt bu bH t6).2.1,())) fun x0=>
   br (bK false true (Bool.not x0.1))
   (
    aum (.inl (false,())))
   (
    aA (F0 ((gt bu aE t6).2.2.1,(gt bu bH t6).2.2.1,())) fun x1=>
    br (bK false true (Bool.not x1.1))
    (
     aum (.inl (false,())))
    (
     aul ((pu (t6+(1:Int))),ay,aC,av,aD,aE,bc,cq,bN,bW,bH,())))))
 (
  aum (.inr ()))
def aia(c0:qD) :LL:=bJ (ju (CV c0.F)) (pL (kD c0 k0) e0 1 l0 fun d=>aud)
def aic:LL:=aia sj
def Xt:Xv:=bj (ju (CV si)) NN
abbrev Xw:List Sh:=[ai,ai]
abbrev LM:List Sh:=[.bool]
abbrev Mn:=TL Xw->Option (TL LM)
abbrev Df:=Kd 62 Xw LM
def aiz(F0:sk)(L4:Xu)(L9:Xv)(a0 a1:Sh.T ai):Option (TL LM):=
 br (Bool.not (iQ a0.1 a1.1))
 (
  some (false,()))
 (
  br (bK false true (Bool.not (iQ a0.2.1 a1.2.1)))
  (
   some (false,()))
  (
   br (bK false true (Bool.not (@decide _ (Bool.decEq a0.2.2.1 a1.2.2.1))))
   (
    some (false,()))
   (
    br (bK false true (Bool.not (iQ (Int.ofNat (List.length (cu a0))) (Int.ofNat (List.length (cu a1))))))
    (
     some (false,()))
    (
     br (bK false true (Bool.not (iQ (Int.ofNat (List.length (cB a0))) (Int.ofNat (List.length (cB a1))))))
     (
      some (false,()))
     (
      aA (L4 ((0:Int),a0.1,a0.2.1,a0.2.2.1,cu a0,cB a0,a1)) fun x0=>
      (match x0 with
      |.inl x1=>some (x1.1,())|.inr x1=>
       aA (L9 ((0:Int),x1)) fun x2=>
       (match x2 with|.inl x3=>some (x3.1,())|.inr x3=>some (true,())
       )
      ))))))
def aiA(c0:qD)(M4:LK)(M9:LL):Df:=⟨u2 (aiz c0.F M4.L M9.L),pD Tryz.func62 120 (kD c0 k0) e0 1 (sS (sC M4 (sC M9 l0))) fun d=>aud⟩
def Mm:Df:=aiA sj aib aic
def Xr:Mn:=Mm.F
abbrev Bn:ak:=⟨[(2,.ptr 0 0),(3,.ptr 1 0),(7,.I)],[(0,.cells dx 27),(1,.cells dx 27)],2⟩
abbrev AZ:List (Ev.Ex×ak):=[(.ret,uP),((.exit 4),O7)]
abbrev WE:=be Bn AZ
abbrev K9:=Ld 0 122 (bI [2] (bt Tryz.f21)) Bn AZ
abbrev BX:ak:=⟨[(2,.ptr 0 0),(3,.ptr 1 0),(6,.I)],[(0,.cells dx 27),(1,.cells dx 27)],2⟩
abbrev Bp:List (Ev.Ex×ak):=[(.ret,uP),((.exit 2),O7)]
abbrev Xp:=be BX Bp
abbrev Xk:=Ld 0 122 (bI [1] (bt Tryz.f21)) BX Bp
abbrev BW:ak:=⟨[(2,.ptr 0 0),(3,.ptr 1 0),(5,.I)],[(0,.cells dx 27),(1,.cells dx 27)],2⟩
abbrev Bo:List (Ev.Ex×ak):=[(.ret,uP),((.exit 0),O7)]
abbrev Xo:=be BW Bo
abbrev Xj:=Ld 0 122 (bI [0] (bt Tryz.f21)) BW Bo
def CS(t5 ay:Int)(aC:jp)(av:bv)(aD aE aI:jp)(au:ce)(aw:bv)(bc:Int)(cq:jp)(bN:bv)(bW bH dc:jp)(cx:ce)(cP:bv):am BW Bo:=
 br (iL t5 (Int.ofNat av.length))
 (
  aj (an t5 av.length)<|
  aj (an t5 bN.length)<|
  br (Bool.not (both (iQ (gt ae av t5).1 (gt ae bN t5).1) (both (iQ (gt ae av t5).2.1 (gt ae bN t5).2.1) (both (iQ (gt ae av t5).2.2.1 (gt ae bN t5).2.2.1) true))))
  (
   aum (.inl (false,())))
  (
   aul ((pu (t5+(1:Int))),ay,aC,av,aD,aE,aI,au,aw,bc,cq,bN,bW,bH,dc,cx,cP,())))
 (
  aum (.inr (ay,aC,av,aD,aE,aI,au,aw,bc,cq,bN,bW,bH,dc,cx,cP,())))
def ah6  :Xj:=bJ (gK CS) (pL k0 e0 1 l0 fun d=>aud)
def Xl:Xo:=bj (gK CS) NN
def CT(t6 ay:Int)(aC:jp)(av:bv)(aD aE aI:jp)(au:ce)(aw:bv)(bc:Int)(cq:jp)(bN:bv)(bW bH dc:jp)(cx:ce)(cP:bv):am BX Bp:=
 br (iL t6 (Int.ofNat aw.length))
 (
  aj (an t6 aw.length)<|
  aj (an t6 cP.length)<|
  br (Bool.not (both (iQ (gt ae aw t6).1 (gt ae cP t6).1) (both (iQ (gt ae aw t6).2.1 (gt ae cP t6).2.1) (both (iQ (gt ae aw t6).2.2.1 (gt ae cP t6).2.2.1) true))))
  (
   aum (.inl (false,())))
  (
   aul ((pu (t6+(1:Int))),ay,aC,av,aD,aE,aI,au,aw,bc,cq,bN,bW,bH,dc,cx,cP,())))
 (
  aum (.inr (ay,aC,av,aD,aE,aI,au,aw,bc,cq,bN,bW,bH,dc,cx,cP,())))
def ah7  :Xk:=bJ (gK CT) (pL k0 e0 1 l0 fun d=>aud)
def Xm:Xp:=bj (gK CT) NN
def Co(F0:Mn)(t7 ay:Int)(aC:jp)(av:bv)(aD aE aI:jp)(au:ce)(aw:bv)(bc:Int)(cq:jp)(bN:bv)(bW bH dc:jp)(cx:ce)(cP:bv):am Bn AZ:=
 br (iL t7 (Int.ofNat au.length))
 (
  aj (an t7 au.length)<|
  aj (an t7 cx.length)<|
  aA (F0 ((gt ai au t7),(gt ai cx t7),())) fun x0=>
  br (Bool.not x0.1)
  (
   aum (.inl (false,())))
  (
   aul ((pu (t7+(1:Int))),ay,aC,av,aD,aE,aI,au,aw,bc,cq,bN,bW,bH,dc,cx,cP,())))
 (
  aum (.inr (ay,aC,av,aD,aE,aI,au,aw,bc,cq,bN,bW,bH,dc,cx,cP,())))
def ahH(c0:Df) :K9:=bJ (gK (Co c0.F)) (pL (kD c0 k0) e0 1 l0 fun d=>aud)
def ahI:K9:=ahH Mm
def WD:WE:=bj (gK (Co Xr)) NN
abbrev Xq:List Sh:=[cJ,cJ]
abbrev LH:List Sh:=[.bool]
abbrev XV:=TL Xq->Option (TL LH)
abbrev Ml:=Kd 21 Xq LH
def aix(F0:Mn)(F1:sk)(L4:Xo)(L9:Xp)(L14:WE)(a0 a1:Sh.T cJ):Option (TL LH):=
 br (Bool.not (iQ a0.1 a1.1))
 (
  some (false,()))
 (
  aA (F1 (a0.2.1,a1.2.1,())) fun x0=>
  br (bK false true (Bool.not x0.1))
  (
   some (false,()))
  (
   br (bK false true (Bool.not (iQ (Int.ofNat (List.length a0.2.2.1)) (Int.ofNat (List.length a1.2.2.1)))))
   (
    some (false,()))
   (
    br (bK false true (Bool.not (iQ (Int.ofNat (List.length (c9 a0))) (Int.ofNat (List.length (c9 a1))))))
    (
     some (false,()))
    (
     br (bK false true (Bool.not (iQ (Int.ofNat (List.length (dj a0))) (Int.ofNat (List.length (dj a1))))))
     (
      some (false,()))
     (
      aA (L4 ((0:Int),a0.1,a0.2.1,a0.2.2.1,cu a0,cB a0,cG a0,c9 a0,dj a0,a1)) fun x1=>
      (match x1 with
      |.inl x2=>some (x2.1,())|.inr x2=>
       aA (L9 ((0:Int),x2)) fun x3=>
       (match x3 with
       |.inl x4=>some (x4.1,())|.inr x4=>
        aA (L14 ((0:Int),x4)) fun x5=>
        (match x5 with
        |.inl x6=>some (x6.1,())|.inr x6=>
         aA (F1 (cu x6,fj x6,())) fun x7=>
         br x7.1
         (
          aA (F1 (cB x6,eW x6,())) fun x8=>
          br (bK true x8.1 false)
          (
           aA (F1 (cG x6,(aV x6).2.1,())) fun x9=>
           some ((bK true x9.1 false),()))
          (
           some (false,())))
         (
          some (false,()))
        )
       )
      ))))))
def aiy(c0:Df)(c1:qD)(M4:Xj)(M9:Xk)(M14:K9):Ml:=⟨u2 (aix c0.F c1.F M4.L M9.L M14.L),pD Tryz.func21 122 (kD c0 (kD c1 k0)) e0 1 (sS (sC M4 (sC M9 (sC M14 l0)))) fun d=>aud⟩
def XU:Ml:=aiy Mm sj ah6 ah7 ahI
def LG:XV:=XU.F
