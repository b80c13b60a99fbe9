import Derived.Test.YtjflbmpepamfjaaGreatKNe
set_option linter.all false
section
namespace Go.Proofs.YtjflbmpepamfjaaGreat.V
open Go Go.RowKit
set_option maxRecDepth 1000000
abbrev YA:List Sh:=[.I]
abbrev BA:List Sh:=[.bool]
abbrev YD:=TL YA->Option (TL BA)
abbrev JX:=Kd 104 YA BA
def JW(a0:Int):Option (TL BA):=some ((Bool.not (iQ a0 a0)),())
def auX  :JX:=⟨u1 JW,pD Tryz.func104 6 k0 e0 1 (sS l0) fun d=>aGm⟩
def YE:JX:=auX
def YB:YD:=YE.F
abbrev Yx:List Sh:=[.I,.I]
abbrev Bw:List Sh:=[.I]
abbrev Yy:=TL Yx->Option (TL Bw)
abbrev JS:=Kd 62 Yx Bw
def wG(F0:YD)(a0 a1:Int):Option (TL Bw):=
 aL (F0 (a0,())) fun x0=>
 aL (F0 (a1,())) fun x1=>
 br x0.1
 (
  br x1.1
  (
   some ((0:Int),()))
  (
   some ((Int.negSucc 0),())))
 (
  br x1.1
  (
   some ((1:Int),()))
  (
   br (iL a0 a1)
   (
    some ((Int.negSucc 0),()))
   (
    br (iL a1 a0)
    (
     some ((1:Int),()))
    (
     some ((0:Int),())))))
def auV(c0:JX) :JS:=⟨u2 (wG c0.F),pD Tryz.func62 20 (kD c0 k0) e0 1 (sS l0) fun d=>aGm⟩
def Yz:JS:=auV YE
def JR:Yy:=Yz.F
abbrev iq:List (Nat×LO):=[(0,.arr ae 90),(1,.cells [.ptr 2 0] 116),(2,.cells [.I,.fz .I,.fz ag,.fz .I,.fz .I,.fz .I,.fz aj,.fz ag,.hd 3 .I,.hd 0 ae,.hd 4 (.int .u8),.hd 5 .I] 122),(3,.arr .I 3),(4,.arr (.int .u8) 5),(5,.arr .I 3)]
abbrev adz:List (Nat×LO):=[(0,.cells [.ptr 1 0] 116),(1,.cells [.I,.fz .I,.fz ag,.fz .I,.fz .I,.fz .I,.fz aj,.fz ag,.hd 2 .I,.hd 3 ae,.hd 4 (.int .u8),.hd 5 .I] 122),(2,.arr .I 3),(3,.arr ae 90),(4,.arr (.int .u8) 5),(5,.arr .I 3)]
abbrev mY:Lay:=⟨[],iq,6⟩
abbrev LC:Lay:=⟨[(0,.hd 0 ae),(1,.I),(2,.I),(3,.I),(4,.func 61 [] [.ptr 1 0])],iq,6⟩
abbrev adA:Lay:=⟨[(0,.hd 0 ae),(1,.I),(2,.func 61 [] [.ptr 1 0]),(6,.I),(7,.I),(8,.I)],iq,6⟩
abbrev adB:Lay:=⟨[(0,.hd 0 ae),(1,.I),(2,.I),(3,.func 61 [] [.ptr 1 0]),(8,.I)],iq,6⟩
abbrev adC:Lay:=⟨[(0,.hd 0 ae),(1,.I),(2,.func 61 [] [.ptr 1 0]),(6,.I),(7,.I)],iq,6⟩
abbrev YC:Lay:=⟨[(0,.agg [.bool,.I,.I]),(1,.agg [.bool,.I,.I]),(2,.ptr 0 0)],adz,6⟩
abbrev JV:List (Ev.Ex×Lay):=[(.ret,⟨[(0,.I)],adz,6⟩)]
abbrev l8:=be YC JV
abbrev lg:=Kb 61 3 YC 1 JV
def au0(F0:Yy)(F1:wE)(gU:Bool)(sj sk:Int)(sr:Bool)(kJ lu ij:Int)(ik:io)(im:bi)(gO iI od:io)(oe:bv)(og:bi)(b2:io)(b3:ce)(b4 b5:io):Option (Out JV):=
 aL (F1 (gU,sj,sk,ij,ik,im,gO,iI,od,oe,og,b2,b3,b4,b5,())) fun x0=>
 aq (ar (0:Int) (List.length x0.1))<|
 aq (ar (gt .I x0.1 (0:Int)) (List.length (pA x0)))<|
 aq (both (bQ sr sr) (both (iQ kJ kJ) (both (iQ lu lu) true)))<|
 aL (F1 (sr,kJ,lu,x0.2)) fun x1=>
 aq (ar (0:Int) (List.length x1.1))<|
 aq (ar (gt .I x1.1 (0:Int)) (List.length (pA x1)))<|
 aq (ar (0:Int) (List.length x0.1))<|
 aq (Sh.beq .I (gt .I x0.1 (0:Int)) (gt .I x0.1 (0:Int)))<|
 aq (iQ (gt .I x0.1 (0:Int)) (gt .I x0.1 (0:Int)))<|
 aq (ar (gt .I x0.1 (0:Int)) (List.length (pA x1)))<|
 aq (nQ (Int.toNat (gt .I x0.1 (0:Int))) (Int.toNat (gt .I x0.1 (0:Int))))<|
 aq (iQ (gt .I (pA x0) (gt .I x0.1 (0:Int))) (gt .I (pA x1) (gt .I x0.1 (0:Int))))<|
 aL (F0 ((gt .I (pA x0) (gt .I x0.1 (0:Int))),(gt .I (pA x1) (gt .I x1.1 (0:Int))),())) fun x2=>
 some (x2.1,x1.2)
def auZ(c0:JS)(c1:uc) :lg:=⟨EF (au0 c0.F c1.F),pB Tryz.func61 29 (kD c0 (kB c1 k0)) e0 1 (sS l0) fun d=>aGm⟩
def l9:lg:=auZ Yz wF
def jU:l8:=l9.F
abbrev Xi:Lay:=LC
abbrev IJ:List (Ev.Ex×Lay):=[(.ret,mY)]
abbrev Jb:=be Xi IJ
abbrev Bg:=Kb 226 5 Xi 0 IJ
abbrev AW:Lay:=⟨[(0,.hd 0 ae),(1,.I),(2,.I),(3,.I),(10,.I)],iq,6⟩
abbrev AN:List (Ev.Ex×Lay):=[((.exit 0),mY)]
abbrev Xv:=be AW AN
abbrev Xy:=Ld 6 38 (cw [0] (bL Tryz.f226)) AW AN
def Bb(t1 t2 t3 t10:Int)(b0:ce)(bT:Int)(bZ:io)(cf:bi)(bS bJ cx:io)(cz:bv)(cA:bi)(b3 b4 b5:io):am AW AN:=
 br (iL t10 t3)
 (
  aq (ar (ol (t2+t10)) b0.length)<|
  aq (ar (ol (t1+t10)) b0.length)<|
  aq (ar (ol (t1+t10)) b0.length)<|
  aq (ar (ol (t2+t10)) (List.length (List.set b0 (Int.toNat (ol (t1+t10))) (gt ae b0 (ol (t2+t10))))))<|
  aq (iQ t2 t2)<|
  aq (iQ t10 t10)<|
  aq (iQ (ol (t2+t10)) (ol (t2+t10)))<|
  aGt (t1,t2,t3,(ol (t10+(1:Int))),(List.set (List.set b0 (Int.toNat (ol (t1+t10))) (gt ae b0 (ol (t2+t10)))) (Int.toNat (ol (t2+t10))) (gt ae b0 (ol (t1+t10)))),bT,bZ,cf,bS,bJ,cx,cz,cA,b3,b4,b5,()))
 (
  aGu (b0,bT,bZ,cf,bS,bJ,cx,cz,cA,b3,b4,b5,()))
def atZ  :Xy:=cH (u16 Bb) (pL k0 e0 1 l0 fun d=>aGm)
def Xw:Xv:=bu (u16 Bb) NN
def at5(F0:l8)(L1:Xv)(t1 t2 t3:Int)(b0:ce)(bT:Int)(bZ:io)(cf:bi)(bS bJ cx:io)(cz:bv)(cA:bi)(b3 b4 b5:io):Option (Out IJ):=
 aL (L1 (t1,t2,t3,(0:Int),b0,bT,bZ,cf,bS,bJ,cx,cz,cA,b3,b4,b5,())) fun x0=>
 some x0
def at4(c0:lg)(M1:Xy):Bg:=⟨iO (at5 c0.F M1.L),pB Tryz.func226 38 (kB c0 k0) e0 1 (sS (sC M1 l0)) fun d=>aGm⟩
def Jc:Bg:=at4 l9 atZ
def Xx:Jb:=Jc.F
abbrev XI:Lay:=LC
abbrev wt:List (Ev.Ex×Lay):=[(.ret,mY)]
abbrev Bv:=be XI wt
abbrev Js:=Kb 186 5 XI 0 wt
abbrev wu:Lay:=⟨[(0,.hd 0 ae),(2,.I),(4,.func 61 [] [.ptr 1 0]),(10,.I),(11,.I)],iq,6⟩
abbrev wq:List (Ev.Ex×Lay):=[((.exit 0),⟨[(0,.hd 0 ae),(2,.I),(4,.func 61 [] [.ptr 1 0]),(10,.I)],iq,6⟩)]
abbrev XO:=be wu wq
abbrev Jp:=Ld 6 58 (cw [0] (bL Tryz.f186)) wu wq
def Jq(F1:Jb)(t2 t10 t11:Int)(b0:ce)(bT:Int)(bZ:io)(cf:bi)(bS bJ cx:io)(cz:bv)(cA:bi)(b3 b4 b5:io):am wu wq:=
 br (Bool.not (iQ t10 t11))
 (
  br (iL t11 t10)
  (
   aL (F1 ((ol (t2-t10)),t2,t11,b0,bT,bZ,cf,bS,bJ,cx,cz,cA,b3,b4,b5,())) fun x0=>
   aGt (t2,(ol (t10-t11)),t11,x0))
  (
   aL (F1 ((ol (t2-t10)),(ol ((ol (t2+t11))-t10)),t10,b0,bT,bZ,cf,bS,bJ,cx,cz,cA,b3,b4,b5,())) fun x0=>
   aGt (t2,t10,(ol (t11-t10)),x0)))
 (
  aGu (t2,t10,b0,bT,bZ,cf,bS,bJ,cx,cz,cA,b3,b4,b5,()))
def aug(c1:Bg) :Jp:=cH (iO (Jq c1.F)) (pL (kB c1 k0) e0 1 l0 fun d=>aGm)
def auf:Jp:=aug Jc
def Jo:XO:=bu (iO (Jq Xx)) NN
def aun(F0:l8)(F1:Jb)(L2:XO)(t1 t2 t3:Int)(b0:ce)(bT:Int)(bZ:io)(cf:bi)(bS bJ cx:io)(cz:bv)(cA:bi)(b3 b4 b5:io):Option (Out wt):=
 aL (L2 (t2,(ol (t2-t1)),(ol (t3-t2)),b0,bT,bZ,cf,bS,bJ,cx,cz,cA,b3,b4,b5,())) fun x0=>
 aL (F1 ((ol (@HSub.hSub (Int) (Int) (Int) _ x0.1 x0.2.1)),x0)) fun x1=>
 some x1
def aum(c0:lg)(c1:Bg)(M2:Jp):Js:=⟨iO (aun c0.F c1.F M2.L),pB Tryz.func186 58 (kB c0 (kB c1 k0)) e0 1 (sS (sC M2 l0)) fun d=>aGm⟩
def XU:Js:=aum l9 Jc auf
def Bn:Bv:=XU.F
abbrev WS:Lay:=⟨[(0,.hd 0 ae),(1,.I),(2,.I),(3,.func 61 [] [.ptr 1 0])],iq,6⟩
abbrev IA:List (Ev.Ex×Lay):=[(.ret,mY)]
abbrev IH:=be WS IA
abbrev AO:=Kb 141 4 WS 0 IA
abbrev AG:Lay:=adB
abbrev AF:List (Ev.Ex×Lay):=[((.exit 0),mY)]
abbrev WW:=be AG AF
abbrev IE:=Ld 6 53 (cw [0] (bL Tryz.f141)) AG AF
abbrev wo:Lay:=⟨[(0,.hd 0 ae),(1,.I),(2,.I),(3,.func 61 [] [.ptr 1 0]),(8,.I),(9,.I)],iq,6⟩
abbrev wj:List (Ev.Ex×Lay):=[((.exit 2),adB)]
abbrev IC:=be wo wj
abbrev AJ:=Ld 6 53 (cw [0,0] (bL Tryz.f141)) wo wj
def IF(F0:l8)(t1 t2 t8 t9:Int)(b0:ce)(bT:Int)(bZ:io)(cf:bi)(bS bJ cx:io)(cz:bv)(cA:bi)(b3 b4 b5:io):am wo wj:=
 br (iL t1 t9)
 (
  aq (ar t9 b0.length)<|
  aq (ar (ol (t9-(1:Int))) b0.length)<|
  aL (F0 ((gt ae b0 t9).1,(gt ae b0 t9).2.1,(gt ae b0 t9).2.2.1,(gt ae b0 (ol (t9-(1:Int)))).1,(gt ae b0 (ol (t9-(1:Int)))).2.1,(gt ae b0 (ol (t9-(1:Int)))).2.2.1,bT,bZ,cf,bS,bJ,cx,cz,cA,b3,b0,b4,b5,())) fun x0=>
  br (bH true (iL x0.1 (0:Int)) false)
  (
   aq (ar (ol (t9-(1:Int))) (List.length (gi x0)))<|
   aq (ar t9 (List.length (gi x0)))<|
   aq (ar t9 (List.length (gi x0)))<|
   aq (ar (ol (t9-(1:Int))) (List.length (List.set (gi x0) (Int.toNat t9) (gt ae (gi x0) (ol (t9-(1:Int)))))))<|
   aq (iQ t9 t9)<|
   aq (iQ (ol (t9-(1:Int))) (ol (t9-(1:Int))))<|
   aGt (t1,t2,t8,(ol (t9-(1:Int))),(List.set (List.set (gi x0) (Int.toNat t9) (gt ae (gi x0) (ol (t9-(1:Int))))) (Int.toNat (ol (t9-(1:Int)))) (gt ae (gi x0) t9)),x0.2.1,x0.2.2.1,fW x0,gp x0,iA x0,jE x0,jF x0,kz x0,nM x0,pz x0))
  (
   aGu (t1,t2,t8,gi x0,x0.2.1,x0.2.2.1,fW x0,gp x0,iA x0,jE x0,jF x0,kz x0,nM x0,pz x0)))
 (
  aGu (t1,t2,t8,b0,bT,bZ,cf,bS,bJ,cx,cz,cA,b3,b4,b5,()))
def atB(c0:lg) :AJ:=cH (u16 (IF c0.F)) (pL (kB c0 k0) e0 1 l0 fun d=>aGm)
def WX:AJ:=atB l9
def ID:IC:=bu (u16 (IF jU)) NN
def AK(L4:IC)(t1 t2 t8:Int)(b0:ce)(bT:Int)(bZ:io)(cf:bi)(bS bJ cx:io)(cz:bv)(cA:bi)(b3 b4 b5:io):am AG AF:=
 br (iL t8 t2)
 (
  aL (L4 (t1,t2,t8,t8,b0,bT,bZ,cf,bS,bJ,cx,cz,cA,b3,b4,b5,())) fun x0=>
  aGt (x0.1,x0.2.1,(ol (md x0.2.2.1 (1:Int))),EC x0))
 (
  aGu (b0,bT,bZ,cf,bS,bJ,cx,cz,cA,b3,b4,b5,()))
def atC(M4:AJ):IE:=cH (iO (AK M4.L)) (pL k0 e0 1 (sC M4 l0) fun d=>aGm)
def atA:IE:=atC  WX
def AH:WW:=bu (iO (AK ID)) NN
def atH(F0:l8)(L1:WW)(L4:IC)(t1 t2:Int)(b0:ce)(bT:Int)(bZ:io)(cf:bi)(bS bJ cx:io)(cz:bv)(cA:bi)(b3 b4 b5:io):Option (Out IA):=
 aL (L1 (t1,t2,(ol (t1+(1:Int))),b0,bT,bZ,cf,bS,bJ,cx,cz,cA,b3,b4,b5,())) fun x0=>
 some x0
def atG(c0:lg)(M1:IE)(M4:AJ):AO:=⟨mK (atH c0.F M1.L M4.L),pB Tryz.func141 53 (kB c0 k0) e0 1 (sS (sC M1 l0)) fun d=>aGm⟩
def II:AO:=atG l9 atA WX
def WY:IH:=II.F
abbrev Xq:Lay:=LC
abbrev AX:List (Ev.Ex×Lay):=[(.ret,mY)]
abbrev gG:=be Xq AX
abbrev lZ:=Kb 142 5 Xq 0 AX
abbrev AR:Lay:=⟨[(0,.hd 0 ae),(1,.I),(2,.I),(3,.I),(4,.func 61 [] [.ptr 1 0]),(18,.I),(19,.I),(20,.I),(21,.I),(22,.I)],iq,6⟩
abbrev wz:List (Ev.Ex×Lay):=[((.exit 8),⟨[(0,.hd 0 ae),(1,.I),(2,.I),(3,.I),(4,.func 61 [] [.ptr 1 0]),(18,.I),(19,.I),(20,.I)],iq,6⟩)]
abbrev Xr:=be AR wz
abbrev IM:=Ld 6 220 (cw [4] (bL Tryz.f142)) AR wz
abbrev AS:Lay:=⟨[(0,.hd 0 ae),(14,.I),(17,.I)],iq,6⟩
abbrev AL:List (Ev.Ex×Lay):=[((.exit 6),mY)]
abbrev Xs:=be AS AL
abbrev IP:=Ld 6 220 (cw [3] (bL Tryz.f142)) AS AL
abbrev AU:Lay:=⟨[(0,.hd 0 ae),(2,.I),(4,.func 61 [] [.ptr 1 0]),(14,.I),(15,.I)],iq,6⟩
abbrev AM:List (Ev.Ex×Lay):=[((.exit 4),⟨[(0,.hd 0 ae),(2,.I),(14,.I)],iq,6⟩)]
abbrev Xt:=be AU AM
abbrev IQ:=Ld 6 220 (cw [2] (bL Tryz.f142)) AU AM
abbrev AY:Lay:=⟨[(0,.hd 0 ae),(10,.I),(13,.I)],iq,6⟩
abbrev AP:List (Ev.Ex×Lay):=[((.exit 2),mY)]
abbrev XD:=be AY AP
abbrev IZ:=Ld 6 220 (cw [1] (bL Tryz.f142)) AY AP
abbrev AZ:Lay:=⟨[(0,.hd 0 ae),(1,.I),(4,.func 61 [] [.ptr 1 0]),(10,.I),(11,.I)],iq,6⟩
abbrev AQ:List (Ev.Ex×Lay):=[((.exit 0),⟨[(0,.hd 0 ae),(1,.I),(10,.I)],iq,6⟩)]
abbrev XE:=be AZ AQ
abbrev Ja:=Ld 6 220 (cw [0] (bL Tryz.f142)) AZ AQ
def tZ(F0:l8)(t1 t10 t11:Int)(b0:ce)(bT:Int)(bZ:io)(cf:bi)(bS bJ cx:io)(cz:bv)(cA:bi)(b3 b4 b5:io):am AZ AQ:=
 br (iL t10 t11)
 (
  aq (ar (ol (Int.fdiv (IntKind.wrap .u64 (ol (t10+t11))) (HPow.hPow (2:Int) (Min.min (Int.toNat (1:Int)) 64)))) b0.length)<|
  aq (ar t1 b0.length)<|
  aL (F0 ((gt ae b0 (ol (Int.fdiv (IntKind.wrap .u64 (ol (t10+t11))) (HPow.hPow (2:Int) (Min.min (Int.toNat (1:Int)) 64))))).1,(gt ae b0 (ol (Int.fdiv (IntKind.wrap .u64 (ol (t10+t11))) (HPow.hPow (2:Int) (Min.min (Int.toNat (1:Int)) 64))))).2.1,(gt ae b0 (ol (Int.fdiv (IntKind.wrap .u64 (ol (t10+t11))) (HPow.hPow (2:Int) (Min.min (Int.toNat (1:Int)) 64))))).2.2.1,(gt ae b0 t1).1,(gt ae b0 t1).2.1,(gt ae b0 t1).2.2.1,bT,bZ,cf,bS,bJ,cx,cz,cA,b3,b0,b4,b5,())) fun x0=>
  br (iL x0.1 (0:Int))
  (
   aGt (t1,(ol ((ol (Int.fdiv (IntKind.wrap .u64 (ol (t10+t11))) (HPow.hPow (2:Int) (Min.min (Int.toNat (1:Int)) 64))))+(1:Int))),t11,gi x0,x0.2.1,x0.2.2.1,fW x0,gp x0,iA x0,jE x0,jF x0,kz x0,nM x0,pz x0))
  (
   aGt (t1,t10,(ol (Int.fdiv (IntKind.wrap .u64 (ol (t10+t11))) (HPow.hPow (2:Int) (Min.min (Int.toNat (1:Int)) 64)))),gi x0,x0.2.1,x0.2.2.1,fW x0,gp x0,iA x0,jE x0,jF x0,kz x0,nM x0,pz x0)))
 (
  aGu (t1,t10,b0,bT,bZ,cf,bS,bJ,cx,cz,cA,b3,b4,b5,()))
def at3(c0:lg) :Ja:=cH (iO (tZ c0.F)) (pL (kB c0 k0) e0 1 l0 fun d=>aGm)
def at1(s:lZ):Ja:=at3 l9
def XF(F:gG):XE:=bu (fun d=>tZ jU  d.1 d.2.1 d.2.2.1 d.2.2.2.1 d.2.2.2.2.1 d.2.2.2.2.2.1 d.2.2.2.2.2.2.1 d.2.2.2.2.2.2.2.1 d.2.2.2.2.2.2.2.2.1 d.2.2.2.2.2.2.2.2.2.1 d.2.2.2.2.2.2.2.2.2.2.1 d.2.2.2.2.2.2.2.2.2.2.2.1 d.2.2.2.2.2.2.2.2.2.2.2.2.1 d.2.2.2.2.2.2.2.2.2.2.2.2.2.1 d.2.2.2.2.2.2.2.2.2.2.2.2.2.2.1) NN
def Bf(t10 t13:Int)(b0:ce)(bT:Int)(bZ:io)(cf:bi)(bS bJ cx:io)(cz:bv)(cA:bi)(b3 b4 b5:io):am AY AP:=
 br (iL t13 (ol (t10-(1:Int))))
 (
  aq (ar (ol (t13+(1:Int))) b0.length)<|
  aq (ar t13 b0.length)<|
  aq (ar t13 b0.length)<|
  aq (ar (ol (t13+(1:Int))) (List.length (List.set b0 (Int.toNat t13) (gt ae b0 (ol (t13+(1:Int)))))))<|
  aq (iQ t13 t13)<|
  aq (iQ (ol (t13+(1:Int))) (ol (t13+(1:Int))))<|
  aGt (t10,(ol (t13+(1:Int))),(List.set (List.set b0 (Int.toNat t13) (gt ae b0 (ol (t13+(1:Int))))) (Int.toNat (ol (t13+(1:Int)))) (gt ae b0 t13)),bT,bZ,cf,bS,bJ,cx,cz,cA,b3,b4,b5,()))
 (
  aGu (b0,bT,bZ,cf,bS,bJ,cx,cz,cA,b3,b4,b5,()))
def at2  :IZ:=cH (mK Bf) (pL k0 e0 1 l0 fun d=>aGm)
def at0(s:lZ):IZ:=at2
def IX(F:gG):XD:=bu (fun d=>Bf   d.1 d.2.1 d.2.2.1 d.2.2.2.1 d.2.2.2.2.1 d.2.2.2.2.2.1 d.2.2.2.2.2.2.1 d.2.2.2.2.2.2.2.1 d.2.2.2.2.2.2.2.2.1 d.2.2.2.2.2.2.2.2.2.1 d.2.2.2.2.2.2.2.2.2.2.1 d.2.2.2.2.2.2.2.2.2.2.2.1 d.2.2.2.2.2.2.2.2.2.2.2.2.1 d.2.2.2.2.2.2.2.2.2.2.2.2.2.1) NN
def tY(F0:l8)(t2 t14 t15:Int)(b0:ce)(bT:Int)(bZ:io)(cf:bi)(bS bJ cx:io)(cz:bv)(cA:bi)(b3 b4 b5:io):am AU AM:=
 br (iL t14 t15)
 (
  aq (ar t2 b0.length)<|
  aq (ar (ol (Int.fdiv (IntKind.wrap .u64 (ol (t14+t15))) (HPow.hPow (2:Int) (Min.min (Int.toNat (1:Int)) 64)))) b0.length)<|
  aL (F0 ((gt ae b0 t2).1,(gt ae b0 t2).2.1,(gt ae b0 t2).2.2.1,(gt ae b0 (ol (Int.fdiv (IntKind.wrap .u64 (ol (t14+t15))) (HPow.hPow (2:Int) (Min.min (Int.toNat (1:Int)) 64))))).1,(gt ae b0 (ol (Int.fdiv (IntKind.wrap .u64 (ol (t14+t15))) (HPow.hPow (2:Int) (Min.min (Int.toNat (1:Int)) 64))))).2.1,(gt ae b0 (ol (Int.fdiv (IntKind.wrap .u64 (ol (t14+t15))) (HPow.hPow (2:Int) (Min.min (Int.toNat (1:Int)) 64))))).2.2.1,bT,bZ,cf,bS,bJ,cx,cz,cA,b3,b0,b4,b5,())) fun x0=>
  br (Bool.not (iL x0.1 (0:Int)))
  (
   aGt (t2,(ol ((ol (Int.fdiv (IntKind.wrap .u64 (ol (t14+t15))) (HPow.hPow (2:Int) (Min.min (Int.toNat (1:Int)) 64))))+(1:Int))),t15,gi x0,x0.2.1,x0.2.2.1,fW x0,gp x0,iA x0,jE x0,jF x0,kz x0,nM x0,pz x0))
  (
   aGt (t2,t14,(ol (Int.fdiv (IntKind.wrap .u64 (ol (t14+t15))) (HPow.hPow (2:Int) (Min.min (Int.toNat (1:Int)) 64)))),gi x0,x0.2.1,x0.2.2.1,fW x0,gp x0,iA x0,jE x0,jF x0,kz x0,nM x0,pz x0)))
 (
  aGu (t2,t14,b0,bT,bZ,cf,bS,bJ,cx,cz,cA,b3,b4,b5,()))
def atY(c0:lg) :IQ:=cH (iO (tY c0.F)) (pL (kB c0 k0) e0 1 l0 fun d=>aGm)
def atV(s:lZ):IQ:=atY l9
def Xu(F:gG):Xt:=bu (fun d=>tY jU  d.1 d.2.1 d.2.2.1 d.2.2.2.1 d.2.2.2.2.1 d.2.2.2.2.2.1 d.2.2.2.2.2.2.1 d.2.2.2.2.2.2.2.1 d.2.2.2.2.2.2.2.2.1 d.2.2.2.2.2.2.2.2.2.1 d.2.2.2.2.2.2.2.2.2.2.1 d.2.2.2.2.2.2.2.2.2.2.2.1 d.2.2.2.2.2.2.2.2.2.2.2.2.1 d.2.2.2.2.2.2.2.2.2.2.2.2.2.1 d.2.2.2.2.2.2.2.2.2.2.2.2.2.2.1) NN
def Ba(t14 t17:Int)(b0:ce)(bT:Int)(bZ:io)(cf:bi)(bS bJ cx:io)(cz:bv)(cA:bi)(b3 b4 b5:io):am AS AL:=
 br (iL t14 t17)
 (
  aq (ar (ol (t17-(1:Int))) b0.length)<|
  aq (ar t17 b0.length)<|
  aq (ar t17 b0.length)<|
  aq (ar (ol (t17-(1:Int))) (List.length (List.set b0 (Int.toNat t17) (gt ae b0 (ol (t17-(1:Int)))))))<|
  aq (iQ t17 t17)<|
  aq (iQ (ol (t17-(1:Int))) (ol (t17-(1:Int))))<|
  aGt (t14,(ol (t17-(1:Int))),(List.set (List.set b0 (Int.toNat t17) (gt ae b0 (ol (t17-(1:Int))))) (Int.toNat (ol (t17-(1:Int)))) (gt ae b0 t17)),bT,bZ,cf,bS,bJ,cx,cz,cA,b3,b4,b5,()))
 (
  aGu (b0,bT,bZ,cf,bS,bJ,cx,cz,cA,b3,b4,b5,()))
def atX  :IP:=cH (mK Ba) (pL k0 e0 1 l0 fun d=>aGm)
def atU(s:lZ):IP:=atX
def IL(F:gG):Xs:=bu (fun d=>Ba   d.1 d.2.1 d.2.2.1 d.2.2.2.1 d.2.2.2.2.1 d.2.2.2.2.2.1 d.2.2.2.2.2.2.1 d.2.2.2.2.2.2.2.1 d.2.2.2.2.2.2.2.2.1 d.2.2.2.2.2.2.2.2.2.1 d.2.2.2.2.2.2.2.2.2.2.1 d.2.2.2.2.2.2.2.2.2.2.2.1 d.2.2.2.2.2.2.2.2.2.2.2.2.1 d.2.2.2.2.2.2.2.2.2.2.2.2.2.1) NN
def tX(F0:l8)(t1 t2 t3 t18 t19 t20 t21 t22:Int)(b0:ce)(bT:Int)(bZ:io)(cf:bi)(bS bJ cx:io)(cz:bv)(cA:bi)(b3 b4 b5:io):am AR wz:=
 br (iL t20 t21)
 (
  aq (ar (ol (t22-(ol (Int.fdiv (IntKind.wrap .u64 (ol (t20+t21))) (HPow.hPow (2:Int) (Min.min (Int.toNat (1:Int)) 64)))))) b0.length)<|
  aq (ar (ol (Int.fdiv (IntKind.wrap .u64 (ol (t20+t21))) (HPow.hPow (2:Int) (Min.min (Int.toNat (1:Int)) 64)))) b0.length)<|
  aL (F0 ((gt ae b0 (ol (t22-(ol (Int.fdiv (IntKind.wrap .u64 (ol (t20+t21))) (HPow.hPow (2:Int) (Min.min (Int.toNat (1:Int)) 64))))))).1,(gt ae b0 (ol (t22-(ol (Int.fdiv (IntKind.wrap .u64 (ol (t20+t21))) (HPow.hPow (2:Int) (Min.min (Int.toNat (1:Int)) 64))))))).2.1,(gt ae b0 (ol (t22-(ol (Int.fdiv (IntKind.wrap .u64 (ol (t20+t21))) (HPow.hPow (2:Int) (Min.min (Int.toNat (1:Int)) 64))))))).2.2.1,(gt ae b0 (ol (Int.fdiv (IntKind.wrap .u64 (ol (t20+t21))) (HPow.hPow (2:Int) (Min.min (Int.toNat (1:Int)) 64))))).1,(gt ae b0 (ol (Int.fdiv (IntKind.wrap .u64 (ol (t20+t21))) (HPow.hPow (2:Int) (Min.min (Int.toNat (1:Int)) 64))))).2.1,(gt ae b0 (ol (Int.fdiv (IntKind.wrap .u64 (ol (t20+t21))) (HPow.hPow (2:Int) (Min.min (Int.toNat (1:Int)) 64))))).2.2.1,bT,bZ,cf,bS,bJ,cx,cz,cA,b3,b0,b4,b5,())) fun x0=>
  br (Bool.not (iL x0.1 (0:Int)))
  (
   aGt (t1,t2,t3,t18,t19,(ol ((ol (Int.fdiv (IntKind.wrap .u64 (ol (t20+t21))) (HPow.hPow (2:Int) (Min.min (Int.toNat (1:Int)) 64))))+(1:Int))),t21,t22,gi x0,x0.2.1,x0.2.2.1,fW x0,gp x0,iA x0,jE x0,jF x0,kz x0,nM x0,pz x0))
  (
   aGt (t1,t2,t3,t18,t19,t20,(ol (Int.fdiv (IntKind.wrap .u64 (ol (t20+t21))) (HPow.hPow (2:Int) (Min.min (Int.toNat (1:Int)) 64)))),t22,gi x0,x0.2.1,x0.2.2.1,fW x0,gp x0,iA x0,jE x0,jF x0,kz x0,nM x0,pz x0)))
 (
  aGu (t1,t2,t3,t18,t19,t20,b0,bT,bZ,cf,bS,bJ,cx,cz,cA,b3,b4,b5,()))
def atW(c0:lg) :IM:=cH (tA (tX c0.F)) (pL (kB c0 k0) e0 1 l0 fun d=>aGm)
def atT(s:lZ):IM:=atW l9
def A9(F:gG):Xr:=bu (fun d=>tX jU  d.1 d.2.1 d.2.2.1 d.2.2.2.1 d.2.2.2.2.1 d.2.2.2.2.2.1 d.2.2.2.2.2.2.1 d.2.2.2.2.2.2.2.1 d.2.2.2.2.2.2.2.2.1 d.2.2.2.2.2.2.2.2.2.1 d.2.2.2.2.2.2.2.2.2.2.1 d.2.2.2.2.2.2.2.2.2.2.2.1 d.2.2.2.2.2.2.2.2.2.2.2.2.1 d.2.2.2.2.2.2.2.2.2.2.2.2.2.1 d.2.2.2.2.2.2.2.2.2.2.2.2.2.2.1 d.2.2.2.2.2.2.2.2.2.2.2.2.2.2.2.1 d.2.2.2.2.2.2.2.2.2.2.2.2.2.2.2.2.1 d.2.2.2.2.2.2.2.2.2.2.2.2.2.2.2.2.2.1 d.2.2.2.2.2.2.2.2.2.2.2.2.2.2.2.2.2.2.1 d.2.2.2.2.2.2.2.2.2.2.2.2.2.2.2.2.2.2.2.1) NN
abbrev aX:=ae.T
abbrev jq:=TL [.I,.sl .I,.sl ag,.sl .I,.sl .I,.sl .I,.sl aj,.sl ag,.sl .I,.sl (.int .u8),.sl .I]
abbrev rU:=Option (Out AX)
def uu(F1:gG)(b mid e:Int)(x:List aX×jq):rU:=br (iL mid e) (br (bH true (iL e b) false) (aL (F1 (mid,e,b,x.1,x.2)) fun y=>some (y.1,y.2)) (some x)) (some x)
def xk(F1:gG)(a b mid s e:Int)(x:List aX×jq):rU:=br (iL a s) (br (bH true (iL s mid) false) (aL (F1 (a,s,mid,x.1,x.2)) fun y=>uu F1 b mid e y) (uu F1 b mid e x)) (uu F1 b mid e x)
def La(F2:Bv)(F1:gG)(a m b mid s e:Int)(x:List aX×jq):rU:=br (iL s m) (br (bH true (iL m e) false) (aL (F2 (s,m,e,x.1,x.2)) fun y=>xk F1 a b mid s e y) (xk F1 a b mid s e x)) (xk F1 a b mid s e x)
def Zz(F2:Bv)(F1:gG)(x0:Out wz):rU:=La F2 F1 x0.1 x0.2.1 x0.2.2.1 x0.2.2.2.1 x0.2.2.2.2.2.1 (ol (@HSub.hSub (Int) (Int) (Int) _ x0.2.2.2.2.1 x0.2.2.2.2.2.1)) x0.2.2.2.2.2.2
def wy(F0:l8)(F1:gG)(F2:Bv)(L3:XE)(L9:XD)(L15:Xt)(L21:Xs)(L33:Xr)(t1 t2 t3:Int)(b0:ce)(bT:Int)(bZ:io)(cf:bi)(bS bJ cx:io)(cz:bv)(cA:bi)(b3 b4 b5:io):Option (Out AX):=
 br (iQ (ol (t2-t1)) (1:Int))
 (
  aL (L3 (t1,t2,t3,b0,bT,bZ,cf,bS,bJ,cx,cz,cA,b3,b4,b5,())) fun x0=>
  aL (L9 (x0.2.1,x0.1,x0.2.2)) fun x1=>
  some x1)
 (
  br (iQ (ol (t3-t2)) (1:Int))
  (
   aL (L15 (t2,t1,t2,b0,bT,bZ,cf,bS,bJ,cx,cz,cA,b3,b4,b5,())) fun x0=>
   aL (L21 (x0.2.1,x0.1,x0.2.2)) fun x1=>
   some x1)
  (
   br (iL (ol (Int.fdiv (IntKind.wrap .u64 (ol (t1+t3))) (HPow.hPow (2:Int) (Min.min (Int.toNat (1:Int)) 64)))) t2)
   (
    aL (L33 (t1,t2,t3,(ol (Int.fdiv (IntKind.wrap .u64 (ol (t1+t3))) (HPow.hPow (2:Int) (Min.min (Int.toNat (1:Int)) 64)))),(ol ((ol (Int.fdiv (IntKind.wrap .u64 (ol (t1+t3))) (HPow.hPow (2:Int) (Min.min (Int.toNat (1:Int)) 64))))+t2)),(ol ((ol ((ol (Int.fdiv (IntKind.wrap .u64 (ol (t1+t3))) (HPow.hPow (2:Int) (Min.min (Int.toNat (1:Int)) 64))))+t2))-t3)),(ol (Int.fdiv (IntKind.wrap .u64 (ol (t1+t3))) (HPow.hPow (2:Int) (Min.min (Int.toNat (1:Int)) 64)))),(ol ((ol ((ol (Int.fdiv (IntKind.wrap .u64 (ol (t1+t3))) (HPow.hPow (2:Int) (Min.min (Int.toNat (1:Int)) 64))))+t2))-(1:Int))),b0,bT,bZ,cf,bS,bJ,cx,cz,cA,b3,b4,b5,())) fun x0=>Zz F2 F1 x0)
   (
    aL (L33 (t1,t2,t3,(ol (Int.fdiv (IntKind.wrap .u64 (ol (t1+t3))) (HPow.hPow (2:Int) (Min.min (Int.toNat (1:Int)) 64)))),(ol ((ol (Int.fdiv (IntKind.wrap .u64 (ol (t1+t3))) (HPow.hPow (2:Int) (Min.min (Int.toNat (1:Int)) 64))))+t2)),t1,t2,(ol ((ol ((ol (Int.fdiv (IntKind.wrap .u64 (ol (t1+t3))) (HPow.hPow (2:Int) (Min.min (Int.toNat (1:Int)) 64))))+t2))-(1:Int))),b0,bT,bZ,cf,bS,bJ,cx,cz,cA,b3,b4,b5,())) fun x0=>Zz F2 F1 x0)))
def at8(c0:lg)(c1:lZ)(c2:Js)(M3:Ja)(M9:IZ)(M15:IQ)(M21:IP)(M33:IM):lZ:=⟨iO (wy c0.F c1.F c2.F M3.L M9.L M15.L M21.L M33.L),pB Tryz.func142 220 (kB c0 (kB c1 (kB c2 k0))) e0 1 (sS (sC M3 (sC M9 (sC M15 (sC M21 (sC M33 l0)))))) fun d=>aGm⟩
def qu:Nat->lZ
 |0=>mk0 Tryz.func142 aGm aGm|k+1=>at8 l9 (qu k) XU (at1 (qu k)) (at0 (qu k)) (atV (qu k)) (atU (qu k)) (atT (qu k))
def jh(k:Nat):gG:=(qu k).F
def Bk:lZ:=qu NN
def IY:gG:=Bk.F
abbrev XH:Lay:=⟨[(0,.hd 0 ae),(1,.I),(2,.func 61 [] [.ptr 1 0])],iq,6⟩
abbrev Jd:List (Ev.Ex×Lay):=[(.ret,mY)]
abbrev XS:=be XH Jd
abbrev Jr:=Kb 103 3 XH 0 Jd
abbrev Bi:Lay:=⟨[(0,.hd 0 ae),(1,.I),(2,.func 61 [] [.ptr 1 0]),(6,.I)],iq,6⟩
abbrev Bd:List (Ev.Ex×Lay):=[((.exit 2),mY)]
abbrev XJ:=be Bi Bd
abbrev Jj:=Ld 6 63 (cw [1] (bL Tryz.f103)) Bi Bd
abbrev Bh:Lay:=adA
abbrev Bc:List (Ev.Ex×Lay):=[((.exit 4),adC)]
abbrev Ji:=be Bh Bc
abbrev Bm:=Ld 6 63 (cw [1,0] (bL Tryz.f103)) Bh Bc
abbrev Bj:Lay:=adA
abbrev Be:List (Ev.Ex×Lay):=[((.exit 0),adC)]
abbrev XK:=be Bj Be
abbrev Jk:=Ld 6 63 (cw [0] (bL Tryz.f103)) Bj Be
def Jn(F2:IH)(t1 t6 t7 t8:Int)(b0:ce)(bT:Int)(bZ:io)(cf:bi)(bS bJ cx:io)(cz:bv)(cA:bi)(b3 b4 b5:io):am Bj Be:=
 br (iE t8 t1)
 (
  aL (F2 (t7,t8,b0,bT,bZ,cf,bS,bJ,cx,cz,cA,b3,b4,b5,())) fun x0=>
  aGt (t1,t6,t8,(ol (t8+t6)),x0))
 (
  aGu (t1,t6,t7,b0,bT,bZ,cf,bS,bJ,cx,cz,cA,b3,b4,b5,()))
def aud(c2:AO) :Jk:=cH (u16 (Jn c2.F)) (pL (kB c2 k0) e0 1 l0 fun d=>aGm)
def aua:Jk:=aud II
def XN:XK:=bu (u16 (Jn WY)) NN
def Jl(F1:gG)(t1 t6 t7 t8:Int)(b0:ce)(bT:Int)(bZ:io)(cf:bi)(bS bJ cx:io)(cz:bv)(cA:bi)(b3 b4 b5:io):am Bh Bc:=
 br (iE t8 t1)
 (
  aL (F1 (t7,(ol (t7+t6)),t8,b0,bT,bZ,cf,bS,bJ,cx,cz,cA,b3,b4,b5,())) fun x0=>
  aGt (t1,t6,t8,(ol (t8+(ol ((2:Int)*t6)))),x0))
 (
  aGu (t1,t6,t7,b0,bT,bZ,cf,bS,bJ,cx,cz,cA,b3,b4,b5,()))
def aub(c1:lZ) :Bm:=cH (u16 (Jl c1.F)) (pL (kB c1 k0) e0 1 l0 fun d=>aGm)
def XL:Bm:=aub Bk
def Bl:Ji:=bu (u16 (Jl IY)) NN
def Jm(F1:gG)(L9:Ji)(t1 t6:Int)(b0:ce)(bT:Int)(bZ:io)(cf:bi)(bS bJ cx:io)(cz:bv)(cA:bi)(b3 b4 b5:io):am Bi Bd:=
 br (iL t6 t1)
 (
  aL (L9 (t1,t6,(0:Int),(ol ((2:Int)*t6)),b0,bT,bZ,cf,bS,bJ,cx,cz,cA,b3,b4,b5,())) fun x0=>
  br (iL (ol (md x0.2.2.1 x0.2.1)) x0.1)
  (
   aL (F1 (x0.2.2.1,(ol (md x0.2.2.1 x0.2.1)),x0.1,EC x0)) fun x1=>
   aGt (x0.1,(ol (@HMul.hMul (Int) (Int) (Int) _ x0.2.1 (2:Int))),x1))
  (
   aGt (x0.1,(ol (@HMul.hMul (Int) (Int) (Int) _ x0.2.1 (2:Int))),EC x0)))
 (
  aGu (b0,bT,bZ,cf,bS,bJ,cx,cz,cA,b3,b4,b5,()))
def auc(c1:lZ)(M9:Bm):Jj:=cH (mK (Jm c1.F M9.L)) (pL (kB c1 k0) e0 1 (sC M9 l0) fun d=>aGm)
def at9:Jj:=auc Bk XL
def XM:XJ:=bu (mK (Jm IY Bl)) NN
def aul(F0:l8)(F1:gG)(F2:IH)(L2:XK)(L7:XJ)(L9:Ji)(t1:Int)(b0:ce)(bT:Int)(bZ:io)(cf:bi)(bS bJ cx:io)(cz:bv)(cA:bi)(b3 b4 b5:io):Option (Out Jd):=
 aL (L2 (t1,(20:Int),(0:Int),(20:Int),b0,bT,bZ,cf,bS,bJ,cx,cz,cA,b3,b4,b5,())) fun x0=>
 aL (F2 (x0.2.2.1,x0.1,EC x0)) fun x1=>
 aL (L7 (x0.1,x0.2.1,x1)) fun x2=>
 some x2
def auk(c0:lg)(c1:lZ)(c2:AO)(M2:Jk)(M7:Jj)(M9:Bm):Jr:=⟨yB (aul c0.F c1.F c2.F M2.L M7.L M9.L),pB Tryz.func103 63 (kB c0 (kB c1 (kB c2 k0))) e0 1 (sS (sC M2 (sC M7 l0))) fun d=>aGm⟩
def XT:Jr:=auk l9 Bk II aua at9 XL
def aue:XS:=XT.F
abbrev WK:Lay:=⟨[(0,.hd 0 ae),(1,.func 61 [] [.ptr 1 0])],iq,6⟩
abbrev It:List (Ev.Ex×Lay):=[(.ret,mY)]
abbrev WM:=be WK It
abbrev Iv:=Kb 60 2 WK 0 It
def atx(F0:l8)(F1:XS)(b0:ce)(bT:Int)(bZ:io)(cf:bi)(bS bJ cx:io)(cz:bv)(cA:bi)(b3 b4 b5:io):Option (Out It):=
 aL (F1 ((Int.ofNat b0.length),b0,bT,bZ,cf,bS,bJ,cx,cz,cA,b3,b4,b5,())) fun x0=>
 some x0
def atw(c0:lg)(c1:Jr) :Iv:=⟨eJ (atx c0.F c1.F),pB Tryz.func60 9 (kB c0 (kB c1 k0)) e0 1 (sS l0) fun d=>aGm⟩
def WN:Iv:=atw l9 XT
def atv:WM:=WN.F
abbrev YK:List Sh:=[bD]
abbrev J3:List Sh:=[(.sl ae),.bool]
abbrev auW:=TL YK->Option (TL J3)
abbrev YF:=Kd 27 YK J3
def avc(F0:WM)(F1:l8)(F2:Kh)(a0:Sh.T bD):Option (TL J3):=
 aL (F2 a0) fun x0=>
 (match x0 with
 |.inl x1=>
  aq (Bool.not (iQ x1.1 (0:Int)))<|
  some ([],false,())
 |.inr x1=>
  br (Bool.not (iQ x1.1 (0:Int)))
  (
   some ([],false,()))
  (
   aL (F0 (gi x1,x1.2.1,x1.2.2.1,fW x1,gp x1,iA x1,jE x1,jF x1,kz x1,nM x1,pz x1)) fun x2=>
   some (x2.1,true,()))
 )
def avb(c0:Iv)(c1:lg)(c2:BP) :YF:=⟨u1 (avc c0.F c1.F c2.F),pD Tryz.func27 23 (kB c0 (kB c1 (kB c2 k0))) e0 1 (sS l0) fun d=>aGm⟩
def YQ:YF:=avb WN l9 Ki
def au4:auW:=YQ.F
end Go.Proofs.YtjflbmpepamfjaaGreat.V
end
section
namespace Go.Proofs.YtjflbmpepamfjaaGreat.Pl
section
variable{α:Type}(key:α->Int)
def dX(L:List α):Prop:=L.Pairwise (fun x y=>key x<=key y)
def fk(k:Int)(L:List α):List α:=L.filter (fun x=>decide (key x=k))
structure cg(S S':List α):Prop where
 oL:dX key S'
 len:S'.length=S.length
 qf:∀k,fk key k S'=fk key k S
variable{key}
theorem lj(k:Int)(A B:List α):fk key k (A++B)=fk key k A++fk key k B:=List.filter_append A B
theorem QF{k:Int}{L:List α}{x:α}:x∈fk key k L↔x∈L/\key x=k:=by unfold fk;simp
theorem Qw{k:Int}{L:List α}(h:∀x∈L,key x≠k):fk key k L=[]:=by unfold fk;rw[aGe];intro x hx;simpa using h x hx
theorem Y7{S S':List α}(h:∀k,fk key k S'=fk key k S){x:α}(hx:x∈S'):x∈S:=by have:x∈fk key (key x) S':=QF.2 ⟨hx,rfl⟩;rw[h]at this;exact(QF.1 this).1
theorem cg.mem{S S':List α}(h:cg key S S'){x:α}:x∈S'↔x∈S:=⟨Y7 h.qf,Y7 (fun k=>(h.qf k).symm)⟩
theorem cg.refl{S:List α}(h:dX key S):cg key S S:=⟨h,rfl,fun _=>rfl⟩
theorem ma{A B:List α}:dX key (A++B)↔dX key A/\dX key B/\∀x∈A,∀y∈B,key x<=key y:=by unfold dX;rw[List.pairwise_append]
theorem Kp{x:α}{B:List α}:dX key (x::B)↔(∀y∈B,key x<=key y)/\dX key B:=by unfold dX;rw[atR]
theorem Zj{A B:List α}(h:∀x∈A,∀y∈B,key y<key x)(k:Int):fk key k (A++B)=fk key k (B++A):=by
 rw[lj,lj];by_cases q:∃x∈A,key x=k
 .obtain⟨x,hx,hk⟩:=q;have:fk key k B=[]:=Qw (fun y hy=>by have:=h x hx y hy;omega);rw[this];simp
 .have:fk key k A=[]:=Qw (fun x hx hk=>q ⟨x,hx,hk⟩);rw[this];simp
theorem Kj{T0 T1 T2:List α}{x:α}(h:cg key T0 (T1++T2))(h1:∀y∈T1,key y<=key x)(h2:∀y∈T2,key x<key y):cg key (T0++[x]) (T1++x::T2):=by
 obtain⟨s1,s2,s3⟩:=ma.1 h.oL;refine⟨?_,?_,?_⟩
 .refine ma.2 ⟨s1,Kp.2 ⟨fun y hy=>aFe (h2 y hy),s2⟩,?_⟩;intro a ha b hb;rcases AT.1 hb with rfl|hb
  .exact h1 a ha
  .exact s3 a ha b hb
 .have:=h.len;simp only[aO,cF,GT]at *
  omega
 .intro k;have e:fk key k (x::T2)=fk key k (T2++[x]):=by have:=Zj (key:=key) (A:=T2) (B:=[x]) (fun a ha b hb=>by simp at hb;subst hb;exact h2 a ha) k;rw[this];rfl
  rw[lj,e,lj,<-bV,<-lj,h.qf,<-lj]
theorem agH{A B A' B':List α}(ha:cg key A A')(hb:cg key B B')(h:∀x∈A,∀y∈B,key x<=key y):cg key (A++B) (A'++B'):=by
 refine⟨ma.2 ⟨ha.oL,hb.oL,fun x hx y hy=>h x (ha.mem.1 hx) y (hb.mem.1 hy)⟩,?_,?_⟩
 .have:=ha.len;have:=hb.len;simp only[aO];omega
 .intro k;rw[lj,lj,ha.qf,hb.qf]
theorem cg.QZ{A B C:List α}(hl:B.length=A.length)(h:∀k,fk key k B=fk key k A)(g:cg key B C):cg key A C:=⟨g.oL,g.len.trans hl,fun k=>(g.qf k).trans (h k)⟩
theorem BM{P1 P2 Q1 Q2 R1 R2:List α}(hp:dX key (P1++P2))(hq:dX key (Q1++Q2))(h1:∀x∈P1,∀y∈Q2,key x<=key y)(h2:∀x∈P2,∀y∈Q1,key y<key x)
  (r1:cg key (P1++Q1) R1) (r2:cg key (P2++Q2) R2):cg key ((P1++P2)++(Q1++Q2)) (R1++R2):=by
 obtain⟨p1,p2,p3⟩:=ma.1 hp;obtain⟨q1,q2,q3⟩:=ma.1 hq;refine cg.QZ (B:=(P1++Q1)++(P2++Q2)) ?_ ?_ (agH r1 r2 ?_)
 .simp only[aO];omega
 .intro k;have e:=Zj (key:=key) (A:=P2) (B:=Q1) h2 k;rw[lj,lj]at e;simp only[lj,bV];rw[<-bV (fk key k Q1),<-e,bV]
 .intro x hx y hy;rcases At.1 hx with hx|hx<;>rcases At.1 hy with hy|hy
  .exact p3 x hx y hy
  .exact h1 x hx y hy
  .exact aFe (h2 y hy x hx)
  .exact q3 x hx y hy
theorem afB{S:List α}(h:dX key S):∀(n:Nat),(∀x∈S,1<=key x/\key x<=(n:Int))->S=(List.range n).flatMap (fun(i:Nat)=>fk key ((i:Int)+1) S):=by
 intro n
 induction n generalizing S with
 |zero=>intro hb;cases S with|nil=>rfl|cons x S=>have:=hb x aGn;omega
 |succ n ih=>
  intro hb;have split:∀{S:List α},dX key S->(∀x∈S,key x<=((n+1:Nat):Int))->S=S.filter (fun x=>decide (key x<=(n:Int)))++fk key ((n:Int)+1) S:=by
   intro S
   induction S with
   |nil=>intro _ _;rfl|cons x S ihS=>
    intro hs hb;obtain⟨a,b⟩:=Kp.1 hs;have e:=ihS b (fun y hy=>hb y (by simp[hy]));by_cases q:key x<=(n:Int)
    .unfold fk;rw[List.filter_cons_of_pos (by simpa using q),List.filter_cons_of_neg (by simp;omega)];have e':=IT (List.cons x) e;exact e'
    .have hk:key x=(n:Int)+1:=by have:=hb x aGn;omega
     have all:∀y∈S,key y=(n:Int)+1:=fun y hy=>by have:=a y hy;have:=hb y (by simp[hy]);omega
     have f0:S.filter (fun x=>decide (key x<=(n:Int)))=[]:=by rw[aGe];intro y hy;have:=all y hy;simp;omega
     have f1:fk key ((n:Int)+1) S=S:=by unfold fk;rw[List.filter_eq_self];intro y hy;simpa using all y hy
     have g0:(x::S).filter (fun x=>decide (key x<=(n:Int)))=[]:=by rw[List.filter_cons_of_neg (by simp;omega),f0]
     have g1:fk key ((n:Int)+1) (x::S)=x::fk key ((n:Int)+1) S:=by unfold fk;rw[List.filter_cons_of_pos (by simpa using hk)]
     rw[g0,g1,f1];rfl
  have e:=split h (fun x hx=>(hb x hx).2);have hs':dX key (S.filter (fun x=>decide (key x<=(n:Int)))):=List.Pairwise.filter _ h;have ih':=ih hs' (fun x hx=>by have:=List.mem_filter.1 hx;exact⟨(hb x this.1).1,by simpa using this.2⟩);rw[aFj,Ne,aEV];have e2:(List.range n).flatMap (fun(i:Nat)=>fk key ((i:Int)+1) S)=(List.range n).flatMap (fun(i:Nat)=>fk key ((i:Int)+1) (S.filter (fun x=>decide (key x<=(n:Int))))):=by
   have:∀(l:jp),(∀i∈l,i<n)->l.flatMap (fun(i:Nat)=>fk key ((i:Int)+1) S)=l.flatMap (fun(i:Nat)=>fk key ((i:Int)+1) (S.filter (fun x=>decide (key x<=(n:Int))))):=by
    intro l
    induction l with
    |nil=>intro _;rfl|cons i l il=>
     intro hi;rw[Fn,Fn,il (fun j hj=>hi j (by simp[hj]))];congr 1;unfold fk;rw[List.filter_filter];apply List.filter_congr;intro x hx;have:=hi i aGn;by_cases q:key x=(i:Int)+1
     .have:key x<=(n:Int):=aGl
      simp[q];omega
     .simp[q]
   exact this _ (fun i hi=>aFT.1 hi)
  rw[e2,<-ih'];exact e
theorem cg.flat{S S':List α}(h:cg key S S')(n:Nat)(hb:∀x∈S,1<=key x/\key x<=(n:Int)):S'=(List.range n).flatMap (fun(i:Nat)=>fk key ((i:Int)+1) S):=by
 have e:=afB h.oL n (fun x hx=>hb x (h.mem.1 hx));rw[e];have:∀(l:jp),l.flatMap (fun(i:Nat)=>fk key ((i:Int)+1) S')=l.flatMap (fun(i:Nat)=>fk key ((i:Int)+1) S):=by
  intro l
  induction l with|nil=>rfl|cons i l il=>rw[Fn,Fn,il,h.qf]
 rw[<-e];exact e.trans (this _)
end
end Go.Proofs.YtjflbmpepamfjaaGreat.Pl
end
section
namespace Go.Proofs.YtjflbmpepamfjaaGreat.V
open Go Go.RowKit
theorem dk{x:Int}{n:Nat}(e:x=(n:Int))(h:n<=1000000000):ol x=(n:Int):=by rw[e];exact cT aGl
variable{u:Nat}
theorem vg{σ:Sh}{X Z:List σ.T}{p:σ.T}(hu:X.length=u):gt σ (X++p::Z) (u:Int)=p:=by
 refine bP ?_
 grind
variable{α:Type}{p:α}{q:α}
theorem K9{X Z:List α}(hu:X.length=u):(X++p::Z).set u q=X++q::Z:=by rw[List.set_append_right _ _ aGl,hu];simp
variable{v:Nat}
theorem sw2{X M Y:List α}(hu:X.length=u)(hv:X.length+1+M.length=v):((X++p::(M++q::Y)).set u q).set v p=X++q::(M++p::Y):=by
 rw[K9 hu];have e:X++q::(M++q::Y)=(X++q::M)++q::Y:=aGn
 rw[e,K9 (by simp;omega)];simp
variable{i:Nat}
theorem BG{L:List α}(h:i<L.length):L.drop i=L[i]::L.drop (i+1):=aiT h
variable{U:Int}{R:Type}{z:Option R}{y:Option R}
theorem Za{L X M Y:List aX}{p q:aX}(hL:L=X++p::(M++q::Y))(hu:X.length=u)(hv:X.length+1+M.length=v){V:Int}(eU:U=(u:Int))(eV:V=(v:Int))
  (h:List.set (List.set L (Int.toNat U) (gt ae L V)) (Int.toNat V) (gt ae L U)=X++q::(M++p::Y)->y=z) :
  (aq (ar V L.length) <|aq (ar U L.length) <|aq (ar U L.length) <|aq (ar V (List.length (List.set L (Int.toNat U) (gt ae L V)))) <|y)=z:=by
 subst hL;subst eU;subst eV;have hlen:List.length (X++p::(M++q::Y))=X.length+(1+(M.length+(1+Y.length))):=by simp;omega
 have gu:gt ae (X++p::(M++q::Y)) (u:Int)=p:=vg hu;have gv:gt ae (X++p::(M++q::Y)) (v:Int)=q:=by
  have e:X++p::(M++q::Y)=(X++p::M)++q::Y:=aGn
  rw[e];exact vg (by simp;omega)
 have i1:ar (v:Int) (List.length (X++p::(M++q::Y)))=true:=bC ⟨aGl,by rw[hlen];omega⟩;have i2:ar (u:Int) (List.length (X++p::(M++q::Y)))=true:=bC ⟨aGl,by rw[hlen];omega⟩;have hs:∀z:aX,ar (v:Int) (List.length (List.set (X++p::(M++q::Y)) (Int.toNat (u:Int)) z))=true:=fun z=>(IT (ar (v:Int)) aFB).trans i1;refine au i1 (au i2 (au i2 (au (hs _) (h ?_))));rw[gu,gv,Id,Id];exact sw2 hu hv
theorem avx(W:jq)(X P M Q Y:List aX)(a b n:Nat)(ha:X.length=a)(hp:P.length=n)(hq:Q.length=n)(hb:X.length+P.length+M.length=b)(hl:b+n<=1000000) :
  Xw ((a:Int),(b:Int),(n:Int),(0:Int),X++(P++(M++(Q++Y))),W)=some (X++(Q++(M++(P++Y))),W):=by
 unfold Xw;delta u16 u4 eJ fe;refine fE (fun i:Nat=>((a:Int),(b:Int),(n:Int),(i:Int),X++(Q.take i++(P.drop i++(M++(P.take i++(Q.drop i++Y))))),W)) n rfl ?_ ?_ aGp
 .intro i hi
  try dsimp only
  unfold Bb;have hpi:i<P.length:=aGl
  have hqi:i<Q.length:=aGl
  refine aD (aA (show(i:Int)<(n:Int) by omega)) ?_;refine Za (X:=X++Q.take i) (p:=P[i]) (M:=P.drop (i+1)++(M++P.take i)) (q:=Q[i]) (Y:=Q.drop (i+1)++Y) (u:=a+i) (v:=b+i) ?_ ?_ ?_ ?_ ?_ (fun hset=>?_)
  .rw[BG hpi,BG hqi];simp only[bV,ST]
  .simp;omega
  .simp;omega
  .exact dk aGl aGl
  .exact dk aGl aGl
  .refine au (aA rfl) (au (aA rfl) (au (aA rfl) ?_));have e:∀(u v:Int) (A B:List aX),u=v->A=B->(aGt ((a:Int),(b:Int),(n:Int),u,A,W):am AW AN)=aGt ((a:Int),(b:Int),(n:Int),v,B,W):=by rintro _ _ _ _ rfl rfl;rfl
   refine e _ _ _ _ (dk (n:=i+1) aGl aGl) (hset.trans ?_);rw[aFg hpi,aFg hqi];simp only[bV,ST,Nm]
 .try dsimp only
  unfold Bb;refine aw (ax (show ¬(n:Int)<(n:Int) by omega)) ?_;have e1:P.drop n=[]:=ask aGl;have e2:Q.drop n=[]:=ask aGl;have e3:P.take n=P:=By aGl;have e4:Q.take n=Q:=By aGl;rw[e1,e2,e3,e4];rfl
variable{A:Int}{B:Int}
theorem Kr(W:jq)(X P M Q Y:List aX){N:Int}(a b n:Nat)(eA:A=(a:Int))(eB:B=(b:Int))(eN:N=(n:Int))(ha:X.length=a)(hp:P.length=n)(hq:Q.length=n)(hb:X.length+P.length+M.length=b)(hl:b+n<=1000000){L:List aX}(hL:L=X++(P++(M++(Q++Y)))) :
  Xx (A,B,N,L,W)=some (X++(Q++(M++(P++Y))),W):=by
 subst eA;subst eB;subst eN;subst hL;exact aT (avx W X P M Q Y a b n ha hp hq hb hl) rfl
theorem afx(W:jq)(m:Nat)(G:List aX)(hG:G.length<=400000){X P Q Y:List aX}(hp:0<P.length)(hq:0<Q.length)(hm:X.length+P.length=m)(hg:X++(Q++(P++Y))=G) :
  ∃o,Jo ((m:Int),(P.length:Int),(Q.length:Int),X++(P++(Q++Y)),W)=some o /\
   ∃X P Q Y:List aX,o=((m:Int),(P.length:Int),X++(P++(Q++Y)),W)/\Q.length=P.length/\X.length+P.length=m/\X++(Q++(P++Y))=G:=by
 unfold Jo;delta iO u3 eJ fe;refine nY (fun d=>∃X P Q Y:List aX,d=((m:Int),(P.length:Int),(Q.length:Int),X++(P++(Q++Y)),W)/\0<P.length/\0<Q.length/\X.length+P.length=m/\X++(Q++(P++Y))=G)
  (fun o=>∃X P Q Y:List aX,o=((m:Int),(P.length:Int),X++(P++(Q++Y)),W)/\Q.length=P.length/\X.length+P.length=m/\X++(Q++(P++Y))=G)
  (fun d=>d.2.1.toNat+d.2.2.1.toNat) ?_ NN _ ⟨X,P,Q,Y,rfl,hp,hq,hm,hg⟩ (cB (by have:=IT List.length hg;simp only[aO]at this;show((P.length:Int)).toNat+((Q.length:Int)).toNat<=_;omega))
 rintro d ⟨X,P,Q,Y,rfl,hp,hq,hm,hg⟩;have hlen:X.length+(Q.length+(P.length+Y.length))<=400000:=by have:=IT List.length hg;simp only[aO]at this;omega
 try dsimp only
 unfold Jq;rcases Nat.lt_trichotomy P.length Q.length with h|h|h
 .-- the second one is longer
  right;obtain⟨Q1,Q2,hQ,h1,h2⟩:∃Q1 Q2:List aX,Q=Q1++Q2/\Q1.length=Q.length-P.length/\Q2.length=P.length:=⟨Q.take (Q.length-P.length),Q.drop (Q.length-P.length),(FS _ _).symm,aGn,by simp;omega⟩;have es:=Kr W X P Q1 Q2 Y (A:=ol ((m:Int)-(P.length:Int))) (B:=ol ((ol ((m:Int)+(Q.length:Int)))-(P.length:Int))) (N:=(P.length:Int)) X.length (m+Q.length-P.length) P.length
   (dk aGl aGl) (by rw[dk (x:=(m:Int)+(Q.length:Int)) (n:=m+Q.length) aGl aGl];exact dk aGl aGl) rfl rfl rfl h2 aGl aGl (L:=X++(P++(Q++Y))) (by rw[hQ];simp only[bV])
  refine⟨((m:Int),(Q2.length:Int),(Q1.length:Int),X++(Q2++(Q1++(P++Y))),W),?_,⟨X,Q2,Q1,P++Y,rfl,aGl,aGl,aGl,?_⟩,?_⟩
  .refine aD (vH (ax (show ¬(P.length:Int)=(Q.length:Int) by omega))) (aw (ax (show ¬(Q.length:Int)<(P.length:Int) by omega)) (aT es ?_));have e:∀(u v u' v':Int) (A:List aX),u=u'->v=v'->(aGt ((m:Int),u,v,A,W):am wu wq)=aGt ((m:Int),u',v',A,W):=by rintro _ _ _ _ _ rfl rfl;rfl
   exact e _ _ _ _ _ aGl (dk aGl aGl)
  .rw[<-hg,hQ];simp only[bV]
  .show((Q2.length:Int)).toNat+((Q1.length:Int)).toNat<((P.length:Int)).toNat+((Q.length:Int)).toNat;omega
 .left;refine⟨((m:Int),(P.length:Int),X++(P++(Q++Y)),W),aw (Ga (aA (show(P.length:Int)=(Q.length:Int) by omega))) rfl,X,P,Q,Y,rfl,h.symm,hm,hg⟩
 .-- the first one is longer
  right;obtain⟨P1,P2,hP,h1,h2⟩:∃P1 P2:List aX,P=P1++P2/\P1.length=Q.length/\P2.length=P.length-Q.length:=⟨P.take Q.length,P.drop Q.length,(FS _ _).symm,by simp;omega,aGn⟩;have es:=Kr W X P1 P2 Q Y (A:=ol ((m:Int)-(P.length:Int))) (B:=(m:Int)) (N:=(Q.length:Int)) X.length m Q.length
   (dk aGl aGl) rfl rfl rfl h1 rfl aGl aGl (L:=X++(P++(Q++Y))) (by rw[hP];simp only[bV])
  refine⟨((m:Int),(P2.length:Int),(P1.length:Int),(X++Q)++(P2++(P1++Y)),W),?_,⟨X++Q,P2,P1,Y,rfl,aGl,aGl,by simp only[aO];omega,?_⟩,?_⟩
  .refine aD (vH (ax (show ¬(P.length:Int)=(Q.length:Int) by omega))) (aD (aA (show(Q.length:Int)<(P.length:Int) by omega)) (aT es ?_));have e:∀(u v u' v':Int) (A A':List aX),u=u'->v=v'->A=A'->(aGt ((m:Int),u,v,A,W):am wu wq)=aGt ((m:Int),u',v',A',W):=by rintro _ _ _ _ _ _ rfl rfl rfl;rfl
   exact e _ _ _ _ _ _ (dk aGl aGl) aGl (by simp only[bV])
  .rw[<-hg,hP];simp only[bV]
  .show((P2.length:Int)).toNat+((P1.length:Int)).toNat<((P.length:Int)).toNat+((Q.length:Int)).toNat;omega
theorem ah2(W:jq){X P Q Y L:List aX}{M:Int}(hp:0<P.length)(hq:0<Q.length)(eA:A=(X.length:Int))(eM:M=((X.length+P.length:Nat):Int))(eB:B=((X.length+P.length+Q.length:Nat):Int))(hl:L.length<=400000)(hL:L=X++(P++(Q++Y))) :
  Bn (A,M,B,L,W)=some (X++(Q++(P++Y)),W):=by
 subst eA;subst eM;subst eB;subst hL;have hlen:X.length+(P.length+(Q.length+Y.length))<=400000:=by grind
 obtain⟨o,e1,X',P',Q',Y',rfl,h1,h2,h3⟩:=afx W (X.length+P.length) (X++(Q++(P++Y))) (by simp only[aO];omega) hp hq rfl rfl (Y:=Y);have hlen':X'.length+(P'.length+(Q'.length+Y'.length))<=400000:=by
  have:=IT List.length h3
  grind
 have es:=Kr W X' P' [] Q' Y' (A:=ol (((X.length+P.length:Nat):Int)-(P'.length:Int))) (B:=((X.length+P.length:Nat):Int)) (N:=(P'.length:Int)) X'.length (X.length+P.length) P'.length
  (dk aGl aGl) rfl rfl rfl rfl h1 (by simp only[GT];omega) aGl (L:=X'++(P'++(Q'++Y'))) rfl
 have e0:Jo (((X.length+P.length:Nat):Int),ol (((X.length+P.length:Nat):Int)-(X.length:Int)),ol (((X.length+P.length+Q.length:Nat):Int)-((X.length+P.length:Nat):Int)),X++(P++(Q++Y)),W)=some (((X.length+P.length:Nat):Int),(P'.length:Int),X'++(P'++(Q'++Y')),W):=by rw[dk (x:=((X.length+P.length:Nat):Int)-(X.length:Int)) (n:=P.length) aGl aGl,dk (x:=((X.length+P.length+Q.length:Nat):Int)-((X.length+P.length:Nat):Int)) (n:=Q.length) aGl aGl];exact e1
 refine aT e0 (aT es ?_);have e:∀(A A':List aX),A=A'->(some (A,W):Option (Out wt))=some (A',W):=by rintro _ _ rfl;rfl
 grind
open Pl (cg dX Kj)
def mL(W:jq)(L:List aX):TL [.I,.sl .I,.sl ag,.sl .I,.sl .I,.sl .I,.sl aj,.sl ag,.sl .I,.sl ae,.sl (.int .u8),.sl .I]:=(W.1,W.2.1,W.2.2.1,W.2.2.2.1,W.2.2.2.2.1,W.2.2.2.2.2.1,W.2.2.2.2.2.2.1,W.2.2.2.2.2.2.2.1,W.2.2.2.2.2.2.2.2.1,L,W.2.2.2.2.2.2.2.2.2.1,W.2.2.2.2.2.2.2.2.2.2.1,())
structure kQ(W:jq)(key:aX->Int)(V:aX->Prop):Prop where
 cmp:∀(L:List aX) (x y:aX),V x->V y->∃c:Int,jU (x.1,x.2.1,x.2.2.1,y.1,y.2.1,y.2.2.1,mL W L)=some (c,mL W L)/\(c<0↔key x<key y)
theorem Zb{L X Y:List aX}{p q:aX}(hL:L=X++q::(p::Y))(hv:X.length=v)(hu:v+1=u){V:Int}(eU:U=(u:Int))(eV:V=(v:Int))
  (h:List.set (List.set L (Int.toNat U) (gt ae L V)) (Int.toNat V) (gt ae L U)=X++p::(q::Y)->y=z) :
  (aq (ar V L.length) <|aq (ar U L.length) <|aq (ar U L.length) <|aq (ar V (List.length (List.set L (Int.toNat U) (gt ae L V)))) <|y)=z:=by
 subst hL;subst eU;subst eV;subst hu;have hlen:List.length (X++q::(p::Y))=X.length+(1+(1+Y.length)):=by simp;omega
 have gv:gt ae (X++q::(p::Y)) (v:Int)=q:=vg hv;have e:X++q::(p::Y)=(X++[q])++p::Y:=aGn
 have gu:gt ae (X++q::(p::Y)) ((v+1:Nat):Int)=p:=by rw[e];exact vg (by simp;omega)
 have i1:ar (v:Int) (List.length (X++q::(p::Y)))=true:=bC ⟨aGl,by rw[hlen];omega⟩;have i2:ar ((v+1:Nat):Int) (List.length (X++q::(p::Y)))=true:=bC ⟨aGl,by rw[hlen];omega⟩;have hs:∀z:aX,ar (v:Int) (List.length (List.set (X++q::(p::Y)) (Int.toNat ((v+1:Nat):Int)) z))=true:=fun z=>(IT (ar (v:Int)) aFB).trans i1;refine au i1 (au i2 (au i2 (au (hs _) (h ?_))));rw[gu,gv,Id,Id];have e2:(X++q::(p::Y)).set (v+1) q=X++q::(q::Y):=by grind
 exact(IT (fun l:List aX=>l.set v p) e2).trans (K9 hv)
section
variable{W:jq}{key:aX->Int}{V:aX->Prop}
theorem ae9(C:kQ W key V)(X T T0 Y:List aX)(x:aX)(A B I:Int)(i:Nat)(hA:A=(X.length:Int))(hi:X.length+T.length=i)(hl:X.length+(T.length+Y.length)<=400000)(hT:cg key T0 T)(hV:∀y∈T,V y)(hx:V x) :
  ∃o,ID (A,B,I,(i:Int),X++(T++(x::Y)),W)=some o/\∃S,o=(A,B,I,X++(S++Y),W)/\cg key (T0++[x]) S:=by
 unfold ID;delta u16 u4 eJ fe;refine nY (fun d=>∃T1 T2:List aX,d=(A,B,I,((X.length+T1.length:Nat):Int),X++(T1++(x::(T2++Y))),W)/\T1++T2=T/\∀y∈T2,key x<key y)
  (fun o=>∃S,o=(A,B,I,X++(S++Y),W)/\cg key (T0++[x]) S) (fun d=>d.2.2.2.1.toNat) ?_ NN _ ⟨T,[],by subst hi;rfl,aGn,aGn⟩ (cB (by show((i:Int)).toNat<=_;omega))
 rintro d ⟨T1,T2,rfl,hTT,h2⟩;have hlT:T1.length+T2.length=T.length:=by rw[<-hTT,aO]
 try dsimp only
 unfold IF;rcases List.eq_nil_or_concat T1 with rfl|⟨T1',q,rfl⟩
 .left;refine⟨_,aw (ax (by rw[hA];simp)) rfl,x::T2,rfl,?_⟩;have:=Kj (T1:=[]) (T2:=T2) (x:=x) (T0:=T0) (key:=key) (by rw[hTT];exact hT) aGn h2;exact this
 .have hj:(X.length+(T1'.concat q).length:Nat)=X.length+T1'.length+1:=by simp;omega
  have hq:V q:=hV q (by rw[<-hTT];simp);have eL:X++(T1'.concat q++(x::(T2++Y)))=(X++T1')++q::(x::(T2++Y)):=aGn
  obtain⟨c,ec,hc⟩:=C.cmp (X++(T1'.concat q++(x::(T2++Y)))) x q hx hq;rw[hj];have w1:ol (((X.length+T1'.length+1:Nat):Int)-1)=((X.length+T1'.length:Nat):Int):=dk aGl (by simp only[List.length_concat]at hlT;omega);have gx:gt ae (X++(T1'.concat q++(x::(T2++Y)))) ((X.length+T1'.length+1:Nat):Int)=x:=by
   have e:X++(T1'.concat q++(x::(T2++Y)))=(X++T1'++[q])++x::(T2++Y):=aGn
   rw[e];exact vg (by simp;omega)
  have gq:gt ae (X++(T1'.concat q++(x::(T2++Y)))) (ol (((X.length+T1'.length+1:Nat):Int)-1))=q:=by rw[w1,eL];exact vg aGn
  have hlen:List.length (X++(T1'.concat q++(x::(T2++Y))))=X.length+T1'.length+2+(T2.length+Y.length):=by simp;omega
  have i1:ar ((X.length+T1'.length+1:Nat):Int) (List.length (X++(T1'.concat q++(x::(T2++Y)))))=true:=bC ⟨aGl,by rw[hlen];omega⟩;have i2:ar (ol (((X.length+T1'.length+1:Nat):Int)-1)) (List.length (X++(T1'.concat q++(x::(T2++Y)))))=true:=by rw[w1];exact bC ⟨aGl,by rw[hlen];omega⟩
  have ec':jU ((gt ae (X++(T1'.concat q++(x::(T2++Y)))) ((X.length+T1'.length+1:Nat):Int)).1,(gt ae (X++(T1'.concat q++(x::(T2++Y)))) ((X.length+T1'.length+1:Nat):Int)).2.1,(gt ae (X++(T1'.concat q++(x::(T2++Y)))) ((X.length+T1'.length+1:Nat):Int)).2.2.1,
    (gt ae (X++(T1'.concat q++(x::(T2++Y)))) (ol (((X.length+T1'.length+1:Nat):Int)-1))).1,(gt ae (X++(T1'.concat q++(x::(T2++Y)))) (ol (((X.length+T1'.length+1:Nat):Int)-1))).2.1,(gt ae (X++(T1'.concat q++(x::(T2++Y)))) (ol (((X.length+T1'.length+1:Nat):Int)-1))).2.2.1,mL W (X++(T1'.concat q++(x::(T2++Y)))))
    = some (c,mL W (X++(T1'.concat q++(x::(T2++Y))))):=by rw[gx,gq];exact ec
  have hA':A<((X.length+T1'.length+1:Nat):Int):=by rw[hA];omega
  by_cases hk:key x<key q
  .right;refine⟨(A,B,I,((X.length+T1'.length:Nat):Int),X++(T1'++(x::(q::T2++Y))),W),?_,⟨T1',q::T2,rfl,by rw[<-hTT];simp,?_⟩,?_⟩
   .refine aD (aA hA') (au i1 (au i2 (aT ec' (aD (show bH true (iL c 0) false=true from aA (hc.2 hk)) ?_))));refine Zb (X:=X++T1') (q:=q) (p:=x) (Y:=T2++Y) (v:=X.length+T1'.length) (u:=X.length+T1'.length+1) eL aGn rfl rfl w1 (fun hset=>?_);refine au (aA rfl) (au (aA rfl) ?_);have e:∀(u u':Int) (L L':List aX),u=u'->L=L'->(aGt (A,B,I,u,L,W):am wo wj)=aGt (A,B,I,u',L',W):=by rintro _ _ _ _ rfl rfl;rfl
    exact e _ _ _ _ w1 (hset.trans aGn)
   .intro y hy;rcases AT.1 hy with rfl|hy
    .exact hk
    .exact h2 y hy
   .show(((X.length+T1'.length:Nat):Int)).toNat<(((X.length+T1'.length+1:Nat):Int)).toNat;omega
  .left;refine⟨(A,B,I,X++((T1'.concat q++x::T2)++Y),W),?_,_,rfl,?_⟩
   .refine aD (aA hA') (au i1 (au i2 (aT ec' (aw (show bH true (iL c 0) false=false from ax (fun q=>hk (hc.1 q))) ?_))));have e:∀(L L':List aX),L=L'->(aGu (A,B,I,L,W):am wo wj)=aGu (A,B,I,L',W):=by rintro _ _ rfl;rfl
    exact e _ _ (show X++(T1'.concat q++(x::(T2++Y)))=_ from by simp)
   .refine Kj (by rw[hTT];exact hT) ?_ h2;intro y hy;have hs:dX key (T1'.concat q):=(Pl.ma.1 (by rw[hTT];exact hT.oL:dX key (T1'.concat q++T2))).1;rw[List.concat_eq_append]at hy hs;obtain⟨_,_,h3⟩:=Pl.ma.1 hs;rcases At.1 hy with hy|hy
    .have:=h3 y hy q aGn;omega
    .simp at hy;subst hy;omega
theorem Qz(C:kQ W key V){X S Y L:List aX}(eA:A=(X.length:Int))(eB:B=((X.length+S.length:Nat):Int))(hL:L=X++(S++Y))(hl:L.length<=400000)(hV:∀y∈S,V y) :
  ∃S',WY (A,B,L,W)=some (X++(S'++Y),W)/\cg key S S':=by
 subst eA;subst eB;subst hL;have hlen:X.length+(S.length+Y.length)<=400000:=by simpa only[aO]using hl
 have w0:ol ((X.length:Int)+1)=((X.length+1:Nat):Int):=dk aGl aGl;cases S with
 |nil=>
  refine⟨[],?_,cg.refl (List.Pairwise.nil)⟩;have e1:AH ((X.length:Int),((X.length+([]:List aX).length:Nat):Int),ol ((X.length:Int)+1),X++([]++Y),W)=some (X++([]++Y),W):=by
   unfold AH;delta iO u3 eJ fe;refine fE (fun _=>_) 0 rfl (fun i hi=>absurd hi (Nat.not_lt_zero i)) ?_ aGp
   try dsimp only
   unfold AK;exact aw (ax (by rw[w0];simp only[GT];omega)) rfl
  exact aT e1 rfl
 |cons s S=>
  have e1:∃o,AH ((X.length:Int),((X.length+(s::S).length:Nat):Int),ol ((X.length:Int)+1),X++(s::S++Y),W)=some o/\∃S',o=(X++(S'++Y),W)/\cg key (s::S) S':=by
   unfold AH;delta iO u3 eJ fe;refine nY (fun d=>∃T0 T R:List aX,d=((X.length:Int),((X.length+(s::S).length:Nat):Int),((X.length+T.length:Nat):Int),X++(T++(R++Y)),W)/\T0++R=s::S/\cg key T0 T)
    (fun o=>∃S',o=(X++(S'++Y),W)/\cg key (s::S) S') (fun d=>(X.length+(s::S).length)-d.2.2.1.toNat) ?_ NN _ ⟨[s],[s],S,by rw[w0];rfl,rfl,cg.refl (by unfold dX;simp)⟩ (cB (by
     have:List.length (s::S)<=400000:=aGl
     omega))
   rintro d ⟨T0,T,R,rfl,hTR,hT⟩;have hlT:=hT.len;have hlR:T0.length+R.length=(s::S).length:=by rw[<-hTR,aO]
   try dsimp only
   unfold AK;cases R with
   |nil=>left;refine⟨_,aw (ax (by simp only[GT]at hlR;omega)) rfl,T,rfl,?_⟩;rw[dJ]at hTR;rw[<-hTR];exact hT|cons r R=>
    right;simp only[cF]at hlR;have hVT:∀y∈T,V y:=fun y hy=>hV y (by rw[<-hTR];simp[hT.mem.1 hy]);obtain⟨o,e4,S',rfl,hS'⟩:=ae9 C X T T0 (R++Y) r (X.length:Int) ((X.length+(s::S).length:Nat):Int) ((X.length+T.length:Nat):Int) (X.length+T.length) rfl rfl (by simp only[aO,cF]at *;omega) hT hVT (hV r (by rw[<-hTR];simp));have hl':=hS'.len;simp only[aO,cF,GT]at hl';refine⟨((X.length:Int),((X.length+(s::S).length:Nat):Int),((X.length+S'.length:Nat):Int),X++(S'++(R++Y)),W),?_,⟨T0++[r],S',R,rfl,by rw[<-hTR];simp,hS'⟩,?_⟩
    .refine aD (aA (by simp only[cF]at *;omega)) (aT e4 ?_);have e:∀(u u':Int),u=u'->(aGt ((X.length:Int),((X.length+(s::S).length:Nat):Int),u,X++(S'++(R++Y)),W):am AG AF)=aGt ((X.length:Int),((X.length+(s::S).length:Nat):Int),u',X++(S'++(R++Y)),W):=by rintro _ _ rfl;rfl
     exact e _ _ (show ol (((X.length+T.length:Nat):Int)+1)=_ from dk aGl (by simp only[aO,cF]at *;omega))
    .show(X.length+(s::S).length)-(((X.length+S'.length:Nat):Int)).toNat<(X.length+(s::S).length)-(((X.length+T.length:Nat):Int)).toNat;simp only[cF]at *
     omega
  obtain⟨o,e1,S',rfl,hS⟩:=e1;exact⟨S',aT e1 rfl,hS⟩
end
variable{S:List aX}
open Pl (cg dX BM)
abbrev hf(i j:Int):Int:=ol (Int.fdiv (IntKind.wrap .u64 (ol (i+j))) (HPow.hPow (2:Int) (Min.min (Int.toNat (1:Int)) 64)))
variable{j:Nat}
theorem BQ(h:i+j<=1000000):hf (i:Int) (j:Int)=(((i+j) / 2:Nat):Int):=by
 unfold hf;rw[dk (x:=(i:Int)+(j:Int)) (n:=i+j) aGl aGl];have e1:IntKind.wrap .u64 ((i+j:Nat):Int)=((i+j:Nat):Int):=by unfold IntKind.wrap;simp[IntKind.bits,IntKind.signed];omega
 rw[e1];have e2:(HPow.hPow (2:Int) (Min.min (Int.toNat (1:Int)) 64):Int)=2:=rfl;rw[e2,Int.fdiv_eq_ediv_of_nonneg _ aGo];exact dk aGl aGl
variable{hi:Nat}{lo:Nat}
theorem Kl{D O:Type}{B:D->Option (D⊕O)}(st:Nat->Nat->D)(fin:Nat->O)(pr:Nat->Prop)(hlh:lo<=hi)(hb:hi<=1000000)
  (hm:∀c d,lo<=c->c<=d->d<hi->pr d->pr c)
  (hs1:∀i j,lo<=i->i<j->j<=hi->pr ((i+j) / 2)->B (st i j)=aGt (st ((i+j) / 2+1) j))
  (hs2:∀i j,lo<=i->i<j->j<=hi->¬pr ((i+j) / 2)->B (st i j)=aGt (st i ((i+j) / 2)))
  (he:∀i,lo<=i->i<=hi->B (st i i)=aGu (fin i)) :
  ∃s,lo<=s/\s<=hi/\bu B NN (st lo hi)=some (fin s)/\(∀c,lo<=c->c<s->pr c)/\∀c,s<=c->c<hi->¬pr c:=by
 have key:∀k i j,lo<=i->i<=j->j<=hi->j-i=k->(∀c,lo<=c->c<i->pr c)->(∀c,j<=c->c<hi->¬pr c)->∀N,k<N ->
   ∃s,i<=s/\s<=j/\bu B N (st i j)=some (fin s)/\(∀c,lo<=c->c<s->pr c)/\∀c,s<=c->c<hi->¬pr c:=by
  intro k
  induction k using Nat.strongRecOn with
  |_ k ih=>
   intro i j h1 h2 h3 hk ha hb N hN;obtain⟨M,rfl⟩:∃M,N=M+1:=⟨N-1,aGl⟩;rcases ww i j with q|q
   .rcases Classical.em (pr ((i+j) / 2))with hp|hp
    .obtain⟨s,g1,g2,g3,g4⟩:=ih (j-((i+j) / 2+1)) aGl ((i+j) / 2+1) j aGl aGl h3 rfl (fun c c1 c2=>hm c ((i+j) / 2) c1 aGl aGl hp) hb M aGl;exact⟨s,aGl,g2,by simp only[bu,hs1 i j h1 q h3 hp];exact g3,g4⟩
    .obtain⟨s,g1,g2,g3,g4⟩:=ih ((i+j) / 2-i) aGl i ((i+j) / 2) h1 aGl aGl rfl ha (fun c c1 c2 hc=>hp (hm ((i+j) / 2) c aGl c1 c2 hc)) M aGl;exact⟨s,g1,aGl,by simp only[bu,hs2 i j h1 q h3 hp];exact g3,g4⟩
   .have:i=j:=aGl
    subst this;exact⟨i,pi _,pi _,by simp only[bu,he i h1 h3],ha,hb⟩
 exact key (hi-lo) lo hi (pi _) hlh (pi _) rfl (fun c c1 c2=>aGl) (fun c c1 c2=>aGl) NN aGp
abbrev Lb:=La Bn
def tI(W:jq)(key:aX->Int)(V:aX->Prop)(F:gG)(k:Nat):Prop:=
 ∀(X P Q Y L:List aX) (A M B:Int),0<P.length->0<Q.length->P.length+Q.length<=k->A=(X.length:Int)->M=((X.length+P.length:Nat):Int)->B=((X.length+P.length+Q.length:Nat):Int)->L=X++(P++(Q++Y))->L.length<=400000 ->
  dX key P->dX key Q->(∀x∈P,V x)->(∀x∈Q,V x)->∃R,F (A,M,B,L,W)=some (X++(R++Y),W)/\cg key (P++Q) R
section
variable{W:jq}{key:aX->Int}{V:aX->Prop}
theorem agM{F1:gG}{k:Nat}(ih:tI W key V F1 k){X P Q Y L:List aX}{b mid e:Int}(em:mid=(X.length:Int))(ee:e=((X.length+P.length:Nat):Int))(eb:b=((X.length+P.length+Q.length:Nat):Int))(hL:L=X++(P++(Q++Y)))(hl:L.length<=400000)
  (hk:P.length+Q.length<=k) (hp:dX key P) (hq:dX key Q) (hP:∀x∈P,V x) (hQ:∀x∈Q,V x):∃R,uu F1 b mid e (L,W)=some (X++(R++Y),W)/\cg key (P++Q) R:=by
 unfold uu;rcases If P.length with h1|h1
 .have:P=[]:=ut h1;subst this;refine⟨Q,aw aGr ?_,cg.refl hq⟩;rw[hL];rfl
 .rcases If Q.length with h2|h2
  .have:Q=[]:=ut h2;subst this;refine⟨P,aD (aA (by rw[em,ee];omega)) (aw (show bH true (iL e b) false=false from aGr) ?_),by rw[dJ];exact cg.refl hp⟩;rw[hL];rfl
  .obtain⟨R,e1,e2⟩:=ih X P Q Y L mid e b h1 h2 hk em ee eb hL hl hp hq hP hQ;exact⟨R,aD aGs (aD (show bH true (iL e b) false=true from aGs) (aT e1 rfl)),e2⟩
theorem agL{F1:gG}{k:Nat}(ih:tI W key V F1 k){X P1 P2 Q1 Q2 Y L:List aX}{a m b mid s e:Int}(ea:a=(X.length:Int))(es:s=((X.length+P1.length:Nat):Int))(emm:m=((X.length+P1.length+P2.length:Nat):Int))(em:mid=((X.length+P1.length+Q1.length:Nat):Int))
  (ee:e=((X.length+P1.length+Q1.length+P2.length:Nat):Int)) (eb:b=((X.length+P1.length+P2.length+Q1.length+Q2.length:Nat):Int)) (hL:L=X++(P1++(P2++(Q1++(Q2++Y))))) (hl:L.length<=400000)
  (hk1:P1.length+Q1.length<=k) (hk2:P2.length+Q2.length<=k) (hp:dX key (P1++P2)) (hq:dX key (Q1++Q2)) (hP:∀x∈P1++P2,V x) (hQ:∀x∈Q1++Q2,V x)
  (h1:∀x∈P1,∀y∈Q2,key x<=key y) (h2:∀x∈P2,∀y∈Q1,key y<key x):∃R,Lb F1 a m b mid s e (L,W)=some (X++(R++Y),W)/\cg key ((P1++P2)++(Q1++Q2)) R:=by
 have hlen:X.length+(P1.length+(P2.length+(Q1.length+(Q2.length+Y.length))))<=400000:=by rw[hL]at hl;simpa only[aO]using hl
 obtain⟨p1,p2,_⟩:=Pl.ma.1 hp;obtain⟨q1,q2,_⟩:=Pl.ma.1 hq;have hU:∃R,xk F1 a b mid s e (X++(P1++(Q1++(P2++(Q2++Y)))),W)=some (X++(R++Y),W)/\cg key ((P1++P2)++(Q1++Q2)) R:=by
  have hV:∀R1:List aX,cg key (P1++Q1) R1->∃R,uu F1 b mid e (X++(R1++(P2++(Q2++Y))),W)=some (X++(R++Y),W)/\cg key ((P1++P2)++(Q1++Q2)) R:=by
   intro R1 hR1;have hl1:=hR1.len;simp only[aO]at hl1;obtain⟨R2,e1,e2⟩:=agM ih (X:=X++R1) (P:=P2) (Q:=Q2) (Y:=Y) (L:=X++(R1++(P2++(Q2++Y)))) (b:=b) (mid:=mid) (e:=e) (by rw[em];simp only[aO];omega) (by rw[ee];simp only[aO];omega) (by rw[eb];simp only[aO];omega)
    (by simp only[bV]) (by simp only[aO];omega) hk2 p2 q2 (fun x hx=>hP x (by simp[hx])) (fun x hx=>hQ x (by simp[hx]))
   refine⟨R1++R2,e1.trans (IT (fun l:List aX=>(some (l,W):rU)) ?_),BM hp hq h1 h2 hR1 e2⟩;simp only[bV]
  unfold xk;rcases If P1.length with g1|g1
  .have:P1=[]:=ut g1;subst this;obtain⟨R,e1,e2⟩:=hV Q1 (cg.refl q1);exact⟨R,aw (ax (by rw[ea,es];simp only[GT];omega)) e1,e2⟩
  .rcases If Q1.length with g2|g2
   .have:Q1=[]:=ut g2;subst this;obtain⟨R,e1,e2⟩:=hV P1 (by rw[dJ];exact cg.refl p1);exact⟨R,aD (aA (by rw[ea,es];omega)) (aw (show bH true (iL s mid) false=false from ax (by rw[es,em];simp only[GT];omega)) e1),e2⟩
   .obtain⟨R1,e0,hR1⟩:=ih X P1 Q1 (P2++(Q2++Y)) (X++(P1++(Q1++(P2++(Q2++Y))))) a s mid g1 g2 hk1 ea es (by rw[em]) rfl (by simp only[aO];omega) p1 q1 (fun x hx=>hP x (by simp[hx])) (fun x hx=>hQ x (by simp[hx]));obtain⟨R,e1,e2⟩:=hV R1 hR1;exact⟨R,aD (aA (by rw[ea,es];omega)) (aD (show bH true (iL s mid) false=true from aA (by rw[es,em];omega)) (aT e0 e1)),e2⟩
 obtain⟨R,e1,e2⟩:=hU;refine⟨R,?_,e2⟩;unfold Lb La;subst hL;rcases If P2.length with g1|g1
 .have:P2=[]:=ut g1;subst this;exact aw (ax (by rw[es,emm];simp only[GT];omega)) e1
 .rcases If Q1.length with g2|g2
  .have:Q1=[]:=ut g2;subst this;exact aD (aA (by rw[es,emm];omega)) (aw (show bH true (iL m e) false=false from ax (by rw[ee,emm];simp only[GT];omega)) e1)
  .have er:=ah2 W (X:=X++P1) (P:=P2) (Q:=Q1) (Y:=Q2++Y) (L:=X++(P1++(P2++(Q1++(Q2++Y))))) (A:=s) (M:=m) (B:=e) g1 g2 (by rw[es];simp only[aO]) (by rw[emm];simp only[aO]) (by rw[ee];simp only[aO];omega) hl (by simp only[bV]);have er':Bn (s,m,e,X++(P1++(P2++(Q1++(Q2++Y)))),W)=some (X++(P1++(Q1++(P2++(Q2++Y)))),W):=er.trans (IT (fun l:List aX=>(some (l,W):Option (Out wt))) (by simp only[bV]));exact aD (aA (by rw[es,emm];omega)) (aD (show bH true (iL m e) false=true from aA (by rw[ee,emm];omega)) (aT er' e1))
end
variable{Q1:List aX}{P1:List aX}{k:Nat}{P2:List aX}
theorem qw{key:aX->Int}{L:List aX}(h:dX key L)(hij:i<=j)(hj:j<L.length):key L[i]<=key L[j]:=by
 rcases ww i j with q|q
 .exact(List.pairwise_iff_getElem.1 h) i j aGl hj q
 grind
section
variable{X P Q Y L:List aX}
theorem BS(hL:L=X++(P++(Q++Y))){t c:Nat}(ht:t<P.length)(hc:c=X.length+t):gt ae L (c:Int)=P[t]:=by
 subst hL;subst hc;refine bP ?_
 grind
theorem BU(hL:L=X++(P++(Q++Y))){t c:Nat}(ht:t<Q.length)(hc:c=X.length+P.length+t):gt ae L (c:Int)=Q[t]:=by
 subst hL;subst hc;refine bP ?_
 grind
theorem zL(hL:L=X++(P++(Q++Y))):L.length=X.length+P.length+Q.length+Y.length:=by grind
variable{W:jq}{key:aX->Int}{V:aX->Prop}
theorem aij(C:kQ W key V)(F:gG){x:aX}(hL:L=X++([x]++(Q++Y)))(hl:L.length<=400000)(hq:dX key Q)(hx:V x)(hQ:∀y∈Q,V y) :
  ∃k,k<=Q.length/\XF F ((X.length:Int),((X.length+1:Nat):Int),((X.length+1+Q.length:Nat):Int),L,W)=some ((X.length:Int),((X.length+1+k:Nat):Int),L,W)/\(∀y∈Q.take k,key y<key x)/\∀y∈Q.drop k,key x<=key y:=by
 have hlen:=zL hL;simp only[cF,GT]at hlen;have gQ:∀c,(h0:X.length+1<=c)->(h:c<X.length+1+Q.length)->gt ae L (c:Int)=Q[c-X.length-1]' aGl:=fun c h1 h2=>BU hL (t:=c-X.length-1) aGl (by simp only[cF,GT];omega);have gx:gt ae L (X.length:Int)=x:=BS hL (t:=0) aGn rfl;have step:∀i j:Nat,X.length+1<=i->i<j->j<=X.length+1+Q.length->∃c:Int,(c<0↔key (gt ae L (((i+j) / 2:Nat):Int))<key x) /\
   tZ jU (X.length:Int) (i:Int) (j:Int) L W.1 W.2.1 W.2.2.1 W.2.2.2.1 W.2.2.2.2.1 W.2.2.2.2.2.1 W.2.2.2.2.2.2.1 W.2.2.2.2.2.2.2.1 W.2.2.2.2.2.2.2.2.1 W.2.2.2.2.2.2.2.2.2.1 W.2.2.2.2.2.2.2.2.2.2.1 =
    br (iL c 0) (aGt ((X.length:Int),(((i+j) / 2+1:Nat):Int),(j:Int),L,W)) (aGt ((X.length:Int),(i:Int),(((i+j) / 2:Nat):Int),L,W)):=by
  intro i j h1 h2 h3;have hw:hf (i:Int) (j:Int)=(((i+j) / 2:Nat):Int):=BQ aGl;have gh:=gQ ((i+j) / 2) aGl aGl;obtain⟨c,e1,e2⟩:=C.cmp L (gt ae L (((i+j) / 2:Nat):Int)) (gt ae L (X.length:Int)) (by rw[gh];exact hQ _ (EQ _)) (by rw[gx];exact hx);refine⟨c,by rw[<-gx];exact e2,?_⟩;have i1:ar (hf (i:Int) (j:Int)) L.length=true:=by rw[hw];exact aGq
  have i2:ar (X.length:Int) L.length=true:=aGq;have e1':jU ((gt ae L (hf (i:Int) (j:Int))).1,(gt ae L (hf (i:Int) (j:Int))).2.1,(gt ae L (hf (i:Int) (j:Int))).2.2.1,(gt ae L (X.length:Int)).1,(gt ae L (X.length:Int)).2.1,(gt ae L (X.length:Int)).2.2.1,mL W L)=some (c,mL W L):=by rw[hw];exact e1
  unfold tZ;refine aD (aA (show(i:Int)<(j:Int) by omega)) (au i1 (au i2 (aT e1' ?_)));have e:∀(u v u' v':Int),u=u'->v=v'->(br (iL c 0) (aGt ((X.length:Int),u,(j:Int),L,W)) (aGt ((X.length:Int),(i:Int),v,L,W)):am AZ AQ)=br (iL c 0) (aGt ((X.length:Int),u',(j:Int),L,W)) (aGt ((X.length:Int),(i:Int),v',L,W)):=by rintro _ _ _ _ rfl rfl;rfl
  exact e _ _ _ _ (by show ol (hf (i:Int) (j:Int)+1)=_;rw[hw];exact dk aGl aGl) hw
 obtain⟨s,s1,s2,es,hs1,hs2⟩:=Kl (B:=fun d=>tZ jU d.1 d.2.1 d.2.2.1 d.2.2.2.1 d.2.2.2.2.1 d.2.2.2.2.2.1 d.2.2.2.2.2.2.1 d.2.2.2.2.2.2.2.1 d.2.2.2.2.2.2.2.2.1 d.2.2.2.2.2.2.2.2.2.1 d.2.2.2.2.2.2.2.2.2.2.1 d.2.2.2.2.2.2.2.2.2.2.2.1 d.2.2.2.2.2.2.2.2.2.2.2.2.1 d.2.2.2.2.2.2.2.2.2.2.2.2.2.1 d.2.2.2.2.2.2.2.2.2.2.2.2.2.2.1)
  (fun i j:Nat=>((X.length:Int),(i:Int),(j:Int),L,W)) (fun i:Nat=>((X.length:Int),(i:Int),L,W)) (fun c=>key (gt ae L (c:Int))<key x) (lo:=X.length+1) (hi:=X.length+1+Q.length) aGl aGl
  (fun c d h1 h2 h3 hd=>by rw[gQ d aGl h3]at hd;rw[gQ c h1 aGl];exact Int.lt_of_le_of_lt (qw hq (i:=c-X.length-1) (j:=d-X.length-1) aGl aGl) hd)
  (fun i j h1 h2 h3 hp=>by obtain⟨c,hc,e⟩:=step i j h1 h2 h3;exact e.trans (fi (aA (hc.2 hp))))
  (fun i j h1 h2 h3 hp=>by obtain⟨c,hc,e⟩:=step i j h1 h2 h3;exact e.trans (dF (ax (fun q=>hp (hc.1 q)))))
  (fun i h1 h2=>by
   try dsimp only
   unfold tZ;exact aw (ax (show ¬(i:Int)<(i:Int) by omega)) rfl)
 refine⟨s-X.length-1,aGl,?_,?_,?_⟩
 .have:X.length+1+(s-X.length-1)=s:=aGl
  rw[this];exact es
 .intro y hy;obtain⟨i,hi,rfl⟩:=aFy.1 hy;have:=hs1 (X.length+1+i) aGl aGl;rw[gQ _ aGl aGl]at this;have e:X.length+1+i-X.length-1=i:=aGl
  simpa only[e]using this
 .intro y hy;obtain⟨i,hi,rfl⟩:=aFz.1 hy;have:=hs2 (X.length+1+(s-X.length-1+i)) aGl aGl;rw[gQ _ aGl aGl]at this;have e:X.length+1+(s-X.length-1+i)-X.length-1=s-X.length-1+i:=aGl
  simp only[e]at this;omega
end
variable{x:aX}
section
variable{X P Q Y L:List aX}{W:jq}{key:aX->Int}{V:aX->Prop}
theorem aik(F:gG){Z:List aX}(hl:X.length+Q1.length<=400000) :
  IX F (((X.length+1+Q1.length:Nat):Int),(X.length:Int),X++(x::(Q1++Z)),W)=some (X++(Q1++(x::Z)),W):=by
 unfold IX;have w0:ol (((X.length+1+Q1.length:Nat):Int)-1)=((X.length+Q1.length:Nat):Int):=dk aGl aGl;refine fE (fun t:Nat=>(((X.length+1+Q1.length:Nat):Int),((X.length+t:Nat):Int),X++(Q1.take t++(x::(Q1.drop t++Z))),W)) Q1.length rfl ?_ ?_ aGp
 .intro t ht
  try dsimp only
  unfold Bf;refine aD (aA (by rw[w0];omega)) ?_;refine Za (X:=X++Q1.take t) (p:=x) (M:=[]) (q:=Q1[t]) (Y:=Q1.drop (t+1)++Z) (u:=X.length+t) (v:=X.length+t+1) ?_ ?_ ?_ rfl ?_ (fun hset=>?_)
  .rw[BG ht];grind
  .simp;omega
  .simp;omega
  .exact dk aGl aGl
  .refine au (aA rfl) (au (aA rfl) ?_);have e:∀(u v:Int) (A B:List aX),u=v->A=B->(aGt (((X.length+1+Q1.length:Nat):Int),u,A,W):am AY AP)=aGt (((X.length+1+Q1.length:Nat):Int),v,B,W):=by rintro _ _ _ _ rfl rfl;rfl
   refine e _ _ _ _ (show ol (((X.length+t:Nat):Int)+1)=((X.length+(t+1):Nat):Int)from dk aGl aGl) (hset.trans ?_);rw[aFg ht];simp only[bV,ST,Nm]
 .try dsimp only
  unfold Bf;refine aw (ax (by rw[w0];omega)) ?_;have e1:Q1.drop Q1.length=[]:=ask (pi _);have e2:Q1.take Q1.length=Q1:=By (pi _);rw[e1,e2];rfl
theorem agZ(C:kQ W key V)(F:gG)(hL:L=X++(P++([x]++Y)))(hl:L.length<=400000)(hp:dX key P)(hx:V x)(hP:∀y∈P,V y) :
  ∃k,k<=P.length/\Xu F (((X.length+P.length:Nat):Int),(X.length:Int),((X.length+P.length:Nat):Int),L,W)=some (((X.length+P.length:Nat):Int),((X.length+k:Nat):Int),L,W)/\(∀y∈P.take k,key y<=key x)/\∀y∈P.drop k,key x<key y:=by
 have hlen:=zL hL;simp only[cF,GT]at hlen;have gP:∀c,(h0:X.length<=c)->(h:c<X.length+P.length)->gt ae L (c:Int)=P[c-X.length]' aGl:=fun c h1 h2=>BS hL (t:=c-X.length) aGl aGl;have gx:gt ae L ((X.length+P.length:Nat):Int)=x:=BU hL (t:=0) aGn rfl;have step:∀i j:Nat,X.length<=i->i<j->j<=X.length+P.length->∃c:Int,(c<0↔key x<key (gt ae L (((i+j) / 2:Nat):Int))) /\
   tY jU ((X.length+P.length:Nat):Int) (i:Int) (j:Int) L W.1 W.2.1 W.2.2.1 W.2.2.2.1 W.2.2.2.2.1 W.2.2.2.2.2.1 W.2.2.2.2.2.2.1 W.2.2.2.2.2.2.2.1 W.2.2.2.2.2.2.2.2.1 W.2.2.2.2.2.2.2.2.2.1 W.2.2.2.2.2.2.2.2.2.2.1 =
    br (Bool.not (iL c 0)) (aGt (((X.length+P.length:Nat):Int),(((i+j) / 2+1:Nat):Int),(j:Int),L,W)) (aGt (((X.length+P.length:Nat):Int),(i:Int),(((i+j) / 2:Nat):Int),L,W)):=by
  intro i j h1 h2 h3;have hw:hf (i:Int) (j:Int)=(((i+j) / 2:Nat):Int):=BQ aGl;have gh:=gP ((i+j) / 2) aGl aGl;obtain⟨c,e1,e2⟩:=C.cmp L (gt ae L ((X.length+P.length:Nat):Int)) (gt ae L (((i+j) / 2:Nat):Int)) (by rw[gx];exact hx) (by rw[gh];exact hP _ (EQ _));refine⟨c,by rw[<-gx];exact e2,?_⟩;have i1:ar (hf (i:Int) (j:Int)) L.length=true:=by rw[hw];exact aGq
  have i2:ar ((X.length+P.length:Nat):Int) L.length=true:=aGq;have e1':jU ((gt ae L ((X.length+P.length:Nat):Int)).1,(gt ae L ((X.length+P.length:Nat):Int)).2.1,(gt ae L ((X.length+P.length:Nat):Int)).2.2.1,(gt ae L (hf (i:Int) (j:Int))).1,(gt ae L (hf (i:Int) (j:Int))).2.1,(gt ae L (hf (i:Int) (j:Int))).2.2.1,mL W L)=some (c,mL W L):=by rw[hw];exact e1
  unfold tY;refine aD (aA (show(i:Int)<(j:Int) by omega)) (au i2 (au i1 (aT e1' ?_)));have e:∀(u v u' v':Int),u=u'->v=v'->(br (Bool.not (iL c 0)) (aGt (((X.length+P.length:Nat):Int),u,(j:Int),L,W)) (aGt (((X.length+P.length:Nat):Int),(i:Int),v,L,W)):am AU AM)=br (Bool.not (iL c 0)) (aGt (((X.length+P.length:Nat):Int),u',(j:Int),L,W)) (aGt (((X.length+P.length:Nat):Int),(i:Int),v',L,W)):=by rintro _ _ _ _ rfl rfl;rfl
  exact e _ _ _ _ (by show ol (hf (i:Int) (j:Int)+1)=_;rw[hw];exact dk aGl aGl) hw
 obtain⟨s,s1,s2,es,hs1,hs2⟩:=Kl (B:=fun d=>tY jU d.1 d.2.1 d.2.2.1 d.2.2.2.1 d.2.2.2.2.1 d.2.2.2.2.2.1 d.2.2.2.2.2.2.1 d.2.2.2.2.2.2.2.1 d.2.2.2.2.2.2.2.2.1 d.2.2.2.2.2.2.2.2.2.1 d.2.2.2.2.2.2.2.2.2.2.1 d.2.2.2.2.2.2.2.2.2.2.2.1 d.2.2.2.2.2.2.2.2.2.2.2.2.1 d.2.2.2.2.2.2.2.2.2.2.2.2.2.1 d.2.2.2.2.2.2.2.2.2.2.2.2.2.2.1)
  (fun i j:Nat=>(((X.length+P.length:Nat):Int),(i:Int),(j:Int),L,W)) (fun i:Nat=>(((X.length+P.length:Nat):Int),(i:Int),L,W)) (fun c=>¬key x<key (gt ae L (c:Int))) (lo:=X.length) (hi:=X.length+P.length) aGl aGl
  (fun c d h1 h2 h3 hd=>by rw[gP d aGl h3]at hd;rw[gP c h1 aGl];have:=qw hp (i:=c-X.length) (j:=d-X.length) aGl aGl;omega)
  (fun i j h1 h2 h3 hp=>by obtain⟨c,hc,e⟩:=step i j h1 h2 h3;exact e.trans (fi (vH (ax (fun q=>hp (hc.1 q))))))
  (fun i j h1 h2 h3 hp=>by obtain⟨c,hc,e⟩:=step i j h1 h2 h3;exact e.trans (dF (Ga (aA (hc.2 (Classical.not_not.1 hp))))))
  (fun i h1 h2=>by
   try dsimp only
   unfold tY;exact aw (ax (show ¬(i:Int)<(i:Int) by omega)) rfl)
 refine⟨s-X.length,aGl,?_,?_,?_⟩
 .have:X.length+(s-X.length)=s:=aGl
  rw[this];exact es
 .intro y hy;obtain⟨i,hi,rfl⟩:=aFy.1 hy;have:=hs1 (X.length+i) aGl aGl;rw[gP _ aGl aGl]at this;have e:X.length+i-X.length=i:=aGl
  simp only[e]at this;omega
 .intro y hy;obtain⟨i,hi,rfl⟩:=aFz.1 hy;have:=hs2 (X.length+(s-X.length+i)) aGl aGl;rw[gP _ aGl aGl]at this;have e:X.length+(s-X.length+i)-X.length=s-X.length+i:=aGl
  simp only[e]at this;omega
theorem ag0(F:gG)(hl:X.length+P1.length+P2.length<=400000) :
  IL F (((X.length+P1.length:Nat):Int),((X.length+P1.length+P2.length:Nat):Int),X++(P1++(P2++(x::Y))),W)=some (X++(P1++(x::(P2++Y))),W):=by
 unfold IL;refine fE (fun t:Nat=>(((X.length+P1.length:Nat):Int),((X.length+P1.length+(P2.length-t):Nat):Int),X++(P1++(P2.take (P2.length-t)++(x::(P2.drop (P2.length-t)++Y)))),W)) P2.length ?_ ?_ ?_ aGp
 .have e1:P2.drop P2.length=[]:=ask (pi _);have e2:P2.take P2.length=P2:=By (pi _);simp only[Nat.sub_zero,e1,e2];rfl
 .intro t ht
  try dsimp only
  unfold Ba;obtain⟨j,hj⟩:∃j,P2.length-t=j+1:=⟨P2.length-t-1,aGl⟩;have hj':P2.length-(t+1)=j:=aGl
  have hjl:j<P2.length:=aGl
  rw[hj,hj'];have w1:ol (((X.length+P1.length+(j+1):Nat):Int)-1)=((X.length+P1.length+j:Nat):Int):=dk aGl aGl;refine aD aGs ?_;refine Zb (X:=X++(P1++P2.take j)) (q:=P2[j]) (p:=x) (Y:=P2.drop (j+1)++Y) (v:=X.length+P1.length+j) (u:=X.length+P1.length+(j+1)) ?_ ?_ rfl rfl w1 (fun hset=>?_)
  .rw[aFg hjl];simp only[bV,ST,Nm]
  .simp;omega
  .refine au (aA rfl) (au (aA rfl) ?_);have e:∀(u v:Int) (A B:List aX),u=v->A=B->(aGt (((X.length+P1.length:Nat):Int),u,A,W):am AS AL)=aGt (((X.length+P1.length:Nat):Int),v,B,W):=by rintro _ _ _ _ rfl rfl;rfl
   refine e _ _ _ _ w1 (hset.trans ?_);rw[BG hjl];simp only[bV,ST,Nm]
 .try dsimp only
  unfold Ba;rw[Nat.sub_self];exact aw aGr rfl
end
section
variable{X P Q Y L:List aX}{W:jq}{key:aX->Int}{V:aX->Prop}
theorem Qi(C:kQ W key V)(F:gG)(hL:L=X++(P++(Q++Y)))(hl:L.length<=400000)(hp:dX key P)(hq:dX key Q)(hP:∀y∈P,V y)(hQ:∀y∈Q,V y)(a m b mid n:Int){p:Nat}
  (h1:X.length<=lo) (h2:lo<=hi) (h3:hi<=X.length+P.length) (h4:hi+X.length+P.length<=p+1) (h5:p<X.length+P.length+Q.length+lo) :
  ∃s,lo<=s/\s<=hi/\A9 F (a,m,b,mid,n,(lo:Int),(hi:Int),(p:Int),L,W)=some (a,m,b,mid,n,(s:Int),L,W) /\
   (∀c,lo<=c->c<s->¬key (gt ae L ((p-c:Nat):Int))<key (gt ae L (c:Int)))/\∀c,s<=c->c<hi->key (gt ae L ((p-c:Nat):Int))<key (gt ae L (c:Int)):=by
 have hlen:=zL hL;have gP:∀c,(h0:X.length<=c)->(h:c<X.length+P.length)->gt ae L (c:Int)=P[c-X.length]' aGl:=fun c h1 h2=>BS hL (t:=c-X.length) aGl aGl;have gQ:∀c,(h0:X.length+P.length<=c)->(h:c<X.length+P.length+Q.length)->gt ae L (c:Int)=Q[c-X.length-P.length]' aGl:=fun c h1 h2=>BU hL (t:=c-X.length-P.length) aGl aGl;have step:∀i j:Nat,lo<=i->i<j->j<=hi->∃c:Int,(c<0↔key (gt ae L ((p-(i+j) / 2:Nat):Int))<key (gt ae L (((i+j) / 2:Nat):Int))) /\
   tX jU a m b mid n (i:Int) (j:Int) (p:Int) L W.1 W.2.1 W.2.2.1 W.2.2.2.1 W.2.2.2.2.1 W.2.2.2.2.2.1 W.2.2.2.2.2.2.1 W.2.2.2.2.2.2.2.1 W.2.2.2.2.2.2.2.2.1 W.2.2.2.2.2.2.2.2.2.1 W.2.2.2.2.2.2.2.2.2.2.1 =
    br (Bool.not (iL c 0)) (aGt (a,m,b,mid,n,(((i+j) / 2+1:Nat):Int),(j:Int),(p:Int),L,W)) (aGt (a,m,b,mid,n,(i:Int),(((i+j) / 2:Nat):Int),(p:Int),L,W)):=by
  intro i j q1 q2 q3;have hw:hf (i:Int) (j:Int)=(((i+j) / 2:Nat):Int):=BQ aGl;have hv:ol ((p:Int)-hf (i:Int) (j:Int))=((p-(i+j) / 2:Nat):Int):=by rw[hw];exact dk aGl aGl
  have gh:=gP ((i+j) / 2) aGl aGl;have gv:=gQ (p-(i+j) / 2) aGl aGl;obtain⟨c,e1,e2⟩:=C.cmp L (gt ae L ((p-(i+j) / 2:Nat):Int)) (gt ae L (((i+j) / 2:Nat):Int)) (by rw[gv];exact hQ _ (EQ _)) (by rw[gh];exact hP _ (EQ _));refine⟨c,e2,?_⟩;have i1:ar (hf (i:Int) (j:Int)) L.length=true:=by rw[hw];exact aGq
  have i2:ar (ol ((p:Int)-hf (i:Int) (j:Int))) L.length=true:=by rw[hv];exact aGq
  have e1':jU ((gt ae L (ol ((p:Int)-hf (i:Int) (j:Int)))).1,(gt ae L (ol ((p:Int)-hf (i:Int) (j:Int)))).2.1,(gt ae L (ol ((p:Int)-hf (i:Int) (j:Int)))).2.2.1,(gt ae L (hf (i:Int) (j:Int))).1,(gt ae L (hf (i:Int) (j:Int))).2.1,(gt ae L (hf (i:Int) (j:Int))).2.2.1,mL W L)=some (c,mL W L):=by rw[hv,hw];exact e1
  unfold tX;refine aD (aA (show(i:Int)<(j:Int) by omega)) (au i2 (au i1 (aT e1' ?_)));have e:∀(u v u' v':Int),u=u'->v=v'->(br (Bool.not (iL c 0)) (aGt (a,m,b,mid,n,u,(j:Int),(p:Int),L,W))  (aGt (a,m,b,mid,n,(i:Int),v,(p:Int),L,W)):am AR wz)=br (Bool.not (iL c 0)) (aGt (a,m,b,mid,n,u',(j:Int),(p:Int),L,W))  (aGt (a,m,b,mid,n,(i:Int),v',(p:Int),L,W)):=by rintro _ _ _ _ rfl rfl;rfl
  exact e _ _ _ _ (by show ol (hf (i:Int) (j:Int)+1)=_;rw[hw];exact dk aGl aGl) hw
 obtain⟨s,s1,s2,es,hs1,hs2⟩:=Kl (B:=fun d=>tX jU d.1 d.2.1 d.2.2.1 d.2.2.2.1 d.2.2.2.2.1 d.2.2.2.2.2.1 d.2.2.2.2.2.2.1 d.2.2.2.2.2.2.2.1 d.2.2.2.2.2.2.2.2.1 d.2.2.2.2.2.2.2.2.2.1 d.2.2.2.2.2.2.2.2.2.2.1 d.2.2.2.2.2.2.2.2.2.2.2.1 d.2.2.2.2.2.2.2.2.2.2.2.2.1 d.2.2.2.2.2.2.2.2.2.2.2.2.2.1 d.2.2.2.2.2.2.2.2.2.2.2.2.2.2.1 d.2.2.2.2.2.2.2.2.2.2.2.2.2.2.2.1 d.2.2.2.2.2.2.2.2.2.2.2.2.2.2.2.2.1 d.2.2.2.2.2.2.2.2.2.2.2.2.2.2.2.2.2.1 d.2.2.2.2.2.2.2.2.2.2.2.2.2.2.2.2.2.2.1 d.2.2.2.2.2.2.2.2.2.2.2.2.2.2.2.2.2.2.2.1)
  (fun i j:Nat=>(a,m,b,mid,n,(i:Int),(j:Int),(p:Int),L,W)) (fun i:Nat=>(a,m,b,mid,n,(i:Int),L,W)) (fun c=>¬key (gt ae L ((p-c:Nat):Int))<key (gt ae L (c:Int))) (lo:=lo) (hi:=hi) h2 aGl
  (fun c d q1 q2 q3 hd=>by rw[gP d aGl aGl,gQ (p-d) aGl aGl]at hd;rw[gP c aGl aGl,gQ (p-c) aGl aGl];have g1:=qw hp (i:=c-X.length) (j:=d-X.length) aGl aGl;have g2:=qw hq (i:=p-d-X.length-P.length) (j:=p-c-X.length-P.length) aGl aGl;omega)
  (fun i j q1 q2 q3 hp=>by obtain⟨c,hc,e⟩:=step i j q1 q2 q3;exact e.trans (fi (vH (ax (fun q=>hp (hc.1 q))))))
  (fun i j q1 q2 q3 hp=>by obtain⟨c,hc,e⟩:=step i j q1 q2 q3;exact e.trans (dF (Ga (aA (hc.2 (Classical.not_not.1 hp))))))
  (fun i q1 q2=>by
   try dsimp only
   unfold tX;exact aw (ax (show ¬(i:Int)<(i:Int) by omega)) rfl)
 exact⟨s,s1,s2,es,hs1,fun c q1 q2=>Classical.not_not.1 (hs2 c q1 q2)⟩
theorem ag8(hL:L=X++(P++(Q++Y)))(hp:dX key P)(hq:dX key Q){mid s:Nat}(hmid:mid=(X.length+X.length+P.length+Q.length) / 2)(hP2:2<=P.length)(hQ2:2<=Q.length)
  (hlo:(mid<X.length+P.length/\lo=mid+(X.length+P.length)-(X.length+P.length+Q.length)/\hi=mid)\/(X.length+P.length<=mid/\lo=X.length/\hi=X.length+P.length)) (h1:lo<=s) (h2:s<=hi)
  (g1:∀c,lo<=c->c<s->¬key (gt ae L ((mid+(X.length+P.length)-1-c:Nat):Int))<key (gt ae L (c:Int))) (g2:∀c,s<=c->c<hi->key (gt ae L ((mid+(X.length+P.length)-1-c:Nat):Int))<key (gt ae L (c:Int))) :
  (∀x∈P.take (s-X.length),∀y∈Q.drop (mid-s),key x<=key y)/\∀x∈P.drop (s-X.length),∀y∈Q.take (mid-s),key y<key x:=by
 have gP:∀c,(h0:X.length<=c)->(h:c<X.length+P.length)->gt ae L (c:Int)=P[c-X.length]' aGl:=fun c h1 h2=>BS hL (t:=c-X.length) aGl aGl;have gQ:∀c,(h0:X.length+P.length<=c)->(h:c<X.length+P.length+Q.length)->gt ae L (c:Int)=Q[c-X.length-P.length]' aGl:=fun c h1 h2=>BU hL (t:=c-X.length-P.length) aGl aGl;constructor
 .intro x hx y hy;obtain⟨i,hi',rfl⟩:=aFy.1 hx;obtain⟨j,hj,rfl⟩:=aFz.1 hy;have hs:lo<s:=aGl
  have q:=g1 (s-1) aGl aGl;rw[gP (s-1) aGl aGl,gQ (mid+(X.length+P.length)-1-(s-1)) aGl aGl]at q;have r1:=qw hp (i:=i) (j:=s-1-X.length) aGl aGl;have r2:=qw hq (i:=mid+(X.length+P.length)-1-(s-1)-X.length-P.length) (j:=mid-s+j) aGl aGl;omega
 .intro x hx y hy;obtain⟨i,hi',rfl⟩:=aFz.1 hx;obtain⟨j,hj,rfl⟩:=aFy.1 hy;have hs:s<hi:=aGl
  have q:=g2 s aGl aGl;rw[gP s aGl aGl,gQ (mid+(X.length+P.length)-1-s) aGl aGl]at q;have r1:=qw hp (i:=s-X.length) (j:=s-X.length+i) aGl aGl;have r2:=qw hq (i:=j) (j:=mid+(X.length+P.length)-1-s-X.length-P.length) aGl aGl;omega
set_option maxHeartbeats 4000000
theorem afC(C:kQ W key V)(ih:tI W key V (jh k) k):tI W key V (jh (k+1)) (k+1):=by
 intro X P Q Y L A M B hp0 hq0 hk eA eM eB hL hl hp hq hP hQ;subst eA;subst eM;subst eB;have hlen:=zL hL;show ∃R,wy jU (jh k) Bn (XF (jh k)) (IX (jh k)) (Xu (jh k)) (IL (jh k)) (A9 (jh k))
  (X.length:Int) ((X.length+P.length:Nat):Int) ((X.length+P.length+Q.length:Nat):Int) L W.1 W.2.1 W.2.2.1 W.2.2.2.1 W.2.2.2.2.1 W.2.2.2.2.2.1 W.2.2.2.2.2.2.1 W.2.2.2.2.2.2.2.1 W.2.2.2.2.2.2.2.2.1 W.2.2.2.2.2.2.2.2.2.1 W.2.2.2.2.2.2.2.2.2.2.1=some (X++(R++Y),W)/\_
 have wP:ol (((X.length+P.length:Nat):Int)-(X.length:Int))=(P.length:Int):=dk aGl aGl;have wQ:ol (((X.length+P.length+Q.length:Nat):Int)-((X.length+P.length:Nat):Int))=(Q.length:Int):=dk aGl aGl;rcases ww 1 P.length with a1|a1
 .rcases ww 1 Q.length with a2|a2
  .-- two stretches of two at least
   obtain⟨mid,hmid⟩:∃mid,mid=(X.length+X.length+P.length+Q.length) / 2:=⟨_,rfl⟩;have hw:hf (X.length:Int) ((X.length+P.length+Q.length:Nat):Int)=(mid:Int):=by rw[BQ aGl,hmid];congr 2;omega
   have w1:ol (hf (X.length:Int) ((X.length+P.length+Q.length:Nat):Int)+((X.length+P.length:Nat):Int))=((mid+(X.length+P.length):Nat):Int):=by rw[hw];exact dk aGl aGl
   have w2:ol (ol (hf (X.length:Int) ((X.length+P.length+Q.length:Nat):Int)+((X.length+P.length:Nat):Int))-1)=((mid+(X.length+P.length)-1:Nat):Int):=by rw[w1];exact dk aGl aGl
   have tail:∀lo hi s:Nat,((mid<X.length+P.length/\lo=mid+(X.length+P.length)-(X.length+P.length+Q.length)/\hi=mid)\/(X.length+P.length<=mid/\lo=X.length/\hi=X.length+P.length))->lo<=s->s<=hi ->
     (∀c,lo<=c->c<s->¬key (gt ae L ((mid+(X.length+P.length)-1-c:Nat):Int))<key (gt ae L (c:Int)))->(∀c,s<=c->c<hi->key (gt ae L ((mid+(X.length+P.length)-1-c:Nat):Int))<key (gt ae L (c:Int))) ->
     ∃R,Lb (jh k) (X.length:Int) ((X.length+P.length:Nat):Int) ((X.length+P.length+Q.length:Nat):Int) (mid:Int) (s:Int) (ol (((mid+(X.length+P.length):Nat):Int)-(s:Int))) (L,W)=some (X++(R++Y),W)/\cg key (P++Q) R:=by
    intro lo hi s hlh s1 s2 g1 g2;obtain⟨c1,c2⟩:=ag8 hL hp hq hmid a1 a2 hlh s1 s2 g1 g2;have tP:(P.take (s-X.length)).length=s-X.length:=by rw[fD];omega
    have dP:(P.drop (s-X.length)).length=P.length-(s-X.length):=by rw[aFu]
    have tQ:(Q.take (mid-s)).length=mid-s:=by rw[fD];omega
    have dQ:(Q.drop (mid-s)).length=Q.length-(mid-s):=by rw[aFu]
    have eP:P.take (s-X.length)++P.drop (s-X.length)=P:=FS _ _;have eQ:Q.take (mid-s)++Q.drop (mid-s)=Q:=FS _ _;obtain⟨R,r1,r2⟩:=agL (W:=W) (V:=V) ih (X:=X) (P1:=P.take (s-X.length)) (P2:=P.drop (s-X.length)) (Q1:=Q.take (mid-s)) (Q2:=Q.drop (mid-s)) (Y:=Y) (L:=L) (a:=(X.length:Int)) (m:=((X.length+P.length:Nat):Int)) (b:=((X.length+P.length+Q.length:Nat):Int)) (mid:=(mid:Int)) (s:=(s:Int)) (e:=ol (((mid+(X.length+P.length):Nat):Int)-(s:Int)))
     rfl (by rw[tP];omega) (by rw[tP,dP];omega) (by rw[tP,tQ];omega) (by rw[tP,tQ,dP];exact dk aGl aGl) (by rw[tP,tQ,dP,dQ];omega) (by
      rw[hL]
      conv=>lhs;rw[<-eP,<-eQ]
      simp only[bV]) hl (by rw[tP,tQ];omega) (by rw[dP,dQ];omega) (by rw[eP];exact hp) (by rw[eQ];exact hq) (by rw[eP];exact hP) (by rw[eQ];exact hQ) c1 c2
    rw[eP,eQ]at r2;exact⟨R,r1,r2⟩
   unfold wy;rcases ww mid (X.length+P.length)with b1|b1
   .have w3:ol (ol (hf (X.length:Int) ((X.length+P.length+Q.length:Nat):Int)+((X.length+P.length:Nat):Int))-((X.length+P.length+Q.length:Nat):Int))=((mid+(X.length+P.length)-(X.length+P.length+Q.length):Nat):Int):=by rw[w1];exact dk aGl aGl
    obtain⟨s,s1,s2,es,g1,g2⟩:=Qi C (jh k) hL hl hp hq hP hQ (X.length:Int) ((X.length+P.length:Nat):Int) ((X.length+P.length+Q.length:Nat):Int) (mid:Int) ((mid+(X.length+P.length):Nat):Int) (lo:=mid+(X.length+P.length)-(X.length+P.length+Q.length)) (hi:=mid) (p:=mid+(X.length+P.length)-1) aGl aGl aGl aGl aGl;obtain⟨R,r1,r2⟩:=tail _ _ s (.inl ⟨b1,rfl,rfl⟩) s1 s2 g1 g2;have es':A9 (jh k) ((X.length:Int),((X.length+P.length:Nat):Int),((X.length+P.length+Q.length:Nat):Int),hf (X.length:Int) ((X.length+P.length+Q.length:Nat):Int),ol (hf (X.length:Int) ((X.length+P.length+Q.length:Nat):Int)+((X.length+P.length:Nat):Int)),ol (ol (hf (X.length:Int) ((X.length+P.length+Q.length:Nat):Int)+((X.length+P.length:Nat):Int))-((X.length+P.length+Q.length:Nat):Int)),
     hf (X.length:Int) ((X.length+P.length+Q.length:Nat):Int),ol (ol (hf (X.length:Int) ((X.length+P.length+Q.length:Nat):Int)+((X.length+P.length:Nat):Int))-1),L,W)=some ((X.length:Int),((X.length+P.length:Nat):Int),((X.length+P.length+Q.length:Nat):Int),(mid:Int),((mid+(X.length+P.length):Nat):Int),(s:Int),L,W):=by rw[w2,w3,w1,hw];exact es
    refine⟨R,aw (ax (by rw[wP];omega)) (aw (ax (by rw[wQ];omega)) (aD (aA (show hf (X.length:Int) ((X.length+P.length+Q.length:Nat):Int)<((X.length+P.length:Nat):Int) by rw[hw];omega)) (aT es' ?_))),r2⟩;exact r1
   .obtain⟨s,s1,s2,es,g1,g2⟩:=Qi C (jh k) hL hl hp hq hP hQ (X.length:Int) ((X.length+P.length:Nat):Int) ((X.length+P.length+Q.length:Nat):Int) (mid:Int) ((mid+(X.length+P.length):Nat):Int) (lo:=X.length) (hi:=X.length+P.length) (p:=mid+(X.length+P.length)-1) aGl aGl aGl aGl aGl;obtain⟨R,r1,r2⟩:=tail _ _ s (.inr ⟨b1,rfl,rfl⟩) s1 s2 g1 g2;have es':A9 (jh k) ((X.length:Int),((X.length+P.length:Nat):Int),((X.length+P.length+Q.length:Nat):Int),hf (X.length:Int) ((X.length+P.length+Q.length:Nat):Int),ol (hf (X.length:Int) ((X.length+P.length+Q.length:Nat):Int)+((X.length+P.length:Nat):Int)),(X.length:Int),
     ((X.length+P.length:Nat):Int),ol (ol (hf (X.length:Int) ((X.length+P.length+Q.length:Nat):Int)+((X.length+P.length:Nat):Int))-1),L,W)=some ((X.length:Int),((X.length+P.length:Nat):Int),((X.length+P.length+Q.length:Nat):Int),(mid:Int),((mid+(X.length+P.length):Nat):Int),(s:Int),L,W):=by rw[w2,w1,hw];exact es
    refine⟨R,aw (ax (by rw[wP];omega)) (aw (ax (by rw[wQ];omega)) (aw (ax (show ¬hf (X.length:Int) ((X.length+P.length+Q.length:Nat):Int)<((X.length+P.length:Nat):Int) by rw[hw];omega)) (aT es' ?_))),r2⟩;exact r1
  .-- one behind
   obtain⟨x,rfl⟩:∃x,Q=[x]:=List.length_eq_one_iff.1 aGl;have hx:=hQ x aGn;obtain⟨j,j1,e15,g1,g2⟩:=agZ C (jh k) hL hl hp hx hP;have tP:(P.take j).length=j:=by rw[fD];omega
   have dP:(P.drop j).length=P.length-j:=by rw[aFu]
   have eP:P.take j++P.drop j=P:=FS _ _;have e21:=ag0 (W:=W) (Y:=Y) (jh k) (X:=X) (x:=x) (P1:=P.take j) (P2:=P.drop j) aGl;have eL:X++(P.take j++(P.drop j++(x::Y)))=L:=by rw[hL,<-bV (P.take j),eP];rfl
   rw[eL,tP,dP]at e21;have em:X.length+j+(P.length-j)=X.length+P.length:=aGl
   rw[em]at e21;unfold wy;refine⟨(P.take j++[x])++P.drop j,aw (ax (by rw[wP];omega)) (aD (aA (by rw[wQ];rfl)) (aT e15 (aT e21 ?_))),?_⟩
   .refine(IT (fun l:List aX=>(some (l,W):rU)) ?_);simp only[bV,ST,Nm]
   .have sp:=Pl.ma.1 (by rw[eP];exact hp:dX key (P.take j++P.drop j));have:=BM (key:=key) (P1:=P.take j) (P2:=P.drop j) (Q1:=[x]) (Q2:=[]) (R1:=P.take j++[x]) (R2:=P.drop j) (by rw[eP];exact hp) (by rw[dJ];exact hq) (fun _ _ y hy=>by cases hy) (fun y hy z hz=>by simp at hz;subst hz;exact g2 y hy)
     (cg.refl (Pl.ma.2 ⟨sp.1,hq,fun y hy z hz=>by simp at hz;subst hz;exact g1 y hy⟩)) (by rw[dJ];exact cg.refl sp.2.1)
    rw[eP,dJ]at this;exact this
 .-- one ahead
  obtain⟨x,rfl⟩:∃x,P=[x]:=List.length_eq_one_iff.1 aGl;have hx:=hP x aGn;obtain⟨j,j1,e3,g1,g2⟩:=aij C (jh k) hL hl hq hx hQ;have tQ:(Q.take j).length=j:=by rw[fD];omega
  have eQ:Q.take j++Q.drop j=Q:=FS _ _;have e9:=aik (W:=W) (jh k) (X:=X) (x:=x) (Q1:=Q.take j) (Z:=Q.drop j++Y) aGl;have eL:X++(x::(Q.take j++(Q.drop j++Y)))=L:=by rw[hL,<-bV (Q.take j),eQ];rfl
  rw[eL,tQ]at e9;unfold wy;refine⟨Q.take j++(x::Q.drop j),aD (aA (by rw[wP];rfl)) (aT e3 (aT e9 ?_)),?_⟩
  .refine(IT (fun l:List aX=>(some (l,W):rU)) ?_);simp only[bV,ST]
  .have sq:=Pl.ma.1 (by rw[eQ];exact hq:dX key (Q.take j++Q.drop j));have:=BM (key:=key) (P1:=[]) (P2:=[x]) (Q1:=Q.take j) (Q2:=Q.drop j) (R1:=Q.take j) (R2:=x::Q.drop j) hp (by rw[eQ];exact hq) (fun y hy=>by cases hy) (fun y hy z hz=>by simp at hy;subst hy;exact g1 z hz)
    (cg.refl sq.1) (cg.refl (Pl.Kp.2 ⟨g2,sq.2.1⟩))
   rw[eQ]at this;exact this
theorem QI(C:kQ W key V):∀k,tI W key V (jh k) k
 |0=>by intro X P Q Y L A M B h1 h2 h3;omega|k+1=>afC C (QI C k)
theorem Y9(C:kQ W key V):tI W key V IY 1000000:=by intro X P Q Y L A M B h1 h2 h3;exact QI C NN X P Q Y L A M B h1 h2 (rt h3 (Nat.le_of_lt aGp))
end
open Pl (cg dX)
abbrev iS:=List (List aX×List aX)
def f0(bl:iS):List aX:=bl.flatMap (·.1)
def f1(bl:iS):List aX:=bl.flatMap (·.2)
def fJ(key:aX->Int)(bs:Nat)(bl:iS):Prop:=∀p∈bl,p.1.length=bs/\cg key p.1 p.2
theorem Qt(a b:iS):f0 (a++b)=f0 a++f0 b:=by unfold f0;simp
theorem Qu(a b:iS):f1 (a++b)=f1 a++f1 b:=by unfold f1;simp
theorem uf(p:List aX×List aX)(b:iS):f0 (p::b)=p.1++f0 b:=rfl
theorem Ks(p:List aX×List aX)(b:iS):f1 (p::b)=p.2++f1 b:=rfl
theorem wJ(p:List aX×List aX):f1 [p]=p.2:=by simp[f1]
theorem wK(p:List aX×List aX):f0 [p]=p.1:=by simp[f0]
section
variable{W:jq}{key:aX->Int}{V:aX->Prop}
theorem fJ.pq{bs:Nat}:∀{bl:iS},fJ key bs bl->(f0 bl).length=bl.length*bs
 |[],_=>by simp[f0]|p::bl,h=>by rw[uf,aO,(h p aGn).1,fJ.pq (fun q hq=>h q (by simp[hq])),cF,So];omega
theorem fJ.pt{bs:Nat}:∀{bl:iS},fJ key bs bl->(f1 bl).length=bl.length*bs
 |[],_=>by simp[f1]|p::bl,h=>by rw[Ks,aO,(h p aGn).2.len,(h p aGn).1,fJ.pt (fun q hq=>h q (by simp[hq])),cF,So];omega
theorem fJ.app{bs:Nat}{a b:iS}(h:fJ key bs a)(g:fJ key bs b):fJ key bs (a++b):=by
 intro p hp;rcases At.1 hp with q|q
 .exact h p q
 .exact g p q
theorem fJ.one{bs:Nat}{A A':List aX}(h:A.length=bs)(g:cg key A A'):fJ key bs [(A,A')]:=by
 intro p hp
 grind
theorem Zc{A A' B B' R:List aX}(ha:cg key A A')(hb:cg key B B')(h:cg key (A'++B') R):cg key (A++B) R:=cg.QZ (by simp only[aO,ha.len,hb.len]) (fun k=>by rw[Pl.lj,Pl.lj,ha.qf,hb.qf]) h
theorem agI(C:kQ W key V)(hl:S.length<=400000)(hV:∀x∈S,V x) :
  ∃o,XN ((S.length:Int),(20:Int),(0:Int),(20:Int),S,W)=some o/\∃(bl:iS) (R:List aX),o=((S.length:Int),(20:Int),((f1 bl).length:Int),f1 bl++R,W)/\fJ key 20 bl/\S=f0 bl++R/\R.length<20:=by
 unfold XN;delta u16 u4 eJ fe;refine nY (fun d=>∃(bl:iS) (R:List aX),d=((S.length:Int),(20:Int),((f1 bl).length:Int),(((f1 bl).length+20:Nat):Int),f1 bl++R,W)/\fJ key 20 bl/\S=f0 bl++R)
  (fun o=>∃(bl:iS) (R:List aX),o=((S.length:Int),(20:Int),((f1 bl).length:Int),f1 bl++R,W)/\fJ key 20 bl/\S=f0 bl++R/\R.length<20) (fun d=>S.length-d.2.2.1.toNat) ?_ NN _ ⟨[],S,rfl,(fun p hp=>by cases hp),rfl⟩ aGp
 rintro d ⟨bl,R,rfl,hF,hS⟩;have l0:=hF.pq;have l1:=hF.pt;have hn:S.length=(f0 bl).length+R.length:=by rw[hS,aO]
 try dsimp only
 unfold Jn;rcases ww R.length 20 with q|q
 .left;exact⟨_,aw aGr rfl,bl,R,rfl,hF,hS,q⟩
 .right;have eR:R.take 20++R.drop 20=R:=FS _ _;have tR:(R.take 20).length=20:=by rw[fD];omega
  obtain⟨A',e1,hA⟩:=Qz C (X:=f1 bl) (S:=R.take 20) (Y:=R.drop 20) (L:=f1 bl++R) (A:=((f1 bl).length:Int)) (B:=(((f1 bl).length+20:Nat):Int)) rfl (by rw[tR]) (by rw[eR]) (by rw[aO];omega) (fun y hy=>hV y (by rw[hS];simp[arm hy]));have lA:A'.length=20:=hA.len.trans tR;have ef1:f1 (bl++[(R.take 20,A')])=f1 bl++A':=by rw[Qu,wJ]
  refine⟨((S.length:Int),(20:Int),((f1 (bl++[(R.take 20,A')])).length:Int),(((f1 (bl++[(R.take 20,A')])).length+20:Nat):Int),f1 (bl++[(R.take 20,A')])++R.drop 20,W),?_,⟨_,R.drop 20,rfl,hF.app (fJ.one tR hA),?_⟩,?_⟩
  .refine aD aGs (aT e1 ?_);have e:∀(u v u' v':Int) (A B:List aX),u=u'->v=v'->A=B->(aGt ((S.length:Int),(20:Int),u,v,A,W):am Bj Be)=aGt ((S.length:Int),(20:Int),u',v',B,W):=by rintro _ _ _ _ _ _ rfl rfl rfl;rfl
   refine e _ _ _ _ _ _ ?_ ?_ ?_
   .rw[ef1,aO,lA]
   .rw[ef1,aO,lA];exact dk aGl aGl
   .rw[ef1,bV]
  .rw[Qt,wK,bV,eR];exact hS
  grind
theorem agK(C:kQ W key V)(hl:S.length<=400000)(hV:∀x∈S,V x){bs:Nat}(hbs:20<=bs)(hb2:bs<=400000){bl:iS}{R0 R:List aX}(hF:fJ key bs bl)(hR:cg key R0 R)(hRl:R0.length<bs)(hS:S=f0 bl++R0) :
  ∃o,Bl ((S.length:Int),(bs:Int),(0:Int),((2*bs:Nat):Int),f1 bl++R,W)=some o/\∃(ul bl:iS),o=((S.length:Int),(bs:Int),((f1 ul).length:Int),f1 ul++(f1 bl++R),W)/\fJ key (2*bs) ul/\fJ key bs bl/\S=f0 ul++(f0 bl++R0)/\(f1 bl).length+R.length<2*bs:=by
 unfold Bl;delta u16 u4 eJ fe;refine nY (fun d=>∃(ul bl:iS),d=((S.length:Int),(bs:Int),((f1 ul).length:Int),(((f1 ul).length+2*bs:Nat):Int),f1 ul++(f1 bl++R),W)/\fJ key (2*bs) ul/\fJ key bs bl/\S=f0 ul++(f0 bl++R0))
  (fun o=>∃(ul bl:iS),o=((S.length:Int),(bs:Int),((f1 ul).length:Int),f1 ul++(f1 bl++R),W)/\fJ key (2*bs) ul/\fJ key bs bl/\S=f0 ul++(f0 bl++R0)/\(f1 bl).length+R.length<2*bs)
  (fun d=>S.length-d.2.2.1.toNat) ?_ NN _ ⟨[],bl,by show _=((S.length:Int),(bs:Int),((0:Nat):Int),((0+2*bs:Nat):Int),[]++(f1 bl++R),W);rw[aFm];rfl,(fun p hp=>by cases hp),hF,hS⟩ aGp
 rintro d ⟨ul,bl,rfl,hU,hF,hS⟩;have u0:=hU.pq;have u1:=hU.pt;have l0:=hF.pq;have l1:=hF.pt;have lR:=hR.len;have hn:S.length=(f0 ul).length+((f0 bl).length+R0.length):=by rw[hS,aO,aO]
 try dsimp only
 unfold Jl;rcases ww ((f1 bl).length+R.length) (2*bs)with q|q
 .left;exact⟨_,aw aGr rfl,ul,bl,rfl,hU,hF,hS,q⟩
 .right
  match bl,hF,hS,l0,l1,hn,q with
  |[],hF,hS,l0,l1,hn,q=>simp[f1]at q;omega|[p],hF,hS,l0,l1,hn,q=>simp only[cF,GT]at l1;omega|p::p2::bl,hF,hS,l0,l1,hn,q=>
   obtain⟨hp1,hp2⟩:=hF p aGn;obtain⟨hq1,hq2⟩:=hF p2 aGn;have lp:=hp2.len;have lq:=hq2.len;have hF':fJ key bs bl:=fun x hx=>hF x (by simp[hx]);have l0':=hF'.pq;have l1':=hF'.pt;have eL:f1 ul++(f1 (p::p2::bl)++R)=f1 ul++(p.2++(p2.2++(f1 bl++R))):=by rw[Ks,Ks];simp only[bV]
   have lL:(f1 ul++(f1 (p::p2::bl)++R)).length<=400000:=by simp only[aO];omega
   obtain⟨R1,e1,hR1⟩:=Y9 C (f1 ul) p.2 p2.2 (f1 bl++R) (f1 ul++(f1 (p::p2::bl)++R)) ((f1 ul).length:Int) (ol (((f1 ul).length:Int)+(bs:Int))) (((f1 ul).length+2*bs:Nat):Int) aGl aGl aGl rfl (dk aGl aGl) aGl eL lL hp2.oL hq2.oL
    (fun x hx=>hV x (by rw[hS,uf];simp[hp2.mem.1 hx])) (fun x hx=>hV x (by rw[hS,uf,uf];simp[hq2.mem.1 hx]))
   have lR1:R1.length=2*bs:=by rw[hR1.len,aO];omega
   have hSS:cg key (p.1++p2.1) R1:=Zc hp2 hq2 hR1;have ef1:f1 (ul++[(p.1++p2.1,R1)])=f1 ul++R1:=by rw[Qu,wJ]
   refine⟨((S.length:Int),(bs:Int),((f1 (ul++[(p.1++p2.1,R1)])).length:Int),(((f1 (ul++[(p.1++p2.1,R1)])).length+2*bs:Nat):Int),f1 (ul++[(p.1++p2.1,R1)])++(f1 bl++R),W),?_,⟨_,bl,rfl,hU.app (fJ.one (by rw[aO];omega) hSS),hF',?_⟩,?_⟩
   .refine aD (aA (by simp only[cF]at *;omega)) (aT e1 ?_);have e:∀(u v u' v':Int) (A B:List aX),u=u'->v=v'->A=B->(aGt ((S.length:Int),(bs:Int),u,v,A,W):am Bh Bc)=aGt ((S.length:Int),(bs:Int),u',v',B,W):=by rintro _ _ _ _ _ _ rfl rfl rfl;rfl
    refine e _ _ _ _ _ _ ?_ ?_ ?_
    .rw[ef1,aO,lR1]
    .rw[ef1,aO,lR1];have w2:ol ((2:Int)*(bs:Int))=((2*bs:Nat):Int):=dk aGl aGl;have:ol ((((f1 ul).length+2*bs:Nat):Int)+ol ((2:Int)*(bs:Int)))=(((f1 ul).length+2*bs+2*bs:Nat):Int):=by rw[w2];exact dk aGl aGl
     exact this
    .rw[ef1,bV]
   .rw[Qt,wK,hS,uf,uf];simp only[bV]
   .show S.length-(((f1 (ul++[(p.1++p2.1,R1)])).length:Int)).toNat<S.length-(((f1 ul).length:Int)).toNat;rw[ef1,aO,lR1];simp only[cF]at *
    omega
end
variable{bl:iS}{R0:List aX}
section
variable{W:jq}{key:aX->Int}{V:aX->Prop}
theorem agJ(C:kQ W key V)(hl:S.length<=100000)(hV:∀x∈S,V x){R:List aX}(hF:fJ key 20 bl)(hR:cg key R0 R)(hRl:R0.length<20)(hS:S=f0 bl++R0) :
  ∃o,XM ((S.length:Int),(20:Int),f1 bl++R,W)=some o/\∃S',o=(S',W)/\cg key S S':=by
 unfold XM;delta mK u2 eJ fe;refine nY (fun d=>∃(bs:Nat) (bl:iS) (R0 R:List aX),d=((S.length:Int),(bs:Int),f1 bl++R,W)/\20<=bs/\bs<=400000/\fJ key bs bl/\cg key R0 R/\R0.length<bs/\S=f0 bl++R0)
  (fun o=>∃S',o=(S',W)/\cg key S S') (fun d=>S.length-d.2.1.toNat) ?_ NN _ ⟨20,bl,R0,R,rfl,pi _,aGo,hF,hR,hRl,hS⟩ aGp
 rintro d ⟨bs,bl,R0,R,rfl,hbs,hb2,hF,hR,hRl,hS⟩;have l0:=hF.pq;have l1:=hF.pt;have lR:=hR.len;have hn:S.length=(f0 bl).length+R0.length:=by rw[hS,aO]
 try dsimp only
 unfold Jm;rcases ww bs S.length with q|q
 .right;obtain⟨o,e9,ul,bl',rfl,hU,hF',hS',hlt⟩:=agK C aGl hV hbs hb2 hF hR hRl hS;have u0:=hU.pq;have u1:=hU.pt;have l0':=hF'.pq;have l1':=hF'.pt;have hn':S.length=(f0 ul).length+((f0 bl').length+R0.length):=by rw[hS',aO,aO]
  have w2:ol ((2:Int)*(bs:Int))=((2*bs:Nat):Int):=dk aGl aGl;have w3:ol ((bs:Int)*(2:Int))=((2*bs:Nat):Int):=dk aGl aGl;have wm:ol (((f1 ul).length:Int)+(bs:Int))=(((f1 ul).length+bs:Nat):Int):=dk aGl aGl;have e9':Bl ((S.length:Int),(bs:Int),(0:Int),ol ((2:Int)*(bs:Int)),f1 bl++R,W)=some ((S.length:Int),(bs:Int),((f1 ul).length:Int),f1 ul++(f1 bl'++R),W):=by rw[w2];exact e9
  have e:∀(u u':Int) (A B:List aX),u=u'->A=B->(aGt ((S.length:Int),u,A,W):am Bi Bd)=aGt ((S.length:Int),u',B,W):=by rintro _ _ _ _ rfl rfl;rfl
  rcases ww bs ((f1 bl').length+R.length)with g|g
  .match bl',hF',hS',l0',l1',hn',hlt,g,e9' with
   |[],hF',hS',l0',l1',hn',hlt,g,e9'=>simp[f1]at g;omega|p::p2::bl',hF',hS',l0',l1',hn',hlt,g,e9'=>simp only[cF,So]at l1';omega|[p],hF',hS',l0',l1',hn',hlt,g,e9'=>
    obtain⟨hp1,hp2⟩:=hF' p aGn;have lp:=hp2.len;rw[wJ]at g l1' hlt e9';rw[wK]at l0' hS' hn';simp only[cF,GT]at l1' l0';have lL:(f1 ul++(p.2++R)).length<=400000:=by simp only[aO];omega
    obtain⟨R1,e1,hR1⟩:=Y9 C (f1 ul) p.2 R [] (f1 ul++(p.2++R)) ((f1 ul).length:Int) (ol (((f1 ul).length:Int)+(bs:Int))) (S.length:Int) aGl aGl aGl rfl (by rw[wm];congr 2;omega) (by congr 1;omega) (by rw[dJ]) lL hp2.oL hR.oL
     (fun x hx=>hV x (by rw[hS'];simp[hp2.mem.1 hx])) (fun x hx=>hV x (by rw[hS'];simp[hR.mem.1 hx]))
    refine⟨((S.length:Int),((2*bs:Nat):Int),f1 ul++R1,W),aD aGs (aT e9' (aD (aA (show ol (((f1 ul).length:Int)+(bs:Int))<(S.length:Int) by rw[wm];omega)) (aT e1 (e _ _ _ _ w3 (by rw[dJ]))))),⟨2*bs,ul,p.1++R0,R1,rfl,aGl,aGl,hU,Zc hp2 hR hR1,by simp only[aO];omega,hS'⟩,?_⟩;show S.length-(((2*bs:Nat):Int)).toNat<S.length-((bs:Int)).toNat;omega
  .-- one block at most,and nothing behind it
   have hrest:cg key (f0 bl'++R0) (f1 bl'++R):=by
    match bl',hF',l1',g with
    |[],hF',l1',g=>exact hR|[p],hF',l1',g=>obtain⟨hp1,hp2⟩:=hF' p aGn;rw[wJ]at g l1' |-;rw[wK];simp only[cF,GT]at l1';have h0:R0=[]:=ut aGl;have h1:R=[]:=ut aGl;rw[h0,h1,dJ,dJ];exact hp2
    |p::p2::bl',hF',l1',g=>simp only[cF,So]at l1';omega
   refine⟨((S.length:Int),((2*bs:Nat):Int),f1 ul++(f1 bl'++R),W),aD aGs (aT e9' (aw (ax (show ¬ol (((f1 ul).length:Int)+(bs:Int))<(S.length:Int) by rw[wm];omega)) (e _ _ _ _ w3 rfl))),⟨2*bs,ul,f0 bl'++R0,f1 bl'++R,rfl,aGl,aGl,hU,hrest,by simp only[aO];omega,hS'⟩,?_⟩;show S.length-(((2*bs:Nat):Int)).toNat<S.length-((bs:Int)).toNat;omega
 .left;refine⟨(f1 bl++R,W),aw aGr rfl,_,rfl,?_⟩;rw[hS]
  match bl,hF,l0,l1,hn with
  |[],hF,l0,l1,hn=>exact hR|[p],hF,l0,l1,hn=>obtain⟨hp1,hp2⟩:=hF p aGn;rw[wK]at hn l0 |-;rw[wJ];simp only[cF,GT]at l0;have h0:R0=[]:=ut aGl;have h1:R=[]:=ut aGl;rw[h0,h1,dJ,dJ];exact hp2
  |p::p2::bl,hF,l0,l1,hn=>simp only[cF,So]at l0;omega
theorem avy(C:kQ W key V)(hl:S.length<=100000)(hV:∀x∈S,V x):∃S',atv (S,W)=some (S',W)/\cg key S S':=by
 obtain⟨o,e2,bl,R,rfl,hF,hS,hR⟩:=agI C aGl hV;have l0:=hF.pq;have l1:=hF.pt;have hn:S.length=(f0 bl).length+R.length:=by grind
 obtain⟨R',e3,hR'⟩:=Qz C (X:=f1 bl) (S:=R) (Y:=[]) (L:=f1 bl++R) (A:=((f1 bl).length:Int)) (B:=(S.length:Int)) rfl (by congr 1;omega) (by grind) (by grind) (fun y hy=>hV y (by rw[hS];simp[hy]));obtain⟨o,e7,S',rfl,hS'⟩:=agJ C hl hV hF hR' aGl hS;rw[dJ]at e3;have e:aue ((S.length:Int),S,W)=some (S',W):=aT e2 (aT e3 (aT e7 rfl));exact⟨S',aT e rfl,hS'⟩
end
open Go.Proofs.YtjflbmpepamfjaaGreat.Pl
theorem Kq{a b:Bool}(ha:a=true)(h:aq b y=z):aq (both a b) y=z:=by subst ha;exact h
theorem afS(a b:Int):∃c:Int,JR (a,b,())=some (c,())/\(c<0↔a<b):=by
 have nn:∀x:Int,YB (x,())=some (false,()):=fun x=>by
  show JW x=_;unfold JW;have e:∀b:Bool,b=true->(some (Bool.not b,()):Option (TL BA))=some (false,()):=by rintro _ rfl;rfl
  exact e _ (aA rfl)
 have un:∀c:Option (TL Bw),wG YB a b=c->JR (a,b,())=c:=fun c h=>h;rcases Int.lt_trichotomy a b with h|h|h
 .refine⟨-1,un _ ?_,aGl⟩;unfold wG;exact aT (nn a) (aT (nn b) (aw rfl (aw rfl (aD (aA h) rfl))))
 .refine⟨0,un _ ?_,aGl⟩;unfold wG;exact aT (nn a) (aT (nn b) (aw rfl (aw rfl (aw aGr (aw aGr rfl)))))
 .refine⟨1,un _ ?_,aGl⟩;unfold wG;exact aT (nn a) (aT (nn b) (aw rfl (aw rfl (aw aGr (aD (aA h) rfl)))))
def wR(n:aZ)(of m lv:io):jq:=(n.vars,n.bz,n.aB.map cY,n.bN,n.bO,n.constraints,n.aa.map aF,n.al.map cW,of,m,lv,())
def nI(n:aZ)(x:aX):bE:=
 match x.1 with
 |true=>(match n.aa[x.2.1.toNat]? with|some M=>(match M.reads[x.2.2.1.toNat]? with|some r=>nV M.word r|none=>⟨[],[]⟩)|none=>⟨[],[]⟩)
 |false=>(match n.al[x.2.2.1.toNat]? with|some a=>oc a|none=>⟨[],[]⟩)
variable{n:aZ}
theorem aiG{y:bG}{i:bE}(h:y.is n i):nI n (fh y)=i:=by
 rcases h with⟨h,a,ha,rfl⟩|⟨h,M,r,hM,hr,rfl⟩
 .unfold nI fh;grind
 .unfold nI fh;grind
def lk(lv:io)(i:bE):Int:=aC lv (i.to.headD 0).toNat
variable{lv:io}{m:io}{of:io}
theorem QJ{L:List aX}{x:bG}{i:bE}(h:x.is n i)(ft:Fit n)(hw:∀M∈n.aa,0<=M.word) :
  xB (x.rd,(x.mem:Int),(x.pos:Int),mL (wR n of m lv) L)=some (i.to,mL (wR n of m lv) L):=by
 show xJ MX x.rd (x.mem:Int) (x.pos:Int) n.vars n.bz (n.aB.map cY) n.bN n.bO n.constraints (n.aa.map aF) (n.al.map cW) of L m lv=_;unfold xJ;rcases h with⟨h,a,ha,rfl⟩|⟨h,M,r,hM,hr,rfl⟩
 .have ha':(n.al.map cW)[x.pos]?=some (cW a):=by grind
  have hl:=js ha';rw[h,dF rfl,dT aGq,bP ha'];rfl
 .have hM':(n.aa.map aF)[x.mem]?=some (aF M):=by grind
  have hl:=js hM';have hmem:=ep hM;have hf:=ft.aa.2 M hmem;have hr2:=hf.gC r (ep hr);rw[h,fi rfl,dT aGq,bP hM'];exact(cM (Hb M x.pos r hr ⟨hw M hmem,hf.word.2⟩ ⟨hr2.2.1,hr2.2.2.1⟩)).trans rfl
theorem aip{V:Nat}(hs:dx n V)(ft:Fit n)(hl:lv.length=V+1)(key:aX->Int)(hk:∀x∈n6 n,key (fh x.1)=lk lv x.2)(his:∀x∈n6 n,x.1.is n x.2) :
  kQ (wR n of m lv) key (fun x=>∃y∈n6 n,x=fh y.1):=by
 refine⟨fun L x y hx hy=>?_⟩;obtain⟨x,hx,rfl⟩:=hx;obtain⟨y,hy,rfl⟩:=hy;have hw:∀M∈n.aa,0<=M.word:=fun M hM=>by have:=(hs.aa M hM).2.2.1;omega
 have hd:∀z∈n6 n,∃(v:Nat) (t:io),z.2.to=(v:Int)::t/\v<=V/\key (fh z.1)=aC lv v:=by
  intro z hz;have hm:z.2∈fy n:=by rw[<-ue];exact abs hz
  have h1:=hs.Lv hm;have h2:=hk z hz;unfold lk at h2
  match e:z.2.to with
  |[]=>exact absurd e h1|v::t=>
   have h3:=hs.qn hm (v:=v) (by rw[e];simp)
   grind
 obtain⟨vx,tx,ex,bx,kx⟩:=hd x hx;obtain⟨vy,ty,ey,bY,ky⟩:=hd y hy;have f1:=QJ (of:=of) (m:=m) (lv:=lv) (L:=L) (his x hx) ft hw;have f2:=QJ (of:=of) (m:=m) (lv:=lv) (L:=L) (his y hy) ft hw;obtain⟨c,hc,hiff⟩:=afS (aC lv vx) (aC lv vy);refine⟨c,?_,by rw[kx,ky];exact hiff⟩;have g0:gt .I x.2.to (0:Int)=(vx:Int):=bP (σ:=.I) (i:=0) (by rw[ex];rfl);have g1:gt .I y.2.to (0:Int)=(vy:Int):=bP (σ:=.I) (i:=0) (by rw[ey];rfl);have gx:gt .I lv (vx:Int)=aC lv vx:=bP (σ:=.I) (wi aGl);have gy:gt .I lv (vy:Int)=aC lv vy:=bP (σ:=.I) (wi aGl);have ix:ar (vx:Int) lv.length=true:=aGq;have iy:ar (vy:Int) lv.length=true:=aGq;have nx:ar (0:Int) (List.length x.2.to)=true:=bC ⟨aGl,by rw[ex];simp⟩;have ny:ar (0:Int) (List.length y.2.to)=true:=bC ⟨aGl,by rw[ey];simp⟩;have jx:ar (gt .I x.2.to (0:Int)) lv.length=true:=by rw[g0];exact ix
 have jy:ar (gt .I y.2.to (0:Int)) lv.length=true:=by rw[g1];exact iy
 have hc':JR ((gt .I lv (gt .I x.2.to (0:Int))),(gt .I lv (gt .I y.2.to (0:Int))),())=some (c,()):=by rw[g0,g1,gx,gy];exact hc
 refine aT f1 (au nx (au jx (Kq (aA rfl) (Kq (aA rfl) (Kq (aA rfl) (au rfl (aT f2 (au ny (au jy (au nx (au (aA rfl) (au (aA rfl) (au jx (au (aA rfl) (au (aA rfl) (aT hc' rfl))))))))))))))))
theorem FI(n:aZ):(n6 n).map (fun x:bG×bE=>x.1)=dS n:=by
 unfold n6 A6 M6 dS;rw[dE,gb,gb];congr 1
 .exact List.map_fst_zip (by rw[uJ,aR];omega)
 .exact List.map_fst_zip (by rw[uF];omega)
theorem vG(n:aZ){x:bG×bE}(h:x∈n6 n):x.1.is n x.2:=by
 obtain⟨i,hi⟩:=aFd h;have h1:(dS n)[i]?=some x.1:=by rw[<-FI,dO,hi];rfl
 have h2:(fy n)[i]?=some x.2:=by rw[<-ue,dO,hi];rfl
 obtain⟨y,e,hy⟩:=Hq n h1
 grind
def lvl(n:aZ)(V:Nat):io:=jt (bh n) ((n6 n).length+1) (jX (bh n) V)
def jn(n:aZ)(V:Nat):List (bG×bE):=(List.range (n6 n).length).flatMap fun(i:Nat)=>(n6 n).filter fun x=>decide (lk (lvl n V) x.2=(i:Int)+1)
theorem QE{V:Nat}(hs:dx n V)(hv:v<=V)(hl:cN (bh n) v k):aC (lvl n V) v=(k:Int):=by
 unfold lvl;have:(n6 n).length=(bh n).length:=by rw[<-tT,aR]
 rw[this];exact au5 hs.apart hs.aU hv hl
theorem Zi{V:Nat}(hs:dx n V){x:bG×bE}(h:x∈n6 n):(x.2.to.headD 0).toNat<=V/\(x.2.to.headD 0).toNat∈x.2.nd.to/\x.2.nd∈bh n:=by
 have hm:x.2∈fy n:=by rw[<-ue];exact abs h
 have h1:=hs.Lv hm;refine⟨?_,?_,?_⟩
 .match e:x.2.to with|[]=>exact absurd e h1|v::t=>have h3:=hs.qn hm (v:=v) (by rw[e];simp);rw[List.headD_cons];omega
 .unfold bE.nd
  match e:x.2.to with|[]=>exact absurd e h1|v::t=>simp
 .unfold bh;exact abs hm
theorem QD{V:Nat}(hs:dx n V)(ha:gN (bh n) V=true){x:bG×bE}(h:x∈n6 n):1<=lk (lvl n V) x.2/\lk (lvl n V) x.2<=((n6 n).length:Int):=by
 obtain⟨h1,h2,h3⟩:=Zi hs h;obtain⟨k,hk⟩:=(Ak hs.apart V).1 ha _ h1;unfold lk;rw[QE hs h1 hk];have:(n6 n).length=(bh n).length:=by rw[<-tT,aR]
 have hle:=hk.le hs.apart;obtain⟨f,_,e⟩:=hk.inv hs.apart h3 h2;omega
theorem au3{V:Nat}(hs:dx n V)(ft:Fit n)(h0:fx n=0) :
  au4 (bX n,())=some (if gN (bh n) V then((jn n V).map (fun x=>fh x.1),true,())else([],false,())):=by
 have es:qJ (bX n,())=some (fx n,()):=by unfold qJ;rw[show kI ((bX n,()):TL [bD]).1=n from nD n,Vo ft];rfl
 have ew:=Zf hs ft;obtain⟨m,lv,ea,hlv⟩:=Qk hs ft;by_cases ha:gN (bh n) V=true
 .obtain⟨hll,hlv⟩:=hlv ha;have et:xL (nt n ())=aGu ((0:Int),wk n V m lv):=by refine aT es (aw (by rw[h0];rfl) (aT ew (aT ea (aw (by rw[ha];rfl) rfl))))
  rw[BY ha]
  let key:aX->Int:=fun x=>lk (lvl n V) (nI n x)
  have hkey:∀x∈n6 n,key (fh x.1)=lk (lvl n V) x.2:=fun x hx=>by show lk (lvl n V) (nI n (fh x.1))=_;rw[aiG (vG n hx)]
  have hk:∀x∈n6 n,key (fh x.1)=lk lv x.2:=fun x hx=>by rw[hkey x hx];obtain⟨h1,h2,h3⟩:=Zi hs hx;unfold lk;obtain⟨k,e1,e2⟩:=hlv _ h1;rw[e1,QE hs h1 e2]
  have hN:(dS n).map fh=(n6 n).map (fun x=>fh x.1):=by rw[<-FI,aFF];rfl
  have hlen:(n6 n).length<=3000:=(F8 hs).len;obtain⟨S',e1,hS⟩:=avy (aip hs ft (of:=fH (bh n) V (bh n).length) (m:=m) hll key hk (fun x hx=>vG n hx)) (S:=(dS n).map fh) (by rw[hN,aR];omega) (fun x hx=>by grind);have hS':S'=(jn n V).map (fun x=>fh x.1):=by
   refine(hS.flat (n6 n).length (fun x hx=>?_)).trans ?_
   .rw[hN]at hx;obtain⟨y,hy,rfl⟩:=IN.1 hx;rw[hkey y hy];exact QD hs ha hy
   .unfold jn;rw[List.map_flatMap,hN];congr 1;funext i;unfold fk;rw[List.filter_map];congr 1;refine List.filter_congr fun x hx=>?_;show decide (key (fh x.1)=_)=_;rw[hkey x hx]
  rw[<-hS'];refine aT et (aw rfl ?_);exact aT e1 rfl
 .rw[rx ha];have hc:gN (bh n) V=false:=by simpa using ha
  have et:xL (nt n ())=aGt ((8:Int),()):=by refine aT es (aw (by rw[h0];rfl) (aT ew (aT ea (aD (by rw[hc];rfl) rfl))))
  exact aT et (au rfl rfl)
