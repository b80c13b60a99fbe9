import Derived.Test.YtmkbdfidnfmgmaaGreatKRd
import Derived.Test.YtmkbdfidnfmgmaaGreatKCb
set_option linter.all false
section
namespace Go.Proofs.YtmkbdfidnfmgmaaGreat.V
open Go Go.RowKit
set_option maxRecDepth 1000000
abbrev vm:List (Nat×LO):=[(0,.cells [.I,.fz .I,.fz ae,.fz .I,.fz .I,.fz .I,.fz ai,.fz ae,.hd 1 .bool,.hd 2 .bool,.hd 6 .I,.mp 4,.mp 5] 110),(1,.arr .bool 4),(2,.arr .bool 4),(4,.map .i64 .I),(5,.map .i64 .I),(6,.arr .I 3)]
abbrev Ih:List LA:=[.I,.fz .I,.fz ae,.fz .I,.fz .I,.fz .I,.fz ai,.fz ae,.hd 2 .bool,.hd 3 .bool,.hd 4 .I,.mp 5,.mp 6]
abbrev vp:List (Nat×LO):=[(0,.cells [.ptr 1 0] 105),(1,.cells Ih 110),(2,.arr .bool 4),(3,.arr .bool 4),(4,.arr .I 3),(5,.map .i64 .I),(6,.map .i64 .I),(7,.cells dx 27),(8,.arr .I 3)]
abbrev Ic:List (Nat×LO):=[(0,.cells dx 27),(1,.cells [.hd 2 .bool] 28),(2,.arr .bool 4),(3,.cells [.ptr 4 0] 152),(4,.cells [.I,.fz .I,.fz ae,.fz .I,.fz .I,.fz .I,.fz ai,.fz ae,.hd 5 .I,.hd 6 aH,.hd 7 (.int .u8),.hd 8 .I] 160),(5,.arr .I 3),(6,.arr aH 146),(7,.arr (.int .u8) 5),(8,.arr .I 3),(9,.cells [.func 188 [] [.ptr 0 0,.ptr 1 0,.ptr 3 0,.ptr 9 0]] 213)]
abbrev Ie:List (Nat×LO):=[(0,.cells dx 27),(1,.cells [.I,.fz .I,.fz ae,.fz .I,.fz .I,.fz .I,.fz ai,.fz ae,.hd 2 .bool,.hd 3 .bool,.aR,.mp 4,.mp 5] 110),(2,.arr .bool 4),(3,.arr .bool 4),(4,.map .i64 .I),(5,.map .i64 .I)]
abbrev Ig:List (Nat×LO):=[(0,.cells [.I,.fz .I,.fz ae,.fz .I,.fz .I,.fz .I,.fz ai,.fz ae,.hd 1 .bool,.hd 2 .bool,.hd 3 .I,.mp 4,.mp 5] 110),(1,.arr .bool 4),(2,.arr .bool 4),(3,.arr .I 3),(4,.map .i64 .I),(5,.map .i64 .I)]
abbrev Sn:List LA:=[.I,.fz .I,.fz ae,.fz .I,.fz .I,.fz .I,.fz ai,.fz ae,.hd 7 .bool,.hd 8 .bool,.hd 9 .I,.mp 10,.mp 11]
abbrev oO:List LA:=[.I,.aR,.aR,.aR,.aR,.aR,.aR,.aR]
abbrev agv:List (Nat×LO):=[(0,.cells dx 27),(1,.cells [.I,.fz .I,.fz ae,.fz .I,.fz .I,.fz .I,.fz ai,.fz ae,.hd 2 .bool,.hd 3 .bool,.aR,.mp 4,.mp 5] 110),(2,.arr .bool 4),(3,.arr .bool 4),(4,.map .i64 .I),(5,.map .i64 .I),(6,.cells [.I,.I,.bool,.fz bO,.fz bu] 97)]
abbrev agw:List (Nat×LO):=[(0,.cells dx 27),(1,.cells [.I,.aR,.aR,.aR,.aR,.aR,.aR,.aR,.hd 2 .I,.hd 3 .I,.hd 4 .I] 46),(2,.arr .I 3),(3,.arr .I 3),(4,.arr .I 3),(5,.cells [.ptr 6 0] 105),(6,.cells Sn 110),(7,.arr .bool 4),(8,.arr .bool 4),(9,.arr .I 3),(10,.map .i64 .I),(11,.map .i64 .I),(12,.cells [.I,.hd 13 .I,.hd 14 ae,.aR,.fz .I,.fz .I,.hd 15 ai,.aR] 27),(13,.arr .I 3),(14,.arr ae 78),(15,.arr ai 97)]
abbrev acp:List (Nat×LO):=[(0,.cells dx 27),(1,.cells [.I,.aR,.aR,.aR,.aR,.aR,.aR,.aR,.hd 2 .I,.hd 3 .I,.hd 4 .I] 46),(2,.arr .I 3),(3,.arr .I 3),(4,.arr .I 3),(5,.cells [.ptr 6 0] 105),(6,.cells Sn 110),(7,.arr .bool 4),(8,.arr .bool 4),(9,.arr .I 3),(10,.map .i64 .I),(11,.map .i64 .I),(12,.cells [.I,.hd 13 .I,.hd 14 ae,.aR,.fz .I,.fz .I,.aR,.aR] 27),(13,.arr .I 3),(14,.arr ae 78)]
abbrev acq:List (Nat×LO):=[(0,.cells dx 27),(1,.cells [.I,.aR,.aR,.aR,.aR,.aR,.aR,.aR,.hd 2 .I,.hd 3 .I,.hd 4 .I] 46),(2,.arr .I 3),(3,.arr .I 3),(4,.arr .I 3),(5,.cells [.ptr 6 0] 105),(6,.cells Sn 110),(7,.arr .bool 4),(8,.arr .bool 4),(9,.arr .I 3),(10,.map .i64 .I),(11,.map .i64 .I),(12,.cells [.I,.hd 13 .I,.aR,.aR,.fz .I,.fz .I,.aR,.aR] 27),(13,.arr .I 3)]
abbrev O9:List (Nat×LO):=[(0,.cells dx 27),(1,.cells oO 27),(2,.arr .bool 4),(3,.cells [.I,.hd 4 .I,.fz ae,.fz .I,.fz .I,.fz .I,.fz ai,.fz ae] 27),(4,.arr .I 3),(5,.arr .I 3)]
abbrev Pa:List (Nat×LO):=[(0,.cells [.ptr 1 0] 105),(1,.cells Ih 110),(2,.arr .bool 4),(3,.arr .bool 4),(4,.arr .I 3),(5,.map .i64 .I),(6,.map .i64 .I),(7,.arr .I 3)]
abbrev acr:List (Nat×LO):=[(0,.cells [.I,.fz .I,.fz ae,.fz .I,.fz .I,.fz .I,.fz ai,.fz ae,.hd 1 .bool,.hd 2 .bool,.hd 3 .I,.mp 4,.mp 5] 110),(1,.arr .bool 4),(2,.arr .bool 4),(3,.arr .I 3),(4,.map .i64 .I),(5,.map .i64 .I),(6,.arr .I 3)]
abbrev FF:List LA:=[.I,.fz .I,.fz ae,.fz .I,.fz .I,.fz .I,.fz ai,.hd 3 ae]
abbrev acs:List (Nat×LO):=[(0,.cells dx 27),(1,.cells oO 27),(2,.arr .bool 4),(3,.cells [.I,.hd 4 .I,.fz ae,.fz .I,.fz .I,.fz .I,.fz ai,.fz ae] 27),(4,.arr .I 3)]
abbrev acu:List (Nat×LO):=[(0,.cells oO 27),(1,.cells [.I,.fz .I,.fz ae,.fz .I,.fz .I,.fz .I,.fz ai,.hd 2 ae] 27),(2,.arr ae 113),(3,.arr .I 3)]
abbrev acv:List (Nat×LO):=[(0,.cells [.ptr 1 0] 105),(1,.cells Ih 110),(2,.arr .bool 4),(3,.arr .bool 4),(4,.arr .I 3),(5,.map .i64 .I),(6,.map .i64 .I),(7,.cells dx 27)]
abbrev acw:ak:=⟨[(1,.ptr 0 0),(3,.ptr 1 0),(6,.I),(7,.ptr 6 0),(41,.fz ai),(42,.I),(43,.I),(50,.I),(51,.I)],agv,7⟩
abbrev uQ:ak:=⟨[],vm,7⟩
abbrev acx:List LA:=[.I,.aR,.aR,.aR,.aR,.aR,.aR,.aR,.hd 1 .I,.hd 2 .I,.hd 3 .I]
abbrev acy:ak:=⟨[(1,.ptr 0 0),(3,.ptr 1 0),(41,.fz ai),(42,.I),(43,.I)],Ie,6⟩
abbrev Pb:List (Tmp×LA):=[(1,.ptr 0 0),(2,.ptr 1 0),(5,.ptr 5 0),(6,.ptr 12 0)]
abbrev Yq:ak:=⟨[(0,.I),(1,.ptr 0 0),(2,.ptr 1 0),(3,.ptr 3 0),(4,.ptr 9 0)],Ic,10⟩
abbrev MI:List (Ev.Ex×ak):=[(.ret,⟨[],Ic,10⟩)]
abbrev sx:=be Yq MI
abbrev qJ:=Kb 188 5 Yq 0 MI
abbrev Dw:ak:=⟨[(4,.ptr 9 0),(48,.fz .I),(49,.I),(50,.I)],Ic,10⟩
abbrev Dp:List (Ev.Ex×ak):=[((.exit 0),⟨[],Ic,10⟩)]
abbrev Yv:=be Dw Dp
abbrev MP:=Ld 10 59 (bI [0] (bt Tryz.f188)) Dw Dp
def MO(F0:pX)(F1:sx)(t48:jp)(t49 t50 ay:Int)(aC:jp)(av:bv)(aD aE aI:jp)(au:ce)(aw:bv)(b2:kw)(mT:Int)(rq:jp)(ru:bv)(ry rz rA:jp)(rB:ce)(rC:bv)(b5:jp)(b6:eq)(b7 b8:jp):am Dw Dp:=
 br (iL t50 t49)
 (
  aj (an t50 t48.length)<|
  aA (F0 ((gt .I t48 t50),())) fun x0=>
  aA (F1 (x0.1,ay,aC,av,aD,aE,aI,au,aw,b2,mT,rq,ru,ry,rz,rA,rB,rC,b5,b6,b7,b8,())) fun x1=>
  aul (t48,t49,(pu (t50+(1:Int))),x1))
 (
  aum (ay,aC,av,aD,aE,aI,au,aw,b2,mT,rq,ru,ry,rz,rA,rB,rC,b5,b6,b7,b8,()))
def ai0(c0:oD)(c1:qJ) :MP:=bJ (pg (MO c0.F c1.F)) (pL (kD c0 (kB c1 k0)) e0 1 l0 fun d=>aud)
def ai1(s:qJ):MP:=ai0 pY s
def MR(F:sx):Yv:=bj (fun d=>MO oT F  d.1 d.2.1 d.2.2.1 d.2.2.2.1 d.2.2.2.2.1 d.2.2.2.2.2.1 d.2.2.2.2.2.2.1 d.2.2.2.2.2.2.2.1 d.2.2.2.2.2.2.2.2.1 d.2.2.2.2.2.2.2.2.2.1 d.2.2.2.2.2.2.2.2.2.2.1 d.2.2.2.2.2.2.2.2.2.2.2.1 d.2.2.2.2.2.2.2.2.2.2.2.2.1 d.2.2.2.2.2.2.2.2.2.2.2.2.2.1 d.2.2.2.2.2.2.2.2.2.2.2.2.2.2.1 d.2.2.2.2.2.2.2.2.2.2.2.2.2.2.2.1 d.2.2.2.2.2.2.2.2.2.2.2.2.2.2.2.2.1 d.2.2.2.2.2.2.2.2.2.2.2.2.2.2.2.2.2.1 d.2.2.2.2.2.2.2.2.2.2.2.2.2.2.2.2.2.2.1 d.2.2.2.2.2.2.2.2.2.2.2.2.2.2.2.2.2.2.2.1 d.2.2.2.2.2.2.2.2.2.2.2.2.2.2.2.2.2.2.2.2.1 d.2.2.2.2.2.2.2.2.2.2.2.2.2.2.2.2.2.2.2.2.2.1 d.2.2.2.2.2.2.2.2.2.2.2.2.2.2.2.2.2.2.2.2.2.2.1 d.2.2.2.2.2.2.2.2.2.2.2.2.2.2.2.2.2.2.2.2.2.2.2.1) NN
def MY(F0:pX)(F1:sx)(F2:Rk)(L4:Yv)(t0 ay:Int)(aC:jp)(av:bv)(aD aE aI:jp)(au:ce)(aw:bv)(b2:kw)(mT:Int)(rq:jp)(ru:bv)(ry rz rA:jp)(rB:ce)(rC:bv)(b5:jp)(b6:eq)(b7 b8:jp):Option (Out MI):=
 br (iL t0 (1:Int))
 (
  some (ay,aC,av,aD,aE,aI,au,aw,b2,mT,rq,ru,ry,rz,rA,rB,rC,b5,b6,b7,b8,()))
 (
  br (bK false true (iL ay t0))
  (
   some (ay,aC,av,aD,aE,aI,au,aw,b2,mT,rq,ru,ry,rz,rA,rB,rC,b5,b6,b7,b8,()))
  (
   aj (an t0 b2.length)<|
   br (bK false true (gt .bool b2 t0))
   (
    some (ay,aC,av,aD,aE,aI,au,aw,b2,mT,rq,ru,ry,rz,rA,rB,rC,b5,b6,b7,b8,()))
   (
    aj (an t0 b2.length)<|
    aj (an t0 b5.length)<|
    br (iQ (gt .I b5 t0) (0:Int))
    (
     some (ay,aC,av,aD,aE,aI,au,aw,(List.set b2 (Int.toNat t0) true),mT,rq,ru,ry,rz,rA,rB,rC,b5,b6,b7,b8,()))
    (
     aj (an t0 b5.length)<|
     aj (an (pu (@HSub.hSub (Int) (Int) (Int) _ (gt .I b5 t0) (1:Int))) b6.length)<|
     aA (F2 ((gt aH b6 (pu (@HSub.hSub (Int) (Int) (Int) _ (gt .I b5 t0) (1:Int)))).1,(gt aH b6 (pu (@HSub.hSub (Int) (Int) (Int) _ (gt .I b5 t0) (1:Int)))).2.1,(gt aH b6 (pu (@HSub.hSub (Int) (Int) (Int) _ (gt .I b5 t0) (1:Int)))).2.2.1,mT,rq,ru,ry,rz,rA,rB,rC,b5,b6,b7,b8,())) fun x0=>
     aA (L4 (x0.1,(Int.ofNat (List.length x0.1)),(0:Int),ay,aC,av,aD,aE,aI,au,aw,(List.set b2 (Int.toNat t0) true),x0.2)) fun x1=>
     some x1))))
def ai9(c0:oD)(c1:qJ)(c2:GZ)(M4:MP):qJ:=⟨lF (MY c0.F c1.F c2.F M4.L),pB Tryz.func188 59 (kD c0 (kB c1 (kB c2 k0))) e0 1 (sS (sC M4 l0)) fun d=>aud⟩
def Ee:Nat->qJ
 |0=>Uu Tryz.func188 aud aud|k+1=>ai9 pY (Ee k) Rl (ai1 (Ee k))
def DQ(k:Nat):sx:=(Ee k).F
def MZ:qJ:=Ee NN
def MQ:sx:=MZ.F
abbrev MN:ak:=⟨[(4,.hd 0 .I),(36,.hd 1 .bool),(37,.I),(38,.I)],[(0,.arr .I 3),(1,.arr .bool 4)],2⟩
abbrev MJ:List (Ev.Ex×ak):=[((.exit 2),⟨[(4,.hd 0 .I)],[(0,.arr .I 3)],1⟩)]
abbrev YR:=be MN MJ
abbrev YQ:=Ld 0 50 (bI [1] (bt Tryz.f145)) MN MJ
abbrev DR:ak:=⟨[(4,.aR),(7,.ptr 0 0),(8,.ptr 2 0),(25,.fz .I),(26,.I),(27,.I)],[(0,.cells [.hd 1 .bool] 28),(1,.arr .bool 4),(2,.cells [.func 188 [] [.ptr 3 0,.ptr 0 0,.ptr 4 0,.ptr 2 0]] 213),(3,.cells dx 27),(4,.cells [.ptr 5 0] 152),(5,.cells [.I,.fz .I,.fz ae,.fz .I,.fz .I,.fz .I,.fz ai,.fz ae,.hd 6 .I,.hd 7 aH,.hd 8 (.int .u8),.hd 9 .I] 160),(6,.arr .I 3),(7,.arr aH 146),(8,.arr (.int .u8) 5),(9,.arr .I 3)],10⟩
abbrev DG:List (Ev.Ex×ak):=[((.exit 0),⟨[(4,.aR),(7,.ptr 0 0)],[(0,.cells [.hd 1 .bool] 28),(1,.arr .bool 4)],2⟩)]
abbrev Zb:=be DR DG
abbrev Nq:=Ld 0 50 (bI [0] (bt Tryz.f145)) DR DG
def Np(F0:pX)(F1:sx)(t25:jp)(t26 t27:Int)(b1:kw)(fJ:Int)(oG:jp)(jo:bv)(mO mP mQ:jp)(mR:ce)(mS:bv)(ly:Int)(tu:jp)(Hc:bv)(He Hf Hg:jp)(Hh:ce)(Hi:bv)(b6:jp)(b7:eq)(b8 b9:jp):am DR DG:=
 br (iL t27 t26)
 (
  aj (an t27 t25.length)<|
  aA (F0 ((gt .I t25 t27),())) fun x0=>
  aA (F1 (x0.1,fJ,oG,jo,mO,mP,mQ,mR,mS,b1,ly,tu,Hc,He,Hf,Hg,Hh,Hi,b6,b7,b8,b9,())) fun x1=>
  aul (t25,t26,(pu (t27+(1:Int))),dN x1,x1.1,x1.2.1,x1.2.2.1,cu x1,cB x1,cG x1,c9 x1,dj x1,JT x1))
 (
  aum (b1,()))
def ajn(c0:oD)(c1:qJ) :Nq:=bJ (pg (Np c0.F c1.F)) (pL (kD c0 (kB c1 k0)) e0 1 l0 fun d=>aud)
def ajo:Nq:=ajn pY MZ
def Em:Zb:=bj (pg (Np oT MQ)) NN
def Ef(t37 t38:Int)(b0:jp)(b1:kw):am MN MJ:=
 br (iL t38 t37)
 (
  aj (an t38 b1.length)<|
  br (gt .bool b1 t38)
  (
   aj (room 8 (List.length (ap b0 (t38::[]))))<|
   aul (t37,(pu (t38+(1:Int))),(ap b0 (t38::[])),b1,()))
  (
   aul (t37,(pu (t38+(1:Int))),b0,b1,())))
 (
  aum (b0,()))
def aja  :YQ:=bJ (u4 Ef) (pL k0 e0 1 l0 fun d=>aud)
def Eg:YR:=bj (u4 Ef) NN
abbrev Zc:List Sh:=[cJ,(.sl .I)]
abbrev Nr:List Sh:=[(.sl .I)]
abbrev Zt:=TL Zc->Option (TL Nr)
abbrev NA:=Kd 145 Zc Nr
def NB(F0:pX)(F1:sx)(F2:G4)(L8:Zb)(L13:YR)(a0:Sh.T cJ)(a1:jp):Option (TL Nr):=
 aA (F2 a0) fun x0=>
 (match x0 with
 |.inl x1=>
  br (Bool.not (iQ x1.1 (0:Int)))
  (
   some ([],()))
  (
   aj (both (iE (0:Int) (pu (pm a0.1 (1:Int)))) (both (iE (pu (pm a0.1 (1:Int))) (pu (pm a0.1 (1:Int)))) (iE ((Int.ofNat 1)*(pu (pm a0.1 (1:Int)))) (281474976710656:Int))))<|
   none)
 |.inr x1=>
  br (Bool.not (iQ x1.1 (0:Int)))
  (
   some ([],()))
  (
   aj (both (iE (0:Int) (pu (pm a0.1 (1:Int)))) (both (iE (pu (pm a0.1 (1:Int))) (pu (pm a0.1 (1:Int)))) (iE ((Int.ofNat 1)*(pu (pm a0.1 (1:Int)))) (281474976710656:Int))))<|
   aA (L8 (a1,(Int.ofNat a1.length),(0:Int),(List.replicate (Int.toNat (pu (pm a0.1 (1:Int)))) (Sh.zero .bool)),a0.1,a0.2.1,a0.2.2.1,cu a0,cB a0,cG a0,c9 a0,dj a0,x1.2)) fun x2=>
   aA (L13 ((Int.ofNat (List.length x2.1)),(0:Int),[],x2.1,())) fun x3=>
   some (x3.1,()))
 )
def ajz(c0:oD)(c1:qJ)(c2:yj)(M8:Nq)(M13:YQ):NA:=⟨u2 (NB c0.F c1.F c2.F M8.L M13.L),pD Tryz.func145 50 (kD c0 (kB c1 (kB c2 k0))) e0 1 (sS (sC M8 (sC M13 l0))) fun d=>aud⟩
def Zs:NA:=ajz pY MZ G5 ajo aja
def Za:Zt:=Zs.F
abbrev wB:ak:=⟨[(2,.ptr 0 0),(11,.hd 1 .I),(14,.ptr 2 0),(15,.I),(78,.I),(79,.I)],[(0,.cells oO 27),(1,.arr .I 3),(2,.cells FF 27),(3,.arr ae 113)],4⟩
abbrev wA:List (Ev.Ex×ak):=[((.exit 4),⟨[(2,.ptr 0 0),(11,.hd 1 .I),(14,.ptr 2 0),(15,.I)],[(0,.cells oO 27),(1,.arr .I 3),(2,.cells FF 27),(3,.arr ae 113)],4⟩)]
abbrev YC:=be wB wA
abbrev YA:=Ld 0 114 (bI [2] (bt Tryz.f57)) wB wA
abbrev Dy:ak:=⟨[(2,.ptr 0 0),(8,.ptr 1 0),(11,.hd 3 .I),(57,.fz .I),(58,.I),(59,.I)],acu,4⟩
abbrev Dr:List (Ev.Ex×ak):=[((.exit 2),⟨[(2,.ptr 0 0),(8,.ptr 1 0),(11,.hd 3 .I)],acu,4⟩)]
abbrev YB:=be Dy Dr
abbrev Yz:=Ld 0 114 (bI [1] (bt Tryz.f57)) Dy Dr
abbrev wD:ak:=⟨[(1,.ptr 0 0),(2,.ptr 1 0),(8,.ptr 2 0),(31,.fz aH),(32,.I),(33,.I)],[(0,.cells dx 27),(1,.cells oO 27),(2,.cells FF 27),(3,.arr ae 113)],4⟩
abbrev wC:List (Ev.Ex×ak):=[((.exit 0),⟨[(1,.ptr 0 0),(2,.ptr 1 0),(8,.ptr 2 0)],[(0,.cells dx 27),(1,.cells oO 27),(2,.cells FF 27),(3,.arr ae 113)],4⟩)]
abbrev YV:=be wD wC
abbrev YU:=Ld 0 114 (bI [0] (bt Tryz.f57)) wD wC
def Eh(t31:eq)(t32 t33 ay:Int)(aC:jp)(av:bv)(aD aE aI:jp)(au:ce)(aw:bv)(bc bE:Int)(cY:jp)(cZ:bv)(de ct cS:jp)(dq:ce)(b3:bv):am wD wC:=
 br (iL t33 t32)
 (
  aj (an t33 t31.length)<|
  br (Bool.not (gt aH t31 t33).1)
  (
   aj (an (gt aH t31 t33).2.2.1 aw.length)<|
   aj (room 24 (List.length (ap b3 ((gt ae aw (gt aH t31 t33).2.2.1)::[]))))<|
   aul (t31,t32,(pu (t33+(1:Int))),ay,aC,av,aD,aE,aI,au,aw,bc,bE,cY,cZ,de,ct,cS,dq,(ap b3 ((gt ae aw (gt aH t31 t33).2.2.1)::[])),()))
  (
   aul (t31,t32,(pu (t33+(1:Int))),ay,aC,av,aD,aE,aI,au,aw,bc,bE,cY,cZ,de,ct,cS,dq,b3,())))
 (
  aum (ay,aC,av,aD,aE,aI,au,aw,bc,bE,cY,cZ,de,ct,cS,dq,b3,()))
def ajd  :YU:=bJ (kZ Eh) (pL k0 e0 1 l0 fun d=>aud)
def Ei:YV:=bj (kZ Eh) NN
def DT(t57:jp)(t58 t59 ay bc:Int)(cq:jp)(bN:bv)(bW bH dc:jp)(cx:ce)(b2:bv)(b3:jp):am Dy Dr:=
 br (iL t59 t58)
 (
  aj (an t59 t57.length)<|
  aj (an (gt .I t57 t59) b3.length)<|
  aul (t57,t58,(pu (t59+(1:Int))),ay,bc,cq,bN,bW,bH,dc,cx,b2,(List.set b3 (Int.toNat (gt .I t57 t59)) (pu (t59+(1:Int)))),()))
 (
  aum (ay,bc,cq,bN,bW,bH,dc,cx,b2,b3,()))
def ai3  :Yz:=bJ (iT DT) (pL k0 e0 1 l0 fun d=>aud)
def DV:YB:=bj (iT DT) NN
def DU(t15 t78 t79 ay:Int)(b1:jp)(bE:Int)(cY:jp)(cZ:bv)(de ct cS:jp)(dq:ce)(b3:bv):am wB wA:=
 br (iL t79 t78)
 (
  aj (an t79 b3.length)<|
  aj (nQ (Int.toNat t79) (Int.toNat t79))<|
  aj (iQ (fD (iL (gt ae b3 t79).2.2.1 (gt ae b3 t79).2.1) (gt ae b3 t79).2.2.1 (gt ae b3 t79).2.1) (fD (iL (gt ae b3 t79).2.2.1 (gt ae b3 t79).2.1) (gt ae b3 t79).2.2.1 (gt ae b3 t79).2.1))<|
  aul (t15,t78,(pu (t79+(1:Int))),ay,b1,bE,cY,cZ,de,ct,cS,dq,(List.set (List.set b3 (Int.toNat t79) ((gt ae b3 t79).1,(fD (iL (gt ae b3 t79).2.1 (gt ae b3 t79).2.2.1) (gt ae b3 t79).2.2.1 (gt ae b3 t79).2.1),(gt ae b3 t79).2.2.1,())) (Int.toNat t79) ((gt ae (List.set b3 (Int.toNat t79) ((gt ae b3 t79).1,(fD (iL (gt ae b3 t79).2.1 (gt ae b3 t79).2.2.1) (gt ae b3 t79).2.2.1 (gt ae b3 t79).2.1),(gt ae b3 t79).2.2.1,())) t79).1,(gt ae (List.set b3 (Int.toNat t79) ((gt ae b3 t79).1,(fD (iL (gt ae b3 t79).2.1 (gt ae b3 t79).2.2.1) (gt ae b3 t79).2.2.1 (gt ae b3 t79).2.1),(gt ae b3 t79).2.2.1,())) t79).2.1,(fD (iL (gt ae b3 t79).2.2.1 (gt ae b3 t79).2.1) (gt ae b3 t79).2.2.1 (gt ae b3 t79).2.1),())),()))
 (
  aum (t15,ay,b1,bE,cY,cZ,de,ct,cS,dq,b3,()))
def ai4  :YA:=bJ (iT DU) (pL k0 e0 1 l0 fun d=>aud)
def DW:YC:=bj (iT DU) NN
abbrev YW:List Sh:=[cJ]
abbrev Nc:List Sh:=[cJ,(.sl .I),.I]
abbrev Ze:=TL YW->Option (TL Nc)
abbrev Ns:=Kd 57 YW Nc
def Nt(F0:afz)(F1:Q9)(F2:YF)(F3:Y9)(L8:YV)(L15:YB)(L21:YC)(a0:Sh.T cJ):Option (TL Nc):=
 aA (F1 (a0,())) fun x0=>
 br (Bool.not (iQ x0.1 (0:Int)))
 (
  some (((0:Int),[],[],[],[],[],[],[],()),[],x0.1,()))
 (
  aA (F0 (a0,())) fun x1=>
  aA (L8 (x1.1,(Int.ofNat (List.length x1.1)),(0:Int),a0.1,a0.2.1,a0.2.2.1,cu a0,cB a0,cG a0,c9 a0,dj a0,(0:Int),a0.1,a0.2.1,a0.2.2.1,cu a0,cB a0,cG a0,c9 a0,[],())) fun x2=>
  aj (both (iE (0:Int) (pu (pm x2.1 (1:Int)))) (both (iE (pu (pm x2.1 (1:Int))) (pu (pm x2.1 (1:Int)))) (iE ((Int.ofNat 8)*(pu (pm x2.1 (1:Int)))) (281474976710656:Int))))<|
  aA (F3 (JT x2)) fun x3=>
  aA (L15 (x3.1,(Int.ofNat (List.length x3.1)),(0:Int),dN x2,ef x2,dE x2,fj x2,eW x2,(aV x2).2.1,(aV x2).2.2.1,cu (aV x2),x3.2.1,(List.replicate (Int.toNat (pu (pm x2.1 (1:Int)))) (Sh.zero .I)),())) fun x4=>
  aA (F2 x4.2) fun x5=>
  aA (L21 (dj x5,(Int.ofNat (List.length (ef x5))),(0:Int),x4.1,dN x5,x5.1,x5.2.1,x5.2.2.1,cu x5,cB x5,cG x5,c9 x5,ef x5,())) fun x6=>
  some (nk x6,x6.2.2.1,x6.1,()))
def ajq(c0:RA)(c1:GS)(c2:YD)(c3:Y7)(M8:YU)(M15:Yz)(M21:YA):Ns:=⟨u1 (Nt c0.F c1.F c2.F c3.F M8.L M15.L M21.L),pD Tryz.func57 114 (kD c0 (kD c1 (kB c2 (kB c3 k0)))) e0 1 (sS (sC M8 (sC M15 (sC M21 l0)))) fun d=>aud⟩
def Zd:Ns:=ajq afA GY YE Y8 ajd ai3 ai4
def Nb:Ze:=Zd.F
abbrev XT:ak:=⟨[(0,.ptr 0 0),(1,.fz .I)],Ig,6⟩
abbrev Lu:List (Ev.Ex×ak):=[(.ret,uQ)]
abbrev sw:=be XT Lu
abbrev qI:=Kb 109 2 XT 0 Lu
abbrev Ck:ak:=⟨[(0,.ptr 0 0),(43,.fz .I),(44,.I),(45,.I)],vm,7⟩
abbrev BP:List (Ev.Ex×ak):=[((.exit 2),uQ)]
abbrev XS:=be Ck BP
abbrev XR:=Ld 6 74 (bI [1] (bt Tryz.f109)) Ck BP
abbrev CP:ak:=⟨[(0,.ptr 0 0),(4,.hd 6 .I),(10,.fz .I),(11,.I),(12,.I)],acr,7⟩
abbrev Cm:List (Ev.Ex×ak):=[((.exit 0),⟨[(0,.ptr 0 0),(4,.hd 6 .I)],acr,7⟩)]
abbrev Ye:=be CP Cm
abbrev Mx:=Ld 6 74 (bI [0] (bt Tryz.f109)) CP Cm
def Dm(F1:pX)(t10:jp)(t11 t12 ay:Int)(aC:jp)(av:bv)(aD aE aI:jp)(au:ce)(aw:bv)(b1 b2:kw)(b3:jp)(b4 b5:io)(b6:jp):am CP Cm:=
 br (iL t12 t11)
 (
  aj (an t12 t10.length)<|
  aA (F1 ((gt .I t10 t12),())) fun x0=>
  br (iL (0:Int) x0.1)
  (
   aj (an x0.1 b1.length)<|
   br (bK true (Bool.not (gt .bool b1 x0.1)) false)
   (
    aj (room 8 (List.length (ap b6 ((gt .I t10 t12)::[]))))<|
    aul (t10,t11,(pu (t12+(1:Int))),ay,aC,av,aD,aE,aI,au,aw,b1,b2,b3,b4,b5,(ap b6 ((gt .I t10 t12)::[])),()))
   (
    aul (t10,t11,(pu (t12+(1:Int))),ay,aC,av,aD,aE,aI,au,aw,b1,b2,b3,b4,b5,b6,())))
  (
   aul (t10,t11,(pu (t12+(1:Int))),ay,aC,av,aD,aE,aI,au,aw,b1,b2,b3,b4,b5,b6,())))
 (
  aum (ay,aC,av,aD,aE,aI,au,aw,b1,b2,b3,b4,b5,b6,()))
def aiN(c1:oD) :Mx:=bJ (gK (Dm c1.F)) (pL (kD c1 k0) e0 1 l0 fun d=>aud)
def aiO:Mx:=aiN pY
def My:Ye:=bj (gK (Dm oT)) NN
def Dc(t43:jp)(t44 t45 ay:Int)(aC:jp)(av:bv)(aD aE aI:jp)(au:ce)(aw:bv)(b1 b2:kw)(b4 b5:io)(b6:jp):am Ck BP:=
 br (iL t45 t44)
 (
  aj (an t45 t43.length)<|
  aj (an (gt .I t43 t45) b1.length)<|
  br (Bool.not (gt .bool b1 (gt .I t43 t45)))
  (
   aj (an (gt .I t43 t45) b1.length)<|
   aj (room 8 (List.length (ap b6 ((gt .I t43 t45)::[]))))<|
   aul (t43,t44,(pu (t45+(1:Int))),ay,aC,av,aD,aE,aI,au,aw,(List.set b1 (Int.toNat (gt .I t43 t45)) true),b2,b4,b5,(ap b6 ((gt .I t43 t45)::[])),()))
  (
   aul (t43,t44,(pu (t45+(1:Int))),ay,aC,av,aD,aE,aI,au,aw,b1,b2,b4,b5,b6,())))
 (
  aum (ay,aC,av,aD,aE,aI,au,aw,b1,b2,b4,b5,b6,()))
def ais  :XR:=bJ (u16 Dc) (pL k0 e0 1 l0 fun d=>aud)
def Mg:XS:=bj (u16 Dc) NN
def MF(F0:Zt)(F1:pX)(L2:Ye)(L10:XS)(t1:jp)(ay:Int)(aC:jp)(av:bv)(aD aE aI:jp)(au:ce)(aw:bv)(b1 b2:kw)(b3:jp)(b4 b5:io):Option (Out Lu):=
 aA (L2 (t1,(Int.ofNat t1.length),(0:Int),ay,aC,av,aD,aE,aI,au,aw,b1,b2,b3,b4,b5,[],())) fun x0=>
 br (iQ (Int.ofNat (List.length (aV x0).2.1)) (0:Int))
 (
  some (x0.1,x0.2.1,x0.2.2.1,cu x0,cB x0,cG x0,c9 x0,dj x0,dN x0,ef x0,fj x0,eW x0,dE x0,()))
 (
  aA (F0 ((x0.1,x0.2.1,x0.2.2.1,cu x0,cB x0,cG x0,c9 x0,dj x0,()),(aV x0).2.1,())) fun x1=>
  aA (L10 (x1.1,(Int.ofNat (List.length x1.1)),(0:Int),x0.1,x0.2.1,x0.2.2.1,cu x0,cB x0,cG x0,c9 x0,dj x0,dN x0,ef x0,fj x0,eW x0,dE x0,())) fun x2=>
  some x2)
def aiU(c0:NA)(c1:oD)(M2:Mx)(M10:XR):qI:=⟨gA (MF c0.F c1.F M2.L M10.L),pB Tryz.func109 74 (kD c0 (kD c1 k0)) e0 1 (sS (sC M2 (sC M10 l0))) fun d=>aud⟩
def sv:qI:=aiU Zs pY aiO ais
def qE:sw:=sv.F
abbrev WB:ak:=⟨[(0,.ptr 0 0),(1,.I)],Ig,6⟩
abbrev KO:List (Ev.Ex×ak):=[(.ret,uQ)]
abbrev Mi:=be WB KO
abbrev Dd:=Kb 146 2 WB 0 KO
abbrev BR:ak:=⟨[(0,.ptr 0 0),(48,.fz bu),(49,.I),(50,.I)],vm,7⟩
abbrev Bl:List (Ev.Ex×ak):=[((.exit 2),uQ)]
abbrev Xb:=be BR Bl
abbrev Ly:=Ld 6 66 (bI [1] (bt Tryz.f146)) BR Bl
abbrev BQ:ak:=⟨[(0,.ptr 0 0),(1,.I),(29,.fz bO),(30,.I),(31,.I)],vm,7⟩
abbrev Bk:List (Ev.Ex×ak):=[((.exit 0),⟨[(0,.ptr 0 0),(1,.I)],vm,7⟩)]
abbrev Xa:=be BQ Bk
abbrev Lx:=Ld 6 66 (bI [0] (bt Tryz.f146)) BQ Bk
def Lv(F0:sw)(t1:Int)(t29:ge)(t30 t31 ay:Int)(aC:jp)(av:bv)(aD aE aI:jp)(au:ce)(aw:bv)(b1 b2:kw)(b4 b5:io)(b6:jp):am BQ Bk:=
 br (iL t31 t30)
 (
  aj (an t31 t29.length)<|
  aA (F0 ((gt bO t29 t31).2.1,ay,aC,av,aD,aE,aI,au,aw,b1,b2,b6,b4,b5,())) fun x0=>
  aul (t1,t29,t30,(pu (t31+(1:Int))),x0))
 (
  aum (t1,ay,aC,av,aD,aE,aI,au,aw,b1,b2,b4,b5,b6,()))
def ah0(c0:qI) :Lx:=bJ (gK (Lv c0.F)) (pL (kB c0 k0) e0 1 l0 fun d=>aud)
def ah2:Lx:=ah0 sv
def wg:Xa:=bj (gK (Lv qE)) NN
def Lw(F0:sw)(t48:ii)(t49 t50 ay:Int)(aC:jp)(av:bv)(aD aE aI:jp)(au:ce)(aw:bv)(b1 b2:kw)(b4 b5:io)(b6:jp):am BR Bl:=
 br (iL t50 t49)
 (
  aj (an t50 t48.length)<|
  aj (room 8 (List.length (ap ((gt bu t48 t50).1::[]) (gt bu t48 t50).2.1)))<|
  aj (iP (Sh.beq .I) (gt bu t48 t50).2.2.1 (gt bu t48 t50).2.2.1)<|
  aj (room 8 (List.length (ap (ap ((gt bu t48 t50).1::[]) (gt bu t48 t50).2.1) (gt bu t48 t50).2.2.1)))<|
  aA (F0 ((ap (ap ((gt bu t48 t50).1::[]) (gt bu t48 t50).2.1) (gt bu t48 t50).2.2.1),ay,aC,av,aD,aE,aI,au,aw,b1,b2,b6,b4,b5,())) fun x0=>
  aul (t48,t49,(pu (t50+(1:Int))),x0))
 (
  aum (ay,aC,av,aD,aE,aI,au,aw,b1,b2,b4,b5,b6,()))
def ah1(c0:qI) :Ly:=bJ (u16 (Lw c0.F)) (pL (kB c0 k0) e0 1 l0 fun d=>aud)
def ah3:Ly:=ah1 sv
def tZ:Xb:=bj (u16 (Lw qE)) NN
def wi(F0:sw)(L3:Xa)(L8:Xb)(t1 ay:Int)(aC:jp)(av:bv)(aD aE aI:jp)(au:ce)(aw:bv)(b1 b2:kw)(b3:jp)(b4 b5:io):Option (Out KO):=
 aj (an t1 b2.length)<|
 br (gt .bool b2 t1)
 (
  some (ay,aC,av,aD,aE,aI,au,aw,b1,b2,b4,b5,b3,()))
 (
  aj (an t1 b2.length)<|
  aj (an t1 au.length)<|
  aA (L3 (t1,(gt ai au t1).2.2.2.1,(Int.ofNat (List.length (gt ai au t1).2.2.2.1)),(0:Int),ay,aC,av,aD,aE,aI,au,aw,b1,(List.set b2 (Int.toNat t1) true),b4,b5,b3,())) fun x0=>
  aj (an x0.1 (List.length (dj x0)))<|
  aA (L8 ((gt ai (dj x0) x0.1).2.2.2.2.1,(Int.ofNat (List.length (gt ai (dj x0) x0.1).2.2.2.2.1)),(0:Int),x0.2)) fun x1=>
  some x1)
def ait(c0:qI)(M3:Lx)(M8:Ly):Dd:=⟨gA (wi c0.F M3.L M8.L),pB Tryz.func146 66 (kB c0 k0) e0 1 (sS (sC M3 (sC M8 l0))) fun d=>aud⟩
def Mh:Dd:=ait sv ah2 ah3
def we:Mi:=Mh.F
abbrev Yd:ak:=⟨[(0,.ptr 0 0)],Ig,6⟩
abbrev Mf:List (Ev.Ex×ak):=[(.ret,uQ)]
abbrev Yp:=be Yd Mf
abbrev MH:=Kb 110 1 Yd 0 Mf
abbrev Db:ak:=⟨[(0,.ptr 0 0),(2,.func 146 [.ptr 0 0] [])],vm,7⟩
abbrev CO:List (Ev.Ex×ak):=[((.exit 0),uQ)]
abbrev Yl:=be Db CO
abbrev ME:=Ld 6 77 (bI [0] (bt Tryz.f110)) Db CO
def MD(F0:sw)(F1:Mi)(ay:Int)(aC:jp)(av:bv)(aD aE aI:jp)(au:ce)(aw:bv)(b1 b2:kw)(b4 b5:io)(b6:jp):am Db CO:=
 br (iL (0:Int) (Int.ofNat b6.length))
 (
  aj (an (pu ((Int.ofNat b6.length)-(1:Int))) b6.length)<|
  aj (both (iE (0:Int) (pu ((Int.ofNat b6.length)-(1:Int)))) (iE (pu ((Int.ofNat b6.length)-(1:Int))) (Int.ofNat b6.length)))<|
  br (@jH .I b4 (gt .I b6 (pu ((Int.ofNat b6.length)-(1:Int)))))
  (
   aj (an (@j3 .I b4 (gt .I b6 (pu ((Int.ofNat b6.length)-(1:Int))))) av.length)<|
   aA (F0 (((gt ae av (@j3 .I b4 (gt .I b6 (pu ((Int.ofNat b6.length)-(1:Int)))))).2.1::[]),ay,aC,av,aD,aE,aI,au,aw,b1,b2,(List.take (@HSub.hSub (Nat) (Nat) (Nat) _ (Int.toNat (pu ((Int.ofNat b6.length)-(1:Int)))) 0) b6),b4,b5,())) fun x0=>
   aul x0)
  (
   br (@jH .I b5 (gt .I b6 (pu ((Int.ofNat b6.length)-(1:Int)))))
   (
    aA (F1 ((@j3 .I b5 (gt .I b6 (pu ((Int.ofNat b6.length)-(1:Int))))),ay,aC,av,aD,aE,aI,au,aw,b1,b2,(List.take (@HSub.hSub (Nat) (Nat) (Nat) _ (Int.toNat (pu ((Int.ofNat b6.length)-(1:Int)))) 0) b6),b4,b5,())) fun x0=>
    aul x0)
   (
    aul (ay,aC,av,aD,aE,aI,au,aw,b1,b2,b4,b5,(List.take (@HSub.hSub (Nat) (Nat) (Nat) _ (Int.toNat (pu ((Int.ofNat b6.length)-(1:Int)))) 0) b6),()))))
 (
  aum (ay,aC,av,aD,aE,aI,au,aw,b1,b2,b4,b5,b6,()))
def aiS(c0:qI)(c1:Dd) :ME:=bJ (iT (MD c0.F c1.F)) (pL (kB c0 (kB c1 k0)) e0 1 l0 fun d=>aud)
def aiT:ME:=aiS sv Mh
def Yk:Yl:=bj (iT (MD qE we)) NN
def aiX(F0:sw)(F1:Mi)(L1:Yl)(ay:Int)(aC:jp)(av:bv)(aD aE aI:jp)(au:ce)(aw:bv)(b1 b2:kw)(b3:jp)(b4 b5:io):Option (Out Mf):=
 aA (L1 (ay,aC,av,aD,aE,aI,au,aw,b1,b2,b4,b5,b3,())) fun x0=>
 some x0
def aiY(c0:qI)(c1:Dd)(M1:ME):MH:=⟨iT (aiX c0.F c1.F M1.L),pB Tryz.func110 77 (kB c0 (kB c1 k0)) e0 1 (sS (sC M1 l0)) fun d=>aud⟩
def Yo:MH:=aiY sv Mh aiT
def Yj:Yp:=Yo.F
abbrev Y0:ak:=⟨[(0,.agg dx)],[],0⟩
abbrev MW:List (Ev.Ex×ak):=[(.ret,⟨[(0,.ptr 0 0)],Ig,6⟩)]
abbrev Zz:=be Y0 MW
abbrev ND:=Kb 51 1 Y0 1 MW
abbrev D5:ak:=acy
abbrev DO:List (Ev.Ex×ak):=[((.exit 2),⟨[(1,.ptr 0 0),(3,.ptr 1 0)],Ie,6⟩)]
abbrev Zq:=be D5 DO
abbrev Ny:=Ld 0 82 (bI [1] (bt Tryz.f51)) D5 DO
abbrev DL:ak:=acw
abbrev DA:List (Ev.Ex×ak):=[((.exit 4),acy)]
abbrev Nj:=be DL DA
abbrev Ej:=Ld 0 82 (bI [1,0] (bt Tryz.f51)) DL DA
abbrev DM:ak:=⟨[(1,.ptr 0 0),(3,.ptr 1 0),(6,.I),(7,.ptr 6 0),(41,.fz ai),(42,.I),(43,.I),(50,.I),(51,.I),(56,.fz .I),(57,.I),(58,.I)],agv,7⟩
abbrev DB:List (Ev.Ex×ak):=[((.exit 6),acw)]
abbrev Nk:=be DM DB
abbrev Ni:=Ld 0 82 (bI [1,0,0] (bt Tryz.f51)) DM DB
abbrev D4:ak:=⟨[(1,.ptr 0 0),(3,.ptr 1 0),(25,.fz ae),(26,.I),(27,.I)],Ie,6⟩
abbrev DN:List (Ev.Ex×ak):=[((.exit 0),⟨[(1,.ptr 0 0),(3,.ptr 1 0)],Ie,6⟩)]
abbrev Zp:=be D4 DN
abbrev Zo:=Ld 0 82 (bI [0] (bt Tryz.f51)) D4 DN
def Nw(t25:bv)(t26 t27 ay:Int)(aC:jp)(av:bv)(aD aE aI:jp)(au:ce)(aw:bv)(bc:Int)(cq:jp)(bN:bv)(bW bH dc:jp)(cx:ce)(cP:bv)(b2 b3:kw)(b4 b5:io):am D4 DN:=
 br (iL t27 t26)
 (
  aj (an t27 t25.length)<|
  aul (t25,t26,(pu (t27+(1:Int))),ay,aC,av,aD,aE,aI,au,aw,bc,cq,bN,bW,bH,dc,cx,cP,b2,b3,(@fR .I (gt ae t25 t27).1 t27 b4),b5,()))
 (
  aum (ay,aC,av,aD,aE,aI,au,aw,bc,cq,bN,bW,bH,dc,cx,cP,b2,b3,b4,b5,()))
def ajv  :Zo:=bJ (qC Nw) (pL k0 e0 1 l0 fun d=>aud)
def wG:Zp:=bj (qC Nw) NN
def Nh(t6:Int)(t41:ce)(t42 t43 t50 t51:Int)(t56:jp)(t57 t58 ay:Int)(aC:jp)(av:bv)(aD aE aI:jp)(au:ce)(aw:bv)(bc:Int)(cq:jp)(bN:bv)(bW bH dc:jp)(cx:ce)(cP:bv)(b2 b3:kw)(b4 b5:io)(fK jY:Int)(jZ:Bool)(ir:ge)(iK:ii):am DM DB:=
 br (iL t58 t57)
 (
  aj (an t58 t56.length)<|
  aul (t6,t41,t42,t43,t50,t51,t56,t57,(pu (t58+(1:Int))),ay,aC,av,aD,aE,aI,au,aw,bc,cq,bN,bW,bH,dc,cx,cP,b2,b3,b4,(@fR .I (gt .I t56 t58) t6 b5),fK,jY,jZ,ir,iK,()))
 (
  aum (t6,t41,t42,t43,t50,t51,ay,aC,av,aD,aE,aI,au,aw,bc,cq,bN,bW,bH,dc,cx,cP,b2,b3,b4,b5,fK,jY,jZ,ir,iK,()))
def YZ  :Ni:=bJ (fun d=>lF (bV Nh d) (cy d)) (pL k0 e0 1 l0 fun d=>aud)
def wE:Nk:=bj (fun d=>lF (bV Nh d) (cy d)) NN
def Ng(F0:G6)(L14:Nk)(t6:Int)(t41:ce)(t42 t43 t50 t51 ay:Int)(aC:jp)(av:bv)(aD aE aI:jp)(au:ce)(aw:bv)(bc:Int)(cq:jp)(bN:bv)(bW bH dc:jp)(cx:ce)(cP:bv)(b2 b3:kw)(b4 b5:io)(fK jY:Int)(jZ:Bool)(ir:ge)(iK:ii):am DL DA:=
 br (iL t51 t50)
 (
  aA (F0 ((fK,jY,jZ,ir,iK,()),t51,())) fun x0=>
  aA (L14 (t6,t41,t42,t43,t50,t51,x0.1,(Int.ofNat (List.length x0.1)),(0:Int),ay,aC,av,aD,aE,aI,au,aw,bc,cq,bN,bW,bH,dc,cx,cP,b2,b3,b4,b5,fK,jY,jZ,ir,iK,())) fun x1=>
  aul (x1.1,x1.2.1,x1.2.2.1,cu x1,cB x1,(pu (pm (cG x1) (1:Int))),Uv x1))
 (
  aum (t41,t42,t43,ay,aC,av,aD,aE,aI,au,aw,bc,cq,bN,bW,bH,dc,cx,cP,b2,b3,b4,b5,()))
def ajf(c0:yk)(M14:Ni):Ej:=bJ (fun d=>nq (bV (Ng c0.F M14.L) d) (cy d)) (pL (kD c0 k0) e0 1 (sC M14 l0) fun d=>aud)
def YY:Ej:=ajf G7 YZ
def uh:Nj:=bj (fun d=>nq (bV (Ng yU wE) d) (cy d)) NN
def Nx(L11:Nj)(t41:ce)(t42 t43 ay:Int)(aC:jp)(av:bv)(aD aE aI:jp)(au:ce)(aw:bv)(bc:Int)(cq:jp)(bN:bv)(bW bH dc:jp)(cx:ce)(cP:bv)(b2 b3:kw)(b4 b5:io):am D5 DO:=
 br (iL t43 t42)
 (
  aj (an t43 t41.length)<|
  aA (L11 (t43,t41,t42,t43,(Int.ofNat (List.length (gt ai t41 t43).2.2.2.1)),(0:Int),ay,aC,av,aD,aE,aI,au,aw,bc,cq,bN,bW,bH,dc,cx,cP,b2,b3,b4,b5,(gt ai t41 t43))) fun x0=>
  aul (x0.1,x0.2.1,(pu (pm x0.2.2.1 (1:Int))),nk x0))
 (
  aum (ay,aC,av,aD,aE,aI,au,aw,bc,cq,bN,bW,bH,dc,cx,cP,b2,b3,b4,b5,()))
def aju(M11:Ej):Ny:=bJ (qC (Nx M11.L)) (pL k0 e0 1 (sC M11 l0) fun d=>aud)
def ajw:Ny:=aju  YY
def wH:Zq:=bj (qC (Nx uh)) NN
def NF(F0:G6)(F1:Yp)(F2:sw)(L3:Zp)(L8:Zq)(L11:Nj)(L14:Nk)(eo:Int)(jK:jp)(jL:bv)(kV kj km:jp)(ko:ce)(mW:bv):Option (Out MW):=
 aj (both (iE (0:Int) (pu (eo+(1:Int)))) (both (iE (pu (eo+(1:Int))) (pu (eo+(1:Int)))) (iE ((Int.ofNat 1)*(pu (eo+(1:Int)))) (281474976710656:Int))))<|
 aj (both (iE (0:Int) (Int.ofNat ko.length)) (both (iE (Int.ofNat ko.length) (Int.ofNat ko.length)) (iE ((Int.ofNat 1)*(Int.ofNat ko.length)) (281474976710656:Int))))<|
 aA (L3 (jL,(Int.ofNat jL.length),(0:Int),eo,jK,jL,kV,kj,km,ko,mW,eo,jK,jL,kV,kj,km,ko,mW,(List.replicate (Int.toNat (pu (eo+(1:Int)))) (Sh.zero .bool)),(List.replicate (Int.toNat (Int.ofNat ko.length)) (Sh.zero .bool)),[],[],())) fun x0=>
 aA (L8 (c9 x0,(Int.ofNat (List.length (c9 x0))),(0:Int),x0)) fun x1=>
 aA (F2 (cB x1,dN x1,ef x1,dE x1,fj x1,eW x1,(aV x1).2.1,(aV x1).2.2.1,cu (aV x1),cB (aV x1),cG (aV x1),[],Uv (aV x1))) fun x2=>
 aA (F2 (cG x1,x2.1,x2.2.1,x2.2.2.1,cu x2,cB x2,cG x2,c9 x2,dj x2,dN x2,ef x2,eW x2,dE x2,fj x2,())) fun x3=>
 aA (F1 (x3.1,x3.2.1,x3.2.2.1,cu x3,cB x3,cG x3,c9 x3,dj x3,dN x3,ef x3,eW x3,dE x3,fj x3,())) fun x4=>
 some (x4.1,x4.2.1,x4.2.2.1,cu x4,cB x4,cG x4,c9 x4,dj x4,dN x4,ef x4,eW x4,dE x4,fj x4,())
def ajB(c0:yk)(c1:MH)(c2:qI)(M3:Zo)(M8:Ny)(M11:Ej)(M14:Ni):ND:=⟨u8 (NF c0.F c1.F c2.F M3.L M8.L M11.L M14.L),pB Tryz.func51 82 (kD c0 (kB c1 (kB c2 k0))) e0 1 (sS (sC M3 (sC M8 l0))) fun d=>aud⟩
def Zy:ND:=ajB G7 Yo sv ajv ajw YY YZ
def Nz:Zz:=Zy.F
abbrev Ys:ak:=⟨[(0,.I),(1,.func 53 [] [.ptr 0 0,.ptr 7 0])],acv,8⟩
abbrev MK:List (Ev.Ex×ak):=[(.ret,⟨[(0,.hd 8 .I)],vp,9⟩)]
abbrev Y2:=be Ys MK
abbrev Nl:=Kb 52 2 Ys 1 MK
abbrev DC:ak:=⟨[(1,.func 53 [] [.ptr 0 0,.ptr 7 0]),(4,.hd 8 .I),(6,.I),(7,.I)],vp,9⟩
abbrev Dt:List (Ev.Ex×ak):=[((.exit 0),⟨[(4,.hd 8 .I)],vp,9⟩)]
abbrev YI:=be DC Dt
abbrev YG:=Ld 8 19 (bI [0] (bt Tryz.f52)) DC Dt
def D6(t6 t7 bc:Int)(cq:jp)(bN:bv)(bW bH dc:jp)(cx:ce)(cP:bv)(b2 b3:kw)(b4:jp)(b5 b6:io)(kG:Int)(jE:jp)(jF:bv)(nK nL nM:jp)(nN:ce)(nO:bv)(b8:jp):am DC Dt:=
 br (iL t7 t6)
 (
  aj (an t7 jE.length)<|
  aj (an (gt .I jE t7) b2.length)<|
  br (gt .bool b2 (gt .I jE t7))
  (
   aj (room 8 (List.length (ap b8 (t7::[]))))<|
   aul (t6,(pu (t7+(1:Int))),bc,cq,bN,bW,bH,dc,cx,cP,b2,b3,b4,b5,b6,kG,jE,jF,nK,nL,nM,nN,nO,(ap b8 (t7::[])),()))
  (
   aul (t6,(pu (t7+(1:Int))),bc,cq,bN,bW,bH,dc,cx,cP,b2,b3,b4,b5,b6,kG,jE,jF,nK,nL,nM,nN,nO,b8,())))
 (
  aum (bc,cq,bN,bW,bH,dc,cx,cP,b2,b3,b4,b5,b6,kG,jE,jF,nK,nL,nM,nN,nO,b8,()))
def ai5  :YG:=bJ (pg D6) (pL k0 (eC Tryz.func53 aud e0) 5 l0 fun d=>aud)
def YH:YI:=bj (pg D6) NN
def ajg(L2:YI)(t0 bc:Int)(cq:jp)(bN:bv)(bW bH dc:jp)(cx:ce)(cP:bv)(b2 b3:kw)(b4:jp)(b5 b6:io)(kG:Int)(jE:jp)(jF:bv)(nK nL nM:jp)(nN:ce)(nO:bv):Option (Out MK):=
 aA (L2 (t0,(0:Int),bc,cq,bN,bW,bH,dc,cx,cP,b2,b3,b4,b5,b6,kG,jE,jF,nK,nL,nM,nN,nO,[],())) fun x0=>
 some x0
def ajh(M2:YG):Nl:=⟨lF (ajg M2.L),pB Tryz.func52 19 k0 (eC Tryz.func53 aud e0) 5 (sS (sC M2 l0)) fun d=>aud⟩
def Y1:Nl:=ajh  ai5
def MX:Y2:=Y1.F
abbrev Yt:ak:=⟨[(0,.I),(1,.func 54 [] [.ptr 0 0,.ptr 7 0])],acv,8⟩
abbrev ML:List (Ev.Ex×ak):=[(.ret,⟨[(0,.hd 8 .I)],vp,9⟩)]
abbrev Y4:=be Yt ML
abbrev Nm:=Kb 52 2 Yt 1 ML
abbrev DD:ak:=⟨[(1,.func 54 [] [.ptr 0 0,.ptr 7 0]),(4,.hd 8 .I),(6,.I),(7,.I)],vp,9⟩
abbrev Du:List (Ev.Ex×ak):=[((.exit 0),⟨[(4,.hd 8 .I)],vp,9⟩)]
abbrev YL:=be DD Du
abbrev YJ:=Ld 8 19 (bI [0] (bt Tryz.f52)) DD Du
def D7(t6 t7 bc:Int)(cq:jp)(bN:bv)(bW bH dc:jp)(cx:ce)(cP:bv)(b2 b3:kw)(b4:jp)(b5 b6:io)(kG:Int)(jE:jp)(jF:bv)(nK nL nM:jp)(nN:ce)(nO:bv)(b8:jp):am DD Du:=
 br (iL t7 t6)
 (
  aj (an t7 jF.length)<|
  aj (an (gt ae jF t7).1 b2.length)<|
  br (gt .bool b2 (gt ae jF t7).1)
  (
   aj (room 8 (List.length (ap b8 (t7::[]))))<|
   aul (t6,(pu (t7+(1:Int))),bc,cq,bN,bW,bH,dc,cx,cP,b2,b3,b4,b5,b6,kG,jE,jF,nK,nL,nM,nN,nO,(ap b8 (t7::[])),()))
  (
   aul (t6,(pu (t7+(1:Int))),bc,cq,bN,bW,bH,dc,cx,cP,b2,b3,b4,b5,b6,kG,jE,jF,nK,nL,nM,nN,nO,b8,())))
 (
  aum (bc,cq,bN,bW,bH,dc,cx,cP,b2,b3,b4,b5,b6,kG,jE,jF,nK,nL,nM,nN,nO,b8,()))
def ai6  :YJ:=bJ (pg D7) (pL k0 (eC Tryz.func54 aud e0) 5 l0 fun d=>aud)
def YK:YL:=bj (pg D7) NN
def aji(L2:YL)(t0 bc:Int)(cq:jp)(bN:bv)(bW bH dc:jp)(cx:ce)(cP:bv)(b2 b3:kw)(b4:jp)(b5 b6:io)(kG:Int)(jE:jp)(jF:bv)(nK nL nM:jp)(nN:ce)(nO:bv):Option (Out ML):=
 aA (L2 (t0,(0:Int),bc,cq,bN,bW,bH,dc,cx,cP,b2,b3,b4,b5,b6,kG,jE,jF,nK,nL,nM,nN,nO,[],())) fun x0=>
 some x0
def ajj(M2:YJ):Nm:=⟨lF (aji M2.L),pB Tryz.func52 19 k0 (eC Tryz.func54 aud e0) 5 (sS (sC M2 l0)) fun d=>aud⟩
def Y3:Nm:=ajj  ai6
def D8:Y4:=Y3.F
abbrev Yu:ak:=⟨[(0,.I),(1,.func 55 [] [.ptr 0 0])],[(0,.cells [.ptr 1 0] 105),(1,.cells Ih 110),(2,.arr .bool 4),(3,.arr .bool 4),(4,.arr .I 3),(5,.map .i64 .I),(6,.map .i64 .I)],7⟩
abbrev MM:List (Ev.Ex×ak):=[(.ret,⟨[(0,.hd 7 .I)],Pa,8⟩)]
abbrev Y6:=be Yu MM
abbrev Nn:=Kb 52 2 Yu 1 MM
abbrev DE:ak:=⟨[(1,.func 55 [] [.ptr 0 0]),(4,.hd 7 .I),(6,.I),(7,.I)],Pa,8⟩
abbrev Dv:List (Ev.Ex×ak):=[((.exit 0),⟨[(4,.hd 7 .I)],Pa,8⟩)]
abbrev YO:=be DE Dv
abbrev YM:=Ld 7 19 (bI [0] (bt Tryz.f52)) DE Dv
def D9(t6 t7 bc:Int)(cq:jp)(bN:bv)(bW bH dc:jp)(cx:ce)(cP:bv)(b2 b3:kw)(b4:jp)(b5 b6:io)(b7:jp):am DE Dv:=
 br (iL t7 t6)
 (
  aj (an t7 b3.length)<|
  br (gt .bool b3 t7)
  (
   aj (room 8 (List.length (ap b7 (t7::[]))))<|
   aul (t6,(pu (t7+(1:Int))),bc,cq,bN,bW,bH,dc,cx,cP,b2,b3,b4,b5,b6,(ap b7 (t7::[])),()))
  (
   aul (t6,(pu (t7+(1:Int))),bc,cq,bN,bW,bH,dc,cx,cP,b2,b3,b4,b5,b6,b7,())))
 (
  aum (bc,cq,bN,bW,bH,dc,cx,cP,b2,b3,b4,b5,b6,b7,()))
def ai7  :YM:=bJ (u16 D9) (pL k0 (eC Tryz.func55 aud e0) 5 l0 fun d=>aud)
def YN:YO:=bj (u16 D9) NN
def ajk(L2:YO)(t0 bc:Int)(cq:jp)(bN:bv)(bW bH dc:jp)(cx:ce)(cP:bv)(b2 b3:kw)(b4:jp)(b5 b6:io):Option (Out MM):=
 aA (L2 (t0,(0:Int),bc,cq,bN,bW,bH,dc,cx,cP,b2,b3,b4,b5,b6,[],())) fun x0=>
 some x0
def ajl(M2:YM):Nn:=⟨gA (ajk M2.L),pB Tryz.func52 19 k0 (eC Tryz.func55 aud e0) 5 (sS (sC M2 l0)) fun d=>aud⟩
def Y5:Nn:=ajl  ai7
def Ea:Y6:=Y5.F
abbrev D3:ak:=⟨[(1,.ptr 0 0),(2,.ptr 1 0),(4,.fz .I),(5,.hd 2 .bool),(8,.ptr 3 0),(10,.hd 5 .I),(13,.I),(14,.I)],O9,6⟩
abbrev DK:List (Ev.Ex×ak):=[((.exit 6),⟨[(1,.ptr 0 0),(2,.ptr 1 0),(4,.fz .I),(8,.ptr 2 0),(10,.hd 4 .I)],[(0,.cells dx 27),(1,.cells oO 27),(2,.cells [.I,.hd 3 .I,.fz ae,.fz .I,.fz .I,.fz .I,.fz ai,.fz ae] 27),(3,.arr .I 3),(4,.arr .I 3)],5⟩)]
abbrev Zn:=be D3 DK
abbrev Zk:=Ld 0 109 (bI [3] (bt Tryz.f56)) D3 DK
abbrev DZ:ak:=⟨[(1,.ptr 0 0),(2,.ptr 1 0),(4,.fz .I),(5,.hd 2 .bool),(8,.ptr 3 0),(10,.hd 5 .I),(56,.fz .I),(57,.I),(58,.I)],O9,6⟩
abbrev DJ:List (Ev.Ex×ak):=[((.exit 4),⟨[(1,.ptr 0 0),(2,.ptr 1 0),(4,.fz .I),(5,.hd 2 .bool),(8,.ptr 3 0),(10,.hd 5 .I)],O9,6⟩)]
abbrev Zm:=be DZ DJ
abbrev Zj:=Ld 0 109 (bI [2] (bt Tryz.f56)) DZ DJ
abbrev DY:ak:=⟨[(1,.ptr 0 0),(2,.ptr 1 0),(4,.fz .I),(5,.hd 2 .bool),(8,.ptr 3 0),(9,.I)],acs,5⟩
abbrev DI:List (Ev.Ex×ak):=[((.exit 2),⟨[(1,.ptr 0 0),(2,.ptr 1 0),(4,.fz .I),(5,.hd 2 .bool),(8,.ptr 3 0)],acs,5⟩)]
abbrev Zl:=be DY DI
abbrev Zi:=Ld 0 109 (bI [1] (bt Tryz.f56)) DY DI
abbrev Nf:ak:=⟨[(1,.ptr 0 0),(2,.ptr 1 0),(4,.fz .I),(5,.hd 2 .bool),(23,.fz .I),(24,.I),(25,.I)],[(0,.cells dx 27),(1,.cells oO 27),(2,.arr .bool 4)],3⟩
abbrev MV:List (Ev.Ex×ak):=[((.exit 0),⟨[(1,.ptr 0 0),(2,.ptr 1 0),(4,.fz .I),(5,.hd 2 .bool)],[(0,.cells dx 27),(1,.cells oO 27),(2,.arr .bool 4)],3⟩)]
abbrev Zw:=be Nf MV
abbrev Zv:=Ld 0 109 (bI [0] (bt Tryz.f56)) Nf MV
def EB(t4 t23:jp)(t24 t25 ay:Int)(aC:jp)(av:bv)(aD aE aI:jp)(au:ce)(aw:bv)(bc:Int)(b2:kw):am Nf MV:=
 br (iL t25 t24)
 (
  aj (an t25 t23.length)<|
  aj (an (gt .I t23 t25) b2.length)<|
  aul (t4,t23,t24,(pu (t25+(1:Int))),ay,aC,av,aD,aE,aI,au,aw,bc,(List.set b2 (Int.toNat (gt .I t23 t25)) true),()))
 (
  aum (t4,ay,aC,av,aD,aE,aI,au,aw,bc,b2,()))
def ajA  :Zv:=bJ (gA EB) (pL k0 e0 1 l0 fun d=>aud)
def EC:Zw:=bj (gA EB) NN
def Es(t4:jp)(t9 ay:Int)(aC:jp)(av:bv)(aD aE aI:jp)(au:ce)(aw:bv)(bc:Int)(b2:kw)(fJ:Int)(jo:bv)(mO mP mQ:jp)(mR:ce)(mS:bv)(b4:jp):am DY DI:=
 br (iE t9 ay)
 (
  aj (an t9 b2.length)<|
  br (Bool.not (gt .bool b2 t9))
  (
   aj (room 8 (List.length (ap b4 (t9::[]))))<|
   aul (t4,(pu (t9+(1:Int))),ay,aC,av,aD,aE,aI,au,aw,bc,b2,fJ,jo,mO,mP,mQ,mR,mS,(ap b4 (t9::[])),()))
  (
   aul (t4,(pu (t9+(1:Int))),ay,aC,av,aD,aE,aI,au,aw,bc,b2,fJ,jo,mO,mP,mQ,mR,mS,b4,())))
 (
  aum (t4,ay,aC,av,aD,aE,aI,au,aw,bc,b2,fJ,jo,mO,mP,mQ,mR,mS,b4,()))
def ajr  :Zi:=bJ (kZ Es) (pL k0 e0 1 l0 fun d=>aud)
def Nu:Zl:=bj (kZ Es) NN
def Et(t4 t56:jp)(t57 t58 ay:Int)(aC:jp)(av:bv)(aD aE aI:jp)(au:ce)(aw:bv)(bc:Int)(b2:kw)(fJ:Int)(jo:bv)(mO mP mQ:jp)(mR:ce)(mS:bv)(b4 b5:jp):am DZ DJ:=
 br (iL t58 t57)
 (
  aj (an t58 t56.length)<|
  aj (an (gt .I t56 t58) b5.length)<|
  aul (t4,t56,t57,(pu (t58+(1:Int))),ay,aC,av,aD,aE,aI,au,aw,bc,b2,fJ,jo,mO,mP,mQ,mR,mS,b4,(List.set b5 (Int.toNat (gt .I t56 t58)) (pu (t58+(1:Int)))),()))
 (
  aum (t4,ay,aC,av,aD,aE,aI,au,aw,bc,b2,fJ,jo,mO,mP,mQ,mR,mS,b4,b5,()))
def ajs  :Zj:=bJ (qC Et) (pL k0 e0 1 l0 fun d=>aud)
def Ew:Zm:=bj (qC Et) NN
def Eu(t4:jp)(t13 t14 ay:Int)(aC:jp)(av:bv)(aD aE aI:jp)(au:ce)(aw:bv)(bc:Int)(b2:kw)(fJ:Int)(jo:bv)(mO mP mQ:jp)(mR:ce)(mS:bv)(b4 b5:jp):am D3 DK:=
 br (iE t14 ay)
 (
  aj (an t14 b2.length)<|
  br (Bool.not (gt .bool b2 t14))
  (
   aj (an t14 b5.length)<|
   aul (t4,(pu (t13+(1:Int))),(pu (t14+(1:Int))),ay,aC,av,aD,aE,aI,au,aw,bc,b2,fJ,jo,mO,mP,mQ,mR,mS,b4,(List.set b5 (Int.toNat t14) (pu (t13+(1:Int)))),()))
  (
   aul (t4,t13,(pu (t14+(1:Int))),ay,aC,av,aD,aE,aI,au,aw,bc,b2,fJ,jo,mO,mP,mQ,mR,mS,b4,b5,())))
 (
  aum (t4,ay,aC,av,aD,aE,aI,au,aw,bc,fJ,jo,mO,mP,mQ,mR,mS,b4,b5,()))
def ajt  :Zk:=bJ (lF Eu) (pL k0 e0 1 l0 fun d=>aud)
def Nv:Zn:=bj (lF Eu) NN
abbrev Zx:List Sh:=[cJ]
abbrev ED:List Sh:=[cJ,.I]
abbrev ZF:=TL Zx->Option (TL ED)
abbrev NI:=Kd 56 Zx ED
def NJ(F0:Zh)(F1:EG)(F2:ZD)(L4:Zw)(L10:Zl)(L16:Zm)(L22:Zn)(a0:Sh.T cJ):Option (TL ED):=
 aA (F2 a0) fun x0=>
 aj (both (iE (0:Int) (pu (pm a0.1 (1:Int)))) (both (iE (pu (pm a0.1 (1:Int))) (pu (pm a0.1 (1:Int)))) (iE ((Int.ofNat 1)*(pu (pm a0.1 (1:Int)))) (281474976710656:Int))))<|
 aA (L4 (x0.1,x0.1,(Int.ofNat (List.length x0.1)),(0:Int),a0.1,a0.2.1,a0.2.2.1,cu a0,cB a0,cG a0,c9 a0,dj a0,(0:Int),(List.replicate (Int.toNat (pu (pm a0.1 (1:Int)))) (Sh.zero .bool)),())) fun x1=>
 aA (F1 (x1.2.1,x1.2.2.1,cu x1,cB x1,cG x1,c9 x1,dj x1,dN x1,())) fun x2=>
 aA (L10 (x1.1,(1:Int),x1.2.1,x1.2.2.1,cu x1,cB x1,cG x1,c9 x1,dj x1,dN x1,ef x1,dE x1,x2.1,x2.2.1,x2.2.2.1,cu x2,cB x2,cG x2,c9 x2,dj x2,())) fun x3=>
 aj (both (iE (0:Int) (pu (pm x3.2.1 (1:Int)))) (both (iE (pu (pm x3.2.1 (1:Int))) (pu (pm x3.2.1 (1:Int)))) (iE ((Int.ofNat 8)*(pu (pm x3.2.1 (1:Int)))) (281474976710656:Int))))<|
 aA (L16 (x3.1,x3.1,(Int.ofNat (List.length x3.1)),(0:Int),x3.2.1,x3.2.2.1,cu x3,cB x3,cG x3,c9 x3,dj x3,dN x3,ef x3,dE x3,fj x3,eW x3,(aV x3).2.1,(aV x3).2.2.1,cu (aV x3),cB (aV x3),cG (aV x3),c9 (aV x3),(List.replicate (Int.toNat (pu (pm x3.2.1 (1:Int)))) (Sh.zero .I)),())) fun x4=>
 aA (L22 (x4.1,(Int.ofNat (List.length x4.1)),(1:Int),x4.2)) fun x5=>
 aA (F0 (dE x5,cG (aV x5),fj x5,eW x5,(aV x5).2.1,(aV x5).2.2.1,cu (aV x5),cB (aV x5),c9 (aV x5),())) fun x6=>
 br (Bool.not (iQ (dj x6) (0:Int)))
 (
  some ((x6.1,x6.2.1,x6.2.2.1,cu x6,cB x6,cG x6,c9 x6,dN x6,()),dj x6,()))
 (
  aj (both (iE (0:Int) (Int.ofNat (List.length x5.2.2.1))) (iE (Int.ofNat (List.length x5.2.2.1)) (Int.ofNat (List.length x6.2.1))))<|
  some (((Int.ofNat (List.length x5.1)),(List.take (Int.toNat (Int.ofNat (List.length x5.2.2.1))) x6.2.1),x6.2.2.1,cu x6,cB x6,cG x6,c9 x6,dN x6,()),(0:Int),()))
def ajD(c0:Zf)(c1:EE)(c2:ZB)(M4:Zv)(M10:Zi)(M16:Zj)(M22:Zk):NI:=⟨u1 (NJ c0.F c1.F c2.F M4.L M10.L M16.L M22.L),pD Tryz.func56 109 (kB c0 (kB c1 (kB c2 k0))) e0 1 (sS (sC M4 (sC M10 (sC M16 (sC M22 l0))))) fun d=>aud⟩
def ZE:NI:=ajD Zg EF ZC ajA ajr ajs ajt
def NC:ZF:=ZE.F
abbrev EA:ak:=⟨[(2,.ptr 0 0),(5,.ptr 4 0),(6,.ptr 11 0),(105,.fz ae),(106,.I),(107,.I)],[(0,.cells acx 46),(1,.arr .I 3),(2,.arr .I 3),(3,.arr .I 3),(4,.cells [.ptr 5 0] 105),(5,.cells [.I,.fz .I,.fz ae,.fz .I,.fz .I,.fz .I,.fz ai,.fz ae,.hd 6 .bool,.hd 7 .bool,.hd 8 .I,.mp 9,.mp 10] 110),(6,.arr .bool 4),(7,.arr .bool 4),(8,.arr .I 3),(9,.map .i64 .I),(10,.map .i64 .I),(11,.cells [.I,.hd 12 .I,.hd 13 ae,.aR,.fz .I,.fz .I,.hd 14 ai,.hd 15 ae] 27),(12,.arr .I 3),(13,.arr ae 78),(14,.arr ai 97),(15,.arr ae 113)],16⟩
abbrev Er:List (Ev.Ex×ak):=[((.exit 6),⟨[(2,.ptr 0 0),(6,.ptr 4 0)],[(0,.cells acx 46),(1,.arr .I 3),(2,.arr .I 3),(3,.arr .I 3),(4,.cells [.I,.hd 5 .I,.hd 6 ae,.aR,.fz .I,.fz .I,.hd 7 ai,.hd 8 ae] 27),(5,.arr .I 3),(6,.arr ae 78),(7,.arr ai 97),(8,.arr ae 113)],9⟩)]
abbrev ZR:=be EA Er
abbrev ZN:=Ld 0 144 (bI [3] (bt Tryz.f18)) EA Er
abbrev wI:ak:=⟨[(1,.ptr 0 0),(2,.ptr 1 0),(5,.ptr 5 0),(6,.ptr 12 0),(86,.hd 4 .I),(87,.I),(88,.I)],agw,16⟩
abbrev wF:List (Ev.Ex×ak):=[((.exit 4),⟨Pb,agw,16⟩)]
abbrev ZQ:=be wI wF
abbrev NL:=Ld 0 144 (bI [2] (bt Tryz.f18)) wI wF
abbrev Ez:ak:=⟨[(1,.ptr 0 0),(2,.ptr 1 0),(5,.ptr 5 0),(6,.ptr 12 0),(68,.hd 3 .I),(69,.I),(70,.I)],acp,15⟩
abbrev Ep:List (Ev.Ex×ak):=[((.exit 2),⟨Pb,acp,15⟩)]
abbrev ZP:=be Ez Ep
abbrev ZM:=Ld 0 144 (bI [1] (bt Tryz.f18)) Ez Ep
abbrev Ey:ak:=⟨[(1,.ptr 0 0),(2,.ptr 1 0),(5,.ptr 5 0),(6,.ptr 12 0),(50,.hd 2 .I),(51,.I),(52,.I)],acq,14⟩
abbrev Eo:List (Ev.Ex×ak):=[((.exit 0),⟨Pb,acq,14⟩)]
abbrev ZO:=be Ey Eo
abbrev ZL:=Ld 0 144 (bI [0] (bt Tryz.f18)) Ey Eo
def EH(t51 t52 ay:Int)(aC:jp)(av:bv)(aD aE aI:jp)(au:ce)(aw:bv)(bc:Int)(b2 b3 b4:jp)(fK:Int)(jY:jp)(jZ:bv)(ir iK rD:jp)(rE:ce)(rF:bv)(b7 b8:kw)(b9:jp)(b10 b11:io)(qO:Int)(qP qQ b13:jp):am Ey Eo:=
 br (iL t52 t51)
 (
  aj (an t52 b2.length)<|
  aj (an (gt .I b2 t52) aC.length)<|
  aj (room 8 (List.length (ap b13 ((gt .I aC (gt .I b2 t52))::[]))))<|
  aul (t51,(pu (t52+(1:Int))),ay,aC,av,aD,aE,aI,au,aw,bc,b2,b3,b4,fK,jY,jZ,ir,iK,rD,rE,rF,b7,b8,b9,b10,b11,qO,qP,qQ,(ap b13 ((gt .I aC (gt .I b2 t52))::[])),()))
 (
  aum (ay,aC,av,aD,aE,aI,au,aw,bc,b2,b3,b4,fK,jY,jZ,ir,iK,rD,rE,rF,b7,b8,b9,b10,b11,qO,qP,qQ,b13,()))
def ajH  :ZL:=bJ (fun d=>nq (bV EH d) (cy d)) (pL k0 (eC Tryz.func55 aud (eC Tryz.func54 aud (eC Tryz.func53 aud e0))) 5 l0 fun d=>aud)
def wJ:ZO:=bj (fun d=>nq (bV EH d) (cy d)) NN
def EI(t69 t70 ay:Int)(aC:jp)(av:bv)(aD aE aI:jp)(au:ce)(aw:bv)(bc:Int)(b2 b3 b4:jp)(fK:Int)(jY:jp)(jZ:bv)(ir iK rD:jp)(rE:ce)(rF:bv)(b7 b8:kw)(b9:jp)(b10 b11:io)(qO:Int)(qP qQ b13:jp)(b14:bv):am Ez Ep:=
 br (iL t70 t69)
 (
  aj (an t70 b3.length)<|
  aj (an (gt .I b3 t70) av.length)<|
  aj (room 24 (List.length (ap b14 ((gt ae av (gt .I b3 t70))::[]))))<|
  aul (t69,(pu (t70+(1:Int))),ay,aC,av,aD,aE,aI,au,aw,bc,b2,b3,b4,fK,jY,jZ,ir,iK,rD,rE,rF,b7,b8,b9,b10,b11,qO,qP,qQ,b13,(ap b14 ((gt ae av (gt .I b3 t70))::[])),()))
 (
  aum (ay,aC,av,aD,aE,aI,au,aw,bc,b2,b3,b4,fK,jY,jZ,ir,iK,rD,rE,rF,b7,b8,b9,b10,b11,qO,qP,qQ,b13,b14,()))
def ajI  :ZM:=bJ (fun d=>kZ (bV EI d) (cy d)) (pL k0 (eC Tryz.func55 aud (eC Tryz.func54 aud (eC Tryz.func53 aud e0))) 5 l0 fun d=>aud)
def wK:ZP:=bj (fun d=>kZ (bV EI d) (cy d)) NN
def EJ(F3:EG)(t87 t88 ay:Int)(aC:jp)(av:bv)(aD aE aI:jp)(au:ce)(aw:bv)(bc:Int)(b2 b3 b4:jp)(fK:Int)(jY:jp)(jZ:bv)(ir iK rD:jp)(rE:ce)(rF:bv)(b7 b8:kw)(b9:jp)(b10 b11:io)(qO:Int)(qP qQ b13:jp)(b14:bv)(b15:ce):am wI wF:=
 br (iL t88 t87)
 (
  aj (an t88 b4.length)<|
  aA (F3 (ay,aC,av,aD,aE,aI,au,aw,())) fun x0=>
  aj (an (gt .I b4 t88) (List.length (cG x0)))<|
  aj (iQ (gt .I b4 t88) (gt .I b4 t88))<|
  aj (room 72 (List.length (ap b15 ((gt ai (cG x0) (gt .I b4 t88))::[]))))<|
  aul (t87,(pu (t88+(1:Int))),ay,aC,av,aD,aE,aI,au,aw,bc,b2,b3,b4,fK,jY,jZ,ir,iK,rD,rE,rF,b7,b8,b9,b10,b11,qO,qP,qQ,b13,b14,(ap b15 ((gt ai (cG x0) (gt .I b4 t88))::[])),()))
 (
  aum (ay,aC,av,aD,aE,aI,au,aw,bc,b2,b3,b4,fK,jY,jZ,ir,iK,rD,rE,rF,b7,b8,b9,b10,b11,qO,qP,qQ,b13,b14,b15,()))
def ajG(c3:EE) :NL:=bJ (fun d=>Ux (bV (EJ c3.F) d) (cy d)) (pL (kB c3 k0) (eC Tryz.func55 aud (eC Tryz.func54 aud (eC Tryz.func53 aud e0))) 5 l0 fun d=>aud)
def ajJ:NL:=ajG EF
def wL:ZQ:=bj (fun d=>Ux (bV (EJ sy) d) (cy d)) NN
def EK(t105:bv)(t106 t107 ay:Int)(b1 b2 b3:jp)(ly:Int)(tu:jp)(Hc:bv)(He Hf Hg:jp)(Hh:ce)(Hi:bv)(b6 b7:kw)(b8:jp)(b9 b10:io)(OL:Int)(OM ON b12:jp)(b13:bv)(b14:ce)(b15:bv):am EA Er:=
 br (iL t107 t106)
 (
  aj (an t107 t105.length)<|
  aj (an (gt ae t105 t107).1 b6.length)<|
  br (gt .bool b6 (gt ae t105 t107).1)
  (
   aj (room 24 (List.length (ap b15 ((gt ae t105 t107)::[]))))<|
   aul (t105,t106,(pu (t107+(1:Int))),ay,b1,b2,b3,ly,tu,Hc,He,Hf,Hg,Hh,Hi,b6,b7,b8,b9,b10,OL,OM,ON,b12,b13,b14,(ap b15 ((gt ae t105 t107)::[])),()))
  (
   aul (t105,t106,(pu (t107+(1:Int))),ay,b1,b2,b3,ly,tu,Hc,He,Hf,Hg,Hh,Hi,b6,b7,b8,b9,b10,OL,OM,ON,b12,b13,b14,b15,())))
 (
  aum (ay,b1,b2,b3,OL,OM,ON,b12,b13,b14,b15,()))
def ajK  :ZN:=bJ (fun d=>fW (bV EK d) (cy d)) (pL k0 (eC Tryz.func55 aud (eC Tryz.func54 aud (eC Tryz.func53 aud e0))) 5 l0 fun d=>aud)
def wM:ZR:=bj (fun d=>fW (bV EK d) (cy d)) NN
abbrev ZU:List Sh:=[cJ]
abbrev NP:List Sh:=[Z0,.I]
abbrev NW:=TL ZU->Option (TL NP)
abbrev EO:=Kd 18 ZU NP
def wV(F0:Ze)(F1:ZF)(F2:Q9)(F3:EG)(F4:Y6)(F5:Y4)(F6:Y2)(F7:Zz)(L11:ZO)(L16:ZP)(L21:ZQ)(L26:ZR)(a0:Sh.T cJ):Option (TL NP):=
 aA (F2 (a0,())) fun x0=>
 br (Bool.not (iQ x0.1 (0:Int)))
 (
  some ((((0:Int),[],[],[],[],[],[],[],()),[],[],[],()),x0.1,()))
 (
  aA (F7 a0) fun x1=>
  aA (F6 ((Int.ofNat (List.length a0.2.1)),x1.1,x1.2.1,x1.2.2.1,cu x1,cB x1,cG x1,c9 x1,dj x1,dN x1,ef x1,dE x1,fj x1,eW x1,a0)) fun x2=>
  aA (F5 ((Int.ofNat (List.length (cu (aV x2)))),x2.1,x2.2.1,x2.2.2.1,cu x2,cB x2,cG x2,c9 x2,dj x2,dN x2,ef x2,dE x2,fj x2,eW x2,(aV x2).2.1,(aV x2).2.2.1,cu (aV x2),cB (aV x2),cG (aV x2),c9 (aV x2),dj (aV x2),dN (aV x2),())) fun x3=>
  aA (F4 ((Int.ofNat (List.length (dj (aV x3)))),x3.1,x3.2.1,x3.2.2.1,cu x3,cB x3,cG x3,c9 x3,dj x3,dN x3,ef x3,dE x3,fj x3,eW x3,())) fun x4=>
  aA (F3 ((aV x3).2.1,(aV x3).2.2.1,cu (aV x3),cB (aV x3),cG (aV x3),c9 (aV x3),dj (aV x3),dN (aV x3),())) fun x5=>
  aA (L11 ((Int.ofNat (List.length (ef (aV x2)))),(0:Int),(aV x3).2.1,(aV x3).2.2.1,cu (aV x3),cB (aV x3),cG (aV x3),c9 (aV x3),dj (aV x3),dN (aV x3),(0:Int),ef (aV x2),ef (aV x3),(aV x4).2.1,x4.1,x4.2.1,x4.2.2.1,cu x4,cB x4,cG x4,c9 x4,dj x4,dN x4,ef x4,dE x4,fj x4,eW x4,x5.1,cu x5,cB x5,[],())) fun x6=>
  aA (L16 ((Int.ofNat (List.length (dE x6))),(0:Int),x6.1,x6.2.1,x6.2.2.1,cu x6,cB x6,cG x6,c9 x6,dj x6,dN x6,ef x6,dE x6,fj x6,eW x6,(aV x6).2.1,(aV x6).2.2.1,cu (aV x6),cB (aV x6),cG (aV x6),c9 (aV x6),dj (aV x6),dN (aV x6),ef (aV x6),dE (aV x6),fj (aV x6),eW (aV x6),(aV (aV x6)).2.1,(aV (aV x6)).2.2.1,(cu (aV (aV x6))),(cB (aV (aV x6))),[],())) fun x7=>
  aA (L21 ((Int.ofNat (List.length (fj x7))),(0:Int),x7.1,x7.2.1,x7.2.2.1,cu x7,cB x7,cG x7,c9 x7,dj x7,dN x7,ef x7,dE x7,fj x7,eW x7,(aV x7).2.1,(aV x7).2.2.1,cu (aV x7),cB (aV x7),cG (aV x7),c9 (aV x7),dj (aV x7),dN (aV x7),ef (aV x7),dE (aV x7),fj (aV x7),eW (aV x7),(aV (aV x7)).2.1,(aV (aV x7)).2.2.1,(cu (aV (aV x7))),(cB (aV (aV x7))),(cG (aV (aV x7))),[],())) fun x8=>
  aA (L26 (dj x8,(Int.ofNat (List.length (dj x8))),(0:Int),dN x8,ef x8,dE x8,fj x8,eW x8,(aV x8).2.1,(aV x8).2.2.1,cu (aV x8),cB (aV x8),cG (aV x8),c9 (aV x8),dj (aV x8),dN (aV x8),ef (aV x8),dE (aV x8),fj (aV x8),eW (aV x8),(aV (aV x8)).2.1,(aV (aV x8)).2.2.1,(cu (aV (aV x8))),(cB (aV (aV x8))),(cG (aV (aV x8))),(c9 (aV (aV x8))),[],())) fun x9=>
  aA (F1 ((cB x9,dj x9,dN x9,[],cG x9,c9 x9,JT x9),())) fun x10=>
  br (Bool.not (iQ x10.2.1 (0:Int)))
  (
   some ((((0:Int),[],[],[],[],[],[],[],()),[],[],[],()),x10.2.1,()))
  (
   aA (F0 (x10.1,())) fun x11=>
   some ((x11.1,x9.2.1,x9.2.2.1,cu x9,()),x11.2.2.1,())))
def aki(c0:Ns)(c1:NI)(c2:GS)(c3:EE)(c4:Nn)(c5:Nm)(c6:Nl)(c7:ND)(M11:ZL)(M16:ZM)(M21:NL)(M26:ZN):EO:=⟨u1 (wV c0.F c1.F c2.F c3.F c4.F c5.F c6.F c7.F M11.L M16.L M21.L M26.L),pD Tryz.func18 144 (kD c0 (kD c1 (kD c2 (kB c3 (kB c4 (kB c5 (kB c6 (kB c7 k0)))))))) (eC Tryz.func55 aud (eC Tryz.func54 aud (eC Tryz.func53 aud e0))) 5 (sS (sC M11 (sC M16 (sC M21 (sC M26 l0))))) fun d=>aud⟩
def NV:EO:=aki Zd ZE GY EF Y5 Y3 Y1 Zy ajH ajI ajJ ajK
def wS:NW:=NV.F
