import Derived.Test.YtmkbdfidnfmgmaaGreatWNe
set_option linter.all false
section
namespace Go.Proofs.YtmkbdfidnfmgmaaGreat.V
open Go Go.RowKit
set_option maxRecDepth 1000000
abbrev adL:List Sh:=[.I]
abbrev Gt:List Sh:=[.bool]
abbrev adQ:=TL adL->Option (TL Gt)
abbrev Qw:=Kd 140 adL Gt
def Qv(a0:Int):Option (TL Gt):=some ((Bool.not (iQ a0 a0)),())
def aqg  :Qw:=⟨u1 Qv,pD Tryz.func140 6 k0 e0 1 (sS l0) fun d=>atP⟩
def adR:Qw:=aqg
def adM:adQ:=adR.F
abbrev adE:List Sh:=[.I,.I]
abbrev Gl:List Sh:=[.I]
abbrev adF:=TL adE->Option (TL Gl)
abbrev Qk:=Kd 91 adE Gl
def zt(F0:adQ)(a0 a1:Int):Option (TL Gl):=
 az (F0 (a0,())) fun x0=>
 az (F0 (a1,())) fun x1=>
 br x0.1
 (
  br x1.1
  (
   some ((0:Int),()))
  (
   some ((Int.negSucc 0),())))
 (
  br x1.1
  (
   some ((1:Int),()))
  (
   br (iL a0 a1)
   (
    some ((Int.negSucc 0),()))
   (
    br (iL a1 a0)
    (
     some ((1:Int),()))
    (
     some ((0:Int),())))))
def ap7(c0:Qw) :Qk:=⟨u2 (zt c0.F),pD Tryz.func91 20 (kD c0 k0) e0 1 (sS l0) fun d=>atP⟩
def adG:Qk:=ap7 adR
def Qj:adF:=adG.F
abbrev jP:List (Nat×LO):=[(0,.arr an 146),(1,.cells [.ptr 2 0] 152),(2,.cells [.I,.fz .I,.fz af,.fz .I,.fz .I,.fz .I,.fz ah,.fz af,.hd 3 .I,.hd 0 an,.hd 4 (.int .u8),.hd 5 .I] 160),(3,.arr .I 3),(4,.arr (.int .u8) 5),(5,.arr .I 3)]
abbrev aft:List (Nat×LO):=[(0,.cells [.ptr 1 0] 152),(1,.cells [.I,.fz .I,.fz af,.fz .I,.fz .I,.fz .I,.fz ah,.fz af,.hd 2 .I,.hd 3 an,.hd 4 (.int .u8),.hd 5 .I] 160),(2,.arr .I 3),(3,.arr an 146),(4,.arr (.int .u8) 5),(5,.arr .I 3)]
abbrev pa:ai:=⟨[],jP,6⟩
abbrev RT:ai:=⟨[(0,.hd 0 an),(1,.I),(2,.I),(3,.I),(4,.func 90 [] [.ptr 1 0])],jP,6⟩
abbrev afu:ai:=⟨[(0,.hd 0 an),(1,.I),(2,.func 90 [] [.ptr 1 0]),(6,.I),(7,.I),(8,.I)],jP,6⟩
abbrev afv:ai:=⟨[(0,.hd 0 an),(1,.I),(2,.I),(3,.func 90 [] [.ptr 1 0]),(8,.I)],jP,6⟩
abbrev afw:ai:=⟨[(0,.hd 0 an),(1,.I),(2,.func 90 [] [.ptr 1 0]),(6,.I),(7,.I)],jP,6⟩
abbrev adP:ai:=⟨[(0,.agg [.bool,.I,.I]),(1,.agg [.bool,.I,.I]),(2,.ptr 0 0)],aft,6⟩
abbrev Ql:List (Ev.Ex×ai):=[(.ret,⟨[(0,.I)],aft,6⟩)]
abbrev nT:=be adP Ql
abbrev nq:=Kb 90 3 adP 1 Ql
def aqk(F0:adF)(F1:zq)(fp:Bool)(jN iH:Int)(mu:Bool)(jO lW bN:Int)(cW:jp)(dg:bv)(db dk dN:jp)(dO:ce)(dV:bv)(b2:jp)(b3:eq)(b4 b5:jp):Option (Out Ql):=
 az (F1 (fp,jN,iH,bN,cW,dg,db,dk,dN,dO,dV,b2,b3,b4,b5,())) fun x0=>
 au (aw (0:Int) (List.length x0.1))<|
 au (aw (gt .I x0.1 (0:Int)) (List.length (fK x0)))<|
 au (both (bQ mu mu) (both (iQ jO jO) (both (iQ lW lW) true)))<|
 az (F1 (mu,jO,lW,x0.2)) fun x1=>
 au (aw (0:Int) (List.length x1.1))<|
 au (aw (gt .I x1.1 (0:Int)) (List.length (fK x1)))<|
 au (aw (0:Int) (List.length x0.1))<|
 au (Sh.beq .I (gt .I x0.1 (0:Int)) (gt .I x0.1 (0:Int)))<|
 au (iQ (gt .I x0.1 (0:Int)) (gt .I x0.1 (0:Int)))<|
 au (aw (gt .I x0.1 (0:Int)) (List.length (fK x1)))<|
 au (nQ (Int.toNat (gt .I x0.1 (0:Int))) (Int.toNat (gt .I x0.1 (0:Int))))<|
 au (iQ (gt .I (fK x0) (gt .I x0.1 (0:Int))) (gt .I (fK x1) (gt .I x0.1 (0:Int))))<|
 az (F0 ((gt .I (fK x0) (gt .I x0.1 (0:Int))),(gt .I (fK x1) (gt .I x1.1 (0:Int))),())) fun x2=>
 some (x2.1,x1.2)
def aqj(c0:Qk)(c1:wt) :nq:=⟨JT (aqk c0.F c1.F),pB Tryz.func90 29 (kD c0 (kB c1 k0)) e0 1 (sS l0) fun d=>atP⟩
def nU:nq:=aqj adG zs
def lP:nT:=nU.F
abbrev ab0:ai:=RT
abbrev OY:List (Ev.Ex×ai):=[(.ret,pa)]
abbrev Pe:=be ab0 OY
abbrev Fw:=Kb 216 5 ab0 0 OY
abbrev Fj:ai:=⟨[(0,.hd 0 an),(1,.I),(2,.I),(3,.I),(10,.I)],jP,6⟩
abbrev Fb:List (Ev.Ex×ai):=[((.exit 0),pa)]
abbrev acd:=be Fj Fb
abbrev acg:=Ld 6 38 (cj [0] (bu Tryz.f216)) Fj Fb
def Fq(t1 t2 t3 t10:Int)(b0:eq)(cP:Int)(cX:jp)(c9:bv)(cO du dw:jp)(dx:ce)(dR:bv)(b3 b4 b5:jp):am Fj Fb:=
 br (iL t10 t3)
 (
  au (aw (qr (t2+t10)) b0.length)<|
  au (aw (qr (t1+t10)) b0.length)<|
  au (aw (qr (t1+t10)) b0.length)<|
  au (aw (qr (t2+t10)) (List.length (List.set b0 (Int.toNat (qr (t1+t10))) (gt an b0 (qr (t2+t10))))))<|
  au (iQ t2 t2)<|
  au (iQ t10 t10)<|
  au (iQ (qr (t2+t10)) (qr (t2+t10)))<|
  atY (t1,t2,t3,(qr (t10+(1:Int))),(List.set (List.set b0 (Int.toNat (qr (t1+t10))) (gt an b0 (qr (t2+t10)))) (Int.toNat (qr (t2+t10))) (gt an b0 (qr (t1+t10)))),cP,cX,c9,cO,du,dw,dx,dR,b3,b4,b5,()))
 (
  atZ (b0,cP,cX,c9,cO,du,dw,dx,dR,b3,b4,b5,()))
def aoU  :acg:=cu (u16 Fq) (pL k0 e0 1 l0 fun d=>atP)
def ace:acd:=bp (u16 Fq) NN
def ao0(F0:nT)(L1:acd)(t1 t2 t3:Int)(b0:eq)(cP:Int)(cX:jp)(c9:bv)(cO du dw:jp)(dx:ce)(dR:bv)(b3 b4 b5:jp):Option (Out OY):=
 az (L1 (t1,t2,t3,(0:Int),b0,cP,cX,c9,cO,du,dw,dx,dR,b3,b4,b5,())) fun x0=>
 some x0
def aoZ(c0:nq)(M1:acg):Fw:=⟨gm (ao0 c0.F M1.L),pB Tryz.func216 38 (kB c0 k0) e0 1 (sS (sC M1 l0)) fun d=>atP⟩
def Pf:Fw:=aoZ nU aoU
def acf:Pe:=Pf.F
abbrev acw:ai:=RT
abbrev zk:List (Ev.Ex×ai):=[(.ret,pa)]
abbrev Gi:=be acw zk
abbrev PA:=Kb 208 5 acw 0 zk
abbrev zl:ai:=⟨[(0,.hd 0 an),(2,.I),(4,.func 90 [] [.ptr 1 0]),(10,.I),(11,.I)],jP,6⟩
abbrev zj:List (Ev.Ex×ai):=[((.exit 0),⟨[(0,.hd 0 an),(2,.I),(4,.func 90 [] [.ptr 1 0]),(10,.I)],jP,6⟩)]
abbrev acE:=be zl zj
abbrev Px:=Ld 6 58 (cj [0] (bu Tryz.f208)) zl zj
def Py(F1:Pe)(t2 t10 t11:Int)(b0:eq)(cP:Int)(cX:jp)(c9:bv)(cO du dw:jp)(dx:ce)(dR:bv)(b3 b4 b5:jp):am zl zj:=
 br (Bool.not (iQ t10 t11))
 (
  br (iL t11 t10)
  (
   az (F1 ((qr (t2-t10)),t2,t11,b0,cP,cX,c9,cO,du,dw,dx,dR,b3,b4,b5,())) fun x0=>
   atY (t2,(qr (t10-t11)),t11,x0))
  (
   az (F1 ((qr (t2-t10)),(qr ((qr (t2+t11))-t10)),t10,b0,cP,cX,c9,cO,du,dw,dx,dR,b3,b4,b5,())) fun x0=>
   atY (t2,t10,(qr (t11-t10)),x0)))
 (
  atZ (t2,t10,b0,cP,cX,c9,cO,du,dw,dx,dR,b3,b4,b5,()))
def apd(c1:Fw) :Px:=cu (gm (Py c1.F)) (pL (kB c1 k0) e0 1 l0 fun d=>atP)
def apc:Px:=apd Pf
def Pw:acE:=bp (gm (Py acf)) NN
def apk(F0:nT)(F1:Pe)(L2:acE)(t1 t2 t3:Int)(b0:eq)(cP:Int)(cX:jp)(c9:bv)(cO du dw:jp)(dx:ce)(dR:bv)(b3 b4 b5:jp):Option (Out zk):=
 az (L2 (t2,(qr (t2-t1)),(qr (t3-t2)),b0,cP,cX,c9,cO,du,dw,dx,dR,b3,b4,b5,())) fun x0=>
 az (F1 ((qr (@HSub.hSub (Int) (Int) (Int) _ x0.1 x0.2.1)),x0)) fun x1=>
 some x1
def apj(c0:nq)(c1:Fw)(M2:Px):PA:=⟨gm (apk c0.F c1.F M2.L),pB Tryz.func208 58 (kB c0 (kB c1 k0)) e0 1 (sS (sC M2 l0)) fun d=>atP⟩
def acK:PA:=apj nU Pf apc
def FE:Gi:=acK.F
abbrev abK:ai:=⟨[(0,.hd 0 an),(1,.I),(2,.I),(3,.func 90 [] [.ptr 1 0])],jP,6⟩
abbrev OO:List (Ev.Ex×ai):=[(.ret,pa)]
abbrev OW:=be abK OO
abbrev Fc:=Kb 176 4 abK 0 OO
abbrev E5:ai:=afv
abbrev E4:List (Ev.Ex×ai):=[((.exit 0),pa)]
abbrev abM:=be E5 E4
abbrev OS:=Ld 6 53 (cj [0] (bu Tryz.f176)) E5 E4
abbrev zi:ai:=⟨[(0,.hd 0 an),(1,.I),(2,.I),(3,.func 90 [] [.ptr 1 0]),(8,.I),(9,.I)],jP,6⟩
abbrev zh:List (Ev.Ex×ai):=[((.exit 2),afv)]
abbrev OQ:=be zi zh
abbrev E7:=Ld 6 53 (cj [0,0] (bu Tryz.f176)) zi zh
def OT(F0:nT)(t1 t2 t8 t9:Int)(b0:eq)(cP:Int)(cX:jp)(c9:bv)(cO du dw:jp)(dx:ce)(dR:bv)(b3 b4 b5:jp):am zi zh:=
 br (iL t1 t9)
 (
  au (aw t9 b0.length)<|
  au (aw (qr (t9-(1:Int))) b0.length)<|
  az (F0 ((gt an b0 t9).1,(gt an b0 t9).2.1,(gt an b0 t9).2.2.1,(gt an b0 (qr (t9-(1:Int)))).1,(gt an b0 (qr (t9-(1:Int)))).2.1,(gt an b0 (qr (t9-(1:Int)))).2.2.1,cP,cX,c9,cO,du,dw,dx,dR,b3,b0,b4,b5,())) fun x0=>
  br (bP true (iL x0.1 (0:Int)) false)
  (
   au (aw (qr (t9-(1:Int))) (List.length (dH x0)))<|
   au (aw t9 (List.length (dH x0)))<|
   au (aw t9 (List.length (dH x0)))<|
   au (aw (qr (t9-(1:Int))) (List.length (List.set (dH x0) (Int.toNat t9) (gt an (dH x0) (qr (t9-(1:Int)))))))<|
   au (iQ t9 t9)<|
   au (iQ (qr (t9-(1:Int))) (qr (t9-(1:Int))))<|
   atY (t1,t2,t8,(qr (t9-(1:Int))),(List.set (List.set (dH x0) (Int.toNat t9) (gt an (dH x0) (qr (t9-(1:Int))))) (Int.toNat (qr (t9-(1:Int)))) (gt an (dH x0) t9)),x0.2.1,x0.2.2.1,cT x0,cQ x0,cK x0,cU x0,dz x0,dZ x0,eS x0,rj x0))
  (
   atZ (t1,t2,t8,dH x0,x0.2.1,x0.2.2.1,cT x0,cQ x0,cK x0,cU x0,dz x0,dZ x0,eS x0,rj x0)))
 (
  atZ (t1,t2,t8,b0,cP,cX,c9,cO,du,dw,dx,dR,b3,b4,b5,()))
def aow(c0:nq) :E7:=cu (u16 (OT c0.F)) (pL (kB c0 k0) e0 1 l0 fun d=>atP)
def abN:E7:=aow nU
def OR:OQ:=bp (u16 (OT lP)) NN
def E8(L4:OQ)(t1 t2 t8:Int)(b0:eq)(cP:Int)(cX:jp)(c9:bv)(cO du dw:jp)(dx:ce)(dR:bv)(b3 b4 b5:jp):am E5 E4:=
 br (iL t8 t2)
 (
  az (L4 (t1,t2,t8,t8,b0,cP,cX,c9,cO,du,dw,dx,dR,b3,b4,b5,())) fun x0=>
  atY (x0.1,x0.2.1,(qr (pp x0.2.2.1 (1:Int))),xD x0))
 (
  atZ (b0,cP,cX,c9,cO,du,dw,dx,dR,b3,b4,b5,()))
def aox(M4:E7):OS:=cu (gm (E8 M4.L)) (pL k0 e0 1 (sC M4 l0) fun d=>atP)
def aov:OS:=aox  abN
def E6:abM:=bp (gm (E8 OR)) NN
def aoE(F0:nT)(L1:abM)(L4:OQ)(t1 t2:Int)(b0:eq)(cP:Int)(cX:jp)(c9:bv)(cO du dw:jp)(dx:ce)(dR:bv)(b3 b4 b5:jp):Option (Out OO):=
 az (L1 (t1,t2,(qr (t1+(1:Int))),b0,cP,cX,c9,cO,du,dw,dx,dR,b3,b4,b5,())) fun x0=>
 some x0
def aoD(c0:nq)(M1:OS)(M4:E7):Fc:=⟨iC (aoE c0.F M1.L M4.L),pB Tryz.func176 53 (kB c0 k0) e0 1 (sS (sC M1 l0)) fun d=>atP⟩
def OX:Fc:=aoD nU aov abN
def abO:OW:=OX.F
abbrev ab7:ai:=RT
abbrev Fk:List (Ev.Ex×ai):=[(.ret,pa)]
abbrev jq:=be ab7 Fk
abbrev nS:=Kb 177 5 ab7 0 Fk
abbrev Fg:ai:=⟨[(0,.hd 0 an),(1,.I),(2,.I),(3,.I),(4,.func 90 [] [.ptr 1 0]),(18,.I),(19,.I),(20,.I),(21,.I),(22,.I)],jP,6⟩
abbrev zn:List (Ev.Ex×ai):=[((.exit 8),⟨[(0,.hd 0 an),(1,.I),(2,.I),(3,.I),(4,.func 90 [] [.ptr 1 0]),(18,.I),(19,.I),(20,.I)],jP,6⟩)]
abbrev ab8:=be Fg zn
abbrev O3:=Ld 6 220 (cj [4] (bu Tryz.f177)) Fg zn
abbrev Fh:ai:=⟨[(0,.hd 0 an),(14,.I),(17,.I)],jP,6⟩
abbrev E9:List (Ev.Ex×ai):=[((.exit 6),pa)]
abbrev ab9:=be Fh E9
abbrev O4:=Ld 6 220 (cj [3] (bu Tryz.f177)) Fh E9
abbrev Fi:ai:=⟨[(0,.hd 0 an),(2,.I),(4,.func 90 [] [.ptr 1 0]),(14,.I),(15,.I)],jP,6⟩
abbrev Fa:List (Ev.Ex×ai):=[((.exit 4),⟨[(0,.hd 0 an),(2,.I),(14,.I)],jP,6⟩)]
abbrev aca:=be Fi Fa
abbrev O5:=Ld 6 220 (cj [2] (bu Tryz.f177)) Fi Fa
abbrev Fl:ai:=⟨[(0,.hd 0 an),(10,.I),(13,.I)],jP,6⟩
abbrev Fe:List (Ev.Ex×ai):=[((.exit 2),pa)]
abbrev acn:=be Fl Fe
abbrev Pc:=Ld 6 220 (cj [1] (bu Tryz.f177)) Fl Fe
abbrev Fm:ai:=⟨[(0,.hd 0 an),(1,.I),(4,.func 90 [] [.ptr 1 0]),(10,.I),(11,.I)],jP,6⟩
abbrev Ff:List (Ev.Ex×ai):=[((.exit 0),⟨[(0,.hd 0 an),(1,.I),(10,.I)],jP,6⟩)]
abbrev aco:=be Fm Ff
abbrev Pd:=Ld 6 220 (cj [0] (bu Tryz.f177)) Fm Ff
def wi(F0:nT)(t1 t10 t11:Int)(b0:eq)(cP:Int)(cX:jp)(c9:bv)(cO du dw:jp)(dx:ce)(dR:bv)(b3 b4 b5:jp):am Fm Ff:=
 br (iL t10 t11)
 (
  au (aw (qr (Int.fdiv (IntKind.wrap .u64 (qr (t10+t11))) (HPow.hPow (2:Int) (Min.min (Int.toNat (1:Int)) 64)))) b0.length)<|
  au (aw t1 b0.length)<|
  az (F0 ((gt an b0 (qr (Int.fdiv (IntKind.wrap .u64 (qr (t10+t11))) (HPow.hPow (2:Int) (Min.min (Int.toNat (1:Int)) 64))))).1,(gt an b0 (qr (Int.fdiv (IntKind.wrap .u64 (qr (t10+t11))) (HPow.hPow (2:Int) (Min.min (Int.toNat (1:Int)) 64))))).2.1,(gt an b0 (qr (Int.fdiv (IntKind.wrap .u64 (qr (t10+t11))) (HPow.hPow (2:Int) (Min.min (Int.toNat (1:Int)) 64))))).2.2.1,(gt an b0 t1).1,(gt an b0 t1).2.1,(gt an b0 t1).2.2.1,cP,cX,c9,cO,du,dw,dx,dR,b3,b0,b4,b5,())) fun x0=>
  br (iL x0.1 (0:Int))
  (
   atY (t1,(qr ((qr (Int.fdiv (IntKind.wrap .u64 (qr (t10+t11))) (HPow.hPow (2:Int) (Min.min (Int.toNat (1:Int)) 64))))+(1:Int))),t11,dH x0,x0.2.1,x0.2.2.1,cT x0,cQ x0,cK x0,cU x0,dz x0,dZ x0,eS x0,rj x0))
  (
   atY (t1,t10,(qr (Int.fdiv (IntKind.wrap .u64 (qr (t10+t11))) (HPow.hPow (2:Int) (Min.min (Int.toNat (1:Int)) 64)))),dH x0,x0.2.1,x0.2.2.1,cT x0,cQ x0,cK x0,cU x0,dz x0,dZ x0,eS x0,rj x0)))
 (
  atZ (t1,t10,b0,cP,cX,c9,cO,du,dw,dx,dR,b3,b4,b5,()))
def aoY(c0:nq) :Pd:=cu (gm (wi c0.F)) (pL (kB c0 k0) e0 1 l0 fun d=>atP)
def aoW(s:nS):Pd:=aoY nU
def acp(F:jq):aco:=bp (fun d=>wi lP  d.1 d.2.1 d.2.2.1 d.2.2.2.1 d.2.2.2.2.1 d.2.2.2.2.2.1 d.2.2.2.2.2.2.1 d.2.2.2.2.2.2.2.1 d.2.2.2.2.2.2.2.2.1 d.2.2.2.2.2.2.2.2.2.1 d.2.2.2.2.2.2.2.2.2.2.1 d.2.2.2.2.2.2.2.2.2.2.2.1 d.2.2.2.2.2.2.2.2.2.2.2.2.1 d.2.2.2.2.2.2.2.2.2.2.2.2.2.1 d.2.2.2.2.2.2.2.2.2.2.2.2.2.2.1) NN
def Fv(t10 t13:Int)(b0:eq)(cP:Int)(cX:jp)(c9:bv)(cO du dw:jp)(dx:ce)(dR:bv)(b3 b4 b5:jp):am Fl Fe:=
 br (iL t13 (qr (t10-(1:Int))))
 (
  au (aw (qr (t13+(1:Int))) b0.length)<|
  au (aw t13 b0.length)<|
  au (aw t13 b0.length)<|
  au (aw (qr (t13+(1:Int))) (List.length (List.set b0 (Int.toNat t13) (gt an b0 (qr (t13+(1:Int)))))))<|
  au (iQ t13 t13)<|
  au (iQ (qr (t13+(1:Int))) (qr (t13+(1:Int))))<|
  atY (t10,(qr (t13+(1:Int))),(List.set (List.set b0 (Int.toNat t13) (gt an b0 (qr (t13+(1:Int))))) (Int.toNat (qr (t13+(1:Int)))) (gt an b0 t13)),cP,cX,c9,cO,du,dw,dx,dR,b3,b4,b5,()))
 (
  atZ (b0,cP,cX,c9,cO,du,dw,dx,dR,b3,b4,b5,()))
def aoX  :Pc:=cu (iC Fv) (pL k0 e0 1 l0 fun d=>atP)
def aoV(s:nS):Pc:=aoX
def Pa(F:jq):acn:=bp (fun d=>Fv   d.1 d.2.1 d.2.2.1 d.2.2.2.1 d.2.2.2.2.1 d.2.2.2.2.2.1 d.2.2.2.2.2.2.1 d.2.2.2.2.2.2.2.1 d.2.2.2.2.2.2.2.2.1 d.2.2.2.2.2.2.2.2.2.1 d.2.2.2.2.2.2.2.2.2.2.1 d.2.2.2.2.2.2.2.2.2.2.2.1 d.2.2.2.2.2.2.2.2.2.2.2.2.1 d.2.2.2.2.2.2.2.2.2.2.2.2.2.1) NN
def wh(F0:nT)(t2 t14 t15:Int)(b0:eq)(cP:Int)(cX:jp)(c9:bv)(cO du dw:jp)(dx:ce)(dR:bv)(b3 b4 b5:jp):am Fi Fa:=
 br (iL t14 t15)
 (
  au (aw t2 b0.length)<|
  au (aw (qr (Int.fdiv (IntKind.wrap .u64 (qr (t14+t15))) (HPow.hPow (2:Int) (Min.min (Int.toNat (1:Int)) 64)))) b0.length)<|
  az (F0 ((gt an b0 t2).1,(gt an b0 t2).2.1,(gt an b0 t2).2.2.1,(gt an b0 (qr (Int.fdiv (IntKind.wrap .u64 (qr (t14+t15))) (HPow.hPow (2:Int) (Min.min (Int.toNat (1:Int)) 64))))).1,(gt an b0 (qr (Int.fdiv (IntKind.wrap .u64 (qr (t14+t15))) (HPow.hPow (2:Int) (Min.min (Int.toNat (1:Int)) 64))))).2.1,(gt an b0 (qr (Int.fdiv (IntKind.wrap .u64 (qr (t14+t15))) (HPow.hPow (2:Int) (Min.min (Int.toNat (1:Int)) 64))))).2.2.1,cP,cX,c9,cO,du,dw,dx,dR,b3,b0,b4,b5,())) fun x0=>
  br (Bool.not (iL x0.1 (0:Int)))
  (
   atY (t2,(qr ((qr (Int.fdiv (IntKind.wrap .u64 (qr (t14+t15))) (HPow.hPow (2:Int) (Min.min (Int.toNat (1:Int)) 64))))+(1:Int))),t15,dH x0,x0.2.1,x0.2.2.1,cT x0,cQ x0,cK x0,cU x0,dz x0,dZ x0,eS x0,rj x0))
  (
   atY (t2,t14,(qr (Int.fdiv (IntKind.wrap .u64 (qr (t14+t15))) (HPow.hPow (2:Int) (Min.min (Int.toNat (1:Int)) 64)))),dH x0,x0.2.1,x0.2.2.1,cT x0,cQ x0,cK x0,cU x0,dz x0,dZ x0,eS x0,rj x0)))
 (
  atZ (t2,t14,b0,cP,cX,c9,cO,du,dw,dx,dR,b3,b4,b5,()))
def aoT(c0:nq) :O5:=cu (gm (wh c0.F)) (pL (kB c0 k0) e0 1 l0 fun d=>atP)
def aoQ(s:nS):O5:=aoT nU
def acb(F:jq):aca:=bp (fun d=>wh lP  d.1 d.2.1 d.2.2.1 d.2.2.2.1 d.2.2.2.2.1 d.2.2.2.2.2.1 d.2.2.2.2.2.2.1 d.2.2.2.2.2.2.2.1 d.2.2.2.2.2.2.2.2.1 d.2.2.2.2.2.2.2.2.2.1 d.2.2.2.2.2.2.2.2.2.2.1 d.2.2.2.2.2.2.2.2.2.2.2.1 d.2.2.2.2.2.2.2.2.2.2.2.2.1 d.2.2.2.2.2.2.2.2.2.2.2.2.2.1 d.2.2.2.2.2.2.2.2.2.2.2.2.2.2.1) NN
def Fp(t14 t17:Int)(b0:eq)(cP:Int)(cX:jp)(c9:bv)(cO du dw:jp)(dx:ce)(dR:bv)(b3 b4 b5:jp):am Fh E9:=
 br (iL t14 t17)
 (
  au (aw (qr (t17-(1:Int))) b0.length)<|
  au (aw t17 b0.length)<|
  au (aw t17 b0.length)<|
  au (aw (qr (t17-(1:Int))) (List.length (List.set b0 (Int.toNat t17) (gt an b0 (qr (t17-(1:Int)))))))<|
  au (iQ t17 t17)<|
  au (iQ (qr (t17-(1:Int))) (qr (t17-(1:Int))))<|
  atY (t14,(qr (t17-(1:Int))),(List.set (List.set b0 (Int.toNat t17) (gt an b0 (qr (t17-(1:Int))))) (Int.toNat (qr (t17-(1:Int)))) (gt an b0 t17)),cP,cX,c9,cO,du,dw,dx,dR,b3,b4,b5,()))
 (
  atZ (b0,cP,cX,c9,cO,du,dw,dx,dR,b3,b4,b5,()))
def aoS  :O4:=cu (iC Fp) (pL k0 e0 1 l0 fun d=>atP)
def aoP(s:nS):O4:=aoS
def O2(F:jq):ab9:=bp (fun d=>Fp   d.1 d.2.1 d.2.2.1 d.2.2.2.1 d.2.2.2.2.1 d.2.2.2.2.2.1 d.2.2.2.2.2.2.1 d.2.2.2.2.2.2.2.1 d.2.2.2.2.2.2.2.2.1 d.2.2.2.2.2.2.2.2.2.1 d.2.2.2.2.2.2.2.2.2.2.1 d.2.2.2.2.2.2.2.2.2.2.2.1 d.2.2.2.2.2.2.2.2.2.2.2.2.1 d.2.2.2.2.2.2.2.2.2.2.2.2.2.1) NN
def wg(F0:nT)(t1 t2 t3 t18 t19 t20 t21 t22:Int)(b0:eq)(cP:Int)(cX:jp)(c9:bv)(cO du dw:jp)(dx:ce)(dR:bv)(b3 b4 b5:jp):am Fg zn:=
 br (iL t20 t21)
 (
  au (aw (qr (t22-(qr (Int.fdiv (IntKind.wrap .u64 (qr (t20+t21))) (HPow.hPow (2:Int) (Min.min (Int.toNat (1:Int)) 64)))))) b0.length)<|
  au (aw (qr (Int.fdiv (IntKind.wrap .u64 (qr (t20+t21))) (HPow.hPow (2:Int) (Min.min (Int.toNat (1:Int)) 64)))) b0.length)<|
  az (F0 ((gt an b0 (qr (t22-(qr (Int.fdiv (IntKind.wrap .u64 (qr (t20+t21))) (HPow.hPow (2:Int) (Min.min (Int.toNat (1:Int)) 64))))))).1,(gt an b0 (qr (t22-(qr (Int.fdiv (IntKind.wrap .u64 (qr (t20+t21))) (HPow.hPow (2:Int) (Min.min (Int.toNat (1:Int)) 64))))))).2.1,(gt an b0 (qr (t22-(qr (Int.fdiv (IntKind.wrap .u64 (qr (t20+t21))) (HPow.hPow (2:Int) (Min.min (Int.toNat (1:Int)) 64))))))).2.2.1,(gt an b0 (qr (Int.fdiv (IntKind.wrap .u64 (qr (t20+t21))) (HPow.hPow (2:Int) (Min.min (Int.toNat (1:Int)) 64))))).1,(gt an b0 (qr (Int.fdiv (IntKind.wrap .u64 (qr (t20+t21))) (HPow.hPow (2:Int) (Min.min (Int.toNat (1:Int)) 64))))).2.1,(gt an b0 (qr (Int.fdiv (IntKind.wrap .u64 (qr (t20+t21))) (HPow.hPow (2:Int) (Min.min (Int.toNat (1:Int)) 64))))).2.2.1,cP,cX,c9,cO,du,dw,dx,dR,b3,b0,b4,b5,())) fun x0=>
  br (Bool.not (iL x0.1 (0:Int)))
  (
   atY (t1,t2,t3,t18,t19,(qr ((qr (Int.fdiv (IntKind.wrap .u64 (qr (t20+t21))) (HPow.hPow (2:Int) (Min.min (Int.toNat (1:Int)) 64))))+(1:Int))),t21,t22,dH x0,x0.2.1,x0.2.2.1,cT x0,cQ x0,cK x0,cU x0,dz x0,dZ x0,eS x0,rj x0))
  (
   atY (t1,t2,t3,t18,t19,t20,(qr (Int.fdiv (IntKind.wrap .u64 (qr (t20+t21))) (HPow.hPow (2:Int) (Min.min (Int.toNat (1:Int)) 64)))),t22,dH x0,x0.2.1,x0.2.2.1,cT x0,cQ x0,cK x0,cU x0,dz x0,dZ x0,eS x0,rj x0)))
 (
  atZ (t1,t2,t3,t18,t19,t20,b0,cP,cX,c9,cO,du,dw,dx,dR,b3,b4,b5,()))
def aoR(c0:nq) :O3:=cu (l9 (wg c0.F)) (pL (kB c0 k0) e0 1 l0 fun d=>atP)
def aoO(s:nS):O3:=aoR nU
def Fo(F:jq):ab8:=bp (fun d=>wg lP  d.1 d.2.1 d.2.2.1 d.2.2.2.1 d.2.2.2.2.1 d.2.2.2.2.2.1 d.2.2.2.2.2.2.1 d.2.2.2.2.2.2.2.1 d.2.2.2.2.2.2.2.2.1 d.2.2.2.2.2.2.2.2.2.1 d.2.2.2.2.2.2.2.2.2.2.1 d.2.2.2.2.2.2.2.2.2.2.2.1 d.2.2.2.2.2.2.2.2.2.2.2.2.1 d.2.2.2.2.2.2.2.2.2.2.2.2.2.1 d.2.2.2.2.2.2.2.2.2.2.2.2.2.2.1 d.2.2.2.2.2.2.2.2.2.2.2.2.2.2.2.1 d.2.2.2.2.2.2.2.2.2.2.2.2.2.2.2.2.1 d.2.2.2.2.2.2.2.2.2.2.2.2.2.2.2.2.2.1 d.2.2.2.2.2.2.2.2.2.2.2.2.2.2.2.2.2.2.1 d.2.2.2.2.2.2.2.2.2.2.2.2.2.2.2.2.2.2.2.1) NN
abbrev bG:=an.T
abbrev kV:=TL [.I,.sl .I,.sl af,.sl .I,.sl .I,.sl .I,.sl ah,.sl af,.sl .I,.sl (.int .u8),.sl .I]
abbrev uD:=Option (Out Fk)
def wO(F1:jq)(b mid e:Int)(x:List bG×kV):uD:=br (iL mid e) (br (bP true (iL e b) false) (az (F1 (mid,e,b,x.1,x.2)) fun y=>some (y.1,y.2)) (some x)) (some x)
def zT(F1:jq)(a b mid s e:Int)(x:List bG×kV):uD:=br (iL a s) (br (bP true (iL s mid) false) (az (F1 (a,s,mid,x.1,x.2)) fun y=>wO F1 b mid e y) (wO F1 b mid e x)) (wO F1 b mid e x)
def RL(F2:Gi)(F1:jq)(a m b mid s e:Int)(x:List bG×kV):uD:=br (iL s m) (br (bP true (iL m e) false) (az (F2 (s,m,e,x.1,x.2)) fun y=>zT F1 a b mid s e y) (zT F1 a b mid s e x)) (zT F1 a b mid s e x)
def afl(F2:Gi)(F1:jq)(x0:Out zn):uD:=RL F2 F1 x0.1 x0.2.1 x0.2.2.1 x0.2.2.2.1 x0.2.2.2.2.2.1 (qr (@HSub.hSub (Int) (Int) (Int) _ x0.2.2.2.2.1 x0.2.2.2.2.2.1)) x0.2.2.2.2.2.2
def zm(F0:nT)(F1:jq)(F2:Gi)(L3:aco)(L9:acn)(L15:aca)(L21:ab9)(L33:ab8)(t1 t2 t3:Int)(b0:eq)(cP:Int)(cX:jp)(c9:bv)(cO du dw:jp)(dx:ce)(dR:bv)(b3 b4 b5:jp):Option (Out Fk):=
 br (iQ (qr (t2-t1)) (1:Int))
 (
  az (L3 (t1,t2,t3,b0,cP,cX,c9,cO,du,dw,dx,dR,b3,b4,b5,())) fun x0=>
  az (L9 (x0.2.1,x0.1,x0.2.2)) fun x1=>
  some x1)
 (
  br (iQ (qr (t3-t2)) (1:Int))
  (
   az (L15 (t2,t1,t2,b0,cP,cX,c9,cO,du,dw,dx,dR,b3,b4,b5,())) fun x0=>
   az (L21 (x0.2.1,x0.1,x0.2.2)) fun x1=>
   some x1)
  (
   br (iL (qr (Int.fdiv (IntKind.wrap .u64 (qr (t1+t3))) (HPow.hPow (2:Int) (Min.min (Int.toNat (1:Int)) 64)))) t2)
   (
    az (L33 (t1,t2,t3,(qr (Int.fdiv (IntKind.wrap .u64 (qr (t1+t3))) (HPow.hPow (2:Int) (Min.min (Int.toNat (1:Int)) 64)))),(qr ((qr (Int.fdiv (IntKind.wrap .u64 (qr (t1+t3))) (HPow.hPow (2:Int) (Min.min (Int.toNat (1:Int)) 64))))+t2)),(qr ((qr ((qr (Int.fdiv (IntKind.wrap .u64 (qr (t1+t3))) (HPow.hPow (2:Int) (Min.min (Int.toNat (1:Int)) 64))))+t2))-t3)),(qr (Int.fdiv (IntKind.wrap .u64 (qr (t1+t3))) (HPow.hPow (2:Int) (Min.min (Int.toNat (1:Int)) 64)))),(qr ((qr ((qr (Int.fdiv (IntKind.wrap .u64 (qr (t1+t3))) (HPow.hPow (2:Int) (Min.min (Int.toNat (1:Int)) 64))))+t2))-(1:Int))),b0,cP,cX,c9,cO,du,dw,dx,dR,b3,b4,b5,())) fun x0=>afl F2 F1 x0)
   (
    az (L33 (t1,t2,t3,(qr (Int.fdiv (IntKind.wrap .u64 (qr (t1+t3))) (HPow.hPow (2:Int) (Min.min (Int.toNat (1:Int)) 64)))),(qr ((qr (Int.fdiv (IntKind.wrap .u64 (qr (t1+t3))) (HPow.hPow (2:Int) (Min.min (Int.toNat (1:Int)) 64))))+t2)),t1,t2,(qr ((qr ((qr (Int.fdiv (IntKind.wrap .u64 (qr (t1+t3))) (HPow.hPow (2:Int) (Min.min (Int.toNat (1:Int)) 64))))+t2))-(1:Int))),b0,cP,cX,c9,cO,du,dw,dx,dR,b3,b4,b5,())) fun x0=>afl F2 F1 x0)))
def ao5(c0:nq)(c1:nS)(c2:PA)(M3:Pd)(M9:Pc)(M15:O5)(M21:O4)(M33:O3):nS:=⟨gm (zm c0.F c1.F c2.F M3.L M9.L M15.L M21.L M33.L),pB Tryz.func177 220 (kB c0 (kB c1 (kB c2 k0))) e0 1 (sS (sC M3 (sC M9 (sC M15 (sC M21 (sC M33 l0)))))) fun d=>atP⟩
def sr:Nat->nS
 |0=>T4 Tryz.func177 atP atP|k+1=>ao5 nU (sr k) acK (aoW (sr k)) (aoV (sr k)) (aoQ (sr k)) (aoP (sr k)) (aoO (sr k))
def kN(k:Nat):jq:=(sr k).F
def FB:nS:=sr NN
def Pb:jq:=FB.F
abbrev acv:ai:=⟨[(0,.hd 0 an),(1,.I),(2,.func 90 [] [.ptr 1 0])],jP,6⟩
abbrev Pg:List (Ev.Ex×ai):=[(.ret,pa)]
abbrev acI:=be acv Pg
abbrev Pz:=Kb 139 3 acv 0 Pg
abbrev Fy:ai:=⟨[(0,.hd 0 an),(1,.I),(2,.func 90 [] [.ptr 1 0]),(6,.I)],jP,6⟩
abbrev Ft:List (Ev.Ex×ai):=[((.exit 2),pa)]
abbrev acz:=be Fy Ft
abbrev Pr:=Ld 6 63 (cj [1] (bu Tryz.f139)) Fy Ft
abbrev Fx:ai:=afu
abbrev Fs:List (Ev.Ex×ai):=[((.exit 4),afw)]
abbrev Pq:=be Fx Fs
abbrev FD:=Ld 6 63 (cj [1,0] (bu Tryz.f139)) Fx Fs
abbrev FA:ai:=afu
abbrev Fu:List (Ev.Ex×ai):=[((.exit 0),afw)]
abbrev acA:=be FA Fu
abbrev Ps:=Ld 6 63 (cj [0] (bu Tryz.f139)) FA Fu
def Pv(F2:OW)(t1 t6 t7 t8:Int)(b0:eq)(cP:Int)(cX:jp)(c9:bv)(cO du dw:jp)(dx:ce)(dR:bv)(b3 b4 b5:jp):am FA Fu:=
 br (iE t8 t1)
 (
  az (F2 (t7,t8,b0,cP,cX,c9,cO,du,dw,dx,dR,b3,b4,b5,())) fun x0=>
  atY (t1,t6,t8,(qr (t8+t6)),x0))
 (
  atZ (t1,t6,t7,b0,cP,cX,c9,cO,du,dw,dx,dR,b3,b4,b5,()))
def apa(c2:Fc) :Ps:=cu (u16 (Pv c2.F)) (pL (kB c2 k0) e0 1 l0 fun d=>atP)
def ao7:Ps:=apa OX
def acD:acA:=bp (u16 (Pv abO)) NN
def Pt(F1:jq)(t1 t6 t7 t8:Int)(b0:eq)(cP:Int)(cX:jp)(c9:bv)(cO du dw:jp)(dx:ce)(dR:bv)(b3 b4 b5:jp):am Fx Fs:=
 br (iE t8 t1)
 (
  az (F1 (t7,(qr (t7+t6)),t8,b0,cP,cX,c9,cO,du,dw,dx,dR,b3,b4,b5,())) fun x0=>
  atY (t1,t6,t8,(qr (t8+(qr ((2:Int)*t6)))),x0))
 (
  atZ (t1,t6,t7,b0,cP,cX,c9,cO,du,dw,dx,dR,b3,b4,b5,()))
def ao8(c1:nS) :FD:=cu (u16 (Pt c1.F)) (pL (kB c1 k0) e0 1 l0 fun d=>atP)
def acB:FD:=ao8 FB
def FC:Pq:=bp (u16 (Pt Pb)) NN
def Pu(F1:jq)(L9:Pq)(t1 t6:Int)(b0:eq)(cP:Int)(cX:jp)(c9:bv)(cO du dw:jp)(dx:ce)(dR:bv)(b3 b4 b5:jp):am Fy Ft:=
 br (iL t6 t1)
 (
  az (L9 (t1,t6,(0:Int),(qr ((2:Int)*t6)),b0,cP,cX,c9,cO,du,dw,dx,dR,b3,b4,b5,())) fun x0=>
  br (iL (qr (pp x0.2.2.1 x0.2.1)) x0.1)
  (
   az (F1 (x0.2.2.1,(qr (pp x0.2.2.1 x0.2.1)),x0.1,xD x0)) fun x1=>
   atY (x0.1,(qr (@HMul.hMul (Int) (Int) (Int) _ x0.2.1 (2:Int))),x1))
  (
   atY (x0.1,(qr (@HMul.hMul (Int) (Int) (Int) _ x0.2.1 (2:Int))),xD x0)))
 (
  atZ (b0,cP,cX,c9,cO,du,dw,dx,dR,b3,b4,b5,()))
def ao9(c1:nS)(M9:FD):Pr:=cu (iC (Pu c1.F M9.L)) (pL (kB c1 k0) e0 1 (sC M9 l0) fun d=>atP)
def ao6:Pr:=ao9 FB acB
def acC:acz:=bp (iC (Pu Pb FC)) NN
def api(F0:nT)(F1:jq)(F2:OW)(L2:acA)(L7:acz)(L9:Pq)(t1:Int)(b0:eq)(cP:Int)(cX:jp)(c9:bv)(cO du dw:jp)(dx:ce)(dR:bv)(b3 b4 b5:jp):Option (Out Pg):=
 az (L2 (t1,(20:Int),(0:Int),(20:Int),b0,cP,cX,c9,cO,du,dw,dx,dR,b3,b4,b5,())) fun x0=>
 az (F2 (x0.2.2.1,x0.1,xD x0)) fun x1=>
 az (L7 (x0.1,x0.2.1,x1)) fun x2=>
 some x2
def aph(c0:nq)(c1:nS)(c2:Fc)(M2:Ps)(M7:Pr)(M9:FD):Pz:=⟨kI (api c0.F c1.F c2.F M2.L M7.L M9.L),pB Tryz.func139 63 (kB c0 (kB c1 (kB c2 k0))) e0 1 (sS (sC M2 (sC M7 l0))) fun d=>atP⟩
def acJ:Pz:=aph nU FB OX ao7 ao6 acB
def apb:acI:=acJ.F
abbrev abx:ai:=⟨[(0,.hd 0 an),(1,.func 90 [] [.ptr 1 0])],jP,6⟩
abbrev OH:List (Ev.Ex×ai):=[(.ret,pa)]
abbrev abz:=be abx OH
abbrev OJ:=Kb 89 2 abx 0 OH
def aop(F0:nT)(F1:acI)(b0:eq)(cP:Int)(cX:jp)(c9:bv)(cO du dw:jp)(dx:ce)(dR:bv)(b3 b4 b5:jp):Option (Out OH):=
 az (F1 ((Int.ofNat b0.length),b0,cP,cX,c9,cO,du,dw,dx,dR,b3,b4,b5,())) fun x0=>
 some x0
def aoo(c0:nq)(c1:Pz) :OJ:=⟨bM (aop c0.F c1.F),pB Tryz.func89 9 (kB c0 (kB c1 k0)) e0 1 (sS l0) fun d=>atP⟩
def abA:OJ:=aoo nU acJ
def aon:abz:=abA.F
abbrev ad1:List Sh:=[cA]
abbrev QL:List Sh:=[(.sl an),.bool]
abbrev Ra:=TL ad1->Option (TL QL)
abbrev GY:=Kd 40 ad1 QL
def aqI(F0:abz)(F1:nT)(F2:G4)(a0:Sh.T cA):Option (TL QL):=
 az (F2 a0) fun x0=>
 (match x0 with
 |.inl x1=>
  au (Bool.not (iQ x1.1 (0:Int)))<|
  some ([],false,())
 |.inr x1=>
  br (Bool.not (iQ x1.1 (0:Int)))
  (
   some ([],false,()))
  (
   az (F0 (dH x1,x1.2.1,x1.2.2.1,cT x1,cQ x1,cK x1,cU x1,dz x1,dZ x1,eS x1,rj x1)) fun x2=>
   some (x2.1,true,()))
 )
def aqH(c0:OJ)(c1:nq)(c2:zx) :GY:=⟨u1 (aqI c0.F c1.F c2.F),pD Tryz.func40 23 (kB c0 (kB c1 (kB c2 k0))) e0 1 (sS l0) fun d=>atP⟩
def Rb:GY:=aqH abA nU G5
def aeC:Ra:=Rb.F
end Go.Proofs.YtmkbdfidnfmgmaaGreat.V
end
section
namespace Go.Proofs.YtmkbdfidnfmgmaaGreat.Pl
section
variable{α:Type}(key:α->Int)
def fP(L:List α):Prop:=L.Pairwise (fun x y=>key x<=key y)
def fk(k:Int)(L:List α):List α:=L.filter (fun x=>decide (key x=k))
structure dG(S S':List α):Prop where
 qz:fP key S'
 len:S'.length=S.length
 rJ:∀k,fk key k S'=fk key k S
variable{key}
theorem ns(k:Int)(A B:List α):fk key k (A++B)=fk key k A++fk key k B:=asa A B
theorem Y0{k:Int}{L:List α}{x:α}:x∈fk key k L↔x∈L/\key x=k:=by unfold fk;simp
theorem YS{k:Int}{L:List α}(h:∀x∈L,key x≠k):fk key k L=[]:=by unfold fk;rw[atj];intro x hx;simpa using h x hx
theorem aeK{S S':List α}(h:∀k,fk key k S'=fk key k S){x:α}(hx:x∈S'):x∈S:=by have:x∈fk key (key x) S':=Y0.2 ⟨hx,rfl⟩;rw[h]at this;exact(Y0.1 this).1
theorem dG.mem{S S':List α}(h:dG key S S'){x:α}:x∈S'↔x∈S:=⟨aeK h.rJ,aeK (fun k=>(h.rJ k).symm)⟩
theorem dG.refl{S:List α}(h:fP key S):dG key S S:=⟨h,rfl,fun _=>rfl⟩
theorem nW{A B:List α}:fP key (A++B)↔fP key A/\fP key B/\∀x∈A,∀y∈B,key x<=key y:=by unfold fP;rw[atv]
theorem Re{x:α}{B:List α}:fP key (x::B)↔(∀y∈B,key x<=key y)/\fP key B:=by unfold fP;rw[arX]
theorem ae4{A B:List α}(h:∀x∈A,∀y∈B,key y<key x)(k:Int):fk key k (A++B)=fk key k (B++A):=by
 rw[ns,ns];by_cases q:∃x∈A,key x=k
 .obtain⟨x,hx,hk⟩:=q;have:fk key k B=[]:=YS (fun y hy=>by have:=h x hx y hy;omega);rw[this];simp
 .have:fk key k A=[]:=YS (fun x hx hk=>q ⟨x,hx,hk⟩);rw[this];simp
theorem Q6{T0 T1 T2:List α}{x:α}(h:dG key T0 (T1++T2))(h1:∀y∈T1,key y<=key x)(h2:∀y∈T2,key x<key y):dG key (T0++[x]) (T1++x::T2):=by
 obtain⟨s1,s2,s3⟩:=nW.1 h.qz;refine⟨?_,?_,?_⟩
 .refine nW.2 ⟨s1,Re.2 ⟨fun y hy=>Int.le_of_lt (h2 y hy),s2⟩,?_⟩;intro a ha b hb;rcases GE.1 hb with rfl|hb
  .exact h1 a ha
  .exact s3 a ha b hb
 .have:=h.len;simp only[bU,di,IT]at *
  omega
 .intro k;have e:fk key k (x::T2)=fk key k (T2++[x]):=by have:=ae4 (key:=key) (A:=T2) (B:=[x]) (fun a ha b hb=>by simp at hb;subst hb;exact h2 a ha) k;rw[this];rfl
  rw[ns,e,ns,<-bB,<-ns,h.rJ,<-ns]
theorem akF{A B A' B':List α}(ha:dG key A A')(hb:dG key B B')(h:∀x∈A,∀y∈B,key x<=key y):dG key (A++B) (A'++B'):=by
 refine⟨nW.2 ⟨ha.qz,hb.qz,fun x hx y hy=>h x (ha.mem.1 hx) y (hb.mem.1 hy)⟩,?_,?_⟩
 .have:=ha.len;have:=hb.len;simp only[bU];omega
 .intro k;rw[ns,ns,ha.rJ,hb.rJ]
theorem dG.ZB{A B C:List α}(hl:B.length=A.length)(h:∀k,fk key k B=fk key k A)(g:dG key B C):dG key A C:=⟨g.qz,g.len.trans hl,fun k=>(g.rJ k).trans (h k)⟩
theorem GR{P1 P2 Q1 Q2 R1 R2:List α}(hp:fP key (P1++P2))(hq:fP key (Q1++Q2))(h1:∀x∈P1,∀y∈Q2,key x<=key y)(h2:∀x∈P2,∀y∈Q1,key y<key x)
  (r1:dG key (P1++Q1) R1) (r2:dG key (P2++Q2) R2):dG key ((P1++P2)++(Q1++Q2)) (R1++R2):=by
 obtain⟨p1,p2,p3⟩:=nW.1 hp;obtain⟨q1,q2,q3⟩:=nW.1 hq;refine dG.ZB (B:=(P1++Q1)++(P2++Q2)) ?_ ?_ (akF r1 r2 ?_)
 .simp only[bU];omega
 .intro k;have e:=ae4 (key:=key) (A:=P2) (B:=Q1) h2 k;rw[ns,ns]at e;simp only[ns,bB];rw[<-bB (fk key k Q1),<-e,bB]
 .intro x hx y hy;rcases rc.1 hx with hx|hx<;>rcases rc.1 hy with hy|hy
  .exact p3 x hx y hy
  .exact h1 x hx y hy
  .exact Int.le_of_lt (h2 y hy x hx)
  .exact q3 x hx y hy
theorem ajs{S:List α}(h:fP key S):∀(n:Nat),(∀x∈S,1<=key x/\key x<=(n:Int))->S=(List.range n).flatMap (fun(i:Nat)=>fk key ((i:Int)+1) S):=by
 intro n
 induction n generalizing S with
 |zero=>intro hb;cases S with|nil=>rfl|cons x S=>have:=hb x atQ;omega
 |succ n ih=>
  intro hb;have split:∀{S:List α},fP key S->(∀x∈S,key x<=((n+1:Nat):Int))->S=S.filter (fun x=>decide (key x<=(n:Int)))++fk key ((n:Int)+1) S:=by
   intro S
   induction S with
   |nil=>intro _ _;rfl|cons x S ihS=>
    intro hs hb;obtain⟨a,b⟩:=Re.1 hs;have e:=ihS b (fun y hy=>hb y (by simp[hy]));by_cases q:key x<=(n:Int)
    .unfold fk;rw[List.filter_cons_of_pos (by simpa using q),List.filter_cons_of_neg (by simp;omega)];have e':=PP (List.cons x) e;exact e'
    .have hk:key x=(n:Int)+1:=by have:=hb x atQ;omega
     have all:∀y∈S,key y=(n:Int)+1:=fun y hy=>by have:=a y hy;have:=hb y (by simp[hy]);omega
     have f0:S.filter (fun x=>decide (key x<=(n:Int)))=[]:=by rw[atj];intro y hy;have:=all y hy;simp;omega
     have f1:fk key ((n:Int)+1) S=S:=by unfold fk;rw[List.filter_eq_self];intro y hy;simpa using all y hy
     have g0:(x::S).filter (fun x=>decide (key x<=(n:Int)))=[]:=by rw[List.filter_cons_of_neg (by simp;omega),f0]
     have g1:fk key ((n:Int)+1) (x::S)=x::fk key ((n:Int)+1) S:=by unfold fk;rw[List.filter_cons_of_pos (by simpa using hk)]
     rw[g0,g1,f1];rfl
  have e:=split h (fun x hx=>(hb x hx).2);have hs':fP key (S.filter (fun x=>decide (key x<=(n:Int)))):=List.Pairwise.filter _ h;have ih':=ih hs' (fun x hx=>by have:=arg.1 hx;exact⟨(hb x this.1).1,by simpa using this.2⟩);rw[asg,OF,List.flatMap_singleton];have e2:(List.range n).flatMap (fun(i:Nat)=>fk key ((i:Int)+1) S)=(List.range n).flatMap (fun(i:Nat)=>fk key ((i:Int)+1) (S.filter (fun x=>decide (key x<=(n:Int))))):=by
   have:∀(l:mt),(∀i∈l,i<n)->l.flatMap (fun(i:Nat)=>fk key ((i:Int)+1) S)=l.flatMap (fun(i:Nat)=>fk key ((i:Int)+1) (S.filter (fun x=>decide (key x<=(n:Int))))):=by
    intro l
    induction l with
    |nil=>intro _;rfl|cons i l il=>
     intro hi;rw[AT,AT,il (fun j hj=>hi j (by simp[hj]))];congr 1;unfold fk;rw[List.filter_filter];apply List.filter_congr;intro x hx;have:=hi i atQ;by_cases q:key x=(i:Int)+1
     .have:key x<=(n:Int):=atO
      simp[q];omega
     .simp[q]
   exact this _ (fun i hi=>Id.1 hi)
  rw[e2,<-ih'];exact e
theorem dG.flat{S S':List α}(h:dG key S S')(n:Nat)(hb:∀x∈S,1<=key x/\key x<=(n:Int)):S'=(List.range n).flatMap (fun(i:Nat)=>fk key ((i:Int)+1) S):=by
 have e:=ajs h.qz n (fun x hx=>hb x (h.mem.1 hx));rw[e];have:∀(l:mt),l.flatMap (fun(i:Nat)=>fk key ((i:Int)+1) S')=l.flatMap (fun(i:Nat)=>fk key ((i:Int)+1) S):=by
  intro l
  induction l with|nil=>rfl|cons i l il=>rw[AT,AT,il,h.rJ]
 rw[<-e];exact e.trans (this _)
end
end Go.Proofs.YtmkbdfidnfmgmaaGreat.Pl
end
section
namespace Go.Proofs.YtmkbdfidnfmgmaaGreat.V
open Go Go.RowKit
theorem dL{x:Int}{n:Nat}(e:x=(n:Int))(h:n<=1000000000):qr x=(n:Int):=by rw[e];exact atX
variable{u:Nat}
theorem xB{σ:Sh}{X Z:List σ.T}{p:σ.T}(hu:X.length=u):gt σ (X++p::Z) (u:Int)=p:=by
 refine bI ?_
 grind
variable{α:Type}{p:α}{q:α}
theorem zS{X Z:List α}(hu:X.length=u):(X++p::Z).set u q=X++q::Z:=by rw[List.set_append_right _ _ atO,hu];simp
variable{v:Nat}
theorem sw2{X M Y:List α}(hu:X.length=u)(hv:X.length+1+M.length=v):((X++p::(M++q::Y)).set u q).set v p=X++q::(M++p::Y):=by
 rw[zS hu];have e:X++q::(M++q::Y)=(X++q::M)++q::Y:=atQ
 rw[e,zS (by simp;omega)];simp
variable{i:Nat}
theorem wA{L:List α}(h:i<L.length):L.drop i=L[i]::L.drop (i+1):=asV h
variable{R:Type}{y:Option R}{U:Int}{z:Option R}
theorem aeO{L X M Y:List bG}{p q:bG}(hL:L=X++p::(M++q::Y))(hu:X.length=u)(hv:X.length+1+M.length=v){V:Int}(eU:U=(u:Int))(eV:V=(v:Int))
  (h:List.set (List.set L (Int.toNat U) (gt an L V)) (Int.toNat V) (gt an L U)=X++q::(M++p::Y)->y=z) :
  (au (aw V L.length) <|au (aw U L.length) <|au (aw U L.length) <|au (aw V (List.length (List.set L (Int.toNat U) (gt an L V)))) <|y)=z:=by
 subst hL;subst eU;subst eV;have hlen:List.length (X++p::(M++q::Y))=X.length+(1+(M.length+(1+Y.length))):=by simp;omega
 have gu:gt an (X++p::(M++q::Y)) (u:Int)=p:=xB hu;have gv:gt an (X++p::(M++q::Y)) (v:Int)=q:=by
  have e:X++p::(M++q::Y)=(X++p::M)++q::Y:=atQ
  rw[e];exact xB (by simp;omega)
 have i1:aw (v:Int) (List.length (X++p::(M++q::Y)))=true:=aU ⟨atO,by rw[hlen];omega⟩;have i2:aw (u:Int) (List.length (X++p::(M++q::Y)))=true:=aU ⟨atO,by rw[hlen];omega⟩;have hs:∀z:bG,aw (v:Int) (List.length (List.set (X++p::(M++q::Y)) (Int.toNat (u:Int)) z))=true:=fun z=>(PP (aw (v:Int)) acl).trans i1;refine aS i1 (aS i2 (aS i2 (aS (hs _) (h ?_))));rw[gu,gv,Ne,Ne];exact sw2 hu hv
theorem arc(W:kV)(X P M Q Y:List bG)(a b n:Nat)(ha:X.length=a)(hp:P.length=n)(hq:Q.length=n)(hb:X.length+P.length+M.length=b)(hl:b+n<=1000000) :
  ace ((a:Int),(b:Int),(n:Int),(0:Int),X++(P++(M++(Q++Y))),W)=some (X++(Q++(M++(P++Y))),W):=by
 unfold ace;delta u16 u4 bM bX;refine d9 (fun i:Nat=>((a:Int),(b:Int),(n:Int),(i:Int),X++(Q.take i++(P.drop i++(M++(P.take i++(Q.drop i++Y))))),W)) n rfl ?_ ?_ atU
 .intro i hi
  try dsimp only
  unfold Fq;have hpi:i<P.length:=atO
  have hqi:i<Q.length:=atO
  refine aR (aD (show(i:Int)<(n:Int) by omega)) ?_;refine aeO (X:=X++Q.take i) (p:=P[i]) (M:=P.drop (i+1)++(M++P.take i)) (q:=Q[i]) (Y:=Q.drop (i+1)++Y) (u:=a+i) (v:=b+i) ?_ ?_ ?_ ?_ ?_ (fun hset=>?_)
  .rw[wA hpi,wA hqi];simp only[bB,arM]
  .simp;omega
  .simp;omega
  .exact dL atO atO
  .exact dL atO atO
  .refine aS (aD rfl) (aS (aD rfl) (aS (aD rfl) ?_));have e:∀(u v:Int) (A B:List bG),u=v->A=B->(atY ((a:Int),(b:Int),(n:Int),u,A,W):am Fj Fb)=atY ((a:Int),(b:Int),(n:Int),v,B,W):=by rintro _ _ _ _ rfl rfl;rfl
   refine e _ _ _ _ (dL (n:=i+1) atO atO) (hset.trans ?_);rw[asD hpi,asD hqi];simp only[bB,arM,UV]
 .try dsimp only
  unfold Fq;refine ax (aF (show ¬(n:Int)<(n:Int) by omega)) ?_;have e1:P.drop n=[]:=aso atO;have e2:Q.drop n=[]:=aso atO;have e3:P.take n=P:=If atO;have e4:Q.take n=Q:=If atO;rw[e1,e2,e3,e4];rfl
variable{A:Int}{B:Int}
theorem Rg(W:kV)(X P M Q Y:List bG){N:Int}(a b n:Nat)(eA:A=(a:Int))(eB:B=(b:Int))(eN:N=(n:Int))(ha:X.length=a)(hp:P.length=n)(hq:Q.length=n)(hb:X.length+P.length+M.length=b)(hl:b+n<=1000000){L:List bG}(hL:L=X++(P++(M++(Q++Y)))) :
  acf (A,B,N,L,W)=some (X++(Q++(M++(P++Y))),W):=by
 subst eA;subst eB;subst eN;subst hL;exact aB (arc W X P M Q Y a b n ha hp hq hb hl) rfl
theorem ajn(W:kV)(m:Nat)(G:List bG)(hG:G.length<=400000){X P Q Y:List bG}(hp:0<P.length)(hq:0<Q.length)(hm:X.length+P.length=m)(hg:X++(Q++(P++Y))=G) :
  ∃o,Pw ((m:Int),(P.length:Int),(Q.length:Int),X++(P++(Q++Y)),W)=some o /\
   ∃X P Q Y:List bG,o=((m:Int),(P.length:Int),X++(P++(Q++Y)),W)/\Q.length=P.length/\X.length+P.length=m/\X++(Q++(P++Y))=G:=by
 unfold Pw;delta gm u3 bM bX;refine kp (fun d=>∃X P Q Y:List bG,d=((m:Int),(P.length:Int),(Q.length:Int),X++(P++(Q++Y)),W)/\0<P.length/\0<Q.length/\X.length+P.length=m/\X++(Q++(P++Y))=G)
  (fun o=>∃X P Q Y:List bG,o=((m:Int),(P.length:Int),X++(P++(Q++Y)),W)/\Q.length=P.length/\X.length+P.length=m/\X++(Q++(P++Y))=G)
  (fun d=>d.2.1.toNat+d.2.2.1.toNat) ?_ NN _ ⟨X,P,Q,Y,rfl,hp,hq,hm,hg⟩ (cp (by have:=PP List.length hg;simp only[bU]at this;show((P.length:Int)).toNat+((Q.length:Int)).toNat<=_;omega))
 rintro d ⟨X,P,Q,Y,rfl,hp,hq,hm,hg⟩;have hlen:X.length+(Q.length+(P.length+Y.length))<=400000:=by have:=PP List.length hg;simp only[bU]at this;omega
 try dsimp only
 unfold Py;rcases Nat.lt_trichotomy P.length Q.length with h|h|h
 .-- the second one is longer
  right;obtain⟨Q1,Q2,hQ,h1,h2⟩:∃Q1 Q2:List bG,Q=Q1++Q2/\Q1.length=Q.length-P.length/\Q2.length=P.length:=⟨Q.take (Q.length-P.length),Q.drop (Q.length-P.length),(LT _ _).symm,atQ,by simp;omega⟩;have es:=Rg W X P Q1 Q2 Y (A:=qr ((m:Int)-(P.length:Int))) (B:=qr ((qr ((m:Int)+(Q.length:Int)))-(P.length:Int))) (N:=(P.length:Int)) X.length (m+Q.length-P.length) P.length
   (dL atO atO) (by rw[dL (x:=(m:Int)+(Q.length:Int)) (n:=m+Q.length) atO atO];exact dL atO atO) rfl rfl rfl h2 atO atO (L:=X++(P++(Q++Y))) (by rw[hQ];simp only[bB])
  refine⟨((m:Int),(Q2.length:Int),(Q1.length:Int),X++(Q2++(Q1++(P++Y))),W),?_,⟨X,Q2,Q1,P++Y,rfl,atO,atO,atO,?_⟩,?_⟩
  .refine aR (qQ (aF (show ¬(P.length:Int)=(Q.length:Int) by omega))) (ax (aF (show ¬(Q.length:Int)<(P.length:Int) by omega)) (aB es ?_));have e:∀(u v u' v':Int) (A:List bG),u=u'->v=v'->(atY ((m:Int),u,v,A,W):am zl zj)=atY ((m:Int),u',v',A,W):=by rintro _ _ _ _ _ rfl rfl;rfl
   exact e _ _ _ _ _ atO (dL atO atO)
  .rw[<-hg,hQ];simp only[bB]
  .show((Q2.length:Int)).toNat+((Q1.length:Int)).toNat<((P.length:Int)).toNat+((Q.length:Int)).toNat;omega
 .left;refine⟨((m:Int),(P.length:Int),X++(P++(Q++Y)),W),ax (ED (aD (show(P.length:Int)=(Q.length:Int) by omega))) rfl,X,P,Q,Y,rfl,h.symm,hm,hg⟩
 .-- the first one is longer
  right;obtain⟨P1,P2,hP,h1,h2⟩:∃P1 P2:List bG,P=P1++P2/\P1.length=Q.length/\P2.length=P.length-Q.length:=⟨P.take Q.length,P.drop Q.length,(LT _ _).symm,by simp;omega,atQ⟩;have es:=Rg W X P1 P2 Q Y (A:=qr ((m:Int)-(P.length:Int))) (B:=(m:Int)) (N:=(Q.length:Int)) X.length m Q.length
   (dL atO atO) rfl rfl rfl h1 rfl atO atO (L:=X++(P++(Q++Y))) (by rw[hP];simp only[bB])
  refine⟨((m:Int),(P2.length:Int),(P1.length:Int),(X++Q)++(P2++(P1++Y)),W),?_,⟨X++Q,P2,P1,Y,rfl,atO,atO,by simp only[bU];omega,?_⟩,?_⟩
  .refine aR (qQ (aF (show ¬(P.length:Int)=(Q.length:Int) by omega))) (aR (aD (show(Q.length:Int)<(P.length:Int) by omega)) (aB es ?_));have e:∀(u v u' v':Int) (A A':List bG),u=u'->v=v'->A=A'->(atY ((m:Int),u,v,A,W):am zl zj)=atY ((m:Int),u',v',A',W):=by rintro _ _ _ _ _ _ rfl rfl rfl;rfl
   exact e _ _ _ _ _ _ (dL atO atO) atO (by simp only[bB])
  .rw[<-hg,hP];simp only[bB]
  .show((P2.length:Int)).toNat+((P1.length:Int)).toNat<((P.length:Int)).toNat+((Q.length:Int)).toNat;omega
theorem alI(W:kV){X P Q Y L:List bG}{M:Int}(hp:0<P.length)(hq:0<Q.length)(eA:A=(X.length:Int))(eM:M=((X.length+P.length:Nat):Int))(eB:B=((X.length+P.length+Q.length:Nat):Int))(hl:L.length<=400000)(hL:L=X++(P++(Q++Y))) :
  FE (A,M,B,L,W)=some (X++(Q++(P++Y)),W):=by
 subst eA;subst eM;subst eB;subst hL;have hlen:X.length+(P.length+(Q.length+Y.length))<=400000:=by grind
 obtain⟨o,e1,X',P',Q',Y',rfl,h1,h2,h3⟩:=ajn W (X.length+P.length) (X++(Q++(P++Y))) (by simp only[bU];omega) hp hq rfl rfl (Y:=Y);have hlen':X'.length+(P'.length+(Q'.length+Y'.length))<=400000:=by
  have:=PP List.length h3
  grind
 have es:=Rg W X' P' [] Q' Y' (A:=qr (((X.length+P.length:Nat):Int)-(P'.length:Int))) (B:=((X.length+P.length:Nat):Int)) (N:=(P'.length:Int)) X'.length (X.length+P.length) P'.length
  (dL atO atO) rfl rfl rfl rfl h1 (by simp only[IT];omega) atO (L:=X'++(P'++(Q'++Y'))) rfl
 have e0:Pw (((X.length+P.length:Nat):Int),qr (((X.length+P.length:Nat):Int)-(X.length:Int)),qr (((X.length+P.length+Q.length:Nat):Int)-((X.length+P.length:Nat):Int)),X++(P++(Q++Y)),W)=some (((X.length+P.length:Nat):Int),(P'.length:Int),X'++(P'++(Q'++Y')),W):=by rw[dL (x:=((X.length+P.length:Nat):Int)-(X.length:Int)) (n:=P.length) atO atO,dL (x:=((X.length+P.length+Q.length:Nat):Int)-((X.length+P.length:Nat):Int)) (n:=Q.length) atO atO];exact e1
 refine aB e0 (aB es ?_);have e:∀(A A':List bG),A=A'->(some (A,W):Option (Out zk))=some (A',W):=by rintro _ _ rfl;rfl
 grind
open Pl (dG fP Q6)
def oG(W:kV)(L:List bG):TL [.I,.sl .I,.sl af,.sl .I,.sl .I,.sl .I,.sl ah,.sl af,.sl .I,.sl an,.sl (.int .u8),.sl .I]:=(W.1,W.2.1,W.2.2.1,W.2.2.2.1,W.2.2.2.2.1,W.2.2.2.2.2.1,W.2.2.2.2.2.2.1,W.2.2.2.2.2.2.2.1,W.2.2.2.2.2.2.2.2.1,L,W.2.2.2.2.2.2.2.2.2.1,W.2.2.2.2.2.2.2.2.2.2.1,())
structure mX(W:kV)(key:bG->Int)(V:bG->Prop):Prop where
 cmp:∀(L:List bG) (x y:bG),V x->V y->∃c:Int,lP (x.1,x.2.1,x.2.2.1,y.1,y.2.1,y.2.2.1,oG W L)=some (c,oG W L)/\(c<0↔key x<key y)
theorem aeP{L X Y:List bG}{p q:bG}(hL:L=X++q::(p::Y))(hv:X.length=v)(hu:v+1=u){V:Int}(eU:U=(u:Int))(eV:V=(v:Int))
  (h:List.set (List.set L (Int.toNat U) (gt an L V)) (Int.toNat V) (gt an L U)=X++p::(q::Y)->y=z) :
  (au (aw V L.length) <|au (aw U L.length) <|au (aw U L.length) <|au (aw V (List.length (List.set L (Int.toNat U) (gt an L V)))) <|y)=z:=by
 subst hL;subst eU;subst eV;subst hu;have hlen:List.length (X++q::(p::Y))=X.length+(1+(1+Y.length)):=by simp;omega
 have gv:gt an (X++q::(p::Y)) (v:Int)=q:=xB hv;have e:X++q::(p::Y)=(X++[q])++p::Y:=atQ
 have gu:gt an (X++q::(p::Y)) ((v+1:Nat):Int)=p:=by rw[e];exact xB (by simp;omega)
 have i1:aw (v:Int) (List.length (X++q::(p::Y)))=true:=aU ⟨atO,by rw[hlen];omega⟩;have i2:aw ((v+1:Nat):Int) (List.length (X++q::(p::Y)))=true:=aU ⟨atO,by rw[hlen];omega⟩;have hs:∀z:bG,aw (v:Int) (List.length (List.set (X++q::(p::Y)) (Int.toNat ((v+1:Nat):Int)) z))=true:=fun z=>(PP (aw (v:Int)) acl).trans i1;refine aS i1 (aS i2 (aS i2 (aS (hs _) (h ?_))));rw[gu,gv,Ne,Ne];have e2:(X++q::(p::Y)).set (v+1) q=X++q::(q::Y):=by grind
 exact(PP (fun l:List bG=>l.set v p) e2).trans (zS hv)
section
variable{W:kV}{key:bG->Int}{V:bG->Prop}
theorem aiN(C:mX W key V)(X T T0 Y:List bG)(x:bG)(A B I:Int)(i:Nat)(hA:A=(X.length:Int))(hi:X.length+T.length=i)(hl:X.length+(T.length+Y.length)<=400000)(hT:dG key T0 T)(hV:∀y∈T,V y)(hx:V x) :
  ∃o,OR (A,B,I,(i:Int),X++(T++(x::Y)),W)=some o/\∃S,o=(A,B,I,X++(S++Y),W)/\dG key (T0++[x]) S:=by
 unfold OR;delta u16 u4 bM bX;refine kp (fun d=>∃T1 T2:List bG,d=(A,B,I,((X.length+T1.length:Nat):Int),X++(T1++(x::(T2++Y))),W)/\T1++T2=T/\∀y∈T2,key x<key y)
  (fun o=>∃S,o=(A,B,I,X++(S++Y),W)/\dG key (T0++[x]) S) (fun d=>d.2.2.2.1.toNat) ?_ NN _ ⟨T,[],by subst hi;rfl,atQ,atQ⟩ (cp (by show((i:Int)).toNat<=_;omega))
 rintro d ⟨T1,T2,rfl,hTT,h2⟩;have hlT:T1.length+T2.length=T.length:=by rw[<-hTT,bU]
 try dsimp only
 unfold OT;rcases List.eq_nil_or_concat T1 with rfl|⟨T1',q,rfl⟩
 .left;refine⟨_,ax (aF (by rw[hA];simp)) rfl,x::T2,rfl,?_⟩;have:=Q6 (T1:=[]) (T2:=T2) (x:=x) (T0:=T0) (key:=key) (by rw[hTT];exact hT) atQ h2;exact this
 .have hj:(X.length+(T1'.concat q).length:Nat)=X.length+T1'.length+1:=by simp;omega
  have hq:V q:=hV q (by rw[<-hTT];simp);have eL:X++(T1'.concat q++(x::(T2++Y)))=(X++T1')++q::(x::(T2++Y)):=atQ
  obtain⟨c,ec,hc⟩:=C.cmp (X++(T1'.concat q++(x::(T2++Y)))) x q hx hq;rw[hj];have w1:qr (((X.length+T1'.length+1:Nat):Int)-1)=((X.length+T1'.length:Nat):Int):=dL atO (by simp only[List.length_concat]at hlT;omega);have gx:gt an (X++(T1'.concat q++(x::(T2++Y)))) ((X.length+T1'.length+1:Nat):Int)=x:=by
   have e:X++(T1'.concat q++(x::(T2++Y)))=(X++T1'++[q])++x::(T2++Y):=atQ
   rw[e];exact xB (by simp;omega)
  have gq:gt an (X++(T1'.concat q++(x::(T2++Y)))) (qr (((X.length+T1'.length+1:Nat):Int)-1))=q:=by rw[w1,eL];exact xB atQ
  have hlen:List.length (X++(T1'.concat q++(x::(T2++Y))))=X.length+T1'.length+2+(T2.length+Y.length):=by simp;omega
  have i1:aw ((X.length+T1'.length+1:Nat):Int) (List.length (X++(T1'.concat q++(x::(T2++Y)))))=true:=aU ⟨atO,by rw[hlen];omega⟩;have i2:aw (qr (((X.length+T1'.length+1:Nat):Int)-1)) (List.length (X++(T1'.concat q++(x::(T2++Y)))))=true:=by rw[w1];exact aU ⟨atO,by rw[hlen];omega⟩
  have ec':lP ((gt an (X++(T1'.concat q++(x::(T2++Y)))) ((X.length+T1'.length+1:Nat):Int)).1,(gt an (X++(T1'.concat q++(x::(T2++Y)))) ((X.length+T1'.length+1:Nat):Int)).2.1,(gt an (X++(T1'.concat q++(x::(T2++Y)))) ((X.length+T1'.length+1:Nat):Int)).2.2.1,
    (gt an (X++(T1'.concat q++(x::(T2++Y)))) (qr (((X.length+T1'.length+1:Nat):Int)-1))).1,(gt an (X++(T1'.concat q++(x::(T2++Y)))) (qr (((X.length+T1'.length+1:Nat):Int)-1))).2.1,(gt an (X++(T1'.concat q++(x::(T2++Y)))) (qr (((X.length+T1'.length+1:Nat):Int)-1))).2.2.1,oG W (X++(T1'.concat q++(x::(T2++Y)))))
    = some (c,oG W (X++(T1'.concat q++(x::(T2++Y))))):=by rw[gx,gq];exact ec
  have hA':A<((X.length+T1'.length+1:Nat):Int):=by rw[hA];omega
  by_cases hk:key x<key q
  .right;refine⟨(A,B,I,((X.length+T1'.length:Nat):Int),X++(T1'++(x::(q::T2++Y))),W),?_,⟨T1',q::T2,rfl,by rw[<-hTT];simp,?_⟩,?_⟩
   .refine aR (aD hA') (aS i1 (aS i2 (aB ec' (aR (show bP true (iL c 0) false=true from aD (hc.2 hk)) ?_))));refine aeP (X:=X++T1') (q:=q) (p:=x) (Y:=T2++Y) (v:=X.length+T1'.length) (u:=X.length+T1'.length+1) eL atQ rfl rfl w1 (fun hset=>?_);refine aS (aD rfl) (aS (aD rfl) ?_);have e:∀(u u':Int) (L L':List bG),u=u'->L=L'->(atY (A,B,I,u,L,W):am zi zh)=atY (A,B,I,u',L',W):=by rintro _ _ _ _ rfl rfl;rfl
    exact e _ _ _ _ w1 (hset.trans atQ)
   .intro y hy;rcases GE.1 hy with rfl|hy
    .exact hk
    .exact h2 y hy
   .show(((X.length+T1'.length:Nat):Int)).toNat<(((X.length+T1'.length+1:Nat):Int)).toNat;omega
  .left;refine⟨(A,B,I,X++((T1'.concat q++x::T2)++Y),W),?_,_,rfl,?_⟩
   .refine aR (aD hA') (aS i1 (aS i2 (aB ec' (ax (show bP true (iL c 0) false=false from aF (fun q=>hk (hc.1 q))) ?_))));have e:∀(L L':List bG),L=L'->(atZ (A,B,I,L,W):am zi zh)=atZ (A,B,I,L',W):=by rintro _ _ rfl;rfl
    exact e _ _ (show X++(T1'.concat q++(x::(T2++Y)))=_ from by simp)
   .refine Q6 (by rw[hTT];exact hT) ?_ h2;intro y hy;have hs:fP key (T1'.concat q):=(Pl.nW.1 (by rw[hTT];exact hT.qz:fP key (T1'.concat q++T2))).1;rw[List.concat_eq_append]at hy hs;obtain⟨_,_,h3⟩:=Pl.nW.1 hs;rcases rc.1 hy with hy|hy
    .have:=h3 y hy q atQ;omega
    .simp at hy;subst hy;omega
theorem YT(C:mX W key V){X S Y L:List bG}(eA:A=(X.length:Int))(eB:B=((X.length+S.length:Nat):Int))(hL:L=X++(S++Y))(hl:L.length<=400000)(hV:∀y∈S,V y) :
  ∃S',abO (A,B,L,W)=some (X++(S'++Y),W)/\dG key S S':=by
 subst eA;subst eB;subst hL;have hlen:X.length+(S.length+Y.length)<=400000:=by simpa only[bU]using hl
 have w0:qr ((X.length:Int)+1)=((X.length+1:Nat):Int):=dL atO atO;cases S with
 |nil=>
  refine⟨[],?_,dG.refl (List.Pairwise.nil)⟩;have e1:E6 ((X.length:Int),((X.length+([]:List bG).length:Nat):Int),qr ((X.length:Int)+1),X++([]++Y),W)=some (X++([]++Y),W):=by
   unfold E6;delta gm u3 bM bX;refine d9 (fun _=>_) 0 rfl (fun i hi=>absurd hi (arL i)) ?_ atU
   try dsimp only
   unfold E8;exact ax (aF (by rw[w0];simp only[IT];omega)) rfl
  exact aB e1 rfl
 |cons s S=>
  have e1:∃o,E6 ((X.length:Int),((X.length+(s::S).length:Nat):Int),qr ((X.length:Int)+1),X++(s::S++Y),W)=some o/\∃S',o=(X++(S'++Y),W)/\dG key (s::S) S':=by
   unfold E6;delta gm u3 bM bX;refine kp (fun d=>∃T0 T R:List bG,d=((X.length:Int),((X.length+(s::S).length:Nat):Int),((X.length+T.length:Nat):Int),X++(T++(R++Y)),W)/\T0++R=s::S/\dG key T0 T)
    (fun o=>∃S',o=(X++(S'++Y),W)/\dG key (s::S) S') (fun d=>(X.length+(s::S).length)-d.2.2.1.toNat) ?_ NN _ ⟨[s],[s],S,by rw[w0];rfl,rfl,dG.refl (by unfold fP;simp)⟩ (cp (by
     have:List.length (s::S)<=400000:=atO
     omega))
   rintro d ⟨T0,T,R,rfl,hTR,hT⟩;have hlT:=hT.len;have hlR:T0.length+R.length=(s::S).length:=by rw[<-hTR,bU]
   try dsimp only
   unfold E8;cases R with
   |nil=>left;refine⟨_,ax (aF (by simp only[IT]at hlR;omega)) rfl,T,rfl,?_⟩;rw[d6]at hTR;rw[<-hTR];exact hT|cons r R=>
    right;simp only[di]at hlR;have hVT:∀y∈T,V y:=fun y hy=>hV y (by rw[<-hTR];simp[hT.mem.1 hy]);obtain⟨o,e4,S',rfl,hS'⟩:=aiN C X T T0 (R++Y) r (X.length:Int) ((X.length+(s::S).length:Nat):Int) ((X.length+T.length:Nat):Int) (X.length+T.length) rfl rfl (by simp only[bU,di]at *;omega) hT hVT (hV r (by rw[<-hTR];simp));have hl':=hS'.len;simp only[bU,di,IT]at hl';refine⟨((X.length:Int),((X.length+(s::S).length:Nat):Int),((X.length+S'.length:Nat):Int),X++(S'++(R++Y)),W),?_,⟨T0++[r],S',R,rfl,by rw[<-hTR];simp,hS'⟩,?_⟩
    .refine aR (aD (by simp only[di]at *;omega)) (aB e4 ?_);have e:∀(u u':Int),u=u'->(atY ((X.length:Int),((X.length+(s::S).length:Nat):Int),u,X++(S'++(R++Y)),W):am E5 E4)=atY ((X.length:Int),((X.length+(s::S).length:Nat):Int),u',X++(S'++(R++Y)),W):=by rintro _ _ rfl;rfl
     exact e _ _ (show qr (((X.length+T.length:Nat):Int)+1)=_ from dL atO (by simp only[bU,di]at *;omega))
    .show(X.length+(s::S).length)-(((X.length+S'.length:Nat):Int)).toNat<(X.length+(s::S).length)-(((X.length+T.length:Nat):Int)).toNat;simp only[di]at *
     omega
  obtain⟨o,e1,S',rfl,hS⟩:=e1;exact⟨S',aB e1 rfl,hS⟩
end
variable{S:List bG}
open Pl (dG fP GR)
abbrev hf(i j:Int):Int:=qr (Int.fdiv (IntKind.wrap .u64 (qr (i+j))) (HPow.hPow (2:Int) (Min.min (Int.toNat (1:Int)) 64)))
variable{j:Nat}
theorem Ha(h:i+j<=1000000):hf (i:Int) (j:Int)=(((i+j) / 2:Nat):Int):=by
 unfold hf;rw[dL (x:=(i:Int)+(j:Int)) (n:=i+j) atO atO];have e1:IntKind.wrap .u64 ((i+j:Nat):Int)=((i+j:Nat):Int):=by unfold IntKind.wrap;simp[IntKind.bits,IntKind.signed];omega
 rw[e1];have e2:(HPow.hPow (2:Int) (Min.min (Int.toNat (1:Int)) 64):Int)=2:=rfl;rw[e2,att _ atS];exact dL atO atO
variable{lo:Nat}{hi:Nat}
theorem Q9{D O:Type}{B:D->Option (D⊕O)}(st:Nat->Nat->D)(fin:Nat->O)(pr:Nat->Prop)(hlh:lo<=hi)(hb:hi<=1000000)
  (hm:∀c d,lo<=c->c<=d->d<hi->pr d->pr c)
  (hs1:∀i j,lo<=i->i<j->j<=hi->pr ((i+j) / 2)->B (st i j)=atY (st ((i+j) / 2+1) j))
  (hs2:∀i j,lo<=i->i<j->j<=hi->¬pr ((i+j) / 2)->B (st i j)=atY (st i ((i+j) / 2)))
  (he:∀i,lo<=i->i<=hi->B (st i i)=atZ (fin i)) :
  ∃s,lo<=s/\s<=hi/\bp B NN (st lo hi)=some (fin s)/\(∀c,lo<=c->c<s->pr c)/\∀c,s<=c->c<hi->¬pr c:=by
 have key:∀k i j,lo<=i->i<=j->j<=hi->j-i=k->(∀c,lo<=c->c<i->pr c)->(∀c,j<=c->c<hi->¬pr c)->∀N,k<N ->
   ∃s,i<=s/\s<=j/\bp B N (st i j)=some (fin s)/\(∀c,lo<=c->c<s->pr c)/\∀c,s<=c->c<hi->¬pr c:=by
  intro k
  induction k using Nat.strongRecOn with
  |_ k ih=>
   intro i j h1 h2 h3 hk ha hb N hN;obtain⟨M,rfl⟩:∃M,N=M+1:=⟨N-1,atO⟩;rcases arm i j with q|q
   .rcases Classical.em (pr ((i+j) / 2))with hp|hp
    .obtain⟨s,g1,g2,g3,g4⟩:=ih (j-((i+j) / 2+1)) atO ((i+j) / 2+1) j atO atO h3 rfl (fun c c1 c2=>hm c ((i+j) / 2) c1 atO atO hp) hb M atO;exact⟨s,atO,g2,by simp only[bp,hs1 i j h1 q h3 hp];exact g3,g4⟩
    .obtain⟨s,g1,g2,g3,g4⟩:=ih ((i+j) / 2-i) atO i ((i+j) / 2) h1 atO atO rfl ha (fun c c1 c2 hc=>hp (hm ((i+j) / 2) c atO c1 c2 hc)) M atO;exact⟨s,g1,atO,by simp only[bp,hs2 i j h1 q h3 hp];exact g3,g4⟩
   .have:i=j:=atO
    subst this;exact⟨i,rt _,rt _,by simp only[bp,he i h1 h3],ha,hb⟩
 exact key (hi-lo) lo hi (rt _) hlh (rt _) rfl (fun c c1 c2=>atO) (fun c c1 c2=>atO) NN atU
abbrev RM:=RL FE
def vY(W:kV)(key:bG->Int)(V:bG->Prop)(F:jq)(k:Nat):Prop:=
 ∀(X P Q Y L:List bG) (A M B:Int),0<P.length->0<Q.length->P.length+Q.length<=k->A=(X.length:Int)->M=((X.length+P.length:Nat):Int)->B=((X.length+P.length+Q.length:Nat):Int)->L=X++(P++(Q++Y))->L.length<=400000 ->
  fP key P->fP key Q->(∀x∈P,V x)->(∀x∈Q,V x)->∃R,F (A,M,B,L,W)=some (X++(R++Y),W)/\dG key (P++Q) R
section
variable{W:kV}{key:bG->Int}{V:bG->Prop}
theorem akS{F1:jq}{k:Nat}(ih:vY W key V F1 k){X P Q Y L:List bG}{b mid e:Int}(em:mid=(X.length:Int))(ee:e=((X.length+P.length:Nat):Int))(eb:b=((X.length+P.length+Q.length:Nat):Int))(hL:L=X++(P++(Q++Y)))(hl:L.length<=400000)
  (hk:P.length+Q.length<=k) (hp:fP key P) (hq:fP key Q) (hP:∀x∈P,V x) (hQ:∀x∈Q,V x):∃R,wO F1 b mid e (L,W)=some (X++(R++Y),W)/\dG key (P++Q) R:=by
 unfold wO;rcases ST P.length with h1|h1
 .have:P=[]:=ww h1;subst this;refine⟨Q,ax atV ?_,dG.refl hq⟩;rw[hL];rfl
 .rcases ST Q.length with h2|h2
  .have:Q=[]:=ww h2;subst this;refine⟨P,aR (aD (by rw[em,ee];omega)) (ax (show bP true (iL e b) false=false from atV) ?_),by rw[d6];exact dG.refl hp⟩;rw[hL];rfl
  .obtain⟨R,e1,e2⟩:=ih X P Q Y L mid e b h1 h2 hk em ee eb hL hl hp hq hP hQ;exact⟨R,aR atW (aR (show bP true (iL e b) false=true from atW) (aB e1 rfl)),e2⟩
theorem akR{F1:jq}{k:Nat}(ih:vY W key V F1 k){X P1 P2 Q1 Q2 Y L:List bG}{a m b mid s e:Int}(ea:a=(X.length:Int))(es:s=((X.length+P1.length:Nat):Int))(emm:m=((X.length+P1.length+P2.length:Nat):Int))(em:mid=((X.length+P1.length+Q1.length:Nat):Int))
  (ee:e=((X.length+P1.length+Q1.length+P2.length:Nat):Int)) (eb:b=((X.length+P1.length+P2.length+Q1.length+Q2.length:Nat):Int)) (hL:L=X++(P1++(P2++(Q1++(Q2++Y))))) (hl:L.length<=400000)
  (hk1:P1.length+Q1.length<=k) (hk2:P2.length+Q2.length<=k) (hp:fP key (P1++P2)) (hq:fP key (Q1++Q2)) (hP:∀x∈P1++P2,V x) (hQ:∀x∈Q1++Q2,V x)
  (h1:∀x∈P1,∀y∈Q2,key x<=key y) (h2:∀x∈P2,∀y∈Q1,key y<key x):∃R,RM F1 a m b mid s e (L,W)=some (X++(R++Y),W)/\dG key ((P1++P2)++(Q1++Q2)) R:=by
 have hlen:X.length+(P1.length+(P2.length+(Q1.length+(Q2.length+Y.length))))<=400000:=by rw[hL]at hl;simpa only[bU]using hl
 obtain⟨p1,p2,_⟩:=Pl.nW.1 hp;obtain⟨q1,q2,_⟩:=Pl.nW.1 hq;have hU:∃R,zT F1 a b mid s e (X++(P1++(Q1++(P2++(Q2++Y)))),W)=some (X++(R++Y),W)/\dG key ((P1++P2)++(Q1++Q2)) R:=by
  have hV:∀R1:List bG,dG key (P1++Q1) R1->∃R,wO F1 b mid e (X++(R1++(P2++(Q2++Y))),W)=some (X++(R++Y),W)/\dG key ((P1++P2)++(Q1++Q2)) R:=by
   intro R1 hR1;have hl1:=hR1.len;simp only[bU]at hl1;obtain⟨R2,e1,e2⟩:=akS ih (X:=X++R1) (P:=P2) (Q:=Q2) (Y:=Y) (L:=X++(R1++(P2++(Q2++Y)))) (b:=b) (mid:=mid) (e:=e) (by rw[em];simp only[bU];omega) (by rw[ee];simp only[bU];omega) (by rw[eb];simp only[bU];omega)
    (by simp only[bB]) (by simp only[bU];omega) hk2 p2 q2 (fun x hx=>hP x (by simp[hx])) (fun x hx=>hQ x (by simp[hx]))
   refine⟨R1++R2,e1.trans (PP (fun l:List bG=>(some (l,W):uD)) ?_),GR hp hq h1 h2 hR1 e2⟩;simp only[bB]
  unfold zT;rcases ST P1.length with g1|g1
  .have:P1=[]:=ww g1;subst this;obtain⟨R,e1,e2⟩:=hV Q1 (dG.refl q1);exact⟨R,ax (aF (by rw[ea,es];simp only[IT];omega)) e1,e2⟩
  .rcases ST Q1.length with g2|g2
   .have:Q1=[]:=ww g2;subst this;obtain⟨R,e1,e2⟩:=hV P1 (by rw[d6];exact dG.refl p1);exact⟨R,aR (aD (by rw[ea,es];omega)) (ax (show bP true (iL s mid) false=false from aF (by rw[es,em];simp only[IT];omega)) e1),e2⟩
   .obtain⟨R1,e0,hR1⟩:=ih X P1 Q1 (P2++(Q2++Y)) (X++(P1++(Q1++(P2++(Q2++Y))))) a s mid g1 g2 hk1 ea es (by rw[em]) rfl (by simp only[bU];omega) p1 q1 (fun x hx=>hP x (by simp[hx])) (fun x hx=>hQ x (by simp[hx]));obtain⟨R,e1,e2⟩:=hV R1 hR1;exact⟨R,aR (aD (by rw[ea,es];omega)) (aR (show bP true (iL s mid) false=true from aD (by rw[es,em];omega)) (aB e0 e1)),e2⟩
 obtain⟨R,e1,e2⟩:=hU;refine⟨R,?_,e2⟩;unfold RM RL;subst hL;rcases ST P2.length with g1|g1
 .have:P2=[]:=ww g1;subst this;exact ax (aF (by rw[es,emm];simp only[IT];omega)) e1
 .rcases ST Q1.length with g2|g2
  .have:Q1=[]:=ww g2;subst this;exact aR (aD (by rw[es,emm];omega)) (ax (show bP true (iL m e) false=false from aF (by rw[ee,emm];simp only[IT];omega)) e1)
  .have er:=alI W (X:=X++P1) (P:=P2) (Q:=Q1) (Y:=Q2++Y) (L:=X++(P1++(P2++(Q1++(Q2++Y))))) (A:=s) (M:=m) (B:=e) g1 g2 (by rw[es];simp only[bU]) (by rw[emm];simp only[bU]) (by rw[ee];simp only[bU];omega) hl (by simp only[bB]);have er':FE (s,m,e,X++(P1++(P2++(Q1++(Q2++Y)))),W)=some (X++(P1++(Q1++(P2++(Q2++Y)))),W):=er.trans (PP (fun l:List bG=>(some (l,W):Option (Out zk))) (by simp only[bB]));exact aR (aD (by rw[es,emm];omega)) (aR (show bP true (iL m e) false=true from aD (by rw[ee,emm];omega)) (aB er' e1))
end
variable{Q1:List bG}{P2:List bG}{P1:List bG}{k:Nat}
theorem sA{key:bG->Int}{L:List bG}(h:fP key L)(hij:i<=j)(hj:j<L.length):key L[i]<=key L[j]:=by
 rcases arm i j with q|q
 .exact(asb.1 h) i j atO hj q
 grind
section
variable{X P Q Y L:List bG}
theorem Hg(hL:L=X++(P++(Q++Y))){t c:Nat}(ht:t<P.length)(hc:c=X.length+t):gt an L (c:Int)=P[t]:=by
 subst hL;subst hc;refine bI ?_
 grind
theorem Hh(hL:L=X++(P++(Q++Y))){t c:Nat}(ht:t<Q.length)(hc:c=X.length+P.length+t):gt an L (c:Int)=Q[t]:=by
 subst hL;subst hc;refine bI ?_
 grind
theorem Ez(hL:L=X++(P++(Q++Y))):L.length=X.length+P.length+Q.length+Y.length:=by grind
variable{W:kV}{key:bG->Int}{V:bG->Prop}
theorem alV(C:mX W key V)(F:jq){x:bG}(hL:L=X++([x]++(Q++Y)))(hl:L.length<=400000)(hq:fP key Q)(hx:V x)(hQ:∀y∈Q,V y) :
  ∃k,k<=Q.length/\acp F ((X.length:Int),((X.length+1:Nat):Int),((X.length+1+Q.length:Nat):Int),L,W)=some ((X.length:Int),((X.length+1+k:Nat):Int),L,W)/\(∀y∈Q.take k,key y<key x)/\∀y∈Q.drop k,key x<=key y:=by
 have hlen:=Ez hL;simp only[di,IT]at hlen;have gQ:∀c,(h0:X.length+1<=c)->(h:c<X.length+1+Q.length)->gt an L (c:Int)=Q[c-X.length-1]' atO:=fun c h1 h2=>Hh hL (t:=c-X.length-1) atO (by simp only[di,IT];omega);have gx:gt an L (X.length:Int)=x:=Hg hL (t:=0) atQ rfl;have step:∀i j:Nat,X.length+1<=i->i<j->j<=X.length+1+Q.length->∃c:Int,(c<0↔key (gt an L (((i+j) / 2:Nat):Int))<key x) /\
   wi lP (X.length:Int) (i:Int) (j:Int) L W.1 W.2.1 W.2.2.1 W.2.2.2.1 W.2.2.2.2.1 W.2.2.2.2.2.1 W.2.2.2.2.2.2.1 W.2.2.2.2.2.2.2.1 W.2.2.2.2.2.2.2.2.1 W.2.2.2.2.2.2.2.2.2.1 W.2.2.2.2.2.2.2.2.2.2.1 =
    br (iL c 0) (atY ((X.length:Int),(((i+j) / 2+1:Nat):Int),(j:Int),L,W)) (atY ((X.length:Int),(i:Int),(((i+j) / 2:Nat):Int),L,W)):=by
  intro i j h1 h2 h3;have hw:hf (i:Int) (j:Int)=(((i+j) / 2:Nat):Int):=Ha atO;have gh:=gQ ((i+j) / 2) atO atO;obtain⟨c,e1,e2⟩:=C.cmp L (gt an L (((i+j) / 2:Nat):Int)) (gt an L (X.length:Int)) (by rw[gh];exact hQ _ (By _)) (by rw[gx];exact hx);refine⟨c,by rw[<-gx];exact e2,?_⟩;have i1:aw (hf (i:Int) (j:Int)) L.length=true:=by rw[hw];exact atT
  have i2:aw (X.length:Int) L.length=true:=atT;have e1':lP ((gt an L (hf (i:Int) (j:Int))).1,(gt an L (hf (i:Int) (j:Int))).2.1,(gt an L (hf (i:Int) (j:Int))).2.2.1,(gt an L (X.length:Int)).1,(gt an L (X.length:Int)).2.1,(gt an L (X.length:Int)).2.2.1,oG W L)=some (c,oG W L):=by rw[hw];exact e1
  unfold wi;refine aR (aD (show(i:Int)<(j:Int) by omega)) (aS i1 (aS i2 (aB e1' ?_)));have e:∀(u v u' v':Int),u=u'->v=v'->(br (iL c 0) (atY ((X.length:Int),u,(j:Int),L,W)) (atY ((X.length:Int),(i:Int),v,L,W)):am Fm Ff)=br (iL c 0) (atY ((X.length:Int),u',(j:Int),L,W)) (atY ((X.length:Int),(i:Int),v',L,W)):=by rintro _ _ _ _ rfl rfl;rfl
  exact e _ _ _ _ (by show qr (hf (i:Int) (j:Int)+1)=_;rw[hw];exact dL atO atO) hw
 obtain⟨s,s1,s2,es,hs1,hs2⟩:=Q9 (B:=fun d=>wi lP d.1 d.2.1 d.2.2.1 d.2.2.2.1 d.2.2.2.2.1 d.2.2.2.2.2.1 d.2.2.2.2.2.2.1 d.2.2.2.2.2.2.2.1 d.2.2.2.2.2.2.2.2.1 d.2.2.2.2.2.2.2.2.2.1 d.2.2.2.2.2.2.2.2.2.2.1 d.2.2.2.2.2.2.2.2.2.2.2.1 d.2.2.2.2.2.2.2.2.2.2.2.2.1 d.2.2.2.2.2.2.2.2.2.2.2.2.2.1 d.2.2.2.2.2.2.2.2.2.2.2.2.2.2.1)
  (fun i j:Nat=>((X.length:Int),(i:Int),(j:Int),L,W)) (fun i:Nat=>((X.length:Int),(i:Int),L,W)) (fun c=>key (gt an L (c:Int))<key x) (lo:=X.length+1) (hi:=X.length+1+Q.length) atO atO
  (fun c d h1 h2 h3 hd=>by rw[gQ d atO h3]at hd;rw[gQ c h1 atO];exact Int.lt_of_le_of_lt (sA hq (i:=c-X.length-1) (j:=d-X.length-1) atO atO) hd)
  (fun i j h1 h2 h3 hp=>by obtain⟨c,hc,e⟩:=step i j h1 h2 h3;exact e.trans (dc (aD (hc.2 hp))))
  (fun i j h1 h2 h3 hp=>by obtain⟨c,hc,e⟩:=step i j h1 h2 h3;exact e.trans (cE (aF (fun q=>hp (hc.1 q)))))
  (fun i h1 h2=>by
   try dsimp only
   unfold wi;exact ax (aF (show ¬(i:Int)<(i:Int) by omega)) rfl)
 refine⟨s-X.length-1,atO,?_,?_,?_⟩
 .have:X.length+1+(s-X.length-1)=s:=atO
  rw[this];exact es
 .intro y hy;obtain⟨i,hi,rfl⟩:=asW.1 hy;have:=hs1 (X.length+1+i) atO atO;rw[gQ _ atO atO]at this;have e:X.length+1+i-X.length-1=i:=atO
  simpa only[e]using this
 .intro y hy;obtain⟨i,hi,rfl⟩:=asX.1 hy;have:=hs2 (X.length+1+(s-X.length-1+i)) atO atO;rw[gQ _ atO atO]at this;have e:X.length+1+(s-X.length-1+i)-X.length-1=s-X.length-1+i:=atO
  simp only[e]at this;omega
end
variable{x:bG}
section
variable{X P Q Y L:List bG}{W:kV}{key:bG->Int}{V:bG->Prop}
theorem alW(F:jq){Z:List bG}(hl:X.length+Q1.length<=400000) :
  Pa F (((X.length+1+Q1.length:Nat):Int),(X.length:Int),X++(x::(Q1++Z)),W)=some (X++(Q1++(x::Z)),W):=by
 unfold Pa;have w0:qr (((X.length+1+Q1.length:Nat):Int)-1)=((X.length+Q1.length:Nat):Int):=dL atO atO;refine d9 (fun t:Nat=>(((X.length+1+Q1.length:Nat):Int),((X.length+t:Nat):Int),X++(Q1.take t++(x::(Q1.drop t++Z))),W)) Q1.length rfl ?_ ?_ atU
 .intro t ht
  try dsimp only
  unfold Fv;refine aR (aD (by rw[w0];omega)) ?_;refine aeO (X:=X++Q1.take t) (p:=x) (M:=[]) (q:=Q1[t]) (Y:=Q1.drop (t+1)++Z) (u:=X.length+t) (v:=X.length+t+1) ?_ ?_ ?_ rfl ?_ (fun hset=>?_)
  .rw[wA ht];grind
  .simp;omega
  .simp;omega
  .exact dL atO atO
  .refine aS (aD rfl) (aS (aD rfl) ?_);have e:∀(u v:Int) (A B:List bG),u=v->A=B->(atY (((X.length+1+Q1.length:Nat):Int),u,A,W):am Fl Fe)=atY (((X.length+1+Q1.length:Nat):Int),v,B,W):=by rintro _ _ _ _ rfl rfl;rfl
   refine e _ _ _ _ (show qr (((X.length+t:Nat):Int)+1)=((X.length+(t+1):Nat):Int)from dL atO atO) (hset.trans ?_);rw[asD ht];simp only[bB,arM,UV]
 .try dsimp only
  unfold Fv;refine ax (aF (by rw[w0];omega)) ?_;have e1:Q1.drop Q1.length=[]:=aso (rt _);have e2:Q1.take Q1.length=Q1:=If (rt _);rw[e1,e2];rfl
theorem akY(C:mX W key V)(F:jq)(hL:L=X++(P++([x]++Y)))(hl:L.length<=400000)(hp:fP key P)(hx:V x)(hP:∀y∈P,V y) :
  ∃k,k<=P.length/\acb F (((X.length+P.length:Nat):Int),(X.length:Int),((X.length+P.length:Nat):Int),L,W)=some (((X.length+P.length:Nat):Int),((X.length+k:Nat):Int),L,W)/\(∀y∈P.take k,key y<=key x)/\∀y∈P.drop k,key x<key y:=by
 have hlen:=Ez hL;simp only[di,IT]at hlen;have gP:∀c,(h0:X.length<=c)->(h:c<X.length+P.length)->gt an L (c:Int)=P[c-X.length]' atO:=fun c h1 h2=>Hg hL (t:=c-X.length) atO atO;have gx:gt an L ((X.length+P.length:Nat):Int)=x:=Hh hL (t:=0) atQ rfl;have step:∀i j:Nat,X.length<=i->i<j->j<=X.length+P.length->∃c:Int,(c<0↔key x<key (gt an L (((i+j) / 2:Nat):Int))) /\
   wh lP ((X.length+P.length:Nat):Int) (i:Int) (j:Int) L W.1 W.2.1 W.2.2.1 W.2.2.2.1 W.2.2.2.2.1 W.2.2.2.2.2.1 W.2.2.2.2.2.2.1 W.2.2.2.2.2.2.2.1 W.2.2.2.2.2.2.2.2.1 W.2.2.2.2.2.2.2.2.2.1 W.2.2.2.2.2.2.2.2.2.2.1 =
    br (Bool.not (iL c 0)) (atY (((X.length+P.length:Nat):Int),(((i+j) / 2+1:Nat):Int),(j:Int),L,W)) (atY (((X.length+P.length:Nat):Int),(i:Int),(((i+j) / 2:Nat):Int),L,W)):=by
  intro i j h1 h2 h3;have hw:hf (i:Int) (j:Int)=(((i+j) / 2:Nat):Int):=Ha atO;have gh:=gP ((i+j) / 2) atO atO;obtain⟨c,e1,e2⟩:=C.cmp L (gt an L ((X.length+P.length:Nat):Int)) (gt an L (((i+j) / 2:Nat):Int)) (by rw[gx];exact hx) (by rw[gh];exact hP _ (By _));refine⟨c,by rw[<-gx];exact e2,?_⟩;have i1:aw (hf (i:Int) (j:Int)) L.length=true:=by rw[hw];exact atT
  have i2:aw ((X.length+P.length:Nat):Int) L.length=true:=atT;have e1':lP ((gt an L ((X.length+P.length:Nat):Int)).1,(gt an L ((X.length+P.length:Nat):Int)).2.1,(gt an L ((X.length+P.length:Nat):Int)).2.2.1,(gt an L (hf (i:Int) (j:Int))).1,(gt an L (hf (i:Int) (j:Int))).2.1,(gt an L (hf (i:Int) (j:Int))).2.2.1,oG W L)=some (c,oG W L):=by rw[hw];exact e1
  unfold wh;refine aR (aD (show(i:Int)<(j:Int) by omega)) (aS i2 (aS i1 (aB e1' ?_)));have e:∀(u v u' v':Int),u=u'->v=v'->(br (Bool.not (iL c 0)) (atY (((X.length+P.length:Nat):Int),u,(j:Int),L,W)) (atY (((X.length+P.length:Nat):Int),(i:Int),v,L,W)):am Fi Fa)=br (Bool.not (iL c 0)) (atY (((X.length+P.length:Nat):Int),u',(j:Int),L,W)) (atY (((X.length+P.length:Nat):Int),(i:Int),v',L,W)):=by rintro _ _ _ _ rfl rfl;rfl
  exact e _ _ _ _ (by show qr (hf (i:Int) (j:Int)+1)=_;rw[hw];exact dL atO atO) hw
 obtain⟨s,s1,s2,es,hs1,hs2⟩:=Q9 (B:=fun d=>wh lP d.1 d.2.1 d.2.2.1 d.2.2.2.1 d.2.2.2.2.1 d.2.2.2.2.2.1 d.2.2.2.2.2.2.1 d.2.2.2.2.2.2.2.1 d.2.2.2.2.2.2.2.2.1 d.2.2.2.2.2.2.2.2.2.1 d.2.2.2.2.2.2.2.2.2.2.1 d.2.2.2.2.2.2.2.2.2.2.2.1 d.2.2.2.2.2.2.2.2.2.2.2.2.1 d.2.2.2.2.2.2.2.2.2.2.2.2.2.1 d.2.2.2.2.2.2.2.2.2.2.2.2.2.2.1)
  (fun i j:Nat=>(((X.length+P.length:Nat):Int),(i:Int),(j:Int),L,W)) (fun i:Nat=>(((X.length+P.length:Nat):Int),(i:Int),L,W)) (fun c=>¬key x<key (gt an L (c:Int))) (lo:=X.length) (hi:=X.length+P.length) atO atO
  (fun c d h1 h2 h3 hd=>by rw[gP d atO h3]at hd;rw[gP c h1 atO];have:=sA hp (i:=c-X.length) (j:=d-X.length) atO atO;omega)
  (fun i j h1 h2 h3 hp=>by obtain⟨c,hc,e⟩:=step i j h1 h2 h3;exact e.trans (dc (qQ (aF (fun q=>hp (hc.1 q))))))
  (fun i j h1 h2 h3 hp=>by obtain⟨c,hc,e⟩:=step i j h1 h2 h3;exact e.trans (cE (ED (aD (hc.2 (Classical.not_not.1 hp))))))
  (fun i h1 h2=>by
   try dsimp only
   unfold wh;exact ax (aF (show ¬(i:Int)<(i:Int) by omega)) rfl)
 refine⟨s-X.length,atO,?_,?_,?_⟩
 .have:X.length+(s-X.length)=s:=atO
  rw[this];exact es
 .intro y hy;obtain⟨i,hi,rfl⟩:=asW.1 hy;have:=hs1 (X.length+i) atO atO;rw[gP _ atO atO]at this;have e:X.length+i-X.length=i:=atO
  simp only[e]at this;omega
 .intro y hy;obtain⟨i,hi,rfl⟩:=asX.1 hy;have:=hs2 (X.length+(s-X.length+i)) atO atO;rw[gP _ atO atO]at this;have e:X.length+(s-X.length+i)-X.length=s-X.length+i:=atO
  simp only[e]at this;omega
theorem akZ(F:jq)(hl:X.length+P1.length+P2.length<=400000) :
  O2 F (((X.length+P1.length:Nat):Int),((X.length+P1.length+P2.length:Nat):Int),X++(P1++(P2++(x::Y))),W)=some (X++(P1++(x::(P2++Y))),W):=by
 unfold O2;refine d9 (fun t:Nat=>(((X.length+P1.length:Nat):Int),((X.length+P1.length+(P2.length-t):Nat):Int),X++(P1++(P2.take (P2.length-t)++(x::(P2.drop (P2.length-t)++Y)))),W)) P2.length ?_ ?_ ?_ atU
 .have e1:P2.drop P2.length=[]:=aso (rt _);have e2:P2.take P2.length=P2:=If (rt _);simp only[Nat.sub_zero,e1,e2];rfl
 .intro t ht
  try dsimp only
  unfold Fp;obtain⟨j,hj⟩:∃j,P2.length-t=j+1:=⟨P2.length-t-1,atO⟩;have hj':P2.length-(t+1)=j:=atO
  have hjl:j<P2.length:=atO
  rw[hj,hj'];have w1:qr (((X.length+P1.length+(j+1):Nat):Int)-1)=((X.length+P1.length+j:Nat):Int):=dL atO atO;refine aR atW ?_;refine aeP (X:=X++(P1++P2.take j)) (q:=P2[j]) (p:=x) (Y:=P2.drop (j+1)++Y) (v:=X.length+P1.length+j) (u:=X.length+P1.length+(j+1)) ?_ ?_ rfl rfl w1 (fun hset=>?_)
  .rw[asD hjl];simp only[bB,arM,UV]
  .simp;omega
  .refine aS (aD rfl) (aS (aD rfl) ?_);have e:∀(u v:Int) (A B:List bG),u=v->A=B->(atY (((X.length+P1.length:Nat):Int),u,A,W):am Fh E9)=atY (((X.length+P1.length:Nat):Int),v,B,W):=by rintro _ _ _ _ rfl rfl;rfl
   refine e _ _ _ _ w1 (hset.trans ?_);rw[wA hjl];simp only[bB,arM,UV]
 .try dsimp only
  unfold Fp;rw[Nat.sub_self];exact ax atV rfl
end
section
variable{X P Q Y L:List bG}{W:kV}{key:bG->Int}{V:bG->Prop}
theorem YN(C:mX W key V)(F:jq)(hL:L=X++(P++(Q++Y)))(hl:L.length<=400000)(hp:fP key P)(hq:fP key Q)(hP:∀y∈P,V y)(hQ:∀y∈Q,V y)(a m b mid n:Int){p:Nat}
  (h1:X.length<=lo) (h2:lo<=hi) (h3:hi<=X.length+P.length) (h4:hi+X.length+P.length<=p+1) (h5:p<X.length+P.length+Q.length+lo) :
  ∃s,lo<=s/\s<=hi/\Fo F (a,m,b,mid,n,(lo:Int),(hi:Int),(p:Int),L,W)=some (a,m,b,mid,n,(s:Int),L,W) /\
   (∀c,lo<=c->c<s->¬key (gt an L ((p-c:Nat):Int))<key (gt an L (c:Int)))/\∀c,s<=c->c<hi->key (gt an L ((p-c:Nat):Int))<key (gt an L (c:Int)):=by
 have hlen:=Ez hL;have gP:∀c,(h0:X.length<=c)->(h:c<X.length+P.length)->gt an L (c:Int)=P[c-X.length]' atO:=fun c h1 h2=>Hg hL (t:=c-X.length) atO atO;have gQ:∀c,(h0:X.length+P.length<=c)->(h:c<X.length+P.length+Q.length)->gt an L (c:Int)=Q[c-X.length-P.length]' atO:=fun c h1 h2=>Hh hL (t:=c-X.length-P.length) atO atO;have step:∀i j:Nat,lo<=i->i<j->j<=hi->∃c:Int,(c<0↔key (gt an L ((p-(i+j) / 2:Nat):Int))<key (gt an L (((i+j) / 2:Nat):Int))) /\
   wg lP a m b mid n (i:Int) (j:Int) (p:Int) L W.1 W.2.1 W.2.2.1 W.2.2.2.1 W.2.2.2.2.1 W.2.2.2.2.2.1 W.2.2.2.2.2.2.1 W.2.2.2.2.2.2.2.1 W.2.2.2.2.2.2.2.2.1 W.2.2.2.2.2.2.2.2.2.1 W.2.2.2.2.2.2.2.2.2.2.1 =
    br (Bool.not (iL c 0)) (atY (a,m,b,mid,n,(((i+j) / 2+1:Nat):Int),(j:Int),(p:Int),L,W)) (atY (a,m,b,mid,n,(i:Int),(((i+j) / 2:Nat):Int),(p:Int),L,W)):=by
  intro i j q1 q2 q3;have hw:hf (i:Int) (j:Int)=(((i+j) / 2:Nat):Int):=Ha atO;have hv:qr ((p:Int)-hf (i:Int) (j:Int))=((p-(i+j) / 2:Nat):Int):=by rw[hw];exact dL atO atO
  have gh:=gP ((i+j) / 2) atO atO;have gv:=gQ (p-(i+j) / 2) atO atO;obtain⟨c,e1,e2⟩:=C.cmp L (gt an L ((p-(i+j) / 2:Nat):Int)) (gt an L (((i+j) / 2:Nat):Int)) (by rw[gv];exact hQ _ (By _)) (by rw[gh];exact hP _ (By _));refine⟨c,e2,?_⟩;have i1:aw (hf (i:Int) (j:Int)) L.length=true:=by rw[hw];exact atT
  have i2:aw (qr ((p:Int)-hf (i:Int) (j:Int))) L.length=true:=by rw[hv];exact atT
  have e1':lP ((gt an L (qr ((p:Int)-hf (i:Int) (j:Int)))).1,(gt an L (qr ((p:Int)-hf (i:Int) (j:Int)))).2.1,(gt an L (qr ((p:Int)-hf (i:Int) (j:Int)))).2.2.1,(gt an L (hf (i:Int) (j:Int))).1,(gt an L (hf (i:Int) (j:Int))).2.1,(gt an L (hf (i:Int) (j:Int))).2.2.1,oG W L)=some (c,oG W L):=by rw[hv,hw];exact e1
  unfold wg;refine aR (aD (show(i:Int)<(j:Int) by omega)) (aS i2 (aS i1 (aB e1' ?_)));have e:∀(u v u' v':Int),u=u'->v=v'->(br (Bool.not (iL c 0)) (atY (a,m,b,mid,n,u,(j:Int),(p:Int),L,W))  (atY (a,m,b,mid,n,(i:Int),v,(p:Int),L,W)):am Fg zn)=br (Bool.not (iL c 0)) (atY (a,m,b,mid,n,u',(j:Int),(p:Int),L,W))  (atY (a,m,b,mid,n,(i:Int),v',(p:Int),L,W)):=by rintro _ _ _ _ rfl rfl;rfl
  exact e _ _ _ _ (by show qr (hf (i:Int) (j:Int)+1)=_;rw[hw];exact dL atO atO) hw
 obtain⟨s,s1,s2,es,hs1,hs2⟩:=Q9 (B:=fun d=>wg lP d.1 d.2.1 d.2.2.1 d.2.2.2.1 d.2.2.2.2.1 d.2.2.2.2.2.1 d.2.2.2.2.2.2.1 d.2.2.2.2.2.2.2.1 d.2.2.2.2.2.2.2.2.1 d.2.2.2.2.2.2.2.2.2.1 d.2.2.2.2.2.2.2.2.2.2.1 d.2.2.2.2.2.2.2.2.2.2.2.1 d.2.2.2.2.2.2.2.2.2.2.2.2.1 d.2.2.2.2.2.2.2.2.2.2.2.2.2.1 d.2.2.2.2.2.2.2.2.2.2.2.2.2.2.1 d.2.2.2.2.2.2.2.2.2.2.2.2.2.2.2.1 d.2.2.2.2.2.2.2.2.2.2.2.2.2.2.2.2.1 d.2.2.2.2.2.2.2.2.2.2.2.2.2.2.2.2.2.1 d.2.2.2.2.2.2.2.2.2.2.2.2.2.2.2.2.2.2.1 d.2.2.2.2.2.2.2.2.2.2.2.2.2.2.2.2.2.2.2.1)
  (fun i j:Nat=>(a,m,b,mid,n,(i:Int),(j:Int),(p:Int),L,W)) (fun i:Nat=>(a,m,b,mid,n,(i:Int),L,W)) (fun c=>¬key (gt an L ((p-c:Nat):Int))<key (gt an L (c:Int))) (lo:=lo) (hi:=hi) h2 atO
  (fun c d q1 q2 q3 hd=>by rw[gP d atO atO,gQ (p-d) atO atO]at hd;rw[gP c atO atO,gQ (p-c) atO atO];have g1:=sA hp (i:=c-X.length) (j:=d-X.length) atO atO;have g2:=sA hq (i:=p-d-X.length-P.length) (j:=p-c-X.length-P.length) atO atO;omega)
  (fun i j q1 q2 q3 hp=>by obtain⟨c,hc,e⟩:=step i j q1 q2 q3;exact e.trans (dc (qQ (aF (fun q=>hp (hc.1 q))))))
  (fun i j q1 q2 q3 hp=>by obtain⟨c,hc,e⟩:=step i j q1 q2 q3;exact e.trans (cE (ED (aD (hc.2 (Classical.not_not.1 hp))))))
  (fun i q1 q2=>by
   try dsimp only
   unfold wg;exact ax (aF (show ¬(i:Int)<(i:Int) by omega)) rfl)
 exact⟨s,s1,s2,es,hs1,fun c q1 q2=>Classical.not_not.1 (hs2 c q1 q2)⟩
theorem ak7(hL:L=X++(P++(Q++Y)))(hp:fP key P)(hq:fP key Q){mid s:Nat}(hmid:mid=(X.length+X.length+P.length+Q.length) / 2)(hP2:2<=P.length)(hQ2:2<=Q.length)
  (hlo:(mid<X.length+P.length/\lo=mid+(X.length+P.length)-(X.length+P.length+Q.length)/\hi=mid)\/(X.length+P.length<=mid/\lo=X.length/\hi=X.length+P.length)) (h1:lo<=s) (h2:s<=hi)
  (g1:∀c,lo<=c->c<s->¬key (gt an L ((mid+(X.length+P.length)-1-c:Nat):Int))<key (gt an L (c:Int))) (g2:∀c,s<=c->c<hi->key (gt an L ((mid+(X.length+P.length)-1-c:Nat):Int))<key (gt an L (c:Int))) :
  (∀x∈P.take (s-X.length),∀y∈Q.drop (mid-s),key x<=key y)/\∀x∈P.drop (s-X.length),∀y∈Q.take (mid-s),key y<key x:=by
 have gP:∀c,(h0:X.length<=c)->(h:c<X.length+P.length)->gt an L (c:Int)=P[c-X.length]' atO:=fun c h1 h2=>Hg hL (t:=c-X.length) atO atO;have gQ:∀c,(h0:X.length+P.length<=c)->(h:c<X.length+P.length+Q.length)->gt an L (c:Int)=Q[c-X.length-P.length]' atO:=fun c h1 h2=>Hh hL (t:=c-X.length-P.length) atO atO;constructor
 .intro x hx y hy;obtain⟨i,hi',rfl⟩:=asW.1 hx;obtain⟨j,hj,rfl⟩:=asX.1 hy;have hs:lo<s:=atO
  have q:=g1 (s-1) atO atO;rw[gP (s-1) atO atO,gQ (mid+(X.length+P.length)-1-(s-1)) atO atO]at q;have r1:=sA hp (i:=i) (j:=s-1-X.length) atO atO;have r2:=sA hq (i:=mid+(X.length+P.length)-1-(s-1)-X.length-P.length) (j:=mid-s+j) atO atO;omega
 .intro x hx y hy;obtain⟨i,hi',rfl⟩:=asX.1 hx;obtain⟨j,hj,rfl⟩:=asW.1 hy;have hs:s<hi:=atO
  have q:=g2 s atO atO;rw[gP s atO atO,gQ (mid+(X.length+P.length)-1-s) atO atO]at q;have r1:=sA hp (i:=s-X.length) (j:=s-X.length+i) atO atO;have r2:=sA hq (i:=j) (j:=mid+(X.length+P.length)-1-s-X.length-P.length) atO atO;omega
set_option maxHeartbeats 4000000
theorem ajA(C:mX W key V)(ih:vY W key V (kN k) k):vY W key V (kN (k+1)) (k+1):=by
 intro X P Q Y L A M B hp0 hq0 hk eA eM eB hL hl hp hq hP hQ;subst eA;subst eM;subst eB;have hlen:=Ez hL;show ∃R,zm lP (kN k) FE (acp (kN k)) (Pa (kN k)) (acb (kN k)) (O2 (kN k)) (Fo (kN k))
  (X.length:Int) ((X.length+P.length:Nat):Int) ((X.length+P.length+Q.length:Nat):Int) L W.1 W.2.1 W.2.2.1 W.2.2.2.1 W.2.2.2.2.1 W.2.2.2.2.2.1 W.2.2.2.2.2.2.1 W.2.2.2.2.2.2.2.1 W.2.2.2.2.2.2.2.2.1 W.2.2.2.2.2.2.2.2.2.1 W.2.2.2.2.2.2.2.2.2.2.1=some (X++(R++Y),W)/\_
 have wP:qr (((X.length+P.length:Nat):Int)-(X.length:Int))=(P.length:Int):=dL atO atO;have wQ:qr (((X.length+P.length+Q.length:Nat):Int)-((X.length+P.length:Nat):Int))=(Q.length:Int):=dL atO atO;rcases arm 1 P.length with a1|a1
 .rcases arm 1 Q.length with a2|a2
  .-- two stretches of two at least
   obtain⟨mid,hmid⟩:∃mid,mid=(X.length+X.length+P.length+Q.length) / 2:=⟨_,rfl⟩;have hw:hf (X.length:Int) ((X.length+P.length+Q.length:Nat):Int)=(mid:Int):=by rw[Ha atO,hmid];congr 2;omega
   have w1:qr (hf (X.length:Int) ((X.length+P.length+Q.length:Nat):Int)+((X.length+P.length:Nat):Int))=((mid+(X.length+P.length):Nat):Int):=by rw[hw];exact dL atO atO
   have w2:qr (qr (hf (X.length:Int) ((X.length+P.length+Q.length:Nat):Int)+((X.length+P.length:Nat):Int))-1)=((mid+(X.length+P.length)-1:Nat):Int):=by rw[w1];exact dL atO atO
   have tail:∀lo hi s:Nat,((mid<X.length+P.length/\lo=mid+(X.length+P.length)-(X.length+P.length+Q.length)/\hi=mid)\/(X.length+P.length<=mid/\lo=X.length/\hi=X.length+P.length))->lo<=s->s<=hi ->
     (∀c,lo<=c->c<s->¬key (gt an L ((mid+(X.length+P.length)-1-c:Nat):Int))<key (gt an L (c:Int)))->(∀c,s<=c->c<hi->key (gt an L ((mid+(X.length+P.length)-1-c:Nat):Int))<key (gt an L (c:Int))) ->
     ∃R,RM (kN k) (X.length:Int) ((X.length+P.length:Nat):Int) ((X.length+P.length+Q.length:Nat):Int) (mid:Int) (s:Int) (qr (((mid+(X.length+P.length):Nat):Int)-(s:Int))) (L,W)=some (X++(R++Y),W)/\dG key (P++Q) R:=by
    intro lo hi s hlh s1 s2 g1 g2;obtain⟨c1,c2⟩:=ak7 hL hp hq hmid a1 a2 hlh s1 s2 g1 g2;have tP:(P.take (s-X.length)).length=s-X.length:=by rw[fx];omega
    have dP:(P.drop (s-X.length)).length=P.length-(s-X.length):=by rw[asl]
    have tQ:(Q.take (mid-s)).length=mid-s:=by rw[fx];omega
    have dQ:(Q.drop (mid-s)).length=Q.length-(mid-s):=by rw[asl]
    have eP:P.take (s-X.length)++P.drop (s-X.length)=P:=LT _ _;have eQ:Q.take (mid-s)++Q.drop (mid-s)=Q:=LT _ _;obtain⟨R,r1,r2⟩:=akR (W:=W) (V:=V) ih (X:=X) (P1:=P.take (s-X.length)) (P2:=P.drop (s-X.length)) (Q1:=Q.take (mid-s)) (Q2:=Q.drop (mid-s)) (Y:=Y) (L:=L) (a:=(X.length:Int)) (m:=((X.length+P.length:Nat):Int)) (b:=((X.length+P.length+Q.length:Nat):Int)) (mid:=(mid:Int)) (s:=(s:Int)) (e:=qr (((mid+(X.length+P.length):Nat):Int)-(s:Int)))
     rfl (by rw[tP];omega) (by rw[tP,dP];omega) (by rw[tP,tQ];omega) (by rw[tP,tQ,dP];exact dL atO atO) (by rw[tP,tQ,dP,dQ];omega) (by
      rw[hL]
      conv=>lhs;rw[<-eP,<-eQ]
      simp only[bB]) hl (by rw[tP,tQ];omega) (by rw[dP,dQ];omega) (by rw[eP];exact hp) (by rw[eQ];exact hq) (by rw[eP];exact hP) (by rw[eQ];exact hQ) c1 c2
    rw[eP,eQ]at r2;exact⟨R,r1,r2⟩
   unfold zm;rcases arm mid (X.length+P.length)with b1|b1
   .have w3:qr (qr (hf (X.length:Int) ((X.length+P.length+Q.length:Nat):Int)+((X.length+P.length:Nat):Int))-((X.length+P.length+Q.length:Nat):Int))=((mid+(X.length+P.length)-(X.length+P.length+Q.length):Nat):Int):=by rw[w1];exact dL atO atO
    obtain⟨s,s1,s2,es,g1,g2⟩:=YN C (kN k) hL hl hp hq hP hQ (X.length:Int) ((X.length+P.length:Nat):Int) ((X.length+P.length+Q.length:Nat):Int) (mid:Int) ((mid+(X.length+P.length):Nat):Int) (lo:=mid+(X.length+P.length)-(X.length+P.length+Q.length)) (hi:=mid) (p:=mid+(X.length+P.length)-1) atO atO atO atO atO;obtain⟨R,r1,r2⟩:=tail _ _ s (.inl ⟨b1,rfl,rfl⟩) s1 s2 g1 g2;have es':Fo (kN k) ((X.length:Int),((X.length+P.length:Nat):Int),((X.length+P.length+Q.length:Nat):Int),hf (X.length:Int) ((X.length+P.length+Q.length:Nat):Int),qr (hf (X.length:Int) ((X.length+P.length+Q.length:Nat):Int)+((X.length+P.length:Nat):Int)),qr (qr (hf (X.length:Int) ((X.length+P.length+Q.length:Nat):Int)+((X.length+P.length:Nat):Int))-((X.length+P.length+Q.length:Nat):Int)),
     hf (X.length:Int) ((X.length+P.length+Q.length:Nat):Int),qr (qr (hf (X.length:Int) ((X.length+P.length+Q.length:Nat):Int)+((X.length+P.length:Nat):Int))-1),L,W)=some ((X.length:Int),((X.length+P.length:Nat):Int),((X.length+P.length+Q.length:Nat):Int),(mid:Int),((mid+(X.length+P.length):Nat):Int),(s:Int),L,W):=by rw[w2,w3,w1,hw];exact es
    refine⟨R,ax (aF (by rw[wP];omega)) (ax (aF (by rw[wQ];omega)) (aR (aD (show hf (X.length:Int) ((X.length+P.length+Q.length:Nat):Int)<((X.length+P.length:Nat):Int) by rw[hw];omega)) (aB es' ?_))),r2⟩;exact r1
   .obtain⟨s,s1,s2,es,g1,g2⟩:=YN C (kN k) hL hl hp hq hP hQ (X.length:Int) ((X.length+P.length:Nat):Int) ((X.length+P.length+Q.length:Nat):Int) (mid:Int) ((mid+(X.length+P.length):Nat):Int) (lo:=X.length) (hi:=X.length+P.length) (p:=mid+(X.length+P.length)-1) atO atO atO atO atO;obtain⟨R,r1,r2⟩:=tail _ _ s (.inr ⟨b1,rfl,rfl⟩) s1 s2 g1 g2;have es':Fo (kN k) ((X.length:Int),((X.length+P.length:Nat):Int),((X.length+P.length+Q.length:Nat):Int),hf (X.length:Int) ((X.length+P.length+Q.length:Nat):Int),qr (hf (X.length:Int) ((X.length+P.length+Q.length:Nat):Int)+((X.length+P.length:Nat):Int)),(X.length:Int),
     ((X.length+P.length:Nat):Int),qr (qr (hf (X.length:Int) ((X.length+P.length+Q.length:Nat):Int)+((X.length+P.length:Nat):Int))-1),L,W)=some ((X.length:Int),((X.length+P.length:Nat):Int),((X.length+P.length+Q.length:Nat):Int),(mid:Int),((mid+(X.length+P.length):Nat):Int),(s:Int),L,W):=by rw[w2,w1,hw];exact es
    refine⟨R,ax (aF (by rw[wP];omega)) (ax (aF (by rw[wQ];omega)) (ax (aF (show ¬hf (X.length:Int) ((X.length+P.length+Q.length:Nat):Int)<((X.length+P.length:Nat):Int) by rw[hw];omega)) (aB es' ?_))),r2⟩;exact r1
  .-- one behind
   obtain⟨x,rfl⟩:∃x,Q=[x]:=List.length_eq_one_iff.1 atO;have hx:=hQ x atQ;obtain⟨j,j1,e15,g1,g2⟩:=akY C (kN k) hL hl hp hx hP;have tP:(P.take j).length=j:=by rw[fx];omega
   have dP:(P.drop j).length=P.length-j:=by rw[asl]
   have eP:P.take j++P.drop j=P:=LT _ _;have e21:=akZ (W:=W) (Y:=Y) (kN k) (X:=X) (x:=x) (P1:=P.take j) (P2:=P.drop j) atO;have eL:X++(P.take j++(P.drop j++(x::Y)))=L:=by rw[hL,<-bB (P.take j),eP];rfl
   rw[eL,tP,dP]at e21;have em:X.length+j+(P.length-j)=X.length+P.length:=atO
   rw[em]at e21;unfold zm;refine⟨(P.take j++[x])++P.drop j,ax (aF (by rw[wP];omega)) (aR (aD (by rw[wQ];rfl)) (aB e15 (aB e21 ?_))),?_⟩
   .refine(PP (fun l:List bG=>(some (l,W):uD)) ?_);simp only[bB,arM,UV]
   .have sp:=Pl.nW.1 (by rw[eP];exact hp:fP key (P.take j++P.drop j));have:=GR (key:=key) (P1:=P.take j) (P2:=P.drop j) (Q1:=[x]) (Q2:=[]) (R1:=P.take j++[x]) (R2:=P.drop j) (by rw[eP];exact hp) (by rw[d6];exact hq) (fun _ _ y hy=>by cases hy) (fun y hy z hz=>by simp at hz;subst hz;exact g2 y hy)
     (dG.refl (Pl.nW.2 ⟨sp.1,hq,fun y hy z hz=>by simp at hz;subst hz;exact g1 y hy⟩)) (by rw[d6];exact dG.refl sp.2.1)
    rw[eP,d6]at this;exact this
 .-- one ahead
  obtain⟨x,rfl⟩:∃x,P=[x]:=List.length_eq_one_iff.1 atO;have hx:=hP x atQ;obtain⟨j,j1,e3,g1,g2⟩:=alV C (kN k) hL hl hq hx hQ;have tQ:(Q.take j).length=j:=by rw[fx];omega
  have eQ:Q.take j++Q.drop j=Q:=LT _ _;have e9:=alW (W:=W) (kN k) (X:=X) (x:=x) (Q1:=Q.take j) (Z:=Q.drop j++Y) atO;have eL:X++(x::(Q.take j++(Q.drop j++Y)))=L:=by rw[hL,<-bB (Q.take j),eQ];rfl
  rw[eL,tQ]at e9;unfold zm;refine⟨Q.take j++(x::Q.drop j),aR (aD (by rw[wP];rfl)) (aB e3 (aB e9 ?_)),?_⟩
  .refine(PP (fun l:List bG=>(some (l,W):uD)) ?_);simp only[bB,arM]
  .have sq:=Pl.nW.1 (by rw[eQ];exact hq:fP key (Q.take j++Q.drop j));have:=GR (key:=key) (P1:=[]) (P2:=[x]) (Q1:=Q.take j) (Q2:=Q.drop j) (R1:=Q.take j) (R2:=x::Q.drop j) hp (by rw[eQ];exact hq) (fun y hy=>by cases hy) (fun y hy z hz=>by simp at hy;subst hy;exact g1 z hz)
    (dG.refl sq.1) (dG.refl (Pl.Re.2 ⟨g2,sq.2.1⟩))
   rw[eQ]at this;exact this
theorem Zc(C:mX W key V):∀k,vY W key V (kN k) k
 |0=>by intro X P Q Y L A M B h1 h2 h3;omega|k+1=>ajA C (Zc C k)
theorem aeN(C:mX W key V):vY W key V Pb 1000000:=by intro X P Q Y L A M B h1 h2 h3;exact Zc C NN X P Q Y L A M B h1 h2 (IS h3 (asS atU))
end
open Pl (dG fP)
abbrev km:=List (List bG×List bG)
def f0(bl:km):List bG:=bl.flatMap (·.1)
def f1(bl:km):List bG:=bl.flatMap (·.2)
def iq(key:bG->Int)(bs:Nat)(bl:km):Prop:=∀p∈bl,p.1.length=bs/\dG key p.1 p.2
theorem YQ(a b:km):f0 (a++b)=f0 a++f0 b:=by unfold f0;simp
theorem YR(a b:km):f1 (a++b)=f1 a++f1 b:=by unfold f1;simp
theorem wC(p:List bG×List bG)(b:km):f0 (p::b)=p.1++f0 b:=rfl
theorem Rh(p:List bG×List bG)(b:km):f1 (p::b)=p.2++f1 b:=rfl
theorem zA(p:List bG×List bG):f1 [p]=p.2:=by simp[f1]
theorem zB(p:List bG×List bG):f0 [p]=p.1:=by simp[f0]
section
variable{W:kV}{key:bG->Int}{V:bG->Prop}
theorem iq.rh{bs:Nat}:∀{bl:km},iq key bs bl->(f0 bl).length=bl.length*bs
 |[],_=>by simp[f0]|p::bl,h=>by rw[wC,bU,(h p atQ).1,iq.rh (fun q hq=>h q (by simp[hq])),di,asc];omega
theorem iq.ri{bs:Nat}:∀{bl:km},iq key bs bl->(f1 bl).length=bl.length*bs
 |[],_=>by simp[f1]|p::bl,h=>by rw[Rh,bU,(h p atQ).2.len,(h p atQ).1,iq.ri (fun q hq=>h q (by simp[hq])),di,asc];omega
theorem iq.app{bs:Nat}{a b:km}(h:iq key bs a)(g:iq key bs b):iq key bs (a++b):=by
 intro p hp;rcases rc.1 hp with q|q
 .exact h p q
 .exact g p q
theorem iq.one{bs:Nat}{A A':List bG}(h:A.length=bs)(g:dG key A A'):iq key bs [(A,A')]:=by
 intro p hp
 grind
theorem aeQ{A A' B B' R:List bG}(ha:dG key A A')(hb:dG key B B')(h:dG key (A'++B') R):dG key (A++B) R:=dG.ZB (by simp only[bU,ha.len,hb.len]) (fun k=>by rw[Pl.ns,Pl.ns,ha.rJ,hb.rJ]) h
theorem akH(C:mX W key V)(hl:S.length<=400000)(hV:∀x∈S,V x) :
  ∃o,acD ((S.length:Int),(20:Int),(0:Int),(20:Int),S,W)=some o/\∃(bl:km) (R:List bG),o=((S.length:Int),(20:Int),((f1 bl).length:Int),f1 bl++R,W)/\iq key 20 bl/\S=f0 bl++R/\R.length<20:=by
 unfold acD;delta u16 u4 bM bX;refine kp (fun d=>∃(bl:km) (R:List bG),d=((S.length:Int),(20:Int),((f1 bl).length:Int),(((f1 bl).length+20:Nat):Int),f1 bl++R,W)/\iq key 20 bl/\S=f0 bl++R)
  (fun o=>∃(bl:km) (R:List bG),o=((S.length:Int),(20:Int),((f1 bl).length:Int),f1 bl++R,W)/\iq key 20 bl/\S=f0 bl++R/\R.length<20) (fun d=>S.length-d.2.2.1.toNat) ?_ NN _ ⟨[],S,rfl,(fun p hp=>by cases hp),rfl⟩ atU
 rintro d ⟨bl,R,rfl,hF,hS⟩;have l0:=hF.rh;have l1:=hF.ri;have hn:S.length=(f0 bl).length+R.length:=by rw[hS,bU]
 try dsimp only
 unfold Pv;rcases arm R.length 20 with q|q
 .left;exact⟨_,ax atV rfl,bl,R,rfl,hF,hS,q⟩
 .right;have eR:R.take 20++R.drop 20=R:=LT _ _;have tR:(R.take 20).length=20:=by rw[fx];omega
  obtain⟨A',e1,hA⟩:=YT C (X:=f1 bl) (S:=R.take 20) (Y:=R.drop 20) (L:=f1 bl++R) (A:=((f1 bl).length:Int)) (B:=(((f1 bl).length+20:Nat):Int)) rfl (by rw[tR]) (by rw[eR]) (by rw[bU];omega) (fun y hy=>hV y (by rw[hS];simp[ash hy]));have lA:A'.length=20:=hA.len.trans tR;have ef1:f1 (bl++[(R.take 20,A')])=f1 bl++A':=by rw[YR,zA]
  refine⟨((S.length:Int),(20:Int),((f1 (bl++[(R.take 20,A')])).length:Int),(((f1 (bl++[(R.take 20,A')])).length+20:Nat):Int),f1 (bl++[(R.take 20,A')])++R.drop 20,W),?_,⟨_,R.drop 20,rfl,hF.app (iq.one tR hA),?_⟩,?_⟩
  .refine aR atW (aB e1 ?_);have e:∀(u v u' v':Int) (A B:List bG),u=u'->v=v'->A=B->(atY ((S.length:Int),(20:Int),u,v,A,W):am FA Fu)=atY ((S.length:Int),(20:Int),u',v',B,W):=by rintro _ _ _ _ _ _ rfl rfl rfl;rfl
   refine e _ _ _ _ _ _ ?_ ?_ ?_
   .rw[ef1,bU,lA]
   .rw[ef1,bU,lA];exact dL atO atO
   .rw[ef1,bB]
  .rw[YQ,zB,bB,eR];exact hS
  grind
theorem akJ(C:mX W key V)(hl:S.length<=400000)(hV:∀x∈S,V x){bs:Nat}(hbs:20<=bs)(hb2:bs<=400000){bl:km}{R0 R:List bG}(hF:iq key bs bl)(hR:dG key R0 R)(hRl:R0.length<bs)(hS:S=f0 bl++R0) :
  ∃o,FC ((S.length:Int),(bs:Int),(0:Int),((2*bs:Nat):Int),f1 bl++R,W)=some o/\∃(ul bl:km),o=((S.length:Int),(bs:Int),((f1 ul).length:Int),f1 ul++(f1 bl++R),W)/\iq key (2*bs) ul/\iq key bs bl/\S=f0 ul++(f0 bl++R0)/\(f1 bl).length+R.length<2*bs:=by
 unfold FC;delta u16 u4 bM bX;refine kp (fun d=>∃(ul bl:km),d=((S.length:Int),(bs:Int),((f1 ul).length:Int),(((f1 ul).length+2*bs:Nat):Int),f1 ul++(f1 bl++R),W)/\iq key (2*bs) ul/\iq key bs bl/\S=f0 ul++(f0 bl++R0))
  (fun o=>∃(ul bl:km),o=((S.length:Int),(bs:Int),((f1 ul).length:Int),f1 ul++(f1 bl++R),W)/\iq key (2*bs) ul/\iq key bs bl/\S=f0 ul++(f0 bl++R0)/\(f1 bl).length+R.length<2*bs)
  (fun d=>S.length-d.2.2.1.toNat) ?_ NN _ ⟨[],bl,by show _=((S.length:Int),(bs:Int),((0:Nat):Int),((0+2*bs:Nat):Int),[]++(f1 bl++R),W);rw[ase];rfl,(fun p hp=>by cases hp),hF,hS⟩ atU
 rintro d ⟨ul,bl,rfl,hU,hF,hS⟩;have u0:=hU.rh;have u1:=hU.ri;have l0:=hF.rh;have l1:=hF.ri;have lR:=hR.len;have hn:S.length=(f0 ul).length+((f0 bl).length+R0.length):=by rw[hS,bU,bU]
 try dsimp only
 unfold Pt;rcases arm ((f1 bl).length+R.length) (2*bs)with q|q
 .left;exact⟨_,ax atV rfl,ul,bl,rfl,hU,hF,hS,q⟩
 .right
  match bl,hF,hS,l0,l1,hn,q with
  |[],hF,hS,l0,l1,hn,q=>simp[f1]at q;omega|[p],hF,hS,l0,l1,hn,q=>simp only[di,IT]at l1;omega|p::p2::bl,hF,hS,l0,l1,hn,q=>
   obtain⟨hp1,hp2⟩:=hF p atQ;obtain⟨hq1,hq2⟩:=hF p2 atQ;have lp:=hp2.len;have lq:=hq2.len;have hF':iq key bs bl:=fun x hx=>hF x (by simp[hx]);have l0':=hF'.rh;have l1':=hF'.ri;have eL:f1 ul++(f1 (p::p2::bl)++R)=f1 ul++(p.2++(p2.2++(f1 bl++R))):=by rw[Rh,Rh];simp only[bB]
   have lL:(f1 ul++(f1 (p::p2::bl)++R)).length<=400000:=by simp only[bU];omega
   obtain⟨R1,e1,hR1⟩:=aeN C (f1 ul) p.2 p2.2 (f1 bl++R) (f1 ul++(f1 (p::p2::bl)++R)) ((f1 ul).length:Int) (qr (((f1 ul).length:Int)+(bs:Int))) (((f1 ul).length+2*bs:Nat):Int) atO atO atO rfl (dL atO atO) atO eL lL hp2.qz hq2.qz
    (fun x hx=>hV x (by rw[hS,wC];simp[hp2.mem.1 hx])) (fun x hx=>hV x (by rw[hS,wC,wC];simp[hq2.mem.1 hx]))
   have lR1:R1.length=2*bs:=by rw[hR1.len,bU];omega
   have hSS:dG key (p.1++p2.1) R1:=aeQ hp2 hq2 hR1;have ef1:f1 (ul++[(p.1++p2.1,R1)])=f1 ul++R1:=by rw[YR,zA]
   refine⟨((S.length:Int),(bs:Int),((f1 (ul++[(p.1++p2.1,R1)])).length:Int),(((f1 (ul++[(p.1++p2.1,R1)])).length+2*bs:Nat):Int),f1 (ul++[(p.1++p2.1,R1)])++(f1 bl++R),W),?_,⟨_,bl,rfl,hU.app (iq.one (by rw[bU];omega) hSS),hF',?_⟩,?_⟩
   .refine aR (aD (by simp only[di]at *;omega)) (aB e1 ?_);have e:∀(u v u' v':Int) (A B:List bG),u=u'->v=v'->A=B->(atY ((S.length:Int),(bs:Int),u,v,A,W):am Fx Fs)=atY ((S.length:Int),(bs:Int),u',v',B,W):=by rintro _ _ _ _ _ _ rfl rfl rfl;rfl
    refine e _ _ _ _ _ _ ?_ ?_ ?_
    .rw[ef1,bU,lR1]
    .rw[ef1,bU,lR1];have w2:qr ((2:Int)*(bs:Int))=((2*bs:Nat):Int):=dL atO atO;have:qr ((((f1 ul).length+2*bs:Nat):Int)+qr ((2:Int)*(bs:Int)))=(((f1 ul).length+2*bs+2*bs:Nat):Int):=by rw[w2];exact dL atO atO
     exact this
    .rw[ef1,bB]
   .rw[YQ,zB,hS,wC,wC];simp only[bB]
   .show S.length-(((f1 (ul++[(p.1++p2.1,R1)])).length:Int)).toNat<S.length-(((f1 ul).length:Int)).toNat;rw[ef1,bU,lR1];simp only[di]at *
    omega
end
variable{R0:List bG}{bl:km}
section
variable{W:kV}{key:bG->Int}{V:bG->Prop}
theorem akI(C:mX W key V)(hl:S.length<=100000)(hV:∀x∈S,V x){R:List bG}(hF:iq key 20 bl)(hR:dG key R0 R)(hRl:R0.length<20)(hS:S=f0 bl++R0) :
  ∃o,acC ((S.length:Int),(20:Int),f1 bl++R,W)=some o/\∃S',o=(S',W)/\dG key S S':=by
 unfold acC;delta iC u2 bM bX;refine kp (fun d=>∃(bs:Nat) (bl:km) (R0 R:List bG),d=((S.length:Int),(bs:Int),f1 bl++R,W)/\20<=bs/\bs<=400000/\iq key bs bl/\dG key R0 R/\R0.length<bs/\S=f0 bl++R0)
  (fun o=>∃S',o=(S',W)/\dG key S S') (fun d=>S.length-d.2.1.toNat) ?_ NN _ ⟨20,bl,R0,R,rfl,rt _,atS,hF,hR,hRl,hS⟩ atU
 rintro d ⟨bs,bl,R0,R,rfl,hbs,hb2,hF,hR,hRl,hS⟩;have l0:=hF.rh;have l1:=hF.ri;have lR:=hR.len;have hn:S.length=(f0 bl).length+R0.length:=by rw[hS,bU]
 try dsimp only
 unfold Pu;rcases arm bs S.length with q|q
 .right;obtain⟨o,e9,ul,bl',rfl,hU,hF',hS',hlt⟩:=akJ C atO hV hbs hb2 hF hR hRl hS;have u0:=hU.rh;have u1:=hU.ri;have l0':=hF'.rh;have l1':=hF'.ri;have hn':S.length=(f0 ul).length+((f0 bl').length+R0.length):=by rw[hS',bU,bU]
  have w2:qr ((2:Int)*(bs:Int))=((2*bs:Nat):Int):=dL atO atO;have w3:qr ((bs:Int)*(2:Int))=((2*bs:Nat):Int):=dL atO atO;have wm:qr (((f1 ul).length:Int)+(bs:Int))=(((f1 ul).length+bs:Nat):Int):=dL atO atO;have e9':FC ((S.length:Int),(bs:Int),(0:Int),qr ((2:Int)*(bs:Int)),f1 bl++R,W)=some ((S.length:Int),(bs:Int),((f1 ul).length:Int),f1 ul++(f1 bl'++R),W):=by rw[w2];exact e9
  have e:∀(u u':Int) (A B:List bG),u=u'->A=B->(atY ((S.length:Int),u,A,W):am Fy Ft)=atY ((S.length:Int),u',B,W):=by rintro _ _ _ _ rfl rfl;rfl
  rcases arm bs ((f1 bl').length+R.length)with g|g
  .match bl',hF',hS',l0',l1',hn',hlt,g,e9' with
   |[],hF',hS',l0',l1',hn',hlt,g,e9'=>simp[f1]at g;omega|p::p2::bl',hF',hS',l0',l1',hn',hlt,g,e9'=>simp only[di,asc]at l1';omega|[p],hF',hS',l0',l1',hn',hlt,g,e9'=>
    obtain⟨hp1,hp2⟩:=hF' p atQ;have lp:=hp2.len;rw[zA]at g l1' hlt e9';rw[zB]at l0' hS' hn';simp only[di,IT]at l1' l0';have lL:(f1 ul++(p.2++R)).length<=400000:=by simp only[bU];omega
    obtain⟨R1,e1,hR1⟩:=aeN C (f1 ul) p.2 R [] (f1 ul++(p.2++R)) ((f1 ul).length:Int) (qr (((f1 ul).length:Int)+(bs:Int))) (S.length:Int) atO atO atO rfl (by rw[wm];congr 2;omega) (by congr 1;omega) (by rw[d6]) lL hp2.qz hR.qz
     (fun x hx=>hV x (by rw[hS'];simp[hp2.mem.1 hx])) (fun x hx=>hV x (by rw[hS'];simp[hR.mem.1 hx]))
    refine⟨((S.length:Int),((2*bs:Nat):Int),f1 ul++R1,W),aR atW (aB e9' (aR (aD (show qr (((f1 ul).length:Int)+(bs:Int))<(S.length:Int) by rw[wm];omega)) (aB e1 (e _ _ _ _ w3 (by rw[d6]))))),⟨2*bs,ul,p.1++R0,R1,rfl,atO,atO,hU,aeQ hp2 hR hR1,by simp only[bU];omega,hS'⟩,?_⟩;show S.length-(((2*bs:Nat):Int)).toNat<S.length-((bs:Int)).toNat;omega
  .-- one block at most,and nothing behind it
   have hrest:dG key (f0 bl'++R0) (f1 bl'++R):=by
    match bl',hF',l1',g with
    |[],hF',l1',g=>exact hR|[p],hF',l1',g=>obtain⟨hp1,hp2⟩:=hF' p atQ;rw[zA]at g l1' |-;rw[zB];simp only[di,IT]at l1';have h0:R0=[]:=ww atO;have h1:R=[]:=ww atO;rw[h0,h1,d6,d6];exact hp2
    |p::p2::bl',hF',l1',g=>simp only[di,asc]at l1';omega
   refine⟨((S.length:Int),((2*bs:Nat):Int),f1 ul++(f1 bl'++R),W),aR atW (aB e9' (ax (aF (show ¬qr (((f1 ul).length:Int)+(bs:Int))<(S.length:Int) by rw[wm];omega)) (e _ _ _ _ w3 rfl))),⟨2*bs,ul,f0 bl'++R0,f1 bl'++R,rfl,atO,atO,hU,hrest,by simp only[bU];omega,hS'⟩,?_⟩;show S.length-(((2*bs:Nat):Int)).toNat<S.length-((bs:Int)).toNat;omega
 .left;refine⟨(f1 bl++R,W),ax atV rfl,_,rfl,?_⟩;rw[hS]
  match bl,hF,l0,l1,hn with
  |[],hF,l0,l1,hn=>exact hR|[p],hF,l0,l1,hn=>obtain⟨hp1,hp2⟩:=hF p atQ;rw[zB]at hn l0 |-;rw[zA];simp only[di,IT]at l0;have h0:R0=[]:=ww atO;have h1:R=[]:=ww atO;rw[h0,h1,d6,d6];exact hp2
  |p::p2::bl,hF,l0,l1,hn=>simp only[di,asc]at l0;omega
theorem arf(C:mX W key V)(hl:S.length<=100000)(hV:∀x∈S,V x):∃S',aon (S,W)=some (S',W)/\dG key S S':=by
 obtain⟨o,e2,bl,R,rfl,hF,hS,hR⟩:=akH C atO hV;have l0:=hF.rh;have l1:=hF.ri;have hn:S.length=(f0 bl).length+R.length:=by grind
 obtain⟨R',e3,hR'⟩:=YT C (X:=f1 bl) (S:=R) (Y:=[]) (L:=f1 bl++R) (A:=((f1 bl).length:Int)) (B:=(S.length:Int)) rfl (by congr 1;omega) (by grind) (by grind) (fun y hy=>hV y (by rw[hS];simp[hy]));obtain⟨o,e7,S',rfl,hS'⟩:=akI C hl hV hF hR' atO hS;rw[d6]at e3;have e:apb ((S.length:Int),S,W)=some (S',W):=aB e2 (aB e3 (aB e7 rfl));exact⟨S',aB e rfl,hS'⟩
end
open Go.Proofs.YtmkbdfidnfmgmaaGreat.Pl
theorem Rf{a b:Bool}(ha:a=true)(h:au b y=z):au (both a b) y=z:=by subst ha;exact h
theorem ajQ(a b:Int):∃c:Int,Qj (a,b,())=some (c,())/\(c<0↔a<b):=by
 have nn:∀x:Int,adM (x,())=some (false,()):=fun x=>by
  show Qv x=_;unfold Qv;have e:∀b:Bool,b=true->(some (Bool.not b,()):Option (TL Gt))=some (false,()):=by rintro _ rfl;rfl
  exact e _ (aD rfl)
 have un:∀c:Option (TL Gl),zt adM a b=c->Qj (a,b,())=c:=fun c h=>h;rcases Int.lt_trichotomy a b with h|h|h
 .refine⟨-1,un _ ?_,atO⟩;unfold zt;exact aB (nn a) (aB (nn b) (ax rfl (ax rfl (aR (aD h) rfl))))
 .refine⟨0,un _ ?_,atO⟩;unfold zt;exact aB (nn a) (aB (nn b) (ax rfl (ax rfl (ax atV (ax atV rfl)))))
 .refine⟨1,un _ ?_,atO⟩;unfold zt;exact aB (nn a) (aB (nn b) (ax rfl (ax rfl (ax atV (aR (aD h) rfl)))))
def wR(n:ak)(of m lv:jp):kV:=(n.vars,n.al,n.ag.map bq,n.aZ,n.aN,n.constraints,n.ae.map aI,n.aj.map bc,of,m,lv,())
def nI(n:ak)(x:bG):cx:=
 match x.1 with
 |true=>(match n.ae[x.2.1.toNat]? with|some M=>(match M.reads[x.2.2.1.toNat]? with|some r=>kj M.word r|none=>⟨[],[]⟩)|none=>⟨[],[]⟩)
 |false=>(match n.aj[x.2.2.1.toNat]? with|some a=>jZ a|none=>⟨[],[]⟩)
variable{n:ak}
theorem al8{y:cV}{i:cx}(h:y.is n i):nI n (dC y)=i:=by
 rcases h with⟨h,a,ha,rfl⟩|⟨h,M,r,hM,hr,rfl⟩
 .unfold nI dC;grind
 .unfold nI dC;grind
def lk(lv:jp)(i:cx):Int:=aJ lv (i.to.headD 0).toNat
variable{of:jp}{lv:jp}{m:jp}
theorem Zd{L:List bG}{x:cV}{i:cx}(h:x.is n i)(ft:Fit n)(hw:∀M∈n.ae,0<=M.word) :
  zZ (x.rd,(x.mem:Int),(x.pos:Int),oG (wR n of m lv) L)=some (i.to,oG (wR n of m lv) L):=by
 show Ah Az x.rd (x.mem:Int) (x.pos:Int) n.vars n.al (n.ag.map bq) n.aZ n.aN n.constraints (n.ae.map aI) (n.aj.map bc) of L m lv=_;unfold Ah;rcases h with⟨h,a,ha,rfl⟩|⟨h,M,r,hM,hr,rfl⟩
 .have ha':(n.aj.map bc)[x.pos]?=some (bc a):=by grind
  have hl:=jj ha';rw[h,cE rfl,bH atT,bI ha'];rfl
 .have hM':(n.ae.map aI)[x.mem]?=some (aI M):=by grind
  have hl:=jj hM';have hmem:=dy hM;have hf:=ft.ae.2 M hmem;have hr2:=hf.ig r (dy hr);rw[h,dc rfl,bH atT,bI hM'];exact(bS (N5 M x.pos r hr ⟨hw M hmem,hf.word.2⟩ ⟨hr2.2.1,hr2.2.2.1⟩)).trans rfl
theorem al1{V:Nat}(hs:bR n V)(ft:Fit n)(hl:lv.length=V+1)(key:bG->Int)(hk:∀x∈n6 n,key (dC x.1)=lk lv x.2)(his:∀x∈n6 n,x.1.is n x.2) :
  mX (wR n of m lv) key (fun x=>∃y∈n6 n,x=dC y.1):=by
 refine⟨fun L x y hx hy=>?_⟩;obtain⟨x,hx,rfl⟩:=hx;obtain⟨y,hy,rfl⟩:=hy;have hw:∀M∈n.ae,0<=M.word:=fun M hM=>by have:=(hs.ae M hM).2.2.1;omega
 have hd:∀z∈n6 n,∃(v:Nat) (t:jp),z.2.to=(v:Int)::t/\v<=V/\key (dC z.1)=aJ lv v:=by
  intro z hz;have hm:z.2∈dj n:=by rw[<-p9];exact AI hz
  have h1:=hs.Ih hm;have h2:=hk z hz;unfold lk at h2
  match e:z.2.to with
  |[]=>exact absurd e h1|v::t=>
   have h3:=hs.mf hm (v:=v) (by rw[e];simp)
   grind
 obtain⟨vx,tx,ex,bx,kx⟩:=hd x hx;obtain⟨vy,ty,ey,bY,ky⟩:=hd y hy;have f1:=Zd (of:=of) (m:=m) (lv:=lv) (L:=L) (his x hx) ft hw;have f2:=Zd (of:=of) (m:=m) (lv:=lv) (L:=L) (his y hy) ft hw;obtain⟨c,hc,hiff⟩:=ajQ (aJ lv vx) (aJ lv vy);refine⟨c,?_,by rw[kx,ky];exact hiff⟩;have g0:gt .I x.2.to (0:Int)=(vx:Int):=bI (σ:=.I) (i:=0) (by rw[ex];rfl);have g1:gt .I y.2.to (0:Int)=(vy:Int):=bI (σ:=.I) (i:=0) (by rw[ey];rfl);have gx:gt .I lv (vx:Int)=aJ lv vx:=bI (σ:=.I) (we atO);have gy:gt .I lv (vy:Int)=aJ lv vy:=bI (σ:=.I) (we atO);have ix:aw (vx:Int) lv.length=true:=atT;have iy:aw (vy:Int) lv.length=true:=atT;have nx:aw (0:Int) (List.length x.2.to)=true:=aU ⟨atO,by rw[ex];simp⟩;have ny:aw (0:Int) (List.length y.2.to)=true:=aU ⟨atO,by rw[ey];simp⟩;have jx:aw (gt .I x.2.to (0:Int)) lv.length=true:=by rw[g0];exact ix
 have jy:aw (gt .I y.2.to (0:Int)) lv.length=true:=by rw[g1];exact iy
 have hc':Qj ((gt .I lv (gt .I x.2.to (0:Int))),(gt .I lv (gt .I y.2.to (0:Int))),())=some (c,()):=by rw[g0,g1,gx,gy];exact hc
 refine aB f1 (aS nx (aS jx (Rf (aD rfl) (Rf (aD rfl) (Rf (aD rfl) (aS rfl (aB f2 (aS ny (aS jy (aS nx (aS (aD rfl) (aS (aD rfl) (aS jx (aS (aD rfl) (aS (aD rfl) (aB hc' rfl))))))))))))))))
theorem Ei(n:ak):(n6 n).map (fun x:cV×cx=>x.1)=eH n:=by
 unfold n6 A6 M6 eH;rw[d7,eX,eX];congr 1
 .exact ati (by rw[Jj,aP];omega)
 .exact ati (by rw[Jf];omega)
theorem uv(n:ak){x:cV×cx}(h:x∈n6 n):x.1.is n x.2:=by
 obtain⟨i,hi⟩:=Fr h;have h1:(eH n)[i]?=some x.1:=by rw[<-Ei,ct,hi];rfl
 have h2:(dj n)[i]?=some x.2:=by rw[<-p9,ct,hi];rfl
 obtain⟨y,e,hy⟩:=za n h1
 grind
def lvl(n:ak)(V:Nat):jp:=Ja (aY n) ((n6 n).length+1) (wM (aY n) V)
def cG(n:ak)(V:Nat):List (cV×cx):=(List.range (n6 n).length).flatMap fun(i:Nat)=>(n6 n).filter fun x=>decide (lk (lvl n V) x.2=(i:Int)+1)
theorem MZ{V:Nat}(hs:bR n V)(hv:v<=V)(hl:dB (aY n) v k):aJ (lvl n V) v=(k:Int):=by
 unfold lvl;have:(n6 n).length=(aY n).length:=by rw[<-yL,aP]
 rw[this];exact aqx hs.apart hs.bz hv hl
theorem He{V:Nat}(hs:bR n V){x:cV×cx}(h:x∈n6 n):(x.2.to.headD 0).toNat<=V/\(x.2.to.headD 0).toNat∈x.2.nd.to/\x.2.nd∈aY n:=by
 have hm:x.2∈dj n:=by rw[<-p9];exact AI h
 have h1:=hs.Ih hm;refine⟨?_,?_,?_⟩
 .match e:x.2.to with|[]=>exact absurd e h1|v::t=>have h3:=hs.mf hm (v:=v) (by rw[e];simp);rw[List.headD_cons];omega
 .unfold cx.nd
  match e:x.2.to with|[]=>exact absurd e h1|v::t=>simp
 .unfold aY;exact AI hm
theorem MY{V:Nat}(hs:bR n V)(ha:dT (aY n) V=true){x:cV×cx}(h:x∈n6 n):1<=lk (lvl n V) x.2/\lk (lvl n V) x.2<=((n6 n).length:Int):=by
 obtain⟨h1,h2,h3⟩:=He hs h;obtain⟨k,hk⟩:=(jL hs.apart V).1 ha _ h1;unfold lk;rw[MZ hs h1 hk];have:(n6 n).length=(aY n).length:=by rw[<-yL,aP]
 have hle:=hk.le hs.apart;obtain⟨f,_,e⟩:=hk.inv hs.apart h3 h2;omega
theorem aeB{V:Nat}(hs:bR n V)(ft:Fit n)(h0:cZ n=0) :
  aeC (bW n,())=some (if dT (aY n) V then((cG n V).map (fun x=>dC x.1),true,())else([],false,())):=by
 have es:ql (bW n,())=some (cZ n,()):=by unfold ql;rw[show d8 ((bW n,()):TL [cA]).1=n from lZ n,qW ft];rfl
 have ew:=Rj hs ft;obtain⟨m,lv,ea,hlv⟩:=MS hs ft;by_cases ha:dT (aY n) V=true
 .obtain⟨hll,hlv⟩:=hlv ha;have et:uV (nt n ())=atZ ((0:Int),wk n V m lv):=by refine aB es (ax (by rw[h0];rfl) (aB ew (aB ea (ax (by rw[ha];rfl) rfl))))
  rw[IO ha]
  let key:bG->Int:=fun x=>lk (lvl n V) (nI n x)
  have hkey:∀x∈n6 n,key (dC x.1)=lk (lvl n V) x.2:=fun x hx=>by show lk (lvl n V) (nI n (dC x.1))=_;rw[al8 (uv n hx)]
  have hk:∀x∈n6 n,key (dC x.1)=lk lv x.2:=fun x hx=>by rw[hkey x hx];obtain⟨h1,h2,h3⟩:=He hs hx;unfold lk;obtain⟨k,e1,e2⟩:=hlv _ h1;rw[e1,MZ hs h1 e2]
  have hN:(eH n).map dC=(n6 n).map (fun x=>dC x.1):=by rw[<-Ei,Fn];rfl
  have hlen:(n6 n).length<=3000:=(NC hs).len;obtain⟨S',e1,hS⟩:=arf (al1 hs ft (of:=gl (aY n) V (aY n).length) (m:=m) hll key hk (fun x hx=>uv n hx)) (S:=(eH n).map dC) (by rw[hN,aP];omega) (fun x hx=>by grind);have hS':S'=(cG n V).map (fun x=>dC x.1):=by
   refine(hS.flat (n6 n).length (fun x hx=>?_)).trans ?_
   .rw[hN]at hx;obtain⟨y,hy,rfl⟩:=ro.1 hx;rw[hkey y hy];exact MY hs ha hy
   .unfold cG;rw[List.map_flatMap,hN];congr 1;funext i;unfold fk;rw[List.filter_map];congr 1;refine List.filter_congr fun x hx=>?_;show decide (key (dC x.1)=_)=_;rw[hkey x hx]
  rw[<-hS'];refine aB et (ax rfl ?_);exact aB e1 rfl
 .rw[BT ha];have hc:dT (aY n) V=false:=by simpa using ha
  have et:uV (nt n ())=atY ((8:Int),()):=by refine aB es (ax (by rw[h0];rfl) (aB ew (aB ea (aR (by rw[hc];rfl) rfl))))
  exact aB et (aS rfl rfl)
