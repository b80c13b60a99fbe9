import Derived.Test.YtmkbdfidnfmgmaaGreatKNe
set_option linter.all false
section
namespace Go.Proofs.YtmkbdfidnfmgmaaGreat.V
open Go Go.RowKit
set_option maxRecDepth 1000000
abbrev afn:List Sh:=[.I]
abbrev G0:List Sh:=[.bool]
abbrev afq:=TL afn->Option (TL G0)
abbrev Ro:=Kd 140 afn G0
def Rm(a0:Int):Option (TL G0):=some ((Bool.not (iQ a0 a0)),())
def arx  :Ro:=⟨u1 Rm,pD Tryz.func140 6 k0 e0 1 (sS l0) fun d=>aud⟩
def afr:Ro:=arx
def afo:afq:=afr.F
abbrev afk:List Sh:=[.I,.I]
abbrev GU:List Sh:=[.I]
abbrev afl:=TL afk->Option (TL GU)
abbrev Rf:=Kd 91 afk GU
def yi(F0:afq)(a0 a1:Int):Option (TL GU):=
 aA (F0 (a0,())) fun x0=>
 aA (F0 (a1,())) fun x1=>
 br x0.1
 (
  br x1.1
  (
   some ((0:Int),()))
  (
   some ((Int.negSucc 0),())))
 (
  br x1.1
  (
   some ((1:Int),()))
  (
   br (iL a0 a1)
   (
    some ((Int.negSucc 0),()))
   (
    br (iL a1 a0)
    (
     some ((1:Int),()))
    (
     some ((0:Int),())))))
def arw(c0:Ro) :Rf:=⟨u2 (yi c0.F),pD Tryz.func91 20 (kD c0 k0) e0 1 (sS l0) fun d=>aud⟩
def afm:Rf:=arw afr
def Re:afl:=afm.F
abbrev jq:List (Nat×LO):=[(0,.arr aH 146),(1,.cells [.ptr 2 0] 152),(2,.cells [.I,.fz .I,.fz ae,.fz .I,.fz .I,.fz .I,.fz ai,.fz ae,.hd 3 .I,.hd 0 aH,.hd 4 (.int .u8),.hd 5 .I] 160),(3,.arr .I 3),(4,.arr (.int .u8) 5),(5,.arr .I 3)]
abbrev agF:List (Nat×LO):=[(0,.cells [.ptr 1 0] 152),(1,.cells [.I,.fz .I,.fz ae,.fz .I,.fz .I,.fz .I,.fz ai,.fz ae,.hd 2 .I,.hd 3 aH,.hd 4 (.int .u8),.hd 5 .I] 160),(2,.arr .I 3),(3,.arr aH 146),(4,.arr (.int .u8) 5),(5,.arr .I 3)]
abbrev nU:ak:=⟨[],jq,6⟩
abbrev Ss:ak:=⟨[(0,.hd 0 aH),(1,.I),(2,.I),(3,.I),(4,.func 90 [] [.ptr 1 0])],jq,6⟩
abbrev agG:ak:=⟨[(0,.hd 0 aH),(1,.I),(2,.func 90 [] [.ptr 1 0]),(6,.I),(7,.I),(8,.I)],jq,6⟩
abbrev agH:ak:=⟨[(0,.hd 0 aH),(1,.I),(2,.I),(3,.func 90 [] [.ptr 1 0]),(8,.I)],jq,6⟩
abbrev agI:ak:=⟨[(0,.hd 0 aH),(1,.I),(2,.func 90 [] [.ptr 1 0]),(6,.I),(7,.I)],jq,6⟩
abbrev agJ:ak:=⟨[(4,.fz .I),(6,.fz bT),(7,.hd 0 bT),(8,.I)],[(0,.arr bT 187)],1⟩
abbrev afp:ak:=⟨[(0,.agg [.bool,.I,.I]),(1,.agg [.bool,.I,.I]),(2,.ptr 0 0)],agF,6⟩
abbrev Ri:List (Ev.Ex×ak):=[(.ret,⟨[(0,.I)],agF,6⟩)]
abbrev mL:=be afp Ri
abbrev mq:=Kb 90 3 afp 1 Ri
def arA(F0:afl)(F1:yf)(eo:Bool)(jK jL:Int)(tG:Bool)(lQ my bc:Int)(cq:jp)(bN:bv)(bW bH dc:jp)(cx:ce)(cP:bv)(b2:jp)(b3:eq)(b4 b5:jp):Option (Out Ri):=
 aA (F1 (eo,jK,jL,bc,cq,bN,bW,bH,dc,cx,cP,b2,b3,b4,b5,())) fun x0=>
 aj (an (0:Int) (List.length x0.1))<|
 aj (an (gt .I x0.1 (0:Int)) (List.length (eW x0)))<|
 aj (both (bQ tG tG) (both (iQ lQ lQ) (both (iQ my my) true)))<|
 aA (F1 (tG,lQ,my,x0.2)) fun x1=>
 aj (an (0:Int) (List.length x1.1))<|
 aj (an (gt .I x1.1 (0:Int)) (List.length (eW x1)))<|
 aj (an (0:Int) (List.length x0.1))<|
 aj (Sh.beq .I (gt .I x0.1 (0:Int)) (gt .I x0.1 (0:Int)))<|
 aj (iQ (gt .I x0.1 (0:Int)) (gt .I x0.1 (0:Int)))<|
 aj (an (gt .I x0.1 (0:Int)) (List.length (eW x1)))<|
 aj (nQ (Int.toNat (gt .I x0.1 (0:Int))) (Int.toNat (gt .I x0.1 (0:Int))))<|
 aj (iQ (gt .I (eW x0) (gt .I x0.1 (0:Int))) (gt .I (eW x1) (gt .I x0.1 (0:Int))))<|
 aA (F0 ((gt .I (eW x0) (gt .I x0.1 (0:Int))),(gt .I (eW x1) (gt .I x1.1 (0:Int))),())) fun x2=>
 some (x2.1,x1.2)
def arz(c0:Rf)(c1:uX) :mq:=⟨mC (arA c0.F c1.F),pB Tryz.func90 29 (kD c0 (kB c1 k0)) e0 1 (sS l0) fun d=>aud⟩
def mM:mq:=arz afm yg
def kR:mL:=mM.F
abbrev aet:ak:=Ss
abbrev Qm:List (Ev.Ex×ak):=[(.ret,nU)]
abbrev Qv:=be aet Qm
abbrev Gw:=Kb 216 5 aet 0 Qm
abbrev Gk:ak:=⟨[(0,.hd 0 aH),(1,.I),(2,.I),(3,.I),(10,.I)],jq,6⟩
abbrev Gd:List (Ev.Ex×ak):=[((.exit 0),nU)]
abbrev aez:=be Gk Gd
abbrev aeC:=Ld 6 38 (bI [0] (bt Tryz.f216)) Gk Gd
def Gr(t1 t2 t3 t10:Int)(b0:eq)(bE:Int)(cY:jp)(cZ:bv)(de ct cS:jp)(dq:ce)(dR:bv)(b3 b4 b5:jp):am Gk Gd:=
 br (iL t10 t3)
 (
  aj (an (pu (t2+t10)) b0.length)<|
  aj (an (pu (t1+t10)) b0.length)<|
  aj (an (pu (t1+t10)) b0.length)<|
  aj (an (pu (t2+t10)) (List.length (List.set b0 (Int.toNat (pu (t1+t10))) (gt aH b0 (pu (t2+t10))))))<|
  aj (iQ t2 t2)<|
  aj (iQ t10 t10)<|
  aj (iQ (pu (t2+t10)) (pu (t2+t10)))<|
  aul (t1,t2,t3,(pu (t10+(1:Int))),(List.set (List.set b0 (Int.toNat (pu (t1+t10))) (gt aH b0 (pu (t2+t10)))) (Int.toNat (pu (t2+t10))) (gt aH b0 (pu (t1+t10)))),bE,cY,cZ,de,ct,cS,dq,dR,b3,b4,b5,()))
 (
  aum (b0,bE,cY,cZ,de,ct,cS,dq,dR,b3,b4,b5,()))
def aqz  :aeC:=bJ (u16 Gr) (pL k0 e0 1 l0 fun d=>aud)
def aeA:aez:=bj (u16 Gr) NN
def aqF(F0:mL)(L1:aez)(t1 t2 t3:Int)(b0:eq)(bE:Int)(cY:jp)(cZ:bv)(de ct cS:jp)(dq:ce)(dR:bv)(b3 b4 b5:jp):Option (Out Qm):=
 aA (L1 (t1,t2,t3,(0:Int),b0,bE,cY,cZ,de,ct,cS,dq,dR,b3,b4,b5,())) fun x0=>
 some x0
def aqE(c0:mq)(M1:aeC):Gw:=⟨fW (aqF c0.F M1.L),pB Tryz.func216 38 (kB c0 k0) e0 1 (sS (sC M1 l0)) fun d=>aud⟩
def Qw:Gw:=aqE mM aqz
def aeB:Qv:=Qw.F
abbrev aeH:ak:=Ss
abbrev xZ:List (Ev.Ex×ak):=[(.ret,nU)]
abbrev GR:=be aeH xZ
abbrev QI:=Kb 208 5 aeH 0 xZ
abbrev ya:ak:=⟨[(0,.hd 0 aH),(2,.I),(4,.func 90 [] [.ptr 1 0]),(10,.I),(11,.I)],jq,6⟩
abbrev xY:List (Ev.Ex×ak):=[((.exit 0),⟨[(0,.hd 0 aH),(2,.I),(4,.func 90 [] [.ptr 1 0]),(10,.I)],jq,6⟩)]
abbrev aeN:=be ya xY
abbrev QF:=Ld 6 58 (bI [0] (bt Tryz.f208)) ya xY
def QG(F1:Qv)(t2 t10 t11:Int)(b0:eq)(bE:Int)(cY:jp)(cZ:bv)(de ct cS:jp)(dq:ce)(dR:bv)(b3 b4 b5:jp):am ya xY:=
 br (Bool.not (iQ t10 t11))
 (
  br (iL t11 t10)
  (
   aA (F1 ((pu (t2-t10)),t2,t11,b0,bE,cY,cZ,de,ct,cS,dq,dR,b3,b4,b5,())) fun x0=>
   aul (t2,(pu (t10-t11)),t11,x0))
  (
   aA (F1 ((pu (t2-t10)),(pu ((pu (t2+t11))-t10)),t10,b0,bE,cY,cZ,de,ct,cS,dq,dR,b3,b4,b5,())) fun x0=>
   aul (t2,t10,(pu (t11-t10)),x0)))
 (
  aum (t2,t10,b0,bE,cY,cZ,de,ct,cS,dq,dR,b3,b4,b5,()))
def aqO(c1:Gw) :QF:=bJ (fW (QG c1.F)) (pL (kB c1 k0) e0 1 l0 fun d=>aud)
def aqN:QF:=aqO Qw
def QE:aeN:=bj (fW (QG aeB)) NN
def aqS(F0:mL)(F1:Qv)(L2:aeN)(t1 t2 t3:Int)(b0:eq)(bE:Int)(cY:jp)(cZ:bv)(de ct cS:jp)(dq:ce)(dR:bv)(b3 b4 b5:jp):Option (Out xZ):=
 aA (L2 (t2,(pu (t2-t1)),(pu (t3-t2)),b0,bE,cY,cZ,de,ct,cS,dq,dR,b3,b4,b5,())) fun x0=>
 aA (F1 ((pu (@HSub.hSub (Int) (Int) (Int) _ x0.1 x0.2.1)),x0)) fun x1=>
 some x1
def aqR(c0:mq)(c1:Gw)(M2:QF):QI:=⟨fW (aqS c0.F c1.F M2.L),pB Tryz.func208 58 (kB c0 (kB c1 k0)) e0 1 (sS (sC M2 l0)) fun d=>aud⟩
def aeQ:QI:=aqR mM Qw aqN
def GD:GR:=aeQ.F
abbrev ael:ak:=⟨[(0,.hd 0 aH),(1,.I),(2,.I),(3,.func 90 [] [.ptr 1 0])],jq,6⟩
abbrev Qc:List (Ev.Ex×ak):=[(.ret,nU)]
abbrev Qk:=be ael Qc
abbrev Ge:=Kb 176 4 ael 0 Qc
abbrev FZ:ak:=agH
abbrev FY:List (Ev.Ex×ak):=[((.exit 0),nU)]
abbrev aem:=be FZ FY
abbrev Qg:=Ld 6 53 (bI [0] (bt Tryz.f176)) FZ FY
abbrev xX:ak:=⟨[(0,.hd 0 aH),(1,.I),(2,.I),(3,.func 90 [] [.ptr 1 0]),(8,.I),(9,.I)],jq,6⟩
abbrev xW:List (Ev.Ex×ak):=[((.exit 2),agH)]
abbrev Qe:=be xX xW
abbrev F9:=Ld 6 53 (bI [0,0] (bt Tryz.f176)) xX xW
def Qh(F0:mL)(t1 t2 t8 t9:Int)(b0:eq)(bE:Int)(cY:jp)(cZ:bv)(de ct cS:jp)(dq:ce)(dR:bv)(b3 b4 b5:jp):am xX xW:=
 br (iL t1 t9)
 (
  aj (an t9 b0.length)<|
  aj (an (pu (t9-(1:Int))) b0.length)<|
  aA (F0 ((gt aH b0 t9).1,(gt aH b0 t9).2.1,(gt aH b0 t9).2.2.1,(gt aH b0 (pu (t9-(1:Int)))).1,(gt aH b0 (pu (t9-(1:Int)))).2.1,(gt aH b0 (pu (t9-(1:Int)))).2.2.1,bE,cY,cZ,de,ct,cS,dq,dR,b3,b0,b4,b5,())) fun x0=>
  br (bK true (iL x0.1 (0:Int)) false)
  (
   aj (an (pu (t9-(1:Int))) (List.length (dE x0)))<|
   aj (an t9 (List.length (dE x0)))<|
   aj (an t9 (List.length (dE x0)))<|
   aj (an (pu (t9-(1:Int))) (List.length (List.set (dE x0) (Int.toNat t9) (gt aH (dE x0) (pu (t9-(1:Int)))))))<|
   aj (iQ t9 t9)<|
   aj (iQ (pu (t9-(1:Int))) (pu (t9-(1:Int))))<|
   aul (t1,t2,t8,(pu (t9-(1:Int))),(List.set (List.set (dE x0) (Int.toNat t9) (gt aH (dE x0) (pu (t9-(1:Int))))) (Int.toNat (pu (t9-(1:Int)))) (gt aH (dE x0) t9)),x0.2.1,x0.2.2.1,cu x0,cB x0,cG x0,c9 x0,dj x0,dN x0,ef x0,qe x0))
  (
   aum (t1,t2,t8,dE x0,x0.2.1,x0.2.2.1,cu x0,cB x0,cG x0,c9 x0,dj x0,dN x0,ef x0,qe x0)))
 (
  aum (t1,t2,t8,b0,bE,cY,cZ,de,ct,cS,dq,dR,b3,b4,b5,()))
def aqm(c0:mq) :F9:=bJ (u16 (Qh c0.F)) (pL (kB c0 k0) e0 1 l0 fun d=>aud)
def aen:F9:=aqm mM
def Qf:Qe:=bj (u16 (Qh kR)) NN
def Ga(L4:Qe)(t1 t2 t8:Int)(b0:eq)(bE:Int)(cY:jp)(cZ:bv)(de ct cS:jp)(dq:ce)(dR:bv)(b3 b4 b5:jp):am FZ FY:=
 br (iL t8 t2)
 (
  aA (L4 (t1,t2,t8,t8,b0,bE,cY,cZ,de,ct,cS,dq,dR,b3,b4,b5,())) fun x0=>
  aul (x0.1,x0.2.1,(pu (pm x0.2.2.1 (1:Int))),nk x0))
 (
  aum (b0,bE,cY,cZ,de,ct,cS,dq,dR,b3,b4,b5,()))
def aqn(M4:F9):Qg:=bJ (fW (Ga M4.L)) (pL k0 e0 1 (sC M4 l0) fun d=>aud)
def aql:Qg:=aqn  aen
def F8:aem:=bj (fW (Ga Qf)) NN
def aqr(F0:mL)(L1:aem)(L4:Qe)(t1 t2:Int)(b0:eq)(bE:Int)(cY:jp)(cZ:bv)(de ct cS:jp)(dq:ce)(dR:bv)(b3 b4 b5:jp):Option (Out Qc):=
 aA (L1 (t1,t2,(pu (t1+(1:Int))),b0,bE,cY,cZ,de,ct,cS,dq,dR,b3,b4,b5,())) fun x0=>
 some x0
def aqq(c0:mq)(M1:Qg)(M4:F9):Ge:=⟨gA (aqr c0.F M1.L M4.L),pB Tryz.func176 53 (kB c0 k0) e0 1 (sS (sC M1 l0)) fun d=>aud⟩
def Ql:Ge:=aqq mM aql aen
def aeo:Qk:=Ql.F
abbrev aeu:ak:=Ss
abbrev Gl:List (Ev.Ex×ak):=[(.ret,nU)]
abbrev iX:=be aeu Gl
abbrev mK:=Kb 177 5 aeu 0 Gl
abbrev Gh:ak:=⟨[(0,.hd 0 aH),(1,.I),(2,.I),(3,.I),(4,.func 90 [] [.ptr 1 0]),(18,.I),(19,.I),(20,.I),(21,.I),(22,.I)],jq,6⟩
abbrev yc:List (Ev.Ex×ak):=[((.exit 8),⟨[(0,.hd 0 aH),(1,.I),(2,.I),(3,.I),(4,.func 90 [] [.ptr 1 0]),(18,.I),(19,.I),(20,.I)],jq,6⟩)]
abbrev aev:=be Gh yc
abbrev Qo:=Ld 6 220 (bI [4] (bt Tryz.f177)) Gh yc
abbrev Gi:ak:=⟨[(0,.hd 0 aH),(14,.I),(17,.I)],jq,6⟩
abbrev Gb:List (Ev.Ex×ak):=[((.exit 6),nU)]
abbrev aew:=be Gi Gb
abbrev Qp:=Ld 6 220 (bI [3] (bt Tryz.f177)) Gi Gb
abbrev Gj:ak:=⟨[(0,.hd 0 aH),(2,.I),(4,.func 90 [] [.ptr 1 0]),(14,.I),(15,.I)],jq,6⟩
abbrev Gc:List (Ev.Ex×ak):=[((.exit 4),⟨[(0,.hd 0 aH),(2,.I),(14,.I)],jq,6⟩)]
abbrev aex:=be Gj Gc
abbrev Qq:=Ld 6 220 (bI [2] (bt Tryz.f177)) Gj Gc
abbrev Gm:ak:=⟨[(0,.hd 0 aH),(10,.I),(13,.I)],jq,6⟩
abbrev Gf:List (Ev.Ex×ak):=[((.exit 2),nU)]
abbrev aeD:=be Gm Gf
abbrev Qt:=Ld 6 220 (bI [1] (bt Tryz.f177)) Gm Gf
abbrev Gn:ak:=⟨[(0,.hd 0 aH),(1,.I),(4,.func 90 [] [.ptr 1 0]),(10,.I),(11,.I)],jq,6⟩
abbrev Gg:List (Ev.Ex×ak):=[((.exit 0),⟨[(0,.hd 0 aH),(1,.I),(10,.I)],jq,6⟩)]
abbrev aeE:=be Gn Gg
abbrev Qu:=Ld 6 220 (bI [0] (bt Tryz.f177)) Gn Gg
def uW(F0:mL)(t1 t10 t11:Int)(b0:eq)(bE:Int)(cY:jp)(cZ:bv)(de ct cS:jp)(dq:ce)(dR:bv)(b3 b4 b5:jp):am Gn Gg:=
 br (iL t10 t11)
 (
  aj (an (pu (Int.fdiv (IntKind.wrap .u64 (pu (t10+t11))) (HPow.hPow (2:Int) (Min.min (Int.toNat (1:Int)) 64)))) b0.length)<|
  aj (an t1 b0.length)<|
  aA (F0 ((gt aH b0 (pu (Int.fdiv (IntKind.wrap .u64 (pu (t10+t11))) (HPow.hPow (2:Int) (Min.min (Int.toNat (1:Int)) 64))))).1,(gt aH b0 (pu (Int.fdiv (IntKind.wrap .u64 (pu (t10+t11))) (HPow.hPow (2:Int) (Min.min (Int.toNat (1:Int)) 64))))).2.1,(gt aH b0 (pu (Int.fdiv (IntKind.wrap .u64 (pu (t10+t11))) (HPow.hPow (2:Int) (Min.min (Int.toNat (1:Int)) 64))))).2.2.1,(gt aH b0 t1).1,(gt aH b0 t1).2.1,(gt aH b0 t1).2.2.1,bE,cY,cZ,de,ct,cS,dq,dR,b3,b0,b4,b5,())) fun x0=>
  br (iL x0.1 (0:Int))
  (
   aul (t1,(pu ((pu (Int.fdiv (IntKind.wrap .u64 (pu (t10+t11))) (HPow.hPow (2:Int) (Min.min (Int.toNat (1:Int)) 64))))+(1:Int))),t11,dE x0,x0.2.1,x0.2.2.1,cu x0,cB x0,cG x0,c9 x0,dj x0,dN x0,ef x0,qe x0))
  (
   aul (t1,t10,(pu (Int.fdiv (IntKind.wrap .u64 (pu (t10+t11))) (HPow.hPow (2:Int) (Min.min (Int.toNat (1:Int)) 64)))),dE x0,x0.2.1,x0.2.2.1,cu x0,cB x0,cG x0,c9 x0,dj x0,dN x0,ef x0,qe x0)))
 (
  aum (t1,t10,b0,bE,cY,cZ,de,ct,cS,dq,dR,b3,b4,b5,()))
def aqD(c0:mq) :Qu:=bJ (fW (uW c0.F)) (pL (kB c0 k0) e0 1 l0 fun d=>aud)
def aqB(s:mK):Qu:=aqD mM
def aeF(F:iX):aeE:=bj (fun d=>uW kR  d.1 d.2.1 d.2.2.1 d.2.2.2.1 d.2.2.2.2.1 d.2.2.2.2.2.1 d.2.2.2.2.2.2.1 d.2.2.2.2.2.2.2.1 d.2.2.2.2.2.2.2.2.1 d.2.2.2.2.2.2.2.2.2.1 d.2.2.2.2.2.2.2.2.2.2.1 d.2.2.2.2.2.2.2.2.2.2.2.1 d.2.2.2.2.2.2.2.2.2.2.2.2.1 d.2.2.2.2.2.2.2.2.2.2.2.2.2.1 d.2.2.2.2.2.2.2.2.2.2.2.2.2.2.1) NN
def Gv(t10 t13:Int)(b0:eq)(bE:Int)(cY:jp)(cZ:bv)(de ct cS:jp)(dq:ce)(dR:bv)(b3 b4 b5:jp):am Gm Gf:=
 br (iL t13 (pu (t10-(1:Int))))
 (
  aj (an (pu (t13+(1:Int))) b0.length)<|
  aj (an t13 b0.length)<|
  aj (an t13 b0.length)<|
  aj (an (pu (t13+(1:Int))) (List.length (List.set b0 (Int.toNat t13) (gt aH b0 (pu (t13+(1:Int)))))))<|
  aj (iQ t13 t13)<|
  aj (iQ (pu (t13+(1:Int))) (pu (t13+(1:Int))))<|
  aul (t10,(pu (t13+(1:Int))),(List.set (List.set b0 (Int.toNat t13) (gt aH b0 (pu (t13+(1:Int))))) (Int.toNat (pu (t13+(1:Int)))) (gt aH b0 t13)),bE,cY,cZ,de,ct,cS,dq,dR,b3,b4,b5,()))
 (
  aum (b0,bE,cY,cZ,de,ct,cS,dq,dR,b3,b4,b5,()))
def aqC  :Qt:=bJ (gA Gv) (pL k0 e0 1 l0 fun d=>aud)
def aqA(s:mK):Qt:=aqC
def Qr(F:iX):aeD:=bj (fun d=>Gv   d.1 d.2.1 d.2.2.1 d.2.2.2.1 d.2.2.2.2.1 d.2.2.2.2.2.1 d.2.2.2.2.2.2.1 d.2.2.2.2.2.2.2.1 d.2.2.2.2.2.2.2.2.1 d.2.2.2.2.2.2.2.2.2.1 d.2.2.2.2.2.2.2.2.2.2.1 d.2.2.2.2.2.2.2.2.2.2.2.1 d.2.2.2.2.2.2.2.2.2.2.2.2.1 d.2.2.2.2.2.2.2.2.2.2.2.2.2.1) NN
def uV(F0:mL)(t2 t14 t15:Int)(b0:eq)(bE:Int)(cY:jp)(cZ:bv)(de ct cS:jp)(dq:ce)(dR:bv)(b3 b4 b5:jp):am Gj Gc:=
 br (iL t14 t15)
 (
  aj (an t2 b0.length)<|
  aj (an (pu (Int.fdiv (IntKind.wrap .u64 (pu (t14+t15))) (HPow.hPow (2:Int) (Min.min (Int.toNat (1:Int)) 64)))) b0.length)<|
  aA (F0 ((gt aH b0 t2).1,(gt aH b0 t2).2.1,(gt aH b0 t2).2.2.1,(gt aH b0 (pu (Int.fdiv (IntKind.wrap .u64 (pu (t14+t15))) (HPow.hPow (2:Int) (Min.min (Int.toNat (1:Int)) 64))))).1,(gt aH b0 (pu (Int.fdiv (IntKind.wrap .u64 (pu (t14+t15))) (HPow.hPow (2:Int) (Min.min (Int.toNat (1:Int)) 64))))).2.1,(gt aH b0 (pu (Int.fdiv (IntKind.wrap .u64 (pu (t14+t15))) (HPow.hPow (2:Int) (Min.min (Int.toNat (1:Int)) 64))))).2.2.1,bE,cY,cZ,de,ct,cS,dq,dR,b3,b0,b4,b5,())) fun x0=>
  br (Bool.not (iL x0.1 (0:Int)))
  (
   aul (t2,(pu ((pu (Int.fdiv (IntKind.wrap .u64 (pu (t14+t15))) (HPow.hPow (2:Int) (Min.min (Int.toNat (1:Int)) 64))))+(1:Int))),t15,dE x0,x0.2.1,x0.2.2.1,cu x0,cB x0,cG x0,c9 x0,dj x0,dN x0,ef x0,qe x0))
  (
   aul (t2,t14,(pu (Int.fdiv (IntKind.wrap .u64 (pu (t14+t15))) (HPow.hPow (2:Int) (Min.min (Int.toNat (1:Int)) 64)))),dE x0,x0.2.1,x0.2.2.1,cu x0,cB x0,cG x0,c9 x0,dj x0,dN x0,ef x0,qe x0)))
 (
  aum (t2,t14,b0,bE,cY,cZ,de,ct,cS,dq,dR,b3,b4,b5,()))
def aqy(c0:mq) :Qq:=bJ (fW (uV c0.F)) (pL (kB c0 k0) e0 1 l0 fun d=>aud)
def aqv(s:mK):Qq:=aqy mM
def aey(F:iX):aex:=bj (fun d=>uV kR  d.1 d.2.1 d.2.2.1 d.2.2.2.1 d.2.2.2.2.1 d.2.2.2.2.2.1 d.2.2.2.2.2.2.1 d.2.2.2.2.2.2.2.1 d.2.2.2.2.2.2.2.2.1 d.2.2.2.2.2.2.2.2.2.1 d.2.2.2.2.2.2.2.2.2.2.1 d.2.2.2.2.2.2.2.2.2.2.2.1 d.2.2.2.2.2.2.2.2.2.2.2.2.1 d.2.2.2.2.2.2.2.2.2.2.2.2.2.1 d.2.2.2.2.2.2.2.2.2.2.2.2.2.2.1) NN
def Gq(t14 t17:Int)(b0:eq)(bE:Int)(cY:jp)(cZ:bv)(de ct cS:jp)(dq:ce)(dR:bv)(b3 b4 b5:jp):am Gi Gb:=
 br (iL t14 t17)
 (
  aj (an (pu (t17-(1:Int))) b0.length)<|
  aj (an t17 b0.length)<|
  aj (an t17 b0.length)<|
  aj (an (pu (t17-(1:Int))) (List.length (List.set b0 (Int.toNat t17) (gt aH b0 (pu (t17-(1:Int)))))))<|
  aj (iQ t17 t17)<|
  aj (iQ (pu (t17-(1:Int))) (pu (t17-(1:Int))))<|
  aul (t14,(pu (t17-(1:Int))),(List.set (List.set b0 (Int.toNat t17) (gt aH b0 (pu (t17-(1:Int))))) (Int.toNat (pu (t17-(1:Int)))) (gt aH b0 t17)),bE,cY,cZ,de,ct,cS,dq,dR,b3,b4,b5,()))
 (
  aum (b0,bE,cY,cZ,de,ct,cS,dq,dR,b3,b4,b5,()))
def aqx  :Qp:=bJ (gA Gq) (pL k0 e0 1 l0 fun d=>aud)
def aqu(s:mK):Qp:=aqx
def Qn(F:iX):aew:=bj (fun d=>Gq   d.1 d.2.1 d.2.2.1 d.2.2.2.1 d.2.2.2.2.1 d.2.2.2.2.2.1 d.2.2.2.2.2.2.1 d.2.2.2.2.2.2.2.1 d.2.2.2.2.2.2.2.2.1 d.2.2.2.2.2.2.2.2.2.1 d.2.2.2.2.2.2.2.2.2.2.1 d.2.2.2.2.2.2.2.2.2.2.2.1 d.2.2.2.2.2.2.2.2.2.2.2.2.1 d.2.2.2.2.2.2.2.2.2.2.2.2.2.1) NN
def uU(F0:mL)(t1 t2 t3 t18 t19 t20 t21 t22:Int)(b0:eq)(bE:Int)(cY:jp)(cZ:bv)(de ct cS:jp)(dq:ce)(dR:bv)(b3 b4 b5:jp):am Gh yc:=
 br (iL t20 t21)
 (
  aj (an (pu (t22-(pu (Int.fdiv (IntKind.wrap .u64 (pu (t20+t21))) (HPow.hPow (2:Int) (Min.min (Int.toNat (1:Int)) 64)))))) b0.length)<|
  aj (an (pu (Int.fdiv (IntKind.wrap .u64 (pu (t20+t21))) (HPow.hPow (2:Int) (Min.min (Int.toNat (1:Int)) 64)))) b0.length)<|
  aA (F0 ((gt aH b0 (pu (t22-(pu (Int.fdiv (IntKind.wrap .u64 (pu (t20+t21))) (HPow.hPow (2:Int) (Min.min (Int.toNat (1:Int)) 64))))))).1,(gt aH b0 (pu (t22-(pu (Int.fdiv (IntKind.wrap .u64 (pu (t20+t21))) (HPow.hPow (2:Int) (Min.min (Int.toNat (1:Int)) 64))))))).2.1,(gt aH b0 (pu (t22-(pu (Int.fdiv (IntKind.wrap .u64 (pu (t20+t21))) (HPow.hPow (2:Int) (Min.min (Int.toNat (1:Int)) 64))))))).2.2.1,(gt aH b0 (pu (Int.fdiv (IntKind.wrap .u64 (pu (t20+t21))) (HPow.hPow (2:Int) (Min.min (Int.toNat (1:Int)) 64))))).1,(gt aH b0 (pu (Int.fdiv (IntKind.wrap .u64 (pu (t20+t21))) (HPow.hPow (2:Int) (Min.min (Int.toNat (1:Int)) 64))))).2.1,(gt aH b0 (pu (Int.fdiv (IntKind.wrap .u64 (pu (t20+t21))) (HPow.hPow (2:Int) (Min.min (Int.toNat (1:Int)) 64))))).2.2.1,bE,cY,cZ,de,ct,cS,dq,dR,b3,b0,b4,b5,())) fun x0=>
  br (Bool.not (iL x0.1 (0:Int)))
  (
   aul (t1,t2,t3,t18,t19,(pu ((pu (Int.fdiv (IntKind.wrap .u64 (pu (t20+t21))) (HPow.hPow (2:Int) (Min.min (Int.toNat (1:Int)) 64))))+(1:Int))),t21,t22,dE x0,x0.2.1,x0.2.2.1,cu x0,cB x0,cG x0,c9 x0,dj x0,dN x0,ef x0,qe x0))
  (
   aul (t1,t2,t3,t18,t19,t20,(pu (Int.fdiv (IntKind.wrap .u64 (pu (t20+t21))) (HPow.hPow (2:Int) (Min.min (Int.toNat (1:Int)) 64)))),t22,dE x0,x0.2.1,x0.2.2.1,cu x0,cB x0,cG x0,c9 x0,dj x0,dN x0,ef x0,qe x0)))
 (
  aum (t1,t2,t3,t18,t19,t20,b0,bE,cY,cZ,de,ct,cS,dq,dR,b3,b4,b5,()))
def aqw(c0:mq) :Qo:=bJ (kZ (uU c0.F)) (pL (kB c0 k0) e0 1 l0 fun d=>aud)
def aqt(s:mK):Qo:=aqw mM
def Gp(F:iX):aev:=bj (fun d=>uU kR  d.1 d.2.1 d.2.2.1 d.2.2.2.1 d.2.2.2.2.1 d.2.2.2.2.2.1 d.2.2.2.2.2.2.1 d.2.2.2.2.2.2.2.1 d.2.2.2.2.2.2.2.2.1 d.2.2.2.2.2.2.2.2.2.1 d.2.2.2.2.2.2.2.2.2.2.1 d.2.2.2.2.2.2.2.2.2.2.2.1 d.2.2.2.2.2.2.2.2.2.2.2.2.1 d.2.2.2.2.2.2.2.2.2.2.2.2.2.1 d.2.2.2.2.2.2.2.2.2.2.2.2.2.2.1 d.2.2.2.2.2.2.2.2.2.2.2.2.2.2.2.1 d.2.2.2.2.2.2.2.2.2.2.2.2.2.2.2.2.1 d.2.2.2.2.2.2.2.2.2.2.2.2.2.2.2.2.2.1 d.2.2.2.2.2.2.2.2.2.2.2.2.2.2.2.2.2.2.1 d.2.2.2.2.2.2.2.2.2.2.2.2.2.2.2.2.2.2.2.1) NN
abbrev cf:=aH.T
abbrev kq:=TL [.I,.sl .I,.sl ae,.sl .I,.sl .I,.sl .I,.sl ai,.sl ae,.sl .I,.sl (.int .u8),.sl .I]
abbrev th:=Option (Out Gl)
def vj(F1:iX)(b mid e:Int)(x:List cf×kq):th:=br (iL mid e) (br (bK true (iL e b) false) (aA (F1 (mid,e,b,x.1,x.2)) fun y=>some (y.1,y.2)) (some x)) (some x)
def yC(F1:iX)(a b mid s e:Int)(x:List cf×kq):th:=br (iL a s) (br (bK true (iL s mid) false) (aA (F1 (a,s,mid,x.1,x.2)) fun y=>vj F1 b mid e y) (vj F1 b mid e x)) (vj F1 b mid e x)
def Sf(F2:GR)(F1:iX)(a m b mid s e:Int)(x:List cf×kq):th:=br (iL s m) (br (bK true (iL m e) false) (aA (F2 (s,m,e,x.1,x.2)) fun y=>yC F1 a b mid s e y) (yC F1 a b mid s e x)) (yC F1 a b mid s e x)
def agi(F2:GR)(F1:iX)(x0:Out yc):th:=Sf F2 F1 x0.1 x0.2.1 x0.2.2.1 x0.2.2.2.1 x0.2.2.2.2.2.1 (pu (@HSub.hSub (Int) (Int) (Int) _ x0.2.2.2.2.1 x0.2.2.2.2.2.1)) x0.2.2.2.2.2.2
def yb(F0:mL)(F1:iX)(F2:GR)(L3:aeE)(L9:aeD)(L15:aex)(L21:aew)(L33:aev)(t1 t2 t3:Int)(b0:eq)(bE:Int)(cY:jp)(cZ:bv)(de ct cS:jp)(dq:ce)(dR:bv)(b3 b4 b5:jp):Option (Out Gl):=
 br (iQ (pu (t2-t1)) (1:Int))
 (
  aA (L3 (t1,t2,t3,b0,bE,cY,cZ,de,ct,cS,dq,dR,b3,b4,b5,())) fun x0=>
  aA (L9 (x0.2.1,x0.1,x0.2.2)) fun x1=>
  some x1)
 (
  br (iQ (pu (t3-t2)) (1:Int))
  (
   aA (L15 (t2,t1,t2,b0,bE,cY,cZ,de,ct,cS,dq,dR,b3,b4,b5,())) fun x0=>
   aA (L21 (x0.2.1,x0.1,x0.2.2)) fun x1=>
   some x1)
  (
   br (iL (pu (Int.fdiv (IntKind.wrap .u64 (pu (t1+t3))) (HPow.hPow (2:Int) (Min.min (Int.toNat (1:Int)) 64)))) t2)
   (
    aA (L33 (t1,t2,t3,(pu (Int.fdiv (IntKind.wrap .u64 (pu (t1+t3))) (HPow.hPow (2:Int) (Min.min (Int.toNat (1:Int)) 64)))),(pu ((pu (Int.fdiv (IntKind.wrap .u64 (pu (t1+t3))) (HPow.hPow (2:Int) (Min.min (Int.toNat (1:Int)) 64))))+t2)),(pu ((pu ((pu (Int.fdiv (IntKind.wrap .u64 (pu (t1+t3))) (HPow.hPow (2:Int) (Min.min (Int.toNat (1:Int)) 64))))+t2))-t3)),(pu (Int.fdiv (IntKind.wrap .u64 (pu (t1+t3))) (HPow.hPow (2:Int) (Min.min (Int.toNat (1:Int)) 64)))),(pu ((pu ((pu (Int.fdiv (IntKind.wrap .u64 (pu (t1+t3))) (HPow.hPow (2:Int) (Min.min (Int.toNat (1:Int)) 64))))+t2))-(1:Int))),b0,bE,cY,cZ,de,ct,cS,dq,dR,b3,b4,b5,())) fun x0=>agi F2 F1 x0)
   (
    aA (L33 (t1,t2,t3,(pu (Int.fdiv (IntKind.wrap .u64 (pu (t1+t3))) (HPow.hPow (2:Int) (Min.min (Int.toNat (1:Int)) 64)))),(pu ((pu (Int.fdiv (IntKind.wrap .u64 (pu (t1+t3))) (HPow.hPow (2:Int) (Min.min (Int.toNat (1:Int)) 64))))+t2)),t1,t2,(pu ((pu ((pu (Int.fdiv (IntKind.wrap .u64 (pu (t1+t3))) (HPow.hPow (2:Int) (Min.min (Int.toNat (1:Int)) 64))))+t2))-(1:Int))),b0,bE,cY,cZ,de,ct,cS,dq,dR,b3,b4,b5,())) fun x0=>agi F2 F1 x0)))
def aqG(c0:mq)(c1:mK)(c2:QI)(M3:Qu)(M9:Qt)(M15:Qq)(M21:Qp)(M33:Qo):mK:=⟨fW (yb c0.F c1.F c2.F M3.L M9.L M15.L M21.L M33.L),pB Tryz.func177 220 (kB c0 (kB c1 (kB c2 k0))) e0 1 (sS (sC M3 (sC M9 (sC M15 (sC M21 (sC M33 l0)))))) fun d=>aud⟩
def re:Nat->mK
 |0=>Uu Tryz.func177 aud aud|k+1=>aqG mM (re k) aeQ (aqB (re k)) (aqA (re k)) (aqv (re k)) (aqu (re k)) (aqt (re k))
def kg(k:Nat):iX:=(re k).F
def GA:mK:=re NN
def Qs:iX:=GA.F
abbrev aeG:ak:=⟨[(0,.hd 0 aH),(1,.I),(2,.func 90 [] [.ptr 1 0])],jq,6⟩
abbrev Qx:List (Ev.Ex×ak):=[(.ret,nU)]
abbrev aeO:=be aeG Qx
abbrev QH:=Kb 139 3 aeG 0 Qx
abbrev Gy:ak:=⟨[(0,.hd 0 aH),(1,.I),(2,.func 90 [] [.ptr 1 0]),(6,.I)],jq,6⟩
abbrev Gt:List (Ev.Ex×ak):=[((.exit 2),nU)]
abbrev aeI:=be Gy Gt
abbrev Qz:=Ld 6 63 (bI [1] (bt Tryz.f139)) Gy Gt
abbrev Gx:ak:=agG
abbrev Gs:List (Ev.Ex×ak):=[((.exit 4),agI)]
abbrev Qy:=be Gx Gs
abbrev GC:=Ld 6 63 (bI [1,0] (bt Tryz.f139)) Gx Gs
abbrev Gz:ak:=agG
abbrev Gu:List (Ev.Ex×ak):=[((.exit 0),agI)]
abbrev aeJ:=be Gz Gu
abbrev QA:=Ld 6 63 (bI [0] (bt Tryz.f139)) Gz Gu
def QD(F2:Qk)(t1 t6 t7 t8:Int)(b0:eq)(bE:Int)(cY:jp)(cZ:bv)(de ct cS:jp)(dq:ce)(dR:bv)(b3 b4 b5:jp):am Gz Gu:=
 br (iE t8 t1)
 (
  aA (F2 (t7,t8,b0,bE,cY,cZ,de,ct,cS,dq,dR,b3,b4,b5,())) fun x0=>
  aul (t1,t6,t8,(pu (t8+t6)),x0))
 (
  aum (t1,t6,t7,b0,bE,cY,cZ,de,ct,cS,dq,dR,b3,b4,b5,()))
def aqL(c2:Ge) :QA:=bJ (u16 (QD c2.F)) (pL (kB c2 k0) e0 1 l0 fun d=>aud)
def aqI:QA:=aqL Ql
def aeM:aeJ:=bj (u16 (QD aeo)) NN
def QB(F1:iX)(t1 t6 t7 t8:Int)(b0:eq)(bE:Int)(cY:jp)(cZ:bv)(de ct cS:jp)(dq:ce)(dR:bv)(b3 b4 b5:jp):am Gx Gs:=
 br (iE t8 t1)
 (
  aA (F1 (t7,(pu (t7+t6)),t8,b0,bE,cY,cZ,de,ct,cS,dq,dR,b3,b4,b5,())) fun x0=>
  aul (t1,t6,t8,(pu (t8+(pu ((2:Int)*t6)))),x0))
 (
  aum (t1,t6,t7,b0,bE,cY,cZ,de,ct,cS,dq,dR,b3,b4,b5,()))
def aqJ(c1:mK) :GC:=bJ (u16 (QB c1.F)) (pL (kB c1 k0) e0 1 l0 fun d=>aud)
def aeK:GC:=aqJ GA
def GB:Qy:=bj (u16 (QB Qs)) NN
def QC(F1:iX)(L9:Qy)(t1 t6:Int)(b0:eq)(bE:Int)(cY:jp)(cZ:bv)(de ct cS:jp)(dq:ce)(dR:bv)(b3 b4 b5:jp):am Gy Gt:=
 br (iL t6 t1)
 (
  aA (L9 (t1,t6,(0:Int),(pu ((2:Int)*t6)),b0,bE,cY,cZ,de,ct,cS,dq,dR,b3,b4,b5,())) fun x0=>
  br (iL (pu (pm x0.2.2.1 x0.2.1)) x0.1)
  (
   aA (F1 (x0.2.2.1,(pu (pm x0.2.2.1 x0.2.1)),x0.1,nk x0)) fun x1=>
   aul (x0.1,(pu (@HMul.hMul (Int) (Int) (Int) _ x0.2.1 (2:Int))),x1))
  (
   aul (x0.1,(pu (@HMul.hMul (Int) (Int) (Int) _ x0.2.1 (2:Int))),nk x0)))
 (
  aum (b0,bE,cY,cZ,de,ct,cS,dq,dR,b3,b4,b5,()))
def aqK(c1:mK)(M9:GC):Qz:=bJ (gA (QC c1.F M9.L)) (pL (kB c1 k0) e0 1 (sC M9 l0) fun d=>aud)
def aqH:Qz:=aqK GA aeK
def aeL:aeI:=bj (gA (QC Qs GB)) NN
def aqQ(F0:mL)(F1:iX)(F2:Qk)(L2:aeJ)(L7:aeI)(L9:Qy)(t1:Int)(b0:eq)(bE:Int)(cY:jp)(cZ:bv)(de ct cS:jp)(dq:ce)(dR:bv)(b3 b4 b5:jp):Option (Out Qx):=
 aA (L2 (t1,(20:Int),(0:Int),(20:Int),b0,bE,cY,cZ,de,ct,cS,dq,dR,b3,b4,b5,())) fun x0=>
 aA (F2 (x0.2.2.1,x0.1,nk x0)) fun x1=>
 aA (L7 (x0.1,x0.2.1,x1)) fun x2=>
 some x2
def aqP(c0:mq)(c1:mK)(c2:Ge)(M2:QA)(M7:Qz)(M9:GC):QH:=⟨iT (aqQ c0.F c1.F c2.F M2.L M7.L M9.L),pB Tryz.func139 63 (kB c0 (kB c1 (kB c2 k0))) e0 1 (sS (sC M2 (sC M7 l0))) fun d=>aud⟩
def aeP:QH:=aqP mM GA Ql aqI aqH aeK
def aqM:aeO:=aeP.F
abbrev aef:ak:=⟨[(0,.hd 0 aH),(1,.func 90 [] [.ptr 1 0])],jq,6⟩
abbrev P6:List (Ev.Ex×ak):=[(.ret,nU)]
abbrev aeg:=be aef P6
abbrev P7:=Kb 89 2 aef 0 P6
def aqi(F0:mL)(F1:aeO)(b0:eq)(bE:Int)(cY:jp)(cZ:bv)(de ct cS:jp)(dq:ce)(dR:bv)(b3 b4 b5:jp):Option (Out P6):=
 aA (F1 ((Int.ofNat b0.length),b0,bE,cY,cZ,de,ct,cS,dq,dR,b3,b4,b5,())) fun x0=>
 some x0
def aqh(c0:mq)(c1:QH) :P7:=⟨bV (aqi c0.F c1.F),pB Tryz.func89 9 (kB c0 (kB c1 k0)) e0 1 (sS l0) fun d=>aud⟩
def aeh:P7:=aqh mM aeP
def aqg:aeg:=aeh.F
abbrev afv:List Sh:=[cJ]
abbrev Ry:List Sh:=[(.sl aH),.bool]
abbrev afz:=TL afv->Option (TL Ry)
abbrev RA:=Kd 40 afv Ry
def arK(F0:aeg)(F1:mL)(F2:G4)(a0:Sh.T cJ):Option (TL Ry):=
 aA (F2 a0) fun x0=>
 (match x0 with
 |.inl x1=>
  aj (Bool.not (iQ x1.1 (0:Int)))<|
  some ([],false,())
 |.inr x1=>
  br (Bool.not (iQ x1.1 (0:Int)))
  (
   some ([],false,()))
  (
   aA (F0 (dE x1,x1.2.1,x1.2.2.1,cu x1,cB x1,cG x1,c9 x1,dj x1,dN x1,ef x1,qe x1)) fun x2=>
   some (x2.1,true,()))
 )
def arJ(c0:P7)(c1:mq)(c2:yj) :RA:=⟨u1 (arK c0.F c1.F c2.F),pD Tryz.func40 23 (kB c0 (kB c1 (kB c2 k0))) e0 1 (sS l0) fun d=>aud⟩
def afA:RA:=arJ aeh mM G5
def afK:afz:=afA.F
abbrev GK:ak:=agJ
abbrev GI:List (Ev.Ex×ak):=[((.exit 0),⟨[(7,.hd 0 bT)],[(0,.arr bT 187)],1⟩)]
abbrev ae6:=be GK GI
abbrev QZ:=Ld 0 51 (bI [0] (bt Tryz.f103)) GK GI
abbrev GJ:ak:=⟨[(4,.fz .I),(6,.fz bT),(7,.hd 0 bT),(8,.I),(9,.I)],[(0,.arr bT 187)],1⟩
abbrev GH:List (Ev.Ex×ak):=[((.exit 2),agJ)]
abbrev QN:=be GJ GH
abbrev QP:=Ld 0 51 (bI [0,0] (bt Tryz.f103)) GJ GH
def GM(t4:jp)(t6:ip)(t8 t9:Int)(b0:ip):am GJ GH:=
 br (iL t9 (Int.ofNat t6.length))
 (
  aj (an t9 t6.length)<|
  aj (an (0:Int) (List.length (gt bT t6 t9).2.2.2.2.1))<|
  aj (an (gt .I (gt bT t6 t9).2.2.2.2.1 (0:Int)) t4.length)<|
  br (iQ (gt .I t4 (gt .I (gt bT t6 t9).2.2.2.2.1 (0:Int))) t8)
  (
   aj (an t9 t6.length)<|
   aj (room 72 (List.length (ap b0 ((gt bT t6 t9)::[]))))<|
   aul (t4,t6,t8,(pu (t9+(1:Int))),(ap b0 ((gt bT t6 t9)::[])),()))
  (
   aul (t4,t6,t8,(pu (t9+(1:Int))),b0,())))
 (
  aum (t4,t6,t8,b0,()))
def aeW  :QP:=bJ (u5 GM) (pL k0 e0 1 l0 fun d=>aud)
def QO:QN:=bj (u5 GM) NN
def GO(L10:QN)(t4:jp)(t6:ip)(t8:Int)(b0:ip):am GK GI:=
 br (iE t8 (Int.ofNat t6.length))
 (
  aA (L10 (t4,t6,t8,(0:Int),b0,())) fun x0=>
  aul (x0.1,x0.2.1,(pu (pm x0.2.2.1 (1:Int))),cu x0,()))
 (
  aum (b0,()))
def aq8(M10:QP):QZ:=bJ (u4 (GO M10.L)) (pL k0 e0 1 (sC M10 l0) fun d=>aud)
def aq7:QZ:=aq8  aeW
def ae7:ae6:=bj (u4 (GO QO)) NN
abbrev ae5:List Sh:=[cJ]
abbrev QY:List Sh:=[(.sl bT),.bool]
abbrev afc:=TL ae5->Option (TL QY)
abbrev Q7:=Kd 103 ae5 QY
def arh(F0:GV)(F1:Q3)(L7:ae6)(L10:QN)(a0:Sh.T cJ):Option (TL QY):=
 aA (F1 (a0,())) fun x0=>
 br (Bool.not x0.2.1)
 (
  some ([],false,()))
 (
  aA (F0 (a0,())) fun x1=>
  aA (L7 (x0.1,x1.1,(1:Int),[],())) fun x2=>
  some (x2.1,true,()))
def arf(c0:yh)(c1:GP)(M7:QZ)(M10:QP):Q7:=⟨u1 (arh c0.F c1.F M7.L M10.L),pD Tryz.func103 51 (kD c0 (kD c1 k0)) e0 1 (sS (sC M7 l0)) fun d=>aud⟩
def afd:Q7:=arf GW Q4 aq7 aeW
def ae8:afc:=afd.F
end Go.Proofs.YtmkbdfidnfmgmaaGreat.V
end
section
namespace Go.Proofs.YtmkbdfidnfmgmaaGreat.Pl
section
variable{α:Type}(key:α->Int)
def fv(L:List α):Prop:=L.Pairwise (fun x y=>key x<=key y)
def fk(k:Int)(L:List α):List α:=L.filter (fun x=>decide (key x=k))
structure dH(S S':List α):Prop where
 pc:fv key S'
 len:S'.length=S.length
 qx:∀k,fk key k S'=fk key k S
variable{key}
theorem mu(k:Int)(A B:List α):fk key k (A++B)=fk key k A++fk key k B:=are A B
theorem aby{k:Int}{L:List α}{x:α}:x∈fk key k L↔x∈L/\key x=k:=by unfold fk;simp
theorem abr{k:Int}{L:List α}(h:∀x∈L,key x≠k):fk key k L=[]:=by unfold fk;rw[atB];intro x hx;simpa using h x hx
theorem afM{S S':List α}(h:∀k,fk key k S'=fk key k S){x:α}(hx:x∈S'):x∈S:=by have:x∈fk key (key x) S':=aby.2 ⟨hx,rfl⟩;rw[h]at this;exact(aby.1 this).1
theorem dH.mem{S S':List α}(h:dH key S S'){x:α}:x∈S'↔x∈S:=⟨afM h.qx,afM (fun k=>(h.qx k).symm)⟩
theorem dH.refl{S:List α}(h:fv key S):dH key S S:=⟨h,rfl,fun _=>rfl⟩
theorem mN{A B:List α}:fv key (A++B)↔fv key A/\fv key B/\∀x∈A,∀y∈B,key x<=key y:=by unfold fv;rw[List.pairwise_append]
theorem RH{x:α}{B:List α}:fv key (x::B)↔(∀y∈B,key x<=key y)/\fv key B:=by unfold fv;rw[asH]
theorem afY{A B:List α}(h:∀x∈A,∀y∈B,key y<key x)(k:Int):fk key k (A++B)=fk key k (B++A):=by
 rw[mu,mu];by_cases q:∃x∈A,key x=k
 .obtain⟨x,hx,hk⟩:=q;have:fk key k B=[]:=abr (fun y hy=>by have:=h x hx y hy;omega);rw[this];simp
 .have:fk key k A=[]:=abr (fun x hx hk=>q ⟨x,hx,hk⟩);rw[this];simp
theorem RC{T0 T1 T2:List α}{x:α}(h:dH key T0 (T1++T2))(h1:∀y∈T1,key y<=key x)(h2:∀y∈T2,key x<key y):dH key (T0++[x]) (T1++x::T2):=by
 obtain⟨s1,s2,s3⟩:=mN.1 h.pc;refine⟨?_,?_,?_⟩
 .refine mN.2 ⟨s1,RH.2 ⟨fun y hy=>Int.le_of_lt (h2 y hy),s2⟩,?_⟩;intro a ha b hb;rcases Fn.1 hb with rfl|hb
  .exact h1 a ha
  .exact s3 a ha b hb
 .have:=h.len;simp only[bF,dG,If]at *
  omega
 .intro k;have e:fk key k (x::T2)=fk key k (T2++[x]):=by have:=afY (key:=key) (A:=T2) (B:=[x]) (fun a ha b hb=>by simp at hb;subst hb;exact h2 a ha) k;rw[this];rfl
  rw[mu,e,mu,<-bM,<-mu,h.qx,<-mu]
theorem amL{A B A' B':List α}(ha:dH key A A')(hb:dH key B B')(h:∀x∈A,∀y∈B,key x<=key y):dH key (A++B) (A'++B'):=by
 refine⟨mN.2 ⟨ha.pc,hb.pc,fun x hx y hy=>h x (ha.mem.1 hx) y (hb.mem.1 hy)⟩,?_,?_⟩
 .have:=ha.len;have:=hb.len;simp only[bF];omega
 .intro k;rw[mu,mu,ha.qx,hb.qx]
theorem dH.ab5{A B C:List α}(hl:B.length=A.length)(h:∀k,fk key k B=fk key k A)(g:dH key B C):dH key A C:=⟨g.pc,g.len.trans hl,fun k=>(g.qx k).trans (h k)⟩
theorem G3{P1 P2 Q1 Q2 R1 R2:List α}(hp:fv key (P1++P2))(hq:fv key (Q1++Q2))(h1:∀x∈P1,∀y∈Q2,key x<=key y)(h2:∀x∈P2,∀y∈Q1,key y<key x)
  (r1:dH key (P1++Q1) R1) (r2:dH key (P2++Q2) R2):dH key ((P1++P2)++(Q1++Q2)) (R1++R2):=by
 obtain⟨p1,p2,p3⟩:=mN.1 hp;obtain⟨q1,q2,q3⟩:=mN.1 hq;refine dH.ab5 (B:=(P1++Q1)++(P2++Q2)) ?_ ?_ (amL r1 r2 ?_)
 .simp only[bF];omega
 .intro k;have e:=afY (key:=key) (A:=P2) (B:=Q1) h2 k;rw[mu,mu]at e;simp only[mu,bM];rw[<-bM (fk key k Q1),<-e,bM]
 .intro x hx y hy;rcases qr.1 hx with hx|hx<;>rcases qr.1 hy with hy|hy
  .exact p3 x hx y hy
  .exact h1 x hx y hy
  .exact Int.le_of_lt (h2 y hy x hx)
  .exact q3 x hx y hy
theorem alB{S:List α}(h:fv key S):∀(n:Nat),(∀x∈S,1<=key x/\key x<=(n:Int))->S=(List.range n).flatMap (fun(i:Nat)=>fk key ((i:Int)+1) S):=by
 intro n
 induction n generalizing S with
 |zero=>intro hb;cases S with|nil=>rfl|cons x S=>have:=hb x aue;omega
 |succ n ih=>
  intro hb;have split:∀{S:List α},fv key S->(∀x∈S,key x<=((n+1:Nat):Int))->S=S.filter (fun x=>decide (key x<=(n:Int)))++fk key ((n:Int)+1) S:=by
   intro S
   induction S with
   |nil=>intro _ _;rfl|cons x S ihS=>
    intro hs hb;obtain⟨a,b⟩:=RH.1 hs;have e:=ihS b (fun y hy=>hb y (by simp[hy]));by_cases q:key x<=(n:Int)
    .unfold fk;rw[List.filter_cons_of_pos (by simpa using q),List.filter_cons_of_neg (by simp;omega)];have e':=OF (List.cons x) e;exact e'
    .have hk:key x=(n:Int)+1:=by have:=hb x aue;omega
     have all:∀y∈S,key y=(n:Int)+1:=fun y hy=>by have:=a y hy;have:=hb y (by simp[hy]);omega
     have f0:S.filter (fun x=>decide (key x<=(n:Int)))=[]:=by rw[atB];intro y hy;have:=all y hy;simp;omega
     have f1:fk key ((n:Int)+1) S=S:=by unfold fk;rw[List.filter_eq_self];intro y hy;simpa using all y hy
     have g0:(x::S).filter (fun x=>decide (key x<=(n:Int)))=[]:=by rw[List.filter_cons_of_neg (by simp;omega),f0]
     have g1:fk key ((n:Int)+1) (x::S)=x::fk key ((n:Int)+1) S:=by unfold fk;rw[List.filter_cons_of_pos (by simpa using hk)]
     rw[g0,g1,f1];rfl
  have e:=split h (fun x hx=>(hb x hx).2);have hs':fv key (S.filter (fun x=>decide (key x<=(n:Int)))):=List.Pairwise.filter _ h;have ih':=ih hs' (fun x hx=>by have:=asv.1 hx;exact⟨(hb x this.1).1,by simpa using this.2⟩);rw[asA,BT,ast];have e2:(List.range n).flatMap (fun(i:Nat)=>fk key ((i:Int)+1) S)=(List.range n).flatMap (fun(i:Nat)=>fk key ((i:Int)+1) (S.filter (fun x=>decide (key x<=(n:Int))))):=by
   have:∀(l:md),(∀i∈l,i<n)->l.flatMap (fun(i:Nat)=>fk key ((i:Int)+1) S)=l.flatMap (fun(i:Nat)=>fk key ((i:Int)+1) (S.filter (fun x=>decide (key x<=(n:Int))))):=by
    intro l
    induction l with
    |nil=>intro _;rfl|cons i l il=>
     intro hi;rw[ww,ww,il (fun j hj=>hi j (by simp[hj]))];congr 1;unfold fk;rw[List.filter_filter];apply List.filter_congr;intro x hx;have:=hi i aue;by_cases q:key x=(i:Int)+1
     .have:key x<=(n:Int):=auc
      simp[q];omega
     .simp[q]
   exact this _ (fun i hi=>act.1 hi)
  rw[e2,<-ih'];exact e
theorem dH.flat{S S':List α}(h:dH key S S')(n:Nat)(hb:∀x∈S,1<=key x/\key x<=(n:Int)):S'=(List.range n).flatMap (fun(i:Nat)=>fk key ((i:Int)+1) S):=by
 have e:=alB h.pc n (fun x hx=>hb x (h.mem.1 hx));rw[e];have:∀(l:md),l.flatMap (fun(i:Nat)=>fk key ((i:Int)+1) S')=l.flatMap (fun(i:Nat)=>fk key ((i:Int)+1) S):=by
  intro l
  induction l with|nil=>rfl|cons i l il=>rw[ww,ww,il,h.qx]
 rw[<-e];exact e.trans (this _)
end
end Go.Proofs.YtmkbdfidnfmgmaaGreat.Pl
end
section
namespace Go.Proofs.YtmkbdfidnfmgmaaGreat.V
open Go Go.RowKit
theorem dD{x:Int}{n:Nat}(e:x=(n:Int))(h:n<=1000000000):pu x=(n:Int):=by rw[e];exact auk
variable{u:Nat}
theorem vV{σ:Sh}{X Z:List σ.T}{p:σ.T}(hu:X.length=u):gt σ (X++p::Z) (u:Int)=p:=by
 refine bz ?_
 grind
variable{α:Type}{q:α}{p:α}
theorem Sd{X Z:List α}(hu:X.length=u):(X++p::Z).set u q=X++q::Z:=by rw[List.set_append_right _ _ auc,hu];simp
variable{v:Nat}
theorem sw2{X M Y:List α}(hu:X.length=u)(hv:X.length+1+M.length=v):((X++p::(M++q::Y)).set u q).set v p=X++q::(M++p::Y):=by
 rw[Sd hu];have e:X++q::(M++q::Y)=(X++q::M)++q::Y:=aue
 rw[e,Sd (by simp;omega)];simp
variable{i:Nat}
theorem G2{L:List α}(h:i<L.length):L.drop i=L[i]::L.drop (i+1):=ass h
variable{R:Type}{z:Option R}{U:Int}{y:Option R}
theorem afP{L X M Y:List cf}{p q:cf}(hL:L=X++p::(M++q::Y))(hu:X.length=u)(hv:X.length+1+M.length=v){V:Int}(eU:U=(u:Int))(eV:V=(v:Int))
  (h:List.set (List.set L (Int.toNat U) (gt aH L V)) (Int.toNat V) (gt aH L U)=X++q::(M++p::Y)->y=z) :
  (aj (an V L.length) <|aj (an U L.length) <|aj (an U L.length) <|aj (an V (List.length (List.set L (Int.toNat U) (gt aH L V)))) <|y)=z:=by
 subst hL;subst eU;subst eV;have hlen:List.length (X++p::(M++q::Y))=X.length+(1+(M.length+(1+Y.length))):=by simp;omega
 have gu:gt aH (X++p::(M++q::Y)) (u:Int)=p:=vV hu;have gv:gt aH (X++p::(M++q::Y)) (v:Int)=q:=by
  have e:X++p::(M++q::Y)=(X++p::M)++q::Y:=aue
  rw[e];exact vV (by simp;omega)
 have i1:an (v:Int) (List.length (X++p::(M++q::Y)))=true:=aP ⟨auc,by rw[hlen];omega⟩;have i2:an (u:Int) (List.length (X++p::(M++q::Y)))=true:=aP ⟨auc,by rw[hlen];omega⟩;have hs:∀z:cf,an (v:Int) (List.length (List.set (X++p::(M++q::Y)) (Int.toNat (u:Int)) z))=true:=fun z=>(OF (an (v:Int)) aig).trans i1;refine aK i1 (aK i2 (aK i2 (aK (hs _) (h ?_))));rw[gu,gv,ST,ST];exact sw2 hu hv
theorem arY(W:kq)(X P M Q Y:List cf)(a b n:Nat)(ha:X.length=a)(hp:P.length=n)(hq:Q.length=n)(hb:X.length+P.length+M.length=b)(hl:b+n<=1000000) :
  aeA ((a:Int),(b:Int),(n:Int),(0:Int),X++(P++(M++(Q++Y))),W)=some (X++(Q++(M++(P++Y))),W):=by
 unfold aeA;delta u16 u4 bV cy;refine cO (fun i:Nat=>((a:Int),(b:Int),(n:Int),(i:Int),X++(Q.take i++(P.drop i++(M++(P.take i++(Q.drop i++Y))))),W)) n rfl ?_ ?_ auh
 .intro i hi
  try dsimp only
  unfold Gr;have hpi:i<P.length:=auc
  have hqi:i<Q.length:=auc
  refine ba (aF (show(i:Int)<(n:Int) by omega)) ?_;refine afP (X:=X++Q.take i) (p:=P[i]) (M:=P.drop (i+1)++(M++P.take i)) (q:=Q[i]) (Y:=Q.drop (i+1)++Y) (u:=a+i) (v:=b+i) ?_ ?_ ?_ ?_ ?_ (fun hset=>?_)
  .rw[G2 hpi,G2 hqi];simp only[bM,ask]
  .simp;omega
  .simp;omega
  .exact dD auc auc
  .exact dD auc auc
  .refine aK (aF rfl) (aK (aF rfl) (aK (aF rfl) ?_));have e:∀(u v:Int) (A B:List cf),u=v->A=B->(aul ((a:Int),(b:Int),(n:Int),u,A,W):am Gk Gd)=aul ((a:Int),(b:Int),(n:Int),v,B,W):=by rintro _ _ _ _ rfl rfl;rfl
   refine e _ _ _ _ (dD (n:=i+1) auc auc) (hset.trans ?_);rw[atb hpi,atb hqi];simp only[bM,ask,PP]
 .try dsimp only
  unfold Gr;refine aN (aJ (show ¬(n:Int)<(n:Int) by omega)) ?_;have e1:P.drop n=[]:=asG auc;have e2:Q.drop n=[]:=asG auc;have e3:P.take n=P:=IT auc;have e4:Q.take n=Q:=IT auc;rw[e1,e2,e3,e4];rfl
variable{B:Int}{A:Int}
theorem RK(W:kq)(X P M Q Y:List cf){N:Int}(a b n:Nat)(eA:A=(a:Int))(eB:B=(b:Int))(eN:N=(n:Int))(ha:X.length=a)(hp:P.length=n)(hq:Q.length=n)(hb:X.length+P.length+M.length=b)(hl:b+n<=1000000){L:List cf}(hL:L=X++(P++(M++(Q++Y)))) :
  aeB (A,B,N,L,W)=some (X++(Q++(M++(P++Y))),W):=by
 subst eA;subst eB;subst eN;subst hL;exact aZ (arY W X P M Q Y a b n ha hp hq hb hl) rfl
theorem alz(W:kq)(m:Nat)(G:List cf)(hG:G.length<=400000){X P Q Y:List cf}(hp:0<P.length)(hq:0<Q.length)(hm:X.length+P.length=m)(hg:X++(Q++(P++Y))=G) :
  ∃o,QE ((m:Int),(P.length:Int),(Q.length:Int),X++(P++(Q++Y)),W)=some o /\
   ∃X P Q Y:List cf,o=((m:Int),(P.length:Int),X++(P++(Q++Y)),W)/\Q.length=P.length/\X.length+P.length=m/\X++(Q++(P++Y))=G:=by
 unfold QE;delta fW u3 bV cy;refine jD (fun d=>∃X P Q Y:List cf,d=((m:Int),(P.length:Int),(Q.length:Int),X++(P++(Q++Y)),W)/\0<P.length/\0<Q.length/\X.length+P.length=m/\X++(Q++(P++Y))=G)
  (fun o=>∃X P Q Y:List cf,o=((m:Int),(P.length:Int),X++(P++(Q++Y)),W)/\Q.length=P.length/\X.length+P.length=m/\X++(Q++(P++Y))=G)
  (fun d=>d.2.1.toNat+d.2.2.1.toNat) ?_ NN _ ⟨X,P,Q,Y,rfl,hp,hq,hm,hg⟩ (bG (by have:=OF List.length hg;simp only[bF]at this;show((P.length:Int)).toNat+((Q.length:Int)).toNat<=_;omega))
 rintro d ⟨X,P,Q,Y,rfl,hp,hq,hm,hg⟩;have hlen:X.length+(Q.length+(P.length+Y.length))<=400000:=by have:=OF List.length hg;simp only[bF]at this;omega
 try dsimp only
 unfold QG;rcases Nat.lt_trichotomy P.length Q.length with h|h|h
 .-- the second one is longer
  right;obtain⟨Q1,Q2,hQ,h1,h2⟩:∃Q1 Q2:List cf,Q=Q1++Q2/\Q1.length=Q.length-P.length/\Q2.length=P.length:=⟨Q.take (Q.length-P.length),Q.drop (Q.length-P.length),(GT _ _).symm,aue,by simp;omega⟩;have es:=RK W X P Q1 Q2 Y (A:=pu ((m:Int)-(P.length:Int))) (B:=pu ((pu ((m:Int)+(Q.length:Int)))-(P.length:Int))) (N:=(P.length:Int)) X.length (m+Q.length-P.length) P.length
   (dD auc auc) (by rw[dD (x:=(m:Int)+(Q.length:Int)) (n:=m+Q.length) auc auc];exact dD auc auc) rfl rfl rfl h2 auc auc (L:=X++(P++(Q++Y))) (by rw[hQ];simp only[bM])
  refine⟨((m:Int),(Q2.length:Int),(Q1.length:Int),X++(Q2++(Q1++(P++Y))),W),?_,⟨X,Q2,Q1,P++Y,rfl,auc,auc,auc,?_⟩,?_⟩
  .refine ba (sZ (aJ (show ¬(P.length:Int)=(Q.length:Int) by omega))) (aN (aJ (show ¬(Q.length:Int)<(P.length:Int) by omega)) (aZ es ?_));have e:∀(u v u' v':Int) (A:List cf),u=u'->v=v'->(aul ((m:Int),u,v,A,W):am ya xY)=aul ((m:Int),u',v',A,W):=by rintro _ _ _ _ _ rfl rfl;rfl
   exact e _ _ _ _ _ auc (dD auc auc)
  .rw[<-hg,hQ];simp only[bM]
  .show((Q2.length:Int)).toNat+((Q1.length:Int)).toNat<((P.length:Int)).toNat+((Q.length:Int)).toNat;omega
 .left;refine⟨((m:Int),(P.length:Int),X++(P++(Q++Y)),W),aN (qU (aF (show(P.length:Int)=(Q.length:Int) by omega))) rfl,X,P,Q,Y,rfl,h.symm,hm,hg⟩
 .-- the first one is longer
  right;obtain⟨P1,P2,hP,h1,h2⟩:∃P1 P2:List cf,P=P1++P2/\P1.length=Q.length/\P2.length=P.length-Q.length:=⟨P.take Q.length,P.drop Q.length,(GT _ _).symm,by simp;omega,aue⟩;have es:=RK W X P1 P2 Q Y (A:=pu ((m:Int)-(P.length:Int))) (B:=(m:Int)) (N:=(Q.length:Int)) X.length m Q.length
   (dD auc auc) rfl rfl rfl h1 rfl auc auc (L:=X++(P++(Q++Y))) (by rw[hP];simp only[bM])
  refine⟨((m:Int),(P2.length:Int),(P1.length:Int),(X++Q)++(P2++(P1++Y)),W),?_,⟨X++Q,P2,P1,Y,rfl,auc,auc,by simp only[bF];omega,?_⟩,?_⟩
  .refine ba (sZ (aJ (show ¬(P.length:Int)=(Q.length:Int) by omega))) (ba (aF (show(Q.length:Int)<(P.length:Int) by omega)) (aZ es ?_));have e:∀(u v u' v':Int) (A A':List cf),u=u'->v=v'->A=A'->(aul ((m:Int),u,v,A,W):am ya xY)=aul ((m:Int),u',v',A',W):=by rintro _ _ _ _ _ _ rfl rfl rfl;rfl
   exact e _ _ _ _ _ _ (dD auc auc) auc (by simp only[bM])
  .rw[<-hg,hP];simp only[bM]
  .show((P2.length:Int)).toNat+((P1.length:Int)).toNat<((P.length:Int)).toNat+((Q.length:Int)).toNat;omega
theorem anS(W:kq){X P Q Y L:List cf}{M:Int}(hp:0<P.length)(hq:0<Q.length)(eA:A=(X.length:Int))(eM:M=((X.length+P.length:Nat):Int))(eB:B=((X.length+P.length+Q.length:Nat):Int))(hl:L.length<=400000)(hL:L=X++(P++(Q++Y))) :
  GD (A,M,B,L,W)=some (X++(Q++(P++Y)),W):=by
 subst eA;subst eM;subst eB;subst hL;have hlen:X.length+(P.length+(Q.length+Y.length))<=400000:=by grind
 obtain⟨o,e1,X',P',Q',Y',rfl,h1,h2,h3⟩:=alz W (X.length+P.length) (X++(Q++(P++Y))) (by simp only[bF];omega) hp hq rfl rfl (Y:=Y);have hlen':X'.length+(P'.length+(Q'.length+Y'.length))<=400000:=by
  have:=OF List.length h3
  grind
 have es:=RK W X' P' [] Q' Y' (A:=pu (((X.length+P.length:Nat):Int)-(P'.length:Int))) (B:=((X.length+P.length:Nat):Int)) (N:=(P'.length:Int)) X'.length (X.length+P.length) P'.length
  (dD auc auc) rfl rfl rfl rfl h1 (by simp only[If];omega) auc (L:=X'++(P'++(Q'++Y'))) rfl
 have e0:QE (((X.length+P.length:Nat):Int),pu (((X.length+P.length:Nat):Int)-(X.length:Int)),pu (((X.length+P.length+Q.length:Nat):Int)-((X.length+P.length:Nat):Int)),X++(P++(Q++Y)),W)=some (((X.length+P.length:Nat):Int),(P'.length:Int),X'++(P'++(Q'++Y')),W):=by rw[dD (x:=((X.length+P.length:Nat):Int)-(X.length:Int)) (n:=P.length) auc auc,dD (x:=((X.length+P.length+Q.length:Nat):Int)-((X.length+P.length:Nat):Int)) (n:=Q.length) auc auc];exact e1
 refine aZ e0 (aZ es ?_);have e:∀(A A':List cf),A=A'->(some (A,W):Option (Out xZ))=some (A',W):=by rintro _ _ rfl;rfl
 grind
open Pl (dH fv RC)
def ns(W:kq)(L:List cf):TL [.I,.sl .I,.sl ae,.sl .I,.sl .I,.sl .I,.sl ai,.sl ae,.sl .I,.sl aH,.sl (.int .u8),.sl .I]:=(W.1,W.2.1,W.2.2.1,W.2.2.2.1,W.2.2.2.2.1,W.2.2.2.2.2.1,W.2.2.2.2.2.2.1,W.2.2.2.2.2.2.2.1,W.2.2.2.2.2.2.2.2.1,L,W.2.2.2.2.2.2.2.2.2.1,W.2.2.2.2.2.2.2.2.2.2.1,())
structure mc(W:kq)(key:cf->Int)(V:cf->Prop):Prop where
 cmp:∀(L:List cf) (x y:cf),V x->V y->∃c:Int,kR (x.1,x.2.1,x.2.2.1,y.1,y.2.1,y.2.2.1,ns W L)=some (c,ns W L)/\(c<0↔key x<key y)
theorem afQ{L X Y:List cf}{p q:cf}(hL:L=X++q::(p::Y))(hv:X.length=v)(hu:v+1=u){V:Int}(eU:U=(u:Int))(eV:V=(v:Int))
  (h:List.set (List.set L (Int.toNat U) (gt aH L V)) (Int.toNat V) (gt aH L U)=X++p::(q::Y)->y=z) :
  (aj (an V L.length) <|aj (an U L.length) <|aj (an U L.length) <|aj (an V (List.length (List.set L (Int.toNat U) (gt aH L V)))) <|y)=z:=by
 subst hL;subst eU;subst eV;subst hu;have hlen:List.length (X++q::(p::Y))=X.length+(1+(1+Y.length)):=by simp;omega
 have gv:gt aH (X++q::(p::Y)) (v:Int)=q:=vV hv;have e:X++q::(p::Y)=(X++[q])++p::Y:=aue
 have gu:gt aH (X++q::(p::Y)) ((v+1:Nat):Int)=p:=by rw[e];exact vV (by simp;omega)
 have i1:an (v:Int) (List.length (X++q::(p::Y)))=true:=aP ⟨auc,by rw[hlen];omega⟩;have i2:an ((v+1:Nat):Int) (List.length (X++q::(p::Y)))=true:=aP ⟨auc,by rw[hlen];omega⟩;have hs:∀z:cf,an (v:Int) (List.length (List.set (X++q::(p::Y)) (Int.toNat ((v+1:Nat):Int)) z))=true:=fun z=>(OF (an (v:Int)) aig).trans i1;refine aK i1 (aK i2 (aK i2 (aK (hs _) (h ?_))));rw[gu,gv,ST,ST];have e2:(X++q::(p::Y)).set (v+1) q=X++q::(q::Y):=by grind
 exact(OF (fun l:List cf=>l.set v p) e2).trans (Sd hv)
section
variable{W:kq}{key:cf->Int}{V:cf->Prop}
theorem akY(C:mc W key V)(X T T0 Y:List cf)(x:cf)(A B I:Int)(i:Nat)(hA:A=(X.length:Int))(hi:X.length+T.length=i)(hl:X.length+(T.length+Y.length)<=400000)(hT:dH key T0 T)(hV:∀y∈T,V y)(hx:V x) :
  ∃o,Qf (A,B,I,(i:Int),X++(T++(x::Y)),W)=some o/\∃S,o=(A,B,I,X++(S++Y),W)/\dH key (T0++[x]) S:=by
 unfold Qf;delta u16 u4 bV cy;refine jD (fun d=>∃T1 T2:List cf,d=(A,B,I,((X.length+T1.length:Nat):Int),X++(T1++(x::(T2++Y))),W)/\T1++T2=T/\∀y∈T2,key x<key y)
  (fun o=>∃S,o=(A,B,I,X++(S++Y),W)/\dH key (T0++[x]) S) (fun d=>d.2.2.2.1.toNat) ?_ NN _ ⟨T,[],by subst hi;rfl,aue,aue⟩ (bG (by show((i:Int)).toNat<=_;omega))
 rintro d ⟨T1,T2,rfl,hTT,h2⟩;have hlT:T1.length+T2.length=T.length:=by rw[<-hTT,bF]
 try dsimp only
 unfold Qh;rcases List.eq_nil_or_concat T1 with rfl|⟨T1',q,rfl⟩
 .left;refine⟨_,aN (aJ (by rw[hA];simp)) rfl,x::T2,rfl,?_⟩;have:=RC (T1:=[]) (T2:=T2) (x:=x) (T0:=T0) (key:=key) (by rw[hTT];exact hT) aue h2;exact this
 .have hj:(X.length+(T1'.concat q).length:Nat)=X.length+T1'.length+1:=by simp;omega
  have hq:V q:=hV q (by rw[<-hTT];simp);have eL:X++(T1'.concat q++(x::(T2++Y)))=(X++T1')++q::(x::(T2++Y)):=aue
  obtain⟨c,ec,hc⟩:=C.cmp (X++(T1'.concat q++(x::(T2++Y)))) x q hx hq;rw[hj];have w1:pu (((X.length+T1'.length+1:Nat):Int)-1)=((X.length+T1'.length:Nat):Int):=dD auc (by simp only[List.length_concat]at hlT;omega);have gx:gt aH (X++(T1'.concat q++(x::(T2++Y)))) ((X.length+T1'.length+1:Nat):Int)=x:=by
   have e:X++(T1'.concat q++(x::(T2++Y)))=(X++T1'++[q])++x::(T2++Y):=aue
   rw[e];exact vV (by simp;omega)
  have gq:gt aH (X++(T1'.concat q++(x::(T2++Y)))) (pu (((X.length+T1'.length+1:Nat):Int)-1))=q:=by rw[w1,eL];exact vV aue
  have hlen:List.length (X++(T1'.concat q++(x::(T2++Y))))=X.length+T1'.length+2+(T2.length+Y.length):=by simp;omega
  have i1:an ((X.length+T1'.length+1:Nat):Int) (List.length (X++(T1'.concat q++(x::(T2++Y)))))=true:=aP ⟨auc,by rw[hlen];omega⟩;have i2:an (pu (((X.length+T1'.length+1:Nat):Int)-1)) (List.length (X++(T1'.concat q++(x::(T2++Y)))))=true:=by rw[w1];exact aP ⟨auc,by rw[hlen];omega⟩
  have ec':kR ((gt aH (X++(T1'.concat q++(x::(T2++Y)))) ((X.length+T1'.length+1:Nat):Int)).1,(gt aH (X++(T1'.concat q++(x::(T2++Y)))) ((X.length+T1'.length+1:Nat):Int)).2.1,(gt aH (X++(T1'.concat q++(x::(T2++Y)))) ((X.length+T1'.length+1:Nat):Int)).2.2.1,
    (gt aH (X++(T1'.concat q++(x::(T2++Y)))) (pu (((X.length+T1'.length+1:Nat):Int)-1))).1,(gt aH (X++(T1'.concat q++(x::(T2++Y)))) (pu (((X.length+T1'.length+1:Nat):Int)-1))).2.1,(gt aH (X++(T1'.concat q++(x::(T2++Y)))) (pu (((X.length+T1'.length+1:Nat):Int)-1))).2.2.1,ns W (X++(T1'.concat q++(x::(T2++Y)))))
    = some (c,ns W (X++(T1'.concat q++(x::(T2++Y))))):=by rw[gx,gq];exact ec
  have hA':A<((X.length+T1'.length+1:Nat):Int):=by rw[hA];omega
  by_cases hk:key x<key q
  .right;refine⟨(A,B,I,((X.length+T1'.length:Nat):Int),X++(T1'++(x::(q::T2++Y))),W),?_,⟨T1',q::T2,rfl,by rw[<-hTT];simp,?_⟩,?_⟩
   .refine ba (aF hA') (aK i1 (aK i2 (aZ ec' (ba (show bK true (iL c 0) false=true from aF (hc.2 hk)) ?_))));refine afQ (X:=X++T1') (q:=q) (p:=x) (Y:=T2++Y) (v:=X.length+T1'.length) (u:=X.length+T1'.length+1) eL aue rfl rfl w1 (fun hset=>?_);refine aK (aF rfl) (aK (aF rfl) ?_);have e:∀(u u':Int) (L L':List cf),u=u'->L=L'->(aul (A,B,I,u,L,W):am xX xW)=aul (A,B,I,u',L',W):=by rintro _ _ _ _ rfl rfl;rfl
    exact e _ _ _ _ w1 (hset.trans aue)
   .intro y hy;rcases Fn.1 hy with rfl|hy
    .exact hk
    .exact h2 y hy
   .show(((X.length+T1'.length:Nat):Int)).toNat<(((X.length+T1'.length+1:Nat):Int)).toNat;omega
  .left;refine⟨(A,B,I,X++((T1'.concat q++x::T2)++Y),W),?_,_,rfl,?_⟩
   .refine ba (aF hA') (aK i1 (aK i2 (aZ ec' (aN (show bK true (iL c 0) false=false from aJ (fun q=>hk (hc.1 q))) ?_))));have e:∀(L L':List cf),L=L'->(aum (A,B,I,L,W):am xX xW)=aum (A,B,I,L',W):=by rintro _ _ rfl;rfl
    exact e _ _ (show X++(T1'.concat q++(x::(T2++Y)))=_ from by simp)
   .refine RC (by rw[hTT];exact hT) ?_ h2;intro y hy;have hs:fv key (T1'.concat q):=(Pl.mN.1 (by rw[hTT];exact hT.pc:fv key (T1'.concat q++T2))).1;rw[List.concat_eq_append]at hy hs;obtain⟨_,_,h3⟩:=Pl.mN.1 hs;rcases qr.1 hy with hy|hy
    .have:=h3 y hy q aue;omega
    .simp at hy;subst hy;omega
theorem abt(C:mc W key V){X S Y L:List cf}(eA:A=(X.length:Int))(eB:B=((X.length+S.length:Nat):Int))(hL:L=X++(S++Y))(hl:L.length<=400000)(hV:∀y∈S,V y) :
  ∃S',aeo (A,B,L,W)=some (X++(S'++Y),W)/\dH key S S':=by
 subst eA;subst eB;subst hL;have hlen:X.length+(S.length+Y.length)<=400000:=by simpa only[bF]using hl
 have w0:pu ((X.length:Int)+1)=((X.length+1:Nat):Int):=dD auc auc;cases S with
 |nil=>
  refine⟨[],?_,dH.refl (List.Pairwise.nil)⟩;have e1:F8 ((X.length:Int),((X.length+([]:List cf).length:Nat):Int),pu ((X.length:Int)+1),X++([]++Y),W)=some (X++([]++Y),W):=by
   unfold F8;delta fW u3 bV cy;refine cO (fun _=>_) 0 rfl (fun i hi=>absurd hi (asn i)) ?_ auh
   try dsimp only
   unfold Ga;exact aN (aJ (by rw[w0];simp only[If];omega)) rfl
  exact aZ e1 rfl
 |cons s S=>
  have e1:∃o,F8 ((X.length:Int),((X.length+(s::S).length:Nat):Int),pu ((X.length:Int)+1),X++(s::S++Y),W)=some o/\∃S',o=(X++(S'++Y),W)/\dH key (s::S) S':=by
   unfold F8;delta fW u3 bV cy;refine jD (fun d=>∃T0 T R:List cf,d=((X.length:Int),((X.length+(s::S).length:Nat):Int),((X.length+T.length:Nat):Int),X++(T++(R++Y)),W)/\T0++R=s::S/\dH key T0 T)
    (fun o=>∃S',o=(X++(S'++Y),W)/\dH key (s::S) S') (fun d=>(X.length+(s::S).length)-d.2.2.1.toNat) ?_ NN _ ⟨[s],[s],S,by rw[w0];rfl,rfl,dH.refl (by unfold fv;simp)⟩ (bG (by
     have:List.length (s::S)<=400000:=auc
     omega))
   rintro d ⟨T0,T,R,rfl,hTR,hT⟩;have hlT:=hT.len;have hlR:T0.length+R.length=(s::S).length:=by rw[<-hTR,bF]
   try dsimp only
   unfold Ga;cases R with
   |nil=>left;refine⟨_,aN (aJ (by simp only[If]at hlR;omega)) rfl,T,rfl,?_⟩;rw[di]at hTR;rw[<-hTR];exact hT|cons r R=>
    right;simp only[dG]at hlR;have hVT:∀y∈T,V y:=fun y hy=>hV y (by rw[<-hTR];simp[hT.mem.1 hy]);obtain⟨o,e4,S',rfl,hS'⟩:=akY C X T T0 (R++Y) r (X.length:Int) ((X.length+(s::S).length:Nat):Int) ((X.length+T.length:Nat):Int) (X.length+T.length) rfl rfl (by simp only[bF,dG]at *;omega) hT hVT (hV r (by rw[<-hTR];simp));have hl':=hS'.len;simp only[bF,dG,If]at hl';refine⟨((X.length:Int),((X.length+(s::S).length:Nat):Int),((X.length+S'.length:Nat):Int),X++(S'++(R++Y)),W),?_,⟨T0++[r],S',R,rfl,by rw[<-hTR];simp,hS'⟩,?_⟩
    .refine ba (aF (by simp only[dG]at *;omega)) (aZ e4 ?_);have e:∀(u u':Int),u=u'->(aul ((X.length:Int),((X.length+(s::S).length:Nat):Int),u,X++(S'++(R++Y)),W):am FZ FY)=aul ((X.length:Int),((X.length+(s::S).length:Nat):Int),u',X++(S'++(R++Y)),W):=by rintro _ _ rfl;rfl
     exact e _ _ (show pu (((X.length+T.length:Nat):Int)+1)=_ from dD auc (by simp only[bF,dG]at *;omega))
    .show(X.length+(s::S).length)-(((X.length+S'.length:Nat):Int)).toNat<(X.length+(s::S).length)-(((X.length+T.length:Nat):Int)).toNat;simp only[dG]at *
     omega
  obtain⟨o,e1,S',rfl,hS⟩:=e1;exact⟨S',aZ e1 rfl,hS⟩
end
variable{S:List cf}
open Pl (dH fv G3)
abbrev hf(i j:Int):Int:=pu (Int.fdiv (IntKind.wrap .u64 (pu (i+j))) (HPow.hPow (2:Int) (Min.min (Int.toNat (1:Int)) 64)))
variable{j:Nat}
theorem G8(h:i+j<=1000000):hf (i:Int) (j:Int)=(((i+j) / 2:Nat):Int):=by
 unfold hf;rw[dD (x:=(i:Int)+(j:Int)) (n:=i+j) auc auc];have e1:IntKind.wrap .u64 ((i+j:Nat):Int)=((i+j:Nat):Int):=by unfold IntKind.wrap;simp[IntKind.bits,IntKind.signed];omega
 rw[e1];have e2:(HPow.hPow (2:Int) (Min.min (Int.toNat (1:Int)) 64):Int)=2:=rfl;rw[e2,Int.fdiv_eq_ediv_of_nonneg _ auf];exact dD auc auc
variable{lo:Nat}{hi:Nat}
theorem RG{D O:Type}{B:D->Option (D⊕O)}(st:Nat->Nat->D)(fin:Nat->O)(pr:Nat->Prop)(hlh:lo<=hi)(hb:hi<=1000000)
  (hm:∀c d,lo<=c->c<=d->d<hi->pr d->pr c)
  (hs1:∀i j,lo<=i->i<j->j<=hi->pr ((i+j) / 2)->B (st i j)=aul (st ((i+j) / 2+1) j))
  (hs2:∀i j,lo<=i->i<j->j<=hi->¬pr ((i+j) / 2)->B (st i j)=aul (st i ((i+j) / 2)))
  (he:∀i,lo<=i->i<=hi->B (st i i)=aum (fin i)) :
  ∃s,lo<=s/\s<=hi/\bj B NN (st lo hi)=some (fin s)/\(∀c,lo<=c->c<s->pr c)/\∀c,s<=c->c<hi->¬pr c:=by
 have key:∀k i j,lo<=i->i<=j->j<=hi->j-i=k->(∀c,lo<=c->c<i->pr c)->(∀c,j<=c->c<hi->¬pr c)->∀N,k<N ->
   ∃s,i<=s/\s<=j/\bj B N (st i j)=some (fin s)/\(∀c,lo<=c->c<s->pr c)/\∀c,s<=c->c<hi->¬pr c:=by
  intro k
  induction k using Nat.strongRecOn with
  |_ k ih=>
   intro i j h1 h2 h3 hk ha hb N hN;obtain⟨M,rfl⟩:∃M,N=M+1:=⟨N-1,auc⟩;rcases adc i j with q|q
   .rcases Classical.em (pr ((i+j) / 2))with hp|hp
    .obtain⟨s,g1,g2,g3,g4⟩:=ih (j-((i+j) / 2+1)) auc ((i+j) / 2+1) j auc auc h3 rfl (fun c c1 c2=>hm c ((i+j) / 2) c1 auc auc hp) hb M auc;exact⟨s,auc,g2,by simp only[bj,hs1 i j h1 q h3 hp];exact g3,g4⟩
    .obtain⟨s,g1,g2,g3,g4⟩:=ih ((i+j) / 2-i) auc i ((i+j) / 2) h1 auc auc rfl ha (fun c c1 c2 hc=>hp (hm ((i+j) / 2) c auc c1 c2 hc)) M auc;exact⟨s,g1,auc,by simp only[bj,hs2 i j h1 q h3 hp];exact g3,g4⟩
   .have:i=j:=auc
    subst this;exact⟨i,ro _,ro _,by simp only[bj,he i h1 h3],ha,hb⟩
 exact key (hi-lo) lo hi (ro _) hlh (ro _) rfl (fun c c1 c2=>auc) (fun c c1 c2=>auc) NN auh
abbrev Si:=Sf GD
def uL(W:kq)(key:cf->Int)(V:cf->Prop)(F:iX)(k:Nat):Prop:=
 ∀(X P Q Y L:List cf) (A M B:Int),0<P.length->0<Q.length->P.length+Q.length<=k->A=(X.length:Int)->M=((X.length+P.length:Nat):Int)->B=((X.length+P.length+Q.length:Nat):Int)->L=X++(P++(Q++Y))->L.length<=400000 ->
  fv key P->fv key Q->(∀x∈P,V x)->(∀x∈Q,V x)->∃R,F (A,M,B,L,W)=some (X++(R++Y),W)/\dH key (P++Q) R
section
variable{W:kq}{key:cf->Int}{V:cf->Prop}
theorem amY{F1:iX}{k:Nat}(ih:uL W key V F1 k){X P Q Y L:List cf}{b mid e:Int}(em:mid=(X.length:Int))(ee:e=((X.length+P.length:Nat):Int))(eb:b=((X.length+P.length+Q.length:Nat):Int))(hL:L=X++(P++(Q++Y)))(hl:L.length<=400000)
  (hk:P.length+Q.length<=k) (hp:fv key P) (hq:fv key Q) (hP:∀x∈P,V x) (hQ:∀x∈Q,V x):∃R,vj F1 b mid e (L,W)=some (X++(R++Y),W)/\dH key (P++Q) R:=by
 unfold vj;rcases Or P.length with h1|h1
 .have:P=[]:=AC h1;subst this;refine⟨Q,aN aui ?_,dH.refl hq⟩;rw[hL];rfl
 .rcases Or Q.length with h2|h2
  .have:Q=[]:=AC h2;subst this;refine⟨P,ba (aF (by rw[em,ee];omega)) (aN (show bK true (iL e b) false=false from aui) ?_),by rw[di];exact dH.refl hp⟩;rw[hL];rfl
  .obtain⟨R,e1,e2⟩:=ih X P Q Y L mid e b h1 h2 hk em ee eb hL hl hp hq hP hQ;exact⟨R,ba auj (ba (show bK true (iL e b) false=true from auj) (aZ e1 rfl)),e2⟩
theorem amX{F1:iX}{k:Nat}(ih:uL W key V F1 k){X P1 P2 Q1 Q2 Y L:List cf}{a m b mid s e:Int}(ea:a=(X.length:Int))(es:s=((X.length+P1.length:Nat):Int))(emm:m=((X.length+P1.length+P2.length:Nat):Int))(em:mid=((X.length+P1.length+Q1.length:Nat):Int))
  (ee:e=((X.length+P1.length+Q1.length+P2.length:Nat):Int)) (eb:b=((X.length+P1.length+P2.length+Q1.length+Q2.length:Nat):Int)) (hL:L=X++(P1++(P2++(Q1++(Q2++Y))))) (hl:L.length<=400000)
  (hk1:P1.length+Q1.length<=k) (hk2:P2.length+Q2.length<=k) (hp:fv key (P1++P2)) (hq:fv key (Q1++Q2)) (hP:∀x∈P1++P2,V x) (hQ:∀x∈Q1++Q2,V x)
  (h1:∀x∈P1,∀y∈Q2,key x<=key y) (h2:∀x∈P2,∀y∈Q1,key y<key x):∃R,Si F1 a m b mid s e (L,W)=some (X++(R++Y),W)/\dH key ((P1++P2)++(Q1++Q2)) R:=by
 have hlen:X.length+(P1.length+(P2.length+(Q1.length+(Q2.length+Y.length))))<=400000:=by rw[hL]at hl;simpa only[bF]using hl
 obtain⟨p1,p2,_⟩:=Pl.mN.1 hp;obtain⟨q1,q2,_⟩:=Pl.mN.1 hq;have hU:∃R,yC F1 a b mid s e (X++(P1++(Q1++(P2++(Q2++Y)))),W)=some (X++(R++Y),W)/\dH key ((P1++P2)++(Q1++Q2)) R:=by
  have hV:∀R1:List cf,dH key (P1++Q1) R1->∃R,vj F1 b mid e (X++(R1++(P2++(Q2++Y))),W)=some (X++(R++Y),W)/\dH key ((P1++P2)++(Q1++Q2)) R:=by
   intro R1 hR1;have hl1:=hR1.len;simp only[bF]at hl1;obtain⟨R2,e1,e2⟩:=amY ih (X:=X++R1) (P:=P2) (Q:=Q2) (Y:=Y) (L:=X++(R1++(P2++(Q2++Y)))) (b:=b) (mid:=mid) (e:=e) (by rw[em];simp only[bF];omega) (by rw[ee];simp only[bF];omega) (by rw[eb];simp only[bF];omega)
    (by simp only[bM]) (by simp only[bF];omega) hk2 p2 q2 (fun x hx=>hP x (by simp[hx])) (fun x hx=>hQ x (by simp[hx]))
   refine⟨R1++R2,e1.trans (OF (fun l:List cf=>(some (l,W):th)) ?_),G3 hp hq h1 h2 hR1 e2⟩;simp only[bM]
  unfold yC;rcases Or P1.length with g1|g1
  .have:P1=[]:=AC g1;subst this;obtain⟨R,e1,e2⟩:=hV Q1 (dH.refl q1);exact⟨R,aN (aJ (by rw[ea,es];simp only[If];omega)) e1,e2⟩
  .rcases Or Q1.length with g2|g2
   .have:Q1=[]:=AC g2;subst this;obtain⟨R,e1,e2⟩:=hV P1 (by rw[di];exact dH.refl p1);exact⟨R,ba (aF (by rw[ea,es];omega)) (aN (show bK true (iL s mid) false=false from aJ (by rw[es,em];simp only[If];omega)) e1),e2⟩
   .obtain⟨R1,e0,hR1⟩:=ih X P1 Q1 (P2++(Q2++Y)) (X++(P1++(Q1++(P2++(Q2++Y))))) a s mid g1 g2 hk1 ea es (by rw[em]) rfl (by simp only[bF];omega) p1 q1 (fun x hx=>hP x (by simp[hx])) (fun x hx=>hQ x (by simp[hx]));obtain⟨R,e1,e2⟩:=hV R1 hR1;exact⟨R,ba (aF (by rw[ea,es];omega)) (ba (show bK true (iL s mid) false=true from aF (by rw[es,em];omega)) (aZ e0 e1)),e2⟩
 obtain⟨R,e1,e2⟩:=hU;refine⟨R,?_,e2⟩;unfold Si Sf;subst hL;rcases Or P2.length with g1|g1
 .have:P2=[]:=AC g1;subst this;exact aN (aJ (by rw[es,emm];simp only[If];omega)) e1
 .rcases Or Q1.length with g2|g2
  .have:Q1=[]:=AC g2;subst this;exact ba (aF (by rw[es,emm];omega)) (aN (show bK true (iL m e) false=false from aJ (by rw[ee,emm];simp only[If];omega)) e1)
  .have er:=anS W (X:=X++P1) (P:=P2) (Q:=Q1) (Y:=Q2++Y) (L:=X++(P1++(P2++(Q1++(Q2++Y))))) (A:=s) (M:=m) (B:=e) g1 g2 (by rw[es];simp only[bF]) (by rw[emm];simp only[bF]) (by rw[ee];simp only[bF];omega) hl (by simp only[bM]);have er':GD (s,m,e,X++(P1++(P2++(Q1++(Q2++Y)))),W)=some (X++(P1++(Q1++(P2++(Q2++Y)))),W):=er.trans (OF (fun l:List cf=>(some (l,W):Option (Out xZ))) (by simp only[bM]));exact ba (aF (by rw[es,emm];omega)) (ba (show bK true (iL m e) false=true from aF (by rw[ee,emm];omega)) (aZ er' e1))
end
variable{k:Nat}{P1:List cf}{P2:List cf}{Q1:List cf}
theorem rj{key:cf->Int}{L:List cf}(h:fv key L)(hij:i<=j)(hj:j<L.length):key L[i]<=key L[j]:=by
 rcases adc i j with q|q
 .exact(asN.1 h) i j auc hj q
 grind
section
variable{X P Q Y L:List cf}
theorem Ha(hL:L=X++(P++(Q++Y))){t c:Nat}(ht:t<P.length)(hc:c=X.length+t):gt aH L (c:Int)=P[t]:=by
 subst hL;subst hc;refine bz ?_
 grind
theorem Hb(hL:L=X++(P++(Q++Y))){t c:Nat}(ht:t<Q.length)(hc:c=X.length+P.length+t):gt aH L (c:Int)=Q[t]:=by
 subst hL;subst hc;refine bz ?_
 grind
theorem Fv(hL:L=X++(P++(Q++Y))):L.length=X.length+P.length+Q.length+Y.length:=by grind
variable{W:kq}{key:cf->Int}{V:cf->Prop}
theorem an3(C:mc W key V)(F:iX){x:cf}(hL:L=X++([x]++(Q++Y)))(hl:L.length<=400000)(hq:fv key Q)(hx:V x)(hQ:∀y∈Q,V y) :
  ∃k,k<=Q.length/\aeF F ((X.length:Int),((X.length+1:Nat):Int),((X.length+1+Q.length:Nat):Int),L,W)=some ((X.length:Int),((X.length+1+k:Nat):Int),L,W)/\(∀y∈Q.take k,key y<key x)/\∀y∈Q.drop k,key x<=key y:=by
 have hlen:=Fv hL;simp only[dG,If]at hlen;have gQ:∀c,(h0:X.length+1<=c)->(h:c<X.length+1+Q.length)->gt aH L (c:Int)=Q[c-X.length-1]' auc:=fun c h1 h2=>Hb hL (t:=c-X.length-1) auc (by simp only[dG,If];omega);have gx:gt aH L (X.length:Int)=x:=Ha hL (t:=0) aue rfl;have step:∀i j:Nat,X.length+1<=i->i<j->j<=X.length+1+Q.length->∃c:Int,(c<0↔key (gt aH L (((i+j) / 2:Nat):Int))<key x) /\
   uW kR (X.length:Int) (i:Int) (j:Int) L W.1 W.2.1 W.2.2.1 W.2.2.2.1 W.2.2.2.2.1 W.2.2.2.2.2.1 W.2.2.2.2.2.2.1 W.2.2.2.2.2.2.2.1 W.2.2.2.2.2.2.2.2.1 W.2.2.2.2.2.2.2.2.2.1 W.2.2.2.2.2.2.2.2.2.2.1 =
    br (iL c 0) (aul ((X.length:Int),(((i+j) / 2+1:Nat):Int),(j:Int),L,W)) (aul ((X.length:Int),(i:Int),(((i+j) / 2:Nat):Int),L,W)):=by
  intro i j h1 h2 h3;have hw:hf (i:Int) (j:Int)=(((i+j) / 2:Nat):Int):=G8 auc;have gh:=gQ ((i+j) / 2) auc auc;obtain⟨c,e1,e2⟩:=C.cmp L (gt aH L (((i+j) / 2:Nat):Int)) (gt aH L (X.length:Int)) (by rw[gh];exact hQ _ (ut _)) (by rw[gx];exact hx);refine⟨c,by rw[<-gx];exact e2,?_⟩;have i1:an (hf (i:Int) (j:Int)) L.length=true:=by rw[hw];exact aug
  have i2:an (X.length:Int) L.length=true:=aug;have e1':kR ((gt aH L (hf (i:Int) (j:Int))).1,(gt aH L (hf (i:Int) (j:Int))).2.1,(gt aH L (hf (i:Int) (j:Int))).2.2.1,(gt aH L (X.length:Int)).1,(gt aH L (X.length:Int)).2.1,(gt aH L (X.length:Int)).2.2.1,ns W L)=some (c,ns W L):=by rw[hw];exact e1
  unfold uW;refine ba (aF (show(i:Int)<(j:Int) by omega)) (aK i1 (aK i2 (aZ e1' ?_)));have e:∀(u v u' v':Int),u=u'->v=v'->(br (iL c 0) (aul ((X.length:Int),u,(j:Int),L,W)) (aul ((X.length:Int),(i:Int),v,L,W)):am Gn Gg)=br (iL c 0) (aul ((X.length:Int),u',(j:Int),L,W)) (aul ((X.length:Int),(i:Int),v',L,W)):=by rintro _ _ _ _ rfl rfl;rfl
  exact e _ _ _ _ (by show pu (hf (i:Int) (j:Int)+1)=_;rw[hw];exact dD auc auc) hw
 obtain⟨s,s1,s2,es,hs1,hs2⟩:=RG (B:=fun d=>uW kR d.1 d.2.1 d.2.2.1 d.2.2.2.1 d.2.2.2.2.1 d.2.2.2.2.2.1 d.2.2.2.2.2.2.1 d.2.2.2.2.2.2.2.1 d.2.2.2.2.2.2.2.2.1 d.2.2.2.2.2.2.2.2.2.1 d.2.2.2.2.2.2.2.2.2.2.1 d.2.2.2.2.2.2.2.2.2.2.2.1 d.2.2.2.2.2.2.2.2.2.2.2.2.1 d.2.2.2.2.2.2.2.2.2.2.2.2.2.1 d.2.2.2.2.2.2.2.2.2.2.2.2.2.2.1)
  (fun i j:Nat=>((X.length:Int),(i:Int),(j:Int),L,W)) (fun i:Nat=>((X.length:Int),(i:Int),L,W)) (fun c=>key (gt aH L (c:Int))<key x) (lo:=X.length+1) (hi:=X.length+1+Q.length) auc auc
  (fun c d h1 h2 h3 hd=>by rw[gQ d auc h3]at hd;rw[gQ c h1 auc];exact Int.lt_of_le_of_lt (rj hq (i:=c-X.length-1) (j:=d-X.length-1) auc auc) hd)
  (fun i j h1 h2 h3 hp=>by obtain⟨c,hc,e⟩:=step i j h1 h2 h3;exact e.trans (bR (aF (hc.2 hp))))
  (fun i j h1 h2 h3 hp=>by obtain⟨c,hc,e⟩:=step i j h1 h2 h3;exact e.trans (bC (aJ (fun q=>hp (hc.1 q)))))
  (fun i h1 h2=>by
   try dsimp only
   unfold uW;exact aN (aJ (show ¬(i:Int)<(i:Int) by omega)) rfl)
 refine⟨s-X.length-1,auc,?_,?_,?_⟩
 .have:X.length+1+(s-X.length-1)=s:=auc
  rw[this];exact es
 .intro y hy;obtain⟨i,hi,rfl⟩:=atn.1 hy;have:=hs1 (X.length+1+i) auc auc;rw[gQ _ auc auc]at this;have e:X.length+1+i-X.length-1=i:=auc
  simpa only[e]using this
 .intro y hy;obtain⟨i,hi,rfl⟩:=ato.1 hy;have:=hs2 (X.length+1+(s-X.length-1+i)) auc auc;rw[gQ _ auc auc]at this;have e:X.length+1+(s-X.length-1+i)-X.length-1=s-X.length-1+i:=auc
  simp only[e]at this;omega
end
variable{x:cf}
section
variable{X P Q Y L:List cf}{W:kq}{key:cf->Int}{V:cf->Prop}
theorem an4(F:iX){Z:List cf}(hl:X.length+Q1.length<=400000) :
  Qr F (((X.length+1+Q1.length:Nat):Int),(X.length:Int),X++(x::(Q1++Z)),W)=some (X++(Q1++(x::Z)),W):=by
 unfold Qr;have w0:pu (((X.length+1+Q1.length:Nat):Int)-1)=((X.length+Q1.length:Nat):Int):=dD auc auc;refine cO (fun t:Nat=>(((X.length+1+Q1.length:Nat):Int),((X.length+t:Nat):Int),X++(Q1.take t++(x::(Q1.drop t++Z))),W)) Q1.length rfl ?_ ?_ auh
 .intro t ht
  try dsimp only
  unfold Gv;refine ba (aF (by rw[w0];omega)) ?_;refine afP (X:=X++Q1.take t) (p:=x) (M:=[]) (q:=Q1[t]) (Y:=Q1.drop (t+1)++Z) (u:=X.length+t) (v:=X.length+t+1) ?_ ?_ ?_ rfl ?_ (fun hset=>?_)
  .rw[G2 ht];grind
  .simp;omega
  .simp;omega
  .exact dD auc auc
  .refine aK (aF rfl) (aK (aF rfl) ?_);have e:∀(u v:Int) (A B:List cf),u=v->A=B->(aul (((X.length+1+Q1.length:Nat):Int),u,A,W):am Gm Gf)=aul (((X.length+1+Q1.length:Nat):Int),v,B,W):=by rintro _ _ _ _ rfl rfl;rfl
   refine e _ _ _ _ (show pu (((X.length+t:Nat):Int)+1)=((X.length+(t+1):Nat):Int)from dD auc auc) (hset.trans ?_);rw[atb ht];simp only[bM,ask,PP]
 .try dsimp only
  unfold Gv;refine aN (aJ (by rw[w0];omega)) ?_;have e1:Q1.drop Q1.length=[]:=asG (ro _);have e2:Q1.take Q1.length=Q1:=IT (ro _);rw[e1,e2];rfl
theorem am1(C:mc W key V)(F:iX)(hL:L=X++(P++([x]++Y)))(hl:L.length<=400000)(hp:fv key P)(hx:V x)(hP:∀y∈P,V y) :
  ∃k,k<=P.length/\aey F (((X.length+P.length:Nat):Int),(X.length:Int),((X.length+P.length:Nat):Int),L,W)=some (((X.length+P.length:Nat):Int),((X.length+k:Nat):Int),L,W)/\(∀y∈P.take k,key y<=key x)/\∀y∈P.drop k,key x<key y:=by
 have hlen:=Fv hL;simp only[dG,If]at hlen;have gP:∀c,(h0:X.length<=c)->(h:c<X.length+P.length)->gt aH L (c:Int)=P[c-X.length]' auc:=fun c h1 h2=>Ha hL (t:=c-X.length) auc auc;have gx:gt aH L ((X.length+P.length:Nat):Int)=x:=Hb hL (t:=0) aue rfl;have step:∀i j:Nat,X.length<=i->i<j->j<=X.length+P.length->∃c:Int,(c<0↔key x<key (gt aH L (((i+j) / 2:Nat):Int))) /\
   uV kR ((X.length+P.length:Nat):Int) (i:Int) (j:Int) L W.1 W.2.1 W.2.2.1 W.2.2.2.1 W.2.2.2.2.1 W.2.2.2.2.2.1 W.2.2.2.2.2.2.1 W.2.2.2.2.2.2.2.1 W.2.2.2.2.2.2.2.2.1 W.2.2.2.2.2.2.2.2.2.1 W.2.2.2.2.2.2.2.2.2.2.1 =
    br (Bool.not (iL c 0)) (aul (((X.length+P.length:Nat):Int),(((i+j) / 2+1:Nat):Int),(j:Int),L,W)) (aul (((X.length+P.length:Nat):Int),(i:Int),(((i+j) / 2:Nat):Int),L,W)):=by
  intro i j h1 h2 h3;have hw:hf (i:Int) (j:Int)=(((i+j) / 2:Nat):Int):=G8 auc;have gh:=gP ((i+j) / 2) auc auc;obtain⟨c,e1,e2⟩:=C.cmp L (gt aH L ((X.length+P.length:Nat):Int)) (gt aH L (((i+j) / 2:Nat):Int)) (by rw[gx];exact hx) (by rw[gh];exact hP _ (ut _));refine⟨c,by rw[<-gx];exact e2,?_⟩;have i1:an (hf (i:Int) (j:Int)) L.length=true:=by rw[hw];exact aug
  have i2:an ((X.length+P.length:Nat):Int) L.length=true:=aug;have e1':kR ((gt aH L ((X.length+P.length:Nat):Int)).1,(gt aH L ((X.length+P.length:Nat):Int)).2.1,(gt aH L ((X.length+P.length:Nat):Int)).2.2.1,(gt aH L (hf (i:Int) (j:Int))).1,(gt aH L (hf (i:Int) (j:Int))).2.1,(gt aH L (hf (i:Int) (j:Int))).2.2.1,ns W L)=some (c,ns W L):=by rw[hw];exact e1
  unfold uV;refine ba (aF (show(i:Int)<(j:Int) by omega)) (aK i2 (aK i1 (aZ e1' ?_)));have e:∀(u v u' v':Int),u=u'->v=v'->(br (Bool.not (iL c 0)) (aul (((X.length+P.length:Nat):Int),u,(j:Int),L,W)) (aul (((X.length+P.length:Nat):Int),(i:Int),v,L,W)):am Gj Gc)=br (Bool.not (iL c 0)) (aul (((X.length+P.length:Nat):Int),u',(j:Int),L,W)) (aul (((X.length+P.length:Nat):Int),(i:Int),v',L,W)):=by rintro _ _ _ _ rfl rfl;rfl
  exact e _ _ _ _ (by show pu (hf (i:Int) (j:Int)+1)=_;rw[hw];exact dD auc auc) hw
 obtain⟨s,s1,s2,es,hs1,hs2⟩:=RG (B:=fun d=>uV kR d.1 d.2.1 d.2.2.1 d.2.2.2.1 d.2.2.2.2.1 d.2.2.2.2.2.1 d.2.2.2.2.2.2.1 d.2.2.2.2.2.2.2.1 d.2.2.2.2.2.2.2.2.1 d.2.2.2.2.2.2.2.2.2.1 d.2.2.2.2.2.2.2.2.2.2.1 d.2.2.2.2.2.2.2.2.2.2.2.1 d.2.2.2.2.2.2.2.2.2.2.2.2.1 d.2.2.2.2.2.2.2.2.2.2.2.2.2.1 d.2.2.2.2.2.2.2.2.2.2.2.2.2.2.1)
  (fun i j:Nat=>(((X.length+P.length:Nat):Int),(i:Int),(j:Int),L,W)) (fun i:Nat=>(((X.length+P.length:Nat):Int),(i:Int),L,W)) (fun c=>¬key x<key (gt aH L (c:Int))) (lo:=X.length) (hi:=X.length+P.length) auc auc
  (fun c d h1 h2 h3 hd=>by rw[gP d auc h3]at hd;rw[gP c h1 auc];have:=rj hp (i:=c-X.length) (j:=d-X.length) auc auc;omega)
  (fun i j h1 h2 h3 hp=>by obtain⟨c,hc,e⟩:=step i j h1 h2 h3;exact e.trans (bR (sZ (aJ (fun q=>hp (hc.1 q))))))
  (fun i j h1 h2 h3 hp=>by obtain⟨c,hc,e⟩:=step i j h1 h2 h3;exact e.trans (bC (qU (aF (hc.2 (Classical.not_not.1 hp))))))
  (fun i h1 h2=>by
   try dsimp only
   unfold uV;exact aN (aJ (show ¬(i:Int)<(i:Int) by omega)) rfl)
 refine⟨s-X.length,auc,?_,?_,?_⟩
 .have:X.length+(s-X.length)=s:=auc
  rw[this];exact es
 .intro y hy;obtain⟨i,hi,rfl⟩:=atn.1 hy;have:=hs1 (X.length+i) auc auc;rw[gP _ auc auc]at this;have e:X.length+i-X.length=i:=auc
  simp only[e]at this;omega
 .intro y hy;obtain⟨i,hi,rfl⟩:=ato.1 hy;have:=hs2 (X.length+(s-X.length+i)) auc auc;rw[gP _ auc auc]at this;have e:X.length+(s-X.length+i)-X.length=s-X.length+i:=auc
  simp only[e]at this;omega
theorem am2(F:iX)(hl:X.length+P1.length+P2.length<=400000) :
  Qn F (((X.length+P1.length:Nat):Int),((X.length+P1.length+P2.length:Nat):Int),X++(P1++(P2++(x::Y))),W)=some (X++(P1++(x::(P2++Y))),W):=by
 unfold Qn;refine cO (fun t:Nat=>(((X.length+P1.length:Nat):Int),((X.length+P1.length+(P2.length-t):Nat):Int),X++(P1++(P2.take (P2.length-t)++(x::(P2.drop (P2.length-t)++Y)))),W)) P2.length ?_ ?_ ?_ auh
 .have e1:P2.drop P2.length=[]:=asG (ro _);have e2:P2.take P2.length=P2:=IT (ro _);simp only[Nat.sub_zero,e1,e2];rfl
 .intro t ht
  try dsimp only
  unfold Gq;obtain⟨j,hj⟩:∃j,P2.length-t=j+1:=⟨P2.length-t-1,auc⟩;have hj':P2.length-(t+1)=j:=auc
  have hjl:j<P2.length:=auc
  rw[hj,hj'];have w1:pu (((X.length+P1.length+(j+1):Nat):Int)-1)=((X.length+P1.length+j:Nat):Int):=dD auc auc;refine ba auj ?_;refine afQ (X:=X++(P1++P2.take j)) (q:=P2[j]) (p:=x) (Y:=P2.drop (j+1)++Y) (v:=X.length+P1.length+j) (u:=X.length+P1.length+(j+1)) ?_ ?_ rfl rfl w1 (fun hset=>?_)
  .rw[atb hjl];simp only[bM,ask,PP]
  .simp;omega
  .refine aK (aF rfl) (aK (aF rfl) ?_);have e:∀(u v:Int) (A B:List cf),u=v->A=B->(aul (((X.length+P1.length:Nat):Int),u,A,W):am Gi Gb)=aul (((X.length+P1.length:Nat):Int),v,B,W):=by rintro _ _ _ _ rfl rfl;rfl
   refine e _ _ _ _ w1 (hset.trans ?_);rw[G2 hjl];simp only[bM,ask,PP]
 .try dsimp only
  unfold Gq;rw[Nat.sub_self];exact aN aui rfl
end
section
variable{X P Q Y L:List cf}{W:kq}{key:cf->Int}{V:cf->Prop}
theorem abm(C:mc W key V)(F:iX)(hL:L=X++(P++(Q++Y)))(hl:L.length<=400000)(hp:fv key P)(hq:fv key Q)(hP:∀y∈P,V y)(hQ:∀y∈Q,V y)(a m b mid n:Int){p:Nat}
  (h1:X.length<=lo) (h2:lo<=hi) (h3:hi<=X.length+P.length) (h4:hi+X.length+P.length<=p+1) (h5:p<X.length+P.length+Q.length+lo) :
  ∃s,lo<=s/\s<=hi/\Gp F (a,m,b,mid,n,(lo:Int),(hi:Int),(p:Int),L,W)=some (a,m,b,mid,n,(s:Int),L,W) /\
   (∀c,lo<=c->c<s->¬key (gt aH L ((p-c:Nat):Int))<key (gt aH L (c:Int)))/\∀c,s<=c->c<hi->key (gt aH L ((p-c:Nat):Int))<key (gt aH L (c:Int)):=by
 have hlen:=Fv hL;have gP:∀c,(h0:X.length<=c)->(h:c<X.length+P.length)->gt aH L (c:Int)=P[c-X.length]' auc:=fun c h1 h2=>Ha hL (t:=c-X.length) auc auc;have gQ:∀c,(h0:X.length+P.length<=c)->(h:c<X.length+P.length+Q.length)->gt aH L (c:Int)=Q[c-X.length-P.length]' auc:=fun c h1 h2=>Hb hL (t:=c-X.length-P.length) auc auc;have step:∀i j:Nat,lo<=i->i<j->j<=hi->∃c:Int,(c<0↔key (gt aH L ((p-(i+j) / 2:Nat):Int))<key (gt aH L (((i+j) / 2:Nat):Int))) /\
   uU kR a m b mid n (i:Int) (j:Int) (p:Int) L W.1 W.2.1 W.2.2.1 W.2.2.2.1 W.2.2.2.2.1 W.2.2.2.2.2.1 W.2.2.2.2.2.2.1 W.2.2.2.2.2.2.2.1 W.2.2.2.2.2.2.2.2.1 W.2.2.2.2.2.2.2.2.2.1 W.2.2.2.2.2.2.2.2.2.2.1 =
    br (Bool.not (iL c 0)) (aul (a,m,b,mid,n,(((i+j) / 2+1:Nat):Int),(j:Int),(p:Int),L,W)) (aul (a,m,b,mid,n,(i:Int),(((i+j) / 2:Nat):Int),(p:Int),L,W)):=by
  intro i j q1 q2 q3;have hw:hf (i:Int) (j:Int)=(((i+j) / 2:Nat):Int):=G8 auc;have hv:pu ((p:Int)-hf (i:Int) (j:Int))=((p-(i+j) / 2:Nat):Int):=by rw[hw];exact dD auc auc
  have gh:=gP ((i+j) / 2) auc auc;have gv:=gQ (p-(i+j) / 2) auc auc;obtain⟨c,e1,e2⟩:=C.cmp L (gt aH L ((p-(i+j) / 2:Nat):Int)) (gt aH L (((i+j) / 2:Nat):Int)) (by rw[gv];exact hQ _ (ut _)) (by rw[gh];exact hP _ (ut _));refine⟨c,e2,?_⟩;have i1:an (hf (i:Int) (j:Int)) L.length=true:=by rw[hw];exact aug
  have i2:an (pu ((p:Int)-hf (i:Int) (j:Int))) L.length=true:=by rw[hv];exact aug
  have e1':kR ((gt aH L (pu ((p:Int)-hf (i:Int) (j:Int)))).1,(gt aH L (pu ((p:Int)-hf (i:Int) (j:Int)))).2.1,(gt aH L (pu ((p:Int)-hf (i:Int) (j:Int)))).2.2.1,(gt aH L (hf (i:Int) (j:Int))).1,(gt aH L (hf (i:Int) (j:Int))).2.1,(gt aH L (hf (i:Int) (j:Int))).2.2.1,ns W L)=some (c,ns W L):=by rw[hv,hw];exact e1
  unfold uU;refine ba (aF (show(i:Int)<(j:Int) by omega)) (aK i2 (aK i1 (aZ e1' ?_)));have e:∀(u v u' v':Int),u=u'->v=v'->(br (Bool.not (iL c 0)) (aul (a,m,b,mid,n,u,(j:Int),(p:Int),L,W))  (aul (a,m,b,mid,n,(i:Int),v,(p:Int),L,W)):am Gh yc)=br (Bool.not (iL c 0)) (aul (a,m,b,mid,n,u',(j:Int),(p:Int),L,W))  (aul (a,m,b,mid,n,(i:Int),v',(p:Int),L,W)):=by rintro _ _ _ _ rfl rfl;rfl
  exact e _ _ _ _ (by show pu (hf (i:Int) (j:Int)+1)=_;rw[hw];exact dD auc auc) hw
 obtain⟨s,s1,s2,es,hs1,hs2⟩:=RG (B:=fun d=>uU kR d.1 d.2.1 d.2.2.1 d.2.2.2.1 d.2.2.2.2.1 d.2.2.2.2.2.1 d.2.2.2.2.2.2.1 d.2.2.2.2.2.2.2.1 d.2.2.2.2.2.2.2.2.1 d.2.2.2.2.2.2.2.2.2.1 d.2.2.2.2.2.2.2.2.2.2.1 d.2.2.2.2.2.2.2.2.2.2.2.1 d.2.2.2.2.2.2.2.2.2.2.2.2.1 d.2.2.2.2.2.2.2.2.2.2.2.2.2.1 d.2.2.2.2.2.2.2.2.2.2.2.2.2.2.1 d.2.2.2.2.2.2.2.2.2.2.2.2.2.2.2.1 d.2.2.2.2.2.2.2.2.2.2.2.2.2.2.2.2.1 d.2.2.2.2.2.2.2.2.2.2.2.2.2.2.2.2.2.1 d.2.2.2.2.2.2.2.2.2.2.2.2.2.2.2.2.2.2.1 d.2.2.2.2.2.2.2.2.2.2.2.2.2.2.2.2.2.2.2.1)
  (fun i j:Nat=>(a,m,b,mid,n,(i:Int),(j:Int),(p:Int),L,W)) (fun i:Nat=>(a,m,b,mid,n,(i:Int),L,W)) (fun c=>¬key (gt aH L ((p-c:Nat):Int))<key (gt aH L (c:Int))) (lo:=lo) (hi:=hi) h2 auc
  (fun c d q1 q2 q3 hd=>by rw[gP d auc auc,gQ (p-d) auc auc]at hd;rw[gP c auc auc,gQ (p-c) auc auc];have g1:=rj hp (i:=c-X.length) (j:=d-X.length) auc auc;have g2:=rj hq (i:=p-d-X.length-P.length) (j:=p-c-X.length-P.length) auc auc;omega)
  (fun i j q1 q2 q3 hp=>by obtain⟨c,hc,e⟩:=step i j q1 q2 q3;exact e.trans (bR (sZ (aJ (fun q=>hp (hc.1 q))))))
  (fun i j q1 q2 q3 hp=>by obtain⟨c,hc,e⟩:=step i j q1 q2 q3;exact e.trans (bC (qU (aF (hc.2 (Classical.not_not.1 hp))))))
  (fun i q1 q2=>by
   try dsimp only
   unfold uU;exact aN (aJ (show ¬(i:Int)<(i:Int) by omega)) rfl)
 exact⟨s,s1,s2,es,hs1,fun c q1 q2=>Classical.not_not.1 (hs2 c q1 q2)⟩
theorem am9(hL:L=X++(P++(Q++Y)))(hp:fv key P)(hq:fv key Q){mid s:Nat}(hmid:mid=(X.length+X.length+P.length+Q.length) / 2)(hP2:2<=P.length)(hQ2:2<=Q.length)
  (hlo:(mid<X.length+P.length/\lo=mid+(X.length+P.length)-(X.length+P.length+Q.length)/\hi=mid)\/(X.length+P.length<=mid/\lo=X.length/\hi=X.length+P.length)) (h1:lo<=s) (h2:s<=hi)
  (g1:∀c,lo<=c->c<s->¬key (gt aH L ((mid+(X.length+P.length)-1-c:Nat):Int))<key (gt aH L (c:Int))) (g2:∀c,s<=c->c<hi->key (gt aH L ((mid+(X.length+P.length)-1-c:Nat):Int))<key (gt aH L (c:Int))) :
  (∀x∈P.take (s-X.length),∀y∈Q.drop (mid-s),key x<=key y)/\∀x∈P.drop (s-X.length),∀y∈Q.take (mid-s),key y<key x:=by
 have gP:∀c,(h0:X.length<=c)->(h:c<X.length+P.length)->gt aH L (c:Int)=P[c-X.length]' auc:=fun c h1 h2=>Ha hL (t:=c-X.length) auc auc;have gQ:∀c,(h0:X.length+P.length<=c)->(h:c<X.length+P.length+Q.length)->gt aH L (c:Int)=Q[c-X.length-P.length]' auc:=fun c h1 h2=>Hb hL (t:=c-X.length-P.length) auc auc;constructor
 .intro x hx y hy;obtain⟨i,hi',rfl⟩:=atn.1 hx;obtain⟨j,hj,rfl⟩:=ato.1 hy;have hs:lo<s:=auc
  have q:=g1 (s-1) auc auc;rw[gP (s-1) auc auc,gQ (mid+(X.length+P.length)-1-(s-1)) auc auc]at q;have r1:=rj hp (i:=i) (j:=s-1-X.length) auc auc;have r2:=rj hq (i:=mid+(X.length+P.length)-1-(s-1)-X.length-P.length) (j:=mid-s+j) auc auc;omega
 .intro x hx y hy;obtain⟨i,hi',rfl⟩:=ato.1 hx;obtain⟨j,hj,rfl⟩:=atn.1 hy;have hs:s<hi:=auc
  have q:=g2 s auc auc;rw[gP s auc auc,gQ (mid+(X.length+P.length)-1-s) auc auc]at q;have r1:=rj hp (i:=s-X.length) (j:=s-X.length+i) auc auc;have r2:=rj hq (i:=j) (j:=mid+(X.length+P.length)-1-s-X.length-P.length) auc auc;omega
set_option maxHeartbeats 4000000
theorem alF(C:mc W key V)(ih:uL W key V (kg k) k):uL W key V (kg (k+1)) (k+1):=by
 intro X P Q Y L A M B hp0 hq0 hk eA eM eB hL hl hp hq hP hQ;subst eA;subst eM;subst eB;have hlen:=Fv hL;show ∃R,yb kR (kg k) GD (aeF (kg k)) (Qr (kg k)) (aey (kg k)) (Qn (kg k)) (Gp (kg k))
  (X.length:Int) ((X.length+P.length:Nat):Int) ((X.length+P.length+Q.length:Nat):Int) L W.1 W.2.1 W.2.2.1 W.2.2.2.1 W.2.2.2.2.1 W.2.2.2.2.2.1 W.2.2.2.2.2.2.1 W.2.2.2.2.2.2.2.1 W.2.2.2.2.2.2.2.2.1 W.2.2.2.2.2.2.2.2.2.1 W.2.2.2.2.2.2.2.2.2.2.1=some (X++(R++Y),W)/\_
 have wP:pu (((X.length+P.length:Nat):Int)-(X.length:Int))=(P.length:Int):=dD auc auc;have wQ:pu (((X.length+P.length+Q.length:Nat):Int)-((X.length+P.length:Nat):Int))=(Q.length:Int):=dD auc auc;rcases adc 1 P.length with a1|a1
 .rcases adc 1 Q.length with a2|a2
  .-- two stretches of two at least
   obtain⟨mid,hmid⟩:∃mid,mid=(X.length+X.length+P.length+Q.length) / 2:=⟨_,rfl⟩;have hw:hf (X.length:Int) ((X.length+P.length+Q.length:Nat):Int)=(mid:Int):=by rw[G8 auc,hmid];congr 2;omega
   have w1:pu (hf (X.length:Int) ((X.length+P.length+Q.length:Nat):Int)+((X.length+P.length:Nat):Int))=((mid+(X.length+P.length):Nat):Int):=by rw[hw];exact dD auc auc
   have w2:pu (pu (hf (X.length:Int) ((X.length+P.length+Q.length:Nat):Int)+((X.length+P.length:Nat):Int))-1)=((mid+(X.length+P.length)-1:Nat):Int):=by rw[w1];exact dD auc auc
   have tail:∀lo hi s:Nat,((mid<X.length+P.length/\lo=mid+(X.length+P.length)-(X.length+P.length+Q.length)/\hi=mid)\/(X.length+P.length<=mid/\lo=X.length/\hi=X.length+P.length))->lo<=s->s<=hi ->
     (∀c,lo<=c->c<s->¬key (gt aH L ((mid+(X.length+P.length)-1-c:Nat):Int))<key (gt aH L (c:Int)))->(∀c,s<=c->c<hi->key (gt aH L ((mid+(X.length+P.length)-1-c:Nat):Int))<key (gt aH L (c:Int))) ->
     ∃R,Si (kg k) (X.length:Int) ((X.length+P.length:Nat):Int) ((X.length+P.length+Q.length:Nat):Int) (mid:Int) (s:Int) (pu (((mid+(X.length+P.length):Nat):Int)-(s:Int))) (L,W)=some (X++(R++Y),W)/\dH key (P++Q) R:=by
    intro lo hi s hlh s1 s2 g1 g2;obtain⟨c1,c2⟩:=am9 hL hp hq hmid a1 a2 hlh s1 s2 g1 g2;have tP:(P.take (s-X.length)).length=s-X.length:=by rw[dK];omega
    have dP:(P.drop (s-X.length)).length=P.length-(s-X.length):=by rw[asR]
    have tQ:(Q.take (mid-s)).length=mid-s:=by rw[dK];omega
    have dQ:(Q.drop (mid-s)).length=Q.length-(mid-s):=by rw[asR]
    have eP:P.take (s-X.length)++P.drop (s-X.length)=P:=GT _ _;have eQ:Q.take (mid-s)++Q.drop (mid-s)=Q:=GT _ _;obtain⟨R,r1,r2⟩:=amX (W:=W) (V:=V) ih (X:=X) (P1:=P.take (s-X.length)) (P2:=P.drop (s-X.length)) (Q1:=Q.take (mid-s)) (Q2:=Q.drop (mid-s)) (Y:=Y) (L:=L) (a:=(X.length:Int)) (m:=((X.length+P.length:Nat):Int)) (b:=((X.length+P.length+Q.length:Nat):Int)) (mid:=(mid:Int)) (s:=(s:Int)) (e:=pu (((mid+(X.length+P.length):Nat):Int)-(s:Int)))
     rfl (by rw[tP];omega) (by rw[tP,dP];omega) (by rw[tP,tQ];omega) (by rw[tP,tQ,dP];exact dD auc auc) (by rw[tP,tQ,dP,dQ];omega) (by
      rw[hL]
      conv=>lhs;rw[<-eP,<-eQ]
      simp only[bM]) hl (by rw[tP,tQ];omega) (by rw[dP,dQ];omega) (by rw[eP];exact hp) (by rw[eQ];exact hq) (by rw[eP];exact hP) (by rw[eQ];exact hQ) c1 c2
    rw[eP,eQ]at r2;exact⟨R,r1,r2⟩
   unfold yb;rcases adc mid (X.length+P.length)with b1|b1
   .have w3:pu (pu (hf (X.length:Int) ((X.length+P.length+Q.length:Nat):Int)+((X.length+P.length:Nat):Int))-((X.length+P.length+Q.length:Nat):Int))=((mid+(X.length+P.length)-(X.length+P.length+Q.length):Nat):Int):=by rw[w1];exact dD auc auc
    obtain⟨s,s1,s2,es,g1,g2⟩:=abm C (kg k) hL hl hp hq hP hQ (X.length:Int) ((X.length+P.length:Nat):Int) ((X.length+P.length+Q.length:Nat):Int) (mid:Int) ((mid+(X.length+P.length):Nat):Int) (lo:=mid+(X.length+P.length)-(X.length+P.length+Q.length)) (hi:=mid) (p:=mid+(X.length+P.length)-1) auc auc auc auc auc;obtain⟨R,r1,r2⟩:=tail _ _ s (.inl ⟨b1,rfl,rfl⟩) s1 s2 g1 g2;have es':Gp (kg k) ((X.length:Int),((X.length+P.length:Nat):Int),((X.length+P.length+Q.length:Nat):Int),hf (X.length:Int) ((X.length+P.length+Q.length:Nat):Int),pu (hf (X.length:Int) ((X.length+P.length+Q.length:Nat):Int)+((X.length+P.length:Nat):Int)),pu (pu (hf (X.length:Int) ((X.length+P.length+Q.length:Nat):Int)+((X.length+P.length:Nat):Int))-((X.length+P.length+Q.length:Nat):Int)),
     hf (X.length:Int) ((X.length+P.length+Q.length:Nat):Int),pu (pu (hf (X.length:Int) ((X.length+P.length+Q.length:Nat):Int)+((X.length+P.length:Nat):Int))-1),L,W)=some ((X.length:Int),((X.length+P.length:Nat):Int),((X.length+P.length+Q.length:Nat):Int),(mid:Int),((mid+(X.length+P.length):Nat):Int),(s:Int),L,W):=by rw[w2,w3,w1,hw];exact es
    refine⟨R,aN (aJ (by rw[wP];omega)) (aN (aJ (by rw[wQ];omega)) (ba (aF (show hf (X.length:Int) ((X.length+P.length+Q.length:Nat):Int)<((X.length+P.length:Nat):Int) by rw[hw];omega)) (aZ es' ?_))),r2⟩;exact r1
   .obtain⟨s,s1,s2,es,g1,g2⟩:=abm C (kg k) hL hl hp hq hP hQ (X.length:Int) ((X.length+P.length:Nat):Int) ((X.length+P.length+Q.length:Nat):Int) (mid:Int) ((mid+(X.length+P.length):Nat):Int) (lo:=X.length) (hi:=X.length+P.length) (p:=mid+(X.length+P.length)-1) auc auc auc auc auc;obtain⟨R,r1,r2⟩:=tail _ _ s (.inr ⟨b1,rfl,rfl⟩) s1 s2 g1 g2;have es':Gp (kg k) ((X.length:Int),((X.length+P.length:Nat):Int),((X.length+P.length+Q.length:Nat):Int),hf (X.length:Int) ((X.length+P.length+Q.length:Nat):Int),pu (hf (X.length:Int) ((X.length+P.length+Q.length:Nat):Int)+((X.length+P.length:Nat):Int)),(X.length:Int),
     ((X.length+P.length:Nat):Int),pu (pu (hf (X.length:Int) ((X.length+P.length+Q.length:Nat):Int)+((X.length+P.length:Nat):Int))-1),L,W)=some ((X.length:Int),((X.length+P.length:Nat):Int),((X.length+P.length+Q.length:Nat):Int),(mid:Int),((mid+(X.length+P.length):Nat):Int),(s:Int),L,W):=by rw[w2,w1,hw];exact es
    refine⟨R,aN (aJ (by rw[wP];omega)) (aN (aJ (by rw[wQ];omega)) (aN (aJ (show ¬hf (X.length:Int) ((X.length+P.length+Q.length:Nat):Int)<((X.length+P.length:Nat):Int) by rw[hw];omega)) (aZ es' ?_))),r2⟩;exact r1
  .-- one behind
   obtain⟨x,rfl⟩:∃x,Q=[x]:=List.length_eq_one_iff.1 auc;have hx:=hQ x aue;obtain⟨j,j1,e15,g1,g2⟩:=am1 C (kg k) hL hl hp hx hP;have tP:(P.take j).length=j:=by rw[dK];omega
   have dP:(P.drop j).length=P.length-j:=by rw[asR]
   have eP:P.take j++P.drop j=P:=GT _ _;have e21:=am2 (W:=W) (Y:=Y) (kg k) (X:=X) (x:=x) (P1:=P.take j) (P2:=P.drop j) auc;have eL:X++(P.take j++(P.drop j++(x::Y)))=L:=by rw[hL,<-bM (P.take j),eP];rfl
   rw[eL,tP,dP]at e21;have em:X.length+j+(P.length-j)=X.length+P.length:=auc
   rw[em]at e21;unfold yb;refine⟨(P.take j++[x])++P.drop j,aN (aJ (by rw[wP];omega)) (ba (aF (by rw[wQ];rfl)) (aZ e15 (aZ e21 ?_))),?_⟩
   .refine(OF (fun l:List cf=>(some (l,W):th)) ?_);simp only[bM,ask,PP]
   .have sp:=Pl.mN.1 (by rw[eP];exact hp:fv key (P.take j++P.drop j));have:=G3 (key:=key) (P1:=P.take j) (P2:=P.drop j) (Q1:=[x]) (Q2:=[]) (R1:=P.take j++[x]) (R2:=P.drop j) (by rw[eP];exact hp) (by rw[di];exact hq) (fun _ _ y hy=>by cases hy) (fun y hy z hz=>by simp at hz;subst hz;exact g2 y hy)
     (dH.refl (Pl.mN.2 ⟨sp.1,hq,fun y hy z hz=>by simp at hz;subst hz;exact g1 y hy⟩)) (by rw[di];exact dH.refl sp.2.1)
    rw[eP,di]at this;exact this
 .-- one ahead
  obtain⟨x,rfl⟩:∃x,P=[x]:=List.length_eq_one_iff.1 auc;have hx:=hP x aue;obtain⟨j,j1,e3,g1,g2⟩:=an3 C (kg k) hL hl hq hx hQ;have tQ:(Q.take j).length=j:=by rw[dK];omega
  have eQ:Q.take j++Q.drop j=Q:=GT _ _;have e9:=an4 (W:=W) (kg k) (X:=X) (x:=x) (Q1:=Q.take j) (Z:=Q.drop j++Y) auc;have eL:X++(x::(Q.take j++(Q.drop j++Y)))=L:=by rw[hL,<-bM (Q.take j),eQ];rfl
  rw[eL,tQ]at e9;unfold yb;refine⟨Q.take j++(x::Q.drop j),ba (aF (by rw[wP];rfl)) (aZ e3 (aZ e9 ?_)),?_⟩
  .refine(OF (fun l:List cf=>(some (l,W):th)) ?_);simp only[bM,ask]
  .have sq:=Pl.mN.1 (by rw[eQ];exact hq:fv key (Q.take j++Q.drop j));have:=G3 (key:=key) (P1:=[]) (P2:=[x]) (Q1:=Q.take j) (Q2:=Q.drop j) (R1:=Q.take j) (R2:=x::Q.drop j) hp (by rw[eQ];exact hq) (fun y hy=>by cases hy) (fun y hy z hz=>by simp at hy;subst hy;exact g1 z hz)
    (dH.refl sq.1) (dH.refl (Pl.RH.2 ⟨g2,sq.2.1⟩))
   rw[eQ]at this;exact this
theorem abI(C:mc W key V):∀k,uL W key V (kg k) k
 |0=>by intro X P Q Y L A M B h1 h2 h3;omega|k+1=>alF C (abI C k)
theorem afO(C:mc W key V):uL W key V Qs 1000000:=by intro X P Q Y L A M B h1 h2 h3;exact abI C NN X P Q Y L A M B h1 h2 (EQ h3 (asZ auh))
end
open Pl (dH fv)
abbrev jU:=List (List cf×List cf)
def f0(bl:jU):List cf:=bl.flatMap (·.1)
def f1(bl:jU):List cf:=bl.flatMap (·.2)
def gZ(key:cf->Int)(bs:Nat)(bl:jU):Prop:=∀p∈bl,p.1.length=bs/\dH key p.1 p.2
theorem abp(a b:jU):f0 (a++b)=f0 a++f0 b:=by unfold f0;simp
theorem abq(a b:jU):f1 (a++b)=f1 a++f1 b:=by unfold f1;simp
theorem uY(p:List cf×List cf)(b:jU):f0 (p::b)=p.1++f0 b:=rfl
theorem RL(p:List cf×List cf)(b:jU):f1 (p::b)=p.2++f1 b:=rfl
theorem yl(p:List cf×List cf):f1 [p]=p.2:=by simp[f1]
theorem ym(p:List cf×List cf):f0 [p]=p.1:=by simp[f0]
section
variable{W:kq}{key:cf->Int}{V:cf->Prop}
theorem gZ.qc{bs:Nat}:∀{bl:jU},gZ key bs bl->(f0 bl).length=bl.length*bs
 |[],_=>by simp[f0]|p::bl,h=>by rw[uY,bF,(h p aue).1,gZ.qc (fun q hq=>h q (by simp[hq])),dG,asC];omega
theorem gZ.qd{bs:Nat}:∀{bl:jU},gZ key bs bl->(f1 bl).length=bl.length*bs
 |[],_=>by simp[f1]|p::bl,h=>by rw[RL,bF,(h p aue).2.len,(h p aue).1,gZ.qd (fun q hq=>h q (by simp[hq])),dG,asC];omega
theorem gZ.app{bs:Nat}{a b:jU}(h:gZ key bs a)(g:gZ key bs b):gZ key bs (a++b):=by
 intro p hp;rcases qr.1 hp with q|q
 .exact h p q
 .exact g p q
theorem gZ.one{bs:Nat}{A A':List cf}(h:A.length=bs)(g:dH key A A'):gZ key bs [(A,A')]:=by
 intro p hp
 grind
theorem afR{A A' B B' R:List cf}(ha:dH key A A')(hb:dH key B B')(h:dH key (A'++B') R):dH key (A++B) R:=dH.ab5 (by simp only[bF,ha.len,hb.len]) (fun k=>by rw[Pl.mu,Pl.mu,ha.qx,hb.qx]) h
theorem amN(C:mc W key V)(hl:S.length<=400000)(hV:∀x∈S,V x) :
  ∃o,aeM ((S.length:Int),(20:Int),(0:Int),(20:Int),S,W)=some o/\∃(bl:jU) (R:List cf),o=((S.length:Int),(20:Int),((f1 bl).length:Int),f1 bl++R,W)/\gZ key 20 bl/\S=f0 bl++R/\R.length<20:=by
 unfold aeM;delta u16 u4 bV cy;refine jD (fun d=>∃(bl:jU) (R:List cf),d=((S.length:Int),(20:Int),((f1 bl).length:Int),(((f1 bl).length+20:Nat):Int),f1 bl++R,W)/\gZ key 20 bl/\S=f0 bl++R)
  (fun o=>∃(bl:jU) (R:List cf),o=((S.length:Int),(20:Int),((f1 bl).length:Int),f1 bl++R,W)/\gZ key 20 bl/\S=f0 bl++R/\R.length<20) (fun d=>S.length-d.2.2.1.toNat) ?_ NN _ ⟨[],S,rfl,(fun p hp=>by cases hp),rfl⟩ auh
 rintro d ⟨bl,R,rfl,hF,hS⟩;have l0:=hF.qc;have l1:=hF.qd;have hn:S.length=(f0 bl).length+R.length:=by rw[hS,bF]
 try dsimp only
 unfold QD;rcases adc R.length 20 with q|q
 .left;exact⟨_,aN aui rfl,bl,R,rfl,hF,hS,q⟩
 .right;have eR:R.take 20++R.drop 20=R:=GT _ _;have tR:(R.take 20).length=20:=by rw[dK];omega
  obtain⟨A',e1,hA⟩:=abt C (X:=f1 bl) (S:=R.take 20) (Y:=R.drop 20) (L:=f1 bl++R) (A:=((f1 bl).length:Int)) (B:=(((f1 bl).length+20:Nat):Int)) rfl (by rw[tR]) (by rw[eR]) (by rw[bF];omega) (fun y hy=>hV y (by rw[hS];simp[asf hy]));have lA:A'.length=20:=hA.len.trans tR;have ef1:f1 (bl++[(R.take 20,A')])=f1 bl++A':=by rw[abq,yl]
  refine⟨((S.length:Int),(20:Int),((f1 (bl++[(R.take 20,A')])).length:Int),(((f1 (bl++[(R.take 20,A')])).length+20:Nat):Int),f1 (bl++[(R.take 20,A')])++R.drop 20,W),?_,⟨_,R.drop 20,rfl,hF.app (gZ.one tR hA),?_⟩,?_⟩
  .refine ba auj (aZ e1 ?_);have e:∀(u v u' v':Int) (A B:List cf),u=u'->v=v'->A=B->(aul ((S.length:Int),(20:Int),u,v,A,W):am Gz Gu)=aul ((S.length:Int),(20:Int),u',v',B,W):=by rintro _ _ _ _ _ _ rfl rfl rfl;rfl
   refine e _ _ _ _ _ _ ?_ ?_ ?_
   .rw[ef1,bF,lA]
   .rw[ef1,bF,lA];exact dD auc auc
   .rw[ef1,bM]
  .rw[abp,ym,bM,eR];exact hS
  grind
theorem amP(C:mc W key V)(hl:S.length<=400000)(hV:∀x∈S,V x){bs:Nat}(hbs:20<=bs)(hb2:bs<=400000){bl:jU}{R0 R:List cf}(hF:gZ key bs bl)(hR:dH key R0 R)(hRl:R0.length<bs)(hS:S=f0 bl++R0) :
  ∃o,GB ((S.length:Int),(bs:Int),(0:Int),((2*bs:Nat):Int),f1 bl++R,W)=some o/\∃(ul bl:jU),o=((S.length:Int),(bs:Int),((f1 ul).length:Int),f1 ul++(f1 bl++R),W)/\gZ key (2*bs) ul/\gZ key bs bl/\S=f0 ul++(f0 bl++R0)/\(f1 bl).length+R.length<2*bs:=by
 unfold GB;delta u16 u4 bV cy;refine jD (fun d=>∃(ul bl:jU),d=((S.length:Int),(bs:Int),((f1 ul).length:Int),(((f1 ul).length+2*bs:Nat):Int),f1 ul++(f1 bl++R),W)/\gZ key (2*bs) ul/\gZ key bs bl/\S=f0 ul++(f0 bl++R0))
  (fun o=>∃(ul bl:jU),o=((S.length:Int),(bs:Int),((f1 ul).length:Int),f1 ul++(f1 bl++R),W)/\gZ key (2*bs) ul/\gZ key bs bl/\S=f0 ul++(f0 bl++R0)/\(f1 bl).length+R.length<2*bs)
  (fun d=>S.length-d.2.2.1.toNat) ?_ NN _ ⟨[],bl,by show _=((S.length:Int),(bs:Int),((0:Nat):Int),((0+2*bs:Nat):Int),[]++(f1 bl++R),W);rw[asz];rfl,(fun p hp=>by cases hp),hF,hS⟩ auh
 rintro d ⟨ul,bl,rfl,hU,hF,hS⟩;have u0:=hU.qc;have u1:=hU.qd;have l0:=hF.qc;have l1:=hF.qd;have lR:=hR.len;have hn:S.length=(f0 ul).length+((f0 bl).length+R0.length):=by rw[hS,bF,bF]
 try dsimp only
 unfold QB;rcases adc ((f1 bl).length+R.length) (2*bs)with q|q
 .left;exact⟨_,aN aui rfl,ul,bl,rfl,hU,hF,hS,q⟩
 .right
  match bl,hF,hS,l0,l1,hn,q with
  |[],hF,hS,l0,l1,hn,q=>simp[f1]at q;omega|[p],hF,hS,l0,l1,hn,q=>simp only[dG,If]at l1;omega|p::p2::bl,hF,hS,l0,l1,hn,q=>
   obtain⟨hp1,hp2⟩:=hF p aue;obtain⟨hq1,hq2⟩:=hF p2 aue;have lp:=hp2.len;have lq:=hq2.len;have hF':gZ key bs bl:=fun x hx=>hF x (by simp[hx]);have l0':=hF'.qc;have l1':=hF'.qd;have eL:f1 ul++(f1 (p::p2::bl)++R)=f1 ul++(p.2++(p2.2++(f1 bl++R))):=by rw[RL,RL];simp only[bM]
   have lL:(f1 ul++(f1 (p::p2::bl)++R)).length<=400000:=by simp only[bF];omega
   obtain⟨R1,e1,hR1⟩:=afO C (f1 ul) p.2 p2.2 (f1 bl++R) (f1 ul++(f1 (p::p2::bl)++R)) ((f1 ul).length:Int) (pu (((f1 ul).length:Int)+(bs:Int))) (((f1 ul).length+2*bs:Nat):Int) auc auc auc rfl (dD auc auc) auc eL lL hp2.pc hq2.pc
    (fun x hx=>hV x (by rw[hS,uY];simp[hp2.mem.1 hx])) (fun x hx=>hV x (by rw[hS,uY,uY];simp[hq2.mem.1 hx]))
   have lR1:R1.length=2*bs:=by rw[hR1.len,bF];omega
   have hSS:dH key (p.1++p2.1) R1:=afR hp2 hq2 hR1;have ef1:f1 (ul++[(p.1++p2.1,R1)])=f1 ul++R1:=by rw[abq,yl]
   refine⟨((S.length:Int),(bs:Int),((f1 (ul++[(p.1++p2.1,R1)])).length:Int),(((f1 (ul++[(p.1++p2.1,R1)])).length+2*bs:Nat):Int),f1 (ul++[(p.1++p2.1,R1)])++(f1 bl++R),W),?_,⟨_,bl,rfl,hU.app (gZ.one (by rw[bF];omega) hSS),hF',?_⟩,?_⟩
   .refine ba (aF (by simp only[dG]at *;omega)) (aZ e1 ?_);have e:∀(u v u' v':Int) (A B:List cf),u=u'->v=v'->A=B->(aul ((S.length:Int),(bs:Int),u,v,A,W):am Gx Gs)=aul ((S.length:Int),(bs:Int),u',v',B,W):=by rintro _ _ _ _ _ _ rfl rfl rfl;rfl
    refine e _ _ _ _ _ _ ?_ ?_ ?_
    .rw[ef1,bF,lR1]
    .rw[ef1,bF,lR1];have w2:pu ((2:Int)*(bs:Int))=((2*bs:Nat):Int):=dD auc auc;have:pu ((((f1 ul).length+2*bs:Nat):Int)+pu ((2:Int)*(bs:Int)))=(((f1 ul).length+2*bs+2*bs:Nat):Int):=by rw[w2];exact dD auc auc
     exact this
    .rw[ef1,bM]
   .rw[abp,ym,hS,uY,uY];simp only[bM]
   .show S.length-(((f1 (ul++[(p.1++p2.1,R1)])).length:Int)).toNat<S.length-(((f1 ul).length:Int)).toNat;rw[ef1,bF,lR1];simp only[dG]at *
    omega
end
variable{bl:jU}{R0:List cf}
section
variable{W:kq}{key:cf->Int}{V:cf->Prop}
theorem amO(C:mc W key V)(hl:S.length<=100000)(hV:∀x∈S,V x){R:List cf}(hF:gZ key 20 bl)(hR:dH key R0 R)(hRl:R0.length<20)(hS:S=f0 bl++R0) :
  ∃o,aeL ((S.length:Int),(20:Int),f1 bl++R,W)=some o/\∃S',o=(S',W)/\dH key S S':=by
 unfold aeL;delta gA u2 bV cy;refine jD (fun d=>∃(bs:Nat) (bl:jU) (R0 R:List cf),d=((S.length:Int),(bs:Int),f1 bl++R,W)/\20<=bs/\bs<=400000/\gZ key bs bl/\dH key R0 R/\R0.length<bs/\S=f0 bl++R0)
  (fun o=>∃S',o=(S',W)/\dH key S S') (fun d=>S.length-d.2.1.toNat) ?_ NN _ ⟨20,bl,R0,R,rfl,ro _,auf,hF,hR,hRl,hS⟩ auh
 rintro d ⟨bs,bl,R0,R,rfl,hbs,hb2,hF,hR,hRl,hS⟩;have l0:=hF.qc;have l1:=hF.qd;have lR:=hR.len;have hn:S.length=(f0 bl).length+R0.length:=by rw[hS,bF]
 try dsimp only
 unfold QC;rcases adc bs S.length with q|q
 .right;obtain⟨o,e9,ul,bl',rfl,hU,hF',hS',hlt⟩:=amP C auc hV hbs hb2 hF hR hRl hS;have u0:=hU.qc;have u1:=hU.qd;have l0':=hF'.qc;have l1':=hF'.qd;have hn':S.length=(f0 ul).length+((f0 bl').length+R0.length):=by rw[hS',bF,bF]
  have w2:pu ((2:Int)*(bs:Int))=((2*bs:Nat):Int):=dD auc auc;have w3:pu ((bs:Int)*(2:Int))=((2*bs:Nat):Int):=dD auc auc;have wm:pu (((f1 ul).length:Int)+(bs:Int))=(((f1 ul).length+bs:Nat):Int):=dD auc auc;have e9':GB ((S.length:Int),(bs:Int),(0:Int),pu ((2:Int)*(bs:Int)),f1 bl++R,W)=some ((S.length:Int),(bs:Int),((f1 ul).length:Int),f1 ul++(f1 bl'++R),W):=by rw[w2];exact e9
  have e:∀(u u':Int) (A B:List cf),u=u'->A=B->(aul ((S.length:Int),u,A,W):am Gy Gt)=aul ((S.length:Int),u',B,W):=by rintro _ _ _ _ rfl rfl;rfl
  rcases adc bs ((f1 bl').length+R.length)with g|g
  .match bl',hF',hS',l0',l1',hn',hlt,g,e9' with
   |[],hF',hS',l0',l1',hn',hlt,g,e9'=>simp[f1]at g;omega|p::p2::bl',hF',hS',l0',l1',hn',hlt,g,e9'=>simp only[dG,asC]at l1';omega|[p],hF',hS',l0',l1',hn',hlt,g,e9'=>
    obtain⟨hp1,hp2⟩:=hF' p aue;have lp:=hp2.len;rw[yl]at g l1' hlt e9';rw[ym]at l0' hS' hn';simp only[dG,If]at l1' l0';have lL:(f1 ul++(p.2++R)).length<=400000:=by simp only[bF];omega
    obtain⟨R1,e1,hR1⟩:=afO C (f1 ul) p.2 R [] (f1 ul++(p.2++R)) ((f1 ul).length:Int) (pu (((f1 ul).length:Int)+(bs:Int))) (S.length:Int) auc auc auc rfl (by rw[wm];congr 2;omega) (by congr 1;omega) (by rw[di]) lL hp2.pc hR.pc
     (fun x hx=>hV x (by rw[hS'];simp[hp2.mem.1 hx])) (fun x hx=>hV x (by rw[hS'];simp[hR.mem.1 hx]))
    refine⟨((S.length:Int),((2*bs:Nat):Int),f1 ul++R1,W),ba auj (aZ e9' (ba (aF (show pu (((f1 ul).length:Int)+(bs:Int))<(S.length:Int) by rw[wm];omega)) (aZ e1 (e _ _ _ _ w3 (by rw[di]))))),⟨2*bs,ul,p.1++R0,R1,rfl,auc,auc,hU,afR hp2 hR hR1,by simp only[bF];omega,hS'⟩,?_⟩;show S.length-(((2*bs:Nat):Int)).toNat<S.length-((bs:Int)).toNat;omega
  .-- one block at most,and nothing behind it
   have hrest:dH key (f0 bl'++R0) (f1 bl'++R):=by
    match bl',hF',l1',g with
    |[],hF',l1',g=>exact hR|[p],hF',l1',g=>obtain⟨hp1,hp2⟩:=hF' p aue;rw[yl]at g l1' |-;rw[ym];simp only[dG,If]at l1';have h0:R0=[]:=AC auc;have h1:R=[]:=AC auc;rw[h0,h1,di,di];exact hp2
    |p::p2::bl',hF',l1',g=>simp only[dG,asC]at l1';omega
   refine⟨((S.length:Int),((2*bs:Nat):Int),f1 ul++(f1 bl'++R),W),ba auj (aZ e9' (aN (aJ (show ¬pu (((f1 ul).length:Int)+(bs:Int))<(S.length:Int) by rw[wm];omega)) (e _ _ _ _ w3 rfl))),⟨2*bs,ul,f0 bl'++R0,f1 bl'++R,rfl,auc,auc,hU,hrest,by simp only[bF];omega,hS'⟩,?_⟩;show S.length-(((2*bs:Nat):Int)).toNat<S.length-((bs:Int)).toNat;omega
 .left;refine⟨(f1 bl++R,W),aN aui rfl,_,rfl,?_⟩;rw[hS]
  match bl,hF,l0,l1,hn with
  |[],hF,l0,l1,hn=>exact hR|[p],hF,l0,l1,hn=>obtain⟨hp1,hp2⟩:=hF p aue;rw[ym]at hn l0 |-;rw[yl];simp only[dG,If]at l0;have h0:R0=[]:=AC auc;have h1:R=[]:=AC auc;rw[h0,h1,di,di];exact hp2
  |p::p2::bl,hF,l0,l1,hn=>simp only[dG,asC]at l0;omega
theorem arZ(C:mc W key V)(hl:S.length<=100000)(hV:∀x∈S,V x):∃S',aqg (S,W)=some (S',W)/\dH key S S':=by
 obtain⟨o,e2,bl,R,rfl,hF,hS,hR⟩:=amN C auc hV;have l0:=hF.qc;have l1:=hF.qd;have hn:S.length=(f0 bl).length+R.length:=by grind
 obtain⟨R',e3,hR'⟩:=abt C (X:=f1 bl) (S:=R) (Y:=[]) (L:=f1 bl++R) (A:=((f1 bl).length:Int)) (B:=(S.length:Int)) rfl (by congr 1;omega) (by grind) (by grind) (fun y hy=>hV y (by rw[hS];simp[hy]));obtain⟨o,e7,S',rfl,hS'⟩:=amO C hl hV hF hR' auc hS;rw[di]at e3;have e:aqM ((S.length:Int),S,W)=some (S',W):=aZ e2 (aZ e3 (aZ e7 rfl));exact⟨S',aZ e rfl,hS'⟩
end
open Go.Proofs.YtmkbdfidnfmgmaaGreat.Pl
theorem RJ{a b:Bool}(ha:a=true)(h:aj b y=z):aj (both a b) y=z:=by subst ha;exact h
theorem alT(a b:Int):∃c:Int,Re (a,b,())=some (c,())/\(c<0↔a<b):=by
 have nn:∀x:Int,afo (x,())=some (false,()):=fun x=>by
  show Rm x=_;unfold Rm;have e:∀b:Bool,b=true->(some (Bool.not b,()):Option (TL G0))=some (false,()):=by rintro _ rfl;rfl
  exact e _ (aF rfl)
 have un:∀c:Option (TL GU),yi afo a b=c->Re (a,b,())=c:=fun c h=>h;rcases Int.lt_trichotomy a b with h|h|h
 .refine⟨-1,un _ ?_,auc⟩;unfold yi;exact aZ (nn a) (aZ (nn b) (aN rfl (aN rfl (ba (aF h) rfl))))
 .refine⟨0,un _ ?_,auc⟩;unfold yi;exact aZ (nn a) (aZ (nn b) (aN rfl (aN rfl (aN aui (aN aui rfl)))))
 .refine⟨1,un _ ?_,auc⟩;unfold yi;exact aZ (nn a) (aZ (nn b) (aN rfl (aN rfl (aN aui (ba (aF h) rfl)))))
def wR(n:aB)(of m lv:jp):kq:=(n.vars,n.ax,n.ah.map aX,n.bk,n.aU,n.constraints,n.af.map aM,n.ag.map aL,of,m,lv,())
def nI(n:aB)(x:cf):cg:=
 match x.1 with
 |true=>(match n.af[x.2.1.toNat]? with|some M=>(match M.reads[x.2.2.1.toNat]? with|some r=>lK M.word r|none=>⟨[],[]⟩)|none=>⟨[],[]⟩)
 |false=>(match n.ag[x.2.2.1.toNat]? with|some a=>kS a|none=>⟨[],[]⟩)
variable{n:aB}
theorem aok{y:cU}{i:cg}(h:y.is n i):nI n (eu y)=i:=by
 rcases h with⟨h,a,ha,rfl⟩|⟨h,M,r,hM,hr,rfl⟩
 .unfold nI eu;grind
 .unfold nI eu;grind
def lk(lv:jp)(i:cg):Int:=aT lv (i.to.headD 0).toNat
variable{m:jp}{of:jp}{lv:jp}
theorem abK{L:List cf}{x:cU}{i:cg}(h:x.is n i)(ft:Fit n)(hw:∀M∈n.af,0<=M.word) :
  yH (x.rd,(x.mem:Int),(x.pos:Int),ns (wR n of m lv) L)=some (i.to,ns (wR n of m lv) L):=by
 show yP yU x.rd (x.mem:Int) (x.pos:Int) n.vars n.ax (n.ah.map aX) n.bk n.aU n.constraints (n.af.map aM) (n.ag.map aL) of L m lv=_;unfold yP;rcases h with⟨h,a,ha,rfl⟩|⟨h,M,r,hM,hr,rfl⟩
 .have ha':(n.ag.map aL)[x.pos]?=some (aL a):=by grind
  have hl:=jN ha';rw[h,bC rfl,aW aug,bz ha'];rfl
 .have hM':(n.af.map aM)[x.mem]?=some (aM M):=by grind
  have hl:=jN hM';have hmem:=d5 hM;have hf:=ft.af.2 M hmem;have hr2:=hf.fq r (d5 hr);rw[h,bR rfl,aW aug,bz hM'];exact(bg (Pu M x.pos r hr ⟨hw M hmem,hf.word.2⟩ ⟨hr2.2.1,hr2.2.2.1⟩)).trans rfl
theorem an8{V:Nat}(hs:cA n V)(ft:Fit n)(hl:lv.length=V+1)(key:cf->Int)(hk:∀x∈n6 n,key (eu x.1)=lk lv x.2)(his:∀x∈n6 n,x.1.is n x.2) :
  mc (wR n of m lv) key (fun x=>∃y∈n6 n,x=eu y.1):=by
 refine⟨fun L x y hx hy=>?_⟩;obtain⟨x,hx,rfl⟩:=hx;obtain⟨y,hy,rfl⟩:=hy;have hw:∀M∈n.af,0<=M.word:=fun M hM=>by have:=(hs.af M hM).2.2.1;omega
 have hd:∀z∈n6 n,∃(v:Nat) (t:jp),z.2.to=(v:Int)::t/\v<=V/\key (eu z.1)=aT lv v:=by
  intro z hz;have hm:z.2∈dt n:=by rw[<-rm];exact AT hz
  have h1:=hs.Hz hm;have h2:=hk z hz;unfold lk at h2
  match e:z.2.to with
  |[]=>exact absurd e h1|v::t=>
   have h3:=hs.mI hm (v:=v) (by rw[e];simp)
   grind
 obtain⟨vx,tx,ex,bx,kx⟩:=hd x hx;obtain⟨vy,ty,ey,bY,ky⟩:=hd y hy;have f1:=abK (of:=of) (m:=m) (lv:=lv) (L:=L) (his x hx) ft hw;have f2:=abK (of:=of) (m:=m) (lv:=lv) (L:=L) (his y hy) ft hw;obtain⟨c,hc,hiff⟩:=alT (aT lv vx) (aT lv vy);refine⟨c,?_,by rw[kx,ky];exact hiff⟩;have g0:gt .I x.2.to (0:Int)=(vx:Int):=bz (σ:=.I) (i:=0) (by rw[ex];rfl);have g1:gt .I y.2.to (0:Int)=(vy:Int):=bz (σ:=.I) (i:=0) (by rw[ey];rfl);have gx:gt .I lv (vx:Int)=aT lv vx:=bz (σ:=.I) (ti auc);have gy:gt .I lv (vy:Int)=aT lv vy:=bz (σ:=.I) (ti auc);have ix:an (vx:Int) lv.length=true:=aug;have iy:an (vy:Int) lv.length=true:=aug;have nx:an (0:Int) (List.length x.2.to)=true:=aP ⟨auc,by rw[ex];simp⟩;have ny:an (0:Int) (List.length y.2.to)=true:=aP ⟨auc,by rw[ey];simp⟩;have jx:an (gt .I x.2.to (0:Int)) lv.length=true:=by rw[g0];exact ix
 have jy:an (gt .I y.2.to (0:Int)) lv.length=true:=by rw[g1];exact iy
 have hc':Re ((gt .I lv (gt .I x.2.to (0:Int))),(gt .I lv (gt .I y.2.to (0:Int))),())=some (c,()):=by rw[g0,g1,gx,gy];exact hc
 refine aZ f1 (aK nx (aK jx (RJ (aF rfl) (RJ (aF rfl) (RJ (aF rfl) (aK rfl (aZ f2 (aK ny (aK jy (aK nx (aK (aF rfl) (aK (aF rfl) (aK jx (aK (aF rfl) (aK (aF rfl) (aZ hc' rfl))))))))))))))))
theorem Fh(n:aB):(n6 n).map (fun x:cU×cg=>x.1)=d7 n:=by
 unfold n6 A6 M6 d7;rw[cH,cV,cV];congr 1
 .exact List.map_fst_zip (by rw[vH,aG];omega)
 .exact List.map_fst_zip (by rw[vF];omega)
theorem uO(n:aB){x:cU×cg}(h:x∈n6 n):x.1.is n x.2:=by
 obtain⟨i,hi⟩:=LT h;have h1:(d7 n)[i]?=some x.1:=by rw[<-Fh,cW,hi];rfl
 have h2:(dt n)[i]?=some x.2:=by rw[<-rm,cW,hi];rfl
 obtain⟨y,e,hy⟩:=xU n h1
 grind
def lvl(n:aB)(V:Nat):jp:=jt (bh n) ((n6 n).length+1) (kI (bh n) V)
def kH(n:aB)(V:Nat):List (cU×cg):=(List.range (n6 n).length).flatMap fun(i:Nat)=>(n6 n).filter fun x=>decide (lk (lvl n V) x.2=(i:Int)+1)
theorem Ff{V:Nat}(hs:cA n V)(hv:v<=V)(hl:dC (bh n) v k):aT (lvl n V) v=(k:Int):=by
 unfold lvl;have:(n6 n).length=(bh n).length:=by rw[<-sY,aG]
 rw[this];exact arF hs.apart hs.aS hv hl
theorem afX{V:Nat}(hs:cA n V){x:cU×cg}(h:x∈n6 n):(x.2.to.headD 0).toNat<=V/\(x.2.to.headD 0).toNat∈x.2.nd.to/\x.2.nd∈bh n:=by
 have hm:x.2∈dt n:=by rw[<-rm];exact AT h
 have h1:=hs.Hz hm;refine⟨?_,?_,?_⟩
 .match e:x.2.to with|[]=>exact absurd e h1|v::t=>have h3:=hs.mI hm (v:=v) (by rw[e];simp);rw[List.headD_cons];omega
 .unfold cg.nd
  match e:x.2.to with|[]=>exact absurd e h1|v::t=>simp
 .unfold bh;exact AT hm
theorem abx{V:Nat}(hs:cA n V)(ha:dO (bh n) V=true){x:cU×cg}(h:x∈n6 n):1<=lk (lvl n V) x.2/\lk (lvl n V) x.2<=((n6 n).length:Int):=by
 obtain⟨h1,h2,h3⟩:=afX hs h;obtain⟨k,hk⟩:=(jW hs.apart V).1 ha _ h1;unfold lk;rw[Ff hs h1 hk];have:(n6 n).length=(bh n).length:=by rw[<-sY,aG]
 have hle:=hk.le hs.apart;obtain⟨f,_,e⟩:=hk.inv hs.apart h3 h2;omega
theorem arE{V:Nat}(hs:cA n V)(ft:Fit n)(h0:da n=0) :
  afK (dn n,())=some (if dO (bh n) V then((kH n V).map (fun x=>eu x.1),true,())else([],false,())):=by
 have es:oQ (dn n,())=some (da n,()):=by unfold oQ;rw[show eH ((dn n,()):TL [cJ]).1=n from o6 n,pV ft];rfl
 have ew:=RP hs ft;obtain⟨m,lv,ea,hlv⟩:=Oq hs ft;by_cases ha:dO (bh n) V=true
 .obtain⟨hll,hlv⟩:=hlv ha;have et:tK (nt n ())=aum ((0:Int),wk n V m lv):=by refine aZ es (aN (by rw[h0];rfl) (aZ ew (aZ ea (aN (by rw[ha];rfl) rfl))))
  rw[IO ha]
  let key:cf->Int:=fun x=>lk (lvl n V) (nI n x)
  have hkey:∀x∈n6 n,key (eu x.1)=lk (lvl n V) x.2:=fun x hx=>by show lk (lvl n V) (nI n (eu x.1))=_;rw[aok (uO n hx)]
  have hk:∀x∈n6 n,key (eu x.1)=lk lv x.2:=fun x hx=>by rw[hkey x hx];obtain⟨h1,h2,h3⟩:=afX hs hx;unfold lk;obtain⟨k,e1,e2⟩:=hlv _ h1;rw[e1,Ff hs h1 e2]
  have hN:(d7 n).map eu=(n6 n).map (fun x=>eu x.1):=by rw[<-Fh,IR];rfl
  have hlen:(n6 n).length<=3000:=(xA hs).len;obtain⟨S',e1,hS⟩:=arZ (an8 hs ft (of:=gb (bh n) V (bh n).length) (m:=m) hll key hk (fun x hx=>uO n hx)) (S:=(d7 n).map eu) (by rw[hN,aG];omega) (fun x hx=>by grind);have hS':S'=(kH n V).map (fun x=>eu x.1):=by
   refine(hS.flat (n6 n).length (fun x hx=>?_)).trans ?_
   .rw[hN]at hx;obtain⟨y,hy,rfl⟩:=rt.1 hx;rw[hkey y hy];exact abx hs ha hy
   .unfold kH;rw[List.map_flatMap,hN];congr 1;funext i;unfold fk;rw[List.filter_map];congr 1;refine List.filter_congr fun x hx=>?_;show decide (key (eu x.1)=_)=_;rw[hkey x hx]
  rw[<-hS'];refine aZ et (aN rfl ?_);exact aZ e1 rfl
 .rw[Fr ha];have hc:dO (bh n) V=false:=by simpa using ha
  have et:tK (nt n ())=aul ((8:Int),()):=by refine aZ es (aN (by rw[h0];rfl) (aZ ew (aZ ea (ba (by rw[hc];rfl) rfl))))
  exact aZ et (aK rfl rfl)
def o7(lv:jp)(N:List (cU×cg))(a:Int)(k:Nat):List (cU×cg):=(N.take k).filter fun x=>decide (lk lv x.2=a)
theorem alR(lv:jp)(N:List (cU×cg))(a:Int)(k:Nat):(o7 lv N a k).length<=k:=by
 unfold o7
 grind
theorem anR(P:List bT.T)(z:bT.T)(h:P.length<=10000000):room 72 (List.length (P++(z::[])))=true:=by rw[bF,dG,If];exact q9 auc auc
theorem aop{V:Nat}(hs:cA n V)(lv:jp)(hlv:lv.length=V+1)(a:Int)(pre:List bT.T)(hp:pre.length<=9000000) :
  QO (lv,(n6 n).map bB,a,(0:Int),pre,())=some (lv,(n6 n).map bB,a,pre++(o7 lv (n6 n) a (n6 n).length).map bB,()):=by
 have h6:=xA hs;have hlen:=h6.len;unfold QO;delta u5;refine cO (fun k:Nat=>(lv,(n6 n).map bB,a,(k:Int),pre++(o7 lv (n6 n) a k).map bB,())) (n6 n).length ?_ ?_ ?_ auh
 .have:o7 lv (n6 n) a 0=[]:=rfl;rw[this,asr,di];rfl
 .intro k hk;have hx:=bA hk;have hm:=ut hk;generalize (n6 n)[k]=x at hx hm;have hx':((n6 n).map bB)[k]?=some (bB x):=by rw[cW,hx];rfl
  have hi:=jN hx';have d8:x.2.to≠[]:=hs.Hz (by rw[<-rm];exact AT hm);obtain⟨v,t,ev⟩:∃v t,x.2.to=v::t:=by match e:x.2.to with|[]=>exact absurd e d8|v::t=>exact⟨v,t,rfl⟩
  obtain⟨v0,v1⟩:=(h6.to x hm).2 v (by rw[ev];simp);obtain⟨u,hu⟩:=By v0;subst hu;have g0:gt .I (gt bT ((n6 n).map bB) (k:Int)).2.2.2.2.1 (0:Int)=(u:Int):=by rw[bz hx'];exact bz (σ:=.I) (i:=0) (by show x.2.to[0]?=_;rw[ev];rfl)
  have gl:lk lv x.2=aT lv u:=by unfold lk;rw[ev];rfl
  have g1:gt .I lv (gt .I (gt bT ((n6 n).map bB) (k:Int)).2.2.2.2.1 (0:Int))=lk lv x.2:=by rw[g0,gl];exact bz (σ:=.I) (ti auc)
  have i0:an (k:Int) (List.length ((n6 n).map bB))=true:=aug;have i1:an (0:Int) (List.length (gt bT ((n6 n).map bB) (k:Int)).2.2.2.2.1)=true:=by rw[bz hx'];exact aP ⟨auc,by show _<((x.2.to.length:Nat):Int);rw[ev];simp⟩
  have i2:an (gt .I (gt bT ((n6 n).map bB) (k:Int)).2.2.2.2.1 (0:Int)) lv.length=true:=by rw[g0];exact aug
  have gx:(gt bT ((n6 n).map bB) (k:Int))=bB x:=by rw[bz hx']<;>rfl
  have la:=alR lv (n6 n) a k;have e:∀(u u':Int) (A B:List bT.T),u=u'->A=B->(aul (lv,(n6 n).map bB,a,u,A,()) :am GJ GH)=aul (lv,(n6 n).map bB,a,u',B,()):=by rintro _ _ _ _ rfl rfl;rfl
  try dsimp only
  unfold GM;refine ba (aF (show(k:Int)<Int.ofNat (List.length ((n6 n).map bB)) by rw[aG];simp;omega)) (aK i0 (aK i1 (aK i2 ?_)));have st:o7 lv (n6 n) a (k+1)=o7 lv (n6 n) a k++(if lk lv x.2=a then[x]else[]):=by
   unfold o7;rw[cK hx,are];congr 1;by_cases q:lk lv x.2=a
   .rw[IO q];simp[q]
   .rw[Fr q];simp[q]
  by_cases q:lk lv x.2=a
  .rw[IO q]at st;refine ba (aF (g1.trans q)) (aK i0 (aK (anR _ _ (by rw[bF,aG];omega)) ?_));refine e _ _ _ _ (dD auc auc) ((OF (fun(z:bT.T)=>(pre++(o7 lv (n6 n) a k).map bB)++[z]) gx).trans ?_);rw[st,cH];exact List.append_assoc (α:=bT.T) _ _ _
  .rw[Fr q]at st;refine aN (aJ (fun h=>q (g1.symm.trans h))) (e _ _ _ _ (dD auc auc) ?_);rw[st,di]
 .try dsimp only
  unfold GM;exact aN (aJ (show ¬((n6 n).length:Int)<Int.ofNat (List.length ((n6 n).map bB)) by rw[aG];simp)) rfl
theorem arB{V:Nat}(hs:cA n V)(ft:Fit n)(h0:da n=0) :
  ae8 (dn n,())=some (if dO (bh n) V then((kH n V).map bB,true,())else([],false,())):=by
 have eL:=aee hs ft h0;have eN:=RO hs ft;have h6:=xA hs;have hlen:=h6.len;by_cases ha:dO (bh n) V=true
 .rw[IO ha]at eL |-;have hlv:(lvl n V).length=V+1:=by
   have:∀(N:List Nd) (r:Nat) (out:jp),(jt N r out).length=out.length:=by
    intro N r
    induction r with
    |zero=>intro out;rfl|succ r ih=>
     intro out;have hr:∀(N:List Nd) (out:jp),(jO N out).length=out.length:=by
      intro N;unfold jO
      induction N with|nil=>intro out;rfl|cons x N ihN=>intro out;rw[List.foldl_cons,ihN,T9]
     first|rw[jt,ih,hr]|rw[jt,hr,ih]
   unfold lvl;rw[this];unfold kI;rw[lT];simp
  let pt:Nat->List (cU×cg):=fun k=>(List.range k).flatMap fun(i:Nat)=>(n6 n).filter fun x=>decide (lk (lvl n V) x.2=(i:Int)+1)
  have pts:∀k,pt (k+1)=pt k++(n6 n).filter fun x=>decide (lk (lvl n V) x.2=(k:Int)+1):=fun k=>by show(List.range (k+1)).flatMap _=_;rw[asA,BT,ast]
  have ptl:∀k,(pt k).length<=k*3000:=by
   intro k
   induction k with|zero=>exact ro _|succ k ih=>rw[pts,bF];have:=List.length_filter_le (fun x:cU×cg=>decide (lk (lvl n V) x.2=(k:Int)+1)) (n6 n);omega
  have e7:ae7 (lvl n V,(n6 n).map bB,(1:Int),[],())=some ((kH n V).map bB,()):=by
   unfold ae7;delta u4;refine cO (fun k:Nat=>(lvl n V,(n6 n).map bB,((k+1:Nat):Int),(pt k).map bB,())) (n6 n).length rfl ?_ ?_ auh
   .intro k hk;have hp:=ptl k;have e10:=aop hs (lvl n V) hlv ((k+1:Nat):Int) ((pt k).map bB) (by rw[aG];have:k*3000<=3000*3000:=asm _ auc;omega);have e:∀(u u':Int) (A B:List bT.T),u=u'->A=B->(aul (lvl n V,(n6 n).map bB,u,A,()) :am GK GI)=aul (lvl n V,(n6 n).map bB,u',B,()):=by rintro _ _ _ _ rfl rfl;rfl
    try dsimp only
    unfold GO;refine ba (aF (show((k+1:Nat):Int)<=Int.ofNat (List.length ((n6 n).map bB)) by rw[aG];simp;omega)) (aZ e10 ?_);refine e _ _ _ _ (dD (n:=k+1+1) (show((k+1:Nat):Int)+1=_ by omega) auc) ?_;rw[pts,cH];congr 2;unfold o7;rw[cV];rfl
   .try dsimp only
    unfold GO;exact aN (aJ (show ¬(((n6 n).length+1:Nat):Int)<=Int.ofNat (List.length ((n6 n).map bB)) by rw[aG];simp;omega)) rfl
  exact aZ eL (aN rfl (aZ eN (aZ e7 rfl)))
 .rw[Fr ha]at eL |-;exact aZ eL (ba rfl rfl)
