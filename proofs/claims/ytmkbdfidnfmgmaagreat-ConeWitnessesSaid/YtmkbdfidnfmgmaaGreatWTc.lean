import Derived.Test.YtmkbdfidnfmgmaaGreatWTb
set_option linter.all false
section
namespace Go.Proofs.YtmkbdfidnfmgmaaGreat.V
open Go Go.RowKit
set_option maxRecDepth 1000000
abbrev aem:ai:=⟨[(0,.agg fR),(1,.agg [.fz .bool,.fz (.sl bk)])],[],0⟩
abbrev uT:List LA:=[.I,.fz .I,.fz af,.fz .I,.fz .I,.fz .I,.fz ah,.fz af,.fz an,.hd 1 .bool,.fB 2]
abbrev zW:List (Nat×LO):=[(0,.cells uT 92),(1,.arr .bool 4),(2,.fu 179),(3,.cells [.hd 4 .bool,.bool] 67),(4,.arr .bool 4),(5,.arr .bool 4)]
abbrev wX:List (Nat×LO):=[(0,.cells uT 92),(1,.arr .bool 4),(2,.fu 179),(3,.cells [.hd 4 .bool] 28),(4,.arr .bool 4)]
abbrev wY:List (Nat×LO):=[(0,.cells uT 92),(1,.arr .bool 4),(2,.fu 179),(3,.arr .bool 4)]
abbrev afy:ai:=⟨[(0,.ptr 0 0),(1,.fz .bool)],[(0,.cells uT 92),(1,.arr .bool 4),(2,.fu 179)],3⟩
abbrev afz:List (Nat×LO):=[(0,.cells uT 92),(1,.arr .bool 4),(2,.fu 179),(3,.cells [.bt,.bool] 67),(4,.arr .bool 4)]
abbrev GS:List (Ev.Ex×ai):=[(.ret,⟨[(0,.fw),(1,.I)],[],0⟩),(.ret,⟨[(0,.ptr 0 0),(1,.I)],[(0,.cells uT 92),(1,.arr .bool 4),(2,.fu 179)],3⟩)]
abbrev aeH:=be aem GS
abbrev Rc:=Kb 11 2 aem 2 GS
def arj(F0:aer)(F1:Ra)(F2:uG)(F3:aog)(F4:abD)(F5:Qx)(fp:Int)(jN:jp)(iH:bv)(kr ku kA:jp)(iw:ce)(j8:bv)(mu:md)(jO:List ii):Option (Out GS):=
 az (F2 ((fp,jN,iH,kr,ku,kA,iw,j8,()),())) fun x0=>
 br (Bool.not (iQ x0.1 (0:Int)))
 (
  atY (x0.1,()))
 (
  az (F5 (fp,jN,iH,kr,ku,kA,iw,j8,mu,jO,())) fun x1=>
  br (Bool.not (iQ x1.1 (0:Int)))
  (
   atY (x1.1,()))
  (
   az (F1 ((fp,jN,iH,kr,ku,kA,iw,j8,()),())) fun x2=>
   az (F0 ((fp,jN,iH,kr,ku,kA,iw,j8,()),())) fun x3=>
   az (F4 (mu,())) fun x4=>
   au (ov (Sh.beq an) x2.1 x2.1)<|
   atZ ((0:Int),x3.1.1,x3.1.2.1,x3.1.2.2.1,x3.1.2.2.2.1,x3.1.2.2.2.2.1,x3.1.2.2.2.2.2.1,x3.1.2.2.2.2.2.2.1,x3.1.2.2.2.2.2.2.2.1,x2.1,x4.1,x1.2.1,())))
def ari(c0:Q3)(c1:GY)(c2:sx)(c3:acm)(c4:abE)(c5:GB) :Rc:=⟨vl (arj c0.F c1.F c2.F c3.F c4.F c5.F),pB Tryz.func11 39 (kD c0 (kD c1 (kD c2 (kB c3 (kB c4 (kB c5 k0)))))) e0 1 (sS l0) fun d=>atP⟩
def aeI:Rc:=ari aes Rb sy aoh OZ Qy
def ap9:aeH:=aeI.F
abbrev acY:ai:=afy
abbrev PB:List (Ev.Ex×ai):=[(.ret,⟨[(0,.hd 3 .bool),(1,.I)],wY,4⟩)]
abbrev adg:=be acY PB
abbrev PY:=Kb 34 2 acY 2 PB
abbrev FI:ai:=⟨[(0,.ptr 0 0),(6,.ptr 3 0),(11,.func 81 [] [.ptr 3 0]),(84,.fz an),(85,.I),(86,.I)],wX,5⟩
abbrev FF:List (Ev.Ex×ai):=[((.exit 4),⟨[(6,.ptr 3 0)],wX,5⟩)]
abbrev acZ:=be FI FF
abbrev PO:=Ld 3 155 (cj [2] (bu Tryz.f34)) FI FF
abbrev FJ:ai:=⟨[(0,.ptr 0 0),(6,.ptr 3 0),(60,.hd 1 .bool),(61,.I),(62,.I)],wX,5⟩
abbrev FG:List (Ev.Ex×ai):=[((.exit 2),⟨[(0,.ptr 0 0),(6,.ptr 3 0)],wX,5⟩)]
abbrev ac0:=be FJ FG
abbrev ac1:=Ld 3 155 (cj [1] (bu Tryz.f34)) FJ FG
abbrev FM:ai:=⟨[(0,.ptr 0 0),(6,.ptr 3 0),(38,.fz .bool),(39,.I),(40,.I)],wX,5⟩
abbrev FH:List (Ev.Ex×ai):=[((.exit 0),⟨[(0,.ptr 0 0),(6,.ptr 3 0)],wX,5⟩)]
abbrev ac7:=be FM FH
abbrev ac9:=Ld 3 155 (cj [0] (bu Tryz.f34)) FM FH
def Ga(t38:md)(t39 t40 aA:Int)(aC:jp)(aK:bv)(aM aO aQ:jp)(aE:ce)(aG:bv)(fh:eq)(b1:md)(b2:List (Sh.T (.agg [.I,.I,(.sl bk)])))(b4:md):am FM FH:=
 br (iL t40 t39)
 (
  au (aw t40 t38.length)<|
  au (aw t40 aC.length)<|
  au (aw (gt .I aC t40) b4.length)<|
  atY (t38,t39,(qr (t40+(1:Int))),aA,aC,aK,aM,aO,aQ,aE,aG,fh,b1,b2,(List.set b4 (Int.toNat (gt .I aC t40)) (gt .bool t38 t40)),()))
 (
  atZ (aA,aC,aK,aM,aO,aQ,aE,aG,fh,b1,b2,b4,()))
def apA  :ac9:=cu (gm Ga) (pL k0 (eC Tryz.func81 atP e0) 5 l0 fun d=>atP)
def PT:ac7:=bp (gm Ga) NN
def FX(t61 t62 aA:Int)(aC:jp)(aK:bv)(aM aO aQ:jp)(aE:ce)(aG:bv)(fh:eq)(b1:md)(b2:List (Sh.T (.agg [.I,.I,(.sl bk)])))(b4:md):am FJ FG:=
 br (iL t62 t61)
 (
  au (aw t62 b1.length)<|
  au (aw t62 aK.length)<|
  au (aw (gt af aK t62).1 b4.length)<|
  atY (t61,(qr (t62+(1:Int))),aA,aC,aK,aM,aO,aQ,aE,aG,fh,b1,b2,(List.set b4 (Int.toNat (gt af aK t62).1) (gt .bool b1 t62)),()))
 (
  atZ (aA,aC,aK,aM,aO,aQ,aE,aG,fh,b1,b2,b4,()))
def apt  :ac1:=cu (iC FX) (pL k0 (eC Tryz.func81 atP e0) 5 l0 fun d=>atP)
def PM:ac0:=bp (iC FX) NN
def FW(F0:oU)(F1:QX)(F2:zu)(F3:Qp)(t84:eq)(t85 t86 aA:Int)(aC:jp)(aK:bv)(aM aO aQ:jp)(aE:ce)(aG:bv)(fh:eq)(b1:md)(b2:List (Sh.T (.agg [.I,.I,(.sl bk)])))(b4:md):am FI FF:=
 br (iL t86 t85)
 (
  au (aw t86 t84.length)<|
  br (Bool.not (gt an t84 t86).1)
  (
   au (aw (gt an t84 t86).2.2.1 aG.length)<|
   az (F0 ((gt af aG (gt an t84 t86).2.2.1).2.1,b4,())) fun x0=>
   br x0.1
   (
    au (iQ (gt af aG (gt an t84 t86).2.2.1).1 (gt af aG (gt an t84 t86).2.2.1).1)<|
    az (F0 ((gt af aG (gt an t84 t86).2.2.1).2.2.1,b4,())) fun x1=>
    au (aw (gt af aG (gt an t84 t86).2.2.1).1 b4.length)<|
    au (iQ (gt af aG (gt an t84 t86).2.2.1).1 (gt af aG (gt an t84 t86).2.2.1).1)<|
    atY (t84,t85,(qr (t86+(1:Int))),aA,aC,aK,aM,aO,aQ,aE,aG,fh,b1,b2,(List.set b4 (Int.toNat (gt af aG (gt an t84 t86).2.2.1).1) (bP true x1.1 false)),()))
   (
    au (iQ (gt af aG (gt an t84 t86).2.2.1).1 (gt af aG (gt an t84 t86).2.2.1).1)<|
    au (aw (gt af aG (gt an t84 t86).2.2.1).1 b4.length)<|
    atY (t84,t85,(qr (t86+(1:Int))),aA,aC,aK,aM,aO,aQ,aE,aG,fh,b1,b2,(List.set b4 (Int.toNat (gt af aG (gt an t84 t86).2.2.1).1) false),())))
  (
   au (aw (gt an t84 t86).2.1 aE.length)<|
   au (aw (gt an t84 t86).2.2.1 (List.length (gt ah aE (gt an t84 t86).2.1).2.2.2.1))<|
   au (aw (gt an t84 t86).2.1 b2.length)<|
   az (F2 ((gt cF (gt ah aE (gt an t84 t86).2.1).2.2.2.1 (gt an t84 t86).2.2.1).2.1,b4,())) fun x0=>
   az (F3 (x0.1,(List.getD b2 (Int.toNat (gt an t84 t86).2.1) (zR)).1,(List.getD b2 (Int.toNat (gt an t84 t86).2.1) (zR)).2.1,(List.getD b2 (Int.toNat (gt an t84 t86).2.1) (zR)).2.2.1,())) fun x1=>
   au (both (iE (0:Int) (gt cF (gt ah aE (gt an t84 t86).2.1).2.2.2.1 (gt an t84 t86).2.2.1).1) (iE (gt cF (gt ah aE (gt an t84 t86).2.1).2.2.2.1 (gt an t84 t86).2.2.1).1 (Int.ofNat b4.length)))<|
   az (F1 (x1.1,(gt ah aE (gt an t84 t86).2.1).2.1,())) fun x2=>
   atY (t84,t85,(qr (t86+(1:Int))),aA,aC,aK,aM,aO,aQ,aE,aG,fh,b1,(List.set b2 (Int.toNat (gt an t84 t86).2.1) x1.2),(lz b4 (Int.toNat (gt cF (gt ah aE (gt an t84 t86).2.1).2.2.2.1 (gt an t84 t86).2.2.1).1) (List.take (@HSub.hSub (Nat) (Nat) (Nat) _ b4.length (Int.toNat (gt cF (gt ah aE (gt an t84 t86).2.1).2.2.2.1 (gt an t84 t86).2.2.1).1)) x2.1)),())))
 (
  atZ (aA,aC,aK,aM,aO,aQ,aE,aG,fh,b1,b2,b4,()))
def apu(c0:nV)(c1:GW)(c2:wy)(c3:Gv) :PO:=cu (gm (FW c0.F c1.F c2.F c3.F)) (pL (kD c0 (kD c1 (kD c2 (kB c3 k0)))) (eC Tryz.func81 atP e0) 5 l0 fun d=>atP)
def aps:PO:=apu oV QY zv Qq
def PH:acZ:=bp (gm (FW lQ GP uF JB)) NN
def PX(F0:oU)(F1:QX)(F2:zu)(F3:Qp)(L5:ac7)(L10:ac0)(L16:acZ)(t1:md)(aA:Int)(aC:jp)(aK:bv)(aM aO aQ:jp)(aE:ce)(aG:bv)(fh:eq)(b1:md)(b2:List (Sh.T (.agg [.I,.I,(.sl bk)]))):Option (Out PB):=
 br (bP false true (Bool.not (iQ (Int.ofNat t1.length) (Int.ofNat aC.length))))
 (
  some ((1:Int),aA,aC,aK,aM,aO,aQ,aE,aG,fh,b1,b2,[],()))
 (
  au (both (iE (0:Int) (qr (aA+(1:Int)))) (both (iE (qr (aA+(1:Int))) (qr (aA+(1:Int)))) (iE ((Int.ofNat 1)*(qr (aA+(1:Int)))) (281474976710656:Int))))<|
  az (L5 (t1,(Int.ofNat t1.length),(0:Int),aA,aC,aK,aM,aO,aQ,aE,aG,fh,b1,b2,(List.replicate (Int.toNat (qr (aA+(1:Int)))) (Sh.zero .bool)),())) fun x0=>
  az (L10 ((Int.ofNat (List.length (eS x0))),(0:Int),x0)) fun x1=>
  az (L16 (dZ x1,(Int.ofNat (List.length (dZ x1))),(0:Int),x1)) fun x2=>
  some ((0:Int),x2))
def apF(c0:nV)(c1:GW)(c2:wy)(c3:Gv)(M5:ac9)(M10:ac1)(M16:PO):PY:=⟨bM (PX c0.F c1.F c2.F c3.F M5.L M10.L M16.L),pB Tryz.func34 155 (kD c0 (kD c1 (kD c2 (kB c3 k0)))) (eC Tryz.func81 atP e0) 5 (sS (sC M5 (sC M10 (sC M16 l0)))) fun d=>atP⟩
def adh:PY:=apF oV QY zv Qq apA apt aps
def ac8:adg:=adh.F
abbrev ac6:ai:=⟨[(0,.ptr 0 0),(1,.I),(2,.hd 3 .bool)],wY,4⟩
abbrev PG:List (Ev.Ex×ai):=[(.ret,⟨[],wY,4⟩)]
abbrev P6:=be ac6 PG
abbrev Gg:=Kb 72 3 ac6 0 PG
abbrev FV:ai:=⟨[(2,.hd 3 .bool),(6,.func 128 [.rp 2] []),(25,.fz bD),(26,.I),(27,.I)],wY,4⟩
abbrev FL:List (Ev.Ex×ai):=[((.exit 0),⟨[],wY,4⟩)]
abbrev ade:=be FV FL
abbrev PW:=Ld 4 46 (cj [0] (bu Tryz.f72)) FV FL
def Gc(F0:zu)(F1:oU)(F2:PC)(wS:Int)(t25:io)(t26 t27 aA:Int)(aC:jp)(aK:bv)(aM aO aQ:jp)(aE:ce)(aG:bv)(fh:eq)(b1:md)(b2:List (Sh.T (.agg [.I,.I,(.sl bk)])))(b3:md):am FV FL:=
 br (iL t27 t26)
 (
  au (aw t27 t25.length)<|
  az (F1 ((gt bD t25 t27).1,b3,())) fun x0=>
  br x0.1
  (
   az (F0 ((gt bD t25 t27).2.1,b3,())) fun x1=>
   az (F0 ((gt bD t25 t27).2.2.1,b3,())) fun x2=>
   az (F2 (x1.1,x2.1,(List.getD b2 (Int.toNat wS) (zR)).1,(List.getD b2 (Int.toNat wS) (zR)).2.1,(List.getD b2 (Int.toNat wS) (zR)).2.2.1,())) fun x3=>
   atY ((Int.ofNat (Int.toNat wS)),t25,t26,(qr (t27+(1:Int))),aA,aC,aK,aM,aO,aQ,aE,aG,fh,b1,(List.set b2 (Int.toNat wS) x3.2),b3,()))
  (
   atY ((Int.ofNat (Int.toNat wS)),t25,t26,(qr (t27+(1:Int))),aA,aC,aK,aM,aO,aQ,aE,aG,fh,b1,b2,b3,())))
 (
  atZ (aA,aC,aK,aM,aO,aQ,aE,aG,fh,b1,b2,b3,()))
def apE(c0:wy)(c1:nV)(c2:FK) :PW:=cu (u16 (Gc c0.F c1.F c2.F)) (pL (kD c0 (kD c1 (kB c2 k0))) e0 1 l0 fun d=>atP)
def apD:PW:=apE zv oV PF
def PV:ade:=bp (u16 (Gc uF lQ Ts)) NN
def apO(F0:zu)(F1:oU)(F2:PC)(L2:ade)(t1 aA:Int)(aC:jp)(aK:bv)(aM aO aQ:jp)(aE:ce)(aG:bv)(fh:eq)(b1:md)(b2:List (Sh.T (.agg [.I,.I,(.sl bk)])))(b3:md):Option (Out PG):=
 au (aw t1 b2.length)<|
 au (aw t1 aE.length)<|
 az (L2 ((Int.ofNat (Int.toNat t1)),(gt ah aE t1).2.2.2.2.1,(Int.ofNat (List.length (gt ah aE t1).2.2.2.2.1)),(0:Int),aA,aC,aK,aM,aO,aQ,aE,aG,fh,b1,b2,b3,())) fun x0=>
 some x0
def apN(c0:wy)(c1:nV)(c2:FK)(M2:PW):Gg:=⟨kI (apO c0.F c1.F c2.F M2.L),pB Tryz.func72 46 (kD c0 (kD c1 (kB c2 k0))) e0 1 (sS (sC M2 l0)) fun d=>atP⟩
def P7:Gg:=apN zv oV PF apD
def adf:P6:=P7.F
abbrev adi:ai:=afy
abbrev PU:List (Ev.Ex×ai):=[(.ret,⟨[(0,.agg [.hd 3 .bool,.bool]),(1,.I)],wY,4⟩)]
abbrev Qb:=be adi PU
abbrev Gk:=Kb 30 2 adi 2 PU
abbrev FZ:ai:=⟨[(0,.ptr 0 0),(4,.ptr 3 0),(6,.hd 5 .bool),(89,.I),(90,.I)],zW,6⟩
abbrev FN:List (Ev.Ex×ai):=[((.exit 6),⟨[(4,.ptr 3 0)],[(0,.cells uT 92),(1,.arr .bool 4),(2,.fu 179),(3,.cells [.hd 4 .bool,.bool] 67),(4,.arr .bool 4)],5⟩)]
abbrev adj:=be FZ FN
abbrev PZ:=Ld 3 99 (cj [3] (bu Tryz.f30)) FZ FN
abbrev F8:ai:=⟨[(0,.ptr 0 0),(4,.ptr 3 0),(6,.hd 5 .bool),(67,.fz af),(68,.I),(69,.I)],zW,6⟩
abbrev FO:List (Ev.Ex×ai):=[((.exit 4),⟨[(0,.ptr 0 0),(4,.ptr 3 0),(6,.hd 5 .bool)],zW,6⟩)]
abbrev adk:=be F8 FO
abbrev P0:=Ld 3 99 (cj [2] (bu Tryz.f30)) F8 FO
abbrev F9:ai:=⟨[(0,.ptr 0 0),(4,.ptr 3 0),(6,.hd 5 .bool),(48,.fz .I),(49,.I),(50,.I)],zW,6⟩
abbrev FP:List (Ev.Ex×ai):=[((.exit 2),⟨[(0,.ptr 0 0),(4,.ptr 3 0),(6,.hd 5 .bool)],zW,6⟩)]
abbrev adl:=be F9 FP
abbrev P4:=Ld 3 99 (cj [1] (bu Tryz.f30)) F9 FP
abbrev Gb:ai:=⟨[(0,.ptr 0 0),(4,.ptr 3 0),(6,.hd 4 .bool),(29,.fz .I),(30,.I),(31,.I)],afz,5⟩
abbrev FY:List (Ev.Ex×ai):=[((.exit 0),⟨[(0,.ptr 0 0),(4,.ptr 3 0),(6,.hd 4 .bool)],afz,5⟩)]
abbrev adp:=be Gb FY
abbrev P8:=Ld 3 99 (cj [0] (bu Tryz.f30)) Gb FY
def Gh(F0:oU)(t29:jp)(t30 t31 aA:Int)(aC:jp)(aK:bv)(aM aO aQ:jp)(aE:ce)(aG:bv)(fh:eq)(b1:md)(b2:List (Sh.T (.agg [.I,.I,(.sl bk)])))(nu:Bool)(b4:md):am Gb FY:=
 br (iL t31 t30)
 (
  au (aw t31 t29.length)<|
  br nu
  (
   az (F0 ((gt .I t29 t31),b4,())) fun x0=>
   atY (t29,t30,(qr (t31+(1:Int))),aA,aC,aK,aM,aO,aQ,aE,aG,fh,b1,b2,(bP true x0.1 false),b4,()))
  (
   atY (t29,t30,(qr (t31+(1:Int))),aA,aC,aK,aM,aO,aQ,aE,aG,fh,b1,b2,false,b4,())))
 (
  atZ (aA,aC,aK,aM,aO,aQ,aE,aG,fh,b1,b2,nu,b4,()))
def apQ(c0:nV) :P8:=cu (u16 (Gh c0.F)) (pL (kD c0 k0) e0 1 l0 fun d=>atP)
def apP:P8:=apQ oV
def adq:adp:=bp (u16 (Gh lQ)) NN
def Gf(F0:oU)(t48:jp)(t49 t50 aA:Int)(aC:jp)(aK:bv)(aM aO aQ:jp)(aE:ce)(aG:bv)(fh:eq)(b1:md)(b2:List (Sh.T (.agg [.I,.I,(.sl bk)])))(nu:Bool)(b4 b5:md):am F9 FP:=
 br (iL t50 t49)
 (
  au (aw t50 t48.length)<|
  az (F0 ((gt .I t48 t50),b5,())) fun x0=>
  au (room 1 (List.length (ap b4 (x0.1::[]))))<|
  atY (t48,t49,(qr (t50+(1:Int))),aA,aC,aK,aM,aO,aQ,aE,aG,fh,b1,b2,nu,(ap b4 (x0.1::[])),b5,()))
 (
  atZ (aA,aC,aK,aM,aO,aQ,aE,aG,fh,b1,b2,nu,b4,b5,()))
def apL(c0:nV) :P4:=cu (jv (Gf c0.F)) (pL (kD c0 k0) e0 1 l0 fun d=>atP)
def apI:P4:=apL oV
def ado:adl:=bp (jv (Gf lQ)) NN
def Ge(F0:oU)(t67:bv)(t68 t69 aA:Int)(aC:jp)(aK:bv)(aM aO aQ:jp)(aE:ce)(aG:bv)(fh:eq)(b1:md)(b2:List (Sh.T (.agg [.I,.I,(.sl bk)])))(nu:Bool)(b4 b5:md):am F8 FO:=
 br (iL t69 t68)
 (
  au (aw t69 t67.length)<|
  az (F0 ((gt af t67 t69).2.1,b5,())) fun x0=>
  au (aw t69 b1.length)<|
  atY (t67,t68,(qr (t69+(1:Int))),aA,aC,aK,aM,aO,aQ,aE,aG,fh,(List.set b1 (Int.toNat t69) x0.1),b2,nu,b4,b5,()))
 (
  atZ (aA,aC,aK,aM,aO,aQ,aE,aG,fh,b1,b2,nu,b4,b5,()))
def apK(c0:nV) :P0:=cu (jv (Ge c0.F)) (pL (kD c0 k0) e0 1 l0 fun d=>atP)
def apH:P0:=apK oV
def adn:adk:=bp (jv (Ge lQ)) NN
def Gd(F1:P6)(t89 t90 aA:Int)(aC:jp)(aK:bv)(aM aO aQ:jp)(aE:ce)(aG:bv)(fh:eq)(b1:md)(b2:List (Sh.T (.agg [.I,.I,(.sl bk)])))(nu:Bool)(b4 b5:md):am FZ FN:=
 br (iL t90 t89)
 (
  az (F1 (t90,aA,aC,aK,aM,aO,aQ,aE,aG,fh,b1,b2,b5,())) fun x0=>
  atY (t89,(qr (t90+(1:Int))),x0.1,x0.2.1,x0.2.2.1,cT x0,cQ x0,cK x0,cU x0,dz x0,dZ x0,eS x0,dH x0,nu,b4,fW x0,()))
 (
  atZ (aA,aC,aK,aM,aO,aQ,aE,aG,fh,b1,b2,nu,b4,()))
def apJ(c1:Gg) :PZ:=cu (u16 (Gd c1.F)) (pL (kB c1 k0) e0 1 l0 fun d=>atP)
def apG:PZ:=apJ P7
def adm:adj:=bp (u16 (Gd adf)) NN
def apY(F0:oU)(F1:P6)(F2:adg)(L6:adp)(L11:adl)(L16:adk)(L21:adj)(t1:md)(aA:Int)(aC:jp)(aK:bv)(aM aO aQ:jp)(aE:ce)(aG:bv)(fh:eq)(b1:md)(b2:List (Sh.T (.agg [.I,.I,(.sl bk)]))):Option (Out PU):=
 az (F2 (t1,aA,aC,aK,aM,aO,aQ,aE,aG,fh,b1,b2,())) fun x0=>
 br (Bool.not (iQ x0.1 (0:Int)))
 (
  some (false,x0.1,x0.2.1,x0.2.2.1,cT x0,cQ x0,cK x0,cU x0,dz x0,dZ x0,eS x0,dH x0,fW x0,[],()))
 (
  az (L6 (cU x0,(Int.ofNat (List.length (cU x0))),(0:Int),x0.2.1,x0.2.2.1,cT x0,cQ x0,cK x0,cU x0,dz x0,dZ x0,eS x0,dH x0,fW x0,true,fK x0,())) fun x1=>
  az (L11 (cQ x1,(Int.ofNat (List.length (cQ x1))),(0:Int),x1.1,x1.2.1,x1.2.2.1,cT x1,cQ x1,cK x1,cU x1,dz x1,dZ x1,eS x1,dH x1,fW x1,[],fK x1,())) fun x2=>
  az (L16 (x2.2.2.1,(Int.ofNat (List.length x2.2.2.1)),(0:Int),x2)) fun x3=>
  az (L21 ((Int.ofNat (List.length (dH x3))),(0:Int),x3)) fun x4=>
  some (fW x4,(0:Int),x4.1,x4.2.1,x4.2.2.1,cT x4,cQ x4,cK x4,cU x4,dz x4,dZ x4,eS x4,dH x4,fK x4,()))
def apX(c0:nV)(c1:Gg)(c2:PY)(M6:P8)(M11:P4)(M16:P0)(M21:PZ):Gk:=⟨bM (apY c0.F c1.F c2.F M6.L M11.L M16.L M21.L),pB Tryz.func30 99 (kD c0 (kB c1 (kB c2 k0))) e0 1 (sS (sC M6 (sC M11 (sC M16 (sC M21 l0))))) fun d=>atP⟩
def Qc:Gk:=apX oV P7 adh apP apI apH apG
def pV:Qb:=Qc.F
open Go.Proofs.YtmkbdfidnfmgmaaGreat.Pl
def iS(v:md)(l:List (Int×Bool)):md:=l.foldl (fun v p=>v.set p.1.toNat p.2) v
theorem sw:∀(l:List (Int×Bool)) (v:md),(iS v l).length=v.length
 |[],v=>rfl|p::l,v=>by show(iS (v.set p.1.toNat p.2) l).length=_;rw[sw l,acl]
theorem QF(v:md)(l:List (Int×Bool))(p:Int×Bool):iS v (l++[p])=(iS v l).set p.1.toNat p.2:=by unfold iS;rw[asd];rfl
def lE(n:ak)(ls ins:md):md:=iS (iS (List.replicate (n.vars.toNat+1) false) (n.al.zip ins)) ((n.ag.map (·.var)).zip ls)
def fQ(n:ak)(cs:List (List bA))(v:md)(x:cV×cx):md:=
 if x.1.rd=false then v.set (x.2.to.headD 0).toNat (bE (x.2.bj.getD 0 0) v&&bE (x.2.bj.getD 1 0) v)
 else iS v (x.2.to.zip (iR (rd (cs.getD x.1.mem []) (ff (x.2.bj.map (bE · v)))).toNat x.2.to.length))
theorem aqL(n:ak)(cs:List (List bA))(v:md)(x:cV×cx):(fQ n cs v x).length=v.length:=by
 unfold fQ;split
 .rw[acl]
 .rw[sw]
def cz(n:ak)(ls:md)(cs:List (List bA))(ins:md):md:=(cG n n.vars.toNat).foldl (fQ n cs) (lE n ls ins)
theorem zw(n:ak)(cs:List (List bA)):∀(l:List (cV×cx)) (v:md),(l.foldl (fQ n cs) v).length=v.length
 |[],v=>rfl|x::l,v=>by rw[atn,zw n cs l,aqL]
theorem G0(n:ak)(ls ins:md):(lE n ls ins).length=n.vars.toNat+1:=by unfold lE;rw[sw,sw,gp]
structure pW(m:cf)(k:Nat)(c:List bA):Prop where
 Ba:R3 c
 len:c.length<=k
 at_:∀p∈c,0<=p.1/\p.1<2^m.addr.toNat
 wd:∀p∈c,0<p.2.1/\p.2.1<2^m.word.toNat
structure nR(n:ak)(k:Nat)(ls:md)(cs:List (List bA)):Prop where
 rK:ls.length=n.ag.length
 rI:cs.length=n.ae.length
 ok:∀(i:Nat) (m:cf) (c:List bA),n.ae[i]?=some m->cs[i]?=some c->pW m k c
theorem alA(c:List bA)(a:Int):rd c a=0\/∃p∈c,rd c a=p.2.1:=by
 induction c with
 |nil=>exact .inl rfl|cons p c ih=>
  rw[ark];by_cases q:p.1=a
  .rw[IO q];exact .inr ⟨p,atQ,rfl⟩
  .rw[BT q];rcases ih with h|⟨r,hr,h⟩
   .exact .inl h
   .exact .inr ⟨r,by simp[hr],h⟩
variable{c:List bA}{m:cf}{k:Nat}
theorem alB(h:pW m k c)(hw:m.word<=64)(a:Int):0<=rd c a/\rd c a<18446744073709551616:=by
 rcases alA c a with e|⟨p,hp,e⟩
 .omega
 .have:=h.wd p hp;have h2:(2:Int)^m.word.toNat<=2^64:=by
   have:=Nat.pow_le_pow_right (n:=2) atS (show m.word.toNat<=64 by omega)
   exact_mod_cast this
  have h3:(2:Int)^64=18446744073709551616:=atS
  omega
theorem uI{n:ak}{V:Nat}{x:cV×cx}(h:x∈cG n V):x∈n6 n:=by unfold cG at h;obtain⟨i,_,hx⟩:=rg.1 h;exact(arg.1 hx).1
theorem aeT{n:ak}{V:Nat}(hs:bR n V):(cG n V).length<=9000000:=by have h:=(NC hs).len;unfold cG;have:=sm (fun(i:Nat)=>(n6 n).filter fun x=>decide (lk (lvl n V) x.2=(i:Int)+1)) (List.range (n6 n).length) 3000 (fun i _=>IS (List.length_filter_le _ _) h);rw[asO]at this;have h2:(n6 n).length*3000<=3000*3000:=arP _ h;omega
def dK(n:ak)(cs:List (List bA)):List fD:=List.zipWith (fun(m:cf) (c:List bA)=>(m.addr,m.word,c,())) n.ae cs
variable{cs:List (List bA)}
theorem GZ{n:ak}(h:cs.length=n.ae.length):(dK n cs).length=n.ae.length:=by unfold dK;rw[List.length_zipWith];omega
variable{i:Nat}
theorem Hb{n:ak}(h1:n.ae[i]?=some m)(h2:cs[i]?=some c):(dK n cs)[i]?=some (m.addr,m.word,c,()):=by unfold dK;rw[asT,h1,h2]
variable{off:Nat}{u:md}
theorem arq{A:md}{b:Bool}(h:off+A.length<u.length):lz u off (A++[b])=(lz u off A).set (off+A.length) b:=by
 unfold lz;have hd:=wA (L:=u) (i:=off+A.length) h;have e:u.take off++(A++u.drop (off+A.length))=(u.take off++A)++u[off+A.length]::u.drop (off+A.length+1):=by rw[hd];simp
 rw[e,zS (by rw[bU,fx];omega)];simp[asp]
theorem ajR{bs:md}(h:off+bs.length<=u.length):lz u off bs=iS u ((bZ (off:Int) bs.length).zip bs):=by
 have hz:((bZ (off:Int) bs.length).zip bs).length=bs.length:=by rw[List.length_zip,AB];omega
 have main:∀k,k<=bs.length->lz u off (bs.take k)=iS u (((bZ (off:Int) bs.length).zip bs).take k):=by
  intro k
  induction k with
  |zero=>intro _;rw[arR,arR,aeU];rfl|succ k ih=>
   intro hk;have h1:=ast (l:=bs) (i:=k) atO;have h2:(bZ (off:Int) bs.length)[k]?=some ((off:Int)+(k:Int)):=by unfold bZ;rw[ct,arT atO];rfl
   have h3:((bZ (off:Int) bs.length).zip bs)[k]?=some ((off:Int)+(k:Int),bs[k]):=by rw[arQ];exact⟨h2,h1⟩
   have hl:(bs.take k).length=k:=by rw[fx];omega
   rw[Pl.eE h1,Pl.eE h3,QF,<-ih atO,arq (by rw[hl];omega),hl];congr 1
 have:=main bs.length (rt _);rw[eX]at this;rw[this,If (ato hz)]
theorem aq5(a ad w:Int)(M:List bA):JB (a,ad,w,M,())=some (rd M a,ad,w,M,()):=by show S6 a ad w M=_;unfold S6;exact PP (fun z:Int=>(some (z,ad,w,M,()):Option (Out I8))) (Y1 M a)
def mc{α:Type}(n:ak)(ord:List (cV×cx))(ls:md)(rs:List fD)(r:α):=nt n (ord.map (fun x=>dC x.1),ls,rs,r)
section
variable{n:ak}{V:Nat}(hs:bR n V)(ft:Fit n)
include hs
theorem arF(ord:List (cV×cx))(ls ins:md)(rs:List fD)(v:md)(hv:v.length=V+1)(hi:ins.length=n.al.length) :
  PT (ins,(ins.length:Int),(0:Int),mc n ord ls rs (v,()))=some (mc n ord ls rs (iS v (n.al.zip ins),())):=by
 have hl:=hs.lens.1;have hz:(n.al.zip ins).length=n.al.length:=by rw[List.length_zip];omega
 unfold PT;delta gm u3 bM bX;refine d9 (fun k:Nat=>(ins,(ins.length:Int),(k:Int),mc n ord ls rs (iS v ((n.al.zip ins).take k),()))) n.al.length rfl ?_ ?_ atU
 .intro k hk;have h1:=ba hk;have h2:=ast (l:=ins) (i:=k) atO;have h3:(n.al.zip ins)[k]?=some (n.al[k],ins[k]):=by rw[arQ];exact⟨h1,h2⟩
  have hr:=hs.dY n.al[k] (by unfold aX;simp);have e:∀(a b:md) (p q:Int),a=b->p=q->(atY (ins,(ins.length:Int),p,mc n ord ls rs (a,())):am FM FH)=atY (ins,(ins.length:Int),q,mc n ord ls rs (b,())):=by rintro _ _ _ _ rfl rfl;rfl
  unfold mc nt
  try dsimp only
  unfold Ga;have g1:gt .I n.al (k:Int)=n.al[k]:=bI (σ:=.I) h1;refine aR (aD (show(k:Int)<(ins.length:Int) by omega)) (aS atT (aS atT (aS ?_ (e _ _ _ _ ?_ (dL atO atO)))))
  .rw[g1];exact aU ⟨atO,by rw[sw,hv];omega⟩
  .rw[Pl.eE h3,QF,g1];have g2:gt .bool ins (k:Int)=ins[k]:=bI (σ:=.bool) h2;rw[g2];rfl
 .unfold mc nt
  try dsimp only
  unfold Ga;rw[<-hz,eX,hz];exact ax (aF (show ¬(n.al.length:Int)<(ins.length:Int) by omega)) rfl
theorem amo(ord:List (cV×cx))(ls:md)(rs:List fD)(v:md)(hv:v.length=V+1)(hi:ls.length=n.ag.length) :
  PM ((ls.length:Int),(0:Int),mc n ord ls rs (v,()))=some (mc n ord ls rs (iS v ((n.ag.map (·.var)).zip ls),())):=by
 have hl:=hs.lens.2.1;have hz:((n.ag.map (·.var)).zip ls).length=n.ag.length:=by rw[List.length_zip,aP];omega
 unfold PM;delta iC u2 bM bX;refine d9 (fun k:Nat=>((ls.length:Int),(k:Int),mc n ord ls rs (iS v (((n.ag.map (·.var)).zip ls).take k),()))) n.ag.length rfl ?_ ?_ atU
 .intro k hk;have h1:=ba hk;have h1':(n.ag.map bq)[k]?=some (bq n.ag[k]):=by rw[ct,h1];rfl
  have h2:=ast (l:=ls) (i:=k) atO;have h3:((n.ag.map (·.var)).zip ls)[k]?=some (n.ag[k].var,ls[k]):=by rw[arQ,ct,h1];exact⟨rfl,h2⟩
  have hr:=hs.dY n.ag[k].var (by unfold aX;simp only[rc];exact .inl (.inl (.inr (ro.2 ⟨_,By hk,rfl⟩))));have e:∀(a b:md) (p q:Int),a=b->p=q->(atY ((ls.length:Int),p,mc n ord ls rs (a,())):am FJ FG)=atY ((ls.length:Int),q,mc n ord ls rs (b,())):=by rintro _ _ _ _ rfl rfl;rfl
  have hL:((n.ag.map bq).length:Int)=(n.ag.length:Int):=by rw[aP]
  unfold mc nt
  try dsimp only
  unfold FX;have g1:(gt af (n.ag.map bq) (k:Int)).1=n.ag[k].var:=by rw[bI (σ:=af) h1'];rfl
  refine aR (aD (show(k:Int)<(ls.length:Int) by omega)) (aS atT (aS atT (aS ?_ (e _ _ _ _ ?_ (dL atO atO)))))
  .rw[g1];exact aU ⟨atO,by rw[sw,hv];omega⟩
  .rw[Pl.eE h3,QF,g1];have g2:gt .bool ls (k:Int)=ls[k]:=bI (σ:=.bool) h2;rw[g2];rfl
 .unfold mc nt
  try dsimp only
  unfold FX;rw[<-hz,eX,hz];exact ax (aF (show ¬(n.ag.length:Int)<(ls.length:Int) by omega)) rfl
include ft
theorem amp{K:Nat}(hK:K<=5000)(ls:md)(cs:List (List bA))(ok:nR n K ls cs)(v:md)(hv:v.length=V+1) :
  PH ((cG n V).map (fun x=>dC x.1),((cG n V).length:Int),(0:Int),mc n (cG n V) ls (dK n cs) (v,()))=some (mc n (cG n V) ls (dK n cs) ((cG n V).foldl (fQ n cs) v,())):=by
 have hol:=aeT hs;have h6:=NC hs;unfold PH;delta gm u3 bM bX;refine d9 (fun k:Nat=>((cG n V).map (fun x=>dC x.1),((cG n V).length:Int),(k:Int),mc n (cG n V) ls (dK n cs) (((cG n V).take k).foldl (fQ n cs) v,()))) (cG n V).length rfl ?_ ?_ atU
 .intro k hk;have hx:=ba hk;have hm:=uI (By hk);have hst:((cG n V).take (k+1)).foldl (fQ n cs) v=fQ n cs (((cG n V).take k).foldl (fQ n cs) v) (cG n V)[k]:=by rw[Pl.eE hx,asd];rfl
  have hlen:(((cG n V).take k).foldl (fQ n cs) v).length=V+1:=by rw[zw,hv]
  generalize ((cG n V).take k).foldl (fQ n cs) v=u at hst hlen;have hx':((cG n V).map (fun x=>dC x.1))[k]?=some (dC (cG n V)[k].1):=by rw[ct,hx];rfl
  generalize (cG n V)[k]=x at hx' hm hst;have hi:=jj hx';have his:=uv n hm;have hmI:x.2∈dj n:=by rw[<-p9];exact AI hm
  have hg:gt an ((cG n V).map (fun x=>dC x.1)) (k:Int)=dC x.1:=bI (σ:=an) hx';have bz:aw (k:Int) (List.length ((cG n V).map (fun x=>dC x.1)))=true:=atT;have e:∀(a b:md) (p q:Int) (R R':List fD),a=b->p=q->R=R'->(atY ((cG n V).map (fun x=>dC x.1),((cG n V).length:Int),p,mc n (cG n V) ls R (a,())):am FI FF)=atY ((cG n V).map (fun x=>dC x.1),((cG n V).length:Int),q,mc n (cG n V) ls R' (b,())):=by rintro _ _ _ _ _ _ rfl rfl rfl;rfl
  have hk1:qr ((k:Int)+(1:Int))=((k+1:Nat):Int):=dL atO atO;rw[hst];unfold mc nt
  try dsimp only
  unfold FW;rw[hg];refine aR (aD (show(k:Int)<((cG n V).length:Int) by omega)) (aS bz ?_);have hf:=h6.bj x hm;have hv2:=hs.v2;rcases his with⟨h,a,ha,hI⟩|⟨h,M,r,hM,hr,hI⟩
  .-- a gate
   have ef:x.2.to=[a.var]:=by rw[hI];rfl
   have hfr:x.2.bj=[a.a,a.b]:=by rw[hI];rfl
   have ra:=hf.2 a.a (by rw[hfr];simp);have rb:=hf.2 a.b (by rw[hfr];simp);have rv:=hs.mf hmI (v:=a.var) (by rw[ef];simp);have ha':(n.aj.map bc)[x.1.pos]?=some (bc a):=by rw[ct,ha];rfl
   have hal:=jj ha';have gA:gt af (n.aj.map bc) (x.1.pos:Int)=bc a:=bI (σ:=af) ha';have e0:lQ ((gt af (n.aj.map bc) (x.1.pos:Int)).2.1,u,())=some (bE a.a u,()):=by rw[gA];exact uH a.a u atO
   have e1:lQ ((gt af (n.aj.map bc) (x.1.pos:Int)).2.2.1,u,())=some (bE a.b u,()):=by rw[gA];exact uH a.b u atO
   have gv:(gt af (n.aj.map bc) (x.1.pos:Int)).1=a.var:=by rw[gA];rfl
   have iv:aw (gt af (n.aj.map bc) (x.1.pos:Int)).1 u.length=true:=by rw[gv];exact atT
   have hn:fQ n cs u x=u.set a.var.toNat (bE a.a u&&bE a.b u):=by unfold fQ;rw[IO h,ef,hfr];rfl
   have ee:∀(p q:Int) (c d:Bool),p=q->c=d->List.set u (Int.toNat p) c=List.set u (Int.toNat q) d:=by rintro _ _ _ _ rfl rfl;rfl
   refine aR (show Bool.not x.1.rd=true by rw[h];rfl) (aS (show aw (x.1.pos:Int) (List.length (n.aj.map bc))=true from atT) (aB e0 ?_));cases hA:bE a.a u with
   |true=>refine aR rfl (aS (aD rfl) (aB e1 (aS iv (aS (aD rfl) (e _ _ _ _ _ _ ?_ hk1 rfl)))));rw[hn,hA];exact ee _ _ _ _ gv (by cases bE a.b u<;>rfl)
   |false=>refine ax rfl (aS (aD rfl) (aS iv (e _ _ _ _ _ _ ?_ hk1 rfl)));rw[hn,hA];exact ee _ _ _ _ gv rfl
  .-- a port
   have hMm:=dy hM;obtain⟨hm1,hm2,hm3,hm4,hm5,hm6,_⟩:=hs.ae M hMm;have hrm:=dy hr;have ef:x.2.to=bZ r.var M.word.toNat:=by rw[hI];rfl
   have hfr:x.2.bj=r.addr:=by rw[hI];rfl
   have hfl:=hm5 r hrm;have hml:=jj hM;have hcs:=ok.rI;have hcc:=ast (l:=cs) (i:=x.1.mem) atO;have hcok:=ok.ok x.1.mem M cs[x.1.mem] hM hcc;have hM':(n.ae.map aI)[x.1.mem]?=some (aI M):=by rw[ct,hM];rfl
   have hR':(M.reads.map fC)[x.1.pos]?=some (fC r):=by rw[ct,hr];rfl
   have hrl:=jj hR';have gM:gt ah (n.ae.map aI) (x.1.mem:Int)=aI M:=bI (σ:=ah) hM';have gR:gt cF (gt ah (n.ae.map aI) (x.1.mem:Int)).2.2.2.1 (x.1.pos:Int)=fC r:=by rw[gM];exact bI (σ:=cF) hR'
   obtain⟨W,hW⟩:=BY (show 0<=M.word by omega);have htl:x.2.to.length=W:=by rw[ef,AB,hW];rfl
   have rv0:=hs.mf hmI (v:=r.var) (by rw[ef];unfold bZ;exact ro.2 ⟨0,Id.2 atO,atQ⟩);have rv1:=hs.mf hmI (v:=r.var+((W-1:Nat):Int)) (by rw[ef];unfold bZ;exact ro.2 ⟨W-1,Id.2 atO,rfl⟩);obtain⟨p,hp⟩:=BY (show 0<=r.var by omega);have e2:uF ((gt cF (gt ah (n.ae.map aI) (x.1.mem:Int)).2.2.2.1 (x.1.pos:Int)).2.1,u,())=some ((ff (x.2.bj.map (bE · u)):Int),()):=by rw[gR,hfr];exact Rd r.addr u atO (fun l hl=>by have:=hf.2 l (by rw[hfr];exact hl);omega)
   have hra:=Hb (n:=n) (cs:=cs) hM hcc;have hrd:List.getD (dK n cs) (Int.toNat (x.1.mem:Int)) zR=(M.addr,M.word,cs[x.1.mem],()):=by rw[eu,Ne,hra];rfl
   have e1:JB ((ff (x.2.bj.map (bE · u)):Int),(List.getD (dK n cs) (Int.toNat (x.1.mem:Int)) zR).1,(List.getD (dK n cs) (Int.toNat (x.1.mem:Int)) zR).2.1,(List.getD (dK n cs) (Int.toNat (x.1.mem:Int)) zR).2.2.1,())=some (rd cs[x.1.mem] (ff (x.2.bj.map (bE · u))),M.addr,M.word,cs[x.1.mem],()):=by rw[hrd];exact aq5 _ _ _ _
   have hrr:=alB hcok atO (ff (x.2.bj.map (bE · u)));obtain⟨q,hq⟩:=BY hrr.1;have e0:GP (rd cs[x.1.mem] (ff (x.2.bj.map (bE · u))),(gt ah (n.ae.map aI) (x.1.mem:Int)).2.1,())=some (iR q W,()):=by
    have gw:(gt ah (n.ae.map aI) (x.1.mem:Int)).2.1=M.word:=by rw[gM];rfl
    rw[gw,hq,hW];exact aiu q W atO atO
   have hn:fQ n cs u x=iS u (x.2.to.zip (iR q W)):=by unfold fQ;rw[BT (by rw[h];simp),eu,hcc,htl];show iS u (x.2.to.zip (iR (rd cs[x.1.mem] _).toNat W))=_;rw[hq];rfl
   have gvr:(gt cF (gt ah (n.ae.map aI) (x.1.mem:Int)).2.2.2.1 (x.1.pos:Int)).1=(p:Int):=by rw[gR,<-hp];rfl
   have hcp:lz u p (List.take (u.length-p) (iR q W))=fQ n cs u x:=by rw[If (by rw[wu];omega),hn,ajR (by rw[wu];omega),wu,ef,hp,hW];rfl
   have hset:List.set (dK n cs) (Int.toNat (x.1.mem:Int)) (M.addr,M.word,cs[x.1.mem],())=dK n cs:=by rw[Ne];have hlt:=jj hra;rw[ba hlt]at hra;injection hra with hra;rw[<-hra];exact List.set_getElem_self hlt
   have hb:∀y:Int,y=(p:Int)->both (iE (0:Int) y) (iE y (Int.ofNat u.length))=true:=by rintro _ rfl;show both (decide _) (decide _)=true;rw[dt atO,dt (by show(p:Int)<=(u.length:Int);omega)];rfl
   have ee:∀(y:Int),y=(p:Int)->lz u (Int.toNat y) (List.take (u.length-Int.toNat y) (iR q W))=fQ n cs u x:=by rintro _ rfl;rw[Ne];exact hcp
   refine ax (show Bool.not x.1.rd=false by rw[h];rfl) (aS (show aw (x.1.mem:Int) (List.length (n.ae.map aI))=true from aU ⟨atO,by rw[aP];omega⟩) (aS (show aw (x.1.pos:Int) (List.length (gt ah (n.ae.map aI) (x.1.mem:Int)).2.2.2.1)=true by rw[gM];exact aU ⟨atO,by show _<((M.reads.map fC).length:Int);omega⟩)
    (aS (show aw (x.1.mem:Int) (List.length (dK n cs))=true from aU ⟨atO,by rw[GZ ok.rI];omega⟩) (aB e2 (aB e1 (aS (hb _ gvr) (aB e0 (e _ _ _ _ _ _ (ee _ gvr) hk1 hset))))))))
 .unfold mc nt
  try dsimp only
  unfold FW;rw[eX];exact ax (aF (show ¬((cG n V).length:Int)<((cG n V).length:Int) by omega)) rfl
theorem aq3{K:Nat}(hK:K<=5000)(ls ins:md)(cs:List (List bA))(ok:nR n K ls cs)(hi:ins.length=n.al.length) :
  ac8 (ins,mc n (cG n V) ls (dK n cs) ())=some ((0:Int),mc n (cG n V) ls (dK n cs) (cz n ls cs ins,())):=by
 have hv2:=hs.v2;have hV:n.vars.toNat=V:=by rw[hs.vars];rfl
 have hw:qr (n.vars+1)=((V+1:Nat):Int):=by rw[hs.vars,atX];omega
 have e5:=arF hs (cG n V) ls ins (dK n cs) (List.replicate (V+1) false) atQ hi;have e10:=amo hs (cG n V) ls (dK n cs) (iS (List.replicate (V+1) false) (n.al.zip ins)) (by rw[sw];simp) ok.rK;have hval:iS (iS (List.replicate (V+1) false) (n.al.zip ins)) ((n.ag.map (·.var)).zip ls)=lE n ls ins:=by unfold lE;rw[hV]
 rw[hval]at e10;have e16:=amp hs ft hK ls cs ok (lE n ls ins) (by rw[G0,hV]);have hfin:(cG n V).foldl (fQ n cs) (lE n ls ins)=cz n ls cs ins:=by unfold cz;rw[hV]
 rw[hfin]at e16;have hol:((cG n V).length:Int)=((((cG n V).map (fun x=>dC x.1)).length:Nat):Int):=by rw[aP]
 rw[hol]at e16;show PX lQ GP uF JB PT PM PH ins n.vars n.al (n.ag.map bq) n.aZ n.aN n.constraints (n.ae.map aI) (n.aj.map bc) ((cG n V).map (fun x=>dC x.1)) ls (dK n cs)=_;unfold PX;have q1:(iQ (Int.ofNat ins.length) (Int.ofNat (List.length n.al)))=true:=aD (by rw[hi]);rw[hw];refine ax (by rw[q1];rfl) (aS (by show both (decide _) (both (decide _) (decide _))=true;rw[dt atO,dt atO,dt (by show(1:Int)*_<=_;omega)];rfl) (aB e5 (aB e10 (aB e16 rfl))))
end
variable{K:Nat}
def oH(v:md)(c:List bA)(w:l6):List bA:=if bE w.on v=true then wr c (ff (w.addr.map (bE · v))) (ff (w.data.map (bE · v)))else c
def oP(v:md)(m:cf)(c:List bA):List bA:=m.writes.foldl (oH v) c
def jI(n:ak)(v:md):md:=n.ag.map fun l=>bE l.next v
def jY(n:ak)(cs:List (List bA))(v:md):List (List bA):=List.zipWith (oP v) n.ae cs
def lj(n:ak)(v:md):md:=n.aN.map (bE · v)
def kh(n:ak)(v:md):Bool:=n.constraints.all (bE · v)
theorem aeW{a:Int}{q:bA}:∀{L:List bA},q∈sM a L->q∈L
 |[],h=>h|p::M,h=>by
  rw[adU]at h;split at h
  .simp[h]
  .rcases GE.1 h with h|h
   .simp[h]
   .simp[aeW h]
theorem aeV{a w:Int}{q:bA}:∀{L:List bA},q∈sN a w L->q=(a,w,())\/q∈L
 |[],h=>by have:q∈[((a,w,()):bA)]:=h;simp at this;exact .inl this|p::M,h=>by
  rw[adK]at h;split at h
  .rcases GE.1 h with h|h
   .exact .inl h
   .exact .inr h
  .split at h
   .rcases GE.1 h with h|h
    .exact .inl h
    .exact .inr (by simp[h])
   .rcases GE.1 h with h|h
    .exact .inr (by simp[h])
    .rcases aeV h with h|h
     .exact .inl h
     .exact .inr (by simp[h])
theorem Zi{a w:Int}{q:bA}{L:List bA}(h:q∈wr L a w):(w≠0/\q=(a,w,()))\/q∈L:=by
 unfold wr at h;split at h
 .exact .inr (aeW h)
 .rename_i h0;rcases aeV h with h|h
  .exact .inl ⟨h0,h⟩
  .exact .inr h
theorem G6{l:md}{k:Int}(h:(l.length:Int)=k):((ff l:Nat):Int)<2^k.toNat:=by
 have e:k.toNat=l.length:=atO
 have:=aeA l;rw[e]
 exact_mod_cast this
variable{w:l6}
theorem alP{v:md}(h:pW m k c)(ha:(w.addr.length:Int)=m.addr)(hd:(w.data.length:Int)=m.word):pW m (k+1) (oH v c w):=by
 unfold oH;split
 .refine⟨alR h.Ba,IS (alQ _ _ _) (by have:=h.len;omega),fun p hp=>?_,fun p hp=>?_⟩
  .rcases Zi hp with⟨h0,rfl⟩|hp
   .exact⟨by show(0:Int)<=((ff _:Nat):Int);omega,G6 (by rw[aP];exact ha)⟩
   .exact h.at_ p hp
  .rcases Zi hp with⟨h0,rfl⟩|hp
   .exact⟨by show(0:Int)<((ff _:Nat):Int);omega,G6 (by rw[aP];exact hd)⟩
   .exact h.wd p hp
 .exact⟨h.Ba,by have:=h.len;omega,h.at_,h.wd⟩
theorem aeD{m:cf}{v:md}:∀{l:List l6}{k:Nat}{c:List bA},pW m k c->(∀w∈l,(w.addr.length:Int)=m.addr/\(w.data.length:Int)=m.word)->pW m (k+l.length) (l.foldl (oH v) c)
 |[],k,c,h,_=>h|w::l,k,c,h,hw=>by have:=aeD (v:=v) (l:=l) (alP (v:=v) h (hw w atQ).1 (hw w atQ).2) (fun x hx=>hw x (by simp[hx]));rw[atn,di];rw[show k+1+l.length=k+(l.length+1) by omega]at this;exact this
theorem ae2{n:ak}{V:Nat}(hs:bR n V){ls:md}(ok:nR n K ls cs)(v:md):nR n (K+4) (jI n v) (jY n cs v):=by
 refine⟨by unfold jI;rw[aP],by unfold jY;rw[List.length_zipWith];have:=ok.rI;omega,fun i m c hm hc=>?_⟩;unfold jY at hc;rw[asT,hm]at hc;have hlt:=jj hm;have hlc:i<cs.length:=by have:=ok.rI;omega
 have h2:=ba hlc;rw[h2]at hc;injection hc with hc;obtain⟨_,_,_,_,_,h6,_,h8⟩:=hs.ae m (dy hm);have:=aeD (v:=v) (ok.ok i m cs[i] hm h2) h6;rw[<-hc];exact⟨this.Ba,by have:=this.len;unfold oP;omega,this.at_,this.wd⟩
section
variable{n:ak}{V:Nat}(hs:bR n V)
include hs
theorem wB{l:Int}(h:l∈bJ n):l<9223372036854775808:=by have:=hs.lits l h;have:=hs.v2;omega
theorem aqK(hm:m∈n.ae)(hw:w∈m.writes):w.on<9223372036854775808/\(∀l∈w.addr,l<9223372036854775808)/\∀l∈w.data,l<9223372036854775808:=by
 have bz:∀l∈iP w,l∈bJ n:=fun l hl=>by unfold bJ;simp only[rc];refine .inl (.inr (rg.2 ⟨m,hm,?_⟩));unfold fi;rw[rc];exact .inr (rg.2 ⟨w,hw,hl⟩)
 exact⟨wB hs (bz _ (by unfold iP;simp)),fun l hl=>wB hs (bz _ (by unfold iP;simp[hl])),fun l hl=>wB hs (bz _ (by unfold iP;simp[hl]))⟩
end
theorem Hf{x k:Int}(h0:0<=x)(h:x<2^k.toNat):nM x k=true:=by unfold nM;rw[dt (Int.ediv_eq_zero_of_lt h0 h)]
theorem aqU{a w:Nat}{M:List bA}(m1:1<=m.addr/\m.addr<=62)(m2:1<=m.word/\m.word<=64)(ha:(a:Int)<2^m.addr.toNat)(hw:(w:Int)<2^m.word.toNat) :
  Ts ((a:Int),(w:Int),m.addr,m.word,M,())=some (true,m.addr,m.word,wr M a w,()):=by
 have f1:=xu (v:=(a:Int)) (w:=m.addr) ⟨atO,atO⟩;have f2:=xu (v:=(w:Int)) (w:=m.word) ⟨atO,atO⟩;rw[Hf atO ha]at f1;rw[Hf atO hw]at f2;show S4 I6 (a:Int) (w:Int) m.addr m.word M=_;unfold S4;have e:∀A B:List bA,A=B->(some (true,m.addr,m.word,A,()):Option (Out I7))=some (true,m.addr,m.word,B,()):=by rintro _ _ rfl;rfl
 refine aB f1 (ax rfl (aB f2 (ax rfl ?_)));unfold wr;by_cases h0:(w:Int)=0
 .rw[IO h0];exact aR (aD h0) (e _ _ (Rm _ _))
 .rw[BT h0];exact ax (aF h0) (e _ _ (Rl _ _ _))
section
variable{n:ak}{V:Nat}(hs:bR n V)
include hs
theorem ajH(ord:List (cV×cx))(ls:md)(rs:List fD)(v:md)(hm:n.ae[i]?=some m)(hc:pW m K c)(hK:K<=5000)(hr:i<rs.length) :
  PV ((i:Int),m.writes.map fy,(m.writes.length:Int),(0:Int),mc n ord ls (rs.set i (m.addr,m.word,c,())) (v,()))=some (mc n ord ls (rs.set i (m.addr,m.word,oP v m c,())) (v,())):=by
 have hmm:=dy hm;obtain⟨m1,m2,m3,m4,_,h6,_,h8⟩:=hs.ae m hmm;unfold PV;delta u16 u4 bM bX;refine d9 (fun k:Nat=>((i:Int),m.writes.map fy,(m.writes.length:Int),(k:Int),mc n ord ls (rs.set i (m.addr,m.word,(m.writes.take k).foldl (oH v) c,())) (v,()))) m.writes.length rfl ?_ ?_ atU
 .intro k hk;have hx:=ba hk;have hwm:=By hk;have hst:(m.writes.take (k+1)).foldl (oH v) c=oH v ((m.writes.take k).foldl (oH v) c) m.writes[k]:=by rw[Pl.eE hx,asd];rfl
  rw[hst];generalize (m.writes.take k).foldl (oH v) c=u;obtain⟨l1,l2,l3⟩:=aqK hs hmm hwm;obtain⟨a1,a2⟩:=h6 _ hwm;have hw':(m.writes.map fy)[k]?=some (fy m.writes[k]):=by rw[ct,hx];rfl
  have hwl:=jj hw';generalize m.writes[k]=w at l1 l2 l3 a1 a2 hw';have gW:gt bD (m.writes.map fy) (k:Int)=fy w:=bI (σ:=bD) hw';have e0:lQ ((gt bD (m.writes.map fy) (k:Int)).1,v,())=some (bE w.on v,()):=by rw[gW];exact uH w.on v l1
  have e1:uF ((gt bD (m.writes.map fy) (k:Int)).2.1,v,())=some ((ff (w.addr.map (bE · v)):Int),()):=by rw[gW];exact Rd w.addr v atO l2
  have e2:uF ((gt bD (m.writes.map fy) (k:Int)).2.2.1,v,())=some ((ff (w.data.map (bE · v)):Int),()):=by rw[gW];exact Rd w.data v atO l3
  have hg:List.getD (rs.set i (m.addr,m.word,u,())) (Int.toNat (i:Int)) zR=(m.addr,m.word,u,()):=by rw[eu,Ne,arK hr];rfl
  have e3:Ts ((ff (w.addr.map (bE · v)):Int),(ff (w.data.map (bE · v)):Int),(List.getD (rs.set i (m.addr,m.word,u,())) (Int.toNat (i:Int)) zR).1,(List.getD (rs.set i (m.addr,m.word,u,())) (Int.toNat (i:Int)) zR).2.1,(List.getD (rs.set i (m.addr,m.word,u,())) (Int.toNat (i:Int)) zR).2.2.1,())=some (true,m.addr,m.word,wr u (ff (w.addr.map (bE · v))) (ff (w.data.map (bE · v))),()):=by rw[hg];exact aqU ⟨m1,m2⟩ ⟨m3,m4⟩ (G6 (by rw[aP];exact a1)) (G6 (by rw[aP];exact a2))
  have e:∀(A B:List fD) (p q:Int),A=B->p=q->(atY ((i:Int),m.writes.map fy,(m.writes.length:Int),p,mc n ord ls A (v,())):am FV FL)=atY ((i:Int),m.writes.map fy,(m.writes.length:Int),q,mc n ord ls B (v,())):=by rintro _ _ _ _ rfl rfl;rfl
  unfold mc nt
  try dsimp only
  unfold Gc;refine aR (aD (show(k:Int)<(m.writes.length:Int) by omega)) (aS atT (aB e0 ?_));unfold oH;cases hon:bE w.on v with|true=>rw[IO rfl];refine aR rfl (aB e1 (aB e2 (aB e3 (e _ _ _ _ ?_ (dL atO atO)))));exact List.set_set _|false=>rw[BT atQ];exact ax rfl (e _ _ _ _ rfl (dL atO atO))
 .unfold mc nt
  try dsimp only
  unfold Gc;rw[eX];exact ax (aF (show ¬(m.writes.length:Int)<(m.writes.length:Int) by omega)) rfl
theorem arb(ord:List (cV×cx))(ls:md)(rs:List fD)(v:md)(hm:n.ae[i]?=some m)(hc:pW m K c)(hK:K<=5000)(hr:rs[i]?=some (m.addr,m.word,c,())) :
  adf ((i:Int),mc n ord ls rs (v,()))=some (mc n ord ls (rs.set i (m.addr,m.word,oP v m c,())) (v,())):=by
 have hm':(n.ae.map aI)[i]?=some (aI m):=by rw[ct,hm];rfl
 have hi:=jj hm';have hri:=jj hr;have hset:rs.set i (m.addr,m.word,c,())=rs:=by rw[ba hri]at hr;injection hr with hr;rw[<-hr];exact List.set_getElem_self hri
 have e2:=ajH hs ord ls rs v hm hc hK hri;rw[hset]at e2;have gM:gt ah (n.ae.map aI) (i:Int)=aI m:=bI (σ:=ah) hm';have hwl:((gt ah (n.ae.map aI) (i:Int)).2.2.2.2.1)=m.writes.map fy:=by rw[gM];rfl
 have ee:∀(L:List bD.T),L=m.writes.map fy->PV ((Int.ofNat (Int.toNat (i:Int))),L,(Int.ofNat L.length),(0:Int),mc n ord ls rs (v,()))=some (mc n ord ls (rs.set i (m.addr,m.word,oP v m c,())) (v,())):=by
  rintro _ rfl;have hl:Int.ofNat (m.writes.map fy).length=(m.writes.length:Int):=by rw[aP];rfl
  rw[hl];exact e2
 exact aS (show aw (i:Int) rs.length=true from atT) (aS (show aw (i:Int) (List.length (n.ae.map aI))=true from atT) (aB (ee _ hwl) rfl))
theorem akK(ord:List (cV×cx))(ls:md)(rs:List fD)(v:md) :
  adq (n.constraints,(n.constraints.length:Int),(0:Int),mc n ord ls rs (true,v,()))=some (mc n ord ls rs (kh n v,v,())):=by
 have hl:=hs.lens.2.2.2.1;unfold adq;delta u16 u4 bM bX;refine d9 (fun k:Nat=>(n.constraints,(n.constraints.length:Int),(k:Int),mc n ord ls rs ((n.constraints.take k).all (bE · v),v,()))) n.constraints.length rfl ?_ ?_ atU
 .intro k hk;have hx:=ba hk;have hm:n.constraints[k]∈bJ n:=by unfold bJ;simp only[rc];exact .inl (.inl (.inr (By hk)))
  have e1:lQ (gt .I n.constraints (k:Int),v,())=some (bE n.constraints[k] v,()):=by rw[bI (σ:=.I) hx];exact uH _ _ (wB hs hm)
  have ht:(n.constraints.take (k+1)).all (bE · v)=((n.constraints.take k).all (bE · v)&&bE n.constraints[k] v):=by rw[Pl.eE hx,List.all_append];simp
  have e:∀(a b:Bool) (p q:Int),a=b->p=q->(atY (n.constraints,(n.constraints.length:Int),p,mc n ord ls rs (a,v,())):am Gb FY)=atY (n.constraints,(n.constraints.length:Int),q,mc n ord ls rs (b,v,())):=by rintro _ _ _ _ rfl rfl;rfl
  rw[ht];unfold mc nt
  try dsimp only
  unfold Gh;refine aR (aD (show(k:Int)<(n.constraints.length:Int) by omega)) (aS atT ?_);cases(n.constraints.take k).all (bE · v)with
  |true=>exact aR rfl (aB e1 (e _ _ _ _ (by cases bE n.constraints[k] v<;>rfl) (dL atO atO)))
  |false=>exact ax rfl (e _ _ _ _ rfl (dL atO atO))
 .unfold mc nt
  try dsimp only
  unfold Gh;rw[eX];exact ax (aF (show ¬(n.constraints.length:Int)<(n.constraints.length:Int) by omega)) rfl
theorem ajt(ord:List (cV×cx))(ls:md)(rs:List fD)(f:Bool)(v:md) :
  ado (n.aN,(n.aN.length:Int),(0:Int),mc n ord ls rs (f,[],v,()))=some (mc n ord ls rs (f,lj n v,v,())):=by
 have hl:=hs.lens.2.2.2.1;unfold ado;delta jv u5 bM bX;refine d9 (fun k:Nat=>(n.aN,(n.aN.length:Int),(k:Int),mc n ord ls rs (f,(n.aN.take k).map (bE · v),v,()))) n.aN.length rfl ?_ ?_ atU
 .intro k hk;have hx:=ba hk;have hm:n.aN[k]∈bJ n:=by unfold bJ;simp only[rc];exact .inl (.inl (.inl (.inr (By hk))))
  have e1:lQ (gt .I n.aN (k:Int),v,())=some (bE n.aN[k] v,()):=by rw[bI (σ:=.I) hx];exact uH _ _ (wB hs hm)
  have ht:(n.aN.take (k+1)).map (bE · v)=(n.aN.take k).map (bE · v)++[bE n.aN[k] v]:=by rw[Pl.eE hx,d7];rfl
  have e:∀(a b:md) (p q:Int),a=b->p=q->(atY (n.aN,(n.aN.length:Int),p,mc n ord ls rs (f,a,v,())):am F9 FP)=atY (n.aN,(n.aN.length:Int),q,mc n ord ls rs (f,b,v,())):=by rintro _ _ _ _ rfl rfl;rfl
  unfold mc nt
  try dsimp only
  unfold Gf;exact aR (aD (show(k:Int)<(n.aN.length:Int) by omega)) (aS atT (aB e1 (aS (ZF _ _ (by rw[aP,fx];omega)) (e _ _ _ _ ht.symm (dL atO atO)))))
 .unfold mc nt
  try dsimp only
  unfold Gf;rw[eX];exact ax (aF (show ¬(n.aN.length:Int)<(n.aN.length:Int) by omega)) rfl
theorem aeY{α:Type}{A B:List α}{x:α}(hA:A[k]?=some x)(hB:k<B.length):(A.take k++B.drop k).set k x=A.take (k+1)++B.drop (k+1):=by have hk:=(ut.1 hA).1;rw[wA hB,zS (by rw[fx];omega),Pl.eE hA];simp
theorem aju(ord:List (cV×cx))(ls:md)(rs:List fD)(f:Bool)(bs v:md)(hls:ls.length=n.ag.length) :
  adn (n.ag.map bq,((n.ag.map bq).length:Int),(0:Int),mc n ord ls rs (f,bs,v,()))=some (mc n ord (jI n v) rs (f,bs,v,())):=by
 have hl:=hs.lens.2.1;have hL:((n.ag.map bq).length:Int)=(n.ag.length:Int):=by rw[aP]
 have hnl:(jI n v).length=n.ag.length:=by unfold jI;rw[aP]
 unfold adn;delta jv u5 bM bX;refine d9 (fun k:Nat=>(n.ag.map bq,((n.ag.map bq).length:Int),(k:Int),mc n ord ((jI n v).take k++ls.drop k) rs (f,bs,v,()))) n.ag.length rfl ?_ ?_ atU
 .intro k hk;have hx:=ba hk;have hx':(n.ag.map bq)[k]?=some (bq n.ag[k]):=by rw[ct,hx];rfl
  have hn:(jI n v)[k]?=some (bE n.ag[k].next v):=by unfold jI;rw[ct,hx];rfl
  have hm:n.ag[k].next∈bJ n:=by unfold bJ;simp only[rc];exact .inl (.inl (.inl (.inl (.inl (ro.2 ⟨_,By hk,rfl⟩)))))
  have e1:lQ ((gt af (n.ag.map bq) (k:Int)).2.1,v,())=some (bE n.ag[k].next v,()):=by rw[bI (σ:=af) hx'];exact uH n.ag[k].next v (wB hs hm)
  have hmix:((jI n v).take k++ls.drop k).set k (bE n.ag[k].next v)=(jI n v).take (k+1)++ls.drop (k+1):=aeY hs hn atO;have hml:((jI n v).take k++ls.drop k).length=n.ag.length:=by rw[bU,fx,asl];omega
  have e:∀(a b:md) (p q:Int),a=b->p=q->(atY (n.ag.map bq,((n.ag.map bq).length:Int),p,mc n ord a rs (f,bs,v,())):am F8 FO)=atY (n.ag.map bq,((n.ag.map bq).length:Int),q,mc n ord b rs (f,bs,v,())):=by rintro _ _ _ _ rfl rfl;rfl
  unfold mc nt
  try dsimp only
  unfold Ge;exact aR (aD (show(k:Int)<((n.ag.map bq).length:Int) by omega)) (aS atT (aB e1 (aS atT (e _ _ _ _ hmix (dL atO atO)))))
 .have hfin:(jI n v).take n.ag.length++ls.drop n.ag.length=jI n v:=by rw[aso atO,d6,If atO]
  rw[hfin];unfold mc nt
  try dsimp only
  unfold Ge;exact ax (aF (show ¬(n.ag.length:Int)<((n.ag.map bq).length:Int) by omega)) rfl
theorem ajv(ord:List (cV×cx))(ls nl:md)(cs:List (List bA))(hK:K<=5000)(ok:nR n K ls cs)(f:Bool)(bs v:md) :
  adm (((dK n cs).length:Int),(0:Int),mc n ord nl (dK n cs) (f,bs,v,()))=some (mc n ord nl (dK n (jY n cs v)) (f,bs,())):=by
 have hM:=hs.lens.2.2.2.2;have hcl:=ok.rI;have hz:(jY n cs v).length=n.ae.length:=by unfold jY;rw[List.length_zipWith];omega
 have hr1:=GZ hcl;have hr2:=GZ hz;unfold adm;delta u16 u4 bM bX;refine d9 (fun k:Nat=>(((dK n cs).length:Int),(k:Int),mc n ord nl ((dK n (jY n cs v)).take k++(dK n cs).drop k) (f,bs,v,()))) n.ae.length rfl ?_ ?_ atU
 .intro k hk;have hx:=ba hk;have hkc:k<cs.length:=atO
  have hy:=ba hkc;have hn:(jY n cs v)[k]?=some (oP v n.ae[k] cs[k]):=by unfold jY;rw[asT,hx,hy]
  have ha:=Hb hx hy;have hb:=Hb hx hn;have hmid:((dK n (jY n cs v)).take k++(dK n cs).drop k)[k]?=some (n.ae[k].addr,n.ae[k].word,cs[k],()):=by rw[WF (by rw[fx];omega),fx,asx atO,Nat.sub_self,atl];exact ha
  have ew:=arb hs ord nl ((dK n (jY n cs v)).take k++(dK n cs).drop k) v hx (ok.ok k _ _ hx hy) hK hmid;rw[aeY hs hb atO]at ew;have e:∀(p q:Int) (R:List fD),p=q->(atY (((dK n cs).length:Int),p,mc n ord nl R (f,bs,v,())):am FZ FN)=atY (((dK n cs).length:Int),q,mc n ord nl R (f,bs,v,())):=by rintro _ _ _ rfl;rfl
  unfold mc nt
  try dsimp only
  unfold Gd;exact aR (aD (show(k:Int)<((dK n cs).length:Int) by omega)) (aB ew (e _ _ _ (dL atO atO)))
 .have hfin:(dK n (jY n cs v)).take n.ae.length++(dK n cs).drop n.ae.length=dK n (jY n cs v):=by rw[aso atO,d6,If atO]
  rw[hfin];unfold mc nt
  try dsimp only
  unfold Gd;exact ax (aF (show ¬(n.ae.length:Int)<((dK n cs).length:Int) by omega)) rfl
theorem ajw(ft:Fit n)(hK:K<=5000)(ls ins:md)(cs:List (List bA))(ok:nR n K ls cs)(hi:ins.length=n.al.length) :
  pV (ins,mc n (cG n V) ls (dK n cs) ())=some (kh n (cz n ls cs ins),(0:Int),mc n (cG n V) (jI n (cz n ls cs ins)) (dK n (jY n cs (cz n ls cs ins))) (lj n (cz n ls cs ins),())):=by
 have ev:=aq3 hs ft hK ls ins cs ok hi;generalize cz n ls cs ins=v at ev;exact aB ev (ax rfl (aB (akK hs (cG n V) ls (dK n cs) v) (aB (ajt hs (cG n V) ls (dK n cs) (kh n v) v) (aB (aju hs (cG n V) ls (dK n cs) (kh n v) (lj n v) v ok.rK) (aB (ajv hs (cG n V) ls (jI n v) cs hK ok (kh n v) (lj n v) v) rfl)))))
theorem aqR(ord:List (cV×cx))(ls ins:md)(rs:List fD)(hi:ins.length≠n.al.length) :
  ac8 (ins,mc n ord ls rs ())=some ((1:Int),mc n ord ls rs ([],())):=by
 have q1:(iQ (Int.ofNat ins.length) (Int.ofNat (List.length n.al)))=false:=aF (fun h=>hi (Int.ofNat.inj h));exact aR (show bP false true (Bool.not (iQ (Int.ofNat ins.length) (Int.ofNat (List.length n.al))))=true by rw[q1];rfl) rfl
theorem ard(ord:List (cV×cx))(ls ins:md)(rs:List fD)(hi:ins.length≠n.al.length) :
  pV (ins,mc n ord ls rs ())=some (false,(1:Int),mc n ord ls rs ([],())):=
 aB (aqR hs ord ls ins rs hi) (aR rfl rfl)
