import Derived.Test.YtmkbdfidnfmgmaaGreatWRd
import Derived.Test.YtmkbdfidnfmgmaaGreatWCb
set_option linter.all false
section
namespace Go.Proofs.YtmkbdfidnfmgmaaGreat.V
open Go Go.RowKit
set_option maxRecDepth 1000000
abbrev wU:List (Nat×LO):=[(0,.cells [.I,.fz .I,.fz af,.fz .I,.fz .I,.fz .I,.fz ah,.fz af,.hd 1 .bool,.hd 2 .bool,.hd 6 .I,.mp 4,.mp 5] 110),(1,.arr .bool 4),(2,.arr .bool 4),(4,.map .i64 .I),(5,.map .i64 .I),(6,.arr .I 3)]
abbrev Io:List LA:=[.I,.fz .I,.fz af,.fz .I,.fz .I,.fz .I,.fz ah,.fz af,.hd 2 .bool,.hd 3 .bool,.hd 4 .I,.mp 5,.mp 6]
abbrev wV:List (Nat×LO):=[(0,.cells [.ptr 1 0] 105),(1,.cells Io 110),(2,.arr .bool 4),(3,.arr .bool 4),(4,.arr .I 3),(5,.map .i64 .I),(6,.map .i64 .I),(7,.cells fR 27),(8,.arr .I 3)]
abbrev Ik:List (Nat×LO):=[(0,.cells fR 27),(1,.cells [.hd 2 .bool] 28),(2,.arr .bool 4),(3,.cells [.ptr 4 0] 152),(4,.cells [.I,.fz .I,.fz af,.fz .I,.fz .I,.fz .I,.fz ah,.fz af,.hd 5 .I,.hd 6 an,.hd 7 (.int .u8),.hd 8 .I] 160),(5,.arr .I 3),(6,.arr an 146),(7,.arr (.int .u8) 5),(8,.arr .I 3),(9,.cells [.func 188 [] [.ptr 0 0,.ptr 1 0,.ptr 3 0,.ptr 9 0]] 213)]
abbrev Il:List (Nat×LO):=[(0,.cells fR 27),(1,.cells [.I,.fz .I,.fz af,.fz .I,.fz .I,.fz .I,.fz ah,.fz af,.hd 2 .bool,.hd 3 .bool,.bt,.mp 4,.mp 5] 110),(2,.arr .bool 4),(3,.arr .bool 4),(4,.map .i64 .I),(5,.map .i64 .I)]
abbrev Im:List (Nat×LO):=[(0,.cells [.I,.fz .I,.fz af,.fz .I,.fz .I,.fz .I,.fz ah,.fz af,.hd 1 .bool,.hd 2 .bool,.hd 3 .I,.mp 4,.mp 5] 110),(1,.arr .bool 4),(2,.arr .bool 4),(3,.arr .I 3),(4,.map .i64 .I),(5,.map .i64 .I)]
abbrev RP:List LA:=[.I,.fz .I,.fz af,.fz .I,.fz .I,.fz .I,.fz ah,.fz af,.hd 7 .bool,.hd 8 .bool,.hd 9 .I,.mp 10,.mp 11]
abbrev qh:List LA:=[.I,.bt,.bt,.bt,.bt,.bt,.bt,.bt]
abbrev afn:List (Nat×LO):=[(0,.cells fR 27),(1,.cells [.I,.fz .I,.fz af,.fz .I,.fz .I,.fz .I,.fz ah,.fz af,.hd 2 .bool,.hd 3 .bool,.bt,.mp 4,.mp 5] 110),(2,.arr .bool 4),(3,.arr .bool 4),(4,.map .i64 .I),(5,.map .i64 .I),(6,.cells [.I,.I,.bool,.fz cF,.fz bD] 97)]
abbrev afo:List (Nat×LO):=[(0,.cells fR 27),(1,.cells [.I,.bt,.bt,.bt,.bt,.bt,.bt,.bt,.hd 2 .I,.hd 3 .I,.hd 4 .I] 46),(2,.arr .I 3),(3,.arr .I 3),(4,.arr .I 3),(5,.cells [.ptr 6 0] 105),(6,.cells RP 110),(7,.arr .bool 4),(8,.arr .bool 4),(9,.arr .I 3),(10,.map .i64 .I),(11,.map .i64 .I),(12,.cells [.I,.hd 13 .I,.hd 14 af,.bt,.fz .I,.fz .I,.hd 15 ah,.bt] 27),(13,.arr .I 3),(14,.arr af 78),(15,.arr ah 97)]
abbrev ZI:List (Nat×LO):=[(0,.cells fR 27),(1,.cells [.I,.bt,.bt,.bt,.bt,.bt,.bt,.bt,.hd 2 .I,.hd 3 .I,.hd 4 .I] 46),(2,.arr .I 3),(3,.arr .I 3),(4,.arr .I 3),(5,.cells [.ptr 6 0] 105),(6,.cells RP 110),(7,.arr .bool 4),(8,.arr .bool 4),(9,.arr .I 3),(10,.map .i64 .I),(11,.map .i64 .I),(12,.cells [.I,.hd 13 .I,.hd 14 af,.bt,.fz .I,.fz .I,.bt,.bt] 27),(13,.arr .I 3),(14,.arr af 78)]
abbrev ZJ:List (Nat×LO):=[(0,.cells fR 27),(1,.cells [.I,.bt,.bt,.bt,.bt,.bt,.bt,.bt,.hd 2 .I,.hd 3 .I,.hd 4 .I] 46),(2,.arr .I 3),(3,.arr .I 3),(4,.arr .I 3),(5,.cells [.ptr 6 0] 105),(6,.cells RP 110),(7,.arr .bool 4),(8,.arr .bool 4),(9,.arr .I 3),(10,.map .i64 .I),(11,.map .i64 .I),(12,.cells [.I,.hd 13 .I,.bt,.bt,.fz .I,.fz .I,.bt,.bt] 27),(13,.arr .I 3)]
abbrev NK:List (Nat×LO):=[(0,.cells fR 27),(1,.cells qh 27),(2,.arr .bool 4),(3,.cells [.I,.hd 4 .I,.fz af,.fz .I,.fz .I,.fz .I,.fz ah,.fz af] 27),(4,.arr .I 3),(5,.arr .I 3)]
abbrev NL:List (Nat×LO):=[(0,.cells [.ptr 1 0] 105),(1,.cells Io 110),(2,.arr .bool 4),(3,.arr .bool 4),(4,.arr .I 3),(5,.map .i64 .I),(6,.map .i64 .I),(7,.arr .I 3)]
abbrev ZK:List (Nat×LO):=[(0,.cells [.I,.fz .I,.fz af,.fz .I,.fz .I,.fz .I,.fz ah,.fz af,.hd 1 .bool,.hd 2 .bool,.hd 3 .I,.mp 4,.mp 5] 110),(1,.arr .bool 4),(2,.arr .bool 4),(3,.arr .I 3),(4,.map .i64 .I),(5,.map .i64 .I),(6,.arr .I 3)]
abbrev EL:List LA:=[.I,.fz .I,.fz af,.fz .I,.fz .I,.fz .I,.fz ah,.hd 3 af]
abbrev ZL:List (Nat×LO):=[(0,.cells fR 27),(1,.cells qh 27),(2,.arr .bool 4),(3,.cells [.I,.hd 4 .I,.fz af,.fz .I,.fz .I,.fz .I,.fz ah,.fz af] 27),(4,.arr .I 3)]
abbrev ZM:List (Nat×LO):=[(0,.cells qh 27),(1,.cells [.I,.fz .I,.fz af,.fz .I,.fz .I,.fz .I,.fz ah,.hd 2 af] 27),(2,.arr af 113),(3,.arr .I 3)]
abbrev ZN:List (Nat×LO):=[(0,.cells [.ptr 1 0] 105),(1,.cells Io 110),(2,.arr .bool 4),(3,.arr .bool 4),(4,.arr .I 3),(5,.map .i64 .I),(6,.map .i64 .I),(7,.cells fR 27)]
abbrev ZO:ai:=⟨[(1,.ptr 0 0),(3,.ptr 1 0),(6,.I),(7,.ptr 6 0),(41,.fz ah),(42,.I),(43,.I),(50,.I),(51,.I)],afn,7⟩
abbrev wa:ai:=⟨[],wU,7⟩
abbrev ZP:List LA:=[.I,.bt,.bt,.bt,.bt,.bt,.bt,.bt,.hd 1 .I,.hd 2 .I,.hd 3 .I]
abbrev ZQ:ai:=⟨[(1,.ptr 0 0),(3,.ptr 1 0),(41,.fz ah),(42,.I),(43,.I)],Il,6⟩
abbrev NM:List (Tmp×LA):=[(1,.ptr 0 0),(2,.ptr 1 0),(5,.ptr 5 0),(6,.ptr 12 0)]
abbrev Vi:ai:=⟨[(0,.I),(1,.ptr 0 0),(2,.ptr 1 0),(3,.ptr 3 0),(4,.ptr 9 0)],Ik,10⟩
abbrev KB:List (Ev.Ex×ai):=[(.ret,⟨[],Ik,10⟩)]
abbrev tL:=be Vi KB
abbrev rR:=Kb 188 5 Vi 0 KB
abbrev B7:ai:=⟨[(4,.ptr 9 0),(48,.fz .I),(49,.I),(50,.I)],Ik,10⟩
abbrev BV:List (Ev.Ex×ai):=[((.exit 0),⟨[],Ik,10⟩)]
abbrev Vn:=be B7 BV
abbrev KJ:=Ld 10 59 (cj [0] (bu Tryz.f188)) B7 BV
def KI(F0:pX)(F1:tL)(t48:jp)(t49 t50 aA:Int)(aC:jp)(aK:bv)(aM aO aQ:jp)(aE:ce)(aG:bv)(b2:md)(mJ:Int)(sB:jp)(sD:bv)(sE sF sG:jp)(sH:ce)(sI:bv)(b5:jp)(b6:eq)(b7 b8:jp):am B7 BV:=
 br (iL t50 t49)
 (
  au (aw t50 t48.length)<|
  az (F0 ((gt .I t48 t50),())) fun x0=>
  az (F1 (x0.1,aA,aC,aK,aM,aO,aQ,aE,aG,b2,mJ,sB,sD,sE,sF,sG,sH,sI,b5,b6,b7,b8,())) fun x1=>
  atY (t48,t49,(qr (t50+(1:Int))),x1))
 (
  atZ (aA,aC,aK,aM,aO,aQ,aE,aG,b2,mJ,sB,sD,sE,sF,sG,sH,sI,b5,b6,b7,b8,()))
def ags(c0:oX)(c1:rR) :KJ:=cu (qA (KI c0.F c1.F)) (pL (kD c0 (kB c1 k0)) e0 1 l0 fun d=>atP)
def agt(s:rR):KJ:=ags pY s
def KL(F:tL):Vn:=bp (fun d=>KI ph F  d.1 d.2.1 d.2.2.1 d.2.2.2.1 d.2.2.2.2.1 d.2.2.2.2.2.1 d.2.2.2.2.2.2.1 d.2.2.2.2.2.2.2.1 d.2.2.2.2.2.2.2.2.1 d.2.2.2.2.2.2.2.2.2.1 d.2.2.2.2.2.2.2.2.2.2.1 d.2.2.2.2.2.2.2.2.2.2.2.1 d.2.2.2.2.2.2.2.2.2.2.2.2.1 d.2.2.2.2.2.2.2.2.2.2.2.2.2.1 d.2.2.2.2.2.2.2.2.2.2.2.2.2.2.1 d.2.2.2.2.2.2.2.2.2.2.2.2.2.2.2.1 d.2.2.2.2.2.2.2.2.2.2.2.2.2.2.2.2.1 d.2.2.2.2.2.2.2.2.2.2.2.2.2.2.2.2.2.1 d.2.2.2.2.2.2.2.2.2.2.2.2.2.2.2.2.2.2.1 d.2.2.2.2.2.2.2.2.2.2.2.2.2.2.2.2.2.2.2.1 d.2.2.2.2.2.2.2.2.2.2.2.2.2.2.2.2.2.2.2.2.1 d.2.2.2.2.2.2.2.2.2.2.2.2.2.2.2.2.2.2.2.2.2.1 d.2.2.2.2.2.2.2.2.2.2.2.2.2.2.2.2.2.2.2.2.2.2.1 d.2.2.2.2.2.2.2.2.2.2.2.2.2.2.2.2.2.2.2.2.2.2.2.1) NN
def KT(F0:pX)(F1:tL)(F2:Qs)(L4:Vn)(t0 aA:Int)(aC:jp)(aK:bv)(aM aO aQ:jp)(aE:ce)(aG:bv)(b2:md)(mJ:Int)(sB:jp)(sD:bv)(sE sF sG:jp)(sH:ce)(sI:bv)(b5:jp)(b6:eq)(b7 b8:jp):Option (Out KB):=
 br (iL t0 (1:Int))
 (
  some (aA,aC,aK,aM,aO,aQ,aE,aG,b2,mJ,sB,sD,sE,sF,sG,sH,sI,b5,b6,b7,b8,()))
 (
  br (bP false true (iL aA t0))
  (
   some (aA,aC,aK,aM,aO,aQ,aE,aG,b2,mJ,sB,sD,sE,sF,sG,sH,sI,b5,b6,b7,b8,()))
  (
   au (aw t0 b2.length)<|
   br (bP false true (gt .bool b2 t0))
   (
    some (aA,aC,aK,aM,aO,aQ,aE,aG,b2,mJ,sB,sD,sE,sF,sG,sH,sI,b5,b6,b7,b8,()))
   (
    au (aw t0 b2.length)<|
    au (aw t0 b5.length)<|
    br (iQ (gt .I b5 t0) (0:Int))
    (
     some (aA,aC,aK,aM,aO,aQ,aE,aG,(List.set b2 (Int.toNat t0) true),mJ,sB,sD,sE,sF,sG,sH,sI,b5,b6,b7,b8,()))
    (
     au (aw t0 b5.length)<|
     au (aw (qr (@HSub.hSub (Int) (Int) (Int) _ (gt .I b5 t0) (1:Int))) b6.length)<|
     az (F2 ((gt an b6 (qr (@HSub.hSub (Int) (Int) (Int) _ (gt .I b5 t0) (1:Int)))).1,(gt an b6 (qr (@HSub.hSub (Int) (Int) (Int) _ (gt .I b5 t0) (1:Int)))).2.1,(gt an b6 (qr (@HSub.hSub (Int) (Int) (Int) _ (gt .I b5 t0) (1:Int)))).2.2.1,mJ,sB,sD,sE,sF,sG,sH,sI,b5,b6,b7,b8,())) fun x0=>
     az (L4 (x0.1,(Int.ofNat (List.length x0.1)),(0:Int),aA,aC,aK,aM,aO,aQ,aE,aG,(List.set b2 (Int.toNat t0) true),x0.2)) fun x1=>
     some x1))))
def agB(c0:oX)(c1:rR)(c2:Gp)(M4:KJ):rR:=⟨mw (KT c0.F c1.F c2.F M4.L),pB Tryz.func188 59 (kD c0 (kB c1 (kB c2 k0))) e0 1 (sS (sC M4 l0)) fun d=>atP⟩
def CS:Nat->rR
 |0=>T4 Tryz.func188 atP atP|k+1=>agB pY (CS k) Qt (agt (CS k))
def Cu(k:Nat):tL:=(CS k).F
def KU:rR:=CS NN
def KK:tL:=KU.F
abbrev KH:ai:=⟨[(4,.hd 0 .I),(36,.hd 1 .bool),(37,.I),(38,.I)],[(0,.arr .I 3),(1,.arr .bool 4)],2⟩
abbrev KC:List (Ev.Ex×ai):=[((.exit 2),⟨[(4,.hd 0 .I)],[(0,.arr .I 3)],1⟩)]
abbrev VL:=be KH KC
abbrev VK:=Ld 0 50 (cj [1] (bu Tryz.f145)) KH KC
abbrev Cv:ai:=⟨[(4,.bt),(7,.ptr 0 0),(8,.ptr 2 0),(25,.fz .I),(26,.I),(27,.I)],[(0,.cells [.hd 1 .bool] 28),(1,.arr .bool 4),(2,.cells [.func 188 [] [.ptr 3 0,.ptr 0 0,.ptr 4 0,.ptr 2 0]] 213),(3,.cells fR 27),(4,.cells [.ptr 5 0] 152),(5,.cells [.I,.fz .I,.fz af,.fz .I,.fz .I,.fz .I,.fz ah,.fz af,.hd 6 .I,.hd 7 an,.hd 8 (.int .u8),.hd 9 .I] 160),(6,.arr .I 3),(7,.arr an 146),(8,.arr (.int .u8) 5),(9,.arr .I 3)],10⟩
abbrev Cj:List (Ev.Ex×ai):=[((.exit 0),⟨[(4,.bt),(7,.ptr 0 0)],[(0,.cells [.hd 1 .bool] 28),(1,.arr .bool 4)],2⟩)]
abbrev Wa:=be Cv Cj
abbrev Lc:=Ld 0 50 (cj [0] (bu Tryz.f145)) Cv Cj
def Lb(F0:pX)(F1:tL)(t25:jp)(t26 t27:Int)(b1:md)(nX:Int)(nu:jp)(nY:bv)(kQ nZ n5:jp)(n7:ce)(n8:bv)(Hi:Int)(Hj:jp)(Hk:bv)(Hl Hm Ho:jp)(Hq:ce)(Hr:bv)(b6:jp)(b7:eq)(b8 b9:jp):am Cv Cj:=
 br (iL t27 t26)
 (
  au (aw t27 t25.length)<|
  az (F0 ((gt .I t25 t27),())) fun x0=>
  az (F1 (x0.1,nX,nu,nY,kQ,nZ,n5,n7,n8,b1,Hi,Hj,Hk,Hl,Hm,Ho,Hq,Hr,b6,b7,b8,b9,())) fun x1=>
  atY (t25,t26,(qr (t27+(1:Int))),dZ x1,x1.1,x1.2.1,x1.2.2.1,cT x1,cQ x1,cK x1,cU x1,dz x1,T6 x1))
 (
  atZ (b1,()))
def agP(c0:oX)(c1:rR) :Lc:=cu (qA (Lb c0.F c1.F)) (pL (kD c0 (kB c1 k0)) e0 1 l0 fun d=>atP)
def agQ:Lc:=agP pY KU
def Da:Wa:=bp (qA (Lb ph KK)) NN
def CT(t37 t38:Int)(b0:jp)(b1:md):am KH KC:=
 br (iL t38 t37)
 (
  au (aw t38 b1.length)<|
  br (gt .bool b1 t38)
  (
   au (room 8 (List.length (ap b0 (t38::[]))))<|
   atY (t37,(qr (t38+(1:Int))),(ap b0 (t38::[])),b1,()))
  (
   atY (t37,(qr (t38+(1:Int))),b0,b1,())))
 (
  atZ (b0,()))
def agC  :VK:=cu (u4 CT) (pL k0 e0 1 l0 fun d=>atP)
def CU:VL:=bp (u4 CT) NN
abbrev Wb:List Sh:=[cA,(.sl .I)]
abbrev Le:List Sh:=[(.sl .I)]
abbrev Wt:=TL Wb->Option (TL Le)
abbrev Ln:=Kd 145 Wb Le
def Lo(F0:pX)(F1:tL)(F2:G4)(L8:Wa)(L13:VL)(a0:Sh.T cA)(a1:jp):Option (TL Le):=
 az (F2 a0) fun x0=>
 (match x0 with
 |.inl x1=>
  br (Bool.not (iQ x1.1 (0:Int)))
  (
   some ([],()))
  (
   au (both (iE (0:Int) (qr (pp a0.1 (1:Int)))) (both (iE (qr (pp a0.1 (1:Int))) (qr (pp a0.1 (1:Int)))) (iE ((Int.ofNat 1)*(qr (pp a0.1 (1:Int)))) (281474976710656:Int))))<|
   none)
 |.inr x1=>
  br (Bool.not (iQ x1.1 (0:Int)))
  (
   some ([],()))
  (
   au (both (iE (0:Int) (qr (pp a0.1 (1:Int)))) (both (iE (qr (pp a0.1 (1:Int))) (qr (pp a0.1 (1:Int)))) (iE ((Int.ofNat 1)*(qr (pp a0.1 (1:Int)))) (281474976710656:Int))))<|
   az (L8 (a1,(Int.ofNat a1.length),(0:Int),(List.replicate (Int.toNat (qr (pp a0.1 (1:Int)))) (Sh.zero .bool)),a0.1,a0.2.1,a0.2.2.1,cT a0,cQ a0,cK a0,cU a0,dz a0,x1.2)) fun x2=>
   az (L13 ((Int.ofNat (List.length x2.1)),(0:Int),[],x2.1,())) fun x3=>
   some (x3.1,()))
 )
def ag1(c0:oX)(c1:rR)(c2:zx)(M8:Lc)(M13:VK):Ln:=⟨u2 (Lo c0.F c1.F c2.F M8.L M13.L),pD Tryz.func145 50 (kD c0 (kB c1 (kB c2 k0))) e0 1 (sS (sC M8 (sC M13 l0))) fun d=>atP⟩
def Wr:Ln:=ag1 pY KU G5 agQ agC
def V9:Wt:=Wr.F
abbrev xQ:ai:=⟨[(2,.ptr 0 0),(11,.hd 1 .I),(14,.ptr 2 0),(15,.I),(78,.I),(79,.I)],[(0,.cells qh 27),(1,.arr .I 3),(2,.cells EL 27),(3,.arr af 113)],4⟩
abbrev xN:List (Ev.Ex×ai):=[((.exit 4),⟨[(2,.ptr 0 0),(11,.hd 1 .I),(14,.ptr 2 0),(15,.I)],[(0,.cells qh 27),(1,.arr .I 3),(2,.cells EL 27),(3,.arr af 113)],4⟩)]
abbrev Vv:=be xQ xN
abbrev Vt:=Ld 0 114 (cj [2] (bu Tryz.f57)) xQ xN
abbrev Cb:ai:=⟨[(2,.ptr 0 0),(8,.ptr 1 0),(11,.hd 3 .I),(57,.fz .I),(58,.I),(59,.I)],ZM,4⟩
abbrev BX:List (Ev.Ex×ai):=[((.exit 2),⟨[(2,.ptr 0 0),(8,.ptr 1 0),(11,.hd 3 .I)],ZM,4⟩)]
abbrev Vu:=be Cb BX
abbrev Vr:=Ld 0 114 (cj [1] (bu Tryz.f57)) Cb BX
abbrev xS:ai:=⟨[(1,.ptr 0 0),(2,.ptr 1 0),(8,.ptr 2 0),(31,.fz an),(32,.I),(33,.I)],[(0,.cells fR 27),(1,.cells qh 27),(2,.cells EL 27),(3,.arr af 113)],4⟩
abbrev xR:List (Ev.Ex×ai):=[((.exit 0),⟨[(1,.ptr 0 0),(2,.ptr 1 0),(8,.ptr 2 0)],[(0,.cells fR 27),(1,.cells qh 27),(2,.cells EL 27),(3,.arr af 113)],4⟩)]
abbrev VP:=be xS xR
abbrev VO:=Ld 0 114 (cj [0] (bu Tryz.f57)) xS xR
def CV(t31:eq)(t32 t33 aA:Int)(aC:jp)(aK:bv)(aM aO aQ:jp)(aE:ce)(aG:bv)(bN cP:Int)(cX:jp)(c9:bv)(cO du dw:jp)(dx:ce)(b3:bv):am xS xR:=
 br (iL t33 t32)
 (
  au (aw t33 t31.length)<|
  br (Bool.not (gt an t31 t33).1)
  (
   au (aw (gt an t31 t33).2.2.1 aG.length)<|
   au (room 24 (List.length (ap b3 ((gt af aG (gt an t31 t33).2.2.1)::[]))))<|
   atY (t31,t32,(qr (t33+(1:Int))),aA,aC,aK,aM,aO,aQ,aE,aG,bN,cP,cX,c9,cO,du,dw,dx,(ap b3 ((gt af aG (gt an t31 t33).2.2.1)::[])),()))
  (
   atY (t31,t32,(qr (t33+(1:Int))),aA,aC,aK,aM,aO,aQ,aE,aG,bN,cP,cX,c9,cO,du,dw,dx,b3,())))
 (
  atZ (aA,aC,aK,aM,aO,aQ,aE,aG,bN,cP,cX,c9,cO,du,dw,dx,b3,()))
def agF  :VO:=cu (l9 CV) (pL k0 e0 1 l0 fun d=>atP)
def CW:VP:=bp (l9 CV) NN
def Cy(t57:jp)(t58 t59 aA bN:Int)(cW:jp)(dg:bv)(db dk dN:jp)(dO:ce)(b2:bv)(b3:jp):am Cb BX:=
 br (iL t59 t58)
 (
  au (aw t59 t57.length)<|
  au (aw (gt .I t57 t59) b3.length)<|
  atY (t57,t58,(qr (t59+(1:Int))),aA,bN,cW,dg,db,dk,dN,dO,b2,(List.set b3 (Int.toNat (gt .I t57 t59)) (qr (t59+(1:Int)))),()))
 (
  atZ (aA,bN,cW,dg,db,dk,dN,dO,b2,b3,()))
def agv  :Vr:=cu (kI Cy) (pL k0 e0 1 l0 fun d=>atP)
def CA:Vu:=bp (kI Cy) NN
def Cz(t15 t78 t79 aA:Int)(b1:jp)(cP:Int)(cX:jp)(c9:bv)(cO du dw:jp)(dx:ce)(b3:bv):am xQ xN:=
 br (iL t79 t78)
 (
  au (aw t79 b3.length)<|
  au (nQ (Int.toNat t79) (Int.toNat t79))<|
  au (iQ (ed (iL (gt af b3 t79).2.2.1 (gt af b3 t79).2.1) (gt af b3 t79).2.2.1 (gt af b3 t79).2.1) (ed (iL (gt af b3 t79).2.2.1 (gt af b3 t79).2.1) (gt af b3 t79).2.2.1 (gt af b3 t79).2.1))<|
  atY (t15,t78,(qr (t79+(1:Int))),aA,b1,cP,cX,c9,cO,du,dw,dx,(List.set (List.set b3 (Int.toNat t79) ((gt af b3 t79).1,(ed (iL (gt af b3 t79).2.1 (gt af b3 t79).2.2.1) (gt af b3 t79).2.2.1 (gt af b3 t79).2.1),(gt af b3 t79).2.2.1,())) (Int.toNat t79) ((gt af (List.set b3 (Int.toNat t79) ((gt af b3 t79).1,(ed (iL (gt af b3 t79).2.1 (gt af b3 t79).2.2.1) (gt af b3 t79).2.2.1 (gt af b3 t79).2.1),(gt af b3 t79).2.2.1,())) t79).1,(gt af (List.set b3 (Int.toNat t79) ((gt af b3 t79).1,(ed (iL (gt af b3 t79).2.1 (gt af b3 t79).2.2.1) (gt af b3 t79).2.2.1 (gt af b3 t79).2.1),(gt af b3 t79).2.2.1,())) t79).2.1,(ed (iL (gt af b3 t79).2.2.1 (gt af b3 t79).2.1) (gt af b3 t79).2.2.1 (gt af b3 t79).2.1),())),()))
 (
  atZ (t15,aA,b1,cP,cX,c9,cO,du,dw,dx,b3,()))
def agw  :Vt:=cu (kI Cz) (pL k0 e0 1 l0 fun d=>atP)
def CB:Vv:=bp (kI Cz) NN
abbrev VQ:List Sh:=[cA]
abbrev KX:List Sh:=[cA,(.sl .I),.I]
abbrev Wd:=TL VQ->Option (TL KX)
abbrev Lf:=Kd 57 VQ KX
def Lg(F0:Ra)(F1:uG)(F2:Vy)(F3:V8)(L8:VP)(L15:Vu)(L21:Vv)(a0:Sh.T cA):Option (TL KX):=
 az (F1 (a0,())) fun x0=>
 br (Bool.not (iQ x0.1 (0:Int)))
 (
  some (((0:Int),[],[],[],[],[],[],[],()),[],x0.1,()))
 (
  az (F0 (a0,())) fun x1=>
  az (L8 (x1.1,(Int.ofNat (List.length x1.1)),(0:Int),a0.1,a0.2.1,a0.2.2.1,cT a0,cQ a0,cK a0,cU a0,dz a0,(0:Int),a0.1,a0.2.1,a0.2.2.1,cT a0,cQ a0,cK a0,cU a0,[],())) fun x2=>
  au (both (iE (0:Int) (qr (pp x2.1 (1:Int)))) (both (iE (qr (pp x2.1 (1:Int))) (qr (pp x2.1 (1:Int)))) (iE ((Int.ofNat 8)*(qr (pp x2.1 (1:Int)))) (281474976710656:Int))))<|
  az (F3 (T6 x2)) fun x3=>
  az (L15 (x3.1,(Int.ofNat (List.length x3.1)),(0:Int),dZ x2,eS x2,dH x2,fW x2,fK x2,(aW x2).2.1,(aW x2).2.2.1,cT (aW x2),x3.2.1,(List.replicate (Int.toNat (qr (pp x2.1 (1:Int)))) (Sh.zero .I)),())) fun x4=>
  az (F2 x4.2) fun x5=>
  az (L21 (dz x5,(Int.ofNat (List.length (eS x5))),(0:Int),x4.1,dZ x5,x5.1,x5.2.1,x5.2.2.1,cT x5,cQ x5,cK x5,cU x5,eS x5,())) fun x6=>
  some (xD x6,x6.2.2.1,x6.1,()))
def agS(c0:GY)(c1:sx)(c2:Vw)(c3:V3)(M8:VO)(M15:Vr)(M21:Vt):Lf:=⟨u1 (Lg c0.F c1.F c2.F c3.F M8.L M15.L M21.L),pD Tryz.func57 114 (kD c0 (kD c1 (kB c2 (kB c3 k0)))) e0 1 (sS (sC M8 (sC M15 (sC M21 l0)))) fun d=>atP⟩
def Wc:Lf:=agS Rb sy Vx V6 agF agv agw
def KW:Wd:=Wc.F
abbrev U4:ai:=⟨[(0,.ptr 0 0),(1,.fz .I)],Im,6⟩
abbrev Kg:List (Ev.Ex×ai):=[(.ret,wa)]
abbrev tK:=be U4 Kg
abbrev rQ:=Kb 109 2 U4 0 Kg
abbrev BK:ai:=⟨[(0,.ptr 0 0),(43,.fz .I),(44,.I),(45,.I)],wU,7⟩
abbrev BG:List (Ev.Ex×ai):=[((.exit 2),wa)]
abbrev U3:=be BK BG
abbrev U2:=Ld 6 74 (cj [1] (bu Tryz.f109)) BK BG
abbrev BO:ai:=⟨[(0,.ptr 0 0),(4,.hd 6 .I),(10,.fz .I),(11,.I),(12,.I)],ZK,7⟩
abbrev BL:List (Ev.Ex×ai):=[((.exit 0),⟨[(0,.ptr 0 0),(4,.hd 6 .I)],ZK,7⟩)]
abbrev U8:=be BO BL
abbrev Kv:=Ld 6 74 (cj [0] (bu Tryz.f109)) BO BL
def BU(F1:pX)(t10:jp)(t11 t12 aA:Int)(aC:jp)(aK:bv)(aM aO aQ:jp)(aE:ce)(aG:bv)(b1 b2:md)(b3:jp)(b4 b5:ge)(b6:jp):am BO BL:=
 br (iL t12 t11)
 (
  au (aw t12 t10.length)<|
  az (F1 ((gt .I t10 t12),())) fun x0=>
  br (iL (0:Int) x0.1)
  (
   au (aw x0.1 b1.length)<|
   br (bP true (Bool.not (gt .bool b1 x0.1)) false)
   (
    au (room 8 (List.length (ap b6 ((gt .I t10 t12)::[]))))<|
    atY (t10,t11,(qr (t12+(1:Int))),aA,aC,aK,aM,aO,aQ,aE,aG,b1,b2,b3,b4,b5,(ap b6 ((gt .I t10 t12)::[])),()))
   (
    atY (t10,t11,(qr (t12+(1:Int))),aA,aC,aK,aM,aO,aQ,aE,aG,b1,b2,b3,b4,b5,b6,())))
  (
   atY (t10,t11,(qr (t12+(1:Int))),aA,aC,aK,aM,aO,aQ,aE,aG,b1,b2,b3,b4,b5,b6,())))
 (
  atZ (aA,aC,aK,aM,aO,aQ,aE,aG,b1,b2,b3,b4,b5,b6,()))
def agk(c1:oX) :Kv:=cu (jv (BU c1.F)) (pL (kD c1 k0) e0 1 l0 fun d=>atP)
def agl:Kv:=agk pY
def Kw:U8:=bp (jv (BU ph)) NN
def BR(t43:jp)(t44 t45 aA:Int)(aC:jp)(aK:bv)(aM aO aQ:jp)(aE:ce)(aG:bv)(b1 b2:md)(b4 b5:ge)(b6:jp):am BK BG:=
 br (iL t45 t44)
 (
  au (aw t45 t43.length)<|
  au (aw (gt .I t43 t45) b1.length)<|
  br (Bool.not (gt .bool b1 (gt .I t43 t45)))
  (
   au (aw (gt .I t43 t45) b1.length)<|
   au (room 8 (List.length (ap b6 ((gt .I t43 t45)::[]))))<|
   atY (t43,t44,(qr (t45+(1:Int))),aA,aC,aK,aM,aO,aQ,aE,aG,(List.set b1 (Int.toNat (gt .I t43 t45)) true),b2,b4,b5,(ap b6 ((gt .I t43 t45)::[])),()))
  (
   atY (t43,t44,(qr (t45+(1:Int))),aA,aC,aK,aM,aO,aQ,aE,aG,b1,b2,b4,b5,b6,())))
 (
  atZ (aA,aC,aK,aM,aO,aQ,aE,aG,b1,b2,b4,b5,b6,()))
def agf  :U2:=cu (u16 BR) (pL k0 e0 1 l0 fun d=>atP)
def Kr:U3:=bp (u16 BR) NN
def Kz(F0:Wt)(F1:pX)(L2:U8)(L10:U3)(t1:jp)(aA:Int)(aC:jp)(aK:bv)(aM aO aQ:jp)(aE:ce)(aG:bv)(b1 b2:md)(b3:jp)(b4 b5:ge):Option (Out Kg):=
 az (L2 (t1,(Int.ofNat t1.length),(0:Int),aA,aC,aK,aM,aO,aQ,aE,aG,b1,b2,b3,b4,b5,[],())) fun x0=>
 br (iQ (Int.ofNat (List.length (aW x0).2.1)) (0:Int))
 (
  some (x0.1,x0.2.1,x0.2.2.1,cT x0,cQ x0,cK x0,cU x0,dz x0,dZ x0,eS x0,fW x0,fK x0,dH x0,()))
 (
  az (F0 ((x0.1,x0.2.1,x0.2.2.1,cT x0,cQ x0,cK x0,cU x0,dz x0,()),(aW x0).2.1,())) fun x1=>
  az (L10 (x1.1,(Int.ofNat (List.length x1.1)),(0:Int),x0.1,x0.2.1,x0.2.2.1,cT x0,cQ x0,cK x0,cU x0,dz x0,dZ x0,eS x0,fW x0,fK x0,dH x0,())) fun x2=>
  some x2)
def ago(c0:Ln)(c1:oX)(M2:Kv)(M10:U2):rQ:=⟨iC (Kz c0.F c1.F M2.L M10.L),pB Tryz.func109 74 (kD c0 (kD c1 k0)) e0 1 (sS (sC M2 (sC M10 l0))) fun d=>atP⟩
def tJ:rQ:=ago Wr pY agl agf
def rP:tK:=tJ.F
abbrev UR:ai:=⟨[(0,.ptr 0 0),(1,.I)],Im,6⟩
abbrev Kf:List (Ev.Ex×ai):=[(.ret,wa)]
abbrev Kt:=be UR Kf
abbrev BS:=Kb 146 2 UR 0 Kf
abbrev BI:ai:=⟨[(0,.ptr 0 0),(48,.fz bD),(49,.I),(50,.I)],wU,7⟩
abbrev BD:List (Ev.Ex×ai):=[((.exit 2),wa)]
abbrev UU:=be BI BD
abbrev Kk:=Ld 6 66 (cj [1] (bu Tryz.f146)) BI BD
abbrev BH:ai:=⟨[(0,.ptr 0 0),(1,.I),(29,.fz cF),(30,.I),(31,.I)],wU,7⟩
abbrev BC:List (Ev.Ex×ai):=[((.exit 0),⟨[(0,.ptr 0 0),(1,.I)],wU,7⟩)]
abbrev UT:=be BH BC
abbrev Kj:=Ld 6 66 (cj [0] (bu Tryz.f146)) BH BC
def Kh(F0:tK)(t1:Int)(t29:ip)(t30 t31 aA:Int)(aC:jp)(aK:bv)(aM aO aQ:jp)(aE:ce)(aG:bv)(b1 b2:md)(b4 b5:ge)(b6:jp):am BH BC:=
 br (iL t31 t30)
 (
  au (aw t31 t29.length)<|
  az (F0 ((gt cF t29 t31).2.1,aA,aC,aK,aM,aO,aQ,aE,aG,b1,b2,b6,b4,b5,())) fun x0=>
  atY (t1,t29,t30,(qr (t31+(1:Int))),x0))
 (
  atZ (t1,aA,aC,aK,aM,aO,aQ,aE,aG,b1,b2,b4,b5,b6,()))
def af9(c0:rQ) :Kj:=cu (jv (Kh c0.F)) (pL (kB c0 k0) e0 1 l0 fun d=>atP)
def agb:Kj:=af9 tJ
def xL:UT:=bp (jv (Kh rP)) NN
def Ki(F0:tK)(t48:io)(t49 t50 aA:Int)(aC:jp)(aK:bv)(aM aO aQ:jp)(aE:ce)(aG:bv)(b1 b2:md)(b4 b5:ge)(b6:jp):am BI BD:=
 br (iL t50 t49)
 (
  au (aw t50 t48.length)<|
  au (room 8 (List.length (ap ((gt bD t48 t50).1::[]) (gt bD t48 t50).2.1)))<|
  au (ov (Sh.beq .I) (gt bD t48 t50).2.2.1 (gt bD t48 t50).2.2.1)<|
  au (room 8 (List.length (ap (ap ((gt bD t48 t50).1::[]) (gt bD t48 t50).2.1) (gt bD t48 t50).2.2.1)))<|
  az (F0 ((ap (ap ((gt bD t48 t50).1::[]) (gt bD t48 t50).2.1) (gt bD t48 t50).2.2.1),aA,aC,aK,aM,aO,aQ,aE,aG,b1,b2,b6,b4,b5,())) fun x0=>
  atY (t48,t49,(qr (t50+(1:Int))),x0))
 (
  atZ (aA,aC,aK,aM,aO,aQ,aE,aG,b1,b2,b4,b5,b6,()))
def aga(c0:rQ) :Kk:=cu (u16 (Ki c0.F)) (pL (kB c0 k0) e0 1 l0 fun d=>atP)
def agc:Kk:=aga tJ
def vq:UU:=bp (u16 (Ki rP)) NN
def xM(F0:tK)(L3:UT)(L8:UU)(t1 aA:Int)(aC:jp)(aK:bv)(aM aO aQ:jp)(aE:ce)(aG:bv)(b1 b2:md)(b3:jp)(b4 b5:ge):Option (Out Kf):=
 au (aw t1 b2.length)<|
 br (gt .bool b2 t1)
 (
  some (aA,aC,aK,aM,aO,aQ,aE,aG,b1,b2,b4,b5,b3,()))
 (
  au (aw t1 b2.length)<|
  au (aw t1 aE.length)<|
  az (L3 (t1,(gt ah aE t1).2.2.2.1,(Int.ofNat (List.length (gt ah aE t1).2.2.2.1)),(0:Int),aA,aC,aK,aM,aO,aQ,aE,aG,b1,(List.set b2 (Int.toNat t1) true),b4,b5,b3,())) fun x0=>
  au (aw x0.1 (List.length (dz x0)))<|
  az (L8 ((gt ah (dz x0) x0.1).2.2.2.2.1,(Int.ofNat (List.length (gt ah (dz x0) x0.1).2.2.2.2.1)),(0:Int),x0.2)) fun x1=>
  some x1)
def agh(c0:rQ)(M3:Kj)(M8:Kk):BS:=⟨iC (xM c0.F M3.L M8.L),pB Tryz.func146 66 (kB c0 k0) e0 1 (sS (sC M3 (sC M8 l0))) fun d=>atP⟩
def Ks:BS:=agh tJ agb agc
def xK:Kt:=Ks.F
abbrev U7:ai:=⟨[(0,.ptr 0 0)],Im,6⟩
abbrev Kq:List (Ev.Ex×ai):=[(.ret,wa)]
abbrev Vd:=be U7 Kq
abbrev KA:=Kb 110 1 U7 0 Kq
abbrev BQ:ai:=⟨[(0,.ptr 0 0),(2,.func 146 [.ptr 0 0] [])],wU,7⟩
abbrev BN:List (Ev.Ex×ai):=[((.exit 0),wa)]
abbrev Vb:=be BQ BN
abbrev Ky:=Ld 6 77 (cj [0] (bu Tryz.f110)) BQ BN
def Kx(F0:tK)(F1:Kt)(aA:Int)(aC:jp)(aK:bv)(aM aO aQ:jp)(aE:ce)(aG:bv)(b1 b2:md)(b4 b5:ge)(b6:jp):am BQ BN:=
 br (iL (0:Int) (Int.ofNat b6.length))
 (
  au (aw (qr ((Int.ofNat b6.length)-(1:Int))) b6.length)<|
  au (both (iE (0:Int) (qr ((Int.ofNat b6.length)-(1:Int)))) (iE (qr ((Int.ofNat b6.length)-(1:Int))) (Int.ofNat b6.length)))<|
  br (@j5 .I b4 (gt .I b6 (qr ((Int.ofNat b6.length)-(1:Int)))))
  (
   au (aw (@jM .I b4 (gt .I b6 (qr ((Int.ofNat b6.length)-(1:Int))))) aK.length)<|
   az (F0 (((gt af aK (@jM .I b4 (gt .I b6 (qr ((Int.ofNat b6.length)-(1:Int)))))).2.1::[]),aA,aC,aK,aM,aO,aQ,aE,aG,b1,b2,(List.take (@HSub.hSub (Nat) (Nat) (Nat) _ (Int.toNat (qr ((Int.ofNat b6.length)-(1:Int)))) 0) b6),b4,b5,())) fun x0=>
   atY x0)
  (
   br (@j5 .I b5 (gt .I b6 (qr ((Int.ofNat b6.length)-(1:Int)))))
   (
    az (F1 ((@jM .I b5 (gt .I b6 (qr ((Int.ofNat b6.length)-(1:Int))))),aA,aC,aK,aM,aO,aQ,aE,aG,b1,b2,(List.take (@HSub.hSub (Nat) (Nat) (Nat) _ (Int.toNat (qr ((Int.ofNat b6.length)-(1:Int)))) 0) b6),b4,b5,())) fun x0=>
    atY x0)
   (
    atY (aA,aC,aK,aM,aO,aQ,aE,aG,b1,b2,b4,b5,(List.take (@HSub.hSub (Nat) (Nat) (Nat) _ (Int.toNat (qr ((Int.ofNat b6.length)-(1:Int)))) 0) b6),()))))
 (
  atZ (aA,aC,aK,aM,aO,aQ,aE,aG,b1,b2,b4,b5,b6,()))
def agm(c0:rQ)(c1:BS) :Ky:=cu (kI (Kx c0.F c1.F)) (pL (kB c0 (kB c1 k0)) e0 1 l0 fun d=>atP)
def agn:Ky:=agm tJ Ks
def Va:Vb:=bp (kI (Kx rP xK)) NN
def agp(F0:tK)(F1:Kt)(L1:Vb)(aA:Int)(aC:jp)(aK:bv)(aM aO aQ:jp)(aE:ce)(aG:bv)(b1 b2:md)(b3:jp)(b4 b5:ge):Option (Out Kq):=
 az (L1 (aA,aC,aK,aM,aO,aQ,aE,aG,b1,b2,b4,b5,b3,())) fun x0=>
 some x0
def agq(c0:rQ)(c1:BS)(M1:Ky):KA:=⟨kI (agp c0.F c1.F M1.L),pB Tryz.func110 77 (kB c0 (kB c1 k0)) e0 1 (sS (sC M1 l0)) fun d=>atP⟩
def Vc:KA:=agq tJ Ks agn
def U9:Vd:=Vc.F
abbrev VU:ai:=⟨[(0,.agg fR)],[],0⟩
abbrev KR:List (Ev.Ex×ai):=[(.ret,⟨[(0,.ptr 0 0)],Im,6⟩)]
abbrev WG:=be VU KR
abbrev Lx:=Kb 51 1 VU 1 KR
abbrev CK:ai:=ZQ
abbrev Cr:List (Ev.Ex×ai):=[((.exit 2),⟨[(1,.ptr 0 0),(3,.ptr 1 0)],Il,6⟩)]
abbrev Wp:=be CK Cr
abbrev Ll:=Ld 0 82 (cj [1] (bu Tryz.f51)) CK Cr
abbrev Co:ai:=ZO
abbrev Cd:List (Ev.Ex×ai):=[((.exit 4),ZQ)]
abbrev K5:=be Co Cd
abbrev C6:=Ld 0 82 (cj [1,0] (bu Tryz.f51)) Co Cd
abbrev Cp:ai:=⟨[(1,.ptr 0 0),(3,.ptr 1 0),(6,.I),(7,.ptr 6 0),(41,.fz ah),(42,.I),(43,.I),(50,.I),(51,.I),(56,.fz .I),(57,.I),(58,.I)],afn,7⟩
abbrev Ce:List (Ev.Ex×ai):=[((.exit 6),ZO)]
abbrev K6:=be Cp Ce
abbrev K4:=Ld 0 82 (cj [1,0,0] (bu Tryz.f51)) Cp Ce
abbrev CJ:ai:=⟨[(1,.ptr 0 0),(3,.ptr 1 0),(25,.fz af),(26,.I),(27,.I)],Il,6⟩
abbrev Cq:List (Ev.Ex×ai):=[((.exit 0),⟨[(1,.ptr 0 0),(3,.ptr 1 0)],Il,6⟩)]
abbrev Wo:=be CJ Cq
abbrev Wn:=Ld 0 82 (cj [0] (bu Tryz.f51)) CJ Cq
def Lj(t25:bv)(t26 t27 aA:Int)(aC:jp)(aK:bv)(aM aO aQ:jp)(aE:ce)(aG:bv)(bN:Int)(cW:jp)(dg:bv)(db dk dN:jp)(dO:ce)(dV:bv)(b2 b3:md)(b4 b5:ge):am CJ Cq:=
 br (iL t27 t26)
 (
  au (aw t27 t25.length)<|
  atY (t25,t26,(qr (t27+(1:Int))),aA,aC,aK,aM,aO,aQ,aE,aG,bN,cW,dg,db,dk,dN,dO,dV,b2,b3,(@fF .I (gt af t25 t27).1 t27 b4),b5,()))
 (
  atZ (aA,aC,aK,aM,aO,aQ,aE,aG,bN,cW,dg,db,dk,dN,dO,dV,b2,b3,b4,b5,()))
def agX  :Wn:=cu (rO Lj) (pL k0 e0 1 l0 fun d=>atP)
def xV:Wo:=bp (rO Lj) NN
def K3(t6:Int)(t41:ce)(t42 t43 t50 t51:Int)(t56:jp)(t57 t58 aA:Int)(aC:jp)(aK:bv)(aM aO aQ:jp)(aE:ce)(aG:bv)(bN:Int)(cW:jp)(dg:bv)(db dk dN:jp)(dO:ce)(dV:bv)(b2 b3:md)(b4 b5:ge)(j2 mK:Int)(mL:Bool)(mM:ip)(mN:io):am Cp Ce:=
 br (iL t58 t57)
 (
  au (aw t58 t56.length)<|
  atY (t6,t41,t42,t43,t50,t51,t56,t57,(qr (t58+(1:Int))),aA,aC,aK,aM,aO,aQ,aE,aG,bN,cW,dg,db,dk,dN,dO,dV,b2,b3,b4,(@fF .I (gt .I t56 t58) t6 b5),j2,mK,mL,mM,mN,()))
 (
  atZ (t6,t41,t42,t43,t50,t51,aA,aC,aK,aM,aO,aQ,aE,aG,bN,cW,dg,db,dk,dN,dO,dV,b2,b3,b4,b5,j2,mK,mL,mM,mN,()))
def VT  :K4:=cu (fun d=>mw (bM K3 d) (bX d)) (pL k0 e0 1 l0 fun d=>atP)
def xT:K6:=bp (fun d=>mw (bM K3 d) (bX d)) NN
def KZ(F0:G8)(L14:K6)(t6:Int)(t41:ce)(t42 t43 t50 t51 aA:Int)(aC:jp)(aK:bv)(aM aO aQ:jp)(aE:ce)(aG:bv)(bN:Int)(cW:jp)(dg:bv)(db dk dN:jp)(dO:ce)(dV:bv)(b2 b3:md)(b4 b5:ge)(j2 mK:Int)(mL:Bool)(mM:ip)(mN:io):am Co Cd:=
 br (iL t51 t50)
 (
  az (F0 ((j2,mK,mL,mM,mN,()),t51,())) fun x0=>
  az (L14 (t6,t41,t42,t43,t50,t51,x0.1,(Int.ofNat (List.length x0.1)),(0:Int),aA,aC,aK,aM,aO,aQ,aE,aG,bN,cW,dg,db,dk,dN,dO,dV,b2,b3,b4,b5,j2,mK,mL,mM,mN,())) fun x1=>
  atY (x1.1,x1.2.1,x1.2.2.1,cT x1,cQ x1,(qr (pp (cK x1) (1:Int))),qq6 x1))
 (
  atZ (t41,t42,t43,aA,aC,aK,aM,aO,aQ,aE,aG,bN,cW,dg,db,dk,dN,dO,dV,b2,b3,b4,b5,()))
def agH(c0:zy)(M14:K4):C6:=cu (fun d=>rN (bM (KZ c0.F M14.L) d) (bX d)) (pL (kD c0 k0) e0 1 (sC M14 l0) fun d=>atP)
def VS:C6:=agH G9 VT
def vv:K5:=bp (fun d=>rN (bM (KZ Az xT) d) (bX d)) NN
def Lk(L11:K5)(t41:ce)(t42 t43 aA:Int)(aC:jp)(aK:bv)(aM aO aQ:jp)(aE:ce)(aG:bv)(bN:Int)(cW:jp)(dg:bv)(db dk dN:jp)(dO:ce)(dV:bv)(b2 b3:md)(b4 b5:ge):am CK Cr:=
 br (iL t43 t42)
 (
  au (aw t43 t41.length)<|
  az (L11 (t43,t41,t42,t43,(Int.ofNat (List.length (gt ah t41 t43).2.2.2.1)),(0:Int),aA,aC,aK,aM,aO,aQ,aE,aG,bN,cW,dg,db,dk,dN,dO,dV,b2,b3,b4,b5,(gt ah t41 t43))) fun x0=>
  atY (x0.1,x0.2.1,(qr (pp x0.2.2.1 (1:Int))),xD x0))
 (
  atZ (aA,aC,aK,aM,aO,aQ,aE,aG,bN,cW,dg,db,dk,dN,dO,dV,b2,b3,b4,b5,()))
def agW(M11:C6):Ll:=cu (rO (Lk M11.L)) (pL k0 e0 1 (sC M11 l0) fun d=>atP)
def agY:Ll:=agW  VS
def xW:Wp:=bp (rO (Lk vv)) NN
def Ly(F0:G8)(F1:Vd)(F2:tK)(L3:Wo)(L8:Wp)(L11:K5)(L14:K6)(fp:Int)(jN:jp)(iH:bv)(kr ku kA:jp)(iw:ce)(j8:bv):Option (Out KR):=
 au (both (iE (0:Int) (qr (fp+(1:Int)))) (both (iE (qr (fp+(1:Int))) (qr (fp+(1:Int)))) (iE ((Int.ofNat 1)*(qr (fp+(1:Int)))) (281474976710656:Int))))<|
 au (both (iE (0:Int) (Int.ofNat iw.length)) (both (iE (Int.ofNat iw.length) (Int.ofNat iw.length)) (iE ((Int.ofNat 1)*(Int.ofNat iw.length)) (281474976710656:Int))))<|
 az (L3 (iH,(Int.ofNat iH.length),(0:Int),fp,jN,iH,kr,ku,kA,iw,j8,fp,jN,iH,kr,ku,kA,iw,j8,(List.replicate (Int.toNat (qr (fp+(1:Int)))) (Sh.zero .bool)),(List.replicate (Int.toNat (Int.ofNat iw.length)) (Sh.zero .bool)),[],[],())) fun x0=>
 az (L8 (cU x0,(Int.ofNat (List.length (cU x0))),(0:Int),x0)) fun x1=>
 az (F2 (cQ x1,dZ x1,eS x1,dH x1,fW x1,fK x1,(aW x1).2.1,(aW x1).2.2.1,cT (aW x1),cQ (aW x1),cK (aW x1),[],qq6 (aW x1))) fun x2=>
 az (F2 (cK x1,x2.1,x2.2.1,x2.2.2.1,cT x2,cQ x2,cK x2,cU x2,dz x2,dZ x2,eS x2,fK x2,dH x2,fW x2,())) fun x3=>
 az (F1 (x3.1,x3.2.1,x3.2.2.1,cT x3,cQ x3,cK x3,cU x3,dz x3,dZ x3,eS x3,fK x3,dH x3,fW x3,())) fun x4=>
 some (x4.1,x4.2.1,x4.2.2.1,cT x4,cQ x4,cK x4,cU x4,dz x4,dZ x4,eS x4,fK x4,dH x4,fW x4,())
def ag7(c0:zy)(c1:KA)(c2:rQ)(M3:Wn)(M8:Ll)(M11:C6)(M14:K4):Lx:=⟨u8 (Ly c0.F c1.F c2.F M3.L M8.L M11.L M14.L),pB Tryz.func51 82 (kD c0 (kB c1 (kB c2 k0))) e0 1 (sS (sC M3 (sC M8 l0))) fun d=>atP⟩
def WE:Lx:=ag7 G9 Vc tJ agX agY VS VT
def Lm:WG:=WE.F
abbrev Vk:ai:=⟨[(0,.I),(1,.func 53 [] [.ptr 0 0,.ptr 7 0])],ZN,8⟩
abbrev KE:List (Ev.Ex×ai):=[(.ret,⟨[(0,.hd 8 .I)],wV,9⟩)]
abbrev VW:=be Vk KE
abbrev K7:=Kb 52 2 Vk 1 KE
abbrev Cf:ai:=⟨[(1,.func 53 [] [.ptr 0 0,.ptr 7 0]),(4,.hd 8 .I),(6,.I),(7,.I)],wV,9⟩
abbrev B3:List (Ev.Ex×ai):=[((.exit 0),⟨[(4,.hd 8 .I)],wV,9⟩)]
abbrev VB:=be Cf B3
abbrev Vz:=Ld 8 19 (cj [0] (bu Tryz.f52)) Cf B3
def CL(t6 t7 bN:Int)(cW:jp)(dg:bv)(db dk dN:jp)(dO:ce)(dV:bv)(b2 b3:md)(b4:jp)(b5 b6:ge)(oY:Int)(mO:jp)(mP:bv)(oZ o0 o5:jp)(o6:ce)(o7:bv)(b8:jp):am Cf B3:=
 br (iL t7 t6)
 (
  au (aw t7 mO.length)<|
  au (aw (gt .I mO t7) b2.length)<|
  br (gt .bool b2 (gt .I mO t7))
  (
   au (room 8 (List.length (ap b8 (t7::[]))))<|
   atY (t6,(qr (t7+(1:Int))),bN,cW,dg,db,dk,dN,dO,dV,b2,b3,b4,b5,b6,oY,mO,mP,oZ,o0,o5,o6,o7,(ap b8 (t7::[])),()))
  (
   atY (t6,(qr (t7+(1:Int))),bN,cW,dg,db,dk,dN,dO,dV,b2,b3,b4,b5,b6,oY,mO,mP,oZ,o0,o5,o6,o7,b8,())))
 (
  atZ (bN,cW,dg,db,dk,dN,dO,dV,b2,b3,b4,b5,b6,oY,mO,mP,oZ,o0,o5,o6,o7,b8,()))
def agx  :Vz:=cu (qA CL) (pL k0 (eC Tryz.func53 atP e0) 5 l0 fun d=>atP)
def VA:VB:=bp (qA CL) NN
def agI(L2:VB)(t0 bN:Int)(cW:jp)(dg:bv)(db dk dN:jp)(dO:ce)(dV:bv)(b2 b3:md)(b4:jp)(b5 b6:ge)(oY:Int)(mO:jp)(mP:bv)(oZ o0 o5:jp)(o6:ce)(o7:bv):Option (Out KE):=
 az (L2 (t0,(0:Int),bN,cW,dg,db,dk,dN,dO,dV,b2,b3,b4,b5,b6,oY,mO,mP,oZ,o0,o5,o6,o7,[],())) fun x0=>
 some x0
def agJ(M2:Vz):K7:=⟨mw (agI M2.L),pB Tryz.func52 19 k0 (eC Tryz.func53 atP e0) 5 (sS (sC M2 l0)) fun d=>atP⟩
def VV:K7:=agJ  agx
def KS:VW:=VV.F
abbrev Vl:ai:=⟨[(0,.I),(1,.func 54 [] [.ptr 0 0,.ptr 7 0])],ZN,8⟩
abbrev KF:List (Ev.Ex×ai):=[(.ret,⟨[(0,.hd 8 .I)],wV,9⟩)]
abbrev VY:=be Vl KF
abbrev K8:=Kb 52 2 Vl 1 KF
abbrev Cg:ai:=⟨[(1,.func 54 [] [.ptr 0 0,.ptr 7 0]),(4,.hd 8 .I),(6,.I),(7,.I)],wV,9⟩
abbrev B5:List (Ev.Ex×ai):=[((.exit 0),⟨[(4,.hd 8 .I)],wV,9⟩)]
abbrev VE:=be Cg B5
abbrev VC:=Ld 8 19 (cj [0] (bu Tryz.f52)) Cg B5
def CM(t6 t7 bN:Int)(cW:jp)(dg:bv)(db dk dN:jp)(dO:ce)(dV:bv)(b2 b3:md)(b4:jp)(b5 b6:ge)(oY:Int)(mO:jp)(mP:bv)(oZ o0 o5:jp)(o6:ce)(o7:bv)(b8:jp):am Cg B5:=
 br (iL t7 t6)
 (
  au (aw t7 mP.length)<|
  au (aw (gt af mP t7).1 b2.length)<|
  br (gt .bool b2 (gt af mP t7).1)
  (
   au (room 8 (List.length (ap b8 (t7::[]))))<|
   atY (t6,(qr (t7+(1:Int))),bN,cW,dg,db,dk,dN,dO,dV,b2,b3,b4,b5,b6,oY,mO,mP,oZ,o0,o5,o6,o7,(ap b8 (t7::[])),()))
  (
   atY (t6,(qr (t7+(1:Int))),bN,cW,dg,db,dk,dN,dO,dV,b2,b3,b4,b5,b6,oY,mO,mP,oZ,o0,o5,o6,o7,b8,())))
 (
  atZ (bN,cW,dg,db,dk,dN,dO,dV,b2,b3,b4,b5,b6,oY,mO,mP,oZ,o0,o5,o6,o7,b8,()))
def agy  :VC:=cu (qA CM) (pL k0 (eC Tryz.func54 atP e0) 5 l0 fun d=>atP)
def VD:VE:=bp (qA CM) NN
def agK(L2:VE)(t0 bN:Int)(cW:jp)(dg:bv)(db dk dN:jp)(dO:ce)(dV:bv)(b2 b3:md)(b4:jp)(b5 b6:ge)(oY:Int)(mO:jp)(mP:bv)(oZ o0 o5:jp)(o6:ce)(o7:bv):Option (Out KF):=
 az (L2 (t0,(0:Int),bN,cW,dg,db,dk,dN,dO,dV,b2,b3,b4,b5,b6,oY,mO,mP,oZ,o0,o5,o6,o7,[],())) fun x0=>
 some x0
def agL(M2:VC):K8:=⟨mw (agK M2.L),pB Tryz.func52 19 k0 (eC Tryz.func54 atP e0) 5 (sS (sC M2 l0)) fun d=>atP⟩
def VX:K8:=agL  agy
def CN:VY:=VX.F
abbrev Vm:ai:=⟨[(0,.I),(1,.func 55 [] [.ptr 0 0])],[(0,.cells [.ptr 1 0] 105),(1,.cells Io 110),(2,.arr .bool 4),(3,.arr .bool 4),(4,.arr .I 3),(5,.map .i64 .I),(6,.map .i64 .I)],7⟩
abbrev KG:List (Ev.Ex×ai):=[(.ret,⟨[(0,.hd 7 .I)],NL,8⟩)]
abbrev V0:=be Vm KG
abbrev K9:=Kb 52 2 Vm 1 KG
abbrev Ch:ai:=⟨[(1,.func 55 [] [.ptr 0 0]),(4,.hd 7 .I),(6,.I),(7,.I)],NL,8⟩
abbrev B6:List (Ev.Ex×ai):=[((.exit 0),⟨[(4,.hd 7 .I)],NL,8⟩)]
abbrev VH:=be Ch B6
abbrev VF:=Ld 7 19 (cj [0] (bu Tryz.f52)) Ch B6
def CO(t6 t7 bN:Int)(cW:jp)(dg:bv)(db dk dN:jp)(dO:ce)(dV:bv)(b2 b3:md)(b4:jp)(b5 b6:ge)(b7:jp):am Ch B6:=
 br (iL t7 t6)
 (
  au (aw t7 b3.length)<|
  br (gt .bool b3 t7)
  (
   au (room 8 (List.length (ap b7 (t7::[]))))<|
   atY (t6,(qr (t7+(1:Int))),bN,cW,dg,db,dk,dN,dO,dV,b2,b3,b4,b5,b6,(ap b7 (t7::[])),()))
  (
   atY (t6,(qr (t7+(1:Int))),bN,cW,dg,db,dk,dN,dO,dV,b2,b3,b4,b5,b6,b7,())))
 (
  atZ (bN,cW,dg,db,dk,dN,dO,dV,b2,b3,b4,b5,b6,b7,()))
def agz  :VF:=cu (u16 CO) (pL k0 (eC Tryz.func55 atP e0) 5 l0 fun d=>atP)
def VG:VH:=bp (u16 CO) NN
def agM(L2:VH)(t0 bN:Int)(cW:jp)(dg:bv)(db dk dN:jp)(dO:ce)(dV:bv)(b2 b3:md)(b4:jp)(b5 b6:ge):Option (Out KG):=
 az (L2 (t0,(0:Int),bN,cW,dg,db,dk,dN,dO,dV,b2,b3,b4,b5,b6,[],())) fun x0=>
 some x0
def agN(M2:VF):K9:=⟨iC (agM M2.L),pB Tryz.func52 19 k0 (eC Tryz.func55 atP e0) 5 (sS (sC M2 l0)) fun d=>atP⟩
def VZ:K9:=agN  agz
def CP:V0:=VZ.F
abbrev CI:ai:=⟨[(1,.ptr 0 0),(2,.ptr 1 0),(4,.fz .I),(5,.hd 2 .bool),(8,.ptr 3 0),(10,.hd 5 .I),(13,.I),(14,.I)],NK,6⟩
abbrev Cn:List (Ev.Ex×ai):=[((.exit 6),⟨[(1,.ptr 0 0),(2,.ptr 1 0),(4,.fz .I),(8,.ptr 2 0),(10,.hd 4 .I)],[(0,.cells fR 27),(1,.cells qh 27),(2,.cells [.I,.hd 3 .I,.fz af,.fz .I,.fz .I,.fz .I,.fz ah,.fz af] 27),(3,.arr .I 3),(4,.arr .I 3)],5⟩)]
abbrev Wm:=be CI Cn
abbrev Wj:=Ld 0 109 (cj [3] (bu Tryz.f56)) CI Cn
abbrev CH:ai:=⟨[(1,.ptr 0 0),(2,.ptr 1 0),(4,.fz .I),(5,.hd 2 .bool),(8,.ptr 3 0),(10,.hd 5 .I),(56,.fz .I),(57,.I),(58,.I)],NK,6⟩
abbrev Cm:List (Ev.Ex×ai):=[((.exit 4),⟨[(1,.ptr 0 0),(2,.ptr 1 0),(4,.fz .I),(5,.hd 2 .bool),(8,.ptr 3 0),(10,.hd 5 .I)],NK,6⟩)]
abbrev Wl:=be CH Cm
abbrev Wi:=Ld 0 109 (cj [2] (bu Tryz.f56)) CH Cm
abbrev CG:ai:=⟨[(1,.ptr 0 0),(2,.ptr 1 0),(4,.fz .I),(5,.hd 2 .bool),(8,.ptr 3 0),(9,.I)],ZL,5⟩
abbrev Cl:List (Ev.Ex×ai):=[((.exit 2),⟨[(1,.ptr 0 0),(2,.ptr 1 0),(4,.fz .I),(5,.hd 2 .bool),(8,.ptr 3 0)],ZL,5⟩)]
abbrev Wk:=be CG Cl
abbrev Wh:=Ld 0 109 (cj [1] (bu Tryz.f56)) CG Cl
abbrev KY:ai:=⟨[(1,.ptr 0 0),(2,.ptr 1 0),(4,.fz .I),(5,.hd 2 .bool),(23,.fz .I),(24,.I),(25,.I)],[(0,.cells fR 27),(1,.cells qh 27),(2,.arr .bool 4)],3⟩
abbrev KQ:List (Ev.Ex×ai):=[((.exit 0),⟨[(1,.ptr 0 0),(2,.ptr 1 0),(4,.fz .I),(5,.hd 2 .bool)],[(0,.cells fR 27),(1,.cells qh 27),(2,.arr .bool 4)],3⟩)]
abbrev WC:=be KY KQ
abbrev WB:=Ld 0 109 (cj [0] (bu Tryz.f56)) KY KQ
def Dp(t4 t23:jp)(t24 t25 aA:Int)(aC:jp)(aK:bv)(aM aO aQ:jp)(aE:ce)(aG:bv)(bN:Int)(b2:md):am KY KQ:=
 br (iL t25 t24)
 (
  au (aw t25 t23.length)<|
  au (aw (gt .I t23 t25) b2.length)<|
  atY (t4,t23,t24,(qr (t25+(1:Int))),aA,aC,aK,aM,aO,aQ,aE,aG,bN,(List.set b2 (Int.toNat (gt .I t23 t25)) true),()))
 (
  atZ (t4,aA,aC,aK,aM,aO,aQ,aE,aG,bN,b2,()))
def ag6  :WB:=cu (iC Dp) (pL k0 e0 1 l0 fun d=>atP)
def Dq:WC:=bp (iC Dp) NN
def Df(t4:jp)(t9 aA:Int)(aC:jp)(aK:bv)(aM aO aQ:jp)(aE:ce)(aG:bv)(bN:Int)(b2:md)(nX:Int)(nY:bv)(kQ nZ n5:jp)(n7:ce)(n8:bv)(b4:jp):am CG Cl:=
 br (iE t9 aA)
 (
  au (aw t9 b2.length)<|
  br (Bool.not (gt .bool b2 t9))
  (
   au (room 8 (List.length (ap b4 (t9::[]))))<|
   atY (t4,(qr (t9+(1:Int))),aA,aC,aK,aM,aO,aQ,aE,aG,bN,b2,nX,nY,kQ,nZ,n5,n7,n8,(ap b4 (t9::[])),()))
  (
   atY (t4,(qr (t9+(1:Int))),aA,aC,aK,aM,aO,aQ,aE,aG,bN,b2,nX,nY,kQ,nZ,n5,n7,n8,b4,())))
 (
  atZ (t4,aA,aC,aK,aM,aO,aQ,aE,aG,bN,b2,nX,nY,kQ,nZ,n5,n7,n8,b4,()))
def agT  :Wh:=cu (l9 Df) (pL k0 e0 1 l0 fun d=>atP)
def Lh:Wk:=bp (l9 Df) NN
def Dg(t4 t56:jp)(t57 t58 aA:Int)(aC:jp)(aK:bv)(aM aO aQ:jp)(aE:ce)(aG:bv)(bN:Int)(b2:md)(nX:Int)(nY:bv)(kQ nZ n5:jp)(n7:ce)(n8:bv)(b4 b5:jp):am CH Cm:=
 br (iL t58 t57)
 (
  au (aw t58 t56.length)<|
  au (aw (gt .I t56 t58) b5.length)<|
  atY (t4,t56,t57,(qr (t58+(1:Int))),aA,aC,aK,aM,aO,aQ,aE,aG,bN,b2,nX,nY,kQ,nZ,n5,n7,n8,b4,(List.set b5 (Int.toNat (gt .I t56 t58)) (qr (t58+(1:Int)))),()))
 (
  atZ (t4,aA,aC,aK,aM,aO,aQ,aE,aG,bN,b2,nX,nY,kQ,nZ,n5,n7,n8,b4,b5,()))
def agU  :Wi:=cu (rO Dg) (pL k0 e0 1 l0 fun d=>atP)
def Di:Wl:=bp (rO Dg) NN
def Dh(t4:jp)(t13 t14 aA:Int)(aC:jp)(aK:bv)(aM aO aQ:jp)(aE:ce)(aG:bv)(bN:Int)(b2:md)(nX:Int)(nY:bv)(kQ nZ n5:jp)(n7:ce)(n8:bv)(b4 b5:jp):am CI Cn:=
 br (iE t14 aA)
 (
  au (aw t14 b2.length)<|
  br (Bool.not (gt .bool b2 t14))
  (
   au (aw t14 b5.length)<|
   atY (t4,(qr (t13+(1:Int))),(qr (t14+(1:Int))),aA,aC,aK,aM,aO,aQ,aE,aG,bN,b2,nX,nY,kQ,nZ,n5,n7,n8,b4,(List.set b5 (Int.toNat t14) (qr (t13+(1:Int)))),()))
  (
   atY (t4,t13,(qr (t14+(1:Int))),aA,aC,aK,aM,aO,aQ,aE,aG,bN,b2,nX,nY,kQ,nZ,n5,n7,n8,b4,b5,())))
 (
  atZ (t4,aA,aC,aK,aM,aO,aQ,aE,aG,bN,nX,nY,kQ,nZ,n5,n7,n8,b4,b5,()))
def agV  :Wj:=cu (mw Dh) (pL k0 e0 1 l0 fun d=>atP)
def Li:Wm:=bp (mw Dh) NN
abbrev WD:List Sh:=[cA]
abbrev Dr:List Sh:=[cA,.I]
abbrev WY:=TL WD->Option (TL Dr)
abbrev LK:=Kd 56 WD Dr
def LL(F0:Wg)(F1:Du)(F2:WK)(L4:WC)(L10:Wk)(L16:Wl)(L22:Wm)(a0:Sh.T cA):Option (TL Dr):=
 az (F2 a0) fun x0=>
 au (both (iE (0:Int) (qr (pp a0.1 (1:Int)))) (both (iE (qr (pp a0.1 (1:Int))) (qr (pp a0.1 (1:Int)))) (iE ((Int.ofNat 1)*(qr (pp a0.1 (1:Int)))) (281474976710656:Int))))<|
 az (L4 (x0.1,x0.1,(Int.ofNat (List.length x0.1)),(0:Int),a0.1,a0.2.1,a0.2.2.1,cT a0,cQ a0,cK a0,cU a0,dz a0,(0:Int),(List.replicate (Int.toNat (qr (pp a0.1 (1:Int)))) (Sh.zero .bool)),())) fun x1=>
 az (F1 (x1.2.1,x1.2.2.1,cT x1,cQ x1,cK x1,cU x1,dz x1,dZ x1,())) fun x2=>
 az (L10 (x1.1,(1:Int),x1.2.1,x1.2.2.1,cT x1,cQ x1,cK x1,cU x1,dz x1,dZ x1,eS x1,dH x1,x2.1,x2.2.1,x2.2.2.1,cT x2,cQ x2,cK x2,cU x2,dz x2,())) fun x3=>
 au (both (iE (0:Int) (qr (pp x3.2.1 (1:Int)))) (both (iE (qr (pp x3.2.1 (1:Int))) (qr (pp x3.2.1 (1:Int)))) (iE ((Int.ofNat 8)*(qr (pp x3.2.1 (1:Int)))) (281474976710656:Int))))<|
 az (L16 (x3.1,x3.1,(Int.ofNat (List.length x3.1)),(0:Int),x3.2.1,x3.2.2.1,cT x3,cQ x3,cK x3,cU x3,dz x3,dZ x3,eS x3,dH x3,fW x3,fK x3,(aW x3).2.1,(aW x3).2.2.1,cT (aW x3),cQ (aW x3),cK (aW x3),cU (aW x3),(List.replicate (Int.toNat (qr (pp x3.2.1 (1:Int)))) (Sh.zero .I)),())) fun x4=>
 az (L22 (x4.1,(Int.ofNat (List.length x4.1)),(1:Int),x4.2)) fun x5=>
 az (F0 (dH x5,cK (aW x5),fW x5,fK x5,(aW x5).2.1,(aW x5).2.2.1,cT (aW x5),cQ (aW x5),cU (aW x5),())) fun x6=>
 br (Bool.not (iQ (dz x6) (0:Int)))
 (
  some ((x6.1,x6.2.1,x6.2.2.1,cT x6,cQ x6,cK x6,cU x6,dZ x6,()),dz x6,()))
 (
  au (both (iE (0:Int) (Int.ofNat (List.length x5.2.2.1))) (iE (Int.ofNat (List.length x5.2.2.1)) (Int.ofNat (List.length x6.2.1))))<|
  some (((Int.ofNat (List.length x5.1)),(List.take (Int.toNat (Int.ofNat (List.length x5.2.2.1))) x6.2.1),x6.2.2.1,cT x6,cQ x6,cK x6,cU x6,dZ x6,()),(0:Int),()))
def aha(c0:We)(c1:Ds)(c2:WI)(M4:WB)(M10:Wh)(M16:Wi)(M22:Wj):LK:=⟨u1 (LL c0.F c1.F c2.F M4.L M10.L M16.L M22.L),pD Tryz.func56 109 (kB c0 (kB c1 (kB c2 k0))) e0 1 (sS (sC M4 (sC M10 (sC M16 (sC M22 l0))))) fun d=>atP⟩
def WX:LK:=aha Wf Dt WJ ag6 agT agU agV
def Lw:WY:=WX.F
abbrev Dn:ai:=⟨[(2,.ptr 0 0),(5,.ptr 4 0),(6,.ptr 11 0),(105,.fz af),(106,.I),(107,.I)],[(0,.cells ZP 46),(1,.arr .I 3),(2,.arr .I 3),(3,.arr .I 3),(4,.cells [.ptr 5 0] 105),(5,.cells [.I,.fz .I,.fz af,.fz .I,.fz .I,.fz .I,.fz ah,.fz af,.hd 6 .bool,.hd 7 .bool,.hd 8 .I,.mp 9,.mp 10] 110),(6,.arr .bool 4),(7,.arr .bool 4),(8,.arr .I 3),(9,.map .i64 .I),(10,.map .i64 .I),(11,.cells [.I,.hd 12 .I,.hd 13 af,.bt,.fz .I,.fz .I,.hd 14 ah,.hd 15 af] 27),(12,.arr .I 3),(13,.arr af 78),(14,.arr ah 97),(15,.arr af 113)],16⟩
abbrev De:List (Ev.Ex×ai):=[((.exit 6),⟨[(2,.ptr 0 0),(6,.ptr 4 0)],[(0,.cells ZP 46),(1,.arr .I 3),(2,.arr .I 3),(3,.arr .I 3),(4,.cells [.I,.hd 5 .I,.hd 6 af,.bt,.fz .I,.fz .I,.hd 7 ah,.hd 8 af] 27),(5,.arr .I 3),(6,.arr af 78),(7,.arr ah 97),(8,.arr af 113)],9⟩)]
abbrev Xl:=be Dn De
abbrev Xh:=Ld 0 144 (cj [3] (bu Tryz.f18)) Dn De
abbrev xX:ai:=⟨[(1,.ptr 0 0),(2,.ptr 1 0),(5,.ptr 5 0),(6,.ptr 12 0),(86,.hd 4 .I),(87,.I),(88,.I)],afo,16⟩
abbrev xU:List (Ev.Ex×ai):=[((.exit 4),⟨NM,afo,16⟩)]
abbrev Xk:=be xX xU
abbrev LY:=Ld 0 144 (cj [2] (bu Tryz.f18)) xX xU
abbrev Dm:ai:=⟨[(1,.ptr 0 0),(2,.ptr 1 0),(5,.ptr 5 0),(6,.ptr 12 0),(68,.hd 3 .I),(69,.I),(70,.I)],ZI,15⟩
abbrev Dd:List (Ev.Ex×ai):=[((.exit 2),⟨NM,ZI,15⟩)]
abbrev Xj:=be Dm Dd
abbrev Xg:=Ld 0 144 (cj [1] (bu Tryz.f18)) Dm Dd
abbrev Dl:ai:=⟨[(1,.ptr 0 0),(2,.ptr 1 0),(5,.ptr 5 0),(6,.ptr 12 0),(50,.hd 2 .I),(51,.I),(52,.I)],ZJ,14⟩
abbrev Dc:List (Ev.Ex×ai):=[((.exit 0),⟨NM,ZJ,14⟩)]
abbrev Xi:=be Dl Dc
abbrev Xf:=Ld 0 144 (cj [0] (bu Tryz.f18)) Dl Dc
def Dy(t51 t52 aA:Int)(aC:jp)(aK:bv)(aM aO aQ:jp)(aE:ce)(aG:bv)(bN:Int)(b2 b3 b4:jp)(j2:Int)(mK:jp)(mL:bv)(mM mN sJ:jp)(sK:ce)(sL:bv)(b7 b8:md)(b9:jp)(b10 b11:ge)(rY:Int)(rZ r9 b13:jp):am Dl Dc:=
 br (iL t52 t51)
 (
  au (aw t52 b2.length)<|
  au (aw (gt .I b2 t52) aC.length)<|
  au (room 8 (List.length (ap b13 ((gt .I aC (gt .I b2 t52))::[]))))<|
  atY (t51,(qr (t52+(1:Int))),aA,aC,aK,aM,aO,aQ,aE,aG,bN,b2,b3,b4,j2,mK,mL,mM,mN,sJ,sK,sL,b7,b8,b9,b10,b11,rY,rZ,r9,(ap b13 ((gt .I aC (gt .I b2 t52))::[])),()))
 (
  atZ (aA,aC,aK,aM,aO,aQ,aE,aG,bN,b2,b3,b4,j2,mK,mL,mM,mN,sJ,sK,sL,b7,b8,b9,b10,b11,rY,rZ,r9,b13,()))
def ahm  :Xf:=cu (fun d=>rN (bM Dy d) (bX d)) (pL k0 (eC Tryz.func55 atP (eC Tryz.func54 atP (eC Tryz.func53 atP e0))) 5 l0 fun d=>atP)
def xZ:Xi:=bp (fun d=>rN (bM Dy d) (bX d)) NN
def Dz(t69 t70 aA:Int)(aC:jp)(aK:bv)(aM aO aQ:jp)(aE:ce)(aG:bv)(bN:Int)(b2 b3 b4:jp)(j2:Int)(mK:jp)(mL:bv)(mM mN sJ:jp)(sK:ce)(sL:bv)(b7 b8:md)(b9:jp)(b10 b11:ge)(rY:Int)(rZ r9 b13:jp)(b14:bv):am Dm Dd:=
 br (iL t70 t69)
 (
  au (aw t70 b3.length)<|
  au (aw (gt .I b3 t70) aK.length)<|
  au (room 24 (List.length (ap b14 ((gt af aK (gt .I b3 t70))::[]))))<|
  atY (t69,(qr (t70+(1:Int))),aA,aC,aK,aM,aO,aQ,aE,aG,bN,b2,b3,b4,j2,mK,mL,mM,mN,sJ,sK,sL,b7,b8,b9,b10,b11,rY,rZ,r9,b13,(ap b14 ((gt af aK (gt .I b3 t70))::[])),()))
 (
  atZ (aA,aC,aK,aM,aO,aQ,aE,aG,bN,b2,b3,b4,j2,mK,mL,mM,mN,sJ,sK,sL,b7,b8,b9,b10,b11,rY,rZ,r9,b13,b14,()))
def ahn  :Xg:=cu (fun d=>l9 (bM Dz d) (bX d)) (pL k0 (eC Tryz.func55 atP (eC Tryz.func54 atP (eC Tryz.func53 atP e0))) 5 l0 fun d=>atP)
def ya:Xj:=bp (fun d=>l9 (bM Dz d) (bX d)) NN
def DA(F3:Du)(t87 t88 aA:Int)(aC:jp)(aK:bv)(aM aO aQ:jp)(aE:ce)(aG:bv)(bN:Int)(b2 b3 b4:jp)(j2:Int)(mK:jp)(mL:bv)(mM mN sJ:jp)(sK:ce)(sL:bv)(b7 b8:md)(b9:jp)(b10 b11:ge)(rY:Int)(rZ r9 b13:jp)(b14:bv)(b15:ce):am xX xU:=
 br (iL t88 t87)
 (
  au (aw t88 b4.length)<|
  az (F3 (aA,aC,aK,aM,aO,aQ,aE,aG,())) fun x0=>
  au (aw (gt .I b4 t88) (List.length (cK x0)))<|
  au (iQ (gt .I b4 t88) (gt .I b4 t88))<|
  au (room 72 (List.length (ap b15 ((gt ah (cK x0) (gt .I b4 t88))::[]))))<|
  atY (t87,(qr (t88+(1:Int))),aA,aC,aK,aM,aO,aQ,aE,aG,bN,b2,b3,b4,j2,mK,mL,mM,mN,sJ,sK,sL,b7,b8,b9,b10,b11,rY,rZ,r9,b13,b14,(ap b15 ((gt ah (cK x0) (gt .I b4 t88))::[])),()))
 (
  atZ (aA,aC,aK,aM,aO,aQ,aE,aG,bN,b2,b3,b4,j2,mK,mL,mM,mN,sJ,sK,sL,b7,b8,b9,b10,b11,rY,rZ,r9,b13,b14,b15,()))
def ahl(c3:Ds) :LY:=cu (fun d=>T8 (bM (DA c3.F) d) (bX d)) (pL (kB c3 k0) (eC Tryz.func55 atP (eC Tryz.func54 atP (eC Tryz.func53 atP e0))) 5 l0 fun d=>atP)
def aho:LY:=ahl Dt
def yb:Xk:=bp (fun d=>T8 (bM (DA tM) d) (bX d)) NN
def DB(t105:bv)(t106 t107 aA:Int)(b1 b2 b3:jp)(Hi:Int)(Hj:jp)(Hk:bv)(Hl Hm Ho:jp)(Hq:ce)(Hr:bv)(b6 b7:md)(b8:jp)(b9 b10:ge)(Nl:Int)(Nm Nn b12:jp)(b13:bv)(b14:ce)(b15:bv):am Dn De:=
 br (iL t107 t106)
 (
  au (aw t107 t105.length)<|
  au (aw (gt af t105 t107).1 b6.length)<|
  br (gt .bool b6 (gt af t105 t107).1)
  (
   au (room 24 (List.length (ap b15 ((gt af t105 t107)::[]))))<|
   atY (t105,t106,(qr (t107+(1:Int))),aA,b1,b2,b3,Hi,Hj,Hk,Hl,Hm,Ho,Hq,Hr,b6,b7,b8,b9,b10,Nl,Nm,Nn,b12,b13,b14,(ap b15 ((gt af t105 t107)::[])),()))
  (
   atY (t105,t106,(qr (t107+(1:Int))),aA,b1,b2,b3,Hi,Hj,Hk,Hl,Hm,Ho,Hq,Hr,b6,b7,b8,b9,b10,Nl,Nm,Nn,b12,b13,b14,b15,())))
 (
  atZ (aA,b1,b2,b3,Nl,Nm,Nn,b12,b13,b14,b15,()))
def ahp  :Xh:=cu (fun d=>gm (bM DB d) (bX d)) (pL k0 (eC Tryz.func55 atP (eC Tryz.func54 atP (eC Tryz.func53 atP e0))) 5 l0 fun d=>atP)
def yc:Xl:=bp (fun d=>gm (bM DB d) (bX d)) NN
abbrev Xt:List Sh:=[cA]
abbrev Md:List Sh:=[vG,.I]
abbrev DM:=TL Xt->Option (TL Md)
abbrev yf:=Kd 18 Xt Md
def yg(F0:Wd)(F1:WY)(F2:uG)(F3:Du)(F4:V0)(F5:VY)(F6:VW)(F7:WG)(L11:Xi)(L16:Xj)(L21:Xk)(L26:Xl)(a0:Sh.T cA):Option (TL Md):=
 az (F2 (a0,())) fun x0=>
 br (Bool.not (iQ x0.1 (0:Int)))
 (
  some ((((0:Int),[],[],[],[],[],[],[],()),[],[],[],()),x0.1,()))
 (
  az (F7 a0) fun x1=>
  az (F6 ((Int.ofNat (List.length a0.2.1)),x1.1,x1.2.1,x1.2.2.1,cT x1,cQ x1,cK x1,cU x1,dz x1,dZ x1,eS x1,dH x1,fW x1,fK x1,a0)) fun x2=>
  az (F5 ((Int.ofNat (List.length (cT (aW x2)))),x2.1,x2.2.1,x2.2.2.1,cT x2,cQ x2,cK x2,cU x2,dz x2,dZ x2,eS x2,dH x2,fW x2,fK x2,(aW x2).2.1,(aW x2).2.2.1,cT (aW x2),cQ (aW x2),cK (aW x2),cU (aW x2),dz (aW x2),dZ (aW x2),())) fun x3=>
  az (F4 ((Int.ofNat (List.length (dz (aW x3)))),x3.1,x3.2.1,x3.2.2.1,cT x3,cQ x3,cK x3,cU x3,dz x3,dZ x3,eS x3,dH x3,fW x3,fK x3,())) fun x4=>
  az (F3 ((aW x3).2.1,(aW x3).2.2.1,cT (aW x3),cQ (aW x3),cK (aW x3),cU (aW x3),dz (aW x3),dZ (aW x3),())) fun x5=>
  az (L11 ((Int.ofNat (List.length (eS (aW x2)))),(0:Int),(aW x3).2.1,(aW x3).2.2.1,cT (aW x3),cQ (aW x3),cK (aW x3),cU (aW x3),dz (aW x3),dZ (aW x3),(0:Int),eS (aW x2),eS (aW x3),(aW x4).2.1,x4.1,x4.2.1,x4.2.2.1,cT x4,cQ x4,cK x4,cU x4,dz x4,dZ x4,eS x4,dH x4,fW x4,fK x4,x5.1,cT x5,cQ x5,[],())) fun x6=>
  az (L16 ((Int.ofNat (List.length (dH x6))),(0:Int),x6.1,x6.2.1,x6.2.2.1,cT x6,cQ x6,cK x6,cU x6,dz x6,dZ x6,eS x6,dH x6,fW x6,fK x6,(aW x6).2.1,(aW x6).2.2.1,cT (aW x6),cQ (aW x6),cK (aW x6),cU (aW x6),dz (aW x6),dZ (aW x6),eS (aW x6),dH (aW x6),fW (aW x6),fK (aW x6),(aW (aW x6)).2.1,(aW (aW x6)).2.2.1,(cT (aW (aW x6))),(cQ (aW (aW x6))),[],())) fun x7=>
  az (L21 ((Int.ofNat (List.length (fW x7))),(0:Int),x7.1,x7.2.1,x7.2.2.1,cT x7,cQ x7,cK x7,cU x7,dz x7,dZ x7,eS x7,dH x7,fW x7,fK x7,(aW x7).2.1,(aW x7).2.2.1,cT (aW x7),cQ (aW x7),cK (aW x7),cU (aW x7),dz (aW x7),dZ (aW x7),eS (aW x7),dH (aW x7),fW (aW x7),fK (aW x7),(aW (aW x7)).2.1,(aW (aW x7)).2.2.1,(cT (aW (aW x7))),(cQ (aW (aW x7))),(cK (aW (aW x7))),[],())) fun x8=>
  az (L26 (dz x8,(Int.ofNat (List.length (dz x8))),(0:Int),dZ x8,eS x8,dH x8,fW x8,fK x8,(aW x8).2.1,(aW x8).2.2.1,cT (aW x8),cQ (aW x8),cK (aW x8),cU (aW x8),dz (aW x8),dZ (aW x8),eS (aW x8),dH (aW x8),fW (aW x8),fK (aW x8),(aW (aW x8)).2.1,(aW (aW x8)).2.2.1,(cT (aW (aW x8))),(cQ (aW (aW x8))),(cK (aW (aW x8))),(cU (aW (aW x8))),[],())) fun x9=>
  az (F1 ((cQ x9,dz x9,dZ x9,[],cK x9,cU x9,T6 x9),())) fun x10=>
  br (Bool.not (iQ x10.2.1 (0:Int)))
  (
   some ((((0:Int),[],[],[],[],[],[],[],()),[],[],[],()),x10.2.1,()))
  (
   az (F0 (x10.1,())) fun x11=>
   some ((x11.1,x9.2.1,x9.2.2.1,cT x9,()),x11.2.2.1,())))
def ah0(c0:Lf)(c1:LK)(c2:sx)(c3:Ds)(c4:K9)(c5:K8)(c6:K7)(c7:Lx)(M11:Xf)(M16:Xg)(M21:LY)(M26:Xh):yf:=⟨u1 (yg c0.F c1.F c2.F c3.F c4.F c5.F c6.F c7.F M11.L M16.L M21.L M26.L),pD Tryz.func18 144 (kD c0 (kD c1 (kD c2 (kB c3 (kB c4 (kB c5 (kB c6 (kB c7 k0)))))))) (eC Tryz.func55 atP (eC Tryz.func54 atP (eC Tryz.func53 atP e0))) 5 (sS (sC M11 (sC M16 (sC M21 (sC M26 l0))))) fun d=>atP⟩
def DL:yf:=ah0 Wc WX sy Dt VZ VX VV WE ahm ahn aho ahp
def DG:DM:=DL.F
