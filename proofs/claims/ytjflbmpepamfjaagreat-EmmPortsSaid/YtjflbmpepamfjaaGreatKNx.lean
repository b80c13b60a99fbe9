import Derived.Test.YtjflbmpepamfjaaGreatKNc
set_option linter.all false
/- the document's jb: what is sound (printed by VTool.lean). -/
namespace Go.Proofs.YtjflbmpepamfjaaGreat.V
open Go Go.RowKit
set_option maxRecDepth 1000000
abbrev uA:List (Nat×LO):=[(0,.cells jI 27),(1,.arr .I 3)]
abbrev xy:List LA:=[.I,.I,.bool,.fz bW,.fz bA]
abbrev Cy:Lay:=⟨[(1,.ptr 0 0),(3,.hd 1 .I),(5,.I)],uA,2⟩
abbrev Cz:Lay:=⟨[(1,.ptr 0 0),(3,.hd 1 .I)],uA,2⟩
abbrev xz:Lay:=⟨[(2,.I)],[],0⟩
abbrev Lx:Lay:=⟨[(1,.ptr 0 0)],[(0,.cells jI 27)],1⟩
abbrev Ly:List (Nat×LO):=[(0,.cells jI 27),(1,.arr .I 3),(2,.cells xy 54)]
abbrev ady:Lay:=⟨[(1,.ptr 0 0),(3,.hd 1 .I),(4,.I)],uA,2⟩
abbrev Mb:Lay:=⟨[(1,.I),(2,.ptr 0 0),(5,.hd 1 .I),(6,.I)],[(0,.cells xy 54),(1,.arr .I 3)],2⟩
abbrev L0:List (Ev.Ex×Lay):=[((.exit 0),⟨[(5,.hd 0 .I)],[(0,.arr .I 3)],1⟩)]
abbrev Yq:=be Mb L0
abbrev Yr:=Ld 0 34 (cw [0] (bL Tryz.f98)) Mb L0
def Dl(t1 t6 aM aS:Int)(aI:Bool)(aN:eq)(aP:ge)(b1:io):am Mb L0:=
 br (iL t6 aS)
 (
  aq (ar t1 aN.length)<|
  aq (room 8 (List.length (ap b1 ((ol (md (gt bW aN t1).1 t6))::[]))))<|
  aGt (t1,(ol (t6+(1:Int))),aM,aS,aI,aN,aP,(ap b1 ((ol (md (gt bW aN t1).1 t6))::[])),()))
 (
  aGu (b1,()))
def auM  :Yr:=cH (u8 Dl) (pL k0 e0 1 l0 fun d=>aGm)
def Mp:Yq:=bu (u8 Dl) NN
abbrev Ziz:List Sh:=[aj,.I]
abbrev MF:List Sh:=[(.sl .I)]
abbrev wH:=TL Ziz->Option (TL MF)
abbrev ud:=Kd 98 Ziz MF
def MH(L5:Yq)(a0:Sh.T aj)(a1:Int):Option (TL MF):=
 br (iL a1 (0:Int))
 (
  some ([],()))
 (
  br (bH false true (iE (Int.ofNat (List.length (fW a0))) a1))
  (
   some ([],()))
  (
   aL (L5 (a1,(0:Int),a0.1,a0.2.1,a0.2.2.1,fW a0,gp a0,[],())) fun x0=>
   some (x0.1,())))
def auO(M5:Yr):ud:=⟨u2 (MH M5.L),pD Tryz.func98 34 k0 e0 1 (sS (sC M5 l0)) fun d=>aGm⟩
def wI:ud:=auO  auM
def LQ:wH:=wI.F
abbrev zn:Lay:=⟨[(1,.ptr 0 0),(4,.I)],[(0,.cells xy 54)],1⟩
abbrev zj:List (Ev.Ex×Lay):=[(.ret,⟨[(2,.bool)],[],0⟩),((.exit 2),⟨[],[],0⟩)]
abbrev PA:=be zn zj
abbrev Py:=Ld 0 69 (cw [1] (bL Tryz.f54)) zn zj
abbrev zm:Lay:=⟨[(1,.ptr 0 0),(3,.I)],[(0,.cells xy 54)],1⟩
abbrev zi:List (Ev.Ex×Lay):=[(.ret,⟨[(2,.bool)],[],0⟩),((.exit 0),⟨[(1,.ptr 0 0)],[(0,.cells xy 54)],1⟩)]
abbrev Pz:=be zm zi
abbrev Px:=Ld 0 69 (cw [0] (bL Tryz.f54)) zm zi
def zt(t3 aM aS:Int)(aI:Bool)(aN:eq)(aP:ge):am zm zi:=
 br (iL t3 (Int.ofNat aN.length))
 (
  aq (ar t3 aN.length)<|
  br (Bool.not (iQ (Int.ofNat (List.length (gt bW aN t3).2.1)) aM))
  (
   aGu (.inl (true,())))
  (
   aGt ((ol (t3+(1:Int))),aM,aS,aI,aN,aP,())))
 (
  aGu (.inr (aM,aS,aI,aN,aP,())))
def ad4  :Px:=cH (u6 zt) (pL k0 e0 1 l0 fun d=>aGm)
def Fg:Pz:=bu (u6 zt) NN
def zu(t4 aM aS:Int)(aI:Bool)(aN:eq)(aP:ge):am zn zj:=
 br (iL t4 (Int.ofNat aP.length))
 (
  aq (ar t4 aP.length)<|
  br (Bool.not (iQ (Int.ofNat (List.length (gt bA aP t4).2.1)) aM))
  (
   aGu (.inl (true,())))
  (
   aq (ar t4 aP.length)<|
   br (bH false true (Bool.not (iQ (Int.ofNat (List.length (gt bA aP t4).2.2.1)) aS)))
   (
    aGu (.inl (true,())))
   (
    aGt ((ol (t4+(1:Int))),aM,aS,aI,aN,aP,()))))
 (
  aGu (.inr ()))
def ad5  :Py:=cH (u6 zu) (pL k0 e0 1 l0 fun d=>aGm)
def Fh:PA:=bu (u6 zu) NN
abbrev PB:List Sh:=[aj]
abbrev Fi:List Sh:=[.bool]
abbrev Fl:=TL PB->Option (TL Fi)
abbrev zv:=Kd 54 PB Fi
def Fj(L4:Pz)(L9:PA)(a0:Sh.T aj):Option (TL Fi):=
 br (iL a0.1 (1:Int))
 (
  some (true,()))
 (
  br (bH false true (iL (62:Int) a0.1))
  (
   some (true,()))
  (
   br (bH false true (iL a0.2.1 (1:Int)))
   (
    some (true,()))
   (
    br (bH false true (iL (64:Int) a0.2.1))
    (
     some (true,()))
    (
     aL (L4 ((0:Int),a0)) fun x0=>
     (match x0 with
     |.inl x1=>some (x1.1,())|.inr x1=>
      aL (L9 ((0:Int),x1)) fun x2=>
      (match x2 with|.inl x3=>some (x3.1,())|.inr x3=>some (false,())
      )
     )))))
def ad6(M4:Px)(M9:Py):zv:=⟨u1 (Fj M4.L M9.L),pD Tryz.func54 69 k0 e0 1 (sS (sC M4 (sC M9 l0))) fun d=>aGm⟩
def Fk:zv:=ad6  ad4 ad5
def Ff:Fl:=Fk.F
abbrev zd:Lay:=⟨[(1,.ptr 0 0),(3,.I)],[(0,.cells jI 27)],1⟩
abbrev yY:List (Ev.Ex×Lay):=[(.ret,⟨[(2,.bool)],[],0⟩),((.exit 0),Lx)]
abbrev Pp:=be zd yY
abbrev Pn:=Ld 0 73 (cw [0] (bL Tryz.f53)) zd yY
def zl(t3 aM:Int)(aS:io)(aI:bi)(aN aP bf:io)(az:bv)(aJ:bi):am zd yY:=
 br (iL t3 (Int.ofNat az.length))
 (
  aq (ar t3 az.length)<|
  br (iL (4:Int) (Int.ofNat (List.length (gt aj az t3).2.2.2.1)))
  (
   aGu (.inl (true,())))
  (
   aq (ar t3 az.length)<|
   br (bH false true (iL (4:Int) (Int.ofNat (List.length (gt aj az t3).2.2.2.2.1))))
   (
    aGu (.inl (true,())))
   (
    aGt ((ol (t3+(1:Int))),aM,aS,aI,aN,aP,bf,az,aJ,()))))
 (
  aGu (.inr (aM,aS,aI,aN,aP,bf,az,aJ,())))
def adY  :Pn:=cH (u9 zl) (pL k0 e0 1 l0 fun d=>aGm)
def E7:Pp:=bu (u9 zl) NN
abbrev Pq:List Sh:=[bD]
abbrev vl:List Sh:=[.bool]
abbrev Pw:=TL Pq->Option (TL vl)
abbrev Fb:=Kd 53 Pq vl
def Fc(L4:Pp)(a0:Sh.T bD):Option (TL vl):=
 br (iL a0.1 (0:Int))
 (
  some (true,()))
 (
  br (bH false true (iL (2000:Int) a0.1))
  (
   some (true,()))
  (
   br (bH false true (iL (1000:Int) (ol ((ol ((Int.ofNat (List.length (fW a0)))+(Int.ofNat (List.length (gp a0)))))+(Int.ofNat (List.length (iA a0)))))))
   (
    some (true,()))
   (
    br (bH false true (iL (4:Int) (Int.ofNat (List.length (jE a0)))))
    (
     some (true,()))
    (
     aL (L4 ((0:Int),a0)) fun x0=>
     (match x0 with
     |.inl x1=>some (x1.1,())|.inr x1=>
      br (iL (2000:Int) (Int.ofNat (List.length x1.2.1)))
      (
       some (true,()))
      (
       br (bH false true (iL (2000:Int) (Int.ofNat (List.length x1.2.2.1))))
       (
        some (true,()))
       (
        some ((bH false true (iL (2000:Int) (Int.ofNat (List.length (jF x1))))),())))
     )))))
def ad2(M4:Pn):Fb:=⟨u1 (Fc M4.L),pD Tryz.func53 73 k0 e0 1 (sS (sC M4 l0)) fun d=>aGm⟩
def Pv:Fb:=ad2  adY
def Po:Pw:=Pv.F
abbrev yQ:Lay:=⟨[(1,.ptr 0 0),(3,.hd 1 .I),(7,.I)],uA,2⟩
abbrev yI:List (Ev.Ex×Lay):=[((.exit 6),⟨[(3,.hd 0 .I)],[(0,.arr .I 3)],1⟩)]
abbrev OR:=be yQ yI
abbrev OO:=Ld 0 72 (cw [2] (bL Tryz.f97)) yQ yI
abbrev yW:Lay:=Cy
abbrev yS:List (Ev.Ex×Lay):=[((.exit 2),Cz)]
abbrev O7:=be yW yS
abbrev E0:=Ld 0 72 (cw [1] (bL Tryz.f97)) yW yS
abbrev yP:Lay:=⟨[(1,.ptr 0 0),(3,.hd 1 .I),(5,.I),(6,.I)],uA,2⟩
abbrev yH:List (Ev.Ex×Lay):=[((.exit 4),Cy)]
abbrev EW:=be yP yH
abbrev y6:=Ld 0 72 (cw [1,0] (bL Tryz.f97)) yP yH
abbrev yV:Lay:=ady
abbrev yR:List (Ev.Ex×Lay):=[((.exit 0),Cz)]
abbrev O6:=be yV yR
abbrev O3:=Ld 0 72 (cw [0] (bL Tryz.f97)) yV yR
def O1(t4 aM:Int)(aS:io)(aI:bi)(aN aP bf:io)(az:bv)(aJ:bi)(b1:io):am yV yR:=
 br (iL t4 (Int.ofNat aI.length))
 (
  aq (ar t4 aI.length)<|
  aq (room 8 (List.length (ap b1 ((gt ag aI t4).1::[]))))<|
  aGt ((ol (t4+(1:Int))),aM,aS,aI,aN,aP,bf,az,aJ,(ap b1 ((gt ag aI t4).1::[])),()))
 (
  aGu (aM,aS,aI,aN,aP,bf,az,aJ,b1,()))
def adN  :O3:=cH (eC O1) (pL k0 e0 1 l0 fun d=>aGm)
def O4:O6:=bu (eC O1) NN
def yZ(F0:wH)(t5 t6 aM:Int)(aS:io)(aI:bi)(aN aP bf:io)(az:bv)(aJ:bi)(b1:io):am yP yH:=
 aq (ar t5 az.length)<|
 br (iL t6 (Int.ofNat (List.length (gt aj az t5).2.2.2.1)))
 (
  aq (ar t5 az.length)<|
  aL (F0 ((gt aj az t5),t6,())) fun x0=>
  aq (room 8 (List.length (ap b1 x0.1)))<|
  aGt (t5,(ol (t6+(1:Int))),aM,aS,aI,aN,aP,bf,az,aJ,(ap b1 x0.1),()))
 (
  aGu (t5,aM,aS,aI,aN,aP,bf,az,aJ,b1,()))
def adH(c0:ud) :y6:=cH (nN (yZ c0.F)) (pL (kD c0 k0) e0 1 l0 fun d=>aGm)
def OQ:y6:=adH wI
def EV:EW:=bu (nN (yZ LQ)) NN
def O2(L10:EW)(t5 aM:Int)(aS:io)(aI:bi)(aN aP bf:io)(az:bv)(aJ:bi)(b1:io):am yW yS:=
 br (iL t5 (Int.ofNat az.length))
 (
  aL (L10 (t5,(0:Int),aM,aS,aI,aN,aP,bf,az,aJ,b1,())) fun x0=>
  aGt ((ol (md x0.1 (1:Int))),x0.2))
 (
  aGu (aM,aS,aI,aN,aP,bf,az,aJ,b1,()))
def adM(M10:y6):E0:=cH (eC (O2 M10.L)) (pL k0 e0 1 (sC M10 l0) fun d=>aGm)
def adO:E0:=adM  OQ
def O5:O7:=bu (eC (O2 EV)) NN
def ON(t7 aM:Int)(aS:io)(aI:bi)(aN aP bf:io)(az:bv)(aJ:bi)(b1:io):am yQ yI:=
 br (iL t7 (Int.ofNat aJ.length))
 (
  aq (ar t7 aJ.length)<|
  aq (room 8 (List.length (ap b1 ((gt ag aJ t7).1::[]))))<|
  aGt ((ol (t7+(1:Int))),aM,aS,aI,aN,aP,bf,az,aJ,(ap b1 ((gt ag aJ t7).1::[])),()))
 (
  aGu (b1,()))
def adI  :OO:=cH (eC ON) (pL k0 e0 1 l0 fun d=>aGm)
def OP:OR:=bu (eC ON) NN
abbrev O8:List Sh:=[bD]
abbrev E1:List Sh:=[(.sl .I)]
abbrev Pg:=TL O8->Option (TL E1)
abbrev E4:=Kd 97 O8 E1
def adT(F0:wH)(L3:O6)(L7:O7)(L10:EW)(L14:OR)(a0:Sh.T bD):Option (TL E1):=
 aq (room 8 (List.length (ap [] a0.2.1)))<|
 aL (L3 ((0:Int),a0.1,a0.2.1,a0.2.2.1,fW a0,gp a0,iA a0,jE a0,jF a0,(ap [] a0.2.1),())) fun x0=>
 aL (L7 ((0:Int),x0)) fun x1=>
 aL (L14 ((0:Int),x1)) fun x2=>
 some (x2.1,())
def adU(c0:ud)(M3:O3)(M7:E0)(M10:y6)(M14:OO):E4:=⟨u1 (adT c0.F M3.L M7.L M10.L M14.L),pD Tryz.func97 72 (kD c0 k0) e0 1 (sS (sC M3 (sC M7 (sC M14 l0)))) fun d=>aGm⟩
def Pf:E4:=adU wI adN adO OQ adI
def adL:Pg:=Pf.F
abbrev yM:Lay:=⟨[(1,.ptr 0 0),(3,.hd 1 .I),(10,.I)],uA,2⟩
abbrev yG:List (Ev.Ex×Lay):=[((.exit 8),⟨[(3,.hd 0 .I)],[(0,.arr .I 3)],1⟩)]
abbrev OM:=be yM yG
abbrev OD:=Ld 0 114 (cw [2] (bL Tryz.f56)) yM yG
abbrev yJ:Lay:=Cy
abbrev yD:List (Ev.Ex×Lay):=[((.exit 2),Cz)]
abbrev OL:=be yJ yD
abbrev EL:=Ld 0 114 (cw [1] (bL Tryz.f56)) yJ yD
abbrev yL:Lay:=⟨[(1,.ptr 0 0),(3,.hd 1 .I),(5,.I),(6,.ptr 2 0),(8,.I)],Ly,3⟩
abbrev yF:List (Ev.Ex×Lay):=[((.exit 6),Cy)]
abbrev ET:=be yL yF
abbrev EO:=Ld 0 114 (cw [1,1] (bL Tryz.f56)) yL yF
abbrev yK:Lay:=⟨[(1,.ptr 0 0),(3,.hd 1 .I),(5,.I),(6,.ptr 2 0),(7,.I)],Ly,3⟩
abbrev yE:List (Ev.Ex×Lay):=[((.exit 4),⟨[(1,.ptr 0 0),(3,.hd 1 .I),(5,.I),(6,.ptr 2 0)],Ly,3⟩)]
abbrev ES:=be yK yE
abbrev EM:=Ld 0 114 (cw [1,0] (bL Tryz.f56)) yK yE
abbrev yT:Lay:=ady
abbrev yN:List (Ev.Ex×Lay):=[((.exit 0),Cz)]
abbrev OV:=be yT yN
abbrev OS:=Ld 0 114 (cw [0] (bL Tryz.f56)) yT yN
def EX(t4 aM:Int)(aS:io)(aI:bi)(aN aP bf:io)(az:bv)(aJ:bi)(b1:io):am yT yN:=
 br (iL t4 (Int.ofNat aI.length))
 (
  aq (ar t4 aI.length)<|
  aq (room 8 (List.length (ap b1 ((gt ag aI t4).2.1::[]))))<|
  aGt ((ol (t4+(1:Int))),aM,aS,aI,aN,aP,bf,az,aJ,(ap b1 ((gt ag aI t4).2.1::[])),()))
 (
  aGu (aM,aS,aI,aN,aP,bf,az,aJ,b1,()))
def adJ  :OS:=cH (eC EX) (pL k0 e0 1 l0 fun d=>aGm)
def OU:OV:=bu (eC EX) NN
def EI(t5 t7 aM:Int)(aS:io)(aI:bi)(aN aP bf:io)(az:bv)(aJ:bi)(b1:io)(bT bZ:Int)(cf:Bool)(bS:eq)(bJ:ge):am yK yE:=
 br (iL t7 (Int.ofNat bS.length))
 (
  aq (ar t7 bS.length)<|
  aq (room 8 (List.length (ap b1 (gt bW bS t7).2.1)))<|
  aGt (t5,(ol (t7+(1:Int))),aM,aS,aI,aN,aP,bf,az,aJ,(ap b1 (gt bW bS t7).2.1),bT,bZ,cf,bS,bJ,()))
 (
  aGu (t5,aM,aS,aI,aN,aP,bf,az,aJ,b1,bT,bZ,cf,bS,bJ,()))
def OI  :EM:=cH (u16 EI) (pL k0 e0 1 l0 fun d=>aGm)
def EP:ES:=bu (u16 EI) NN
def EJ(t5 t8 aM:Int)(aS:io)(aI:bi)(aN aP bf:io)(az:bv)(aJ:bi)(b1:io)(bT bZ:Int)(cf:Bool)(bS:eq)(bJ:ge):am yL yF:=
 br (iL t8 (Int.ofNat bJ.length))
 (
  aq (ar t8 bJ.length)<|
  aq (room 8 (List.length (ap b1 ((gt bA bJ t8).1::[]))))<|
  aq (room 8 (List.length (ap (ap b1 ((gt bA bJ t8).1::[])) (gt bA bJ t8).2.1)))<|
  aq (room 8 (List.length (ap (ap (ap b1 ((gt bA bJ t8).1::[])) (gt bA bJ t8).2.1) (gt bA bJ t8).2.2.1)))<|
  aGt (t5,(ol (t8+(1:Int))),aM,aS,aI,aN,aP,bf,az,aJ,(ap (ap (ap b1 ((gt bA bJ t8).1::[])) (gt bA bJ t8).2.1) (gt bA bJ t8).2.2.1),bT,bZ,cf,bS,bJ,()))
 (
  aGu (t5,aM,aS,aI,aN,aP,bf,az,aJ,b1,()))
def OJ  :EO:=cH (u16 EJ) (pL k0 e0 1 l0 fun d=>aGm)
def ER:ET:=bu (u16 EJ) NN
def EH(L14:ES)(L18:ET)(t5 aM:Int)(aS:io)(aI:bi)(aN aP bf:io)(az:bv)(aJ:bi)(b1:io):am yJ yD:=
 br (iL t5 (Int.ofNat az.length))
 (
  aq (ar t5 az.length)<|
  aL (L14 (t5,(0:Int),aM,aS,aI,aN,aP,bf,az,aJ,b1,(gt aj az t5))) fun x0=>
  aL (L18 (x0.1,(0:Int),x0.2)) fun x1=>
  aGt ((ol (md x1.1 (1:Int))),x1.2))
 (
  aGu (aM,aS,aI,aN,aP,bf,az,aJ,b1,()))
def adE(M14:EM)(M18:EO):EL:=cH (eC (EH M14.L M18.L)) (pL k0 e0 1 (sC M14 (sC M18 l0)) fun d=>aGm)
def adF:EL:=adE  OI OJ
def OE:OL:=bu (eC (EH EP ER)) NN
def EK(t10 aM:Int)(aS:io)(aI:bi)(aN aP bf:io)(az:bv)(aJ:bi)(b1:io):am yM yG:=
 br (iL t10 (Int.ofNat aJ.length))
 (
  aq (ar t10 aJ.length)<|
  aq (ar t10 aJ.length)<|
  aq (room 8 (List.length (ap b1 ((gt ag aJ t10).2.1::((gt ag aJ t10).2.2.1::[])))))<|
  aGt ((ol (t10+(1:Int))),aM,aS,aI,aN,aP,bf,az,aJ,(ap b1 ((gt ag aJ t10).2.1::((gt ag aJ t10).2.2.1::[]))),()))
 (
  aGu (b1,()))
def adG  :OD:=cH (eC EK) (pL k0 e0 1 l0 fun d=>aGm)
def OH:OM:=bu (eC EK) NN
abbrev OW:List Sh:=[bD]
abbrev EY:List Sh:=[(.sl .I)]
abbrev Pa:=TL OW->Option (TL EY)
abbrev E2:=Kd 56 OW EY
def adP(L3:OV)(L10:OL)(L14:ES)(L18:ET)(L25:OM)(a0:Sh.T bD):Option (TL EY):=
 aL (L3 ((0:Int),a0.1,a0.2.1,a0.2.2.1,fW a0,gp a0,iA a0,jE a0,jF a0,[],())) fun x0=>
 aq (room 8 (List.length (ap (kz x0) (fW x0))))<|
 aq (room 8 (List.length (ap (ap (kz x0) (fW x0)) (gp x0))))<|
 aq (room 8 (List.length (ap (ap (ap (kz x0) (fW x0)) (gp x0)) (iA x0))))<|
 aL (L10 ((0:Int),x0.1,x0.2.1,x0.2.2.1,fW x0,gp x0,iA x0,jE x0,jF x0,(ap (ap (ap (kz x0) (fW x0)) (gp x0)) (iA x0)),())) fun x1=>
 aL (L25 ((0:Int),x1)) fun x2=>
 some (x2.1,())
def adQ(M3:OS)(M10:EL)(M14:EM)(M18:EO)(M25:OD):E2:=⟨u1 (adP M3.L M10.L M14.L M18.L M25.L),pD Tryz.func56 114 k0 e0 1 (sS (sC M3 (sC M10 (sC M25 l0)))) fun d=>aGm⟩
def O9:E2:=adQ  adJ adF OI OJ adG
def OT:Pa:=O9.F
abbrev yU:Lay:=⟨[(1,.ptr 0 0),(4,.hd 1 .bool),(6,.I)],[(0,.cells jI 27),(1,.arr .bool 4)],2⟩
abbrev yO:List (Ev.Ex×Lay):=[(.ret,xz),((.exit 2),⟨[],[],0⟩)]
abbrev OZ:=be yU yO
abbrev OX:=Ld 0 57 (cw [1] (bL Tryz.f55)) yU yO
abbrev tC:Lay:=⟨[(1,.ptr 0 0),(3,.fz .I),(4,.hd 1 .bool),(5,.I)],[(0,.cells jI 27),(1,.arr .bool 4)],2⟩
abbrev vj:List (Ev.Ex×Lay):=[(.ret,xz),((.exit 0),⟨[(1,.ptr 0 0),(4,.hd 1 .bool)],[(0,.cells jI 27),(1,.arr .bool 4)],2⟩)]
abbrev Pd:=be tC vj
abbrev Pb:=Ld 0 57 (cw [0] (bL Tryz.f55)) tC vj
def zh(t3:io)(t5 aM:Int)(aS:io)(aI:bi)(aN aP bf:io)(az:bv)(aJ:bi)(b1:ip):am tC vj:=
 br (iL t5 (Int.ofNat t3.length))
 (
  aq (ar t5 t3.length)<|
  br (iL (gt .I t3 t5) (1:Int))
  (
   aGu (.inl ((5:Int),())))
  (
   aq (ar t5 t3.length)<|
   br (bH false true (iL aM (gt .I t3 t5)))
   (
    aGu (.inl ((5:Int),())))
   (
    aq (ar t5 t3.length)<|
    aq (ar (gt .I t3 t5) b1.length)<|
    br (gt .bool b1 (gt .I t3 t5))
    (
     aGu (.inl ((6:Int),())))
    (
     aq (ar t5 t3.length)<|
     aq (ar (gt .I t3 t5) b1.length)<|
     aGt (t3,(ol (t5+(1:Int))),aM,aS,aI,aN,aP,bf,az,aJ,(List.set b1 (Int.toNat (gt .I t3 t5)) true),())))))
 (
  aGu (.inr (aM,aS,aI,aN,aP,bf,az,aJ,b1,())))
def adS  :Pb:=cH (nN zh) (pL k0 e0 1 l0 fun d=>aGm)
def adR:Pd:=bu (nN zh) NN
def vk(t6 aM:Int)(aS:io)(aI:bi)(aN aP bf:io)(az:bv)(aJ:bi)(b1:ip):am yU yO:=
 br (iE t6 aM)
 (
  aq (ar t6 b1.length)<|
  br (Bool.not (gt .bool b1 t6))
  (
   aGu (.inl ((7:Int),())))
  (
   aGt ((ol (t6+(1:Int))),aM,aS,aI,aN,aP,bf,az,aJ,b1,())))
 (
  aGu (.inr ()))
def adK  :OX:=cH (eC vk) (pL k0 e0 1 l0 fun d=>aGm)
def OY:OZ:=bu (eC vk) NN
abbrev Pe:List Sh:=[bD]
abbrev E3:List Sh:=[.I]
abbrev Pm:=TL Pe->Option (TL E3)
abbrev E6:=Kd 55 Pe E3
def adW(F0:Pg)(L4:Pd)(L12:OZ)(a0:Sh.T bD):Option (TL E3):=
 aL (F0 (a0,())) fun x0=>
 aq (both (iE (0:Int) (ol (md a0.1 (1:Int)))) (both (iE (ol (md a0.1 (1:Int))) (ol (md a0.1 (1:Int)))) (iE ((Int.ofNat 1)*(ol (md a0.1 (1:Int)))) (281474976710656:Int))))<|
 aL (L4 (x0.1,(0:Int),a0.1,a0.2.1,a0.2.2.1,fW a0,gp a0,iA a0,jE a0,jF a0,(List.replicate (Int.toNat (ol (md a0.1 (1:Int)))) (Sh.zero .bool)),())) fun x1=>
 (match x1 with
 |.inl x2=>some (x2.1,())|.inr x2=>
  aL (L12 ((1:Int),x2)) fun x3=>
  (match x3 with|.inl x4=>some (x4.1,())|.inr x4=>some ((0:Int),())
  )
 )
def adX(c0:E4)(M4:Pb)(M12:OX):E6:=⟨u1 (adW c0.F M4.L M12.L),pD Tryz.func55 57 (kD c0 k0) e0 1 (sS (sC M4 (sC M12 l0))) fun d=>aGm⟩
def Pk:E6:=adX Pf adS adK
def Pc:Pm:=Pk.F
abbrev y7:Lay:=⟨[(1,.ptr 0 0),(6,.fz .I),(7,.I)],[(0,.cells jI 27)],1⟩
abbrev yX:List (Ev.Ex×Lay):=[(.ret,xz),((.exit 4),⟨[],[],0⟩)]
abbrev Pj:=be y7 yX
abbrev Ph:=Ld 0 75 (cw [2] (bL Tryz.f24)) y7 yX
abbrev zg:Lay:=⟨[(1,.ptr 0 0),(4,.I)],[(0,.cells jI 27)],1⟩
abbrev y9:List (Ev.Ex×Lay):=[(.ret,xz),((.exit 2),Lx)]
abbrev Pt:=be zg y9
abbrev Pr:=Ld 0 75 (cw [1] (bL Tryz.f24)) zg y9
abbrev ze:Lay:=⟨[(1,.ptr 0 0),(3,.I)],[(0,.cells jI 27)],1⟩
abbrev y8:List (Ev.Ex×Lay):=[(.ret,xz),((.exit 0),Lx)]
abbrev Ps:=be ze y8
abbrev E8:=Ld 0 75 (cw [0] (bL Tryz.f24)) ze y8
def zo(F2:Fl)(t3 aM:Int)(aS:io)(aI:bi)(aN aP bf:io)(az:bv)(aJ:bi):am ze y8:=
 br (iL t3 (Int.ofNat az.length))
 (
  aq (ar t3 az.length)<|
  aL (F2 ((gt aj az t3),())) fun x0=>
  br x0.1
  (
   aGu (.inl ((9:Int),())))
  (
   aGt ((ol (t3+(1:Int))),aM,aS,aI,aN,aP,bf,az,aJ,())))
 (
  aGu (.inr (aM,aS,aI,aN,aP,bf,az,aJ,())))
def adZ(c2:zv) :E8:=cH (u9 (zo c2.F)) (pL (kD c2 k0) e0 1 l0 fun d=>aGm)
def ad0:E8:=adZ Fk
def E9:Ps:=bu (u9 (zo Ff)) NN
def zp(t4 aM:Int)(aS:io)(aI:bi)(aN aP bf:io)(az:bv)(aJ:bi):am zg y9:=
 br (iL t4 (Int.ofNat aI.length))
 (
  aq (ar t4 aI.length)<|
  br (iL (gt ag aI t4).2.2.1 (0:Int))
  (
   aGu (.inl ((1:Int),())))
  (
   aq (ar t4 aI.length)<|
   br (bH false true (iL (2:Int) (gt ag aI t4).2.2.1))
   (
    aGu (.inl ((1:Int),())))
   (
    aGt ((ol (t4+(1:Int))),aM,aS,aI,aN,aP,bf,az,aJ,()))))
 (
  aGu (.inr (aM,aS,aI,aN,aP,bf,az,aJ,())))
def ad1  :Pr:=cH (u9 zp) (pL k0 e0 1 l0 fun d=>aGm)
def Fa:Pt:=bu (u9 zp) NN
def zk(t6:io)(t7 aM:Int)(aS:io)(aI:bi)(aN aP bf:io)(az:bv)(aJ:bi):am y7 yX:=
 br (iL t7 (Int.ofNat t6.length))
 (
  aq (ar t7 t6.length)<|
  br (iL (gt .I t6 t7) (0:Int))
  (
   aGu (.inl ((5:Int),())))
  (
   aq (ar t7 t6.length)<|
   br (bH false true (iL (ol ((ol ((2:Int)*aM))+(1:Int))) (gt .I t6 t7)))
   (
    aGu (.inl ((5:Int),())))
   (
    aGt (t6,(ol (t7+(1:Int))),aM,aS,aI,aN,aP,bf,az,aJ,()))))
 (
  aGu (.inr ()))
def adV  :Ph:=cH (eC zk) (pL k0 e0 1 l0 fun d=>aGm)
def E5:Pj:=bu (eC zk) NN
abbrev Pu:List Sh:=[bD]
abbrev zq:List Sh:=[.I]
abbrev JT:=TL Pu->Option (TL zq)
abbrev Bz:=Kd 24 Pu zq
def Fe(F0:Pa)(F1:Pm)(F2:Fl)(F3:Pw)(L4:Ps)(L9:Pt)(L18:Pj)(a0:Sh.T bD):Option (TL zq):=
 aL (F3 (a0,())) fun x0=>
 br x0.1
 (
  some ((10:Int),()))
 (
  aL (L4 ((0:Int),a0)) fun x1=>
  (match x1 with
  |.inl x2=>some (x2.1,())|.inr x2=>
   aL (L9 ((0:Int),x2)) fun x3=>
   (match x3 with
   |.inl x4=>some (x4.1,())|.inr x4=>
    aL (F1 (x4,())) fun x5=>
    br (Bool.not (iQ x5.1 (0:Int)))
    (
     some (x5.1,()))
    (
     aL (F0 (x4,())) fun x6=>
     aL (L18 (x6.1,(0:Int),x4)) fun x7=>
     (match x7 with|.inl x8=>some (x8.1,())|.inr x8=>some ((0:Int),())
     ))
   )
  ))
def ad3(c0:E2)(c1:E6)(c2:zv)(c3:Fb)(M4:E8)(M9:Pr)(M18:Ph):Bz:=⟨u1 (Fe c0.F c1.F c2.F c3.F M4.L M9.L M18.L),pD Tryz.func24 75 (kD c0 (kD c1 (kD c2 (kD c3 k0)))) e0 1 (sS (sC M4 (sC M9 (sC M18 l0)))) fun d=>aGm⟩
def JU:Bz:=ad3 O9 Pk Fk Pv ad0 ad1 adV
def cy:JT:=JU.F
