import Derived.Test.YtbbhihkocghhaaaKNe
set_option linter.all false
section
namespace Go.Proofs.Ytbbhihkocghhaaa.V
open Go Go.RowKit
set_option maxRecDepth 1000000
abbrev Oy:List Sh:=[.I]
abbrev xe:List Sh:=[.bool]
abbrev OB:=TL Oy->Option (TL xe)
abbrev Ee:=Kd 68 Oy xe
def Ec(a0:Int):Option (TL xe):=some ((Bool.not (iQ a0 a0)),())
def ZZ  :Ee:=⟨u1 Ec,pD Try.func68 6 k0 e0 1 (sS l0) fun d=>acu⟩
def OC:Ee:=ZZ
def Oz:OB:=OC.F
abbrev Ov:List Sh:=[.I,.I]
abbrev xb:List Sh:=[.I]
abbrev Ow:=TL Ov->Option (TL xb)
abbrev D8:=Kd 46 Ov xb
def rZ(F0:OB)(a0 a1:Int):Option (TL xb):=
 aE (F0 (a0,())) fun x0=>
 aE (F0 (a1,())) fun x1=>
 br x0.1
 (
  br x1.1
  (
   some ((0:Int),()))
  (
   some ((Int.negSucc 0),())))
 (
  br x1.1
  (
   some ((1:Int),()))
  (
   br (iL a0 a1)
   (
    some ((Int.negSucc 0),()))
   (
    br (iL a1 a0)
    (
     some ((1:Int),()))
    (
     some ((0:Int),())))))
def ZX(c0:Ee) :D8:=⟨u2 (rZ c0.F),pD Try.func46 20 (kD c0 k0) e0 1 (sS l0) fun d=>acu⟩
def Ox:D8:=ZX OC
def DZ:Ow:=Ox.F
abbrev fX:List (Nat×LO):=[(0,.arr af 68),(1,.cells [.ptr 2 0] 87),(2,.cells [.I,.fz .I,.fz ag,.fz .I,.fz .I,.fz .I,.fz aj,.fz ag,.hd 3 .I,.hd 0 af,.hd 4 (.int .u8),.hd 5 .I] 93),(3,.arr .I 3),(4,.arr (.int .u8) 5),(5,.arr .I 3)]
abbrev PL:List (Nat×LO):=[(0,.cells [.ptr 1 0] 87),(1,.cells [.I,.fz .I,.fz ag,.fz .I,.fz .I,.fz .I,.fz aj,.fz ag,.hd 2 .I,.hd 3 af,.hd 4 (.int .u8),.hd 5 .I] 93),(2,.arr .I 3),(3,.arr af 68),(4,.arr (.int .u8) 5),(5,.arr .I 3)]
abbrev kG:ae:=⟨[],fX,6⟩
abbrev Ff:ae:=⟨[(0,.hd 0 af),(1,.I),(2,.I),(3,.I),(4,.func 45 [] [.ptr 1 0])],fX,6⟩
abbrev PM:ae:=⟨[(0,.hd 0 af),(1,.I),(2,.func 45 [] [.ptr 1 0]),(6,.I),(7,.I),(8,.I)],fX,6⟩
abbrev PO:ae:=⟨[(0,.hd 0 af),(1,.I),(2,.I),(3,.func 45 [] [.ptr 1 0]),(8,.I)],fX,6⟩
abbrev PQ:ae:=⟨[(0,.hd 0 af),(1,.I),(2,.func 45 [] [.ptr 1 0]),(6,.I),(7,.I)],fX,6⟩
abbrev OA:ae:=⟨[(0,.agg [.bool,.I,.I]),(1,.agg [.bool,.I,.I]),(2,.ptr 0 0)],PL,6⟩
abbrev Eb:List (Ev.Ex×ae):=[(.ret,⟨[(0,.I)],PL,6⟩)]
abbrev jZ:=be OA Eb
abbrev jF:=Kb 45 3 OA 1 Eb
def Z2(F0:Ow)(F1:rX)(fJ:Bool)(oJ oK:Int)(oL:Bool)(jt jI fU:Int)(fV:io)(fW:bi)(fG gz lj:io)(ln:bv)(lr:bi)(b2:io)(b3:ce)(b4 b5:io):Option (Out Eb):=
 aE (F1 (fJ,oJ,oK,fU,fV,fW,fG,gz,lj,ln,lr,b2,b3,b4,b5,())) fun x0=>
 ak (al (0:Int) (List.length x0.1))<|
 ak (al (gt .I x0.1 (0:Int)) (List.length (mA x0)))<|
 ak (both (bQ oL oL) (both (iQ jt jt) (both (iQ jI jI) true)))<|
 aE (F1 (oL,jt,jI,x0.2)) fun x1=>
 ak (al (0:Int) (List.length x1.1))<|
 ak (al (gt .I x1.1 (0:Int)) (List.length (mA x1)))<|
 ak (al (0:Int) (List.length x0.1))<|
 ak (Sh.beq .I (gt .I x0.1 (0:Int)) (gt .I x0.1 (0:Int)))<|
 ak (iQ (gt .I x0.1 (0:Int)) (gt .I x0.1 (0:Int)))<|
 ak (al (gt .I x0.1 (0:Int)) (List.length (mA x1)))<|
 ak (nQ (Int.toNat (gt .I x0.1 (0:Int))) (Int.toNat (gt .I x0.1 (0:Int))))<|
 ak (iQ (gt .I (mA x0) (gt .I x0.1 (0:Int))) (gt .I (mA x1) (gt .I x0.1 (0:Int))))<|
 aE (F0 ((gt .I (mA x0) (gt .I x0.1 (0:Int))),(gt .I (mA x1) (gt .I x1.1 (0:Int))),())) fun x2=>
 some (x2.1,x1.2)
def Z1(c0:D8)(c1:pR) :jF:=⟨zL (Z2 c0.F c1.F),pB Try.func45 29 (kD c0 (kB c1 k0)) e0 1 (sS l0) fun d=>acu⟩
def j2:jF:=Z1 Ox rY
def iX:jZ:=j2.F
abbrev Nb:ae:=Ff
abbrev CW:List (Ev.Ex×ae):=[(.ret,kG)]
abbrev De:=be Nb CW
abbrev wI:=Kb 101 5 Nb 0 CW
abbrev wt:ae:=⟨[(0,.hd 0 af),(1,.I),(2,.I),(3,.I),(10,.I)],fX,6⟩
abbrev we:List (Ev.Ex×ae):=[((.exit 0),kG)]
abbrev Nq:=be wt we
abbrev Nt:=Ld 6 38 (bZ [0] (bC Try.f101)) wt we
def wD(t1 t2 t3 t10:Int)(b0:ce)(bI:Int)(bN:io)(bO:bi)(bH bA b9:io)(ca:bv)(cd:bi)(b3 b4 b5:io):am wt we:=
 br (iL t10 t3)
 (
  ak (al (mt (t2+t10)) b0.length)<|
  ak (al (mt (t1+t10)) b0.length)<|
  ak (al (mt (t1+t10)) b0.length)<|
  ak (al (mt (t2+t10)) (List.length (List.set b0 (Int.toNat (mt (t1+t10))) (gt af b0 (mt (t2+t10))))))<|
  ak (iQ t2 t2)<|
  ak (iQ t10 t10)<|
  ak (iQ (mt (t2+t10)) (mt (t2+t10)))<|
  acB (t1,t2,t3,(mt (t10+(1:Int))),(List.set (List.set b0 (Int.toNat (mt (t1+t10))) (gt af b0 (mt (t2+t10)))) (Int.toNat (mt (t2+t10))) (gt af b0 (mt (t1+t10)))),bI,bN,bO,bH,bA,b9,ca,cd,b3,b4,b5,()))
 (
  acC (b0,bI,bN,bO,bH,bA,b9,ca,cd,b3,b4,b5,()))
def Y2  :Nt:=cj (u16 wD) (pL k0 e0 1 l0 fun d=>acu)
def Nr:Nq:=bh (u16 wD) NN
def Y8(F0:jZ)(L1:Nq)(t1 t2 t3:Int)(b0:ce)(bI:Int)(bN:io)(bO:bi)(bH bA b9:io)(ca:bv)(cd:bi)(b3 b4 b5:io):Option (Out CW):=
 aE (L1 (t1,t2,t3,(0:Int),b0,bI,bN,bO,bH,bA,b9,ca,cd,b3,b4,b5,())) fun x0=>
 some x0
def Y7(c0:jF)(M1:Nt):wI:=⟨gH (Y8 c0.F M1.L),pB Try.func101 38 (kB c0 k0) e0 1 (sS (sC M1 l0)) fun d=>acu⟩
def Dh:wI:=Y7 j2 Y2
def Ns:De:=Dh.F
abbrev ND:ae:=Ff
abbrev rS:List (Ev.Ex×ae):=[(.ret,kG)]
abbrev xa:=be ND rS
abbrev DA:=Kb 97 5 ND 0 rS
abbrev rT:ae:=⟨[(0,.hd 0 af),(2,.I),(4,.func 45 [] [.ptr 1 0]),(10,.I),(11,.I)],fX,6⟩
abbrev rR:List (Ev.Ex×ae):=[((.exit 0),⟨[(0,.hd 0 af),(2,.I),(4,.func 45 [] [.ptr 1 0]),(10,.I)],fX,6⟩)]
abbrev NK:=be rT rR
abbrev Dx:=Ld 6 58 (bZ [0] (bC Try.f97)) rT rR
def Dy(F1:De)(t2 t10 t11:Int)(b0:ce)(bI:Int)(bN:io)(bO:bi)(bH bA b9:io)(ca:bv)(cd:bi)(b3 b4 b5:io):am rT rR:=
 br (Bool.not (iQ t10 t11))
 (
  br (iL t11 t10)
  (
   aE (F1 ((mt (t2-t10)),t2,t11,b0,bI,bN,bO,bH,bA,b9,ca,cd,b3,b4,b5,())) fun x0=>
   acB (t2,(mt (t10-t11)),t11,x0))
  (
   aE (F1 ((mt (t2-t10)),(mt ((mt (t2+t11))-t10)),t10,b0,bI,bN,bO,bH,bA,b9,ca,cd,b3,b4,b5,())) fun x0=>
   acB (t2,t10,(mt (t11-t10)),x0)))
 (
  acC (t2,t10,b0,bI,bN,bO,bH,bA,b9,ca,cd,b3,b4,b5,()))
def Zj(c1:wI) :Dx:=cj (gH (Dy c1.F)) (pL (kB c1 k0) e0 1 l0 fun d=>acu)
def Zi:Dx:=Zj Dh
def Dw:NK:=bh (gH (Dy Ns)) NN
def Zq(F0:jZ)(F1:De)(L2:NK)(t1 t2 t3:Int)(b0:ce)(bI:Int)(bN:io)(bO:bi)(bH bA b9:io)(ca:bv)(cd:bi)(b3 b4 b5:io):Option (Out rS):=
 aE (L2 (t2,(mt (t2-t1)),(mt (t3-t2)),b0,bI,bN,bO,bH,bA,b9,ca,cd,b3,b4,b5,())) fun x0=>
 aE (F1 ((mt (@HSub.hSub (Int) (Int) (Int) _ x0.1 x0.2.1)),x0)) fun x1=>
 some x1
def Zp(c0:jF)(c1:wI)(M2:Dx):DA:=⟨gH (Zq c0.F c1.F M2.L),pB Try.func97 58 (kB c0 (kB c1 k0)) e0 1 (sS (sC M2 l0)) fun d=>acu⟩
def NR:DA:=Zp j2 Dh Zi
def wS:xa:=NR.F
abbrev MN:ae:=⟨[(0,.hd 0 af),(1,.I),(2,.I),(3,.func 45 [] [.ptr 1 0])],fX,6⟩
abbrev CN:List (Ev.Ex×ae):=[(.ret,kG)]
abbrev CU:=be MN CN
abbrev wg:=Kb 82 4 MN 0 CN
abbrev v7:ae:=PO
abbrev vZ:List (Ev.Ex×ae):=[((.exit 0),kG)]
abbrev MP:=be v7 vZ
abbrev CR:=Ld 6 53 (bZ [0] (bC Try.f82)) v7 vZ
abbrev rQ:ae:=⟨[(0,.hd 0 af),(1,.I),(2,.I),(3,.func 45 [] [.ptr 1 0]),(8,.I),(9,.I)],fX,6⟩
abbrev rP:List (Ev.Ex×ae):=[((.exit 2),PO)]
abbrev CP:=be rQ rP
abbrev v9:=Ld 6 53 (bZ [0,0] (bC Try.f82)) rQ rP
def CS(F0:jZ)(t1 t2 t8 t9:Int)(b0:ce)(bI:Int)(bN:io)(bO:bi)(bH bA b9:io)(ca:bv)(cd:bi)(b3 b4 b5:io):am rQ rP:=
 br (iL t1 t9)
 (
  ak (al t9 b0.length)<|
  ak (al (mt (t9-(1:Int))) b0.length)<|
  aE (F0 ((gt af b0 t9).1,(gt af b0 t9).2.1,(gt af b0 t9).2.2.1,(gt af b0 (mt (t9-(1:Int)))).1,(gt af b0 (mt (t9-(1:Int)))).2.1,(gt af b0 (mt (t9-(1:Int)))).2.2.1,bI,bN,bO,bH,bA,b9,ca,cd,b3,b0,b4,b5,())) fun x0=>
  br (bw true (iL x0.1 (0:Int)) false)
  (
   ak (al (mt (t9-(1:Int))) (List.length (ff x0)))<|
   ak (al t9 (List.length (ff x0)))<|
   ak (al t9 (List.length (ff x0)))<|
   ak (al (mt (t9-(1:Int))) (List.length (List.set (ff x0) (Int.toNat t9) (gt af (ff x0) (mt (t9-(1:Int)))))))<|
   ak (iQ t9 t9)<|
   ak (iQ (mt (t9-(1:Int))) (mt (t9-(1:Int))))<|
   acB (t1,t2,t8,(mt (t9-(1:Int))),(List.set (List.set (ff x0) (Int.toNat t9) (gt af (ff x0) (mt (t9-(1:Int))))) (Int.toNat (mt (t9-(1:Int)))) (gt af (ff x0) t9)),x0.2.1,x0.2.2.1,eZ x0,fj x0,gi x0,iH x0,iI x0,jo x0,kS x0,my x0))
  (
   acC (t1,t2,t8,ff x0,x0.2.1,x0.2.2.1,eZ x0,fj x0,gi x0,iH x0,iI x0,jo x0,kS x0,my x0)))
 (
  acC (t1,t2,t8,b0,bI,bN,bO,bH,bA,b9,ca,cd,b3,b4,b5,()))
def YF(c0:jF) :v9:=cj (u16 (CS c0.F)) (pL (kB c0 k0) e0 1 l0 fun d=>acu)
def MQ:v9:=YF j2
def CQ:CP:=bh (u16 (CS iX)) NN
def wa(L4:CP)(t1 t2 t8:Int)(b0:ce)(bI:Int)(bN:io)(bO:bi)(bH bA b9:io)(ca:bv)(cd:bi)(b3 b4 b5:io):am v7 vZ:=
 br (iL t8 t2)
 (
  aE (L4 (t1,t2,t8,t8,b0,bI,bN,bO,bH,bA,b9,ca,cd,b3,b4,b5,())) fun x0=>
  acB (x0.1,x0.2.1,(mt (lw x0.2.2.1 (1:Int))),zI x0))
 (
  acC (b0,bI,bN,bO,bH,bA,b9,ca,cd,b3,b4,b5,()))
def YG(M4:v9):CR:=cj (gH (wa M4.L)) (pL k0 e0 1 (sC M4 l0) fun d=>acu)
def YE:CR:=YG  MQ
def v8:MP:=bh (gH (wa CQ)) NN
def YL(F0:jZ)(L1:MP)(L4:CP)(t1 t2:Int)(b0:ce)(bI:Int)(bN:io)(bO:bi)(bH bA b9:io)(ca:bv)(cd:bi)(b3 b4 b5:io):Option (Out CN):=
 aE (L1 (t1,t2,(mt (t1+(1:Int))),b0,bI,bN,bO,bH,bA,b9,ca,cd,b3,b4,b5,())) fun x0=>
 some x0
def YK(c0:jF)(M1:CR)(M4:v9):wg:=⟨kp (YL c0.F M1.L M4.L),pB Try.func82 53 (kB c0 k0) e0 1 (sS (sC M1 l0)) fun d=>acu⟩
def CV:wg:=YK j2 YE MQ
def MR:CU:=CV.F
abbrev Nk:ae:=Ff
abbrev wu:List (Ev.Ex×ae):=[(.ret,kG)]
abbrev fB:=be Nk wu
abbrev jY:=Kb 83 5 Nk 0 wu
abbrev wj:ae:=⟨[(0,.hd 0 af),(1,.I),(2,.I),(3,.I),(4,.func 45 [] [.ptr 1 0]),(18,.I),(19,.I),(20,.I),(21,.I),(22,.I)],fX,6⟩
abbrev rV:List (Ev.Ex×ae):=[((.exit 8),⟨[(0,.hd 0 af),(1,.I),(2,.I),(3,.I),(4,.func 45 [] [.ptr 1 0]),(18,.I),(19,.I),(20,.I)],fX,6⟩)]
abbrev Nl:=be wj rV
abbrev CZ:=Ld 6 220 (bZ [4] (bC Try.f83)) wj rV
abbrev wo:ae:=⟨[(0,.hd 0 af),(14,.I),(17,.I)],fX,6⟩
abbrev wb:List (Ev.Ex×ae):=[((.exit 6),kG)]
abbrev Nm:=be wo wb
abbrev C0:=Ld 6 220 (bZ [3] (bC Try.f83)) wo wb
abbrev wq:ae:=⟨[(0,.hd 0 af),(2,.I),(4,.func 45 [] [.ptr 1 0]),(14,.I),(15,.I)],fX,6⟩
abbrev wc:List (Ev.Ex×ae):=[((.exit 4),⟨[(0,.hd 0 af),(2,.I),(14,.I)],fX,6⟩)]
abbrev Nn:=be wq wc
abbrev C6:=Ld 6 220 (bZ [2] (bC Try.f83)) wq wc
abbrev wx:ae:=⟨[(0,.hd 0 af),(10,.I),(13,.I)],fX,6⟩
abbrev wh:List (Ev.Ex×ae):=[((.exit 2),kG)]
abbrev Ny:=be wx wh
abbrev Dc:=Ld 6 220 (bZ [1] (bC Try.f83)) wx wh
abbrev wy:ae:=⟨[(0,.hd 0 af),(1,.I),(4,.func 45 [] [.ptr 1 0]),(10,.I),(11,.I)],fX,6⟩
abbrev wi:List (Ev.Ex×ae):=[((.exit 0),⟨[(0,.hd 0 af),(1,.I),(10,.I)],fX,6⟩)]
abbrev Nz:=be wy wi
abbrev Dd:=Ld 6 220 (bZ [0] (bC Try.f83)) wy wi
def pP(F0:jZ)(t1 t10 t11:Int)(b0:ce)(bI:Int)(bN:io)(bO:bi)(bH bA b9:io)(ca:bv)(cd:bi)(b3 b4 b5:io):am wy wi:=
 br (iL t10 t11)
 (
  ak (al (mt (Int.fdiv (IntKind.wrap .u64 (mt (t10+t11))) (HPow.hPow (2:Int) (Min.min (Int.toNat (1:Int)) 64)))) b0.length)<|
  ak (al t1 b0.length)<|
  aE (F0 ((gt af b0 (mt (Int.fdiv (IntKind.wrap .u64 (mt (t10+t11))) (HPow.hPow (2:Int) (Min.min (Int.toNat (1:Int)) 64))))).1,(gt af b0 (mt (Int.fdiv (IntKind.wrap .u64 (mt (t10+t11))) (HPow.hPow (2:Int) (Min.min (Int.toNat (1:Int)) 64))))).2.1,(gt af b0 (mt (Int.fdiv (IntKind.wrap .u64 (mt (t10+t11))) (HPow.hPow (2:Int) (Min.min (Int.toNat (1:Int)) 64))))).2.2.1,(gt af b0 t1).1,(gt af b0 t1).2.1,(gt af b0 t1).2.2.1,bI,bN,bO,bH,bA,b9,ca,cd,b3,b0,b4,b5,())) fun x0=>
  br (iL x0.1 (0:Int))
  (
   acB (t1,(mt ((mt (Int.fdiv (IntKind.wrap .u64 (mt (t10+t11))) (HPow.hPow (2:Int) (Min.min (Int.toNat (1:Int)) 64))))+(1:Int))),t11,ff x0,x0.2.1,x0.2.2.1,eZ x0,fj x0,gi x0,iH x0,iI x0,jo x0,kS x0,my x0))
  (
   acB (t1,t10,(mt (Int.fdiv (IntKind.wrap .u64 (mt (t10+t11))) (HPow.hPow (2:Int) (Min.min (Int.toNat (1:Int)) 64)))),ff x0,x0.2.1,x0.2.2.1,eZ x0,fj x0,gi x0,iH x0,iI x0,jo x0,kS x0,my x0)))
 (
  acC (t1,t10,b0,bI,bN,bO,bH,bA,b9,ca,cd,b3,b4,b5,()))
def Y6(c0:jF) :Dd:=cj (gH (pP c0.F)) (pL (kB c0 k0) e0 1 l0 fun d=>acu)
def Y4(s:jY):Dd:=Y6 j2
def NA(F:fB):Nz:=bh (fun d=>pP iX  d.1 d.2.1 d.2.2.1 d.2.2.2.1 d.2.2.2.2.1 d.2.2.2.2.2.1 d.2.2.2.2.2.2.1 d.2.2.2.2.2.2.2.1 d.2.2.2.2.2.2.2.2.1 d.2.2.2.2.2.2.2.2.2.1 d.2.2.2.2.2.2.2.2.2.2.1 d.2.2.2.2.2.2.2.2.2.2.2.1 d.2.2.2.2.2.2.2.2.2.2.2.2.1 d.2.2.2.2.2.2.2.2.2.2.2.2.2.1 d.2.2.2.2.2.2.2.2.2.2.2.2.2.2.1) NN
def wH(t10 t13:Int)(b0:ce)(bI:Int)(bN:io)(bO:bi)(bH bA b9:io)(ca:bv)(cd:bi)(b3 b4 b5:io):am wx wh:=
 br (iL t13 (mt (t10-(1:Int))))
 (
  ak (al (mt (t13+(1:Int))) b0.length)<|
  ak (al t13 b0.length)<|
  ak (al t13 b0.length)<|
  ak (al (mt (t13+(1:Int))) (List.length (List.set b0 (Int.toNat t13) (gt af b0 (mt (t13+(1:Int)))))))<|
  ak (iQ t13 t13)<|
  ak (iQ (mt (t13+(1:Int))) (mt (t13+(1:Int))))<|
  acB (t10,(mt (t13+(1:Int))),(List.set (List.set b0 (Int.toNat t13) (gt af b0 (mt (t13+(1:Int))))) (Int.toNat (mt (t13+(1:Int)))) (gt af b0 t13)),bI,bN,bO,bH,bA,b9,ca,cd,b3,b4,b5,()))
 (
  acC (b0,bI,bN,bO,bH,bA,b9,ca,cd,b3,b4,b5,()))
def Y5  :Dc:=cj (kp wH) (pL k0 e0 1 l0 fun d=>acu)
def Y3(s:jY):Dc:=Y5
def Da(F:fB):Ny:=bh (fun d=>wH   d.1 d.2.1 d.2.2.1 d.2.2.2.1 d.2.2.2.2.1 d.2.2.2.2.2.1 d.2.2.2.2.2.2.1 d.2.2.2.2.2.2.2.1 d.2.2.2.2.2.2.2.2.1 d.2.2.2.2.2.2.2.2.2.1 d.2.2.2.2.2.2.2.2.2.2.1 d.2.2.2.2.2.2.2.2.2.2.2.1 d.2.2.2.2.2.2.2.2.2.2.2.2.1 d.2.2.2.2.2.2.2.2.2.2.2.2.2.1) NN
def pO(F0:jZ)(t2 t14 t15:Int)(b0:ce)(bI:Int)(bN:io)(bO:bi)(bH bA b9:io)(ca:bv)(cd:bi)(b3 b4 b5:io):am wq wc:=
 br (iL t14 t15)
 (
  ak (al t2 b0.length)<|
  ak (al (mt (Int.fdiv (IntKind.wrap .u64 (mt (t14+t15))) (HPow.hPow (2:Int) (Min.min (Int.toNat (1:Int)) 64)))) b0.length)<|
  aE (F0 ((gt af b0 t2).1,(gt af b0 t2).2.1,(gt af b0 t2).2.2.1,(gt af b0 (mt (Int.fdiv (IntKind.wrap .u64 (mt (t14+t15))) (HPow.hPow (2:Int) (Min.min (Int.toNat (1:Int)) 64))))).1,(gt af b0 (mt (Int.fdiv (IntKind.wrap .u64 (mt (t14+t15))) (HPow.hPow (2:Int) (Min.min (Int.toNat (1:Int)) 64))))).2.1,(gt af b0 (mt (Int.fdiv (IntKind.wrap .u64 (mt (t14+t15))) (HPow.hPow (2:Int) (Min.min (Int.toNat (1:Int)) 64))))).2.2.1,bI,bN,bO,bH,bA,b9,ca,cd,b3,b0,b4,b5,())) fun x0=>
  br (Bool.not (iL x0.1 (0:Int)))
  (
   acB (t2,(mt ((mt (Int.fdiv (IntKind.wrap .u64 (mt (t14+t15))) (HPow.hPow (2:Int) (Min.min (Int.toNat (1:Int)) 64))))+(1:Int))),t15,ff x0,x0.2.1,x0.2.2.1,eZ x0,fj x0,gi x0,iH x0,iI x0,jo x0,kS x0,my x0))
  (
   acB (t2,t14,(mt (Int.fdiv (IntKind.wrap .u64 (mt (t14+t15))) (HPow.hPow (2:Int) (Min.min (Int.toNat (1:Int)) 64)))),ff x0,x0.2.1,x0.2.2.1,eZ x0,fj x0,gi x0,iH x0,iI x0,jo x0,kS x0,my x0)))
 (
  acC (t2,t14,b0,bI,bN,bO,bH,bA,b9,ca,cd,b3,b4,b5,()))
def Y1(c0:jF) :C6:=cj (gH (pO c0.F)) (pL (kB c0 k0) e0 1 l0 fun d=>acu)
def YY(s:jY):C6:=Y1 j2
def Np(F:fB):Nn:=bh (fun d=>pO iX  d.1 d.2.1 d.2.2.1 d.2.2.2.1 d.2.2.2.2.1 d.2.2.2.2.2.1 d.2.2.2.2.2.2.1 d.2.2.2.2.2.2.2.1 d.2.2.2.2.2.2.2.2.1 d.2.2.2.2.2.2.2.2.2.1 d.2.2.2.2.2.2.2.2.2.2.1 d.2.2.2.2.2.2.2.2.2.2.2.1 d.2.2.2.2.2.2.2.2.2.2.2.2.1 d.2.2.2.2.2.2.2.2.2.2.2.2.2.1 d.2.2.2.2.2.2.2.2.2.2.2.2.2.2.1) NN
def wC(t14 t17:Int)(b0:ce)(bI:Int)(bN:io)(bO:bi)(bH bA b9:io)(ca:bv)(cd:bi)(b3 b4 b5:io):am wo wb:=
 br (iL t14 t17)
 (
  ak (al (mt (t17-(1:Int))) b0.length)<|
  ak (al t17 b0.length)<|
  ak (al t17 b0.length)<|
  ak (al (mt (t17-(1:Int))) (List.length (List.set b0 (Int.toNat t17) (gt af b0 (mt (t17-(1:Int)))))))<|
  ak (iQ t17 t17)<|
  ak (iQ (mt (t17-(1:Int))) (mt (t17-(1:Int))))<|
  acB (t14,(mt (t17-(1:Int))),(List.set (List.set b0 (Int.toNat t17) (gt af b0 (mt (t17-(1:Int))))) (Int.toNat (mt (t17-(1:Int)))) (gt af b0 t17)),bI,bN,bO,bH,bA,b9,ca,cd,b3,b4,b5,()))
 (
  acC (b0,bI,bN,bO,bH,bA,b9,ca,cd,b3,b4,b5,()))
def Y0  :C0:=cj (kp wC) (pL k0 e0 1 l0 fun d=>acu)
def YX(s:jY):C0:=Y0
def CY(F:fB):Nm:=bh (fun d=>wC   d.1 d.2.1 d.2.2.1 d.2.2.2.1 d.2.2.2.2.1 d.2.2.2.2.2.1 d.2.2.2.2.2.2.1 d.2.2.2.2.2.2.2.1 d.2.2.2.2.2.2.2.2.1 d.2.2.2.2.2.2.2.2.2.1 d.2.2.2.2.2.2.2.2.2.2.1 d.2.2.2.2.2.2.2.2.2.2.2.1 d.2.2.2.2.2.2.2.2.2.2.2.2.1 d.2.2.2.2.2.2.2.2.2.2.2.2.2.1) NN
def pN(F0:jZ)(t1 t2 t3 t18 t19 t20 t21 t22:Int)(b0:ce)(bI:Int)(bN:io)(bO:bi)(bH bA b9:io)(ca:bv)(cd:bi)(b3 b4 b5:io):am wj rV:=
 br (iL t20 t21)
 (
  ak (al (mt (t22-(mt (Int.fdiv (IntKind.wrap .u64 (mt (t20+t21))) (HPow.hPow (2:Int) (Min.min (Int.toNat (1:Int)) 64)))))) b0.length)<|
  ak (al (mt (Int.fdiv (IntKind.wrap .u64 (mt (t20+t21))) (HPow.hPow (2:Int) (Min.min (Int.toNat (1:Int)) 64)))) b0.length)<|
  aE (F0 ((gt af b0 (mt (t22-(mt (Int.fdiv (IntKind.wrap .u64 (mt (t20+t21))) (HPow.hPow (2:Int) (Min.min (Int.toNat (1:Int)) 64))))))).1,(gt af b0 (mt (t22-(mt (Int.fdiv (IntKind.wrap .u64 (mt (t20+t21))) (HPow.hPow (2:Int) (Min.min (Int.toNat (1:Int)) 64))))))).2.1,(gt af b0 (mt (t22-(mt (Int.fdiv (IntKind.wrap .u64 (mt (t20+t21))) (HPow.hPow (2:Int) (Min.min (Int.toNat (1:Int)) 64))))))).2.2.1,(gt af b0 (mt (Int.fdiv (IntKind.wrap .u64 (mt (t20+t21))) (HPow.hPow (2:Int) (Min.min (Int.toNat (1:Int)) 64))))).1,(gt af b0 (mt (Int.fdiv (IntKind.wrap .u64 (mt (t20+t21))) (HPow.hPow (2:Int) (Min.min (Int.toNat (1:Int)) 64))))).2.1,(gt af b0 (mt (Int.fdiv (IntKind.wrap .u64 (mt (t20+t21))) (HPow.hPow (2:Int) (Min.min (Int.toNat (1:Int)) 64))))).2.2.1,bI,bN,bO,bH,bA,b9,ca,cd,b3,b0,b4,b5,())) fun x0=>
  br (Bool.not (iL x0.1 (0:Int)))
  (
   acB (t1,t2,t3,t18,t19,(mt ((mt (Int.fdiv (IntKind.wrap .u64 (mt (t20+t21))) (HPow.hPow (2:Int) (Min.min (Int.toNat (1:Int)) 64))))+(1:Int))),t21,t22,ff x0,x0.2.1,x0.2.2.1,eZ x0,fj x0,gi x0,iH x0,iI x0,jo x0,kS x0,my x0))
  (
   acB (t1,t2,t3,t18,t19,t20,(mt (Int.fdiv (IntKind.wrap .u64 (mt (t20+t21))) (HPow.hPow (2:Int) (Min.min (Int.toNat (1:Int)) 64)))),t22,ff x0,x0.2.1,x0.2.2.1,eZ x0,fj x0,gi x0,iH x0,iI x0,jo x0,kS x0,my x0)))
 (
  acC (t1,t2,t3,t18,t19,t20,b0,bI,bN,bO,bH,bA,b9,ca,cd,b3,b4,b5,()))
def YZ(c0:jF) :CZ:=cj (po (pN c0.F)) (pL (kB c0 k0) e0 1 l0 fun d=>acu)
def YW(s:jY):CZ:=YZ j2
def wz(F:fB):Nl:=bh (fun d=>pN iX  d.1 d.2.1 d.2.2.1 d.2.2.2.1 d.2.2.2.2.1 d.2.2.2.2.2.1 d.2.2.2.2.2.2.1 d.2.2.2.2.2.2.2.1 d.2.2.2.2.2.2.2.2.1 d.2.2.2.2.2.2.2.2.2.1 d.2.2.2.2.2.2.2.2.2.2.1 d.2.2.2.2.2.2.2.2.2.2.2.1 d.2.2.2.2.2.2.2.2.2.2.2.2.1 d.2.2.2.2.2.2.2.2.2.2.2.2.2.1 d.2.2.2.2.2.2.2.2.2.2.2.2.2.2.1 d.2.2.2.2.2.2.2.2.2.2.2.2.2.2.2.1 d.2.2.2.2.2.2.2.2.2.2.2.2.2.2.2.2.1 d.2.2.2.2.2.2.2.2.2.2.2.2.2.2.2.2.2.1 d.2.2.2.2.2.2.2.2.2.2.2.2.2.2.2.2.2.2.1 d.2.2.2.2.2.2.2.2.2.2.2.2.2.2.2.2.2.2.2.1) NN
abbrev aS:=af.T
abbrev iq:=TL [.I,.sl .I,.sl ag,.sl .I,.sl .I,.sl .I,.sl aj,.sl ag,.sl .I,.sl (.int .u8),.sl .I]
abbrev ow:=Option (Out wu)
def qc(F1:fB)(b mid e:Int)(x:List aS×iq):ow:=br (iL mid e) (br (bw true (iL e b) false) (aE (F1 (mid,e,b,x.1,x.2)) fun y=>some (y.1,y.2)) (some x)) (some x)
def sK(F1:fB)(a b mid s e:Int)(x:List aS×iq):ow:=br (iL a s) (br (bw true (iL s mid) false) (aE (F1 (a,s,mid,x.1,x.2)) fun y=>qc F1 b mid e y) (qc F1 b mid e x)) (qc F1 b mid e x)
def E7(F2:xa)(F1:fB)(a m b mid s e:Int)(x:List aS×iq):ow:=br (iL s m) (br (bw true (iL m e) false) (aE (F2 (s,m,e,x.1,x.2)) fun y=>sK F1 a b mid s e y) (sK F1 a b mid s e x)) (sK F1 a b mid s e x)
def PB(F2:xa)(F1:fB)(x0:Out rV):ow:=E7 F2 F1 x0.1 x0.2.1 x0.2.2.1 x0.2.2.2.1 x0.2.2.2.2.2.1 (mt (@HSub.hSub (Int) (Int) (Int) _ x0.2.2.2.2.1 x0.2.2.2.2.2.1)) x0.2.2.2.2.2.2
def rU(F0:jZ)(F1:fB)(F2:xa)(L3:Nz)(L9:Ny)(L15:Nn)(L21:Nm)(L33:Nl)(t1 t2 t3:Int)(b0:ce)(bI:Int)(bN:io)(bO:bi)(bH bA b9:io)(ca:bv)(cd:bi)(b3 b4 b5:io):Option (Out wu):=
 br (iQ (mt (t2-t1)) (1:Int))
 (
  aE (L3 (t1,t2,t3,b0,bI,bN,bO,bH,bA,b9,ca,cd,b3,b4,b5,())) fun x0=>
  aE (L9 (x0.2.1,x0.1,x0.2.2)) fun x1=>
  some x1)
 (
  br (iQ (mt (t3-t2)) (1:Int))
  (
   aE (L15 (t2,t1,t2,b0,bI,bN,bO,bH,bA,b9,ca,cd,b3,b4,b5,())) fun x0=>
   aE (L21 (x0.2.1,x0.1,x0.2.2)) fun x1=>
   some x1)
  (
   br (iL (mt (Int.fdiv (IntKind.wrap .u64 (mt (t1+t3))) (HPow.hPow (2:Int) (Min.min (Int.toNat (1:Int)) 64)))) t2)
   (
    aE (L33 (t1,t2,t3,(mt (Int.fdiv (IntKind.wrap .u64 (mt (t1+t3))) (HPow.hPow (2:Int) (Min.min (Int.toNat (1:Int)) 64)))),(mt ((mt (Int.fdiv (IntKind.wrap .u64 (mt (t1+t3))) (HPow.hPow (2:Int) (Min.min (Int.toNat (1:Int)) 64))))+t2)),(mt ((mt ((mt (Int.fdiv (IntKind.wrap .u64 (mt (t1+t3))) (HPow.hPow (2:Int) (Min.min (Int.toNat (1:Int)) 64))))+t2))-t3)),(mt (Int.fdiv (IntKind.wrap .u64 (mt (t1+t3))) (HPow.hPow (2:Int) (Min.min (Int.toNat (1:Int)) 64)))),(mt ((mt ((mt (Int.fdiv (IntKind.wrap .u64 (mt (t1+t3))) (HPow.hPow (2:Int) (Min.min (Int.toNat (1:Int)) 64))))+t2))-(1:Int))),b0,bI,bN,bO,bH,bA,b9,ca,cd,b3,b4,b5,())) fun x0=>PB F2 F1 x0)
   (
    aE (L33 (t1,t2,t3,(mt (Int.fdiv (IntKind.wrap .u64 (mt (t1+t3))) (HPow.hPow (2:Int) (Min.min (Int.toNat (1:Int)) 64)))),(mt ((mt (Int.fdiv (IntKind.wrap .u64 (mt (t1+t3))) (HPow.hPow (2:Int) (Min.min (Int.toNat (1:Int)) 64))))+t2)),t1,t2,(mt ((mt ((mt (Int.fdiv (IntKind.wrap .u64 (mt (t1+t3))) (HPow.hPow (2:Int) (Min.min (Int.toNat (1:Int)) 64))))+t2))-(1:Int))),b0,bI,bN,bO,bH,bA,b9,ca,cd,b3,b4,b5,())) fun x0=>PB F2 F1 x0)))
def Zb(c0:jF)(c1:jY)(c2:DA)(M3:Dd)(M9:Dc)(M15:C6)(M21:C0)(M33:CZ):jY:=⟨gH (rU c0.F c1.F c2.F M3.L M9.L M15.L M21.L M33.L),pB Try.func83 220 (kB c0 (kB c1 (kB c2 k0))) e0 1 (sS (sC M3 (sC M9 (sC M15 (sC M21 (sC M33 l0)))))) fun d=>acu⟩
def nh:Nat->jY
 |0=>Rl Try.func83 acu acu|k+1=>Zb j2 (nh k) NR (Y4 (nh k)) (Y3 (nh k)) (YY (nh k)) (YX (nh k)) (YW (nh k))
def ic(k:Nat):fB:=(nh k).F
def wM:jY:=nh NN
def Db:fB:=wM.F
abbrev NC:ae:=⟨[(0,.hd 0 af),(1,.I),(2,.func 45 [] [.ptr 1 0])],fX,6⟩
abbrev Di:List (Ev.Ex×ae):=[(.ret,kG)]
abbrev NP:=be NC Di
abbrev Dz:=Kb 67 3 NC 0 Di
abbrev wK:ae:=⟨[(0,.hd 0 af),(1,.I),(2,.func 45 [] [.ptr 1 0]),(6,.I)],fX,6⟩
abbrev wF:List (Ev.Ex×ae):=[((.exit 2),kG)]
abbrev NF:=be wK wF
abbrev Dp:=Ld 6 63 (bZ [1] (bC Try.f67)) wK wF
abbrev wJ:ae:=PM
abbrev wE:List (Ev.Ex×ae):=[((.exit 4),PQ)]
abbrev Dn:=be wJ wE
abbrev wO:=Ld 6 63 (bZ [1,0] (bC Try.f67)) wJ wE
abbrev wL:ae:=PM
abbrev wG:List (Ev.Ex×ae):=[((.exit 0),PQ)]
abbrev NG:=be wL wG
abbrev Dq:=Ld 6 63 (bZ [0] (bC Try.f67)) wL wG
def Dv(F2:CU)(t1 t6 t7 t8:Int)(b0:ce)(bI:Int)(bN:io)(bO:bi)(bH bA b9:io)(ca:bv)(cd:bi)(b3 b4 b5:io):am wL wG:=
 br (iE t8 t1)
 (
  aE (F2 (t7,t8,b0,bI,bN,bO,bH,bA,b9,ca,cd,b3,b4,b5,())) fun x0=>
  acB (t1,t6,t8,(mt (t8+t6)),x0))
 (
  acC (t1,t6,t7,b0,bI,bN,bO,bH,bA,b9,ca,cd,b3,b4,b5,()))
def Zg(c2:wg) :Dq:=cj (u16 (Dv c2.F)) (pL (kB c2 k0) e0 1 l0 fun d=>acu)
def Zd:Dq:=Zg CV
def NJ:NG:=bh (u16 (Dv MR)) NN
def Ds(F1:fB)(t1 t6 t7 t8:Int)(b0:ce)(bI:Int)(bN:io)(bO:bi)(bH bA b9:io)(ca:bv)(cd:bi)(b3 b4 b5:io):am wJ wE:=
 br (iE t8 t1)
 (
  aE (F1 (t7,(mt (t7+t6)),t8,b0,bI,bN,bO,bH,bA,b9,ca,cd,b3,b4,b5,())) fun x0=>
  acB (t1,t6,t8,(mt (t8+(mt ((2:Int)*t6)))),x0))
 (
  acC (t1,t6,t7,b0,bI,bN,bO,bH,bA,b9,ca,cd,b3,b4,b5,()))
def Ze(c1:jY) :wO:=cj (u16 (Ds c1.F)) (pL (kB c1 k0) e0 1 l0 fun d=>acu)
def NH:wO:=Ze wM
def wN:Dn:=bh (u16 (Ds Db)) NN
def Du(F1:fB)(L9:Dn)(t1 t6:Int)(b0:ce)(bI:Int)(bN:io)(bO:bi)(bH bA b9:io)(ca:bv)(cd:bi)(b3 b4 b5:io):am wK wF:=
 br (iL t6 t1)
 (
  aE (L9 (t1,t6,(0:Int),(mt ((2:Int)*t6)),b0,bI,bN,bO,bH,bA,b9,ca,cd,b3,b4,b5,())) fun x0=>
  br (iL (mt (lw x0.2.2.1 x0.2.1)) x0.1)
  (
   aE (F1 (x0.2.2.1,(mt (lw x0.2.2.1 x0.2.1)),x0.1,zI x0)) fun x1=>
   acB (x0.1,(mt (@HMul.hMul (Int) (Int) (Int) _ x0.2.1 (2:Int))),x1))
  (
   acB (x0.1,(mt (@HMul.hMul (Int) (Int) (Int) _ x0.2.1 (2:Int))),zI x0)))
 (
  acC (b0,bI,bN,bO,bH,bA,b9,ca,cd,b3,b4,b5,()))
def Zf(c1:jY)(M9:wO):Dp:=cj (kp (Du c1.F M9.L)) (pL (kB c1 k0) e0 1 (sC M9 l0) fun d=>acu)
def Zc:Dp:=Zf wM NH
def NI:NF:=bh (kp (Du Db wN)) NN
def Zo(F0:jZ)(F1:fB)(F2:CU)(L2:NG)(L7:NF)(L9:Dn)(t1:Int)(b0:ce)(bI:Int)(bN:io)(bO:bi)(bH bA b9:io)(ca:bv)(cd:bi)(b3 b4 b5:io):Option (Out Di):=
 aE (L2 (t1,(20:Int),(0:Int),(20:Int),b0,bI,bN,bO,bH,bA,b9,ca,cd,b3,b4,b5,())) fun x0=>
 aE (F2 (x0.2.2.1,x0.1,zI x0)) fun x1=>
 aE (L7 (x0.1,x0.2.1,x1)) fun x2=>
 some x2
def Zn(c0:jF)(c1:jY)(c2:wg)(M2:Dq)(M7:Dp)(M9:wO):Dz:=⟨ue (Zo c0.F c1.F c2.F M2.L M7.L M9.L),pB Try.func67 63 (kB c0 (kB c1 (kB c2 k0))) e0 1 (sS (sC M2 (sC M7 l0))) fun d=>acu⟩
def NQ:Dz:=Zn j2 wM CV Zd Zc NH
def Zh:NP:=NQ.F
abbrev MG:ae:=⟨[(0,.hd 0 af),(1,.func 45 [] [.ptr 1 0])],fX,6⟩
abbrev CG:List (Ev.Ex×ae):=[(.ret,kG)]
abbrev MI:=be MG CG
abbrev CI:=Kb 44 2 MG 0 CG
def YB(F0:jZ)(F1:NP)(b0:ce)(bI:Int)(bN:io)(bO:bi)(bH bA b9:io)(ca:bv)(cd:bi)(b3 b4 b5:io):Option (Out CG):=
 aE (F1 ((Int.ofNat b0.length),b0,bI,bN,bO,bH,bA,b9,ca,cd,b3,b4,b5,())) fun x0=>
 some x0
def YA(c0:jF)(c1:Dz) :CI:=⟨dI (YB c0.F c1.F),pB Try.func44 9 (kB c0 (kB c1 k0)) e0 1 (sS l0) fun d=>acu⟩
def MJ:CI:=YA j2 NQ
def Yz:MI:=MJ.F
abbrev OL:List Sh:=[bB]
abbrev Ek:List Sh:=[(.sl af),.bool]
abbrev ZY:=TL OL->Option (TL Ek)
abbrev OD:=Kd 20 OL Ek
def aae(F0:MI)(F1:jZ)(F2:EA)(a0:Sh.T bB):Option (TL Ek):=
 aE (F2 a0) fun x0=>
 (match x0 with
 |.inl x1=>
  ak (Bool.not (iQ x1.1 (0:Int)))<|
  some ([],false,())
 |.inr x1=>
  br (Bool.not (iQ x1.1 (0:Int)))
  (
   some ([],false,()))
  (
   aE (F0 (ff x1,x1.2.1,x1.2.2.1,eZ x1,fj x1,gi x1,iH x1,iI x1,jo x1,kS x1,my x1)) fun x2=>
   some (x2.1,true,()))
 )
def aad(c0:CI)(c1:jF)(c2:xv) :OD:=⟨u1 (aae c0.F c1.F c2.F),pD Try.func20 23 (kB c0 (kB c1 (kB c2 k0))) e0 1 (sS l0) fun d=>acu⟩
def OR:OD:=aad MJ j2 EB
def Z6:ZY:=OR.F
end Go.Proofs.Ytbbhihkocghhaaa.V
end
section
namespace Go.Proofs.Ytbbhihkocghhaaa.Pl
section
variable{α:Type}(key:α->Int)
def dj(L:List α):Prop:=L.Pairwise (fun x y=>key x<=key y)
def fk(k:Int)(L:List α):List α:=L.filter (fun x=>decide (key x=k))
structure bR(S S':List α):Prop where
 lV:dj key S'
 len:S'.length=S.length
 mU:∀k,fk key k S'=fk key k S
variable{key}
theorem jG(k:Int)(A B:List α):fk key k (A++B)=fk key k A++fk key k B:=List.filter_append A B
theorem JW{k:Int}{L:List α}{x:α}:x∈fk key k L↔x∈L/\key x=k:=by unfold fk;simp
theorem JN{k:Int}{L:List α}(h:∀x∈L,key x≠k):fk key k L=[]:=by unfold fk;rw[ack];intro x hx;simpa using h x hx
theorem O8{S S':List α}(h:∀k,fk key k S'=fk key k S){x:α}(hx:x∈S'):x∈S:=by have:x∈fk key (key x) S':=JW.2 ⟨hx,rfl⟩;rw[h]at this;exact(JW.1 this).1
theorem bR.mem{S S':List α}(h:bR key S S'){x:α}:x∈S'↔x∈S:=⟨O8 h.mU,O8 (fun k=>(h.mU k).symm)⟩
theorem bR.refl{S:List α}(h:dj key S):bR key S S:=⟨h,rfl,fun _=>rfl⟩
theorem j3{A B:List α}:dj key (A++B)↔dj key A/\dj key B/\∀x∈A,∀y∈B,key x<=key y:=by unfold dj;rw[List.pairwise_append]
theorem EH{x:α}{B:List α}:dj key (x::B)↔(∀y∈B,key x<=key y)/\dj key B:=by unfold dj;rw[aaV]
theorem Pm{A B:List α}(h:∀x∈A,∀y∈B,key y<key x)(k:Int):fk key k (A++B)=fk key k (B++A):=by
 rw[jG,jG];by_cases q:∃x∈A,key x=k
 .obtain⟨x,hx,hk⟩:=q;have:fk key k B=[]:=JN (fun y hy=>by have:=h x hx y hy;omega);rw[this];simp
 .have:fk key k A=[]:=JN (fun x hx hk=>q ⟨x,hx,hk⟩);rw[this];simp
theorem EC{T0 T1 T2:List α}{x:α}(h:bR key T0 (T1++T2))(h1:∀y∈T1,key y<=key x)(h2:∀y∈T2,key x<key y):bR key (T0++[x]) (T1++x::T2):=by
 obtain⟨s1,s2,s3⟩:=j3.1 h.lV;refine⟨?_,?_,?_⟩
 .refine j3.2 ⟨s1,EH.2 ⟨fun y hy=>Int.le_of_lt (h2 y hy),s2⟩,?_⟩;intro a ha b hb;rcases BY.1 hb with rfl|hb
  .exact h1 a ha
  .exact s3 a ha b hb
 .have:=h.len;simp only[aP,cq,BT]at *
  omega
 .intro k;have e:fk key k (x::T2)=fk key k (T2++[x]):=by have:=Pm (key:=key) (A:=T2) (B:=[x]) (fun a ha b hb=>by simp at hb;subst hb;exact h2 a ha) k;rw[this];rfl
  rw[jG,e,jG,<-bJ,<-jG,h.mU,<-jG]
theorem Ur{A B A' B':List α}(ha:bR key A A')(hb:bR key B B')(h:∀x∈A,∀y∈B,key x<=key y):bR key (A++B) (A'++B'):=by
 refine⟨j3.2 ⟨ha.lV,hb.lV,fun x hx y hy=>h x (ha.mem.1 hx) y (hb.mem.1 hy)⟩,?_,?_⟩
 .have:=ha.len;have:=hb.len;simp only[aP];omega
 .intro k;rw[jG,jG,ha.mU,hb.mU]
theorem bR.Kh{A B C:List α}(hl:B.length=A.length)(h:∀k,fk key k B=fk key k A)(g:bR key B C):bR key A C:=⟨g.lV,g.len.trans hl,fun k=>(g.mU k).trans (h k)⟩
theorem xr{P1 P2 Q1 Q2 R1 R2:List α}(hp:dj key (P1++P2))(hq:dj key (Q1++Q2))(h1:∀x∈P1,∀y∈Q2,key x<=key y)(h2:∀x∈P2,∀y∈Q1,key y<key x)
  (r1:bR key (P1++Q1) R1) (r2:bR key (P2++Q2) R2):bR key ((P1++P2)++(Q1++Q2)) (R1++R2):=by
 obtain⟨p1,p2,p3⟩:=j3.1 hp;obtain⟨q1,q2,q3⟩:=j3.1 hq;refine bR.Kh (B:=(P1++Q1)++(P2++Q2)) ?_ ?_ (Ur r1 r2 ?_)
 .simp only[aP];omega
 .intro k;have e:=Pm (key:=key) (A:=P2) (B:=Q1) h2 k;rw[jG,jG]at e;simp only[jG,bJ];rw[<-bJ (fk key k Q1),<-e,bJ]
 .intro x hx y hy;rcases AC.1 hx with hx|hx<;>rcases AC.1 hy with hy|hy
  .exact p3 x hx y hy
  .exact h1 x hx y hy
  .exact Int.le_of_lt (h2 y hy x hx)
  .exact q3 x hx y hy
theorem Tv{S:List α}(h:dj key S):∀(n:Nat),(∀x∈S,1<=key x/\key x<=(n:Int))->S=(List.range n).flatMap (fun(i:Nat)=>fk key ((i:Int)+1) S):=by
 intro n
 induction n generalizing S with
 |zero=>intro hb;cases S with|nil=>rfl|cons x S=>have:=hb x acv;omega
 |succ n ih=>
  intro hb;have split:∀{S:List α},dj key S->(∀x∈S,key x<=((n+1:Nat):Int))->S=S.filter (fun x=>decide (key x<=(n:Int)))++fk key ((n:Int)+1) S:=by
   intro S
   induction S with
   |nil=>intro _ _;rfl|cons x S ihS=>
    intro hs hb;obtain⟨a,b⟩:=EH.1 hs;have e:=ihS b (fun y hy=>hb y (by simp[hy]));by_cases q:key x<=(n:Int)
    .unfold fk;rw[List.filter_cons_of_pos (by simpa using q),List.filter_cons_of_neg (by simp;omega)];have e':=abp (List.cons x) e;exact e'
    .have hk:key x=(n:Int)+1:=by have:=hb x acv;omega
     have all:∀y∈S,key y=(n:Int)+1:=fun y hy=>by have:=a y hy;have:=hb y (by simp[hy]);omega
     have f0:S.filter (fun x=>decide (key x<=(n:Int)))=[]:=by rw[ack];intro y hy;have:=all y hy;simp;omega
     have f1:fk key ((n:Int)+1) S=S:=by unfold fk;rw[List.filter_eq_self];intro y hy;simpa using all y hy
     have g0:(x::S).filter (fun x=>decide (key x<=(n:Int)))=[]:=by rw[List.filter_cons_of_neg (by simp;omega),f0]
     have g1:fk key ((n:Int)+1) (x::S)=x::fk key ((n:Int)+1) S:=by unfold fk;rw[List.filter_cons_of_pos (by simpa using hk)]
     rw[g0,g1,f1];rfl
  have e:=split h (fun x hx=>(hb x hx).2);have hs':dj key (S.filter (fun x=>decide (key x<=(n:Int)))):=List.Pairwise.filter _ h;have ih':=ih hs' (fun x hx=>by have:=List.mem_filter.1 hx;exact⟨(hb x this.1).1,by simpa using this.2⟩);rw[aby,IO,abd];have e2:(List.range n).flatMap (fun(i:Nat)=>fk key ((i:Int)+1) S)=(List.range n).flatMap (fun(i:Nat)=>fk key ((i:Int)+1) (S.filter (fun x=>decide (key x<=(n:Int))))):=by
   have:∀(l:jp),(∀i∈l,i<n)->l.flatMap (fun(i:Nat)=>fk key ((i:Int)+1) S)=l.flatMap (fun(i:Nat)=>fk key ((i:Int)+1) (S.filter (fun x=>decide (key x<=(n:Int))))):=by
    intro l
    induction l with
    |nil=>intro _;rfl|cons i l il=>
     intro hi;rw[GT,GT,il (fun j hj=>hi j (by simp[hj]))];congr 1;unfold fk;rw[List.filter_filter];apply List.filter_congr;intro x hx;have:=hi i acv;by_cases q:key x=(i:Int)+1
     .have:key x<=(n:Int):=acs
      simp[q];omega
     .simp[q]
   exact this _ (fun i hi=>List.mem_range.1 hi)
  rw[e2,<-ih'];exact e
theorem bR.flat{S S':List α}(h:bR key S S')(n:Nat)(hb:∀x∈S,1<=key x/\key x<=(n:Int)):S'=(List.range n).flatMap (fun(i:Nat)=>fk key ((i:Int)+1) S):=by
 have e:=Tv h.lV n (fun x hx=>hb x (h.mem.1 hx));rw[e];have:∀(l:jp),l.flatMap (fun(i:Nat)=>fk key ((i:Int)+1) S')=l.flatMap (fun(i:Nat)=>fk key ((i:Int)+1) S):=by
  intro l
  induction l with|nil=>rfl|cons i l il=>rw[GT,GT,il,h.mU]
 rw[<-e];exact e.trans (this _)
end
end Go.Proofs.Ytbbhihkocghhaaa.Pl
end
section
namespace Go.Proofs.Ytbbhihkocghhaaa.V
open Go Go.RowKit
theorem cN{x:Int}{n:Nat}(e:x=(n:Int))(h:n<=1000000000):mt x=(n:Int):=by rw[e];exact cD acs
variable{u:Nat}
theorem qO{σ:Sh}{X Z:List σ.T}{p:σ.T}(hu:X.length=u):gt σ (X++p::Z) (u:Int)=p:=by
 refine bG ?_
 grind
variable{α:Type}{p:α}{q:α}
theorem E6{X Z:List α}(hu:X.length=u):(X++p::Z).set u q=X++q::Z:=by rw[List.set_append_right _ _ acs,hu];simp
variable{v:Nat}
theorem sw2{X M Y:List α}(hu:X.length=u)(hv:X.length+1+M.length=v):((X++p::(M++q::Y)).set u q).set v p=X++q::(M++p::Y):=by
 rw[E6 hu];have e:X++q::(M++q::Y)=(X++q::M)++q::Y:=acv
 rw[e,E6 (by simp;omega)];simp
variable{i:Nat}
theorem xl{L:List α}(h:i<L.length):L.drop i=L[i]::L.drop (i+1):=aaP h
variable{R:Type}{z:Option R}{U:Int}{y:Option R}
theorem Pb{L X M Y:List aS}{p q:aS}(hL:L=X++p::(M++q::Y))(hu:X.length=u)(hv:X.length+1+M.length=v){V:Int}(eU:U=(u:Int))(eV:V=(v:Int))
  (h:List.set (List.set L (Int.toNat U) (gt af L V)) (Int.toNat V) (gt af L U)=X++q::(M++p::Y)->y=z) :
  (ak (al V L.length) <|ak (al U L.length) <|ak (al U L.length) <|ak (al V (List.length (List.set L (Int.toNat U) (gt af L V)))) <|y)=z:=by
 subst hL;subst eU;subst eV;have hlen:List.length (X++p::(M++q::Y))=X.length+(1+(M.length+(1+Y.length))):=by simp;omega
 have gu:gt af (X++p::(M++q::Y)) (u:Int)=p:=qO hu;have gv:gt af (X++p::(M++q::Y)) (v:Int)=q:=by
  have e:X++p::(M++q::Y)=(X++p::M)++q::Y:=acv
  rw[e];exact qO (by simp;omega)
 have i1:al (v:Int) (List.length (X++p::(M++q::Y)))=true:=bm ⟨acs,by rw[hlen];omega⟩;have i2:al (u:Int) (List.length (X++p::(M++q::Y)))=true:=bm ⟨acs,by rw[hlen];omega⟩;have hs:∀z:aS,al (v:Int) (List.length (List.set (X++p::(M++q::Y)) (Int.toNat (u:Int)) z))=true:=fun z=>(abp (al (v:Int)) abU).trans i1;refine an i1 (an i2 (an i2 (an (hs _) (h ?_))));rw[gu,gv,Fr,Fr];exact sw2 hu hv
theorem aaz(W:iq)(X P M Q Y:List aS)(a b n:Nat)(ha:X.length=a)(hp:P.length=n)(hq:Q.length=n)(hb:X.length+P.length+M.length=b)(hl:b+n<=1000000) :
  Nr ((a:Int),(b:Int),(n:Int),(0:Int),X++(P++(M++(Q++Y))),W)=some (X++(Q++(M++(P++Y))),W):=by
 unfold Nr;delta u16 u4 dI dU;refine ez (fun i:Nat=>((a:Int),(b:Int),(n:Int),(i:Int),X++(Q.take i++(P.drop i++(M++(P.take i++(Q.drop i++Y))))),W)) n rfl ?_ ?_ acx
 .intro i hi
  try dsimp only
  unfold wD;have hpi:i<P.length:=acs
  have hqi:i<Q.length:=acs
  refine aA (au (show(i:Int)<(n:Int) by omega)) ?_;refine Pb (X:=X++Q.take i) (p:=P[i]) (M:=P.drop (i+1)++(M++P.take i)) (q:=Q[i]) (Y:=Q.drop (i+1)++Y) (u:=a+i) (v:=b+i) ?_ ?_ ?_ ?_ ?_ (fun hset=>?_)
  .rw[xl hpi,xl hqi];simp only[bJ,PP]
  .simp;omega
  .simp;omega
  .exact cN acs acs
  .exact cN acs acs
  .refine an (au rfl) (an (au rfl) (an (au rfl) ?_));have e:∀(u v:Int) (A B:List aS),u=v->A=B->(acB ((a:Int),(b:Int),(n:Int),u,A,W):am wt we)=acB ((a:Int),(b:Int),(n:Int),v,B,W):=by rintro _ _ _ _ rfl rfl;rfl
   refine e _ _ _ _ (cN (n:=i+1) acs acs) (hset.trans ?_);rw[abo hpi,abo hqi];simp only[bJ,PP,LT]
 .try dsimp only
  unfold wD;refine ao (aq (show ¬(n:Int)<(n:Int) by omega)) ?_;have e1:P.drop n=[]:=aaU acs;have e2:Q.drop n=[]:=aaU acs;have e3:P.take n=P:=By acs;have e4:Q.take n=Q:=By acs;rw[e1,e2,e3,e4];rfl
variable{A:Int}{B:Int}
theorem EJ(W:iq)(X P M Q Y:List aS){N:Int}(a b n:Nat)(eA:A=(a:Int))(eB:B=(b:Int))(eN:N=(n:Int))(ha:X.length=a)(hp:P.length=n)(hq:Q.length=n)(hb:X.length+P.length+M.length=b)(hl:b+n<=1000000){L:List aS}(hL:L=X++(P++(M++(Q++Y)))) :
  Ns (A,B,N,L,W)=some (X++(Q++(M++(P++Y))),W):=by
 subst eA;subst eB;subst eN;subst hL;exact aO (aaz W X P M Q Y a b n ha hp hq hb hl) rfl
theorem Tt(W:iq)(m:Nat)(G:List aS)(hG:G.length<=400000){X P Q Y:List aS}(hp:0<P.length)(hq:0<Q.length)(hm:X.length+P.length=m)(hg:X++(Q++(P++Y))=G) :
  ∃o,Dw ((m:Int),(P.length:Int),(Q.length:Int),X++(P++(Q++Y)),W)=some o /\
   ∃X P Q Y:List aS,o=((m:Int),(P.length:Int),X++(P++(Q++Y)),W)/\Q.length=P.length/\X.length+P.length=m/\X++(Q++(P++Y))=G:=by
 unfold Dw;delta gH u3 dI dU;refine k9 (fun d=>∃X P Q Y:List aS,d=((m:Int),(P.length:Int),(Q.length:Int),X++(P++(Q++Y)),W)/\0<P.length/\0<Q.length/\X.length+P.length=m/\X++(Q++(P++Y))=G)
  (fun o=>∃X P Q Y:List aS,o=((m:Int),(P.length:Int),X++(P++(Q++Y)),W)/\Q.length=P.length/\X.length+P.length=m/\X++(Q++(P++Y))=G)
  (fun d=>d.2.1.toNat+d.2.2.1.toNat) ?_ NN _ ⟨X,P,Q,Y,rfl,hp,hq,hm,hg⟩ (cf (by have:=abp List.length hg;simp only[aP]at this;show((P.length:Int)).toNat+((Q.length:Int)).toNat<=_;omega))
 rintro d ⟨X,P,Q,Y,rfl,hp,hq,hm,hg⟩;have hlen:X.length+(Q.length+(P.length+Y.length))<=400000:=by have:=abp List.length hg;simp only[aP]at this;omega
 try dsimp only
 unfold Dy;rcases Nat.lt_trichotomy P.length Q.length with h|h|h
 .-- the second one is longer
  right;obtain⟨Q1,Q2,hQ,h1,h2⟩:∃Q1 Q2:List aS,Q=Q1++Q2/\Q1.length=Q.length-P.length/\Q2.length=P.length:=⟨Q.take (Q.length-P.length),Q.drop (Q.length-P.length),(EQ _ _).symm,acv,by simp;omega⟩;have es:=EJ W X P Q1 Q2 Y (A:=mt ((m:Int)-(P.length:Int))) (B:=mt ((mt ((m:Int)+(Q.length:Int)))-(P.length:Int))) (N:=(P.length:Int)) X.length (m+Q.length-P.length) P.length
   (cN acs acs) (by rw[cN (x:=(m:Int)+(Q.length:Int)) (n:=m+Q.length) acs acs];exact cN acs acs) rfl rfl rfl h2 acs acs (L:=X++(P++(Q++Y))) (by rw[hQ];simp only[bJ])
  refine⟨((m:Int),(Q2.length:Int),(Q1.length:Int),X++(Q2++(Q1++(P++Y))),W),?_,⟨X,Q2,Q1,P++Y,rfl,acs,acs,acs,?_⟩,?_⟩
  .refine aA (rj (aq (show ¬(P.length:Int)=(Q.length:Int) by omega))) (ao (aq (show ¬(Q.length:Int)<(P.length:Int) by omega)) (aO es ?_));have e:∀(u v u' v':Int) (A:List aS),u=u'->v=v'->(acB ((m:Int),u,v,A,W):am rT rR)=acB ((m:Int),u',v',A,W):=by rintro _ _ _ _ _ rfl rfl;rfl
   exact e _ _ _ _ _ acs (cN acs acs)
  .rw[<-hg,hQ];simp only[bJ]
  .show((Q2.length:Int)).toNat+((Q1.length:Int)).toNat<((P.length:Int)).toNat+((Q.length:Int)).toNat;omega
 .left;refine⟨((m:Int),(P.length:Int),X++(P++(Q++Y)),W),ao (Bm (au (show(P.length:Int)=(Q.length:Int) by omega))) rfl,X,P,Q,Y,rfl,h.symm,hm,hg⟩
 .-- the first one is longer
  right;obtain⟨P1,P2,hP,h1,h2⟩:∃P1 P2:List aS,P=P1++P2/\P1.length=Q.length/\P2.length=P.length-Q.length:=⟨P.take Q.length,P.drop Q.length,(EQ _ _).symm,by simp;omega,acv⟩;have es:=EJ W X P1 P2 Q Y (A:=mt ((m:Int)-(P.length:Int))) (B:=(m:Int)) (N:=(Q.length:Int)) X.length m Q.length
   (cN acs acs) rfl rfl rfl h1 rfl acs acs (L:=X++(P++(Q++Y))) (by rw[hP];simp only[bJ])
  refine⟨((m:Int),(P2.length:Int),(P1.length:Int),(X++Q)++(P2++(P1++Y)),W),?_,⟨X++Q,P2,P1,Y,rfl,acs,acs,by simp only[aP];omega,?_⟩,?_⟩
  .refine aA (rj (aq (show ¬(P.length:Int)=(Q.length:Int) by omega))) (aA (au (show(Q.length:Int)<(P.length:Int) by omega)) (aO es ?_));have e:∀(u v u' v':Int) (A A':List aS),u=u'->v=v'->A=A'->(acB ((m:Int),u,v,A,W):am rT rR)=acB ((m:Int),u',v',A',W):=by rintro _ _ _ _ _ _ rfl rfl rfl;rfl
   exact e _ _ _ _ _ _ (cN acs acs) acs (by simp only[bJ])
  .rw[<-hg,hP];simp only[bJ]
  .show((P2.length:Int)).toNat+((P1.length:Int)).toNat<((P.length:Int)).toNat+((Q.length:Int)).toNat;omega
theorem Vo(W:iq){X P Q Y L:List aS}{M:Int}(hp:0<P.length)(hq:0<Q.length)(eA:A=(X.length:Int))(eM:M=((X.length+P.length:Nat):Int))(eB:B=((X.length+P.length+Q.length:Nat):Int))(hl:L.length<=400000)(hL:L=X++(P++(Q++Y))) :
  wS (A,M,B,L,W)=some (X++(Q++(P++Y)),W):=by
 subst eA;subst eM;subst eB;subst hL;have hlen:X.length+(P.length+(Q.length+Y.length))<=400000:=by grind
 obtain⟨o,e1,X',P',Q',Y',rfl,h1,h2,h3⟩:=Tt W (X.length+P.length) (X++(Q++(P++Y))) (by simp only[aP];omega) hp hq rfl rfl (Y:=Y);have hlen':X'.length+(P'.length+(Q'.length+Y'.length))<=400000:=by
  have:=abp List.length h3
  grind
 have es:=EJ W X' P' [] Q' Y' (A:=mt (((X.length+P.length:Nat):Int)-(P'.length:Int))) (B:=((X.length+P.length:Nat):Int)) (N:=(P'.length:Int)) X'.length (X.length+P.length) P'.length
  (cN acs acs) rfl rfl rfl rfl h1 (by simp only[BT];omega) acs (L:=X'++(P'++(Q'++Y'))) rfl
 have e0:Dw (((X.length+P.length:Nat):Int),mt (((X.length+P.length:Nat):Int)-(X.length:Int)),mt (((X.length+P.length+Q.length:Nat):Int)-((X.length+P.length:Nat):Int)),X++(P++(Q++Y)),W)=some (((X.length+P.length:Nat):Int),(P'.length:Int),X'++(P'++(Q'++Y')),W):=by rw[cN (x:=((X.length+P.length:Nat):Int)-(X.length:Int)) (n:=P.length) acs acs,cN (x:=((X.length+P.length+Q.length:Nat):Int)-((X.length+P.length:Nat):Int)) (n:=Q.length) acs acs];exact e1
 refine aO e0 (aO es ?_);have e:∀(A A':List aS),A=A'->(some (A,W):Option (Out rS))=some (A',W):=by rintro _ _ rfl;rfl
 grind
open Pl (bR dj EC)
def kq(W:iq)(L:List aS):TL [.I,.sl .I,.sl ag,.sl .I,.sl .I,.sl .I,.sl aj,.sl ag,.sl .I,.sl af,.sl (.int .u8),.sl .I]:=(W.1,W.2.1,W.2.2.1,W.2.2.2.1,W.2.2.2.2.1,W.2.2.2.2.2.1,W.2.2.2.2.2.2.1,W.2.2.2.2.2.2.2.1,W.2.2.2.2.2.2.2.2.1,L,W.2.2.2.2.2.2.2.2.2.1,W.2.2.2.2.2.2.2.2.2.2.1,())
structure jw(W:iq)(key:aS->Int)(V:aS->Prop):Prop where
 cmp:∀(L:List aS) (x y:aS),V x->V y->∃c:Int,iX (x.1,x.2.1,x.2.2.1,y.1,y.2.1,y.2.2.1,kq W L)=some (c,kq W L)/\(c<0↔key x<key y)
theorem Pc{L X Y:List aS}{p q:aS}(hL:L=X++q::(p::Y))(hv:X.length=v)(hu:v+1=u){V:Int}(eU:U=(u:Int))(eV:V=(v:Int))
  (h:List.set (List.set L (Int.toNat U) (gt af L V)) (Int.toNat V) (gt af L U)=X++p::(q::Y)->y=z) :
  (ak (al V L.length) <|ak (al U L.length) <|ak (al U L.length) <|ak (al V (List.length (List.set L (Int.toNat U) (gt af L V)))) <|y)=z:=by
 subst hL;subst eU;subst eV;subst hu;have hlen:List.length (X++q::(p::Y))=X.length+(1+(1+Y.length)):=by simp;omega
 have gv:gt af (X++q::(p::Y)) (v:Int)=q:=qO hv;have e:X++q::(p::Y)=(X++[q])++p::Y:=acv
 have gu:gt af (X++q::(p::Y)) ((v+1:Nat):Int)=p:=by rw[e];exact qO (by simp;omega)
 have i1:al (v:Int) (List.length (X++q::(p::Y)))=true:=bm ⟨acs,by rw[hlen];omega⟩;have i2:al ((v+1:Nat):Int) (List.length (X++q::(p::Y)))=true:=bm ⟨acs,by rw[hlen];omega⟩;have hs:∀z:aS,al (v:Int) (List.length (List.set (X++q::(p::Y)) (Int.toNat ((v+1:Nat):Int)) z))=true:=fun z=>(abp (al (v:Int)) abU).trans i1;refine an i1 (an i2 (an i2 (an (hs _) (h ?_))));rw[gu,gv,Fr,Fr];have e2:(X++q::(p::Y)).set (v+1) q=X++q::(q::Y):=by grind
 exact(abp (fun l:List aS=>l.set v p) e2).trans (E6 hv)
section
variable{W:iq}{key:aS->Int}{V:aS->Prop}
theorem S2(C:jw W key V)(X T T0 Y:List aS)(x:aS)(A B I:Int)(i:Nat)(hA:A=(X.length:Int))(hi:X.length+T.length=i)(hl:X.length+(T.length+Y.length)<=400000)(hT:bR key T0 T)(hV:∀y∈T,V y)(hx:V x) :
  ∃o,CQ (A,B,I,(i:Int),X++(T++(x::Y)),W)=some o/\∃S,o=(A,B,I,X++(S++Y),W)/\bR key (T0++[x]) S:=by
 unfold CQ;delta u16 u4 dI dU;refine k9 (fun d=>∃T1 T2:List aS,d=(A,B,I,((X.length+T1.length:Nat):Int),X++(T1++(x::(T2++Y))),W)/\T1++T2=T/\∀y∈T2,key x<key y)
  (fun o=>∃S,o=(A,B,I,X++(S++Y),W)/\bR key (T0++[x]) S) (fun d=>d.2.2.2.1.toNat) ?_ NN _ ⟨T,[],by subst hi;rfl,acv,acv⟩ (cf (by show((i:Int)).toNat<=_;omega))
 rintro d ⟨T1,T2,rfl,hTT,h2⟩;have hlT:T1.length+T2.length=T.length:=by rw[<-hTT,aP]
 try dsimp only
 unfold CS;rcases List.eq_nil_or_concat T1 with rfl|⟨T1',q,rfl⟩
 .left;refine⟨_,ao (aq (by rw[hA];simp)) rfl,x::T2,rfl,?_⟩;have:=EC (T1:=[]) (T2:=T2) (x:=x) (T0:=T0) (key:=key) (by rw[hTT];exact hT) acv h2;exact this
 .have hj:(X.length+(T1'.concat q).length:Nat)=X.length+T1'.length+1:=by simp;omega
  have hq:V q:=hV q (by rw[<-hTT];simp);have eL:X++(T1'.concat q++(x::(T2++Y)))=(X++T1')++q::(x::(T2++Y)):=acv
  obtain⟨c,ec,hc⟩:=C.cmp (X++(T1'.concat q++(x::(T2++Y)))) x q hx hq;rw[hj];have w1:mt (((X.length+T1'.length+1:Nat):Int)-1)=((X.length+T1'.length:Nat):Int):=cN acs (by simp only[List.length_concat]at hlT;omega);have gx:gt af (X++(T1'.concat q++(x::(T2++Y)))) ((X.length+T1'.length+1:Nat):Int)=x:=by
   have e:X++(T1'.concat q++(x::(T2++Y)))=(X++T1'++[q])++x::(T2++Y):=acv
   rw[e];exact qO (by simp;omega)
  have gq:gt af (X++(T1'.concat q++(x::(T2++Y)))) (mt (((X.length+T1'.length+1:Nat):Int)-1))=q:=by rw[w1,eL];exact qO acv
  have hlen:List.length (X++(T1'.concat q++(x::(T2++Y))))=X.length+T1'.length+2+(T2.length+Y.length):=by simp;omega
  have i1:al ((X.length+T1'.length+1:Nat):Int) (List.length (X++(T1'.concat q++(x::(T2++Y)))))=true:=bm ⟨acs,by rw[hlen];omega⟩;have i2:al (mt (((X.length+T1'.length+1:Nat):Int)-1)) (List.length (X++(T1'.concat q++(x::(T2++Y)))))=true:=by rw[w1];exact bm ⟨acs,by rw[hlen];omega⟩
  have ec':iX ((gt af (X++(T1'.concat q++(x::(T2++Y)))) ((X.length+T1'.length+1:Nat):Int)).1,(gt af (X++(T1'.concat q++(x::(T2++Y)))) ((X.length+T1'.length+1:Nat):Int)).2.1,(gt af (X++(T1'.concat q++(x::(T2++Y)))) ((X.length+T1'.length+1:Nat):Int)).2.2.1,
    (gt af (X++(T1'.concat q++(x::(T2++Y)))) (mt (((X.length+T1'.length+1:Nat):Int)-1))).1,(gt af (X++(T1'.concat q++(x::(T2++Y)))) (mt (((X.length+T1'.length+1:Nat):Int)-1))).2.1,(gt af (X++(T1'.concat q++(x::(T2++Y)))) (mt (((X.length+T1'.length+1:Nat):Int)-1))).2.2.1,kq W (X++(T1'.concat q++(x::(T2++Y)))))
    = some (c,kq W (X++(T1'.concat q++(x::(T2++Y))))):=by rw[gx,gq];exact ec
  have hA':A<((X.length+T1'.length+1:Nat):Int):=by rw[hA];omega
  by_cases hk:key x<key q
  .right;refine⟨(A,B,I,((X.length+T1'.length:Nat):Int),X++(T1'++(x::(q::T2++Y))),W),?_,⟨T1',q::T2,rfl,by rw[<-hTT];simp,?_⟩,?_⟩
   .refine aA (au hA') (an i1 (an i2 (aO ec' (aA (show bw true (iL c 0) false=true from au (hc.2 hk)) ?_))));refine Pc (X:=X++T1') (q:=q) (p:=x) (Y:=T2++Y) (v:=X.length+T1'.length) (u:=X.length+T1'.length+1) eL acv rfl rfl w1 (fun hset=>?_);refine an (au rfl) (an (au rfl) ?_);have e:∀(u u':Int) (L L':List aS),u=u'->L=L'->(acB (A,B,I,u,L,W):am rQ rP)=acB (A,B,I,u',L',W):=by rintro _ _ _ _ rfl rfl;rfl
    exact e _ _ _ _ w1 (hset.trans acv)
   .intro y hy;rcases BY.1 hy with rfl|hy
    .exact hk
    .exact h2 y hy
   .show(((X.length+T1'.length:Nat):Int)).toNat<(((X.length+T1'.length+1:Nat):Int)).toNat;omega
  .left;refine⟨(A,B,I,X++((T1'.concat q++x::T2)++Y),W),?_,_,rfl,?_⟩
   .refine aA (au hA') (an i1 (an i2 (aO ec' (ao (show bw true (iL c 0) false=false from aq (fun q=>hk (hc.1 q))) ?_))));have e:∀(L L':List aS),L=L'->(acC (A,B,I,L,W):am rQ rP)=acC (A,B,I,L',W):=by rintro _ _ rfl;rfl
    exact e _ _ (show X++(T1'.concat q++(x::(T2++Y)))=_ from by simp)
   .refine EC (by rw[hTT];exact hT) ?_ h2;intro y hy;have hs:dj key (T1'.concat q):=(Pl.j3.1 (by rw[hTT];exact hT.lV:dj key (T1'.concat q++T2))).1;rw[List.concat_eq_append]at hy hs;obtain⟨_,_,h3⟩:=Pl.j3.1 hs;rcases AC.1 hy with hy|hy
    .have:=h3 y hy q acv;omega
    .simp at hy;subst hy;omega
theorem JP(C:jw W key V){X S Y L:List aS}(eA:A=(X.length:Int))(eB:B=((X.length+S.length:Nat):Int))(hL:L=X++(S++Y))(hl:L.length<=400000)(hV:∀y∈S,V y) :
  ∃S',MR (A,B,L,W)=some (X++(S'++Y),W)/\bR key S S':=by
 subst eA;subst eB;subst hL;have hlen:X.length+(S.length+Y.length)<=400000:=by simpa only[aP]using hl
 have w0:mt ((X.length:Int)+1)=((X.length+1:Nat):Int):=cN acs acs;cases S with
 |nil=>
  refine⟨[],?_,bR.refl (List.Pairwise.nil)⟩;have e1:v8 ((X.length:Int),((X.length+([]:List aS).length:Nat):Int),mt ((X.length:Int)+1),X++([]++Y),W)=some (X++([]++Y),W):=by
   unfold v8;delta gH u3 dI dU;refine ez (fun _=>_) 0 rfl (fun i hi=>absurd hi (Nat.not_lt_zero i)) ?_ acx
   try dsimp only
   unfold wa;exact ao (aq (by rw[w0];simp only[BT];omega)) rfl
  exact aO e1 rfl
 |cons s S=>
  have e1:∃o,v8 ((X.length:Int),((X.length+(s::S).length:Nat):Int),mt ((X.length:Int)+1),X++(s::S++Y),W)=some o/\∃S',o=(X++(S'++Y),W)/\bR key (s::S) S':=by
   unfold v8;delta gH u3 dI dU;refine k9 (fun d=>∃T0 T R:List aS,d=((X.length:Int),((X.length+(s::S).length:Nat):Int),((X.length+T.length:Nat):Int),X++(T++(R++Y)),W)/\T0++R=s::S/\bR key T0 T)
    (fun o=>∃S',o=(X++(S'++Y),W)/\bR key (s::S) S') (fun d=>(X.length+(s::S).length)-d.2.2.1.toNat) ?_ NN _ ⟨[s],[s],S,by rw[w0];rfl,rfl,bR.refl (by unfold dj;simp)⟩ (cf (by
     have:List.length (s::S)<=400000:=acs
     omega))
   rintro d ⟨T0,T,R,rfl,hTR,hT⟩;have hlT:=hT.len;have hlR:T0.length+R.length=(s::S).length:=by rw[<-hTR,aP]
   try dsimp only
   unfold wa;cases R with
   |nil=>left;refine⟨_,ao (aq (by simp only[BT]at hlR;omega)) rfl,T,rfl,?_⟩;rw[dE]at hTR;rw[<-hTR];exact hT|cons r R=>
    right;simp only[cq]at hlR;have hVT:∀y∈T,V y:=fun y hy=>hV y (by rw[<-hTR];simp[hT.mem.1 hy]);obtain⟨o,e4,S',rfl,hS'⟩:=S2 C X T T0 (R++Y) r (X.length:Int) ((X.length+(s::S).length:Nat):Int) ((X.length+T.length:Nat):Int) (X.length+T.length) rfl rfl (by simp only[aP,cq]at *;omega) hT hVT (hV r (by rw[<-hTR];simp));have hl':=hS'.len;simp only[aP,cq,BT]at hl';refine⟨((X.length:Int),((X.length+(s::S).length:Nat):Int),((X.length+S'.length:Nat):Int),X++(S'++(R++Y)),W),?_,⟨T0++[r],S',R,rfl,by rw[<-hTR];simp,hS'⟩,?_⟩
    .refine aA (au (by simp only[cq]at *;omega)) (aO e4 ?_);have e:∀(u u':Int),u=u'->(acB ((X.length:Int),((X.length+(s::S).length:Nat):Int),u,X++(S'++(R++Y)),W):am v7 vZ)=acB ((X.length:Int),((X.length+(s::S).length:Nat):Int),u',X++(S'++(R++Y)),W):=by rintro _ _ rfl;rfl
     exact e _ _ (show mt (((X.length+T.length:Nat):Int)+1)=_ from cN acs (by simp only[aP,cq]at *;omega))
    .show(X.length+(s::S).length)-(((X.length+S'.length:Nat):Int)).toNat<(X.length+(s::S).length)-(((X.length+T.length:Nat):Int)).toNat;simp only[cq]at *
     omega
  obtain⟨o,e1,S',rfl,hS⟩:=e1;exact⟨S',aO e1 rfl,hS⟩
end
variable{S:List aS}
open Pl (bR dj xr)
abbrev hf(i j:Int):Int:=mt (Int.fdiv (IntKind.wrap .u64 (mt (i+j))) (HPow.hPow (2:Int) (Min.min (Int.toNat (1:Int)) 64)))
variable{j:Nat}
theorem xw(h:i+j<=1000000):hf (i:Int) (j:Int)=(((i+j) / 2:Nat):Int):=by
 unfold hf;rw[cN (x:=(i:Int)+(j:Int)) (n:=i+j) acs acs];have e1:IntKind.wrap .u64 ((i+j:Nat):Int)=((i+j:Nat):Int):=by unfold IntKind.wrap;simp[IntKind.bits,IntKind.signed];omega
 rw[e1];have e2:(HPow.hPow (2:Int) (Min.min (Int.toNat (1:Int)) 64):Int)=2:=rfl;rw[e2,Int.fdiv_eq_ediv_of_nonneg _ acw];exact cN acs acs
variable{lo:Nat}{hi:Nat}
theorem EE{D O:Type}{B:D->Option (D⊕O)}(st:Nat->Nat->D)(fin:Nat->O)(pr:Nat->Prop)(hlh:lo<=hi)(hb:hi<=1000000)
  (hm:∀c d,lo<=c->c<=d->d<hi->pr d->pr c)
  (hs1:∀i j,lo<=i->i<j->j<=hi->pr ((i+j) / 2)->B (st i j)=acB (st ((i+j) / 2+1) j))
  (hs2:∀i j,lo<=i->i<j->j<=hi->¬pr ((i+j) / 2)->B (st i j)=acB (st i ((i+j) / 2)))
  (he:∀i,lo<=i->i<=hi->B (st i i)=acC (fin i)) :
  ∃s,lo<=s/\s<=hi/\bh B NN (st lo hi)=some (fin s)/\(∀c,lo<=c->c<s->pr c)/\∀c,s<=c->c<hi->¬pr c:=by
 have key:∀k i j,lo<=i->i<=j->j<=hi->j-i=k->(∀c,lo<=c->c<i->pr c)->(∀c,j<=c->c<hi->¬pr c)->∀N,k<N ->
   ∃s,i<=s/\s<=j/\bh B N (st i j)=some (fin s)/\(∀c,lo<=c->c<s->pr c)/\∀c,s<=c->c<hi->¬pr c:=by
  intro k
  induction k using Nat.strongRecOn with
  |_ k ih=>
   intro i j h1 h2 h3 hk ha hb N hN;obtain⟨M,rfl⟩:∃M,N=M+1:=⟨N-1,acs⟩;rcases rt i j with q|q
   .rcases Classical.em (pr ((i+j) / 2))with hp|hp
    .obtain⟨s,g1,g2,g3,g4⟩:=ih (j-((i+j) / 2+1)) acs ((i+j) / 2+1) j acs acs h3 rfl (fun c c1 c2=>hm c ((i+j) / 2) c1 acs acs hp) hb M acs;exact⟨s,acs,g2,by simp only[bh,hs1 i j h1 q h3 hp];exact g3,g4⟩
    .obtain⟨s,g1,g2,g3,g4⟩:=ih ((i+j) / 2-i) acs i ((i+j) / 2) h1 acs acs rfl ha (fun c c1 c2 hc=>hp (hm ((i+j) / 2) c acs c1 c2 hc)) M acs;exact⟨s,g1,acs,by simp only[bh,hs2 i j h1 q h3 hp];exact g3,g4⟩
   .have:i=j:=acs
    subst this;exact⟨i,ol _,ol _,by simp only[bh,he i h1 h3],ha,hb⟩
 exact key (hi-lo) lo hi (ol _) hlh (ol _) rfl (fun c c1 c2=>acs) (fun c c1 c2=>acs) NN acx
abbrev E8:=E7 wS
def py(W:iq)(key:aS->Int)(V:aS->Prop)(F:fB)(k:Nat):Prop:=
 ∀(X P Q Y L:List aS) (A M B:Int),0<P.length->0<Q.length->P.length+Q.length<=k->A=(X.length:Int)->M=((X.length+P.length:Nat):Int)->B=((X.length+P.length+Q.length:Nat):Int)->L=X++(P++(Q++Y))->L.length<=400000 ->
  dj key P->dj key Q->(∀x∈P,V x)->(∀x∈Q,V x)->∃R,F (A,M,B,L,W)=some (X++(R++Y),W)/\bR key (P++Q) R
section
variable{W:iq}{key:aS->Int}{V:aS->Prop}
theorem Uw{F1:fB}{k:Nat}(ih:py W key V F1 k){X P Q Y L:List aS}{b mid e:Int}(em:mid=(X.length:Int))(ee:e=((X.length+P.length:Nat):Int))(eb:b=((X.length+P.length+Q.length:Nat):Int))(hL:L=X++(P++(Q++Y)))(hl:L.length<=400000)
  (hk:P.length+Q.length<=k) (hp:dj key P) (hq:dj key Q) (hP:∀x∈P,V x) (hQ:∀x∈Q,V x):∃R,qc F1 b mid e (L,W)=some (X++(R++Y),W)/\bR key (P++Q) R:=by
 unfold qc;rcases If P.length with h1|h1
 .have:P=[]:=ro h1;subst this;refine⟨Q,ao acz ?_,bR.refl hq⟩;rw[hL];rfl
 .rcases If Q.length with h2|h2
  .have:Q=[]:=ro h2;subst this;refine⟨P,aA (au (by rw[em,ee];omega)) (ao (show bw true (iL e b) false=false from acz) ?_),by rw[dE];exact bR.refl hp⟩;rw[hL];rfl
  .obtain⟨R,e1,e2⟩:=ih X P Q Y L mid e b h1 h2 hk em ee eb hL hl hp hq hP hQ;exact⟨R,aA acA (aA (show bw true (iL e b) false=true from acA) (aO e1 rfl)),e2⟩
theorem Uv{F1:fB}{k:Nat}(ih:py W key V F1 k){X P1 P2 Q1 Q2 Y L:List aS}{a m b mid s e:Int}(ea:a=(X.length:Int))(es:s=((X.length+P1.length:Nat):Int))(emm:m=((X.length+P1.length+P2.length:Nat):Int))(em:mid=((X.length+P1.length+Q1.length:Nat):Int))
  (ee:e=((X.length+P1.length+Q1.length+P2.length:Nat):Int)) (eb:b=((X.length+P1.length+P2.length+Q1.length+Q2.length:Nat):Int)) (hL:L=X++(P1++(P2++(Q1++(Q2++Y))))) (hl:L.length<=400000)
  (hk1:P1.length+Q1.length<=k) (hk2:P2.length+Q2.length<=k) (hp:dj key (P1++P2)) (hq:dj key (Q1++Q2)) (hP:∀x∈P1++P2,V x) (hQ:∀x∈Q1++Q2,V x)
  (h1:∀x∈P1,∀y∈Q2,key x<=key y) (h2:∀x∈P2,∀y∈Q1,key y<key x):∃R,E8 F1 a m b mid s e (L,W)=some (X++(R++Y),W)/\bR key ((P1++P2)++(Q1++Q2)) R:=by
 have hlen:X.length+(P1.length+(P2.length+(Q1.length+(Q2.length+Y.length))))<=400000:=by rw[hL]at hl;simpa only[aP]using hl
 obtain⟨p1,p2,_⟩:=Pl.j3.1 hp;obtain⟨q1,q2,_⟩:=Pl.j3.1 hq;have hU:∃R,sK F1 a b mid s e (X++(P1++(Q1++(P2++(Q2++Y)))),W)=some (X++(R++Y),W)/\bR key ((P1++P2)++(Q1++Q2)) R:=by
  have hV:∀R1:List aS,bR key (P1++Q1) R1->∃R,qc F1 b mid e (X++(R1++(P2++(Q2++Y))),W)=some (X++(R++Y),W)/\bR key ((P1++P2)++(Q1++Q2)) R:=by
   intro R1 hR1;have hl1:=hR1.len;simp only[aP]at hl1;obtain⟨R2,e1,e2⟩:=Uw ih (X:=X++R1) (P:=P2) (Q:=Q2) (Y:=Y) (L:=X++(R1++(P2++(Q2++Y)))) (b:=b) (mid:=mid) (e:=e) (by rw[em];simp only[aP];omega) (by rw[ee];simp only[aP];omega) (by rw[eb];simp only[aP];omega)
    (by simp only[bJ]) (by simp only[aP];omega) hk2 p2 q2 (fun x hx=>hP x (by simp[hx])) (fun x hx=>hQ x (by simp[hx]))
   refine⟨R1++R2,e1.trans (abp (fun l:List aS=>(some (l,W):ow)) ?_),xr hp hq h1 h2 hR1 e2⟩;simp only[bJ]
  unfold sK;rcases If P1.length with g1|g1
  .have:P1=[]:=ro g1;subst this;obtain⟨R,e1,e2⟩:=hV Q1 (bR.refl q1);exact⟨R,ao (aq (by rw[ea,es];simp only[BT];omega)) e1,e2⟩
  .rcases If Q1.length with g2|g2
   .have:Q1=[]:=ro g2;subst this;obtain⟨R,e1,e2⟩:=hV P1 (by rw[dE];exact bR.refl p1);exact⟨R,aA (au (by rw[ea,es];omega)) (ao (show bw true (iL s mid) false=false from aq (by rw[es,em];simp only[BT];omega)) e1),e2⟩
   .obtain⟨R1,e0,hR1⟩:=ih X P1 Q1 (P2++(Q2++Y)) (X++(P1++(Q1++(P2++(Q2++Y))))) a s mid g1 g2 hk1 ea es (by rw[em]) rfl (by simp only[aP];omega) p1 q1 (fun x hx=>hP x (by simp[hx])) (fun x hx=>hQ x (by simp[hx]));obtain⟨R,e1,e2⟩:=hV R1 hR1;exact⟨R,aA (au (by rw[ea,es];omega)) (aA (show bw true (iL s mid) false=true from au (by rw[es,em];omega)) (aO e0 e1)),e2⟩
 obtain⟨R,e1,e2⟩:=hU;refine⟨R,?_,e2⟩;unfold E8 E7;subst hL;rcases If P2.length with g1|g1
 .have:P2=[]:=ro g1;subst this;exact ao (aq (by rw[es,emm];simp only[BT];omega)) e1
 .rcases If Q1.length with g2|g2
  .have:Q1=[]:=ro g2;subst this;exact aA (au (by rw[es,emm];omega)) (ao (show bw true (iL m e) false=false from aq (by rw[ee,emm];simp only[BT];omega)) e1)
  .have er:=Vo W (X:=X++P1) (P:=P2) (Q:=Q1) (Y:=Q2++Y) (L:=X++(P1++(P2++(Q1++(Q2++Y))))) (A:=s) (M:=m) (B:=e) g1 g2 (by rw[es];simp only[aP]) (by rw[emm];simp only[aP]) (by rw[ee];simp only[aP];omega) hl (by simp only[bJ]);have er':wS (s,m,e,X++(P1++(P2++(Q1++(Q2++Y)))),W)=some (X++(P1++(Q1++(P2++(Q2++Y)))),W):=er.trans (abp (fun l:List aS=>(some (l,W):Option (Out rS))) (by simp only[bJ]));exact aA (au (by rw[es,emm];omega)) (aA (show bw true (iL m e) false=true from au (by rw[ee,emm];omega)) (aO er' e1))
end
variable{P2:List aS}{P1:List aS}{k:Nat}{Q1:List aS}
theorem nk{key:aS->Int}{L:List aS}(h:dj key L)(hij:i<=j)(hj:j<L.length):key L[i]<=key L[j]:=by
 rcases rt i j with q|q
 .exact(List.pairwise_iff_getElem.1 h) i j acs hj q
 grind
section
variable{X P Q Y L:List aS}
theorem xz(hL:L=X++(P++(Q++Y))){t c:Nat}(ht:t<P.length)(hc:c=X.length+t):gt af L (c:Int)=P[t]:=by
 subst hL;subst hc;refine bG ?_
 grind
theorem xA(hL:L=X++(P++(Q++Y))){t c:Nat}(ht:t<Q.length)(hc:c=X.length+P.length+t):gt af L (c:Int)=Q[t]:=by
 subst hL;subst hc;refine bG ?_
 grind
theorem vq(hL:L=X++(P++(Q++Y))):L.length=X.length+P.length+Q.length+Y.length:=by grind
variable{W:iq}{key:aS->Int}{V:aS->Prop}
theorem VA(C:jw W key V)(F:fB){x:aS}(hL:L=X++([x]++(Q++Y)))(hl:L.length<=400000)(hq:dj key Q)(hx:V x)(hQ:∀y∈Q,V y) :
  ∃k,k<=Q.length/\NA F ((X.length:Int),((X.length+1:Nat):Int),((X.length+1+Q.length:Nat):Int),L,W)=some ((X.length:Int),((X.length+1+k:Nat):Int),L,W)/\(∀y∈Q.take k,key y<key x)/\∀y∈Q.drop k,key x<=key y:=by
 have hlen:=vq hL;simp only[cq,BT]at hlen;have gQ:∀c,(h0:X.length+1<=c)->(h:c<X.length+1+Q.length)->gt af L (c:Int)=Q[c-X.length-1]' acs:=fun c h1 h2=>xA hL (t:=c-X.length-1) acs (by simp only[cq,BT];omega);have gx:gt af L (X.length:Int)=x:=xz hL (t:=0) acv rfl;have step:∀i j:Nat,X.length+1<=i->i<j->j<=X.length+1+Q.length->∃c:Int,(c<0↔key (gt af L (((i+j) / 2:Nat):Int))<key x) /\
   pP iX (X.length:Int) (i:Int) (j:Int) L W.1 W.2.1 W.2.2.1 W.2.2.2.1 W.2.2.2.2.1 W.2.2.2.2.2.1 W.2.2.2.2.2.2.1 W.2.2.2.2.2.2.2.1 W.2.2.2.2.2.2.2.2.1 W.2.2.2.2.2.2.2.2.2.1 W.2.2.2.2.2.2.2.2.2.2.1 =
    br (iL c 0) (acB ((X.length:Int),(((i+j) / 2+1:Nat):Int),(j:Int),L,W)) (acB ((X.length:Int),(i:Int),(((i+j) / 2:Nat):Int),L,W)):=by
  intro i j h1 h2 h3;have hw:hf (i:Int) (j:Int)=(((i+j) / 2:Nat):Int):=xw acs;have gh:=gQ ((i+j) / 2) acs acs;obtain⟨c,e1,e2⟩:=C.cmp L (gt af L (((i+j) / 2:Nat):Int)) (gt af L (X.length:Int)) (by rw[gh];exact hQ _ (AT _)) (by rw[gx];exact hx);refine⟨c,by rw[<-gx];exact e2,?_⟩;have i1:al (hf (i:Int) (j:Int)) L.length=true:=by rw[hw];exact acy
  have i2:al (X.length:Int) L.length=true:=acy;have e1':iX ((gt af L (hf (i:Int) (j:Int))).1,(gt af L (hf (i:Int) (j:Int))).2.1,(gt af L (hf (i:Int) (j:Int))).2.2.1,(gt af L (X.length:Int)).1,(gt af L (X.length:Int)).2.1,(gt af L (X.length:Int)).2.2.1,kq W L)=some (c,kq W L):=by rw[hw];exact e1
  unfold pP;refine aA (au (show(i:Int)<(j:Int) by omega)) (an i1 (an i2 (aO e1' ?_)));have e:∀(u v u' v':Int),u=u'->v=v'->(br (iL c 0) (acB ((X.length:Int),u,(j:Int),L,W)) (acB ((X.length:Int),(i:Int),v,L,W)):am wy wi)=br (iL c 0) (acB ((X.length:Int),u',(j:Int),L,W)) (acB ((X.length:Int),(i:Int),v',L,W)):=by rintro _ _ _ _ rfl rfl;rfl
  exact e _ _ _ _ (by show mt (hf (i:Int) (j:Int)+1)=_;rw[hw];exact cN acs acs) hw
 obtain⟨s,s1,s2,es,hs1,hs2⟩:=EE (B:=fun d=>pP iX d.1 d.2.1 d.2.2.1 d.2.2.2.1 d.2.2.2.2.1 d.2.2.2.2.2.1 d.2.2.2.2.2.2.1 d.2.2.2.2.2.2.2.1 d.2.2.2.2.2.2.2.2.1 d.2.2.2.2.2.2.2.2.2.1 d.2.2.2.2.2.2.2.2.2.2.1 d.2.2.2.2.2.2.2.2.2.2.2.1 d.2.2.2.2.2.2.2.2.2.2.2.2.1 d.2.2.2.2.2.2.2.2.2.2.2.2.2.1 d.2.2.2.2.2.2.2.2.2.2.2.2.2.2.1)
  (fun i j:Nat=>((X.length:Int),(i:Int),(j:Int),L,W)) (fun i:Nat=>((X.length:Int),(i:Int),L,W)) (fun c=>key (gt af L (c:Int))<key x) (lo:=X.length+1) (hi:=X.length+1+Q.length) acs acs
  (fun c d h1 h2 h3 hd=>by rw[gQ d acs h3]at hd;rw[gQ c h1 acs];exact Int.lt_of_le_of_lt (nk hq (i:=c-X.length-1) (j:=d-X.length-1) acs acs) hd)
  (fun i j h1 h2 h3 hp=>by obtain⟨c,hc,e⟩:=step i j h1 h2 h3;exact e.trans (dY (au (hc.2 hp))))
  (fun i j h1 h2 h3 hp=>by obtain⟨c,hc,e⟩:=step i j h1 h2 h3;exact e.trans (cV (aq (fun q=>hp (hc.1 q)))))
  (fun i h1 h2=>by
   try dsimp only
   unfold pP;exact ao (aq (show ¬(i:Int)<(i:Int) by omega)) rfl)
 refine⟨s-X.length-1,acs,?_,?_,?_⟩
 .have:X.length+1+(s-X.length-1)=s:=acs
  rw[this];exact es
 .intro y hy;obtain⟨i,hi,rfl⟩:=abF.1 hy;have:=hs1 (X.length+1+i) acs acs;rw[gQ _ acs acs]at this;have e:X.length+1+i-X.length-1=i:=acs
  simpa only[e]using this
 .intro y hy;obtain⟨i,hi,rfl⟩:=abG.1 hy;have:=hs2 (X.length+1+(s-X.length-1+i)) acs acs;rw[gQ _ acs acs]at this;have e:X.length+1+(s-X.length-1+i)-X.length-1=s-X.length-1+i:=acs
  simp only[e]at this;omega
end
variable{x:aS}
section
variable{X P Q Y L:List aS}{W:iq}{key:aS->Int}{V:aS->Prop}
theorem VB(F:fB){Z:List aS}(hl:X.length+Q1.length<=400000) :
  Da F (((X.length+1+Q1.length:Nat):Int),(X.length:Int),X++(x::(Q1++Z)),W)=some (X++(Q1++(x::Z)),W):=by
 unfold Da;have w0:mt (((X.length+1+Q1.length:Nat):Int)-1)=((X.length+Q1.length:Nat):Int):=cN acs acs;refine ez (fun t:Nat=>(((X.length+1+Q1.length:Nat):Int),((X.length+t:Nat):Int),X++(Q1.take t++(x::(Q1.drop t++Z))),W)) Q1.length rfl ?_ ?_ acx
 .intro t ht
  try dsimp only
  unfold wH;refine aA (au (by rw[w0];omega)) ?_;refine Pb (X:=X++Q1.take t) (p:=x) (M:=[]) (q:=Q1[t]) (Y:=Q1.drop (t+1)++Z) (u:=X.length+t) (v:=X.length+t+1) ?_ ?_ ?_ rfl ?_ (fun hset=>?_)
  .rw[xl ht];grind
  .simp;omega
  .simp;omega
  .exact cN acs acs
  .refine an (au rfl) (an (au rfl) ?_);have e:∀(u v:Int) (A B:List aS),u=v->A=B->(acB (((X.length+1+Q1.length:Nat):Int),u,A,W):am wx wh)=acB (((X.length+1+Q1.length:Nat):Int),v,B,W):=by rintro _ _ _ _ rfl rfl;rfl
   refine e _ _ _ _ (show mt (((X.length+t:Nat):Int)+1)=((X.length+(t+1):Nat):Int)from cN acs acs) (hset.trans ?_);rw[abo ht];simp only[bJ,PP,LT]
 .try dsimp only
  unfold wH;refine ao (aq (by rw[w0];omega)) ?_;have e1:Q1.drop Q1.length=[]:=aaU (ol _);have e2:Q1.take Q1.length=Q1:=By (ol _);rw[e1,e2];rfl
theorem UH(C:jw W key V)(F:fB)(hL:L=X++(P++([x]++Y)))(hl:L.length<=400000)(hp:dj key P)(hx:V x)(hP:∀y∈P,V y) :
  ∃k,k<=P.length/\Np F (((X.length+P.length:Nat):Int),(X.length:Int),((X.length+P.length:Nat):Int),L,W)=some (((X.length+P.length:Nat):Int),((X.length+k:Nat):Int),L,W)/\(∀y∈P.take k,key y<=key x)/\∀y∈P.drop k,key x<key y:=by
 have hlen:=vq hL;simp only[cq,BT]at hlen;have gP:∀c,(h0:X.length<=c)->(h:c<X.length+P.length)->gt af L (c:Int)=P[c-X.length]' acs:=fun c h1 h2=>xz hL (t:=c-X.length) acs acs;have gx:gt af L ((X.length+P.length:Nat):Int)=x:=xA hL (t:=0) acv rfl;have step:∀i j:Nat,X.length<=i->i<j->j<=X.length+P.length->∃c:Int,(c<0↔key x<key (gt af L (((i+j) / 2:Nat):Int))) /\
   pO iX ((X.length+P.length:Nat):Int) (i:Int) (j:Int) L W.1 W.2.1 W.2.2.1 W.2.2.2.1 W.2.2.2.2.1 W.2.2.2.2.2.1 W.2.2.2.2.2.2.1 W.2.2.2.2.2.2.2.1 W.2.2.2.2.2.2.2.2.1 W.2.2.2.2.2.2.2.2.2.1 W.2.2.2.2.2.2.2.2.2.2.1 =
    br (Bool.not (iL c 0)) (acB (((X.length+P.length:Nat):Int),(((i+j) / 2+1:Nat):Int),(j:Int),L,W)) (acB (((X.length+P.length:Nat):Int),(i:Int),(((i+j) / 2:Nat):Int),L,W)):=by
  intro i j h1 h2 h3;have hw:hf (i:Int) (j:Int)=(((i+j) / 2:Nat):Int):=xw acs;have gh:=gP ((i+j) / 2) acs acs;obtain⟨c,e1,e2⟩:=C.cmp L (gt af L ((X.length+P.length:Nat):Int)) (gt af L (((i+j) / 2:Nat):Int)) (by rw[gx];exact hx) (by rw[gh];exact hP _ (AT _));refine⟨c,by rw[<-gx];exact e2,?_⟩;have i1:al (hf (i:Int) (j:Int)) L.length=true:=by rw[hw];exact acy
  have i2:al ((X.length+P.length:Nat):Int) L.length=true:=acy;have e1':iX ((gt af L ((X.length+P.length:Nat):Int)).1,(gt af L ((X.length+P.length:Nat):Int)).2.1,(gt af L ((X.length+P.length:Nat):Int)).2.2.1,(gt af L (hf (i:Int) (j:Int))).1,(gt af L (hf (i:Int) (j:Int))).2.1,(gt af L (hf (i:Int) (j:Int))).2.2.1,kq W L)=some (c,kq W L):=by rw[hw];exact e1
  unfold pO;refine aA (au (show(i:Int)<(j:Int) by omega)) (an i2 (an i1 (aO e1' ?_)));have e:∀(u v u' v':Int),u=u'->v=v'->(br (Bool.not (iL c 0)) (acB (((X.length+P.length:Nat):Int),u,(j:Int),L,W)) (acB (((X.length+P.length:Nat):Int),(i:Int),v,L,W)):am wq wc)=br (Bool.not (iL c 0)) (acB (((X.length+P.length:Nat):Int),u',(j:Int),L,W)) (acB (((X.length+P.length:Nat):Int),(i:Int),v',L,W)):=by rintro _ _ _ _ rfl rfl;rfl
  exact e _ _ _ _ (by show mt (hf (i:Int) (j:Int)+1)=_;rw[hw];exact cN acs acs) hw
 obtain⟨s,s1,s2,es,hs1,hs2⟩:=EE (B:=fun d=>pO iX d.1 d.2.1 d.2.2.1 d.2.2.2.1 d.2.2.2.2.1 d.2.2.2.2.2.1 d.2.2.2.2.2.2.1 d.2.2.2.2.2.2.2.1 d.2.2.2.2.2.2.2.2.1 d.2.2.2.2.2.2.2.2.2.1 d.2.2.2.2.2.2.2.2.2.2.1 d.2.2.2.2.2.2.2.2.2.2.2.1 d.2.2.2.2.2.2.2.2.2.2.2.2.1 d.2.2.2.2.2.2.2.2.2.2.2.2.2.1 d.2.2.2.2.2.2.2.2.2.2.2.2.2.2.1)
  (fun i j:Nat=>(((X.length+P.length:Nat):Int),(i:Int),(j:Int),L,W)) (fun i:Nat=>(((X.length+P.length:Nat):Int),(i:Int),L,W)) (fun c=>¬key x<key (gt af L (c:Int))) (lo:=X.length) (hi:=X.length+P.length) acs acs
  (fun c d h1 h2 h3 hd=>by rw[gP d acs h3]at hd;rw[gP c h1 acs];have:=nk hp (i:=c-X.length) (j:=d-X.length) acs acs;omega)
  (fun i j h1 h2 h3 hp=>by obtain⟨c,hc,e⟩:=step i j h1 h2 h3;exact e.trans (dY (rj (aq (fun q=>hp (hc.1 q))))))
  (fun i j h1 h2 h3 hp=>by obtain⟨c,hc,e⟩:=step i j h1 h2 h3;exact e.trans (cV (Bm (au (hc.2 (Classical.not_not.1 hp))))))
  (fun i h1 h2=>by
   try dsimp only
   unfold pO;exact ao (aq (show ¬(i:Int)<(i:Int) by omega)) rfl)
 refine⟨s-X.length,acs,?_,?_,?_⟩
 .have:X.length+(s-X.length)=s:=acs
  rw[this];exact es
 .intro y hy;obtain⟨i,hi,rfl⟩:=abF.1 hy;have:=hs1 (X.length+i) acs acs;rw[gP _ acs acs]at this;have e:X.length+i-X.length=i:=acs
  simp only[e]at this;omega
 .intro y hy;obtain⟨i,hi,rfl⟩:=abG.1 hy;have:=hs2 (X.length+(s-X.length+i)) acs acs;rw[gP _ acs acs]at this;have e:X.length+(s-X.length+i)-X.length=s-X.length+i:=acs
  simp only[e]at this;omega
theorem UI(F:fB)(hl:X.length+P1.length+P2.length<=400000) :
  CY F (((X.length+P1.length:Nat):Int),((X.length+P1.length+P2.length:Nat):Int),X++(P1++(P2++(x::Y))),W)=some (X++(P1++(x::(P2++Y))),W):=by
 unfold CY;refine ez (fun t:Nat=>(((X.length+P1.length:Nat):Int),((X.length+P1.length+(P2.length-t):Nat):Int),X++(P1++(P2.take (P2.length-t)++(x::(P2.drop (P2.length-t)++Y)))),W)) P2.length ?_ ?_ ?_ acx
 .have e1:P2.drop P2.length=[]:=aaU (ol _);have e2:P2.take P2.length=P2:=By (ol _);simp only[Nat.sub_zero,e1,e2];rfl
 .intro t ht
  try dsimp only
  unfold wC;obtain⟨j,hj⟩:∃j,P2.length-t=j+1:=⟨P2.length-t-1,acs⟩;have hj':P2.length-(t+1)=j:=acs
  have hjl:j<P2.length:=acs
  rw[hj,hj'];have w1:mt (((X.length+P1.length+(j+1):Nat):Int)-1)=((X.length+P1.length+j:Nat):Int):=cN acs acs;refine aA acA ?_;refine Pc (X:=X++(P1++P2.take j)) (q:=P2[j]) (p:=x) (Y:=P2.drop (j+1)++Y) (v:=X.length+P1.length+j) (u:=X.length+P1.length+(j+1)) ?_ ?_ rfl rfl w1 (fun hset=>?_)
  .rw[abo hjl];simp only[bJ,PP,LT]
  .simp;omega
  .refine an (au rfl) (an (au rfl) ?_);have e:∀(u v:Int) (A B:List aS),u=v->A=B->(acB (((X.length+P1.length:Nat):Int),u,A,W):am wo wb)=acB (((X.length+P1.length:Nat):Int),v,B,W):=by rintro _ _ _ _ rfl rfl;rfl
   refine e _ _ _ _ w1 (hset.trans ?_);rw[xl hjl];simp only[bJ,PP,LT]
 .try dsimp only
  unfold wC;rw[Nat.sub_self];exact ao acz rfl
end
section
variable{X P Q Y L:List aS}{W:iq}{key:aS->Int}{V:aS->Prop}
theorem Jz(C:jw W key V)(F:fB)(hL:L=X++(P++(Q++Y)))(hl:L.length<=400000)(hp:dj key P)(hq:dj key Q)(hP:∀y∈P,V y)(hQ:∀y∈Q,V y)(a m b mid n:Int){p:Nat}
  (h1:X.length<=lo) (h2:lo<=hi) (h3:hi<=X.length+P.length) (h4:hi+X.length+P.length<=p+1) (h5:p<X.length+P.length+Q.length+lo) :
  ∃s,lo<=s/\s<=hi/\wz F (a,m,b,mid,n,(lo:Int),(hi:Int),(p:Int),L,W)=some (a,m,b,mid,n,(s:Int),L,W) /\
   (∀c,lo<=c->c<s->¬key (gt af L ((p-c:Nat):Int))<key (gt af L (c:Int)))/\∀c,s<=c->c<hi->key (gt af L ((p-c:Nat):Int))<key (gt af L (c:Int)):=by
 have hlen:=vq hL;have gP:∀c,(h0:X.length<=c)->(h:c<X.length+P.length)->gt af L (c:Int)=P[c-X.length]' acs:=fun c h1 h2=>xz hL (t:=c-X.length) acs acs;have gQ:∀c,(h0:X.length+P.length<=c)->(h:c<X.length+P.length+Q.length)->gt af L (c:Int)=Q[c-X.length-P.length]' acs:=fun c h1 h2=>xA hL (t:=c-X.length-P.length) acs acs;have step:∀i j:Nat,lo<=i->i<j->j<=hi->∃c:Int,(c<0↔key (gt af L ((p-(i+j) / 2:Nat):Int))<key (gt af L (((i+j) / 2:Nat):Int))) /\
   pN iX a m b mid n (i:Int) (j:Int) (p:Int) L W.1 W.2.1 W.2.2.1 W.2.2.2.1 W.2.2.2.2.1 W.2.2.2.2.2.1 W.2.2.2.2.2.2.1 W.2.2.2.2.2.2.2.1 W.2.2.2.2.2.2.2.2.1 W.2.2.2.2.2.2.2.2.2.1 W.2.2.2.2.2.2.2.2.2.2.1 =
    br (Bool.not (iL c 0)) (acB (a,m,b,mid,n,(((i+j) / 2+1:Nat):Int),(j:Int),(p:Int),L,W)) (acB (a,m,b,mid,n,(i:Int),(((i+j) / 2:Nat):Int),(p:Int),L,W)):=by
  intro i j q1 q2 q3;have hw:hf (i:Int) (j:Int)=(((i+j) / 2:Nat):Int):=xw acs;have hv:mt ((p:Int)-hf (i:Int) (j:Int))=((p-(i+j) / 2:Nat):Int):=by rw[hw];exact cN acs acs
  have gh:=gP ((i+j) / 2) acs acs;have gv:=gQ (p-(i+j) / 2) acs acs;obtain⟨c,e1,e2⟩:=C.cmp L (gt af L ((p-(i+j) / 2:Nat):Int)) (gt af L (((i+j) / 2:Nat):Int)) (by rw[gv];exact hQ _ (AT _)) (by rw[gh];exact hP _ (AT _));refine⟨c,e2,?_⟩;have i1:al (hf (i:Int) (j:Int)) L.length=true:=by rw[hw];exact acy
  have i2:al (mt ((p:Int)-hf (i:Int) (j:Int))) L.length=true:=by rw[hv];exact acy
  have e1':iX ((gt af L (mt ((p:Int)-hf (i:Int) (j:Int)))).1,(gt af L (mt ((p:Int)-hf (i:Int) (j:Int)))).2.1,(gt af L (mt ((p:Int)-hf (i:Int) (j:Int)))).2.2.1,(gt af L (hf (i:Int) (j:Int))).1,(gt af L (hf (i:Int) (j:Int))).2.1,(gt af L (hf (i:Int) (j:Int))).2.2.1,kq W L)=some (c,kq W L):=by rw[hv,hw];exact e1
  unfold pN;refine aA (au (show(i:Int)<(j:Int) by omega)) (an i2 (an i1 (aO e1' ?_)));have e:∀(u v u' v':Int),u=u'->v=v'->(br (Bool.not (iL c 0)) (acB (a,m,b,mid,n,u,(j:Int),(p:Int),L,W))  (acB (a,m,b,mid,n,(i:Int),v,(p:Int),L,W)):am wj rV)=br (Bool.not (iL c 0)) (acB (a,m,b,mid,n,u',(j:Int),(p:Int),L,W))  (acB (a,m,b,mid,n,(i:Int),v',(p:Int),L,W)):=by rintro _ _ _ _ rfl rfl;rfl
  exact e _ _ _ _ (by show mt (hf (i:Int) (j:Int)+1)=_;rw[hw];exact cN acs acs) hw
 obtain⟨s,s1,s2,es,hs1,hs2⟩:=EE (B:=fun d=>pN iX d.1 d.2.1 d.2.2.1 d.2.2.2.1 d.2.2.2.2.1 d.2.2.2.2.2.1 d.2.2.2.2.2.2.1 d.2.2.2.2.2.2.2.1 d.2.2.2.2.2.2.2.2.1 d.2.2.2.2.2.2.2.2.2.1 d.2.2.2.2.2.2.2.2.2.2.1 d.2.2.2.2.2.2.2.2.2.2.2.1 d.2.2.2.2.2.2.2.2.2.2.2.2.1 d.2.2.2.2.2.2.2.2.2.2.2.2.2.1 d.2.2.2.2.2.2.2.2.2.2.2.2.2.2.1 d.2.2.2.2.2.2.2.2.2.2.2.2.2.2.2.1 d.2.2.2.2.2.2.2.2.2.2.2.2.2.2.2.2.1 d.2.2.2.2.2.2.2.2.2.2.2.2.2.2.2.2.2.1 d.2.2.2.2.2.2.2.2.2.2.2.2.2.2.2.2.2.2.1 d.2.2.2.2.2.2.2.2.2.2.2.2.2.2.2.2.2.2.2.1)
  (fun i j:Nat=>(a,m,b,mid,n,(i:Int),(j:Int),(p:Int),L,W)) (fun i:Nat=>(a,m,b,mid,n,(i:Int),L,W)) (fun c=>¬key (gt af L ((p-c:Nat):Int))<key (gt af L (c:Int))) (lo:=lo) (hi:=hi) h2 acs
  (fun c d q1 q2 q3 hd=>by rw[gP d acs acs,gQ (p-d) acs acs]at hd;rw[gP c acs acs,gQ (p-c) acs acs];have g1:=nk hp (i:=c-X.length) (j:=d-X.length) acs acs;have g2:=nk hq (i:=p-d-X.length-P.length) (j:=p-c-X.length-P.length) acs acs;omega)
  (fun i j q1 q2 q3 hp=>by obtain⟨c,hc,e⟩:=step i j q1 q2 q3;exact e.trans (dY (rj (aq (fun q=>hp (hc.1 q))))))
  (fun i j q1 q2 q3 hp=>by obtain⟨c,hc,e⟩:=step i j q1 q2 q3;exact e.trans (cV (Bm (au (hc.2 (Classical.not_not.1 hp))))))
  (fun i q1 q2=>by
   try dsimp only
   unfold pN;exact ao (aq (show ¬(i:Int)<(i:Int) by omega)) rfl)
 exact⟨s,s1,s2,es,hs1,fun c q1 q2=>Classical.not_not.1 (hs2 c q1 q2)⟩
theorem UL(hL:L=X++(P++(Q++Y)))(hp:dj key P)(hq:dj key Q){mid s:Nat}(hmid:mid=(X.length+X.length+P.length+Q.length) / 2)(hP2:2<=P.length)(hQ2:2<=Q.length)
  (hlo:(mid<X.length+P.length/\lo=mid+(X.length+P.length)-(X.length+P.length+Q.length)/\hi=mid)\/(X.length+P.length<=mid/\lo=X.length/\hi=X.length+P.length)) (h1:lo<=s) (h2:s<=hi)
  (g1:∀c,lo<=c->c<s->¬key (gt af L ((mid+(X.length+P.length)-1-c:Nat):Int))<key (gt af L (c:Int))) (g2:∀c,s<=c->c<hi->key (gt af L ((mid+(X.length+P.length)-1-c:Nat):Int))<key (gt af L (c:Int))) :
  (∀x∈P.take (s-X.length),∀y∈Q.drop (mid-s),key x<=key y)/\∀x∈P.drop (s-X.length),∀y∈Q.take (mid-s),key y<key x:=by
 have gP:∀c,(h0:X.length<=c)->(h:c<X.length+P.length)->gt af L (c:Int)=P[c-X.length]' acs:=fun c h1 h2=>xz hL (t:=c-X.length) acs acs;have gQ:∀c,(h0:X.length+P.length<=c)->(h:c<X.length+P.length+Q.length)->gt af L (c:Int)=Q[c-X.length-P.length]' acs:=fun c h1 h2=>xA hL (t:=c-X.length-P.length) acs acs;constructor
 .intro x hx y hy;obtain⟨i,hi',rfl⟩:=abF.1 hx;obtain⟨j,hj,rfl⟩:=abG.1 hy;have hs:lo<s:=acs
  have q:=g1 (s-1) acs acs;rw[gP (s-1) acs acs,gQ (mid+(X.length+P.length)-1-(s-1)) acs acs]at q;have r1:=nk hp (i:=i) (j:=s-1-X.length) acs acs;have r2:=nk hq (i:=mid+(X.length+P.length)-1-(s-1)-X.length-P.length) (j:=mid-s+j) acs acs;omega
 .intro x hx y hy;obtain⟨i,hi',rfl⟩:=abG.1 hx;obtain⟨j,hj,rfl⟩:=abF.1 hy;have hs:s<hi:=acs
  have q:=g2 s acs acs;rw[gP s acs acs,gQ (mid+(X.length+P.length)-1-s) acs acs]at q;have r1:=nk hp (i:=s-X.length) (j:=s-X.length+i) acs acs;have r2:=nk hq (i:=j) (j:=mid+(X.length+P.length)-1-s-X.length-P.length) acs acs;omega
set_option maxHeartbeats 4000000
theorem Tw(C:jw W key V)(ih:py W key V (ic k) k):py W key V (ic (k+1)) (k+1):=by
 intro X P Q Y L A M B hp0 hq0 hk eA eM eB hL hl hp hq hP hQ;subst eA;subst eM;subst eB;have hlen:=vq hL;show ∃R,rU iX (ic k) wS (NA (ic k)) (Da (ic k)) (Np (ic k)) (CY (ic k)) (wz (ic k))
  (X.length:Int) ((X.length+P.length:Nat):Int) ((X.length+P.length+Q.length:Nat):Int) L W.1 W.2.1 W.2.2.1 W.2.2.2.1 W.2.2.2.2.1 W.2.2.2.2.2.1 W.2.2.2.2.2.2.1 W.2.2.2.2.2.2.2.1 W.2.2.2.2.2.2.2.2.1 W.2.2.2.2.2.2.2.2.2.1 W.2.2.2.2.2.2.2.2.2.2.1=some (X++(R++Y),W)/\_
 have wP:mt (((X.length+P.length:Nat):Int)-(X.length:Int))=(P.length:Int):=cN acs acs;have wQ:mt (((X.length+P.length+Q.length:Nat):Int)-((X.length+P.length:Nat):Int))=(Q.length:Int):=cN acs acs;rcases rt 1 P.length with a1|a1
 .rcases rt 1 Q.length with a2|a2
  .-- two stretches of two at least
   obtain⟨mid,hmid⟩:∃mid,mid=(X.length+X.length+P.length+Q.length) / 2:=⟨_,rfl⟩;have hw:hf (X.length:Int) ((X.length+P.length+Q.length:Nat):Int)=(mid:Int):=by rw[xw acs,hmid];congr 2;omega
   have w1:mt (hf (X.length:Int) ((X.length+P.length+Q.length:Nat):Int)+((X.length+P.length:Nat):Int))=((mid+(X.length+P.length):Nat):Int):=by rw[hw];exact cN acs acs
   have w2:mt (mt (hf (X.length:Int) ((X.length+P.length+Q.length:Nat):Int)+((X.length+P.length:Nat):Int))-1)=((mid+(X.length+P.length)-1:Nat):Int):=by rw[w1];exact cN acs acs
   have tail:∀lo hi s:Nat,((mid<X.length+P.length/\lo=mid+(X.length+P.length)-(X.length+P.length+Q.length)/\hi=mid)\/(X.length+P.length<=mid/\lo=X.length/\hi=X.length+P.length))->lo<=s->s<=hi ->
     (∀c,lo<=c->c<s->¬key (gt af L ((mid+(X.length+P.length)-1-c:Nat):Int))<key (gt af L (c:Int)))->(∀c,s<=c->c<hi->key (gt af L ((mid+(X.length+P.length)-1-c:Nat):Int))<key (gt af L (c:Int))) ->
     ∃R,E8 (ic k) (X.length:Int) ((X.length+P.length:Nat):Int) ((X.length+P.length+Q.length:Nat):Int) (mid:Int) (s:Int) (mt (((mid+(X.length+P.length):Nat):Int)-(s:Int))) (L,W)=some (X++(R++Y),W)/\bR key (P++Q) R:=by
    intro lo hi s hlh s1 s2 g1 g2;obtain⟨c1,c2⟩:=UL hL hp hq hmid a1 a2 hlh s1 s2 g1 g2;have tP:(P.take (s-X.length)).length=s-X.length:=by rw[ep];omega
    have dP:(P.drop (s-X.length)).length=P.length-(s-X.length):=by rw[abt]
    have tQ:(Q.take (mid-s)).length=mid-s:=by rw[ep];omega
    have dQ:(Q.drop (mid-s)).length=Q.length-(mid-s):=by rw[abt]
    have eP:P.take (s-X.length)++P.drop (s-X.length)=P:=EQ _ _;have eQ:Q.take (mid-s)++Q.drop (mid-s)=Q:=EQ _ _;obtain⟨R,r1,r2⟩:=Uv (W:=W) (V:=V) ih (X:=X) (P1:=P.take (s-X.length)) (P2:=P.drop (s-X.length)) (Q1:=Q.take (mid-s)) (Q2:=Q.drop (mid-s)) (Y:=Y) (L:=L) (a:=(X.length:Int)) (m:=((X.length+P.length:Nat):Int)) (b:=((X.length+P.length+Q.length:Nat):Int)) (mid:=(mid:Int)) (s:=(s:Int)) (e:=mt (((mid+(X.length+P.length):Nat):Int)-(s:Int)))
     rfl (by rw[tP];omega) (by rw[tP,dP];omega) (by rw[tP,tQ];omega) (by rw[tP,tQ,dP];exact cN acs acs) (by rw[tP,tQ,dP,dQ];omega) (by
      rw[hL]
      conv=>lhs;rw[<-eP,<-eQ]
      simp only[bJ]) hl (by rw[tP,tQ];omega) (by rw[dP,dQ];omega) (by rw[eP];exact hp) (by rw[eQ];exact hq) (by rw[eP];exact hP) (by rw[eQ];exact hQ) c1 c2
    rw[eP,eQ]at r2;exact⟨R,r1,r2⟩
   unfold rU;rcases rt mid (X.length+P.length)with b1|b1
   .have w3:mt (mt (hf (X.length:Int) ((X.length+P.length+Q.length:Nat):Int)+((X.length+P.length:Nat):Int))-((X.length+P.length+Q.length:Nat):Int))=((mid+(X.length+P.length)-(X.length+P.length+Q.length):Nat):Int):=by rw[w1];exact cN acs acs
    obtain⟨s,s1,s2,es,g1,g2⟩:=Jz C (ic k) hL hl hp hq hP hQ (X.length:Int) ((X.length+P.length:Nat):Int) ((X.length+P.length+Q.length:Nat):Int) (mid:Int) ((mid+(X.length+P.length):Nat):Int) (lo:=mid+(X.length+P.length)-(X.length+P.length+Q.length)) (hi:=mid) (p:=mid+(X.length+P.length)-1) acs acs acs acs acs;obtain⟨R,r1,r2⟩:=tail _ _ s (.inl ⟨b1,rfl,rfl⟩) s1 s2 g1 g2;have es':wz (ic k) ((X.length:Int),((X.length+P.length:Nat):Int),((X.length+P.length+Q.length:Nat):Int),hf (X.length:Int) ((X.length+P.length+Q.length:Nat):Int),mt (hf (X.length:Int) ((X.length+P.length+Q.length:Nat):Int)+((X.length+P.length:Nat):Int)),mt (mt (hf (X.length:Int) ((X.length+P.length+Q.length:Nat):Int)+((X.length+P.length:Nat):Int))-((X.length+P.length+Q.length:Nat):Int)),
     hf (X.length:Int) ((X.length+P.length+Q.length:Nat):Int),mt (mt (hf (X.length:Int) ((X.length+P.length+Q.length:Nat):Int)+((X.length+P.length:Nat):Int))-1),L,W)=some ((X.length:Int),((X.length+P.length:Nat):Int),((X.length+P.length+Q.length:Nat):Int),(mid:Int),((mid+(X.length+P.length):Nat):Int),(s:Int),L,W):=by rw[w2,w3,w1,hw];exact es
    refine⟨R,ao (aq (by rw[wP];omega)) (ao (aq (by rw[wQ];omega)) (aA (au (show hf (X.length:Int) ((X.length+P.length+Q.length:Nat):Int)<((X.length+P.length:Nat):Int) by rw[hw];omega)) (aO es' ?_))),r2⟩;exact r1
   .obtain⟨s,s1,s2,es,g1,g2⟩:=Jz C (ic k) hL hl hp hq hP hQ (X.length:Int) ((X.length+P.length:Nat):Int) ((X.length+P.length+Q.length:Nat):Int) (mid:Int) ((mid+(X.length+P.length):Nat):Int) (lo:=X.length) (hi:=X.length+P.length) (p:=mid+(X.length+P.length)-1) acs acs acs acs acs;obtain⟨R,r1,r2⟩:=tail _ _ s (.inr ⟨b1,rfl,rfl⟩) s1 s2 g1 g2;have es':wz (ic k) ((X.length:Int),((X.length+P.length:Nat):Int),((X.length+P.length+Q.length:Nat):Int),hf (X.length:Int) ((X.length+P.length+Q.length:Nat):Int),mt (hf (X.length:Int) ((X.length+P.length+Q.length:Nat):Int)+((X.length+P.length:Nat):Int)),(X.length:Int),
     ((X.length+P.length:Nat):Int),mt (mt (hf (X.length:Int) ((X.length+P.length+Q.length:Nat):Int)+((X.length+P.length:Nat):Int))-1),L,W)=some ((X.length:Int),((X.length+P.length:Nat):Int),((X.length+P.length+Q.length:Nat):Int),(mid:Int),((mid+(X.length+P.length):Nat):Int),(s:Int),L,W):=by rw[w2,w1,hw];exact es
    refine⟨R,ao (aq (by rw[wP];omega)) (ao (aq (by rw[wQ];omega)) (ao (aq (show ¬hf (X.length:Int) ((X.length+P.length+Q.length:Nat):Int)<((X.length+P.length:Nat):Int) by rw[hw];omega)) (aO es' ?_))),r2⟩;exact r1
  .-- one behind
   obtain⟨x,rfl⟩:∃x,Q=[x]:=List.length_eq_one_iff.1 acs;have hx:=hQ x acv;obtain⟨j,j1,e15,g1,g2⟩:=UH C (ic k) hL hl hp hx hP;have tP:(P.take j).length=j:=by rw[ep];omega
   have dP:(P.drop j).length=P.length-j:=by rw[abt]
   have eP:P.take j++P.drop j=P:=EQ _ _;have e21:=UI (W:=W) (Y:=Y) (ic k) (X:=X) (x:=x) (P1:=P.take j) (P2:=P.drop j) acs;have eL:X++(P.take j++(P.drop j++(x::Y)))=L:=by rw[hL,<-bJ (P.take j),eP];rfl
   rw[eL,tP,dP]at e21;have em:X.length+j+(P.length-j)=X.length+P.length:=acs
   rw[em]at e21;unfold rU;refine⟨(P.take j++[x])++P.drop j,ao (aq (by rw[wP];omega)) (aA (au (by rw[wQ];rfl)) (aO e15 (aO e21 ?_))),?_⟩
   .refine(abp (fun l:List aS=>(some (l,W):ow)) ?_);simp only[bJ,PP,LT]
   .have sp:=Pl.j3.1 (by rw[eP];exact hp:dj key (P.take j++P.drop j));have:=xr (key:=key) (P1:=P.take j) (P2:=P.drop j) (Q1:=[x]) (Q2:=[]) (R1:=P.take j++[x]) (R2:=P.drop j) (by rw[eP];exact hp) (by rw[dE];exact hq) (fun _ _ y hy=>by cases hy) (fun y hy z hz=>by simp at hz;subst hz;exact g2 y hy)
     (bR.refl (Pl.j3.2 ⟨sp.1,hq,fun y hy z hz=>by simp at hz;subst hz;exact g1 y hy⟩)) (by rw[dE];exact bR.refl sp.2.1)
    rw[eP,dE]at this;exact this
 .-- one ahead
  obtain⟨x,rfl⟩:∃x,P=[x]:=List.length_eq_one_iff.1 acs;have hx:=hP x acv;obtain⟨j,j1,e3,g1,g2⟩:=VA C (ic k) hL hl hq hx hQ;have tQ:(Q.take j).length=j:=by rw[ep];omega
  have eQ:Q.take j++Q.drop j=Q:=EQ _ _;have e9:=VB (W:=W) (ic k) (X:=X) (x:=x) (Q1:=Q.take j) (Z:=Q.drop j++Y) acs;have eL:X++(x::(Q.take j++(Q.drop j++Y)))=L:=by rw[hL,<-bJ (Q.take j),eQ];rfl
  rw[eL,tQ]at e9;unfold rU;refine⟨Q.take j++(x::Q.drop j),aA (au (by rw[wP];rfl)) (aO e3 (aO e9 ?_)),?_⟩
  .refine(abp (fun l:List aS=>(some (l,W):ow)) ?_);simp only[bJ,PP]
  .have sq:=Pl.j3.1 (by rw[eQ];exact hq:dj key (Q.take j++Q.drop j));have:=xr (key:=key) (P1:=[]) (P2:=[x]) (Q1:=Q.take j) (Q2:=Q.drop j) (R1:=Q.take j) (R2:=x::Q.drop j) hp (by rw[eQ];exact hq) (fun y hy=>by cases hy) (fun y hy z hz=>by simp at hy;subst hy;exact g1 z hz)
    (bR.refl sq.1) (bR.refl (Pl.EH.2 ⟨g2,sq.2.1⟩))
   rw[eQ]at this;exact this
theorem J1(C:jw W key V):∀k,py W key V (ic k) k
 |0=>by intro X P Q Y L A M B h1 h2 h3;omega|k+1=>Tw C (J1 C k)
theorem Pa(C:jw W key V):py W key V Db 1000000:=by intro X P Q Y L A M B h1 h2 h3;exact J1 C NN X P Q Y L A M B h1 h2 (pp h3 (Nat.le_of_lt acx))
end
open Pl (bR dj)
abbrev gL:=List (List aS×List aS)
def f0(bl:gL):List aS:=bl.flatMap (·.1)
def f1(bl:gL):List aS:=bl.flatMap (·.2)
def eF(key:aS->Int)(bs:Nat)(bl:gL):Prop:=∀p∈bl,p.1.length=bs/\bR key p.1 p.2
theorem JL(a b:gL):f0 (a++b)=f0 a++f0 b:=by unfold f0;simp
theorem JM(a b:gL):f1 (a++b)=f1 a++f1 b:=by unfold f1;simp
theorem pU(p:List aS×List aS)(b:gL):f0 (p::b)=p.1++f0 b:=rfl
theorem EK(p:List aS×List aS)(b:gL):f1 (p::b)=p.2++f1 b:=rfl
theorem se(p:List aS×List aS):f1 [p]=p.2:=by simp[f1]
theorem sf(p:List aS×List aS):f0 [p]=p.1:=by simp[f0]
section
variable{W:iq}{key:aS->Int}{V:aS->Prop}
theorem eF.mq{bs:Nat}:∀{bl:gL},eF key bs bl->(f0 bl).length=bl.length*bs
 |[],_=>by simp[f0]|p::bl,h=>by rw[pU,aP,(h p acv).1,eF.mq (fun q hq=>h q (by simp[hq])),cq,Ne];omega
theorem eF.mr{bs:Nat}:∀{bl:gL},eF key bs bl->(f1 bl).length=bl.length*bs
 |[],_=>by simp[f1]|p::bl,h=>by rw[EK,aP,(h p acv).2.len,(h p acv).1,eF.mr (fun q hq=>h q (by simp[hq])),cq,Ne];omega
theorem eF.app{bs:Nat}{a b:gL}(h:eF key bs a)(g:eF key bs b):eF key bs (a++b):=by
 intro p hp;rcases AC.1 hp with q|q
 .exact h p q
 .exact g p q
theorem eF.one{bs:Nat}{A A':List aS}(h:A.length=bs)(g:bR key A A'):eF key bs [(A,A')]:=by
 intro p hp
 grind
theorem Pd{A A' B B' R:List aS}(ha:bR key A A')(hb:bR key B B')(h:bR key (A'++B') R):bR key (A++B) R:=bR.Kh (by simp only[aP,ha.len,hb.len]) (fun k=>by rw[Pl.jG,Pl.jG,ha.mU,hb.mU]) h
theorem Us(C:jw W key V)(hl:S.length<=400000)(hV:∀x∈S,V x) :
  ∃o,NJ ((S.length:Int),(20:Int),(0:Int),(20:Int),S,W)=some o/\∃(bl:gL) (R:List aS),o=((S.length:Int),(20:Int),((f1 bl).length:Int),f1 bl++R,W)/\eF key 20 bl/\S=f0 bl++R/\R.length<20:=by
 unfold NJ;delta u16 u4 dI dU;refine k9 (fun d=>∃(bl:gL) (R:List aS),d=((S.length:Int),(20:Int),((f1 bl).length:Int),(((f1 bl).length+20:Nat):Int),f1 bl++R,W)/\eF key 20 bl/\S=f0 bl++R)
  (fun o=>∃(bl:gL) (R:List aS),o=((S.length:Int),(20:Int),((f1 bl).length:Int),f1 bl++R,W)/\eF key 20 bl/\S=f0 bl++R/\R.length<20) (fun d=>S.length-d.2.2.1.toNat) ?_ NN _ ⟨[],S,rfl,(fun p hp=>by cases hp),rfl⟩ acx
 rintro d ⟨bl,R,rfl,hF,hS⟩;have l0:=hF.mq;have l1:=hF.mr;have hn:S.length=(f0 bl).length+R.length:=by rw[hS,aP]
 try dsimp only
 unfold Dv;rcases rt R.length 20 with q|q
 .left;exact⟨_,ao acz rfl,bl,R,rfl,hF,hS,q⟩
 .right;have eR:R.take 20++R.drop 20=R:=EQ _ _;have tR:(R.take 20).length=20:=by rw[ep];omega
  obtain⟨A',e1,hA⟩:=JP C (X:=f1 bl) (S:=R.take 20) (Y:=R.drop 20) (L:=f1 bl++R) (A:=((f1 bl).length:Int)) (B:=(((f1 bl).length+20:Nat):Int)) rfl (by rw[tR]) (by rw[eR]) (by rw[aP];omega) (fun y hy=>hV y (by rw[hS];simp[aaS hy]));have lA:A'.length=20:=hA.len.trans tR;have ef1:f1 (bl++[(R.take 20,A')])=f1 bl++A':=by rw[JM,se]
  refine⟨((S.length:Int),(20:Int),((f1 (bl++[(R.take 20,A')])).length:Int),(((f1 (bl++[(R.take 20,A')])).length+20:Nat):Int),f1 (bl++[(R.take 20,A')])++R.drop 20,W),?_,⟨_,R.drop 20,rfl,hF.app (eF.one tR hA),?_⟩,?_⟩
  .refine aA acA (aO e1 ?_);have e:∀(u v u' v':Int) (A B:List aS),u=u'->v=v'->A=B->(acB ((S.length:Int),(20:Int),u,v,A,W):am wL wG)=acB ((S.length:Int),(20:Int),u',v',B,W):=by rintro _ _ _ _ _ _ rfl rfl rfl;rfl
   refine e _ _ _ _ _ _ ?_ ?_ ?_
   .rw[ef1,aP,lA]
   .rw[ef1,aP,lA];exact cN acs acs
   .rw[ef1,bJ]
  .rw[JL,sf,bJ,eR];exact hS
  grind
theorem Uu(C:jw W key V)(hl:S.length<=400000)(hV:∀x∈S,V x){bs:Nat}(hbs:20<=bs)(hb2:bs<=400000){bl:gL}{R0 R:List aS}(hF:eF key bs bl)(hR:bR key R0 R)(hRl:R0.length<bs)(hS:S=f0 bl++R0) :
  ∃o,wN ((S.length:Int),(bs:Int),(0:Int),((2*bs:Nat):Int),f1 bl++R,W)=some o/\∃(ul bl:gL),o=((S.length:Int),(bs:Int),((f1 ul).length:Int),f1 ul++(f1 bl++R),W)/\eF key (2*bs) ul/\eF key bs bl/\S=f0 ul++(f0 bl++R0)/\(f1 bl).length+R.length<2*bs:=by
 unfold wN;delta u16 u4 dI dU;refine k9 (fun d=>∃(ul bl:gL),d=((S.length:Int),(bs:Int),((f1 ul).length:Int),(((f1 ul).length+2*bs:Nat):Int),f1 ul++(f1 bl++R),W)/\eF key (2*bs) ul/\eF key bs bl/\S=f0 ul++(f0 bl++R0))
  (fun o=>∃(ul bl:gL),o=((S.length:Int),(bs:Int),((f1 ul).length:Int),f1 ul++(f1 bl++R),W)/\eF key (2*bs) ul/\eF key bs bl/\S=f0 ul++(f0 bl++R0)/\(f1 bl).length+R.length<2*bs)
  (fun d=>S.length-d.2.2.1.toNat) ?_ NN _ ⟨[],bl,by show _=((S.length:Int),(bs:Int),((0:Nat):Int),((0+2*bs:Nat):Int),[]++(f1 bl++R),W);rw[acg];rfl,(fun p hp=>by cases hp),hF,hS⟩ acx
 rintro d ⟨ul,bl,rfl,hU,hF,hS⟩;have u0:=hU.mq;have u1:=hU.mr;have l0:=hF.mq;have l1:=hF.mr;have lR:=hR.len;have hn:S.length=(f0 ul).length+((f0 bl).length+R0.length):=by rw[hS,aP,aP]
 try dsimp only
 unfold Ds;rcases rt ((f1 bl).length+R.length) (2*bs)with q|q
 .left;exact⟨_,ao acz rfl,ul,bl,rfl,hU,hF,hS,q⟩
 .right
  match bl,hF,hS,l0,l1,hn,q with
  |[],hF,hS,l0,l1,hn,q=>simp[f1]at q;omega|[p],hF,hS,l0,l1,hn,q=>simp only[cq,BT]at l1;omega|p::p2::bl,hF,hS,l0,l1,hn,q=>
   obtain⟨hp1,hp2⟩:=hF p acv;obtain⟨hq1,hq2⟩:=hF p2 acv;have lp:=hp2.len;have lq:=hq2.len;have hF':eF key bs bl:=fun x hx=>hF x (by simp[hx]);have l0':=hF'.mq;have l1':=hF'.mr;have eL:f1 ul++(f1 (p::p2::bl)++R)=f1 ul++(p.2++(p2.2++(f1 bl++R))):=by rw[EK,EK];simp only[bJ]
   have lL:(f1 ul++(f1 (p::p2::bl)++R)).length<=400000:=by simp only[aP];omega
   obtain⟨R1,e1,hR1⟩:=Pa C (f1 ul) p.2 p2.2 (f1 bl++R) (f1 ul++(f1 (p::p2::bl)++R)) ((f1 ul).length:Int) (mt (((f1 ul).length:Int)+(bs:Int))) (((f1 ul).length+2*bs:Nat):Int) acs acs acs rfl (cN acs acs) acs eL lL hp2.lV hq2.lV
    (fun x hx=>hV x (by rw[hS,pU];simp[hp2.mem.1 hx])) (fun x hx=>hV x (by rw[hS,pU,pU];simp[hq2.mem.1 hx]))
   have lR1:R1.length=2*bs:=by rw[hR1.len,aP];omega
   have hSS:bR key (p.1++p2.1) R1:=Pd hp2 hq2 hR1;have ef1:f1 (ul++[(p.1++p2.1,R1)])=f1 ul++R1:=by rw[JM,se]
   refine⟨((S.length:Int),(bs:Int),((f1 (ul++[(p.1++p2.1,R1)])).length:Int),(((f1 (ul++[(p.1++p2.1,R1)])).length+2*bs:Nat):Int),f1 (ul++[(p.1++p2.1,R1)])++(f1 bl++R),W),?_,⟨_,bl,rfl,hU.app (eF.one (by rw[aP];omega) hSS),hF',?_⟩,?_⟩
   .refine aA (au (by simp only[cq]at *;omega)) (aO e1 ?_);have e:∀(u v u' v':Int) (A B:List aS),u=u'->v=v'->A=B->(acB ((S.length:Int),(bs:Int),u,v,A,W):am wJ wE)=acB ((S.length:Int),(bs:Int),u',v',B,W):=by rintro _ _ _ _ _ _ rfl rfl rfl;rfl
    refine e _ _ _ _ _ _ ?_ ?_ ?_
    .rw[ef1,aP,lR1]
    .rw[ef1,aP,lR1];have w2:mt ((2:Int)*(bs:Int))=((2*bs:Nat):Int):=cN acs acs;have:mt ((((f1 ul).length+2*bs:Nat):Int)+mt ((2:Int)*(bs:Int)))=(((f1 ul).length+2*bs+2*bs:Nat):Int):=by rw[w2];exact cN acs acs
     exact this
    .rw[ef1,bJ]
   .rw[JL,sf,hS,pU,pU];simp only[bJ]
   .show S.length-(((f1 (ul++[(p.1++p2.1,R1)])).length:Int)).toNat<S.length-(((f1 ul).length:Int)).toNat;rw[ef1,aP,lR1];simp only[cq]at *
    omega
end
variable{bl:gL}{R0:List aS}
section
variable{W:iq}{key:aS->Int}{V:aS->Prop}
theorem Ut(C:jw W key V)(hl:S.length<=100000)(hV:∀x∈S,V x){R:List aS}(hF:eF key 20 bl)(hR:bR key R0 R)(hRl:R0.length<20)(hS:S=f0 bl++R0) :
  ∃o,NI ((S.length:Int),(20:Int),f1 bl++R,W)=some o/\∃S',o=(S',W)/\bR key S S':=by
 unfold NI;delta kp u2 dI dU;refine k9 (fun d=>∃(bs:Nat) (bl:gL) (R0 R:List aS),d=((S.length:Int),(bs:Int),f1 bl++R,W)/\20<=bs/\bs<=400000/\eF key bs bl/\bR key R0 R/\R0.length<bs/\S=f0 bl++R0)
  (fun o=>∃S',o=(S',W)/\bR key S S') (fun d=>S.length-d.2.1.toNat) ?_ NN _ ⟨20,bl,R0,R,rfl,ol _,acw,hF,hR,hRl,hS⟩ acx
 rintro d ⟨bs,bl,R0,R,rfl,hbs,hb2,hF,hR,hRl,hS⟩;have l0:=hF.mq;have l1:=hF.mr;have lR:=hR.len;have hn:S.length=(f0 bl).length+R0.length:=by rw[hS,aP]
 try dsimp only
 unfold Du;rcases rt bs S.length with q|q
 .right;obtain⟨o,e9,ul,bl',rfl,hU,hF',hS',hlt⟩:=Uu C acs hV hbs hb2 hF hR hRl hS;have u0:=hU.mq;have u1:=hU.mr;have l0':=hF'.mq;have l1':=hF'.mr;have hn':S.length=(f0 ul).length+((f0 bl').length+R0.length):=by rw[hS',aP,aP]
  have w2:mt ((2:Int)*(bs:Int))=((2*bs:Nat):Int):=cN acs acs;have w3:mt ((bs:Int)*(2:Int))=((2*bs:Nat):Int):=cN acs acs;have wm:mt (((f1 ul).length:Int)+(bs:Int))=(((f1 ul).length+bs:Nat):Int):=cN acs acs;have e9':wN ((S.length:Int),(bs:Int),(0:Int),mt ((2:Int)*(bs:Int)),f1 bl++R,W)=some ((S.length:Int),(bs:Int),((f1 ul).length:Int),f1 ul++(f1 bl'++R),W):=by rw[w2];exact e9
  have e:∀(u u':Int) (A B:List aS),u=u'->A=B->(acB ((S.length:Int),u,A,W):am wK wF)=acB ((S.length:Int),u',B,W):=by rintro _ _ _ _ rfl rfl;rfl
  rcases rt bs ((f1 bl').length+R.length)with g|g
  .match bl',hF',hS',l0',l1',hn',hlt,g,e9' with
   |[],hF',hS',l0',l1',hn',hlt,g,e9'=>simp[f1]at g;omega|p::p2::bl',hF',hS',l0',l1',hn',hlt,g,e9'=>simp only[cq,Ne]at l1';omega|[p],hF',hS',l0',l1',hn',hlt,g,e9'=>
    obtain⟨hp1,hp2⟩:=hF' p acv;have lp:=hp2.len;rw[se]at g l1' hlt e9';rw[sf]at l0' hS' hn';simp only[cq,BT]at l1' l0';have lL:(f1 ul++(p.2++R)).length<=400000:=by simp only[aP];omega
    obtain⟨R1,e1,hR1⟩:=Pa C (f1 ul) p.2 R [] (f1 ul++(p.2++R)) ((f1 ul).length:Int) (mt (((f1 ul).length:Int)+(bs:Int))) (S.length:Int) acs acs acs rfl (by rw[wm];congr 2;omega) (by congr 1;omega) (by rw[dE]) lL hp2.lV hR.lV
     (fun x hx=>hV x (by rw[hS'];simp[hp2.mem.1 hx])) (fun x hx=>hV x (by rw[hS'];simp[hR.mem.1 hx]))
    refine⟨((S.length:Int),((2*bs:Nat):Int),f1 ul++R1,W),aA acA (aO e9' (aA (au (show mt (((f1 ul).length:Int)+(bs:Int))<(S.length:Int) by rw[wm];omega)) (aO e1 (e _ _ _ _ w3 (by rw[dE]))))),⟨2*bs,ul,p.1++R0,R1,rfl,acs,acs,hU,Pd hp2 hR hR1,by simp only[aP];omega,hS'⟩,?_⟩;show S.length-(((2*bs:Nat):Int)).toNat<S.length-((bs:Int)).toNat;omega
  .-- one block at most,and nothing behind it
   have hrest:bR key (f0 bl'++R0) (f1 bl'++R):=by
    match bl',hF',l1',g with
    |[],hF',l1',g=>exact hR|[p],hF',l1',g=>obtain⟨hp1,hp2⟩:=hF' p acv;rw[se]at g l1' |-;rw[sf];simp only[cq,BT]at l1';have h0:R0=[]:=ro acs;have h1:R=[]:=ro acs;rw[h0,h1,dE,dE];exact hp2
    |p::p2::bl',hF',l1',g=>simp only[cq,Ne]at l1';omega
   refine⟨((S.length:Int),((2*bs:Nat):Int),f1 ul++(f1 bl'++R),W),aA acA (aO e9' (ao (aq (show ¬mt (((f1 ul).length:Int)+(bs:Int))<(S.length:Int) by rw[wm];omega)) (e _ _ _ _ w3 rfl))),⟨2*bs,ul,f0 bl'++R0,f1 bl'++R,rfl,acs,acs,hU,hrest,by simp only[aP];omega,hS'⟩,?_⟩;show S.length-(((2*bs:Nat):Int)).toNat<S.length-((bs:Int)).toNat;omega
 .left;refine⟨(f1 bl++R,W),ao acz rfl,_,rfl,?_⟩;rw[hS]
  match bl,hF,l0,l1,hn with
  |[],hF,l0,l1,hn=>exact hR|[p],hF,l0,l1,hn=>obtain⟨hp1,hp2⟩:=hF p acv;rw[sf]at hn l0 |-;rw[se];simp only[cq,BT]at l0;have h0:R0=[]:=ro acs;have h1:R=[]:=ro acs;rw[h0,h1,dE,dE];exact hp2
  |p::p2::bl,hF,l0,l1,hn=>simp only[cq,Ne]at l0;omega
theorem aaA(C:jw W key V)(hl:S.length<=100000)(hV:∀x∈S,V x):∃S',Yz (S,W)=some (S',W)/\bR key S S':=by
 obtain⟨o,e2,bl,R,rfl,hF,hS,hR⟩:=Us C acs hV;have l0:=hF.mq;have l1:=hF.mr;have hn:S.length=(f0 bl).length+R.length:=by grind
 obtain⟨R',e3,hR'⟩:=JP C (X:=f1 bl) (S:=R) (Y:=[]) (L:=f1 bl++R) (A:=((f1 bl).length:Int)) (B:=(S.length:Int)) rfl (by congr 1;omega) (by grind) (by grind) (fun y hy=>hV y (by rw[hS];simp[hy]));obtain⟨o,e7,S',rfl,hS'⟩:=Ut C hl hV hF hR' acs hS;rw[dE]at e3;have e:Zh ((S.length:Int),S,W)=some (S',W):=aO e2 (aO e3 (aO e7 rfl));exact⟨S',aO e rfl,hS'⟩
end
open Go.Proofs.Ytbbhihkocghhaaa.Pl
theorem EI{a b:Bool}(ha:a=true)(h:ak b y=z):ak (both a b) y=z:=by subst ha;exact h
theorem TM(a b:Int):∃c:Int,DZ (a,b,())=some (c,())/\(c<0↔a<b):=by
 have nn:∀x:Int,Oz (x,())=some (false,()):=fun x=>by
  show Ec x=_;unfold Ec;have e:∀b:Bool,b=true->(some (Bool.not b,()):Option (TL xe))=some (false,()):=by rintro _ rfl;rfl
  exact e _ (au rfl)
 have un:∀c:Option (TL xb),rZ Oz a b=c->DZ (a,b,())=c:=fun c h=>h;rcases Int.lt_trichotomy a b with h|h|h
 .refine⟨-1,un _ ?_,acs⟩;unfold rZ;exact aO (nn a) (aO (nn b) (ao rfl (ao rfl (aA (au h) rfl))))
 .refine⟨0,un _ ?_,acs⟩;unfold rZ;exact aO (nn a) (aO (nn b) (ao rfl (ao rfl (ao acz (ao acz rfl)))))
 .refine⟨1,un _ ?_,acs⟩;unfold rZ;exact aO (nn a) (aO (nn b) (ao rfl (ao rfl (ao acz (aA (au h) rfl)))))
def wR(n:ba)(of m lv:io):iq:=(n.vars,n.bk,n.az.map cG,n.bL,n.bP,n.constraints,n.aa.map aM,n.ai.map cF,of,m,lv,())
def nI(n:ba)(x:aS):bn:=
 match x.1 with
 |true=>(match n.aa[x.2.1.toNat]? with|some M=>(match M.reads[x.2.2.1.toNat]? with|some r=>kZ M.word r|none=>⟨[],[]⟩)|none=>⟨[],[]⟩)
 |false=>(match n.ai[x.2.2.1.toNat]? with|some a=>lg a|none=>⟨[],[]⟩)
variable{n:ba}
theorem VV{y:bt}{i:bn}(h:y.is n i):nI n (dX y)=i:=by
 rcases h with⟨h,a,ha,rfl⟩|⟨h,M,r,hM,hr,rfl⟩
 .unfold nI dX;grind
 .unfold nI dX;grind
def lk(lv:io)(i:bn):Int:=aw lv (i.to.headD 0).toNat
variable{lv:io}{m:io}{of:io}
theorem J2{L:List aS}{x:bt}{i:bn}(h:x.is n i)(ft:Fit n)(hw:∀M∈n.aa,0<=M.word) :
  sW (x.rd,(x.mem:Int),(x.pos:Int),kq (wR n of m lv) L)=some (i.to,kq (wR n of m lv) L):=by
 show tg Gv x.rd (x.mem:Int) (x.pos:Int) n.vars n.bk (n.az.map cG) n.bL n.bP n.constraints (n.aa.map aM) (n.ai.map cF) of L m lv=_;unfold tg;rcases h with⟨h,a,ha,rfl⟩|⟨h,M,r,hM,hr,rfl⟩
 .have ha':(n.ai.map cF)[x.pos]?=some (cF a):=by grind
  have hl:=iu ha';rw[h,cV rfl,df acy,bG ha'];rfl
 .have hM':(n.aa.map aM)[x.mem]?=some (aM M):=by grind
  have hl:=iu hM';have hmem:=d8 hM;have hf:=ft.aa.2 M hmem;have hr2:=hf.gG r (d8 hr);rw[h,dY rfl,df acy,bG hM'];exact(cu (BO M x.pos r hr ⟨hw M hmem,hf.word.2⟩ ⟨hr2.2.1,hr2.2.2.1⟩)).trans rfl
theorem VG{V:Nat}(hs:cZ n V)(ft:Fit n)(hl:lv.length=V+1)(key:aS->Int)(hk:∀x∈n6 n,key (dX x.1)=lk lv x.2)(his:∀x∈n6 n,x.1.is n x.2) :
  jw (wR n of m lv) key (fun x=>∃y∈n6 n,x=dX y.1):=by
 refine⟨fun L x y hx hy=>?_⟩;obtain⟨x,hx,rfl⟩:=hx;obtain⟨y,hy,rfl⟩:=hy;have hw:∀M∈n.aa,0<=M.word:=fun M hM=>by have:=(hs.aa M hM).2.2.1;omega
 have hd:∀z∈n6 n,∃(v:Nat) (t:io),z.2.to=(v:Int)::t/\v<=V/\key (dX z.1)=aw lv v:=by
  intro z hz;have hm:z.2∈ei n:=by rw[<-pT];exact UV hz
  have h1:=hs.E9 hm;have h2:=hk z hz;unfold lk at h2
  match e:z.2.to with
  |[]=>exact absurd e h1|v::t=>
   have h3:=hs.m9 hm (v:=v) (by rw[e];simp)
   grind
 obtain⟨vx,tx,ex,bx,kx⟩:=hd x hx;obtain⟨vy,ty,ey,bY,ky⟩:=hd y hy;have f1:=J2 (of:=of) (m:=m) (lv:=lv) (L:=L) (his x hx) ft hw;have f2:=J2 (of:=of) (m:=m) (lv:=lv) (L:=L) (his y hy) ft hw;obtain⟨c,hc,hiff⟩:=TM (aw lv vx) (aw lv vy);refine⟨c,?_,by rw[kx,ky];exact hiff⟩;have g0:gt .I x.2.to (0:Int)=(vx:Int):=bG (σ:=.I) (i:=0) (by rw[ex];rfl);have g1:gt .I y.2.to (0:Int)=(vy:Int):=bG (σ:=.I) (i:=0) (by rw[ey];rfl);have gx:gt .I lv (vx:Int)=aw lv vx:=bG (σ:=.I) (rO acs);have gy:gt .I lv (vy:Int)=aw lv vy:=bG (σ:=.I) (rO acs);have ix:al (vx:Int) lv.length=true:=acy;have iy:al (vy:Int) lv.length=true:=acy;have nx:al (0:Int) (List.length x.2.to)=true:=bm ⟨acs,by rw[ex];simp⟩;have ny:al (0:Int) (List.length y.2.to)=true:=bm ⟨acs,by rw[ey];simp⟩;have jx:al (gt .I x.2.to (0:Int)) lv.length=true:=by rw[g0];exact ix
 have jy:al (gt .I y.2.to (0:Int)) lv.length=true:=by rw[g1];exact iy
 have hc':DZ ((gt .I lv (gt .I x.2.to (0:Int))),(gt .I lv (gt .I y.2.to (0:Int))),())=some (c,()):=by rw[g0,g1,gx,gy];exact hc
 refine aO f1 (an nx (an jx (EI (au rfl) (EI (au rfl) (EI (au rfl) (an rfl (aO f2 (an ny (an jy (an nx (an (au rfl) (an (au rfl) (an jx (an (au rfl) (an (au rfl) (aO hc' rfl))))))))))))))))
theorem AS(n:ba):(n6 n).map (fun x:bt×bn=>x.1)=db n:=by
 unfold n6 A6 M6 db;rw[dN,fl,fl];congr 1
 .exact List.map_fst_zip (by rw[qo,aT];omega)
 .exact List.map_fst_zip (by rw[qk];omega)
theorem ri(n:ba){x:bt×bn}(h:x∈n6 n):x.1.is n x.2:=by
 obtain⟨i,hi⟩:=abb h;have h1:(db n)[i]?=some x.1:=by rw[<-AS,dx,hi];rfl
 have h2:(ei n)[i]?=some x.2:=by rw[<-pT,dx,hi];rfl
 obtain⟨y,e,hy⟩:=B9 n h1
 grind
def lvl(n:ba)(V:Nat):io:=iw (aZ n) ((n6 n).length+1) (i3 (aZ n) V)
def im(n:ba)(V:Nat):List (bt×bn):=(List.range (n6 n).length).flatMap fun(i:Nat)=>(n6 n).filter fun x=>decide (lk (lvl n V) x.2=(i:Int)+1)
theorem JV{V:Nat}(hs:cZ n V)(hv:v<=V)(hl:cw (aZ n) v k):aw (lvl n V) v=(k:Int):=by
 unfold lvl;have:(n6 n).length=(aZ n).length:=by rw[<-pI,aT]
 rw[this];exact Z7 hs.apart hs.aR hv hl
theorem Pk{V:Nat}(hs:cZ n V){x:bt×bn}(h:x∈n6 n):(x.2.to.headD 0).toNat<=V/\(x.2.to.headD 0).toNat∈x.2.nd.to/\x.2.nd∈aZ n:=by
 have hm:x.2∈ei n:=by rw[<-pT];exact UV h
 have h1:=hs.E9 hm;refine⟨?_,?_,?_⟩
 .match e:x.2.to with|[]=>exact absurd e h1|v::t=>have h3:=hs.m9 hm (v:=v) (by rw[e];simp);rw[List.headD_cons];omega
 .unfold bn.nd
  match e:x.2.to with|[]=>exact absurd e h1|v::t=>simp
 .unfold aZ;exact UV hm
theorem JU{V:Nat}(hs:cZ n V)(ha:fF (aZ n) V=true){x:bt×bn}(h:x∈n6 n):1<=lk (lvl n V) x.2/\lk (lvl n V) x.2<=((n6 n).length:Int):=by
 obtain⟨h1,h2,h3⟩:=Pk hs h;obtain⟨k,hk⟩:=(vN hs.apart V).1 ha _ h1;unfold lk;rw[JV hs h1 hk];have:(n6 n).length=(aZ n).length:=by rw[<-pI,aT]
 have hle:=hk.le hs.apart;obtain⟨f,_,e⟩:=hk.inv hs.apart h3 h2;omega
theorem Z5{V:Nat}(hs:cZ n V)(ft:Fit n)(h0:eh n=0) :
  Z6 (cx n,())=some (if fF (aZ n) V then((im n V).map (fun x=>dX x.1),true,())else([],false,())):=by
 have es:nF (cx n,())=some (eh n,()):=by unfold nF;rw[show kC ((cx n,()):TL [bB]).1=n from nX n,Lf ft];rfl
 have ew:=Pg hs ft;obtain⟨m,lv,ea,hlv⟩:=JB hs ft;by_cases ha:fF (aZ n) V=true
 .obtain⟨hll,hlv⟩:=hlv ha;have et:ti (nt n ())=acC ((0:Int),wk n V m lv):=by refine aO es (ao (by rw[h0];rfl) (aO ew (aO ea (ao (by rw[ha];rfl) rfl))))
  rw[ut ha]
  let key:aS->Int:=fun x=>lk (lvl n V) (nI n x)
  have hkey:∀x∈n6 n,key (dX x.1)=lk (lvl n V) x.2:=fun x hx=>by show lk (lvl n V) (nI n (dX x.1))=_;rw[VV (ri n hx)]
  have hk:∀x∈n6 n,key (dX x.1)=lk lv x.2:=fun x hx=>by rw[hkey x hx];obtain⟨h1,h2,h3⟩:=Pk hs hx;unfold lk;obtain⟨k,e1,e2⟩:=hlv _ h1;rw[e1,JV hs h1 e2]
  have hN:(db n).map dX=(n6 n).map (fun x=>dX x.1):=by rw[<-AS,abN];rfl
  have hlen:(n6 n).length<=3000:=(Bk hs).len;obtain⟨S',e1,hS⟩:=aaA (VG hs ft (of:=eE (aZ n) V (aZ n).length) (m:=m) hll key hk (fun x hx=>ri n hx)) (S:=(db n).map dX) (by rw[hN,aT];omega) (fun x hx=>by grind);have hS':S'=(im n V).map (fun x=>dX x.1):=by
   refine(hS.flat (n6 n).length (fun x hx=>?_)).trans ?_
   .rw[hN]at hx;obtain⟨y,hy,rfl⟩:=IN.1 hx;rw[hkey y hy];exact JU hs ha hy
   .unfold im;rw[List.map_flatMap,hN];congr 1;funext i;unfold fk;rw[List.filter_map];congr 1;refine List.filter_congr fun x hx=>?_;show decide (key (dX x.1)=_)=_;rw[hkey x hx]
  rw[<-hS'];refine aO et (ao rfl ?_);exact aO e1 rfl
 .rw[qr ha];have hc:fF (aZ n) V=false:=by simpa using ha
  have et:ti (nt n ())=acB ((8:Int),()):=by refine aO es (ao (by rw[h0];rfl) (aO ew (aO ea (aA (by rw[hc];rfl) rfl))))
  exact aO et (an rfl rfl)
