import Derived.Test.YtmkbdfidnfmgmaaGreatKNc
set_option linter.all false
/- the document's nj: what is sound (printed by VTool.lean). -/
namespace Go.Proofs.YtmkbdfidnfmgmaaGreat.V
open Go Go.RowKit
set_option maxRecDepth 1000000
abbrev vq:List (Nat×LO):=[(0,.cells dx 27),(1,.arr .I 3)]
abbrev yE:List LA:=[.I,.I,.bool,.fz bO,.fz bu]
abbrev Ik:ak:=⟨[(1,.ptr 0 0),(3,.hd 1 .I),(5,.I)],vq,2⟩
abbrev Il:ak:=⟨[(1,.ptr 0 0),(3,.hd 1 .I)],vq,2⟩
abbrev yF:ak:=⟨[(2,.I)],[],0⟩
abbrev Sp:ak:=⟨[(1,.ptr 0 0)],[(0,.cells dx 27)],1⟩
abbrev Sq:List (Nat×LO):=[(0,.cells dx 27),(1,.arr .I 3),(2,.cells yE 97)]
abbrev agD:ak:=⟨[(1,.ptr 0 0),(3,.hd 1 .I),(4,.I)],vq,2⟩
abbrev SN:ak:=⟨[(1,.I),(2,.ptr 0 0),(5,.hd 1 .I),(6,.I)],[(0,.cells yE 97),(1,.arr .I 3)],2⟩
abbrev SL:List (Ev.Ex×ak):=[((.exit 0),⟨[(5,.hd 0 .I)],[(0,.arr .I 3)],1⟩)]
abbrev afe:=be SN SL
abbrev aff:=Ld 0 34 (bI [0] (bt Tryz.f122)) SN SL
def Jc(t1 t6 ay aC:Int)(av:Bool)(aD:ge)(aE:ii)(b1:jp):am SN SL:=
 br (iL t6 aC)
 (
  aj (an t1 aD.length)<|
  aj (room 8 (List.length (ap b1 ((pu (pm (gt bO aD t1).1 t6))::[]))))<|
  aul (t1,(pu (t6+(1:Int))),ay,aC,av,aD,aE,(ap b1 ((pu (pm (gt bO aD t1).1 t6))::[])),()))
 (
  aum (b1,()))
def ark  :aff:=bJ (u8 Jc) (pL k0 e0 1 l0 fun d=>aud)
def S3:afe:=bj (u8 Jc) NN
abbrev Ziz:List Sh:=[ai,.I]
abbrev Tj:List Sh:=[(.sl .I)]
abbrev tp:=TL Ziz->Option (TL Tj)
abbrev ri:=Kd 122 Ziz Tj
def Tm(L5:afe)(a0:Sh.T ai)(a1:Int):Option (TL Tj):=
 br (iL a1 (0:Int))
 (
  some ([],()))
 (
  br (bK false true (iE (Int.ofNat (List.length (cu a0))) a1))
  (
   some ([],()))
  (
   aA (L5 (a1,(0:Int),a0.1,a0.2.1,a0.2.2.1,cu a0,cB a0,[],())) fun x0=>
   some (x0.1,())))
def arn(M5:aff):ri:=⟨u2 (Tm M5.L),pD Tryz.func122 34 k0 e0 1 (sS (sC M5 l0)) fun d=>aud⟩
def tt:ri:=arn  ark
def II:tp:=tt.F
abbrev B6:ak:=⟨[(1,.ptr 0 0),(4,.I)],[(0,.cells yE 97)],1⟩
abbrev Bz:List (Ev.Ex×ak):=[(.ret,⟨[(2,.bool)],[],0⟩),((.exit 2),⟨[],[],0⟩)]
abbrev XA:=be B6 Bz
abbrev Xy:=Ld 0 69 (bI [1] (bt Tryz.f114)) B6 Bz
abbrev B5:ak:=⟨[(1,.ptr 0 0),(3,.I)],[(0,.cells yE 97)],1⟩
abbrev Bw:List (Ev.Ex×ak):=[(.ret,⟨[(2,.bool)],[],0⟩),((.exit 0),⟨[(1,.ptr 0 0)],[(0,.cells yE 97)],1⟩)]
abbrev Xz:=be B5 Bw
abbrev Xx:=Ld 0 69 (bI [0] (bt Tryz.f114)) B5 Bw
def CW(t3 ay aC:Int)(av:Bool)(aD:ge)(aE:ii):am B5 Bw:=
 br (iL t3 (Int.ofNat aD.length))
 (
  aj (an t3 aD.length)<|
  br (Bool.not (iQ (Int.ofNat (List.length (gt bO aD t3).2.1)) ay))
  (
   aum (.inl (true,())))
  (
   aul ((pu (t3+(1:Int))),ay,aC,av,aD,aE,())))
 (
  aum (.inr (ay,aC,av,aD,aE,())))
def aid  :Xx:=bJ (u6 CW) (pL k0 e0 1 l0 fun d=>aud)
def LQ:Xz:=bj (u6 CW) NN
def CX(t4 ay aC:Int)(av:Bool)(aD:ge)(aE:ii):am B6 Bz:=
 br (iL t4 (Int.ofNat aE.length))
 (
  aj (an t4 aE.length)<|
  br (Bool.not (iQ (Int.ofNat (List.length (gt bu aE t4).2.1)) ay))
  (
   aum (.inl (true,())))
  (
   aj (an t4 aE.length)<|
   br (bK false true (Bool.not (iQ (Int.ofNat (List.length (gt bu aE t4).2.2.1)) aC)))
   (
    aum (.inl (true,())))
   (
    aul ((pu (t4+(1:Int))),ay,aC,av,aD,aE,()))))
 (
  aum (.inr ()))
def aie  :Xy:=bJ (u6 CX) (pL k0 e0 1 l0 fun d=>aud)
def LS:XA:=bj (u6 CX) NN
abbrev XB:List Sh:=[ai]
abbrev LU:List Sh:=[.bool]
abbrev Mq:=TL XB->Option (TL LU)
abbrev Dg:=Kd 114 XB LU
def Mo(L4:Xz)(L9:XA)(a0:Sh.T ai):Option (TL LU):=
 br (iL a0.1 (1:Int))
 (
  some (true,()))
 (
  br (bK false true (iL (62:Int) a0.1))
  (
   some (true,()))
  (
   br (bK false true (iL a0.2.1 (1:Int)))
   (
    some (true,()))
   (
    br (bK false true (iL (64:Int) a0.2.1))
    (
     some (true,()))
    (
     aA (L4 ((0:Int),a0)) fun x0=>
     (match x0 with
     |.inl x1=>some (x1.1,())|.inr x1=>
      aA (L9 ((0:Int),x1)) fun x2=>
      (match x2 with|.inl x3=>some (x3.1,())|.inr x3=>some (false,())
      )
     )))))
def aiB(M4:Xx)(M9:Xy):Dg:=⟨u1 (Mo M4.L M9.L),pD Tryz.func114 69 k0 e0 1 (sS (sC M4 (sC M9 l0))) fun d=>aud⟩
def Mp:Dg:=aiB  aid aie
def LP:Mq:=Mp.F
abbrev A8:ak:=⟨[(1,.ptr 0 0),(3,.I)],[(0,.cells dx 27)],1⟩
abbrev AB:List (Ev.Ex×ak):=[(.ret,⟨[(2,.bool)],[],0⟩),((.exit 0),Sp)]
abbrev V8:=be A8 AB
abbrev V3:=Ld 0 73 (bI [0] (bt Tryz.f113)) A8 AB
def B1(t3 ay:Int)(aC:jp)(av:bv)(aD aE aI:jp)(au:ce)(aw:bv):am A8 AB:=
 br (iL t3 (Int.ofNat au.length))
 (
  aj (an t3 au.length)<|
  br (iL (4:Int) (Int.ofNat (List.length (gt ai au t3).2.2.2.1)))
  (
   aum (.inl (true,())))
  (
   aj (an t3 au.length)<|
   br (bK false true (iL (4:Int) (Int.ofNat (List.length (gt ai au t3).2.2.2.2.1))))
   (
    aum (.inl (true,())))
   (
    aul ((pu (t3+(1:Int))),ay,aC,av,aD,aE,aI,au,aw,()))))
 (
  aum (.inr (ay,aC,av,aD,aE,aI,au,aw,())))
def ahx  :V3:=bJ (u9 B1) (pL k0 e0 1 l0 fun d=>aud)
def KR:V8:=bj (u9 B1) NN
abbrev V9:List Sh:=[cJ]
abbrev wb:List Sh:=[.bool]
abbrev WL:=TL V9->Option (TL wb)
abbrev Le:=Kd 113 V9 wb
def Lf(L4:V8)(a0:Sh.T cJ):Option (TL wb):=
 br (iL a0.1 (0:Int))
 (
  some (true,()))
 (
  br (bK false true (iL (2000:Int) a0.1))
  (
   some (true,()))
  (
   br (bK false true (iL (1000:Int) (pu ((pu ((Int.ofNat (List.length (cu a0)))+(Int.ofNat (List.length (cB a0)))))+(Int.ofNat (List.length (cG a0)))))))
   (
    some (true,()))
   (
    br (bK false true (iL (4:Int) (Int.ofNat (List.length (c9 a0)))))
    (
     some (true,()))
    (
     aA (L4 ((0:Int),a0)) fun x0=>
     (match x0 with
     |.inl x1=>some (x1.1,())|.inr x1=>
      br (iL (2000:Int) (Int.ofNat (List.length x1.2.1)))
      (
       some (true,()))
      (
       br (bK false true (iL (2000:Int) (Int.ofNat (List.length x1.2.2.1))))
       (
        some (true,()))
       (
        some ((bK false true (iL (2000:Int) (Int.ofNat (List.length (dj x1))))),())))
     )))))
def ahM(M4:V3):Le:=⟨u1 (Lf M4.L),pD Tryz.func113 73 k0 e0 1 (sS (sC M4 l0)) fun d=>aud⟩
def WK:Le:=ahM  ahx
def V6:WL:=WK.F
abbrev zW:ak:=⟨[(1,.ptr 0 0),(3,.hd 1 .I),(7,.I)],vq,2⟩
abbrev zL:List (Ev.Ex×ak):=[((.exit 6),⟨[(3,.hd 0 .I)],[(0,.arr .I 3)],1⟩)]
abbrev U0:=be zW zL
abbrev UX:=Ld 0 72 (bI [2] (bt Tryz.f63)) zW zL
abbrev Az:ak:=Ik
abbrev z8:List (Ev.Ex×ak):=[((.exit 2),Il)]
abbrev Vm:=be Az z8
abbrev Kr:=Ld 0 72 (bI [1] (bt Tryz.f63)) Az z8
abbrev zV:ak:=⟨[(1,.ptr 0 0),(3,.hd 1 .I),(5,.I),(6,.I)],vq,2⟩
abbrev zK:List (Ev.Ex×ak):=[((.exit 4),Ik)]
abbrev Kh:=be zV zK
abbrev AY:=Ld 0 72 (bI [1,0] (bt Tryz.f63)) zV zK
abbrev Ay:ak:=agD
abbrev zZ:List (Ev.Ex×ak):=[((.exit 0),Il)]
abbrev Vl:=be Ay zZ
abbrev Vi:=Ld 0 72 (bI [0] (bt Tryz.f63)) Ay zZ
def Vg(t4 ay:Int)(aC:jp)(av:bv)(aD aE aI:jp)(au:ce)(aw:bv)(b1:jp):am Ay zZ:=
 br (iL t4 (Int.ofNat av.length))
 (
  aj (an t4 av.length)<|
  aj (room 8 (List.length (ap b1 ((gt ae av t4).1::[]))))<|
  aul ((pu (t4+(1:Int))),ay,aC,av,aD,aE,aI,au,aw,(ap b1 ((gt ae av t4).1::[])),()))
 (
  aum (ay,aC,av,aD,aE,aI,au,aw,b1,()))
def ag2  :Vi:=bJ (ei Vg) (pL k0 e0 1 l0 fun d=>aud)
def Vj:Vl:=bj (ei Vg) NN
def AX(F0:tp)(t5 t6 ay:Int)(aC:jp)(av:bv)(aD aE aI:jp)(au:ce)(aw:bv)(b1:jp):am zV zK:=
 aj (an t5 au.length)<|
 br (iL t6 (Int.ofNat (List.length (gt ai au t5).2.2.2.1)))
 (
  aj (an t5 au.length)<|
  aA (F0 ((gt ai au t5),t6,())) fun x0=>
  aj (room 8 (List.length (ap b1 x0.1)))<|
  aul (t5,(pu (t6+(1:Int))),ay,aC,av,aD,aE,aI,au,aw,(ap b1 x0.1),()))
 (
  aum (t5,ay,aC,av,aD,aE,aI,au,aw,b1,()))
def agT(c0:ri) :AY:=bJ (ju (AX c0.F)) (pL (kD c0 k0) e0 1 l0 fun d=>aud)
def UZ:AY:=agT tt
def Kg:Kh:=bj (ju (AX II)) NN
def Vh(L10:Kh)(t5 ay:Int)(aC:jp)(av:bv)(aD aE aI:jp)(au:ce)(aw:bv)(b1:jp):am Az z8:=
 br (iL t5 (Int.ofNat au.length))
 (
  aA (L10 (t5,(0:Int),ay,aC,av,aD,aE,aI,au,aw,b1,())) fun x0=>
  aul ((pu (pm x0.1 (1:Int))),x0.2))
 (
  aum (ay,aC,av,aD,aE,aI,au,aw,b1,()))
def ag1(M10:AY):Kr:=bJ (ei (Vh M10.L)) (pL k0 e0 1 (sC M10 l0) fun d=>aud)
def ag3:Kr:=ag1  UZ
def Vk:Vm:=bj (ei (Vh Kg)) NN
def UW(t7 ay:Int)(aC:jp)(av:bv)(aD aE aI:jp)(au:ce)(aw:bv)(b1:jp):am zW zL:=
 br (iL t7 (Int.ofNat aw.length))
 (
  aj (an t7 aw.length)<|
  aj (room 8 (List.length (ap b1 ((gt ae aw t7).1::[]))))<|
  aul ((pu (t7+(1:Int))),ay,aC,av,aD,aE,aI,au,aw,(ap b1 ((gt ae aw t7).1::[])),()))
 (
  aum (b1,()))
def agU  :UX:=bJ (ei UW) (pL k0 e0 1 l0 fun d=>aud)
def UY:U0:=bj (ei UW) NN
abbrev Vn:List Sh:=[cJ]
abbrev Kt:List Sh:=[(.sl .I)]
abbrev BV:=TL Vn->Option (TL Kt)
abbrev wa:=Kd 63 Vn Kt
def ahs(F0:tp)(L3:Vl)(L7:Vm)(L10:Kh)(L14:U0)(a0:Sh.T cJ):Option (TL Kt):=
 aj (room 8 (List.length (ap [] a0.2.1)))<|
 aA (L3 ((0:Int),a0.1,a0.2.1,a0.2.2.1,cu a0,cB a0,cG a0,c9 a0,dj a0,(ap [] a0.2.1),())) fun x0=>
 aA (L7 ((0:Int),x0)) fun x1=>
 aA (L14 ((0:Int),x1)) fun x2=>
 some (x2.1,())
def aht(c0:ri)(M3:Vi)(M7:Kr)(M10:AY)(M14:UX):wa:=⟨u1 (ahs c0.F M3.L M7.L M10.L M14.L),pD Tryz.func63 72 (kD c0 k0) e0 1 (sS (sC M3 (sC M7 (sC M14 l0)))) fun d=>aud⟩
def BU:wa:=aht tt ag2 ag3 UZ agU
def Ks:BV:=BU.F
abbrev zP:ak:=⟨[(1,.ptr 0 0),(3,.hd 1 .I),(10,.I)],vq,2⟩
abbrev zG:List (Ev.Ex×ak):=[((.exit 8),⟨[(3,.hd 0 .I)],[(0,.arr .I 3)],1⟩)]
abbrev UR:=be zP zG
abbrev UL:=Ld 0 114 (bI [2] (bt Tryz.f116)) zP zG
abbrev zM:ak:=Ik
abbrev zC:List (Ev.Ex×ak):=[((.exit 2),Il)]
abbrev UQ:=be zM zC
abbrev J7:=Ld 0 114 (bI [1] (bt Tryz.f116)) zM zC
abbrev zO:ak:=⟨[(1,.ptr 0 0),(3,.hd 1 .I),(5,.I),(6,.ptr 2 0),(8,.I)],Sq,3⟩
abbrev zF:List (Ev.Ex×ak):=[((.exit 6),Ik)]
abbrev Kf:=be zO zF
abbrev J9:=Ld 0 114 (bI [1,1] (bt Tryz.f116)) zO zF
abbrev zN:ak:=⟨[(1,.ptr 0 0),(3,.hd 1 .I),(5,.I),(6,.ptr 2 0),(7,.I)],Sq,3⟩
abbrev zE:List (Ev.Ex×ak):=[((.exit 4),⟨[(1,.ptr 0 0),(3,.hd 1 .I),(5,.I),(6,.ptr 2 0)],Sq,3⟩)]
abbrev Ke:=be zN zE
abbrev J8:=Ld 0 114 (bI [1,0] (bt Tryz.f116)) zN zE
abbrev z9:ak:=agD
abbrev zQ:List (Ev.Ex×ak):=[((.exit 0),Il)]
abbrev U6:=be z9 zQ
abbrev U3:=Ld 0 114 (bI [0] (bt Tryz.f116)) z9 zQ
def Kj(t4 ay:Int)(aC:jp)(av:bv)(aD aE aI:jp)(au:ce)(aw:bv)(b1:jp):am z9 zQ:=
 br (iL t4 (Int.ofNat av.length))
 (
  aj (an t4 av.length)<|
  aj (room 8 (List.length (ap b1 ((gt ae av t4).2.1::[]))))<|
  aul ((pu (t4+(1:Int))),ay,aC,av,aD,aE,aI,au,aw,(ap b1 ((gt ae av t4).2.1::[])),()))
 (
  aum (ay,aC,av,aD,aE,aI,au,aw,b1,()))
def agX  :U3:=bJ (ei Kj) (pL k0 e0 1 l0 fun d=>aud)
def U5:U6:=bj (ei Kj) NN
def J4(t5 t7 ay:Int)(aC:jp)(av:bv)(aD aE aI:jp)(au:ce)(aw:bv)(b1:jp)(bE cY:Int)(cZ:Bool)(de:ge)(ct:ii):am zN zE:=
 br (iL t7 (Int.ofNat de.length))
 (
  aj (an t7 de.length)<|
  aj (room 8 (List.length (ap b1 (gt bO de t7).2.1)))<|
  aul (t5,(pu (t7+(1:Int))),ay,aC,av,aD,aE,aI,au,aw,(ap b1 (gt bO de t7).2.1),bE,cY,cZ,de,ct,()))
 (
  aum (t5,ay,aC,av,aD,aE,aI,au,aw,b1,bE,cY,cZ,de,ct,()))
def UO  :J8:=bJ (u16 J4) (pL k0 e0 1 l0 fun d=>aud)
def Ka:Ke:=bj (u16 J4) NN
def J5(t5 t8 ay:Int)(aC:jp)(av:bv)(aD aE aI:jp)(au:ce)(aw:bv)(b1:jp)(bE cY:Int)(cZ:Bool)(de:ge)(ct:ii):am zO zF:=
 br (iL t8 (Int.ofNat ct.length))
 (
  aj (an t8 ct.length)<|
  aj (room 8 (List.length (ap b1 ((gt bu ct t8).1::[]))))<|
  aj (room 8 (List.length (ap (ap b1 ((gt bu ct t8).1::[])) (gt bu ct t8).2.1)))<|
  aj (room 8 (List.length (ap (ap (ap b1 ((gt bu ct t8).1::[])) (gt bu ct t8).2.1) (gt bu ct t8).2.2.1)))<|
  aul (t5,(pu (t8+(1:Int))),ay,aC,av,aD,aE,aI,au,aw,(ap (ap (ap b1 ((gt bu ct t8).1::[])) (gt bu ct t8).2.1) (gt bu ct t8).2.2.1),bE,cY,cZ,de,ct,()))
 (
  aum (t5,ay,aC,av,aD,aE,aI,au,aw,b1,()))
def UP  :J9:=bJ (u16 J5) (pL k0 e0 1 l0 fun d=>aud)
def Kc:Kf:=bj (u16 J5) NN
def J0(L14:Ke)(L18:Kf)(t5 ay:Int)(aC:jp)(av:bv)(aD aE aI:jp)(au:ce)(aw:bv)(b1:jp):am zM zC:=
 br (iL t5 (Int.ofNat au.length))
 (
  aj (an t5 au.length)<|
  aA (L14 (t5,(0:Int),ay,aC,av,aD,aE,aI,au,aw,b1,(gt ai au t5))) fun x0=>
  aA (L18 (x0.1,(0:Int),x0.2)) fun x1=>
  aul ((pu (pm x1.1 (1:Int))),x1.2))
 (
  aum (ay,aC,av,aD,aE,aI,au,aw,b1,()))
def agP(M14:J8)(M18:J9):J7:=bJ (ei (J0 M14.L M18.L)) (pL k0 e0 1 (sC M14 (sC M18 l0)) fun d=>aud)
def agQ:J7:=agP  UO UP
def UM:UQ:=bj (ei (J0 Ka Kc)) NN
def J6(t10 ay:Int)(aC:jp)(av:bv)(aD aE aI:jp)(au:ce)(aw:bv)(b1:jp):am zP zG:=
 br (iL t10 (Int.ofNat aw.length))
 (
  aj (an t10 aw.length)<|
  aj (an t10 aw.length)<|
  aj (room 8 (List.length (ap b1 ((gt ae aw t10).2.1::((gt ae aw t10).2.2.1::[])))))<|
  aul ((pu (t10+(1:Int))),ay,aC,av,aD,aE,aI,au,aw,(ap b1 ((gt ae aw t10).2.1::((gt ae aw t10).2.2.1::[]))),()))
 (
  aum (b1,()))
def agR  :UL:=bJ (ei J6) (pL k0 e0 1 l0 fun d=>aud)
def UN:UR:=bj (ei J6) NN
abbrev U7:List Sh:=[cJ]
abbrev Kk:List Sh:=[(.sl .I)]
abbrev Vp:=TL U7->Option (TL Kk)
abbrev Ku:=Kd 116 U7 Kk
def ag4(L3:U6)(L10:UQ)(L14:Ke)(L18:Kf)(L25:UR)(a0:Sh.T cJ):Option (TL Kk):=
 aA (L3 ((0:Int),a0.1,a0.2.1,a0.2.2.1,cu a0,cB a0,cG a0,c9 a0,dj a0,[],())) fun x0=>
 aj (room 8 (List.length (ap (dN x0) (cu x0))))<|
 aj (room 8 (List.length (ap (ap (dN x0) (cu x0)) (cB x0))))<|
 aj (room 8 (List.length (ap (ap (ap (dN x0) (cu x0)) (cB x0)) (cG x0))))<|
 aA (L10 ((0:Int),x0.1,x0.2.1,x0.2.2.1,cu x0,cB x0,cG x0,c9 x0,dj x0,(ap (ap (ap (dN x0) (cu x0)) (cB x0)) (cG x0)),())) fun x1=>
 aA (L25 ((0:Int),x1)) fun x2=>
 some (x2.1,())
def ag5(M3:U3)(M10:J7)(M14:J8)(M18:J9)(M25:UL):Ku:=⟨u1 (ag4 M3.L M10.L M14.L M18.L M25.L),pD Tryz.func116 114 k0 e0 1 (sS (sC M3 (sC M10 (sC M25 l0)))) fun d=>aud⟩
def Vo:Ku:=ag5  agX agQ UO UP agR
def U4:Vp:=Vo.F
abbrev Ae:ak:=⟨[(1,.ptr 0 0),(4,.hd 1 .bool),(6,.I)],[(0,.cells dx 27),(1,.arr .bool 4)],2⟩
abbrev zS:List (Ev.Ex×ak):=[(.ret,yF),((.exit 2),⟨[],[],0⟩)]
abbrev Va:=be Ae zS
abbrev U8:=Ld 0 57 (bI [1] (bt Tryz.f115)) Ae zS
abbrev tY:ak:=⟨[(1,.ptr 0 0),(3,.fz .I),(4,.hd 1 .bool),(5,.I)],[(0,.cells dx 27),(1,.arr .bool 4)],2⟩
abbrev vW:List (Ev.Ex×ak):=[(.ret,yF),((.exit 0),⟨[(1,.ptr 0 0),(4,.hd 1 .bool)],[(0,.cells dx 27),(1,.arr .bool 4)],2⟩)]
abbrev Vt:=be tY vW
abbrev Vq:=Ld 0 57 (bI [0] (bt Tryz.f115)) tY vW
def Bt(t3:jp)(t5 ay:Int)(aC:jp)(av:bv)(aD aE aI:jp)(au:ce)(aw:bv)(b1:kw):am tY vW:=
 br (iL t5 (Int.ofNat t3.length))
 (
  aj (an t5 t3.length)<|
  br (iL (gt .I t3 t5) (1:Int))
  (
   aum (.inl ((5:Int),())))
  (
   aj (an t5 t3.length)<|
   br (bK false true (iL ay (gt .I t3 t5)))
   (
    aum (.inl ((5:Int),())))
   (
    aj (an t5 t3.length)<|
    aj (an (gt .I t3 t5) b1.length)<|
    br (gt .bool b1 (gt .I t3 t5))
    (
     aum (.inl ((6:Int),())))
    (
     aj (an t5 t3.length)<|
     aj (an (gt .I t3 t5) b1.length)<|
     aul (t3,(pu (t5+(1:Int))),ay,aC,av,aD,aE,aI,au,aw,(List.set b1 (Int.toNat (gt .I t3 t5)) true),())))))
 (
  aum (.inr (ay,aC,av,aD,aE,aI,au,aw,b1,())))
def ag7  :Vq:=bJ (ju Bt) (pL k0 e0 1 l0 fun d=>aud)
def ag6:Vt:=bj (ju Bt) NN
def vY(t6 ay:Int)(aC:jp)(av:bv)(aD aE aI:jp)(au:ce)(aw:bv)(b1:kw):am Ae zS:=
 br (iE t6 ay)
 (
  aj (an t6 b1.length)<|
  br (Bool.not (gt .bool b1 t6))
  (
   aum (.inl ((7:Int),())))
  (
   aul ((pu (t6+(1:Int))),ay,aC,av,aD,aE,aI,au,aw,b1,())))
 (
  aum (.inr ()))
def agY  :U8:=bJ (ei vY) (pL k0 e0 1 l0 fun d=>aud)
def U9:Va:=bj (ei vY) NN
abbrev Vu:List Sh:=[cJ]
abbrev Kv:List Sh:=[.I]
abbrev V0:=TL Vu->Option (TL Kv)
abbrev KQ:=Kd 115 Vu Kv
def ahv(F0:BV)(L4:Vt)(L12:Va)(a0:Sh.T cJ):Option (TL Kv):=
 aA (F0 (a0,())) fun x0=>
 aj (both (iE (0:Int) (pu (pm a0.1 (1:Int)))) (both (iE (pu (pm a0.1 (1:Int))) (pu (pm a0.1 (1:Int)))) (iE ((Int.ofNat 1)*(pu (pm a0.1 (1:Int)))) (281474976710656:Int))))<|
 aA (L4 (x0.1,(0:Int),a0.1,a0.2.1,a0.2.2.1,cu a0,cB a0,cG a0,c9 a0,dj a0,(List.replicate (Int.toNat (pu (pm a0.1 (1:Int)))) (Sh.zero .bool)),())) fun x1=>
 (match x1 with
 |.inl x2=>some (x2.1,())|.inr x2=>
  aA (L12 ((1:Int),x2)) fun x3=>
  (match x3 with|.inl x4=>some (x4.1,())|.inr x4=>some ((0:Int),())
  )
 )
def ahw(c0:wa)(M4:Vq)(M12:U8):KQ:=⟨u1 (ahv c0.F M4.L M12.L),pD Tryz.func115 57 (kD c0 k0) e0 1 (sS (sC M4 (sC M12 l0))) fun d=>aud⟩
def VZ:KQ:=ahw BU ag7 agY
def Vr:V0:=VZ.F
abbrev A4:ak:=⟨[(1,.ptr 0 0),(6,.fz .I),(7,.I)],[(0,.cells dx 27)],1⟩
abbrev AA:List (Ev.Ex×ak):=[(.ret,yF),((.exit 4),⟨[],[],0⟩)]
abbrev VY:=be A4 AA
abbrev VX:=Ld 0 75 (bI [2] (bt Tryz.f58)) A4 AA
abbrev Br:ak:=⟨[(1,.ptr 0 0),(4,.I)],[(0,.cells dx 27)],1⟩
abbrev A7:List (Ev.Ex×ak):=[(.ret,yF),((.exit 2),Sp)]
abbrev WI:=be Br A7
abbrev WG:=Ld 0 75 (bI [1] (bt Tryz.f58)) Br A7
abbrev Bq:ak:=⟨[(1,.ptr 0 0),(3,.I)],[(0,.cells dx 27)],1⟩
abbrev A5:List (Ev.Ex×ak):=[(.ret,yF),((.exit 0),Sp)]
abbrev WH:=be Bq A5
abbrev La:=Ld 0 75 (bI [0] (bt Tryz.f58)) Bq A5
def Cp(F2:Mq)(t3 ay:Int)(aC:jp)(av:bv)(aD aE aI:jp)(au:ce)(aw:bv):am Bq A5:=
 br (iL t3 (Int.ofNat au.length))
 (
  aj (an t3 au.length)<|
  aA (F2 ((gt ai au t3),())) fun x0=>
  br x0.1
  (
   aum (.inl ((9:Int),())))
  (
   aul ((pu (t3+(1:Int))),ay,aC,av,aD,aE,aI,au,aw,())))
 (
  aum (.inr (ay,aC,av,aD,aE,aI,au,aw,())))
def ahJ(c2:Dg) :La:=bJ (u9 (Cp c2.F)) (pL (kD c2 k0) e0 1 l0 fun d=>aud)
def ahK:La:=ahJ Mp
def Lb:WH:=bj (u9 (Cp LP)) NN
def Cq(t4 ay:Int)(aC:jp)(av:bv)(aD aE aI:jp)(au:ce)(aw:bv):am Br A7:=
 br (iL t4 (Int.ofNat av.length))
 (
  aj (an t4 av.length)<|
  br (iL (gt ae av t4).2.2.1 (0:Int))
  (
   aum (.inl ((1:Int),())))
  (
   aj (an t4 av.length)<|
   br (bK false true (iL (2:Int) (gt ae av t4).2.2.1))
   (
    aum (.inl ((1:Int),())))
   (
    aul ((pu (t4+(1:Int))),ay,aC,av,aD,aE,aI,au,aw,()))))
 (
  aum (.inr (ay,aC,av,aD,aE,aI,au,aw,())))
def ahL  :WG:=bJ (u9 Cq) (pL k0 e0 1 l0 fun d=>aud)
def Lc:WI:=bj (u9 Cq) NN
def BZ(t6:jp)(t7 ay:Int)(aC:jp)(av:bv)(aD aE aI:jp)(au:ce)(aw:bv):am A4 AA:=
 br (iL t7 (Int.ofNat t6.length))
 (
  aj (an t7 t6.length)<|
  br (iL (gt .I t6 t7) (0:Int))
  (
   aum (.inl ((5:Int),())))
  (
   aj (an t7 t6.length)<|
   br (bK false true (iL (pu ((pu ((2:Int)*ay))+(1:Int))) (gt .I t6 t7)))
   (
    aum (.inl ((5:Int),())))
   (
    aul (t6,(pu (t7+(1:Int))),ay,aC,av,aD,aE,aI,au,aw,()))))
 (
  aum (.inr ()))
def ahu  :VX:=bJ (ei BZ) (pL k0 e0 1 l0 fun d=>aud)
def KP:VY:=bj (ei BZ) NN
abbrev WJ:List Sh:=[cJ]
abbrev Cr:List Sh:=[.I]
abbrev Rg:=TL WJ->Option (TL Cr)
abbrev GX:=Kd 58 WJ Cr
def LJ(F0:Vp)(F1:V0)(F2:Mq)(F3:WL)(L4:WH)(L9:WI)(L18:VY)(a0:Sh.T cJ):Option (TL Cr):=
 aA (F3 (a0,())) fun x0=>
 br x0.1
 (
  some ((10:Int),()))
 (
  aA (L4 ((0:Int),a0)) fun x1=>
  (match x1 with
  |.inl x2=>some (x2.1,())|.inr x2=>
   aA (L9 ((0:Int),x2)) fun x3=>
   (match x3 with
   |.inl x4=>some (x4.1,())|.inr x4=>
    aA (F1 (x4,())) fun x5=>
    br (Bool.not (iQ x5.1 (0:Int)))
    (
     some (x5.1,()))
    (
     aA (F0 (x4,())) fun x6=>
     aA (L18 (x6.1,(0:Int),x4)) fun x7=>
     (match x7 with|.inl x8=>some (x8.1,())|.inr x8=>some ((0:Int),())
     ))
   )
  ))
def ah8(c0:Ku)(c1:KQ)(c2:Dg)(c3:Le)(M4:La)(M9:WG)(M18:VX):GX:=⟨u1 (LJ c0.F c1.F c2.F c3.F M4.L M9.L M18.L),pD Tryz.func58 75 (kD c0 (kD c1 (kD c2 (kD c3 k0)))) e0 1 (sS (sC M4 (sC M9 (sC M18 l0)))) fun d=>aud⟩
def Rh:GX:=ah8 Vo VZ Mp WK ahK ahL ahu
def Zad:Rg:=Rh.F
