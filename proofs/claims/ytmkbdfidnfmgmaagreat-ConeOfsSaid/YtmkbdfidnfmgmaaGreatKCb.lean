import Derived.Test.YtmkbdfidnfmgmaaGreatKTb
set_option linter.all false
section
namespace Go.Proofs.YtmkbdfidnfmgmaaGreat.V
open Go Go.RowKit
abbrev Z0:Sh:=(.agg [cJ,(.sl .I),(.sl .I),(.sl .I)])
abbrev iU:Sh:=(.agg [.I,.I])
abbrev io:=List (Sh.T iU)
set_option maxRecDepth 1000000
abbrev Xe:List Sh:=[.I,.bool]
abbrev wh:List Sh:=[.I]
abbrev Mk:=TL Xe->Option (TL wh)
abbrev De:=Kd 196 Xe wh
def wj(a0:Int)(a1:Bool):Option (TL wh):=
 br a1
 (
  some ((pu ((pu (@HMul.hMul (Int) (Int) (Int) _ (2:Int) a0))+(1:Int))),()))
 (
  some ((pu (@HMul.hMul (Int) (Int) (Int) _ (2:Int) a0)),()))
def aiu  :De:=⟨u2 wj,pD Tryz.func196 11 k0 e0 1 (sS l0) fun d=>aud⟩
def Mj:De:=aiu
def CQ:Mk:=Mj.F
abbrev vl:List (Nat×LO):=[(0,.arr ae 113),(1,.cells [.I,.fz .I,.fz ae,.fz .I,.fz .I,.fz .I,.fz ai,.hd 0 ae] 27),(2,.arr .I 3)]
abbrev oM:List LA:=[.I,.aR,.aR,.aR,.aR,.aR,.aR,.aR]
abbrev agk:List (Nat×LO):=[(0,.cells oM 27),(1,.arr .I 3),(2,.cells [.I,.hd 3 .I,.hd 4 ae,.hd 5 .I,.hd 6 .I,.hd 7 .I,.hd 8 ai,.hd 9 ae] 27),(3,.arr .I 3),(4,.arr ae 78),(5,.arr .I 3),(6,.arr .I 3),(7,.arr .I 3),(8,.arr ai 97),(9,.arr ae 113)]
abbrev agl:List (Nat×LO):=[(0,.arr .I 3),(1,.cells dx 27),(2,.cells oM 27),(3,.cells [.I,.hd 4 .I,.hd 5 ae,.hd 6 .I,.hd 7 .I,.hd 8 .I,.hd 9 ai,.aR] 27),(4,.arr .I 3),(5,.arr ae 78),(6,.arr .I 3),(7,.arr .I 3),(8,.arr .I 3),(9,.arr ai 97)]
abbrev agm:List (Nat×LO):=[(0,.arr .I 3),(1,.cells dx 27),(2,.cells oM 27),(3,.cells [.I,.hd 4 .I,.hd 5 ae,.hd 6 .I,.hd 7 .I,.hd 8 .I,.aR,.aR] 27),(4,.arr .I 3),(5,.arr ae 78),(6,.arr .I 3),(7,.arr .I 3),(8,.arr .I 3)]
abbrev agn:List (Nat×LO):=[(0,.arr .I 3),(1,.cells dx 27),(2,.cells oM 27),(3,.cells [.I,.hd 4 .I,.aR,.hd 5 .I,.hd 6 .I,.hd 7 .I,.aR,.aR] 27),(4,.arr .I 3),(5,.arr .I 3),(6,.arr .I 3),(7,.arr .I 3)]
abbrev ago:List (Nat×LO):=[(0,.arr .I 3),(1,.cells [.I,.I,.bool,.fz bO,.fz bu] 97),(2,.cells [.I,.I,.bool,.aR,.aR] 97),(3,.cells [.I,.I,.bool,.hd 4 bO,.aR] 97),(4,.arr bO 148),(5,.cells [.I,.fz .I] 148)]
abbrev agp:List (Nat×LO):=[(0,.arr .I 3),(1,.cells [.I,.I,.bool,.fz bO,.fz bu] 97),(2,.cells [.I,.I,.bool,.aR,.aR] 97),(3,.cells [.I,.I,.bool,.hd 4 bO,.aR] 97),(4,.arr bO 148)]
abbrev agq:List (Nat×LO):=[(0,.cells dx 27),(1,.cells oM 27),(2,.cells [.I,.fz .I,.fz ae,.fz .I,.fz .I,.fz .I,.fz ai,.hd 3 ae] 27),(3,.arr ae 113)]
abbrev qg:List (Nat×LO):=[(0,.arr .I 3)]
abbrev acg:ak:=⟨[(4,.ptr 1 0),(5,.bool)],[(0,.arr .I 3),(1,.cells [.I,.I,.bool,.aR,.aR] 97)],2⟩
abbrev O4:List (Tmp×LA):=[(1,.hd 0 .I),(2,.ptr 1 0),(4,.ptr 2 0),(7,.ptr 3 0)]
abbrev ach:List LA:=[.I,.fz .I,.fz ae,.fz .I,.fz .I,.fz .I,.fz ai,.hd 2 ae]
abbrev aci:ak:=⟨[(1,.ptr 1 0),(3,.hd 2 .I),(5,.I)],vl,3⟩
abbrev O5:List (Nat×LO):=[(0,.arr .I 3),(1,.arr .I 3)]
abbrev WM:ak:=⟨[(0,.hd 0 .I),(1,.I)],qg,1⟩
abbrev KS:List (Ev.Ex×ak):=[(.ret,⟨[(0,.bool)],qg,1⟩)]
abbrev XX:=be WM KS
abbrev Mr:=Kb 192 2 WM 1 KS
abbrev B7:ak:=⟨[(0,.hd 0 .I),(1,.I),(5,.hd 1 .bool),(6,.I)],[(0,.arr .I 3),(1,.arr .bool 4)],2⟩
abbrev BA:List (Ev.Ex×ak):=[(.ret,⟨[(4,.bool)],qg,1⟩),((.exit 0),⟨[],qg,1⟩)]
abbrev XD:=be B7 BA
abbrev XC:=Ld 1 54 (bI [0] (bt Tryz.f192)) B7 BA
def CY(t1 t6:Int)(b0:jp)(b1:kw):am B7 BA:=
 br (iE t6 t1)
 (
  aj (an t6 b0.length)<|
  br (iL (gt .I b0 t6) (1:Int))
  (
   aum (.inl (false,b0,())))
  (
   aj (an t6 b0.length)<|
   br (bK false true (iL t1 (gt .I b0 t6)))
   (
    aum (.inl (false,b0,())))
   (
    aj (an t6 b0.length)<|
    aj (an (gt .I b0 t6) b1.length)<|
    br (bK false true (gt .bool b1 (gt .I b0 t6)))
    (
     aum (.inl (false,b0,())))
    (
     aj (an t6 b0.length)<|
     aj (an (gt .I b0 t6) b1.length)<|
     aul (t1,(pu (t6+(1:Int))),b0,(List.set b1 (Int.toNat (gt .I b0 t6)) true),())))))
 (
  aum (.inr (b0,())))
def aih  :XC:=bJ (u4 CY) (pL k0 e0 1 l0 fun d=>aud)
def LV:XD:=bj (u4 CY) NN
def Mt(L5:XD)(t1:Int)(b0:jp):Option (Out KS):=
 br (Bool.not (iQ (Int.ofNat b0.length) (pu (t1+(1:Int)))))
 (
  some (false,b0,()))
 (
  aj (an (0:Int) b0.length)<|
  br (bK false true (Bool.not (iQ (gt .I b0 (0:Int)) (0:Int))))
  (
   some (false,b0,()))
  (
   aj (both (iE (0:Int) (pu (t1+(1:Int)))) (both (iE (pu (t1+(1:Int))) (pu (t1+(1:Int)))) (iE ((Int.ofNat 1)*(pu (t1+(1:Int)))) (281474976710656:Int))))<|
   aA (L5 (t1,(1:Int),b0,(List.replicate (Int.toNat (pu (t1+(1:Int)))) (Sh.zero .bool)),())) fun x0=>
   (match x0 with|.inl x1=>some x1|.inr x1=>some (true,x1.1,())
   )))
def aiC(M5:XC):Mr:=⟨u2 (Mt M5.L),pB Tryz.func192 54 k0 e0 1 (sS (sC M5 l0)) fun d=>aud⟩
def XW:Mr:=aiC  aih
def aif:XX:=XW.F
abbrev XE:ak:=⟨[(0,.I),(1,.hd 0 .I)],qg,1⟩
abbrev Lj:List (Ev.Ex×ak):=[(.ret,⟨[(0,.I)],qg,1⟩)]
abbrev qG:=be XE Lj
abbrev pj:=Kb 194 2 XE 1 Lj
def Mz(F0:Mk)(F1:Rp)(F2:tm)(t0:Int)(b0:jp):Option (Out Lj):=
 aA (F2 (t0,())) fun x0=>
 aj (an x0.1 b0.length)<|
 aA (F1 (t0,())) fun x1=>
 aA (F0 ((gt .I b0 x0.1),x1.1,())) fun x2=>
 some (x2.1,b0,())
def aiP(c0:De)(c1:G1)(c2:rh) :pj:=⟨u2 (Mz c0.F c1.F c2.F),pB Tryz.func194 13 (kD c0 (kD c1 (kD c2 k0))) e0 1 (sS l0) fun d=>aud⟩
def qF:pj:=aiP Mj Rq tn
def uc:qG:=qF.F
abbrev WS:ak:=⟨[(0,.fz .I),(1,.hd 0 .I)],qg,1⟩
abbrev KV:List (Ev.Ex×ak):=[(.ret,⟨[(0,.hd 1 .I)],O5,2⟩)]
abbrev wu:=be WS KV
abbrev ud:=Kb 193 2 WS 1 KV
abbrev Ca:ak:=⟨[(0,.fz .I),(1,.hd 0 .I),(5,.hd 1 .I),(6,.I)],O5,2⟩
abbrev BE:List (Ev.Ex×ak):=[((.exit 0),⟨[(5,.hd 1 .I)],O5,2⟩)]
abbrev XH:=be Ca BE
abbrev LX:=Ld 1 23 (bI [0] (bt Tryz.f193)) Ca BE
def XF(F0:qG)(t0:jp)(t6:Int)(b0 b1:jp):am Ca BE:=
 br (iL t6 (Int.ofNat t0.length))
 (
  aj (an t6 t0.length)<|
  aA (F0 ((gt .I t0 t6),b0,())) fun x0=>
  aj (room 8 (List.length (ap b1 (x0.1::[]))))<|
  aul (t0,(pu (t6+(1:Int))),x0.2.1,(ap b1 (x0.1::[])),()))
 (
  aum (b0,b1,()))
def aii(c0:pj) :LX:=bJ (u4 (XF c0.F)) (pL (kB c0 k0) e0 1 l0 fun d=>aud)
def aij:LX:=aii qF
def XG:XH:=bj (u4 (XF uc)) NN
def aiD(F0:qG)(L3:XH)(t0 b0:jp):Option (Out KV):=
 aA (L3 (t0,(0:Int),b0,[],())) fun x0=>
 some x0
def aiE(c0:pj)(M3:LX):ud:=⟨u2 (aiD c0.F M3.L),pB Tryz.func193 23 (kB c0 k0) e0 1 (sS (sC M3 l0)) fun d=>aud⟩
def wt:ud:=aiE qF aij
def LY:wu:=wt.F
abbrev VL:ak:=⟨[(0,.agg [.I,.I,.bool,.fz bO,.fz bu]),(1,.hd 0 .I)],qg,1⟩
abbrev Kp:List (Ev.Ex×ak):=[(.ret,⟨[(0,.agg [.I,.I,.bool,.hd 1 bO,.hd 2 bu]),(1,.bool)],[(0,.arr .I 3),(1,.arr bO 148),(2,.arr bu 174)],3⟩)]
abbrev Ll:=be VL Kp
abbrev Ct:=Kb 195 2 VL 2 Kp
abbrev AL:ak:=⟨[(1,.hd 0 .I),(2,.ptr 1 0),(4,.ptr 2 0),(6,.ptr 3 0),(10,.I)],[(0,.arr .I 3),(1,.cells [.I,.I,.bool,.fz bO,.fz bu] 97),(2,.cells [.I,.I,.bool,.aR,.aR] 97),(3,.cells [.I,.I,.bool,.hd 4 bO,.hd 5 bu] 97),(4,.arr bO 148),(5,.arr bu 174)],6⟩
abbrev Aq:List (Ev.Ex×ak):=[((.exit 4),⟨[(4,.ptr 1 0),(6,.ptr 2 0)],[(0,.arr .I 3),(1,.cells [.I,.I,.bool,.aR,.aR] 97),(2,.cells [.I,.I,.bool,.hd 3 bO,.hd 4 bu] 97),(3,.arr bO 148),(4,.arr bu 174)],5⟩)]
abbrev VK:=be AL Aq
abbrev KF:=Ld 1 99 (bI [1] (bt Tryz.f195)) AL Aq
abbrev Bb:ak:=⟨[(1,.hd 0 .I),(2,.ptr 1 0),(4,.ptr 2 0),(6,.ptr 3 0),(7,.I)],agp,5⟩
abbrev AM:List (Ev.Ex×ak):=[(.ret,acg),((.exit 0),⟨[(1,.hd 0 .I),(2,.ptr 1 0),(4,.ptr 2 0),(6,.ptr 3 0)],agp,5⟩)]
abbrev Wn:=be Bb AM
abbrev KX:=Ld 1 99 (bI [0] (bt Tryz.f195)) Bb AM
abbrev Bc:ak:=⟨[(1,.hd 0 .I),(2,.ptr 1 0),(4,.ptr 2 0),(6,.ptr 3 0),(7,.I),(8,.ptr 5 0),(9,.I)],ago,6⟩
abbrev AN:List (Ev.Ex×ak):=[(.ret,acg),((.exit 2),⟨[(1,.hd 0 .I),(2,.ptr 1 0),(4,.ptr 2 0),(6,.ptr 3 0),(7,.I),(8,.ptr 5 0)],ago,6⟩)]
abbrev K2:=be Bc AN
abbrev KY:=Ld 1 99 (bI [0,0] (bt Tryz.f195)) Bc AN
def Wj(t7 t9:Int)(b0:jp)(bc cq:Int)(bN:Bool)(bW:ge)(bH:ii)(bE cY:Int)(cZ:Bool)(fJ oG:Int)(jo:Bool)(b4:ge)(ly:Int)(tu:jp):am Bc AN:=
 br (iL t9 cq)
 (
  aj (an (pu (ly+t9)) b0.length)<|
  aj (an ly b0.length)<|
  br (Bool.not (iQ (gt .I b0 (pu (ly+t9))) (pu (pm (gt .I b0 ly) t9))))
  (
   aum (.inl (false,b0,(0:Int),(0:Int),false,())))
  (
   aul (t7,(pu (t9+(1:Int))),b0,bc,cq,bN,bW,bH,bE,cY,cZ,fJ,oG,jo,b4,ly,tu,())))
 (
  aum (.inr (t7,b0,bc,cq,bN,bW,bH,bE,cY,cZ,fJ,oG,jo,b4,ly,tu,())))
def Wm  :KY:=bJ (gK Wj) (pL k0 e0 1 l0 fun d=>aud)
def KZ:K2:=bj (gK Wj) NN
def KW(F1:wu)(L7:K2)(t7:Int)(b0:jp)(bc cq:Int)(bN:Bool)(bW:ge)(bH:ii)(bE cY:Int)(cZ:Bool)(fJ oG:Int)(jo:Bool)(b4:ge):am Bb AM:=
 br (iL t7 (Int.ofNat bW.length))
 (
  aj (an t7 bW.length)<|
  aA (L7 (t7,(0:Int),b0,bc,cq,bN,bW,bH,bE,cY,cZ,fJ,oG,jo,b4,(gt bO bW t7))) fun x0=>
  (match x0 with
  |.inl x1=>aum (.inl x1)|.inr x1=>
   aj (an (aV x1).2.2.1 (List.length x1.2.1))<|
   aA (F1 (cu (aV x1),x1.2.1,())) fun x2=>
   aj (iQ (aV x1).2.2.1 (aV x1).2.2.1)<|
   aj (an (aV x1).2.2.1 (List.length x2.1))<|
   aj (nQ (Int.toNat (aV x1).2.2.1) (Int.toNat (aV x1).2.2.1))<|
   aj (iQ (gt .I x1.2.1 (aV x1).2.2.1) (gt .I x2.1 (aV x1).2.2.1))<|
   aj (room 32 (List.length (ap (aV x1).2.1 (((gt .I x1.2.1 (aV x1).2.2.1),x2.2.1,())::[]))))<|
   aul ((pu (pm x1.1 (1:Int))),x2.1,x1.2.2.1,cu x1,cB x1,cG x1,c9 x1,dj x1,dN x1,ef x1,dE x1,fj x1,eW x1,(ap (aV x1).2.1 (((gt .I x1.2.1 (aV x1).2.2.1),x2.2.1,())::[])),())
  ))
 (
  aum (.inr (b0,bc,cq,bN,bW,bH,bE,cY,cZ,fJ,oG,jo,b4,())))
def ahA(c1:ud)(M7:KY):KX:=bJ (gA (KW c1.F M7.L)) (pL (kB c1 k0) e0 1 (sC M7 l0) fun d=>aud)
def ahB:KX:=ahA wt Wm
def Wl:Wn:=bj (gA (KW LY KZ)) NN
def KE(F0:qG)(F1:wu)(t10:Int)(b0:jp)(bc cq:Int)(bN:Bool)(bW:ge)(bH:ii)(bE cY:Int)(cZ:Bool)(fJ oG:Int)(jo:Bool)(b4:ge)(b5:ii):am AL Aq:=
 br (iL t10 (Int.ofNat bH.length))
 (
  aj (an t10 bH.length)<|
  aA (F0 ((gt bu bH t10).1,b0,())) fun x0=>
  aj (iP (Sh.beq .I) (gt bu bH t10).2.1 (gt bu bH t10).2.1)<|
  aj (iP (Sh.beq .I) (gt bu bH t10).2.2.1 (gt bu bH t10).2.2.1)<|
  aA (F1 ((gt bu bH t10).2.1,x0.2.1,())) fun x1=>
  aj (iP (Sh.beq .I) (gt bu bH t10).2.2.1 (gt bu bH t10).2.2.1)<|
  aA (F1 ((gt bu bH t10).2.2.1,x1.1,())) fun x2=>
  aj (room 56 (List.length (ap b5 ((x0.1,x1.2.1,x2.2.1,())::[]))))<|
  aul ((pu (t10+(1:Int))),x2.1,bc,cq,bN,bW,bH,bE,cY,cZ,fJ,oG,jo,b4,(ap b5 ((x0.1,x1.2.1,x2.2.1,())::[])),()))
 (
  aum (b0,bE,cY,cZ,fJ,oG,jo,b4,b5,()))
def ahi(c0:pj)(c1:ud) :KF:=bJ (fW (KE c0.F c1.F)) (pL (kB c0 (kB c1 k0)) e0 1 l0 fun d=>aud)
def ahj:KF:=ahi qF wt
def VJ:VK:=bj (fW (KE uc LY)) NN
def ahQ(F0:qG)(F1:wu)(L3:Wn)(L7:K2)(L13:VK)(eo jK:Int)(jL:Bool)(kV:ge)(kj:ii)(b0:jp):Option (Out Kp):=
 aA (L3 ((0:Int),b0,eo,jK,jL,kV,kj,(0:Int),(0:Int),false,eo,jK,jL,[],())) fun x0=>
 (match x0 with
 |.inl x1=>some (x1.2.2.1,cu x1,cB x1,x1.1,x1.2.1,[],[],())|.inr x1=>
  aA (L13 ((0:Int),x1.1,x1.2.1,x1.2.2.1,cu x1,cB x1,cG x1,c9 x1,dj x1,dN x1,ef x1,dE x1,fj x1,eW x1,[],())) fun x2=>
  some (cB x2,cG x2,c9 x2,true,x2.1,qq7 x2)
 )
def ahR(c0:pj)(c1:ud)(M3:KX)(M7:KY)(M13:KF):Ct:=⟨u6 (ahQ c0.F c1.F M3.L M7.L M13.L),pB Tryz.func195 99 (kB c0 (kB c1 k0)) e0 1 (sS (sC M3 (sC M13 l0))) fun d=>aud⟩
def Lk:Ct:=ahR qF wt ahB Wm ahj
def Wk:Ll:=Lk.F
abbrev VH:ak:=⟨[(0,.agg dx),(1,.hd 0 .I)],qg,1⟩
abbrev Ko:List (Ev.Ex×ak):=[(.ret,⟨[(0,.agg [.I,.hd 1 .I,.hd 2 ae,.hd 3 .I,.hd 4 .I,.hd 5 .I,.hd 6 ai,.hd 7 ae]),(1,.I)],[(0,.arr .I 3),(1,.arr .I 3),(2,.arr ae 78),(3,.arr .I 3),(4,.arr .I 3),(5,.arr .I 3),(6,.arr ai 97),(7,.arr ae 113)],8⟩)]
abbrev WR:=be VH Ko
abbrev Li:=Kb 154 2 VH 2 Ko
abbrev AJ:ak:=⟨[(1,.hd 0 .I),(2,.ptr 1 0),(4,.ptr 2 0),(7,.ptr 3 0),(14,.I)],[(0,.arr .I 3),(1,.cells dx 27),(2,.cells oM 27),(3,.cells [.I,.hd 4 .I,.hd 5 ae,.hd 6 .I,.hd 7 .I,.hd 8 .I,.hd 9 ai,.hd 10 ae] 27),(4,.arr .I 3),(5,.arr ae 78),(6,.arr .I 3),(7,.arr .I 3),(8,.arr .I 3),(9,.arr ai 97),(10,.arr ae 113)],11⟩
abbrev Ap:List (Ev.Ex×ak):=[((.exit 6),⟨[(4,.ptr 1 0),(7,.ptr 2 0)],[(0,.arr .I 3),(1,.cells oM 27),(2,.cells [.I,.hd 3 .I,.hd 4 ae,.hd 5 .I,.hd 6 .I,.hd 7 .I,.hd 8 ai,.hd 9 ae] 27),(3,.arr .I 3),(4,.arr ae 78),(5,.arr .I 3),(6,.arr .I 3),(7,.arr .I 3),(8,.arr ai 97),(9,.arr ae 113)],10⟩)]
abbrev VG:=be AJ Ap
abbrev KD:=Ld 1 150 (bI [3] (bt Tryz.f154)) AJ Ap
abbrev AH:ak:=⟨[(1,.hd 0 .I),(2,.ptr 1 0),(4,.ptr 2 0),(7,.ptr 3 0),(11,.I)],agl,10⟩
abbrev Ak:List (Ev.Ex×ak):=[(.ret,⟨[(4,.ptr 1 0),(5,.I)],[(0,.arr .I 3),(1,.cells oM 27)],2⟩),((.exit 4),⟨O4,agl,10⟩)]
abbrev VF:=be AH Ak
abbrev KC:=Ld 1 150 (bI [2] (bt Tryz.f154)) AH Ak
abbrev AG:ak:=⟨[(1,.hd 0 .I),(2,.ptr 1 0),(4,.ptr 2 0),(7,.ptr 3 0),(9,.I)],agm,9⟩
abbrev Aj:List (Ev.Ex×ak):=[((.exit 2),⟨O4,agm,9⟩)]
abbrev VE:=be AG Aj
abbrev KB:=Ld 1 150 (bI [1] (bt Tryz.f154)) AG Aj
abbrev Ba:ak:=⟨[(1,.hd 0 .I),(2,.ptr 1 0),(4,.ptr 2 0),(7,.ptr 3 0),(8,.I)],agn,8⟩
abbrev AK:List (Ev.Ex×ak):=[((.exit 0),⟨O4,agn,8⟩)]
abbrev Wi:=be Ba AK
abbrev Wf:=Ld 1 150 (bI [0] (bt Tryz.f154)) Ba AK
def We(t8:Int)(b0:jp)(bc:Int)(cq:jp)(bN:bv)(bW bH dc:jp)(cx:ce)(cP:bv)(bE fJ:Int)(b4 b5 b6 b7:jp):am Ba AK:=
 br (iL t8 (Int.ofNat cq.length))
 (
  aj (an t8 cq.length)<|
  aj (an (gt .I cq t8) b0.length)<|
  aj (room 8 (List.length (ap b4 ((gt .I b0 (gt .I cq t8))::[]))))<|
  aul ((pu (t8+(1:Int))),b0,bc,cq,bN,bW,bH,dc,cx,cP,bE,fJ,(ap b4 ((gt .I b0 (gt .I cq t8))::[])),b5,b6,b7,()))
 (
  aum (b0,bc,cq,bN,bW,bH,dc,cx,cP,bE,fJ,b4,b5,b6,b7,()))
def ahz  :Wf:=bJ (u16 We) (pL k0 e0 1 l0 fun d=>aud)
def Wh:Wi:=bj (u16 We) NN
def Ky(F2:qG)(t9:Int)(b0:jp)(bc:Int)(cq:jp)(bN:bv)(bW bH dc:jp)(cx:ce)(cP:bv)(bE fJ:Int)(b4:jp)(b5:bv)(b6 b7 b8:jp):am AG Aj:=
 br (iL t9 (Int.ofNat bN.length))
 (
  aj (an t9 bN.length)<|
  aj (an (gt ae bN t9).1 b0.length)<|
  aA (F2 ((gt ae bN t9).2.1,b0,())) fun x0=>
  aj (iQ (gt ae bN t9).1 (gt ae bN t9).1)<|
  aj (an (gt ae bN t9).1 (List.length x0.2.1))<|
  aj (nQ (Int.toNat (gt ae bN t9).1) (Int.toNat (gt ae bN t9).1))<|
  aj (iQ (gt .I b0 (gt ae bN t9).1) (gt .I x0.2.1 (gt ae bN t9).1))<|
  aj (iQ (gt ae bN t9).2.2.1 (gt ae bN t9).2.2.1)<|
  aj (room 24 (List.length (ap b5 (((gt .I b0 (gt ae bN t9).1),x0.1,(gt ae bN t9).2.2.1,())::[]))))<|
  aul ((pu (t9+(1:Int))),x0.2.1,bc,cq,bN,bW,bH,dc,cx,cP,bE,fJ,b4,(ap b5 (((gt .I b0 (gt ae bN t9).1),x0.1,(gt ae bN t9).2.2.1,())::[])),b6,b7,b8,()))
 (
  aum (b0,bc,cq,bN,bW,bH,dc,cx,cP,bE,fJ,b4,b5,b6,b7,b8,()))
def ahc(c2:pj) :KB:=bJ (gK (Ky c2.F)) (pL (kB c2 k0) e0 1 l0 fun d=>aud)
def ahf:KB:=ahc qF
def VB:VE:=bj (gK (Ky uc)) NN
def Kz(F1:Ll)(t11:Int)(b0:jp)(bc:Int)(cq:jp)(bN:bv)(bW bH dc:jp)(cx:ce)(cP:bv)(bE fJ:Int)(b4:jp)(b5:bv)(b6 b7 b8:jp)(b9:ce):am AH Ak:=
 br (iL t11 (Int.ofNat cx.length))
 (
  aj (an t11 cx.length)<|
  aA (F1 ((gt ai cx t11).1,(gt ai cx t11).2.1,(gt ai cx t11).2.2.1,(gt ai cx t11).2.2.2.1,(gt ai cx t11).2.2.2.2.1,b0,())) fun x0=>
  br (Bool.not (cu x0))
  (
   aum (.inl ((9:Int),cB x0,(0:Int),())))
  (
   aj (room 72 (List.length (ap b9 ((x0.1,x0.2.1,x0.2.2.1,JS x0)::[]))))<|
   aul ((pu (t11+(1:Int))),cB x0,bc,cq,bN,bW,bH,dc,cx,cP,bE,fJ,b4,b5,b6,b7,b8,(ap b9 ((x0.1,x0.2.1,x0.2.2.1,JS x0)::[])),())))
 (
  aum (.inr (b0,bc,cq,bN,bW,bH,dc,cx,cP,bE,fJ,b4,b5,b6,b7,b8,b9,())))
def ahd(c1:Ct) :KC:=bJ (mC (Kz c1.F)) (pL (kB c1 k0) e0 1 l0 fun d=>aud)
def ahg:KC:=ahd Lk
def VC:VF:=bj (mC (Kz Wk)) NN
def KA(F2:qG)(t14:Int)(b0:jp)(bc:Int)(cq:jp)(bN:bv)(bW bH dc:jp)(cx:ce)(cP:bv)(bE fJ:Int)(b4:jp)(b5:bv)(b6 b7 b8:jp)(b9:ce)(b10:bv):am AJ Ap:=
 br (iL t14 (Int.ofNat cP.length))
 (
  aj (an t14 cP.length)<|
  aj (an (gt ae cP t14).1 b0.length)<|
  aA (F2 ((gt ae cP t14).2.1,b0,())) fun x0=>
  aj (iQ (gt ae cP t14).1 (gt ae cP t14).1)<|
  aj (an (gt ae cP t14).1 (List.length x0.2.1))<|
  aj (nQ (Int.toNat (gt ae cP t14).1) (Int.toNat (gt ae cP t14).1))<|
  aj (iQ (gt .I b0 (gt ae cP t14).1) (gt .I x0.2.1 (gt ae cP t14).1))<|
  aj (iQ (gt ae cP t14).2.2.1 (gt ae cP t14).2.2.1)<|
  aA (F2 ((gt ae cP t14).2.2.1,x0.2.1,())) fun x1=>
  aj (iQ (gt ae cP t14).1 (gt ae cP t14).1)<|
  aj (an (gt ae cP t14).1 (List.length x1.2.1))<|
  aj (nQ (Int.toNat (gt ae cP t14).1) (Int.toNat (gt ae cP t14).1))<|
  aj (iQ (gt .I b0 (gt ae cP t14).1) (gt .I x1.2.1 (gt ae cP t14).1))<|
  aj (room 24 (List.length (ap b10 (((gt .I b0 (gt ae cP t14).1),x0.1,x1.1,())::[]))))<|
  aul ((pu (t14+(1:Int))),x1.2.1,bc,cq,bN,bW,bH,dc,cx,cP,bE,fJ,b4,b5,b6,b7,b8,b9,(ap b10 (((gt .I b0 (gt ae cP t14).1),x0.1,x1.1,())::[])),()))
 (
  aum (b0,bE,fJ,b4,b5,b6,b7,b8,b9,b10,()))
def ahe(c2:pj) :KD:=bJ (nq (KA c2.F)) (pL (kB c2 k0) e0 1 l0 fun d=>aud)
def ahh:KD:=ahe qF
def VD:VG:=bj (nq (KA uc)) NN
def ahO(F0:GF)(F1:Ll)(F2:qG)(F3:wu)(F4:XX)(L8:Wi)(L12:VE)(L17:VF)(L24:VG)(eo:Int)(jK:jp)(jL:bv)(kV kj km:jp)(ko:ce)(mW:bv)(b0:jp):Option (Out Ko):=
 aA (F0 ((eo,jK,jL,kV,kj,km,ko,mW,()),())) fun x0=>
 br (Bool.not (iQ x0.1 (0:Int)))
 (
  some ((0:Int),x0.1,b0,[],[],[],[],[],[],[],()))
 (
  aA (F4 (eo,b0,())) fun x1=>
  br (Bool.not x1.1)
  (
   some ((0:Int),(1:Int),x1.2.1,[],[],[],[],[],[],[],()))
  (
   aA (F3 (kV,x1.2.1,())) fun x2=>
   aj (iQ eo eo)<|
   aj (iP (Sh.beq .I) kj kj)<|
   aj (iP (Sh.beq .I) km km)<|
   aA (F3 (kj,x2.1,())) fun x3=>
   aj (iQ eo eo)<|
   aj (iP (Sh.beq .I) km km)<|
   aA (F3 (km,x3.1,())) fun x4=>
   aj (iQ eo eo)<|
   aA (L8 ((0:Int),x4.1,eo,jK,jL,kV,kj,km,ko,mW,(0:Int),eo,[],x2.2.1,x3.2.1,x4.2.1,())) fun x5=>
   aA (L12 ((0:Int),x5.1,x5.2.1,x5.2.2.1,cu x5,cB x5,cG x5,c9 x5,dj x5,dN x5,ef x5,dE x5,fj x5,[],aV x5)) fun x6=>
   aA (L17 ((0:Int),x6.1,x6.2.1,x6.2.2.1,cu x6,cB x6,cG x6,c9 x6,dj x6,dN x6,ef x6,dE x6,fj x6,eW x6,(aV x6).2.1,(aV x6).2.2.1,cu (aV x6),[],())) fun x7=>
   (match x7 with
   |.inl x8=>some (x8.2.2.1,x8.1,x8.2.1,[],[],[],[],[],[],[],())|.inr x8=>
    aA (L24 ((0:Int),x8.1,x8.2.1,x8.2.2.1,cu x8,cB x8,cG x8,c9 x8,dj x8,dN x8,ef x8,dE x8,fj x8,eW x8,(aV x8).2.1,(aV x8).2.2.1,cu (aV x8),cB (aV x8),[],())) fun x9=>
    some (x9.2.2.1,(0:Int),x9.1,nk x9)
   )))
def ahP(c0:yd)(c1:Ct)(c2:pj)(c3:ud)(c4:Mr)(M8:Wf)(M12:KB)(M17:KC)(M24:KD):Li:=⟨u9 (ahO c0.F c1.F c2.F c3.F c4.F M8.L M12.L M17.L M24.L),pB Tryz.func154 150 (kD c0 (kB c1 (kB c2 (kB c3 (kB c4 k0))))) e0 1 (sS (sC M8 (sC M12 (sC M17 (sC M24 l0))))) fun d=>aud⟩
def WQ:Li:=ahP GG Lk qF wt XW ahz ahf ahg ahh
def Wg:WR:=WQ.F
abbrev UD:ak:=⟨[(0,.agg [.I,.fz .I,.fz ae,.fz .I,.fz .I,.fz .I,.fz ai,.hd 0 ae])],[(0,.arr ae 113)],1⟩
abbrev JV:List (Ev.Ex×ak):=[(.ret,⟨[(0,.hd 1 .I)],[(0,.arr ae 113),(1,.arr .I 3)],2⟩)]
abbrev U2:=be UD JV
abbrev Ki:=Kb 63 1 UD 1 JV
abbrev zz:ak:=⟨[(1,.ptr 1 0),(3,.hd 2 .I),(7,.I)],vl,3⟩
abbrev zx:List (Ev.Ex×ak):=[((.exit 6),⟨[(3,.hd 1 .I)],[(0,.arr ae 113),(1,.arr .I 3)],2⟩)]
abbrev UC:=be zz zx
abbrev Uz:=Ld 1 72 (bI [2] (bt Tryz.f63)) zz zx
abbrev zJ:ak:=aci
abbrev zB:List (Ev.Ex×ak):=[((.exit 2),⟨[(1,.ptr 1 0),(3,.hd 2 .I)],vl,3⟩)]
abbrev UK:=be zJ zB
abbrev JY:=Ld 1 72 (bI [1] (bt Tryz.f63)) zJ zB
abbrev zy:ak:=⟨[(1,.ptr 1 0),(3,.hd 2 .I),(5,.I),(6,.I)],vl,3⟩
abbrev zw:List (Ev.Ex×ak):=[((.exit 4),aci)]
abbrev JX:=be zy zw
abbrev zY:=Ld 1 72 (bI [1,0] (bt Tryz.f63)) zy zw
abbrev zI:ak:=⟨[(1,.ptr 1 0),(3,.hd 2 .I),(4,.I)],vl,3⟩
abbrev zA:List (Ev.Ex×ak):=[((.exit 0),⟨[(1,.ptr 1 0),(3,.hd 2 .I)],vl,3⟩)]
abbrev UJ:=be zI zA
abbrev UG:=Ld 1 72 (bI [0] (bt Tryz.f63)) zI zA
def UE(t4:Int)(b0:bv)(bc:Int)(cq:jp)(bN:bv)(bW bH dc:jp)(cx:ce)(b2:jp):am zI zA:=
 br (iL t4 (Int.ofNat bN.length))
 (
  aj (an t4 bN.length)<|
  aj (room 8 (List.length (ap b2 ((gt ae bN t4).1::[]))))<|
  aul ((pu (t4+(1:Int))),b0,bc,cq,bN,bW,bH,dc,cx,(ap b2 ((gt ae bN t4).1::[])),()))
 (
  aum (b0,bc,cq,bN,bW,bH,dc,cx,b2,()))
def agN  :UG:=bJ (ei UE) (pL k0 e0 1 l0 fun d=>aud)
def UH:UJ:=bj (ei UE) NN
def zX(F0:tp)(t5 t6:Int)(b0:bv)(bc:Int)(cq:jp)(bN:bv)(bW bH dc:jp)(cx:ce)(b2:jp):am zy zw:=
 aj (an t5 cx.length)<|
 br (iL t6 (Int.ofNat (List.length (gt ai cx t5).2.2.2.1)))
 (
  aj (an t5 cx.length)<|
  aA (F0 ((gt ai cx t5),t6,())) fun x0=>
  aj (room 8 (List.length (ap b2 x0.1)))<|
  aul (t5,(pu (t6+(1:Int))),b0,bc,cq,bN,bW,bH,dc,cx,(ap b2 x0.1),()))
 (
  aum (t5,b0,bc,cq,bN,bW,bH,dc,cx,b2,()))
def agK(c0:ri) :zY:=bJ (ju (zX c0.F)) (pL (kD c0 k0) e0 1 l0 fun d=>aud)
def UB:zY:=agK tt
def JW:JX:=bj (ju (zX II)) NN
def UF(L10:JX)(t5:Int)(b0:bv)(bc:Int)(cq:jp)(bN:bv)(bW bH dc:jp)(cx:ce)(b2:jp):am zJ zB:=
 br (iL t5 (Int.ofNat cx.length))
 (
  aA (L10 (t5,(0:Int),b0,bc,cq,bN,bW,bH,dc,cx,b2,())) fun x0=>
  aul ((pu (pm x0.1 (1:Int))),x0.2))
 (
  aum (b0,bc,cq,bN,bW,bH,dc,cx,b2,()))
def agM(M10:zY):JY:=bJ (ei (UF M10.L)) (pL k0 e0 1 (sC M10 l0) fun d=>aud)
def agO:JY:=agM  UB
def UI:UK:=bj (ei (UF JW)) NN
def Uy(t7:Int)(b0:bv)(bc:Int)(cq:jp)(bN:bv)(bW bH dc:jp)(cx:ce)(b2:jp):am zz zx:=
 br (iL t7 (Int.ofNat b0.length))
 (
  aj (an t7 b0.length)<|
  aj (room 8 (List.length (ap b2 ((gt ae b0 t7).1::[]))))<|
  aul ((pu (t7+(1:Int))),b0,bc,cq,bN,bW,bH,dc,cx,(ap b2 ((gt ae b0 t7).1::[])),()))
 (
  aum (b0,b2,()))
def agL  :Uz:=bJ (ei Uy) (pL k0 e0 1 l0 fun d=>aud)
def UA:UC:=bj (ei Uy) NN
def agV(F0:tp)(L3:UJ)(L7:UK)(L10:JX)(L14:UC)(eo:Int)(jK:jp)(jL:bv)(kV kj km:jp)(ko:ce)(b0:bv):Option (Out JV):=
 aj (room 8 (List.length (ap [] jK)))<|
 aA (L3 ((0:Int),b0,eo,jK,jL,kV,kj,km,ko,(ap [] jK),())) fun x0=>
 aA (L7 ((0:Int),x0)) fun x1=>
 aA (L14 ((0:Int),x1)) fun x2=>
 some x2
def agW(c0:ri)(M3:UG)(M7:JY)(M10:zY)(M14:Uz):Ki:=⟨u8 (agV c0.F M3.L M7.L M10.L M14.L),pB Tryz.func63 72 (kD c0 k0) e0 1 (sS (sC M3 (sC M7 (sC M14 l0)))) fun d=>aud⟩
def U1:Ki:=agW tt agN agO UB agL
def JZ:U2:=U1.F
abbrev AF:ak:=⟨[(2,.ptr 0 0),(10,.hd 1 .I),(12,.ptr 2 0),(13,.I),(14,.I)],agk,10⟩
abbrev Ah:List (Ev.Ex×ak):=[((.exit 4),⟨[(2,.ptr 0 0),(10,.hd 1 .I),(12,.ptr 2 0),(13,.I)],agk,10⟩)]
abbrev VA:=be AF Ah
abbrev Vy:=Ld 0 112 (bI [2] (bt Tryz.f120)) AF Ah
abbrev AE:ak:=⟨[(2,.ptr 0 0),(7,.ptr 1 0),(9,.hd 3 .I),(10,.hd 4 .I),(11,.I)],[(0,.cells oM 27),(1,.cells ach 27),(2,.arr ae 113),(3,.arr .I 3),(4,.arr .I 3)],5⟩
abbrev Ag:List (Ev.Ex×ak):=[((.exit 2),⟨[(2,.ptr 0 0),(7,.ptr 1 0),(10,.hd 3 .I)],[(0,.cells oM 27),(1,.cells ach 27),(2,.arr ae 113),(3,.arr .I 3)],4⟩)]
abbrev Vz:=be AE Ag
abbrev Vx:=Ld 0 112 (bI [1] (bt Tryz.f120)) AE Ag
abbrev vZ:ak:=⟨[(1,.ptr 0 0),(2,.ptr 1 0),(5,.fz bT),(7,.ptr 2 0),(8,.I)],agq,4⟩
abbrev vX:List (Ev.Ex×ak):=[((.exit 0),⟨[(1,.ptr 0 0),(2,.ptr 1 0),(7,.ptr 2 0)],agq,4⟩)]
abbrev Wc:=be vZ vX
abbrev Wa:=Ld 0 112 (bI [0] (bt Tryz.f120)) vZ vX
def B8(t5:ip)(t8 ay:Int)(aC:jp)(av:bv)(aD aE aI:jp)(au:ce)(aw:bv)(bc bE:Int)(cY:jp)(cZ:bv)(de ct cS:jp)(dq:ce)(b3:bv):am vZ vX:=
 br (iL t8 (Int.ofNat t5.length))
 (
  aj (an t8 t5.length)<|
  br (Bool.not (gt bT t5 t8).1)
  (
   aj (an t8 t5.length)<|
   aj (an (gt bT t5 t8).2.2.1 aw.length)<|
   aj (room 24 (List.length (ap b3 ((gt ae aw (gt bT t5 t8).2.2.1)::[]))))<|
   aul (t5,(pu (t8+(1:Int))),ay,aC,av,aD,aE,aI,au,aw,bc,bE,cY,cZ,de,ct,cS,dq,(ap b3 ((gt ae aw (gt bT t5 t8).2.2.1)::[])),()))
  (
   aul (t5,(pu (t8+(1:Int))),ay,aC,av,aD,aE,aI,au,aw,bc,bE,cY,cZ,de,ct,cS,dq,b3,())))
 (
  aum (ay,aC,av,aD,aE,aI,au,aw,bc,bE,cY,cZ,de,ct,cS,dq,b3,()))
def ahy  :Wa:=bJ (nq B8) (pL k0 e0 1 l0 fun d=>aud)
def KT:Wc:=bj (nq B8) NN
def BB(t11 ay bc:Int)(cq:jp)(bN:bv)(bW bH dc:jp)(cx:ce)(b2:bv)(b3 b4:jp):am AE Ag:=
 br (iL t11 (Int.ofNat b3.length))
 (
  aj (an t11 b3.length)<|
  aj (an (gt .I b3 t11) b4.length)<|
  aul ((pu (t11+(1:Int))),ay,bc,cq,bN,bW,bH,dc,cx,b2,b3,(List.set b4 (Int.toNat (gt .I b3 t11)) (pu (t11+(1:Int)))),()))
 (
  aum (ay,bc,cq,bN,bW,bH,dc,cx,b2,b4,()))
def aha  :Vx:=bJ (bV BB) (pL k0 e0 1 l0 fun d=>aud)
def BD:Vz:=bj (bV BB) NN
def BC(t13 t14 ay:Int)(b1:jp)(bE:Int)(b3:jp)(b4:bv)(b5 b6 b7:jp)(b8:ce)(b9:bv):am AF Ah:=
 br (iL t14 (Int.ofNat b9.length))
 (
  aj (an t14 b9.length)<|
  aj (an t14 b9.length)<|
  aul (t13,(pu (t14+(1:Int))),ay,b1,bE,b3,b4,b5,b6,b7,b8,(List.set b9 (Int.toNat t14) ((gt ae b9 t14).1,(fD (iL (gt ae b9 t14).2.1 (gt ae b9 t14).2.2.1) (gt ae b9 t14).2.2.1 (gt ae b9 t14).2.1),(fD (iL (gt ae b9 t14).2.2.1 (gt ae b9 t14).2.1) (gt ae b9 t14).2.2.1 (gt ae b9 t14).2.1),())),()))
 (
  aum (t13,ay,b1,bE,b3,b4,b5,b6,b7,b8,b9,()))
def ahb  :Vy:=bJ (bV BC) (pL k0 e0 1 l0 fun d=>aud)
def Kx:VA:=bj (bV BC) NN
abbrev Wd:List Sh:=[cJ]
abbrev KU:List Sh:=[cJ,(.sl .I),.I]
abbrev WO:=TL Wd->Option (TL KU)
abbrev Lg:=Kd 120 Wd KU
def Lh(F0:GF)(F1:afc)(F2:WR)(F3:U2)(L7:Wc)(L14:Vz)(L19:VA)(a0:Sh.T cJ):Option (TL KU):=
 aA (F1 (a0,())) fun x0=>
 br (Bool.not x0.2.1)
 (
  aA (F0 (a0,())) fun x1=>
  some (((0:Int),[],[],[],[],[],[],[],()),[],x1.1,()))
 (
  aA (L7 (x0.1,(0:Int),a0.1,a0.2.1,a0.2.2.1,cu a0,cB a0,cG a0,c9 a0,dj a0,(0:Int),a0.1,a0.2.1,a0.2.2.1,cu a0,cB a0,cG a0,c9 a0,[],())) fun x1=>
  aA (F3 (JT x1)) fun x2=>
  aj (both (iE (0:Int) (pu (pm x1.1 (1:Int)))) (both (iE (pu (pm x1.1 (1:Int))) (pu (pm x1.1 (1:Int)))) (iE ((Int.ofNat 8)*(pu (pm x1.1 (1:Int)))) (281474976710656:Int))))<|
  aA (L14 ((0:Int),dN x1,ef x1,dE x1,fj x1,eW x1,(aV x1).2.1,(aV x1).2.2.1,cu (aV x1),x2.1,x2.2.1,(List.replicate (Int.toNat (pu (pm x1.1 (1:Int)))) (Sh.zero .I)),())) fun x3=>
  aA (F2 x3.2) fun x4=>
  aA (L19 (x4.2.1,(0:Int),x3.1,x4.2.2.1,x4.1,nk x4)) fun x5=>
  some (nk x5,x5.2.2.1,x5.1,()))
def ahN(c0:yd)(c1:Q7)(c2:Li)(c3:Ki)(M7:Wa)(M14:Vx)(M19:Vy):Lg:=⟨u1 (Lh c0.F c1.F c2.F c3.F M7.L M14.L M19.L),pD Tryz.func120 112 (kD c0 (kD c1 (kB c2 (kB c3 k0)))) e0 1 (sS (sC M7 (sC M14 (sC M19 l0)))) fun d=>aud⟩
def WN:Lg:=ahN GG afd WQ U1 ahy aha ahb
def Wb:WO:=WN.F
