import Derived.Test.YtkcpdpplobhpaaaGreatWRd
set_option linter.unusedVariables false
set_option linter.unusedSimpArgs false
set_option linter.unnecessarySimpa false
section
namespace Go.Proofs.YtkcpdpplobhpaaaGreat.V
open Go Go.RowKit
set_option maxRecDepth 1000000
abbrev acn:Lay:={ T:=[(0,.ej (.int .i64))],h:=[],nx:=0 }
abbrev Gm:List (Ev.Ex×Lay):=[(.ret,{ T:=[(0,.hd 0 (.int .i64))],h:=[(0,.arr (.int .i64) 3)],nx:=1 })]
abbrev RA:=Kb 131 1 acn 1 Gm
def acs(t0z:Bool)(t0:List Int):Option (Out Gm):=
 br t0z
 (
  some ([],()))
 (
  ai (room 8 (List.length (ap [] t0)))<|
  some ((ap [] t0),()))
def acu  :RA:=⟨u2 acs,pB Tryz.func131 8 k0 e0 1 (sS l0) fun d=>by kernel_rfl⟩
def acv:RA:=acu
abbrev Rp:Lay:={ T:=[(0,.fz (.int .i64))],h:=[],nx:=0 }
abbrev Rl:List (Ev.Ex×Lay):=Gm
abbrev rV:=TL Rp.σs->Option (Out Rl)
abbrev rT:=Kb 131 1 Rp 1 Rl
def rU:rT:=rM acv rfl
def ou:rV:=rU.F
abbrev ab9:Lay:={ T:=[(0,.ej ae)],h:=[],nx:=0 }
abbrev Gj:List (Ev.Ex×Lay):=[(.ret,{ T:=[(0,.hd 0 ae)],h:=[(0,.arr ae 95)],nx:=1 })]
abbrev Q8:=Kb 132 1 ab9 1 Gj
def acb(t0z:Bool)(t0:List (Sh.T ae)):Option (Out Gj):=
 br t0z
 (
  some ([],()))
 (
  ai (room 24 (List.length (ap [] t0)))<|
  some ((ap [] t0),()))
def acd  :Q8:=⟨u2 acb,pB Tryz.func132 8 k0 e0 1 (sS l0) fun d=>by kernel_rfl⟩
def ace:Q8:=acd
abbrev Q7:Lay:={ T:=[(0,.fz ae)],h:=[],nx:=0 }
abbrev Q6:List (Ev.Ex×Lay):=Gj
abbrev Rb:=TL Q7.σs->Option (Out Q6)
abbrev Q9:=Kb 132 1 Q7 1 Q6
def Ra:Q9:=rM ace rfl
def aca:Rb:=Ra.F
abbrev acf:Lay:={ T:=[(0,.ej ae)],h:=[],nx:=0 }
abbrev Gl:List (Ev.Ex×Lay):=[(.ret,{ T:=[(0,.hd 0 ae)],h:=[(0,.arr ae 150)],nx:=1 })]
abbrev Rf:=Kb 133 1 acf 1 Gl
def ach(t0z:Bool)(t0:List (Sh.T ae)):Option (Out Gl):=
 br t0z
 (
  some ([],()))
 (
  ai (room 24 (List.length (ap [] t0)))<|
  some ((ap [] t0),()))
def aci  :Rf:=⟨u2 ach,pB Tryz.func133 8 k0 e0 1 (sS l0) fun d=>by kernel_rfl⟩
def acj:Rf:=aci
abbrev Re:Lay:={ T:=[(0,.fz ae)],h:=[],nx:=0 }
abbrev Rc:List (Ev.Ex×Lay):=Gl
abbrev Ri:=TL Re.σs->Option (Out Rc)
abbrev Rg:=Kb 133 1 Re 1 Rc
def Rh:Rg:=rM acj rfl
def acg:Ri:=Rh.F
abbrev S3:Lay:={ T:=[(0,.agg jf)],h:=[],nx:=0 }
abbrev H7:List (Ev.Ex×Lay):=[(.ret,{ T:=[(0,.agg [.int .i64,.hd 0 (.int .i64),.hd 1 ae,.hd 2 (.int .i64),.hd 3 (.int .i64),.hd 4 (.int .i64),.hd 5 ab,.hd 6 ae])],h:=[(0,.arr (.int .i64) 3),(1,.arr ae 95),(2,.arr (.int .i64) 3),(3,.arr (.int .i64) 3),(4,.arr (.int .i64) 3),(5,.arr ab 116),(6,.arr ae 150)],nx:=7 })]
abbrev Ti:=TL S3.σs->Option (Out H7)
abbrev IA:=Kb 68 1 S3 1 H7
abbrev DT:List (Nat×LO):=[(0,.cells [.int .i64,.hd 1 (.int .i64),.hd 2 ae,.hd 3 (.int .i64),.hd 4 (.int .i64),.hd 5 (.int .i64),.hd 6 ab,.hd 8 ae] 125),(1,.arr (.int .i64) 3),(2,.arr ae 95),(3,.arr (.int .i64) 3),(4,.arr (.int .i64) 3),(5,.arr (.int .i64) 3),(6,.arr ab 116),(8,.arr ae 150)]
abbrev oS:List (Nat×LO):=[(0,.cells [.int .i64,.hd 1 (.int .i64),.hd 2 ae,.hd 3 (.int .i64),.hd 4 (.int .i64),.hd 5 (.int .i64),.hd 6 ab,.hd 7 ae] 125),(1,.arr (.int .i64) 3),(2,.arr ae 95),(3,.arr (.int .i64) 3),(4,.arr (.int .i64) 3),(5,.arr (.int .i64) 3),(6,.arr ab 116),(7,.arr ae 150)]
abbrev xu:List (Nat×LO):=[(0,.cells [.int .i64,.hd 1 (.int .i64),.hd 2 ae,.hd 3 (.int .i64),.hd 4 (.int .i64),.hd 5 (.int .i64),.hd 6 ab,.hd 8 ae] 125),(1,.arr (.int .i64) 3),(2,.arr ae 95),(3,.arr (.int .i64) 3),(4,.arr (.int .i64) 3),(5,.arr (.int .i64) 3),(6,.arr ab 116),(8,.arr ae 150),(9,.cells [.int .i64,.int .i64,.bool,.fz bg,.fz aH] 116),(10,.arr (.int .i64) 3)]
abbrev DU:List (Nat×LO):=[(0,.cells [.int .i64,.hd 1 (.int .i64),.hd 2 ae,.hd 3 (.int .i64),.hd 4 (.int .i64),.hd 5 (.int .i64),.hd 6 ab,.hd 9 ae] 27),(1,.arr (.int .i64) 3),(2,.arr ae 95),(3,.arr (.int .i64) 3),(4,.arr (.int .i64) 3),(5,.arr (.int .i64) 3),(6,.dV ab [.int .i64,.int .i64,.bool,.hd 7 bg,.hd 8 aH] 116),(7,.arr bg 152),(8,.arr aH 175),(9,.arr ae 150),(10,.cells [.int .i64,.bk,.bk,.bk,.bk,.bk,.bk,.bk] 27)]
abbrev Ox:List (Nat×LO):=[(0,.cells [.int .i64,.hd 1 (.int .i64),.hd 2 ae,.hd 3 (.int .i64),.hd 4 (.int .i64),.hd 5 (.int .i64),.hd 6 ab,.hd 8 ae] 125),(1,.arr (.int .i64) 3),(2,.arr ae 95),(3,.arr (.int .i64) 3),(4,.arr (.int .i64) 3),(5,.arr (.int .i64) 3),(6,.arr ab 116),(8,.arr ae 150),(9,.arr (.int .i64) 3)]
abbrev ab5:Lay:={ T:=[(0,.ptr 0 0),(3,.int .i64),(5,.ptr 9 0),(17,.fz (.sl (.int .i64))),(18,.int .i64),(19,.int .i64)],h:=[(0,.cells [.int .i64,.hd 1 (.int .i64),.hd 2 ae,.hd 3 (.int .i64),.hd 4 (.int .i64),.hd 5 (.int .i64),.hd 6 ab,.hd 8 ae] 125),(1,.arr (.int .i64) 3),(2,.arr ae 95),(3,.arr (.int .i64) 3),(4,.arr (.int .i64) 3),(5,.arr (.int .i64) 3),(6,.arr ab 116),(8,.arr ae 150),(9,.cells [.int .i64,.int .i64,.bool,.fz bg,.fz aH] 116)],nx:=10 }
abbrev DV:List LA:=[.int .i64,.hd 1 (.int .i64),.hd 8 ae,.hd 3 (.int .i64),.hd 4 (.int .i64),.hd 5 (.int .i64),.hd 6 ab,.hd 7 ae]
abbrev JL:List LA:=[.int .i64,.hd 2 (.int .i64),.hd 3 ae,.hd 4 (.int .i64),.hd 5 (.int .i64),.hd 6 (.int .i64),.hd 7 ab,.hd 8 ae]
abbrev ab6:List (Nat×LO):=[(0,.cells [.int .i64,.bk,.bk,.bk,.bk,.bk,.bk,.bk] 27),(1,.cells JL 125),(2,.arr (.int .i64) 3),(3,.arr ae 95),(4,.arr (.int .i64) 3),(5,.arr (.int .i64) 3),(6,.arr (.int .i64) 3),(7,.arr ab 116),(8,.arr ae 150),(9,.cells [.int .i64,.int .i64,.bool,.fz bg,.fz aH] 116),(10,.arr ab 116)]
abbrev ab7:List (Nat×LO):=[(0,.cells [.int .i64,.hd 1 (.int .i64),.hd 2 ae,.hd 3 (.int .i64),.hd 4 (.int .i64),.hd 5 (.int .i64),.hd 6 ab,.hd 7 ae] 27),(1,.arr (.int .i64) 3),(2,.arr ae 95),(3,.arr (.int .i64) 3),(4,.arr (.int .i64) 3),(5,.arr (.int .i64) 3),(6,.arr ab 116),(7,.arr ae 150),(8,.cells [.int .i64,.bk,.bk,.bk,.bk,.bk,.bk,.bk] 27)]
abbrev ab8:List (Nat×LO):=[(0,.cells DV 125),(1,.arr (.int .i64) 3),(3,.arr (.int .i64) 3),(4,.arr (.int .i64) 3),(5,.arr (.int .i64) 3),(6,.arr ab 116),(7,.arr ae 150),(8,.arr ae 95),(9,.cells [.int .i64,.int .i64,.bool,.fz bg,.fz aH] 116),(10,.arr (.sl (.int .i64)) 22),(11,.arr (.int .i64) 3)]
abbrev VT:Lay:={ T:=[(0,.ptr 0 0),(3,.int .i64),(5,.ptr 9 0),(8,.int .i64),(10,.hd 10 (.int .i64)),(17,.fz (.sl (.int .i64))),(18,.int .i64),(19,.int .i64),(27,.fz aH),(28,.int .i64),(29,.int .i64)],h:=xu,nx:=11 }
abbrev A7:Lay:={ T:=[(0,.int .i64)],h:=DT,nx:=9 }
abbrev vI:Lay:={ T:=[],h:=DT,nx:=9 }
abbrev VU:Lay:={ T:=[(0,.ptr 0 0),(1,.int .i64),(2,.int .i64),(3,.int .i64)],h:=oS,nx:=8 }
abbrev zC:Lay:={ T:=[(1,.ptr 0 0),(2,.ptr 8 0),(41,.int .i64),(42,.int .i64)],h:=ab7,nx:=9 }
abbrev zx:List (Ev.Ex×Lay):=[((.exit 2),{ T:=[(1,.ptr 0 0),(2,.ptr 8 0)],h:=ab7,nx:=9 })]
abbrev Ta:=TL zC.σs->Option (Out zx)
abbrev Im:=Ld 0 123 (bI [1] (bh Tryz.f68)) zC zx
abbrev zw:Lay:={ T:=[(1,.ptr 0 0),(2,.ptr 10 0),(6,.dT 6 5 0),(41,.int .i64),(42,.int .i64),(94,.int .i64),(95,.int .i64)],h:=DU,nx:=11 }
abbrev zs:List (Ev.Ex×Lay):=[((.exit 6),{ T:=[(1,.ptr 0 0),(2,.ptr 10 0),(41,.int .i64),(42,.int .i64)],h:=DU,nx:=11 })]
abbrev Ig:=TL zw.σs->Option (Out zs)
abbrev zJ:=Ld 0 123 (bI [1,1] (bh Tryz.f68)) zw zs
abbrev zv:Lay:={ T:=[(1,.ptr 0 0),(2,.ptr 10 0),(6,.dT 6 5 0),(41,.int .i64),(42,.int .i64),(69,.int .i64),(70,.int .i64)],h:=DU,nx:=11 }
abbrev zq:List (Ev.Ex×Lay):=[((.exit 4),{ T:=[(1,.ptr 0 0),(2,.ptr 10 0),(6,.dT 6 5 0),(41,.int .i64),(42,.int .i64)],h:=DU,nx:=11 })]
abbrev Ie:=TL zv.σs->Option (Out zq)
abbrev zI:=Ld 0 123 (bI [1,0] (bh Tryz.f68)) zv zq
def zG(F5:rV)(t6 t41 t42 t69 t70 aw:Int)(b1:List Int)(b2:List (Sh.T ae))(b3 b4 b5:List Int)(b6i:Int)(b6:List (Sh.T ab))(na xa:Int)(xb:Bool)(b7:List (Sh.T bg))(b8:List (Sh.T aH))(b9:List (Sh.T ae))(vr:Int):Option (TL zv.σs⊕Out zq):=
 br (iL t70 t69)
 (
  ai (Nat.beq (Int.toNat t6) (Int.toNat b6i))<|
  ai (Nat.beq (Int.toNat t6) (Int.toNat b6i))<|
  ai (av t70 (List.length b7))<|
  ao (F5 ((gt bg b7 t70).2.1,())) fun x0=>
  ai (av t70 (List.length b7))<|
  ai (nQ (Int.toNat t6) (Int.toNat t6))<|
  ai (nQ (Int.toNat t6) (Int.toNat t6))<|
  ai (nQ (Int.toNat t6) (Int.toNat t6))<|
  ai (Nat.beq (Int.toNat t6) (Int.toNat b6i))<|
  ai (iQ t70 t70)<|
  some (.inl ((Int.ofNat (Int.toNat t6)),(t41,(t42,(t69,((IntKind.wrap .i64 (t70+(1:Int))),(aw,(b1,(b2,(b3,(b4,(b5,((Int.ofNat (Int.toNat b6i)),(b6,(na,(xa,(xb,((List.set b7 (Int.toNat t70) ((gt bg b7 t70).1,(x0.1,()))),(b8,(b9,(vr,()))))))))))))))))))))))
 (
  some (.inr ((Int.ofNat (Int.toNat t6)),(t41,(t42,(aw,(b1,(b2,(b3,(b4,(b5,((Int.ofNat (Int.toNat b6i)),(b6,(na,(xa,(xb,(b7,(b8,(b9,(vr,()))))))))))))))))))))
def adB(c5:rT) :zI:=bN (ku (zG c5.F)) (pL (kB c5 k0) e0 1 l0 fun d=>by kernel_rfl)
def SY:zI:=adB rU
def Ib:Ie:=aX (ku (zG ou)) NN
def zH(F5:rV)(t6 t41 t42 t94 t95 aw:Int)(b1:List Int)(b2:List (Sh.T ae))(b3 b4 b5:List Int)(b6i:Int)(b6:List (Sh.T ab))(na xa:Int)(xb:Bool)(b7:List (Sh.T bg))(b8:List (Sh.T aH))(b9:List (Sh.T ae))(vr:Int):Option (TL zw.σs⊕Out zs):=
 br (iL t95 t94)
 (
  ai (Nat.beq (Int.toNat t6) (Int.toNat b6i))<|
  ai (av t95 (List.length b8))<|
  ao (F5 ((gt aH b8 t95).2.1,())) fun x0=>
  ai (nQ (Int.toNat t95) (Int.toNat t95))<|
  ai (nQ (Int.toNat t95) (Int.toNat t95))<|
  ai (nQ (Int.toNat t95) (Int.toNat t95))<|
  ai (nQ (Int.toNat t95) (Int.toNat t95))<|
  ai (nQ (Int.toNat t95) (Int.toNat t95))<|
  ai (fp (Sh.beq (.int .i64)) (gt aH b8 t95).2.2.1 (gt aH b8 t95).2.2.1)<|
  ao (F5 ((gt aH b8 t95).2.2.1,())) fun x1=>
  ai (nQ (Int.toNat t95) (Int.toNat t95))<|
  ai (nQ (Int.toNat t95) (Int.toNat t95))<|
  ai (nQ (Int.toNat t95) (Int.toNat t95))<|
  some (.inl ((Int.ofNat (Int.toNat t6)),(t41,(t42,(t94,((IntKind.wrap .i64 (t95+(1:Int))),(aw,(b1,(b2,(b3,(b4,(b5,((Int.ofNat (Int.toNat b6i)),(b6,(na,(xa,(xb,(b7,((List.set (List.set b8 (Int.toNat t95) ((gt aH b8 t95).1,(x0.1,((gt aH b8 t95).2.2.1,())))) (Int.toNat t95) ((gt aH (List.set b8 (Int.toNat t95) ((gt aH b8 t95).1,(x0.1,((gt aH b8 t95).2.2.1,())))) t95).1,((gt aH (List.set b8 (Int.toNat t95) ((gt aH b8 t95).1,(x0.1,((gt aH b8 t95).2.2.1,())))) t95).2.1,(x1.1,())))),(b9,(vr,()))))))))))))))))))))))
 (
  some (.inr (t41,(t42,(aw,(b1,(b2,(b3,(b4,(b5,((Int.ofNat (Int.toNat b6i)),(b6,(na,(xa,(xb,(b7,(b8,(b9,(vr,())))))))))))))))))))
def adC(c5:rT) :zJ:=bN (ku (zH c5.F)) (pL (kB c5 k0) e0 1 l0 fun d=>by kernel_rfl)
def SZ:zJ:=adC rU
def Ic:Ig:=aX (ku (zH ou)) NN
def zM(F0:wo)(F1:wu)(L13:Ie)(L18:Ig)(t41 t42 aw:Int)(b1:List Int)(b2:List (Sh.T ae))(b3 b4 b5:List Int)(b6:List (Sh.T ab))(b7:List (Sh.T ae))(abz:Int):Option (TL zC.σs⊕Out zx):=
 br (iL t42 t41)
 (
  ai (av t42 (List.length b6))<|
  ao (F1 ((gt ab b6 t42).2.2.2.1,())) fun x0=>
  ai (nQ (Int.toNat t42) (Int.toNat t42))<|
  ai (nQ (Int.toNat t42) (Int.toNat t42))<|
  ai (nQ (Int.toNat t42) (Int.toNat t42))<|
  ai (nQ (Int.toNat t42) (Int.toNat t42))<|
  ai (nQ (Int.toNat t42) (Int.toNat t42))<|
  ai (fp (Sh.beq aH) (gt ab b6 t42).2.2.2.2.1 (gt ab b6 t42).2.2.2.2.1)<|
  ao (F0 ((gt ab b6 t42).2.2.2.2.1,())) fun x1=>
  ai (nQ (Int.toNat t42) (Int.toNat t42))<|
  ai (nQ (Int.toNat t42) (Int.toNat t42))<|
  ai (nQ (Int.toNat t42) (Int.toNat t42))<|
  ai (Nat.beq (Int.toNat t42) (Int.toNat t42))<|
  ai (Nat.beq (Int.toNat t42) (Int.toNat t42))<|
  ao (L13 ((Int.ofNat (Int.toNat t42)),(t41,(t42,((Int.ofNat (List.length x0.1)),((0:Int),(aw,(b1,(b2,(b3,(b4,(b5,((Int.ofNat (Int.toNat t42)),(b6,((gt ab b6 t42).1,((gt ab b6 t42).2.1,((gt ab b6 t42).2.2.1,(x0.1,(x1.1,(b7,(abz,()))))))))))))))))))))) fun x2=>
  ai (Nat.beq (Int.toNat x2.1) (Int.toNat (fu x2)))<|
  ao (L18 ((Int.ofNat (Int.toNat x2.1)),(x2.2.1,(x2.2.2.1,((Int.ofNat (List.length (cJ (eh x2)))),((0:Int),(cJ x2,(cK x2,(cT x2,(cO x2,(dt x2,(dX x2,((Int.ofNat (Int.toNat (fu x2))),(dD x2,(jg x2,(fF x2,((eh x2).2.1,((eh x2).2.2.1,(cJ (eh x2),(cK (eh x2),(cT (eh x2),()))))))))))))))))))))) fun x3=>
  some (.inl (x3.1,((IntKind.wrap .i64 (@HAdd.hAdd (Int) (Int) (Int) _ x3.2.1 (1:Int))),(x3.2.2.1,(cJ x3,(cK x3,(cT x3,(cO x3,(dt x3,((List.set (fu x3) (Int.toNat (dX x3)) (dD x3,(jg x3,(fF x3,((eh x3).2.1,((eh x3).2.2.1,())))))),(cJ (eh x3),(cK (eh x3),())))))))))))))
 (
  some (.inr (aw,(b1,(b2,(b3,(b4,(b5,(b6,(b7,(abz,())))))))))))
def adI(c0:wt)(c1:wy)(M13:zI)(M18:zJ):Im:=bN (kV (zM c0.F c1.F M13.L M18.L)) (pL (kB c0 (kB c1 k0)) e0 1 (sC M13 (sC M18 l0)) fun d=>by kernel_rfl)
def adJ:Im:=adI wq wx SY SZ
def S9:Ta:=aX (kV (zM sP sQ Ib Ic)) NN
def adS(F0:wo)(F1:wu)(F2:LD)(F3:Ri)(F4:Rb)(F5:rV)(L8:Ta)(L13:Ie)(L18:Ig)(eX:Int)(jh:List Int)(iV:List (Sh.T ae))(jL jM jN:List Int)(fA:List (Sh.T ab))(iW:List (Sh.T ae)):Option (Out H7):=
 ao (F5 (jh,())) fun x0=>
 ao (F5 (jL,())) fun x1=>
 ao (F5 (jM,())) fun x2=>
 ao (F5 (jN,())) fun x3=>
 ao (F4 (iV,())) fun x4=>
 ai (fp (Sh.beq ae) iW iW)<|
 ai (fp (Sh.beq ab) fA fA)<|
 ao (F3 (iW,())) fun x5=>
 ai (fp (Sh.beq ab) fA fA)<|
 ao (F2 (fA,())) fun x6=>
 ao (L8 ((Int.ofNat (List.length x6.1)),((0:Int),(eX,(x0.1,(x4.1,(x1.1,(x2.1,(x3.1,(x6.1,(x5.1,((0:Int),())))))))))))) fun x7=>
 some (x7.1,(x7.2.1,(x7.2.2.1,(cJ x7,(cK x7,(cT x7,(cO x7,(dt x7,()))))))))
def adT(c0:wt)(c1:wy)(c2:LG)(c3:Rg)(c4:Q9)(c5:rT)(M8:Im)(M13:zI)(M18:zJ):IA:=⟨u8 (adS c0.F c1.F c2.F c3.F c4.F c5.F M8.L M13.L M18.L),pB Tryz.func68 123 (kB c0 (kB c1 (kB c2 (kB c3 (kB c4 (kB c5 k0)))))) e0 1 (lS (lU (bI [0] (bh Tryz.f68)) 5 (kB c0 (kB c1 (kB c2 (kB c3 (kB c4 (kB c5 k0)))))) e0 1 l0 (by kernel_rfl) (sC M8 l0) (by kernel_rfl)) (by kernel_rfl)) fun d=>by kernel_rfl⟩
def Th:IA:=adT wq wx LF Rh Ra rU adJ SY SZ
def adH:Ti:=Th.F
abbrev Ts:List Sh:=[(.int .i64),.bool]
abbrev II:List Sh:=[(.int .i64)]
abbrev zY:=TL Ts->Option (TL II)
abbrev ve:=Kd 91 Ts II
def aed(a0:Int)(a1:Bool):Option (TL II):=
 br a1
 (
  some ((sx .i64 a0 (1:Int)),()))
 (
  some (a0,()))
def aee  :ve:=⟨u2 aed,pD Tryz.func91 9 k0 e0 1 (sS l0) fun d=>by kernel_rfl⟩
def zX:ve:=aee
def vc:zY:=zX.F
abbrev Tg:List Sh:=[(.int .i64),.bool]
abbrev Iw:List Sh:=[(.int .i64)]
abbrev Tp:=TL Tg->Option (TL Iw)
abbrev IF:=Kd 173 Tg Iw
def adY(F0:zY)(a0:Int)(a1:Bool):Option (TL Iw):=
 ao (F0 ((IntKind.wrap .i64 (@HMul.hMul (Int) (Int) (Int) _ a0 (HPow.hPow (2:Int) (Min.min (Int.toNat (1:Int)) 64)))),(a1,()))) fun x0=>
 some (x0.1,())
def adZ(c0:ve) :IF:=⟨u2 (adY c0.F),pD Tryz.func173 9 (kD c0 k0) e0 1 (sS l0) fun d=>by kernel_rfl⟩
def To:IF:=adZ zX
def va:Tp:=To.F
abbrev Tq:List Sh:=[(.int .i64)]
abbrev IH:List Sh:=[(.int .i64)]
abbrev zW:=TL Tq->Option (TL IH)
abbrev vd:=Kd 103 Tq IH
def aeb(a0:Int):Option (TL IH):=some ((sx .i64 a0 (1:Int)),())
def aec  :vd:=⟨u1 aeb,pD Tryz.func103 5 k0 e0 1 (sS l0) fun d=>by kernel_rfl⟩
def zV:vd:=aec
def IG:zW:=zV.F
abbrev R7:Lay:={ T:=[(0,.ptr 0 0)],h:=oS,nx:=8 }
abbrev uG:List (Ev.Ex×Lay):=[(.ret,{ T:=[(0,.int .i64)],h:=oS,nx:=8 })]
abbrev zb:=TL R7.σs->Option (Out uG)
abbrev uK:=Kb 137 1 R7 1 uG
def uL(F0:Tp)(aw:Int)(b1:List Int)(b2:List (Sh.T ae))(b3 b4 b5:List Int)(b6:List (Sh.T ab))(b7:List (Sh.T ae)):Option (Out uG):=
 ao (F0 ((IntKind.wrap .i64 (aw+(1:Int))),(false,()))) fun x0=>
 some (x0.1,((IntKind.wrap .i64 (aw+(1:Int))),(b1,(b2,(b3,(b4,(b5,(b6,(b7,())))))))))
def acW(c0:IF) :uK:=⟨u8 (uL c0.F),pB Tryz.func137 18 (kD c0 k0) e0 1 (sS l0) fun d=>by kernel_rfl⟩
def za:uK:=acW To
def y6:zb:=za.F
abbrev Sz:Lay:=VU
abbrev y9:List (Ev.Ex×Lay):=[(.ret,vI)]
abbrev zg:=TL Sz.σs->Option (Out y9)
abbrev uN:=Kb 142 4 Sz 0 y9
def ac9(t1 t2 t3 aw:Int)(b1:List Int)(b2:List (Sh.T ae))(b3 b4 b5:List Int)(b6:List (Sh.T ab))(b7:List (Sh.T ae)):Option (Out y9):=
 ai (room 24 (List.length (ap b7 ((t1,(t2,(t3,())))::[]))))<|
 some (aw,(b1,(b2,(b3,(b4,(b5,(b6,((ap b7 ((t1,(t2,(t3,())))::[])),()))))))))
def ada  :uN:=⟨kV ac9,pB Tryz.func142 23 k0 e0 1 (sS l0) fun d=>by kernel_rfl⟩
def zf:uN:=ada
def Hm:zg:=zf.F
abbrev Ss:Lay:={ T:=[(0,.ptr 0 0),(1,.int .i64),(2,.int .i64)],h:=oS,nx:=8 }
abbrev G7:List (Ev.Ex×Lay):=[(.ret,A7)]
abbrev ow:=TL Ss.σs->Option (Out G7)
abbrev nF:=Kb 141 3 Ss 1 G7
def ac5(F0:qT)(F1:zW)(F2:zg)(F3:zb)(t1 t2 aw:Int)(b1:List Int)(b2:List (Sh.T ae))(b3 b4 b5:List Int)(b6:List (Sh.T ab))(b7:List (Sh.T ae)):Option (Out G7):=
 br (iQ t1 (0:Int))
 (
  some ((0:Int),(aw,(b1,(b2,(b3,(b4,(b5,(b6,(b7,()))))))))))
 (
  br (bn false true (iQ t2 (0:Int)))
  (
   some ((0:Int),(aw,(b1,(b2,(b3,(b4,(b5,(b6,(b7,()))))))))))
  (
   ao (F1 (t2,())) fun x0=>
   br (bn false true (iQ t1 x0.1))
   (
    some ((0:Int),(aw,(b1,(b2,(b3,(b4,(b5,(b6,(b7,()))))))))))
   (
    br (iQ t1 (1:Int))
    (
     some (t2,(aw,(b1,(b2,(b3,(b4,(b5,(b6,(b7,()))))))))))
    (
     br (bn false true (iQ t1 t2))
     (
      some (t2,(aw,(b1,(b2,(b3,(b4,(b5,(b6,(b7,()))))))))))
     (
      br (iQ t2 (1:Int))
      (
       some (t1,(aw,(b1,(b2,(b3,(b4,(b5,(b6,(b7,()))))))))))
      (
       ao (F3 (aw,(b1,(b2,(b3,(b4,(b5,(b6,(b7,()))))))))) fun x1=>
       ao (F0 (x1.1,())) fun x2=>
       ao (F2 (x2.1,(t1,(t2,x1.2)))) fun x3=>
       some (x1.1,x3)))))))
def ac6(c0:pE)(c1:vd)(c2:uN)(c3:uK) :nF:=⟨kU (ac5 c0.F c1.F c2.F c3.F),pB Tryz.func141 43 (kD c0 (kD c1 (kB c2 (kB c3 k0)))) e0 1 (sS l0) fun d=>by kernel_rfl⟩
def ov:nF:=ac6 qU zV zf za
def mR:ow:=ov.F
abbrev SB:Lay:={ T:=[(0,.ptr 0 0),(1,.int .i64),(2,.int .i64)],h:=oS,nx:=8 }
abbrev Hh:List (Ev.Ex×Lay):=[(.ret,A7)]
abbrev zi:=TL SB.σs->Option (Out Hh)
abbrev uQ:=Kb 140 3 SB 1 Hh
def Hv(F0:zW)(F1:ow)(t1 t2 aw:Int)(b1:List Int)(b2:List (Sh.T ae))(b3 b4 b5:List Int)(b6:List (Sh.T ab))(b7:List (Sh.T ae)):Option (Out Hh):=
 ao (F0 (t1,())) fun x0=>
 ao (F0 (t2,())) fun x1=>
 ao (F1 (x0.1,(x1.1,(aw,(b1,(b2,(b3,(b4,(b5,(b6,(b7,()))))))))))) fun x2=>
 ao (F0 (x2.1,())) fun x3=>
 some (x3.1,x2.2)
def ade(c0:vd)(c1:nF) :uQ:=⟨kU (Hv c0.F c1.F),pB Tryz.func140 14 (kD c0 (kB c1 k0)) e0 1 (sS l0) fun d=>by kernel_rfl⟩
def zh:uQ:=ade zV ov
def uM:zi:=zh.F
abbrev R5:Lay:=VU
abbrev GF:List (Ev.Ex×Lay):=[(.ret,A7)]
abbrev Ha:=TL R5.σs->Option (Out GF)
abbrev y5:=Kb 143 4 R5 1 GF
def G8(F0:zW)(F1:zi)(F2:ow)(t1 t2 t3 aw:Int)(b1:List Int)(b2:List (Sh.T ae))(b3 b4 b5:List Int)(b6:List (Sh.T ab))(b7:List (Sh.T ae)):Option (Out GF):=
 ao (F2 (t1,(t2,(aw,(b1,(b2,(b3,(b4,(b5,(b6,(b7,()))))))))))) fun x0=>
 ao (F0 (t1,())) fun x1=>
 ao (F2 (x1.1,(t3,x0.2))) fun x2=>
 ao (F1 (x0.1,x2)) fun x3=>
 some x3
def acQ(c0:vd)(c1:uQ)(c2:nF) :y5:=⟨kV (G8 c0.F c1.F c2.F),pB Tryz.func143 20 (kD c0 (kB c1 (kB c2 k0))) e0 1 (sS l0) fun d=>by kernel_rfl⟩
def G9:y5:=acQ zV zh ov
def uI:Ha:=G9.F
abbrev SA:Lay:={ T:=[(0,.ptr 0 0),(1,.fz (.int .i64)),(2,.int .u64)],h:=oS,nx:=8 }
abbrev Hg:List (Ev.Ex×Lay):=[(.ret,A7)]
abbrev uP:=TL SA.σs->Option (Out Hg)
abbrev rX:=Kb 138 3 SA 1 Hg
abbrev zd:Lay:={ T:=[(0,.ptr 0 0),(2,.int .u64),(7,.int .i64),(10,.fz (.int .i64)),(11,.int .i64),(12,.int .i64)],h:=DT,nx:=9 }
abbrev y7:List (Ev.Ex×Lay):=[((.exit 0),{ T:=[(7,.int .i64)],h:=DT,nx:=9 })]
abbrev SD:=TL zd.σs->Option (Out y7)
abbrev Ho:=Ld 8 29 (bI [0] (bh Tryz.f138)) zd y7
def SC(F0:zY)(F1:ow)(t2 t7:Int)(t10:List Int)(t11 t12 aw:Int)(b1:List Int)(b2:List (Sh.T ae))(b3 b4 b5:List Int)(b6:List (Sh.T ab))(b8:List (Sh.T ae)):Option (TL zd.σs⊕Out y7):=
 br (iL t12 t11)
 (
  ai (av t12 (List.length t10))<|
  ai (iE (0:Int) t12)<|
  ao (F0 ((gt (.int .i64) t10 t12),((iQ (kv .u64 (Int.fdiv t2 (HPow.hPow (2:Int) (Min.min (Int.toNat t12) 64))) (1:Int)) (0:Int)),()))) fun x0=>
  ao (F1 (t7,(x0.1,(aw,(b1,(b2,(b3,(b4,(b5,(b6,(b8,()))))))))))) fun x1=>
  some (.inl (t2,(x1.1,(t10,(t11,((IntKind.wrap .i64 (t12+(1:Int))),x1.2)))))))
 (
  some (.inr (t7,(aw,(b1,(b2,(b3,(b4,(b5,(b6,(b8,())))))))))))
def ac7(c0:ve)(c1:nF) :Ho:=bN (ot (SC c0.F c1.F)) (pL (kD c0 (kB c1 k0)) e0 1 l0 fun d=>by kernel_rfl)
def ac8:Ho:=ac7 zX ov
def Hq:SD:=aX (ot (SC vc mR)) NN
def Hu(F0:zY)(F1:ow)(L3:SD)(t1:List Int)(t2 aw:Int)(b1:List Int)(b2:List (Sh.T ae))(b3 b4 b5:List Int)(b6:List (Sh.T ab))(b7:List (Sh.T ae)):Option (Out Hg):=
 ao (L3 (t2,((1:Int),(t1,((Int.ofNat (List.length t1)),((0:Int),(aw,(b1,(b2,(b3,(b4,(b5,(b6,(b7,())))))))))))))) fun x0=>
 some x0
def adb(c0:ve)(c1:nF)(M3:Ho):rX:=⟨kU (Hu c0.F c1.F M3.L),pB Tryz.func138 29 (kD c0 (kB c1 k0)) e0 1 (sS (sC M3 l0)) fun d=>by kernel_rfl⟩
def uO:rX:=adb zX ov ac8
def qq:uP:=uO.F
abbrev Rt:Lay:={ T:=[(0,.ptr 0 0),(1,.agg [.int .i64,.int .i64,.bool,.fz bg,.fz aH])],h:=oS,nx:=8 }
abbrev Gr:List (Ev.Ex×Lay):=[(.ret,{ T:=[(0,.fz (.sl (.int .i64)))],h:=[(0,.cells DV 125),(1,.arr (.int .i64) 3),(3,.arr (.int .i64) 3),(4,.arr (.int .i64) 3),(5,.arr (.int .i64) 3),(6,.arr ab 116),(7,.arr ae 150),(8,.arr ae 95)],nx:=9 })]
abbrev GI:=TL Rt.σs->Option (Out Gr)
abbrev yZ:=Kb 69 2 Rt 1 Gr
abbrev yC:Lay:={ T:=[(0,.ptr 0 0),(3,.ptr 9 0),(4,.hd 10 (.sl (.int .i64))),(5,.int .i64),(12,.int .i64),(13,.int .i64)],h:=[(0,.cells DV 125),(1,.arr (.int .i64) 3),(3,.arr (.int .i64) 3),(4,.arr (.int .i64) 3),(5,.arr (.int .i64) 3),(6,.arr ab 116),(7,.arr ae 150),(8,.arr ae 95),(9,.cells [.int .i64,.int .i64,.bool,.fz bg,.fz aH] 116),(10,.arr (.sl (.int .i64)) 22)],nx:=11 }
abbrev yv:List (Ev.Ex×Lay):=[((.exit 0),{ T:=[(4,.hd 9 (.sl (.int .i64)))],h:=[(0,.cells DV 125),(1,.arr (.int .i64) 3),(3,.arr (.int .i64) 3),(4,.arr (.int .i64) 3),(5,.arr (.int .i64) 3),(6,.arr ab 116),(7,.arr ae 150),(8,.arr ae 95),(9,.arr (.sl (.int .i64)) 22)],nx:=10 })]
abbrev RH:=TL yC.σs->Option (Out yv)
abbrev Gx:=Ld 8 51 (bI [0] (bh Tryz.f69)) yC yv
abbrev yD:Lay:={ T:=[(0,.ptr 0 0),(3,.ptr 9 0),(4,.hd 10 (.sl (.int .i64))),(5,.int .i64),(6,.hd 11 (.int .i64)),(12,.int .i64),(13,.int .i64),(16,.int .i64),(17,.int .i64)],h:=ab8,nx:=12 }
abbrev yw:List (Ev.Ex×Lay):=[((.exit 2),{ T:=[(0,.ptr 0 0),(3,.ptr 9 0),(4,.hd 10 (.sl (.int .i64))),(5,.int .i64),(6,.hd 11 (.int .i64)),(12,.int .i64),(13,.int .i64)],h:=ab8,nx:=12 })]
abbrev Gz:=TL yD.σs->Option (Out yw)
abbrev yQ:=Ld 8 51 (bI [0,0] (bh Tryz.f69)) yD yw
def RC(F0:qT)(F1:zb)(t5 t12 t13 t16 t17 aw:Int)(b1 b3 b4 b5:List Int)(b6:List (Sh.T ab))(b7 b8:List (Sh.T ae))(iC gb:Int)(iD:Bool)(iF:List (Sh.T bg))(gV:List (Sh.T aH))(b10:List (List Int))(b11:List Int):Option (TL yD.σs⊕Out yw):=
 br (iL t17 t16)
 (
  ao (F1 (aw,(b1,(b8,(b3,(b4,(b5,(b6,(b7,()))))))))) fun x0=>
  ao (F0 (x0.1,())) fun x1=>
  ai (room 24 (List.length (ap (cJ x0) ((x1.1,((0:Int),(t5,())))::[]))))<|
  ai (room 8 (List.length (ap b11 (x0.1::[]))))<|
  some (.inl (t5,(t12,(t13,(t16,((IntKind.wrap .i64 (t17+(1:Int))),(x0.2.1,(x0.2.2.1,(cK x0,(cT x0,(cO x0,(dt x0,(dX x0,((ap (cJ x0) ((x1.1,((0:Int),(t5,())))::[])),(iC,(gb,(iD,(iF,(gV,(b10,((ap b11 (x0.1::[])),()))))))))))))))))))))))
 (
  some (.inr (t5,(t12,(t13,(aw,(b1,(b3,(b4,(b5,(b6,(b7,(b8,(iC,(gb,(iD,(iF,(gV,(b10,(b11,()))))))))))))))))))))
def acx(c0:pE)(c1:uK) :yQ:=bN (ku (RC c0.F c1.F)) (pL (kD c0 (kB c1 k0)) e0 1 l0 fun d=>by kernel_rfl)
def RG:yQ:=acx qU za
def yS:Gz:=aX (ku (RC oW y6)) NN
def RB(L8:Gz)(t5 t12 t13 aw:Int)(b1 b3 b4 b5:List Int)(b6:List (Sh.T ab))(b7 b8:List (Sh.T ae))(iC gb:Int)(iD:Bool)(iF:List (Sh.T bg))(gV:List (Sh.T aH))(b10:List (List Int)):Option (TL yC.σs⊕Out yv):=
 br (iL t13 t12)
 (
  ao (L8 (t5,(t12,(t13,(gb,((0:Int),(aw,(b1,(b3,(b4,(b5,(b6,(b7,(b8,(iC,(gb,(iD,(iF,(gV,(b10,([],()))))))))))))))))))))) fun x0=>
  ai (room 24 (List.length (ap (cK (eh x0)) ((cT (eh x0))::[]))))<|
  some (.inl (x0.1,(x0.2.1,((IntKind.wrap .i64 (@HAdd.hAdd (Int) (Int) (Int) _ x0.2.2.1 (1:Int))),(cJ x0,(cK x0,(cT x0,(cO x0,(dt x0,(dX x0,(fu x0,(dD x0,(jg x0,(fF x0,((eh x0).2.1,((eh x0).2.2.1,(cJ (eh x0),((ap (cK (eh x0)) ((cT (eh x0))::[])),())))))))))))))))))))
 (
  some (.inr (aw,(b1,(b3,(b4,(b5,(b6,(b7,(b8,(b10,())))))))))))
def acw(M8:yQ):Gx:=bN (ka (RB M8.L)) (pL k0 e0 1 (sC M8 l0) fun d=>by kernel_rfl)
def acy:Gx:=acw  RG
def yR:RH:=aX (ka (RB yS)) NN
def GG(F0:qT)(F1:zb)(L5:RH)(L8:Gz)(fW fT:Int)(iX:Bool)(pQ:List (Sh.T bg))(tG:List (Sh.T aH))(aw:Int)(b1:List Int)(b2:List (Sh.T ae))(b3 b4 b5:List Int)(b6:List (Sh.T ab))(b7:List (Sh.T ae)):Option (Out Gr):=
 br iX
 (
  ai (iE (0:Int) fW)<|
  ao (L5 ((2:Int),((IntKind.wrap .i64 ((1:Int)*(HPow.hPow (2:Int) (Min.min (Int.toNat fW) 64)))),((0:Int),(aw,(b1,(b3,(b4,(b5,(b6,(b7,(b2,(fW,(fT,(iX,(pQ,(tG,([],())))))))))))))))))) fun x0=>
  some (dX x0,(x0.1,(x0.2.1,(x0.2.2.1,(cJ x0,(cK x0,(cT x0,(cO x0,(dt x0,()))))))))))
 (
  ai (iE (0:Int) fW)<|
  ao (L5 ((0:Int),((IntKind.wrap .i64 ((1:Int)*(HPow.hPow (2:Int) (Min.min (Int.toNat fW) 64)))),((0:Int),(aw,(b1,(b3,(b4,(b5,(b6,(b7,(b2,(fW,(fT,(iX,(pQ,(tG,([],())))))))))))))))))) fun x0=>
  some (dX x0,(x0.1,(x0.2.1,(x0.2.2.1,(cJ x0,(cK x0,(cT x0,(cO x0,(dt x0,()))))))))))
def acD(c0:pE)(c1:uK)(M5:Gx)(M8:yQ):yZ:=⟨ot (GG c0.F c1.F M5.L M8.L),pB Tryz.func69 51 (kD c0 (kB c1 k0)) e0 1 (sS (sC M5 l0)) fun d=>by kernel_rfl⟩
def GH:yZ:=acD qU za acy RG
def Gy:GI:=GH.F
abbrev RL:Lay:={ T:=[(0,.ptr 0 0),(1,.agg [.int .i64,.int .i64,.bool,.fz bg,.fz aH]),(2,.int .i64),(3,.fz (.sl (.int .i64)))],h:=oS,nx:=8 }
abbrev Gt:List (Ev.Ex×Lay):=[(.ret,vI)]
abbrev GR:=TL RL.σs->Option (Out Gt)
abbrev y1:=Kb 70 4 RL 0 Gt
abbrev yK:Lay:={ T:=[(0,.ptr 0 0),(3,.fz (.sl (.int .i64))),(9,.hd 9 (.int .i64)),(40,.fz (.int .i64)),(41,.int .i64),(42,.int .i64)],h:=Ox,nx:=10 }
abbrev yG:List (Ev.Ex×Lay):=[((.exit 2),vI)]
abbrev R4:=TL yK.σs->Option (Out yG)
abbrev GK:=Ld 8 80 (bI [1] (bh Tryz.f70)) yK yG
abbrev yE:Lay:={ T:=[(0,.ptr 0 0),(3,.fz (.sl (.int .i64))),(9,.hd 9 (.int .i64)),(11,.int .i64),(12,.int .i64),(13,.int .i64),(40,.fz (.int .i64)),(41,.int .i64),(42,.int .i64),(47,.fz (.sl (.int .i64))),(48,.int .i64),(49,.int .i64)],h:=Ox,nx:=10 }
abbrev yx:List (Ev.Ex×Lay):=[((.exit 4),{ T:=[(0,.ptr 0 0),(3,.fz (.sl (.int .i64))),(9,.hd 9 (.int .i64)),(12,.int .i64),(13,.int .i64),(40,.fz (.int .i64)),(41,.int .i64),(42,.int .i64)],h:=Ox,nx:=10 })]
abbrev GA:=TL yE.σs->Option (Out yx)
abbrev yT:=Ld 8 80 (bI [1,0] (bh Tryz.f70)) yE yx
abbrev yJ:Lay:={ T:=[(0,.ptr 0 0),(2,.int .i64),(3,.fz (.sl (.int .i64))),(5,.ptr 9 0),(8,.fz (.int .i64)),(9,.hd 10 (.int .i64)),(23,.int .i64),(24,.int .i64)],h:=xu,nx:=11 }
abbrev yF:List (Ev.Ex×Lay):=[((.exit 0),{ T:=[(0,.ptr 0 0),(2,.int .i64),(3,.fz (.sl (.int .i64))),(5,.ptr 9 0),(9,.hd 10 (.int .i64))],h:=xu,nx:=11 })]
abbrev RW:=TL yJ.σs->Option (Out yF)
abbrev GJ:=Ld 8 80 (bI [0] (bh Tryz.f70)) yJ yF
def RS(F4:uP)(t2:Int)(t3:List (List Int))(t8:List Int)(t23 t24 aw:Int)(b1:List Int)(b2:List (Sh.T ae))(b3 b4 b5:List Int)(b6:List (Sh.T ab))(b8:List (Sh.T ae))(iC gb:Int)(iD:Bool)(iF:List (Sh.T bg))(gV:List (Sh.T aH))(b10:List Int):Option (TL yJ.σs⊕Out yF):=
 br (iL t24 t23)
 (
  ao (F4 (t8,((IntKind.wrap .u64 t24),(aw,(b1,(b2,(b3,(b4,(b5,(b6,(b8,()))))))))))) fun x0=>
  ai (room 8 (List.length (ap b10 (x0.1::[]))))<|
  some (.inl (t2,(t3,(t8,(t23,((IntKind.wrap .i64 (t24+(1:Int))),(x0.2.1,(x0.2.2.1,(cJ x0,(cK x0,(cT x0,(cO x0,(dt x0,(dX x0,(iC,(gb,(iD,(iF,(gV,((ap b10 (x0.1::[])),())))))))))))))))))))))
 (
  some (.inr (t2,(t3,(aw,(b1,(b2,(b3,(b4,(b5,(b6,(b8,(iC,(gb,(iD,(iF,(gV,(b10,()))))))))))))))))))
def acE(c4:rX) :GJ:=bN (uA (RS c4.F)) (pL (kB c4 k0) e0 1 l0 fun d=>by kernel_rfl)
def acG:GJ:=acE uO
def uE:RW:=aX (uA (RS qq)) NN
def RJ(F2:zi)(F3:ow)(t3:List (List Int))(t11 t12 t13:Int)(t40:List Int)(t41 t42:Int)(t47:List (List Int))(t48 t49 aw:Int)(b1:List Int)(b2:List (Sh.T ae))(b3 b4 b5:List Int)(b6:List (Sh.T ab))(b8:List (Sh.T ae))(b9:List Int):Option (TL yE.σs⊕Out yx):=
 br (iL t49 t48)
 (
  ai (av t49 (List.length t47))<|
  ai (av t49 (List.length b9))<|
  ai (av t11 (List.length (gt (.sl (.int .i64)) t47 t49)))<|
  ao (F3 ((gt (.int .i64) b9 t49),((gt (.int .i64) (gt (.sl (.int .i64)) t47 t49) t11),(aw,(b1,(b2,(b3,(b4,(b5,(b6,(b8,()))))))))))) fun x0=>
  ai (iQ t13 t13)<|
  ao (F2 (t13,x0)) fun x1=>
  some (.inl (t3,(t11,(t12,(x1.1,(t40,(t41,(t42,(t47,(t48,((IntKind.wrap .i64 (t49+(1:Int))),(x1.2.1,(x1.2.2.1,(cJ x1,(cK x1,(cT x1,(cO x1,(dt x1,(dX x1,(b9,())))))))))))))))))))))
 (
  some (.inr (t3,(t12,(t13,(t40,(t41,(t42,(aw,(b1,(b2,(b3,(b4,(b5,(b6,(b8,(b9,())))))))))))))))))
def acz(c2:uQ)(c3:nF) :yT:=bN (uA (RJ c2.F c3.F)) (pL (kB c2 (kB c3 k0)) e0 1 l0 fun d=>by kernel_rfl)
def RK:yT:=acz zh ov
def rS:GA:=aX (uA (RJ uM mR)) NN
def RT(F1:zg)(L13:GA)(t3:List (List Int))(t40:List Int)(t41 t42 aw:Int)(b1:List Int)(b2:List (Sh.T ae))(b3 b4 b5:List Int)(b6:List (Sh.T ab))(b8:List (Sh.T ae))(b9:List Int):Option (TL yK.σs⊕Out yG):=
 br (iL t42 t41)
 (
  ai (av t42 (List.length t40))<|
  ao (L13 (t3,(t42,((gt (.int .i64) t40 t42),((0:Int),(t40,(t41,(t42,(t3,((Int.ofNat (List.length t3)),((0:Int),(aw,(b1,(b2,(b3,(b4,(b5,(b6,(b8,(b9,())))))))))))))))))))) fun x0=>
  ao (F1 (x0.2.1,(x0.2.2.1,(x0.2.2.1,(cO x0,(dt x0,(dX x0,(fu x0,(dD x0,(jg x0,(fF x0,((eh x0).2.1,())))))))))))) fun x1=>
  some (.inl (x0.1,(cJ x0,(cK x0,((IntKind.wrap .i64 (@HAdd.hAdd (Int) (Int) (Int) _ (cT x0) (1:Int))),(x1.1,(x1.2.1,(x1.2.2.1,(cJ x1,(cK x1,(cT x1,(cO x1,(dt x1,((eh x0).2.2.1,())))))))))))))))
 (
  some (.inr (aw,(b1,(b2,(b3,(b4,(b5,(b6,(b8,()))))))))))
def acF(c1:uN)(M13:yT):GK:=bN (ot (RT c1.F M13.L)) (pL (kB c1 k0) e0 1 (sC M13 l0) fun d=>by kernel_rfl)
def acH:GK:=acF zf RK
def uF:R4:=aX (ot (RT Hm rS)) NN
def GP(F0:NT)(F1:zg)(F2:zi)(F3:ow)(F4:uP)(L4:RW)(L9:R4)(L13:GA)(fW fT:Int)(iX:Bool)(pQ:List (Sh.T bg))(tG:List (Sh.T aH))(t2:Int)(t3:List (List Int))(aw:Int)(b1:List Int)(b2:List (Sh.T ae))(b3 b4 b5:List Int)(b6:List (Sh.T ab))(b7:List (Sh.T ae)):Option (Out Gt):=
 ai (av t2 (List.length pQ))<|
 ao (L4 (t2,(t3,((gt bg pQ t2).2.1,((Int.ofNat (List.length t3)),((0:Int),(aw,(b1,(b2,(b3,(b4,(b5,(b6,(b7,(fW,(fT,(iX,(pQ,(tG,([],())))))))))))))))))))) fun x0=>
 ao (F0 ((dD x0,(jg x0,(fF x0,((eh x0).2.1,((eh x0).2.2.1,()))))),(x0.1,()))) fun x1=>
 ao (L9 (x0.2.1,(x1.1,((Int.ofNat (List.length x1.1)),((0:Int),(x0.2.2.1,(cJ x0,(cK x0,(cT x0,(cO x0,(dt x0,(dX x0,(fu x0,(cJ (eh x0),())))))))))))))) fun x2=>
 some x2
def acJ(c0:Ds)(c1:uN)(c2:uQ)(c3:nF)(c4:rX)(M4:GJ)(M9:GK)(M13:yT):y1:=⟨fB (GP c0.F c1.F c2.F c3.F c4.F M4.L M9.L M13.L),pB Tryz.func70 80 (kD c0 (kB c1 (kB c2 (kB c3 (kB c4 k0))))) e0 1 (sS (sC M4 (sC M9 l0))) fun d=>by kernel_rfl⟩
def GQ:y1:=acJ NU zf zh ov uO acG acH RK
def RU:GR:=GQ.F
abbrev Rz:Lay:={ T:=[(0,.ptr 0 0),(1,.agg [.int .i64,.int .i64,.bool,.fz bg,.fz aH]),(2,.fz (.sl (.int .i64))),(3,.int .i64)],h:=oS,nx:=8 }
abbrev Gs:List (Ev.Ex×Lay):=[(.ret,vI)]
abbrev GO:=TL Rz.σs->Option (Out Gs)
abbrev y0:=Kb 71 4 Rz 0 Gs
abbrev yH:Lay:=ab5
abbrev yA:List (Ev.Ex×Lay):=[((.exit 0),vI)]
abbrev RQ:=TL yH.σs->Option (Out yA)
abbrev GB:=Ld 8 97 (bI [0] (bh Tryz.f71)) yH yA
abbrev yz:Lay:={ T:=[(0,.ptr 0 0),(3,.int .i64),(5,.ptr 9 0),(8,.int .i64),(17,.fz (.sl (.int .i64))),(18,.int .i64),(19,.int .i64),(71,.hd 10 (.int .i64)),(72,.int .i64),(73,.int .i64)],h:=xu,nx:=11 }
abbrev yu:List (Ev.Ex×Lay):=[((.exit 6),ab5)]
abbrev Gw:=TL yz.σs->Option (Out yu)
abbrev Gu:=Ld 8 97 (bI [0,1] (bh Tryz.f71)) yz yu
abbrev yI:Lay:=VT
abbrev yB:List (Ev.Ex×Lay):=[((.exit 2),{ T:=[(0,.ptr 0 0),(3,.int .i64),(5,.ptr 9 0),(8,.int .i64),(10,.hd 10 (.int .i64)),(17,.fz (.sl (.int .i64))),(18,.int .i64),(19,.int .i64)],h:=xu,nx:=11 })]
abbrev GD:=TL yI.σs->Option (Out yB)
abbrev yU:=Ld 8 97 (bI [0,0] (bh Tryz.f71)) yI yB
abbrev yy:Lay:={ T:=[(0,.ptr 0 0),(3,.int .i64),(5,.ptr 9 0),(8,.int .i64),(10,.hd 10 (.int .i64)),(12,.ptr 11 0),(13,.int .i64),(17,.fz (.sl (.int .i64))),(18,.int .i64),(19,.int .i64),(27,.fz aH),(28,.int .i64),(29,.int .i64),(48,.int .i64),(49,.int .i64)],h:=[(0,.cells [.int .i64,.hd 1 (.int .i64),.hd 2 ae,.hd 3 (.int .i64),.hd 4 (.int .i64),.hd 5 (.int .i64),.hd 6 ab,.hd 8 ae] 125),(1,.arr (.int .i64) 3),(2,.arr ae 95),(3,.arr (.int .i64) 3),(4,.arr (.int .i64) 3),(5,.arr (.int .i64) 3),(6,.arr ab 116),(8,.arr ae 150),(9,.cells [.int .i64,.int .i64,.bool,.fz bg,.fz aH] 116),(10,.arr (.int .i64) 3),(11,.cells [.int .i64,.fz (.int .i64),.fz (.int .i64)] 175)],nx:=12 }
abbrev yr:List (Ev.Ex×Lay):=[((.exit 4),VT)]
abbrev Gv:=TL yy.σs->Option (Out yr)
abbrev yL:=Ld 8 97 (bI [0,0,0] (bh Tryz.f71)) yy yr
def Ru(F0:Ha)(t3 t8 t13:Int)(t17:List (List Int))(t18 t19:Int)(t27:List (Sh.T aH))(t28 t29 t48 t49 aw:Int)(b1:List Int)(b2:List (Sh.T ae))(b3 b4 b5:List Int)(b6:List (Sh.T ab))(b8:List (Sh.T ae))(iC gb:Int)(iD:Bool)(iF:List (Sh.T bg))(gV:List (Sh.T aH))(b10:List Int)(ah5:Int)(ah6 Jo:List Int):Option (TL yy.σs⊕Out yr):=
 br (iL t49 t48)
 (
  ai (av t49 (List.length Jo))<|
  ai (av t49 (List.length b10))<|
  ao (F0 (t13,((gt (.int .i64) Jo t49),((gt (.int .i64) b10 t49),(aw,(b1,(b2,(b3,(b4,(b5,(b6,(b8,())))))))))))) fun x0=>
  ai (av t49 (List.length b10))<|
  ai (iQ t49 t49)<|
  some (.inl (t3,(t8,(t13,(t17,(t18,(t19,(t27,(t28,(t29,(t48,((IntKind.wrap .i64 (t49+(1:Int))),(x0.2.1,(x0.2.2.1,(cJ x0,(cK x0,(cT x0,(cO x0,(dt x0,(dX x0,(iC,(gb,(iD,(iF,(gV,((List.set b10 (Int.toNat t49) x0.1),(ah5,(ah6,(Jo,()))))))))))))))))))))))))))))))
 (
  some (.inr (t3,(t8,(t17,(t18,(t19,(t27,(t28,(t29,(aw,(b1,(b2,(b3,(b4,(b5,(b6,(b8,(iC,(gb,(iD,(iF,(gV,(b10,()))))))))))))))))))))))))
def acr(c0:y5) :yL:=bN (fun d=>Ru c0.F  d.1 d.2.1 d.2.2.1 d.2.2.2.1 d.2.2.2.2.1 d.2.2.2.2.2.1 d.2.2.2.2.2.2.1 d.2.2.2.2.2.2.2.1 d.2.2.2.2.2.2.2.2.1 d.2.2.2.2.2.2.2.2.2.1 d.2.2.2.2.2.2.2.2.2.2.1 d.2.2.2.2.2.2.2.2.2.2.2.1 d.2.2.2.2.2.2.2.2.2.2.2.2.1 d.2.2.2.2.2.2.2.2.2.2.2.2.2.1 d.2.2.2.2.2.2.2.2.2.2.2.2.2.2.1 d.2.2.2.2.2.2.2.2.2.2.2.2.2.2.2.1 d.2.2.2.2.2.2.2.2.2.2.2.2.2.2.2.2.1 d.2.2.2.2.2.2.2.2.2.2.2.2.2.2.2.2.2.1 d.2.2.2.2.2.2.2.2.2.2.2.2.2.2.2.2.2.2.1 d.2.2.2.2.2.2.2.2.2.2.2.2.2.2.2.2.2.2.2.1 d.2.2.2.2.2.2.2.2.2.2.2.2.2.2.2.2.2.2.2.2.1 d.2.2.2.2.2.2.2.2.2.2.2.2.2.2.2.2.2.2.2.2.2.1 d.2.2.2.2.2.2.2.2.2.2.2.2.2.2.2.2.2.2.2.2.2.2.1 d.2.2.2.2.2.2.2.2.2.2.2.2.2.2.2.2.2.2.2.2.2.2.2.1 d.2.2.2.2.2.2.2.2.2.2.2.2.2.2.2.2.2.2.2.2.2.2.2.2.1 d.2.2.2.2.2.2.2.2.2.2.2.2.2.2.2.2.2.2.2.2.2.2.2.2.2.1 d.2.2.2.2.2.2.2.2.2.2.2.2.2.2.2.2.2.2.2.2.2.2.2.2.2.2.1 d.2.2.2.2.2.2.2.2.2.2.2.2.2.2.2.2.2.2.2.2.2.2.2.2.2.2.2.1) (pL (kB c0 k0) e0 1 l0 fun d=>by kernel_rfl)
def Rx:yL:=acr G9
def rR:Gv:=aX (fun d=>Ru uI  d.1 d.2.1 d.2.2.1 d.2.2.2.1 d.2.2.2.2.1 d.2.2.2.2.2.1 d.2.2.2.2.2.2.1 d.2.2.2.2.2.2.2.1 d.2.2.2.2.2.2.2.2.1 d.2.2.2.2.2.2.2.2.2.1 d.2.2.2.2.2.2.2.2.2.2.1 d.2.2.2.2.2.2.2.2.2.2.2.1 d.2.2.2.2.2.2.2.2.2.2.2.2.1 d.2.2.2.2.2.2.2.2.2.2.2.2.2.1 d.2.2.2.2.2.2.2.2.2.2.2.2.2.2.1 d.2.2.2.2.2.2.2.2.2.2.2.2.2.2.2.1 d.2.2.2.2.2.2.2.2.2.2.2.2.2.2.2.2.1 d.2.2.2.2.2.2.2.2.2.2.2.2.2.2.2.2.2.1 d.2.2.2.2.2.2.2.2.2.2.2.2.2.2.2.2.2.2.1 d.2.2.2.2.2.2.2.2.2.2.2.2.2.2.2.2.2.2.2.1 d.2.2.2.2.2.2.2.2.2.2.2.2.2.2.2.2.2.2.2.2.1 d.2.2.2.2.2.2.2.2.2.2.2.2.2.2.2.2.2.2.2.2.2.1 d.2.2.2.2.2.2.2.2.2.2.2.2.2.2.2.2.2.2.2.2.2.2.1 d.2.2.2.2.2.2.2.2.2.2.2.2.2.2.2.2.2.2.2.2.2.2.2.1 d.2.2.2.2.2.2.2.2.2.2.2.2.2.2.2.2.2.2.2.2.2.2.2.2.1 d.2.2.2.2.2.2.2.2.2.2.2.2.2.2.2.2.2.2.2.2.2.2.2.2.2.1 d.2.2.2.2.2.2.2.2.2.2.2.2.2.2.2.2.2.2.2.2.2.2.2.2.2.2.1 d.2.2.2.2.2.2.2.2.2.2.2.2.2.2.2.2.2.2.2.2.2.2.2.2.2.2.2.1) NN
def RO(F1:ow)(F2:uP)(L10:Gv)(t3 t8:Int)(t17:List (List Int))(t18 t19:Int)(t27:List (Sh.T aH))(t28 t29 aw:Int)(b1:List Int)(b2:List (Sh.T ae))(b3 b4 b5:List Int)(b6:List (Sh.T ab))(b8:List (Sh.T ae))(iC gb:Int)(iD:Bool)(iF:List (Sh.T bg))(gV:List (Sh.T aH))(b10:List Int):Option (TL yI.σs⊕Out yB):=
 br (iL t29 t28)
 (
  ai (av t29 (List.length t27))<|
  ao (F2 ((gt aH t27 t29).2.1,((IntKind.wrap .u64 t8),(aw,(b1,(b2,(b3,(b4,(b5,(b6,(b8,()))))))))))) fun x0=>
  ai (iQ (gt aH t27 t29).1 (gt aH t27 t29).1)<|
  ao (F1 ((gt aH t27 t29).1,x0)) fun x1=>
  ao (L10 (t3,(t8,(x1.1,(t17,(t18,(t19,(t27,(t28,(t29,((Int.ofNat (List.length b10)),((0:Int),(x1.2.1,(x1.2.2.1,(cJ x1,(cK x1,(cT x1,(cO x1,(dt x1,(dX x1,(iC,(gb,(iD,(iF,(gV,(b10,((gt aH t27 t29).1,((gt aH t27 t29).2.1,((gt aH t27 t29).2.2.1,()))))))))))))))))))))))))))))) fun x2=>
  some (.inl (x2.1,(x2.2.1,(x2.2.2.1,(cJ x2,(cK x2,(cT x2,(cO x2,((IntKind.wrap .i64 (@HAdd.hAdd (Int) (Int) (Int) _ (dt x2) (1:Int))),qq8 x2))))))))))
 (
  some (.inr (t3,(t8,(t17,(t18,(t19,(aw,(b1,(b2,(b3,(b4,(b5,(b6,(b8,(iC,(gb,(iD,(iF,(gV,(b10,())))))))))))))))))))))
def acB(c1:nF)(c2:rX)(M10:yL):yU:=bN (pf (RO c1.F c2.F M10.L)) (pL (kB c1 (kB c2 k0)) e0 1 (sC M10 l0) fun d=>by kernel_rfl)
def RP:yU:=acB ov uO Rx
def uD:GD:=aX (pf (RO mR qq rR)) NN
def Rw(t3 t8:Int)(t17:List (List Int))(t18 t19 t72 t73 aw:Int)(b1:List Int)(b2:List (Sh.T ae))(b3 b4 b5:List Int)(b6:List (Sh.T ab))(b8:List (Sh.T ae))(iC gb:Int)(iD:Bool)(iF:List (Sh.T bg))(gV:List (Sh.T aH))(b10:List Int):Option (TL yz.σs⊕Out yu):=
 br (iL t73 t72)
 (
  ai (av t73 (List.length b10))<|
  ai (av (IntKind.wrap .i64 ((IntKind.wrap .i64 (t3+(IntKind.wrap .i64 (t8*gb))))+t73)) (List.length b2))<|
  some (.inl (t3,(t8,(t17,(t18,(t19,(t72,((IntKind.wrap .i64 (t73+(1:Int))),(aw,(b1,((List.set b2 (Int.toNat (IntKind.wrap .i64 ((IntKind.wrap .i64 (t3+(IntKind.wrap .i64 (t8*gb))))+t73))) ((gt ae b2 (IntKind.wrap .i64 ((IntKind.wrap .i64 (t3+(IntKind.wrap .i64 (t8*gb))))+t73))).1,((gt (.int .i64) b10 t73),((gt ae b2 (IntKind.wrap .i64 ((IntKind.wrap .i64 (t3+(IntKind.wrap .i64 (t8*gb))))+t73))).2.2.1,())))),(b3,(b4,(b5,(b6,(b8,(iC,(gb,(iD,(iF,(gV,(b10,())))))))))))))))))))))))
 (
  some (.inr (t3,(t17,(t18,(t19,(aw,(b1,(b2,(b3,(b4,(b5,(b6,(b8,(iC,(gb,(iD,(iF,(gV,())))))))))))))))))))
def Ry  :Gu:=bN (uB Rw) (pL k0 e0 1 l0 fun d=>by kernel_rfl)
def yM:Gw:=aX (uB Rw) NN
def RM(F3:rV)(L6:GD)(L16:Gw)(t3:Int)(t17:List (List Int))(t18 t19 aw:Int)(b1:List Int)(b2:List (Sh.T ae))(b3 b4 b5:List Int)(b6:List (Sh.T ab))(b8:List (Sh.T ae))(iC gb:Int)(iD:Bool)(iF:List (Sh.T bg))(gV:List (Sh.T aH)):Option (TL yH.σs⊕Out yA):=
 br (iL t19 t18)
 (
  ai (av t19 (List.length t17))<|
  ao (F3 ((gt (.sl (.int .i64)) t17 t19),())) fun x0=>
  ao (L6 (t3,(t19,(t17,(t18,(t19,(gV,((Int.ofNat (List.length gV)),((0:Int),(aw,(b1,(b2,(b3,(b4,(b5,(b6,(b8,(iC,(gb,(iD,(iF,(gV,(x0.1,()))))))))))))))))))))))) fun x1=>
  ao (L16 (x1.1,(x1.2.1,(x1.2.2.1,(cJ x1,(cK x1,((Int.ofNat (List.length (cO (eh x1)))),((0:Int),qq5 x1)))))))) fun x2=>
  some (.inl (x2.1,(x2.2.1,(x2.2.2.1,((IntKind.wrap .i64 (@HAdd.hAdd (Int) (Int) (Int) _ (cJ x2) (1:Int))),qq4 x2))))))
 (
  some (.inr (aw,(b1,(b2,(b3,(b4,(b5,(b6,(b8,()))))))))))
def acA(c3:rT)(M6:yU)(M16:Gu):GB:=bN (ka (RM c3.F M6.L M16.L)) (pL (kB c3 k0) e0 1 (sC M6 (sC M16 l0)) fun d=>by kernel_rfl)
def acC:GB:=acA rU RP Ry
def yV:RQ:=aX (ka (RM ou uD yM)) NN
def GM(F0:Ha)(F1:ow)(F2:uP)(F3:rV)(L2:RQ)(L6:GD)(L10:Gv)(L16:Gw)(fW fT:Int)(iX:Bool)(pQ:List (Sh.T bg))(tG:List (Sh.T aH))(t2:List (List Int))(t3 aw:Int)(b1:List Int)(b2:List (Sh.T ae))(b3 b4 b5:List Int)(b6:List (Sh.T ab))(b7:List (Sh.T ae)):Option (Out Gs):=
 ao (L2 (t3,(t2,((Int.ofNat (List.length t2)),((0:Int),(aw,(b1,(b2,(b3,(b4,(b5,(b6,(b7,(fW,(fT,(iX,(pQ,(tG,())))))))))))))))))) fun x0=>
 some x0
def acI(c0:y5)(c1:nF)(c2:rX)(c3:rT)(M2:GB)(M6:yU)(M10:yL)(M16:Gu):y0:=⟨fB (GM c0.F c1.F c2.F c3.F M2.L M6.L M10.L M16.L),pB Tryz.func71 97 (kB c0 (kB c1 (kB c2 (kB c3 k0)))) e0 1 (sS (sC M2 l0)) fun d=>by kernel_rfl⟩
def GN:y0:=acI G9 ov uO rU acC RP Rx Ry
def GC:GO:=GN.F
abbrev zt:Lay:={ T:=[(2,.ptr 0 0),(6,.ptr 1 0),(54,.hd 9 ab),(55,.int .i64),(56,.int .i64)],h:=[(0,.cells [.int .i64,.bk,.bk,.bk,.bk,.bk,.bk,.bk] 27),(1,.cells JL 125),(2,.arr (.int .i64) 3),(3,.arr ae 95),(4,.arr (.int .i64) 3),(5,.arr (.int .i64) 3),(6,.arr (.int .i64) 3),(7,.arr ab 116),(8,.arr ae 150),(9,.arr ab 116)],nx:=10 }
abbrev zn:List (Ev.Ex×Lay):=[((.exit 1),{ T:=[(2,.ptr 0 0),(6,.ptr 1 0)],h:=[(0,.cells [.int .i64,.bk,.bk,.bk,.bk,.bk,.bk,.bk] 27),(1,.cells JL 125),(2,.arr (.int .i64) 3),(3,.arr ae 95),(4,.arr (.int .i64) 3),(5,.arr (.int .i64) 3),(6,.arr (.int .i64) 3),(7,.arr ab 116),(8,.arr ae 150)],nx:=9 })]
abbrev SX:=TL zt.σs->Option (Out zn)
abbrev H9:=Ld 0 93 (bI [0] (bh Tryz.f28)) zt zn
abbrev zu:Lay:={ T:=[(2,.ptr 0 0),(6,.ptr 1 0),(9,.ptr 9 0),(10,.int .i64),(11,.fz (.sl (.int .i64))),(54,.hd 10 ab),(55,.int .i64),(56,.int .i64),(72,.int .i64),(73,.int .i64)],h:=ab6,nx:=11 }
abbrev zo:List (Ev.Ex×Lay):=[((.exit 3),{ T:=[(2,.ptr 0 0),(6,.ptr 1 0),(9,.ptr 9 0),(10,.int .i64),(11,.fz (.sl (.int .i64))),(54,.hd 10 ab),(55,.int .i64),(56,.int .i64)],h:=ab6,nx:=11 })]
abbrev Ia:=TL zu.σs->Option (Out zo)
abbrev zE:=Ld 0 93 (bI [0,0] (bh Tryz.f28)) zu zo
def SU(F4:GR)(t10:Int)(t11:List (List Int))(t55 t56 t72 t73 aw ff:Int)(b2:List Int)(b3:List (Sh.T ae))(b4 b5 b6:List Int)(b7:List (Sh.T ab))(b8:List (Sh.T ae))(iC gb:Int)(iD:Bool)(iF:List (Sh.T bg))(gV:List (Sh.T aH))(b10:List (Sh.T ab)):Option (TL zu.σs⊕Out zo):=
 br (iL t73 t72)
 (
  ao (F4 (iC,(gb,(iD,(iF,(gV,(t73,(t11,(ff,(b2,(b3,(b4,(b5,(b6,(b7,(b8,())))))))))))))))) fun x0=>
  some (.inl (t10,(t11,(t55,(t56,(t72,((IntKind.wrap .i64 (t73+(1:Int))),(aw,(x0.1,(x0.2.1,(x0.2.2.1,(cJ x0,(cK x0,(cT x0,(cO x0,(dt x0,(iC,(gb,(iD,(iF,(gV,(b10,())))))))))))))))))))))))
 (
  some (.inr (t10,(t11,(t55,(t56,(aw,(ff,(b2,(b3,(b4,(b5,(b6,(b7,(b8,(iC,(gb,(iD,(iF,(gV,(b10,())))))))))))))))))))))
def adz(c4:y1) :zE:=bN (uB (SU c4.F)) (pL (kB c4 k0) e0 1 l0 fun d=>by kernel_rfl)
def SV:zE:=adz GQ
def uV:Ia:=aX (uB (SU RU)) NN
def SS(F3:GO)(F5:GI)(L18:Ia)(t55 t56 aw ff:Int)(b2:List Int)(b3:List (Sh.T ae))(b4 b5 b6:List Int)(b7:List (Sh.T ab))(b8:List (Sh.T ae))(b9:List (Sh.T ab)):Option (TL zt.σs⊕Out zn):=
 br (iL t56 t55)
 (
  ai (av t56 (List.length b9))<|
  ao (F5 ((gt ab b9 t56).1,((gt ab b9 t56).2.1,((gt ab b9 t56).2.2.1,((gt ab b9 t56).2.2.2.1,((gt ab b9 t56).2.2.2.2.1,(ff,(b2,(b3,(b4,(b5,(b6,(b7,(b8,())))))))))))))) fun x0=>
  ao (L18 ((Int.ofNat (List.length b3)),(x0.1,(t55,(t56,((Int.ofNat (List.length (gt ab b9 t56).2.2.2.1)),((0:Int),(aw,(x0.2.1,(x0.2.2.1,(dX x0,(cJ x0,(cK x0,(cT x0,(cO x0,(dt x0,((gt ab b9 t56).1,((gt ab b9 t56).2.1,((gt ab b9 t56).2.2.1,((gt ab b9 t56).2.2.2.1,((gt ab b9 t56).2.2.2.2.1,(b9,())))))))))))))))))))))) fun x1=>
  ao (F3 ((eh x1).2.1,((eh x1).2.2.1,(cJ (eh x1),(cK (eh x1),(cT (eh x1),(x1.2.1,(x1.1,(cT x1,(cO x1,(dt x1,(dX x1,(fu x1,(dD x1,(jg x1,(fF x1,())))))))))))))))) fun x2=>
  some (.inl (x1.2.2.1,((IntKind.wrap .i64 (@HAdd.hAdd (Int) (Int) (Int) _ (cJ x1) (1:Int))),(cK x1,(x2.1,(x2.2.1,(x2.2.2.1,(cJ x2,(cK x2,(cT x2,(cO x2,(dt x2,(cO (eh x1),()))))))))))))))
 (
  some (.inr (aw,(ff,(b2,(b3,(b4,(b5,(b6,(b7,(b8,())))))))))))
def ady(c3:y0)(c5:yZ)(M18:zE):H9:=bN (mO (SS c3.F c5.F M18.L)) (pL (kB c3 (kB c5 k0)) e0 1 (sC M18 l0) fun d=>by kernel_rfl)
def adA:H9:=ady GN GH SV
def zF:SX:=aX (mO (SS GC Gy uV)) NN
abbrev S7:List Sh:=[ca]
abbrev Ik:List Sh:=[ca,(.int .i64)]
abbrev Iv:=TL S7->Option (TL Ik)
abbrev zP:=Kd 28 S7 Ik
def adP(F0:Tv)(F1:uU)(F2:sT)(F3:GO)(F4:GR)(F5:GI)(F6:Ti)(L13:SX)(L18:Ia)(a0:Sh.T ca):Option (TL Ik):=
 ao (F2 (a0,())) fun x0=>
 br (Bool.not (iQ x0.1 (0:Int)))
 (
  some (((0:Int),([],([],([],([],([],([],([],())))))))),(x0.1,())))
 (
  ao (F1 (a0,())) fun x1=>
  br (iL (64:Int) x1.1)
  (
   some (((0:Int),([],([],([],([],([],([],([],())))))))),((17:Int),())))
  (
   ao (F0 (a0,())) fun x2=>
   br (iL (2000:Int) (IntKind.wrap .i64 ((IntKind.wrap .i64 (@HAdd.hAdd (Int) (Int) (Int) _ a0.1 x1.1))+(IntKind.wrap .i64 (@HMul.hMul (Int) (Int) (Int) _ (IntKind.wrap .i64 (@HMul.hMul (Int) (Int) (Int) _ (10:Int) x1.1)) x2.1)))))
   (
    some (((0:Int),([],([],([],([],([],([],([],())))))))),((10:Int),())))
   (
    ao (F6 a0) fun x3=>
    ao (L13 ((Int.ofNat (List.length (cO x3))),((0:Int),((0:Int),(x3.1,(x3.2.1,(x3.2.2.1,(cJ x3,(cK x3,(cT x3,([],(dt x3,(cO x3,()))))))))))))) fun x4=>
    some (x4.2,((0:Int),())))))
def adQ(c0:IJ)(c1:rY)(c2:qN)(c3:y0)(c4:y1)(c5:yZ)(c6:IA)(M13:H9)(M18:zE):zP:=⟨u1 (adP c0.F c1.F c2.F c3.F c4.F c5.F c6.F M13.L M18.L),pD Tryz.func28 93 (kD c0 (kD c1 (kD c2 (kB c3 (kB c4 (kB c5 (kB c6 k0))))))) e0 1 (sS (sC M13 l0)) fun d=>by kernel_rfl⟩
def Iu:zP:=adQ Tu uT sU GN GQ GH Th adA SV
def zK:Iv:=Iu.F
open Go.Proofs.YtkcpdpplobhpaaaGreat.Pl
def aZ(val:Int->Bool)(l:Int):Bool:=decide (l % 2=1) != (decide (0<l / 2)&&val (l / 2))
def jV(l:Int):Int:=if l % 2=0 then l+1 else l-1
def cQ(v:Nat)(l:Int):Prop:=0<=l/\l / 2<=(v:Int)
def GL(G:Int->Prop)(l:Int):Prop:=l / 2=0\/G (l / 2)
def Sat(val:Int->Bool)(A:List fw):Prop:=∀x∈A,val x.var=(aZ val x.a&&aZ val x.b)
def k8(G:Int->Prop)(A:List fw):Prop:=∀x∈A,GL G x.a->GL G x.b->G x.var
theorem sj{v:Nat}{l:Int}(h:cQ v l):cQ v (jV l)/\jV l / 2=l / 2:=by obtain⟨h1,h2⟩:=h;unfold jV cQ;split<;>(refine⟨⟨?_,?_⟩,?_⟩<;>omega)
theorem sd{val:Int->Bool}{l:Int}(h:0<=l):aZ val (jV l) = !(aZ val l):=by
 unfold aZ jV;by_cases q:l % 2=0
 .rw[if_pos q,show(l+1) / 2=l / 2 by omega,bG (show(l+1) % 2=1 by omega),cw (show ¬l % 2=1 by omega)];generalize (decide (0<l / 2)&&val (l / 2))=b;cases b<;>rfl
 .rw[if_neg q,show(l-1) / 2=l / 2 by omega,cw (show ¬(l-1) % 2=1 by omega),bG (show l % 2=1 by omega)];generalize (decide (0<l / 2)&&val (l / 2))=b;cases b<;>rfl
theorem AO(val:Int->Bool):aZ val 0=false:=by simp[aZ]
theorem Jv(val:Int->Bool):aZ val 1=true:=by simp[aZ]
theorem vk{G:Int->Prop}{v:Nat}{l:Int}(h:cQ v l):GL G (jV l)↔GL G l:=by unfold GL;rw[(sj h).2]
theorem UM{l:Int}(h:0<=l)(h2:l<4611686018427387904):sx .i64 l 1=jV l:=by
 obtain⟨n,rfl⟩:∃n:Nat,l=(n:Int):=⟨l.toNat,by omega⟩;have hn:n<4611686018427387904:=by omega
 unfold sx;have e:(BitVec.ofInt (IntKind.bits .i64) (n:Int) ^^^ BitVec.ofInt (IntKind.bits .i64) (1:Int)).toNat=n ^^^ 1:=by
  have e1:(BitVec.ofInt 64 (n:Int)).toNat=n:=by rw[BitVec.toNat_ofInt];omega
  show(BitVec.ofInt 64 (n:Int) ^^^ BitVec.ofInt 64 (1:Int)).toNat=_;rw[BitVec.toNat_xor,e1];rfl
 rw[e];have e2:n ^^^ 1=if n % 2=0 then n+1 else n-1:=by
  by_cases q:n % 2=0
  .rw[if_pos q];obtain⟨k,rfl⟩:∃k,n=2*k:=⟨n / 2,by omega⟩;apply Nat.eq_of_testBit_eq;intro i;rw[Nat.testBit_xor];cases i with|zero=>simp[Nat.testBit_zero]|succ i=>simp[Nat.testBit_succ];congr 1;omega
  .rw[if_neg q];obtain⟨k,rfl⟩:∃k,n=2*k+1:=⟨n / 2,by omega⟩;apply Nat.eq_of_testBit_eq;intro i;rw[Nat.testBit_xor];cases i with|zero=>simp[Nat.testBit_zero]|succ i=>simp[Nat.testBit_succ];congr 1;omega
 rw[e2];unfold jV;by_cases q:n % 2=0
 .rw[if_pos q,if_pos (by omega),cf (by omega)];rfl
 .rw[if_neg q,if_neg (by omega),cf (by omega)];omega
theorem Jk{p q:Int}(h:p=q):(some (p,()):Option (TL [.int .i64]))=some (q,()):=by subst h;rfl
theorem vb{v:Nat}{l:Int}(h:cQ v l)(hv:v<=1000000):IG (l,())=some (jV l,()):=by have:=UM h.1 (by have:=h.2;omega);exact Jk this
theorem ad0{v:Nat}{l:Int}(h:cQ v l)(hv:v<=1000000)(b:Bool):vc (l,(b,()))=some (if b then jV l else l,()):=by
 cases b
 .rfl
 .exact Jk (UM h.1 (by have:=h.2;omega))
theorem Tf{v:Int}(h:0<=v)(hv:v<=1000000):va (v,(false,()))=some (2*v,()):=by
 have e:IntKind.wrap .i64 (v*(HPow.hPow (2:Int) (Min.min (Int.toNat (1:Int)) 64)))=2*v:=by have:(HPow.hPow (2:Int) (Min.min (Int.toNat (1:Int)) 64))=(2:Int):=rfl;rw[this,cf (by omega)];omega
 have e2:vc (IntKind.wrap .i64 (v*(HPow.hPow (2:Int) (Min.min (Int.toNat (1:Int)) 64))),(false,()))=some (2*v,()):=by rw[e];rfl
 exact ah e2 rfl
structure Mk where
 v:Nat
 a:List fw
abbrev dw(i:List Int)(l:List ae.T)(o b c:List Int)(m:List ab.T)(s:Mk):Int×List Int×List ae.T×List Int×List Int×List Int×List ab.T×List ae.T×Unit:=((s.v:Int),(i,(l,(o,(b,(c,(m,(s.a.map cG,()))))))))
def fr(lo hi:Nat):List Int:=(List.range (hi-lo)).map fun i:Nat=>((lo+1+i:Nat):Int)
theorem I5(lo:Nat):fr lo lo=[]:=by unfold fr;rw[Nat.sub_self];rfl
theorem aht(lo:Nat):fr lo (lo+1)=[((lo+1:Nat):Int)]:=by unfold fr;rw[show lo+1-lo=1 by omega];rfl
theorem Je{a b c:Nat}(h1:a<=b)(h2:b<=c):fr a b++fr b c=fr a c:=by unfold fr;rw[show c-a=(b-a)+(c-b) by omega,List.range_add,eJ,List.map_map];congr 1;apply List.map_congr_left;intro i _;simp only[Function.comp];omega
structure Sp(s s':Mk)(c:Nat)(D:List Int):Prop where
 lo:s.v<=s'.v
 hi:s'.v<=s.v+c
 new:∃N:List fw,s'.a=s.a++N/\(N.map (·.var)).Perm (D++fr s.v s'.v)/\∀x∈N,(cQ s'.v x.a/\cQ s'.v x.b)/\(x.var∈D\/(x.a / 2<x.var/\x.b / 2<x.var))
theorem cQ.up{v w:Nat}{l:Int}(h:cQ v l)(hw:v<=w):cQ w l:=⟨h.1,by have:=h.2;omega⟩
theorem Sp.refl(s:Mk):Sp s s 0 []:=⟨aS _,aS _,[],by simp,by rw[I5];exact List.Perm.refl _,fun x h=>by cases h⟩
theorem Sp.trans{s t u:Mk}{c d:Nat}{D E:List Int}(h:Sp s t c D)(k:Sp t u d E):Sp s u (c+d) (D++E):=by
 obtain⟨N,e1,p1,l1⟩:=h.new;obtain⟨M,e2,p2,l2⟩:=k.new;have a1:=h.lo;have a2:=h.hi;have b1:=k.lo;have b2:=k.hi;refine⟨by omega,by omega,N++M,by rw[e2,e1,cz],?_,?_⟩
 .rw[eJ,<-Je a1 b1];refine(p1.append p2).trans ?_;rw[cz,cz];refine List.Perm.append_left D ?_;rw[<-cz,<-cz];exact List.Perm.append_right _ List.perm_append_comm
 .intro x hx;rcases List.mem_append.1 hx with hx|hx
  .obtain⟨⟨q1,q2⟩,q3⟩:=l1 x hx;exact⟨⟨q1.up b1,q2.up b1⟩,q3.imp (fun h=>List.mem_append_left _ h) id⟩
  .obtain⟨q1,q3⟩:=l2 x hx;exact⟨q1,q3.imp (fun h=>List.mem_append_right _ h) id⟩
theorem Sp.more{s t:Mk}{c d:Nat}{D:List Int}(h:Sp s t c D)(hc:c<=d):Sp s t d D:=⟨h.lo,by have:=h.hi;omega,h.new⟩
theorem Sp.sat{s t:Mk}{c:Nat}{D:List Int}(h:Sp s t c D){val:Int->Bool}(k:Sat val t.a):Sat val s.a:=by obtain⟨N,e,_⟩:=h.new;intro x hx;exact k x (by rw[e];exact List.mem_append_left _ hx)
theorem Sp.dO{s t:Mk}{c:Nat}{D:List Int}(h:Sp s t c D){G:Int->Prop}(k:k8 G t.a):k8 G s.a:=by obtain⟨N,e,_⟩:=h.new;intro x hx;exact k x (by rw[e];exact List.mem_append_left _ hx)
theorem Vg{L:List ae.T}{x:ae.T}(h:L.length<=10000000):room 24 (List.length (L++(x::[])))=true:=qd (by omega) (by omega)
structure A9(s:Mk):Prop where
 v:s.v<=100000
 a:s.a.length<=100000
theorem Sp.len{s t:Mk}{c:Nat}{D:List Int}(h:Sp s t c D):t.a.length<=s.a.length+D.length+c:=by
 obtain⟨N,e,p,_⟩:=h.new;have:=p.length_eq;have h2:=h.hi;rw[aI,aU]at this;have h3:(fr s.v t.v).length=t.v-s.v:=by simp[fr]
 rw[e,aU];omega
section
variable(i:List Int)(l:List ae.T)(o b c:List Int)(m:List ab.T){s:Mk}
theorem TS(h:s.v<=100000):y6 (dw i l o b c m s)=some ((2*((s.v+1:Nat):Int)),dw i l o b c m ⟨s.v+1,s.a⟩):=by
 have w:IntKind.wrap .i64 ((s.v:Int)+1)=((s.v+1:Nat):Int):=cf (x:=(s.v:Int)+1) (by omega);have e:va (IntKind.wrap .i64 ((s.v:Int)+1),(false,()))=some (2*((s.v+1:Nat):Int),()):=by rw[w];exact Tf (by omega) (by omega)
 show uL va (s.v:Int) i l o b c m (s.a.map cG)=_;unfold uL;refine ah e ?_;have k:∀p q:Int,p=q->(some (2*((s.v+1:Nat):Int),(p,(i,(l,(o,(b,(c,(m,(s.a.map cG,()))))))))):Option (Out uG))=some (2*((s.v+1:Nat):Int),(q,(i,(l,(o,(b,(c,(m,(s.a.map cG,()))))))))):=by rintro _ _ rfl;rfl
 exact k _ _ w
theorem U4(h:s.a.length<=1000000)(v x y:Int):Hm (v,(x,(y,dw i l o b c m s)))=some (dw i l o b c m ⟨s.v,s.a++[⟨v,x,y⟩]⟩):=by
 have r:=Vg (L:=s.a.map cG) (x:=(v,(x,(y,())))) (by rw[aI];omega);refine ak r ?_;have k:∀p q:List ae.T,p=q->(some ((s.v:Int),(i,(l,(o,(b,(c,(m,(p,())))))))):Option (Out y9))=some ((s.v:Int),(i,(l,(o,(b,(c,(m,(q,())))))))):=by rintro _ _ rfl;rfl
 exact k _ _ (by rw[eJ];rfl)
structure Vp(s s':Mk)(c:Nat)(f:Bool->Bool->Bool)(x y z:Int):Prop where
 sp:Sp s s' c []
 ok:cQ s'.v z
 val:∀val,Sat val s'.a->aZ val z=f (aZ val x) (aZ val y)
 dO:∀G,k8 G s'.a->GL G x->GL G y->GL G z
theorem si(h:A9 s){x y:Int}(hx:cQ s.v x)(hy:cQ s.v y):∃(z:Int) (s':Mk),mR (x,(y,dw i l o b c m s))=some (z,dw i l o b c m s')/\Vp s s' 1 (fun p q=>p&&q) x y z:=by
 have hv:=h.v;have hn:=vb hy (by omega);have S0:Sp s s 1 []:=(Sp.refl s).more (by omega);have ev:∀val,aZ val (jV y) = !(aZ val y):=fun val=>sd hy.1;by_cases h1:x=0
 .exact⟨0,s,ax (ar h1) rfl,S0,⟨by omega,by omega⟩,fun val _=>by rw[h1,AO];rfl,fun G _ _ _=>.inl (by omega)⟩
 by_cases h2:y=0
 .exact⟨0,s,ag (au h1) (ax (ar h2) rfl),S0,⟨by omega,by omega⟩,fun val _=>by show _=(aZ val x&&aZ val y);rw[h2,AO,Bool.and_false],fun G _ _ _=>.inl (by omega)⟩
 by_cases h3:x=jV y
 .exact⟨0,s,ag (au h1) (ag (au h2) (ah hn (ax (ar h3) rfl))),S0,⟨by omega,by omega⟩,fun val _=>by show _=(aZ val x&&aZ val y);rw[h3,ev,AO];cases aZ val y<;>rfl,fun G _ _ _=>.inl (by omega)⟩
 by_cases h4:x=1
 .exact⟨y,s,ag (au h1) (ag (au h2) (ah hn (ag (au h3) (ax (ar h4) rfl)))),S0,hy,fun val _=>by show _=(aZ val x&&aZ val y);rw[h4,Jv];rfl,fun G _ _ k=>k⟩
 by_cases h5:x=y
 .exact⟨y,s,ag (au h1) (ag (au h2) (ah hn (ag (au h3) (ag (au h4) (ax (ar h5) rfl))))),S0,hy,fun val _=>by show _=(aZ val x&&aZ val y);rw[h5];cases aZ val y<;>rfl,fun G _ _ k=>k⟩
 by_cases h6:y=1
 .exact⟨x,s,ag (au h1) (ag (au h2) (ah hn (ag (au h3) (ag (au h4) (ag (au h5) (ax (ar h6) rfl)))))),S0,hx,fun val _=>by show _=(aZ val x&&aZ val y);rw[h6,Jv];cases aZ val x<;>rfl,fun G _ k _=>k⟩
 have e1:=TS i l o b c m (s:=s) (by omega);have e2:oW (2*((s.v+1:Nat):Int),())=some (((s.v+1:Nat):Int),()):=by have:=FX (l:=2*((s.v+1:Nat):Int)) (q:=((s.v+1:Nat):Int)) (by omega);exact this
 have ha:=h.a;have e3:=U4 i l o b c m (s:=⟨s.v+1,s.a⟩) (by show s.a.length<=_;omega) ((s.v+1:Nat):Int) x y;refine⟨2*((s.v+1:Nat):Int),⟨s.v+1,s.a++[⟨((s.v+1:Nat):Int),x,y⟩]⟩,ag (au h1) (ag (au h2) (ah hn (ag (au h3) (ag (au h4) (ag (au h5) (ag (au h6) (ah e1 (ah e2 (ah e3 rfl))))))))),?_,?_,?_,?_⟩
 .refine⟨by show s.v<=s.v+1;omega,aS _,[⟨((s.v+1:Nat):Int),x,y⟩],rfl,?_,?_⟩
  .show[((s.v+1:Nat):Int)].Perm ([]++fr s.v (s.v+1));rw[aht];exact List.Perm.refl _
  .intro z hz;obtain rfl:=List.mem_singleton.1 hz;exact⟨⟨hx.up (by show s.v<=s.v+1;omega),hy.up (by show s.v<=s.v+1;omega)⟩,.inr ⟨by have:=hx.2;show x / 2<((s.v+1:Nat):Int);omega,by have:=hy.2;show y / 2<((s.v+1:Nat):Int);omega⟩⟩
 .exact⟨by omega,by show 2*((s.v+1:Nat):Int) / 2<=((s.v+1:Nat):Int);omega⟩
 .intro val k;have:=k ⟨((s.v+1:Nat):Int),x,y⟩ (by show _∈s.a++_;simp);have this:val ((s.v+1:Nat):Int)=(aZ val x&&aZ val y):=this;unfold aZ;rw[show 2*((s.v+1:Nat):Int) / 2=((s.v+1:Nat):Int) by omega,cw (show ¬2*((s.v+1:Nat):Int) % 2=1 by omega),bG (show(0:Int)<((s.v+1:Nat):Int) by omega),this];simp[aZ]
 .intro G k gx gy;refine .inr ?_;rw[show 2*((s.v+1:Nat):Int) / 2=((s.v+1:Nat):Int) by omega];exact k ⟨((s.v+1:Nat):Int),x,y⟩ (by show _∈s.a++_;simp) gx gy
theorem U7(h:A9 s){x y:Int}(hx:cQ s.v x)(hy:cQ s.v y):∃(z:Int) (s':Mk),uM (x,(y,dw i l o b c m s))=some (z,dw i l o b c m s')/\Vp s s' 1 (fun p q=>p||q) x y z:=by
 have hv:=h.v;obtain⟨z,s',e,A⟩:=si i l o b c m h (sj hx).1 (sj hy).1;have hs:=A.sp.hi;have hn:=vb A.ok (by omega);have E:uM (x,(y,dw i l o b c m s))=some (jV z,dw i l o b c m s'):=by show Hv IG mR x y (s.v:Int) i l o b c m (s.a.map cG)=_;unfold Hv;exact ah (vb hx (by omega)) (ah (vb hy (by omega)) (ah e (ah hn rfl)))
 refine⟨jV z,s',E,A.sp,(sj A.ok).1,?_,?_⟩
 .intro val k;show _=(aZ val x||aZ val y);rw[sd A.ok.1,A.val val k];show(!(aZ val (jV x)&&aZ val (jV y)))=_;rw[sd hx.1,sd hy.1];cases aZ val x<;>cases aZ val y<;>rfl
 .intro G k gx gy;exact(vk A.ok).2 (A.dO G k ((vk hx).2 gx) ((vk hy).2 gy))
structure aiL(s s':Mk)(c:Nat)(u x y z:Int):Prop where
 sp:Sp s s' c []
 ok:cQ s'.v z
 val:∀val,Sat val s'.a->aZ val z=(if aZ val u=true then aZ val x else aZ val y)
 dO:∀G,k8 G s'.a->GL G u->GL G x->GL G y->GL G z
theorem Sp.Ol{s t:Mk}{c:Nat}(h:Sp s t c [])(hv:s.v+c<=100000)(ha:s.a.length+c<=100000):A9 t:=by have h1:=h.hi;have h2:=h.len;exact⟨by omega,by simp at h2;omega⟩
theorem aef(hv:s.v+3<=100000)(ha:s.a.length+3<=100000){u x y:Int}(hu:cQ s.v u)(hx:cQ s.v x)(hy:cQ s.v y) :
  ∃(z:Int) (s':Mk),uI (u,(x,(y,dw i l o b c m s)))=some (z,dw i l o b c m s')/\aiL s s' 3 u x y z:=by
 obtain⟨p,s1,e1,A1⟩:=si i l o b c m ⟨by omega,by omega⟩ hu hx;have m1:=A1.sp.Ol (by omega) (by omega);have l1:=A1.sp.lo;have g1:=A1.sp.hi;have k1:=A1.sp.len;obtain⟨q,s2,e2,A2⟩:=si i l o b c m m1 ((sj hu).1.up l1) (hy.up l1);have m2:=A2.sp.Ol (by omega) (by simp at k1;omega);have l2:=A2.sp.lo;have g2:=A2.sp.hi;obtain⟨z,s3,e3,A3⟩:=U7 i l o b c m m2 (A1.ok.up l2) A2.ok;have E:uI (u,(x,(y,dw i l o b c m s)))=some (z,dw i l o b c m s3):=by show G8 IG uM mR u x y (s.v:Int) i l o b c m (s.a.map cG)=_;unfold G8;exact ah e1 (ah (vb hu (by omega)) (ah e2 (ah e3 rfl)))
 refine⟨z,s3,E,(A1.sp.trans A2.sp).trans A3.sp,A3.ok,?_,?_⟩
 .intro val k;have k2:=A3.sp.sat k;have k1:=A2.sp.sat k2;rw[A3.val val k,A2.val val k2,A1.val val k1];show((aZ val u&&aZ val x)||(aZ val (jV u)&&aZ val y))=_;rw[sd hu.1];cases aZ val u<;>cases aZ val x<;>cases aZ val y<;>rfl
 .intro G k gu gx gy;have k2:=A3.sp.dO k;have k1:=A2.sp.dO k2;exact A3.dO G k (A1.dO G k1 gu gx) (A2.dO G k2 ((vk hu).2 gu) gy)
end
theorem oD{D O:Type}{B:D->Option (D⊕O)}(n:Nat)(I:Nat->D->Prop){Q:O->Prop}(hs:∀i d,i<n->I i d->∃d',B d=some (.inl d')/\I (i+1) d')(he:∀d,I n d->∃o,B d=some (.inr o)/\Q o)
  {d:D}(h0:I 0 d) {N:Nat}(hN:n<N):∃o,aX B N d=some o/\Q o:=by
 have main:∀k i d N,i+k=n->I i d->k<N->∃o,aX B N d=some o/\Q o:=by
  intro k
  induction k with
  |zero=>
   intro i d N e h hN;obtain rfl:i=n:=by omega
   obtain⟨o,h1,h2⟩:=he d h;cases N with|zero=>omega|succ N=>exact⟨o,by simp only[aX,h1],h2⟩
  |succ k ih=>intro i d N e h hN;obtain⟨d',h1,h2⟩:=hs i d (by omega) h;cases N with|zero=>omega|succ N=>obtain⟨o,h3,h4⟩:=ih (i+1) d' N (by omega) h2 (by omega);exact⟨o,by simp only[aX,h1];exact h3,h4⟩
 exact main n 0 d N (by omega) h0 hN
theorem age{w k:Nat}(hw:w<18446744073709551616)(hk:k<=64):kv .u64 (Int.fdiv (w:Int) (HPow.hPow (2:Int) (Min.min (Int.toNat (k:Int)) 64))) (1:Int)=((w / 2^k % 2:Nat):Int):=by
 have hd:Int.fdiv (w:Int) (HPow.hPow (2:Int) (Min.min (Int.toNat (k:Int)) 64))=((w / 2^k:Nat):Int):=by rw[eD,Nat.min_eq_left hk,Int.fdiv_eq_ediv_of_nonneg _ (Int.pow_nonneg (by decide))];simp
 have hlt:w / 2^k<=w:=Nat.div_le_self _ _;rw[hd];generalize w / 2^k=q at hlt;rw[TY (by omega) (by omega)];omega
theorem Ae:∀(l:List Bool) (i:Nat),i<l.length->l.getD i false=decide (cd l / 2^i % 2=1)
 |[],i,h=>by simp at h|b::l,i,h=>by
  cases i with
  |zero=>simp only[List.getD_cons_zero,cd,Nat.pow_zero,Nat.div_one];cases b<;>simp<;>omega
  |succ i=>
   have e:cd (b::l) / 2^(i+1) % 2=cd l / 2^i % 2:=by
    show((if b=true then 1 else 0)+2*cd l) / 2^(i+1) % 2=_;rw[Nat.pow_succ,Nat.mul_comm (2^i) 2,<-Nat.div_div_eq_div_mul];have:(((if b=true then 1 else 0)+2*cd l) / 2)=cd l:=by cases b<;>simp<;>omega
    rw[this]
   rw[List.getD_cons_succ];exact(Ae l i (by simpa using h)).trans (congrArg (fun n:Nat=>decide (n=1)) e.symm)
theorem Uq{l:List Bool}{w:Nat}(hw:w<2^l.length)(h:∀i,i<l.length->l.getD i false=decide (w / 2^i % 2=1)):cd l=w:=by
 apply Nat.eq_of_testBit_eq;intro i;rw[Nat.testBit_eq_decide_div_mod_eq,Nat.testBit_eq_decide_div_mod_eq];by_cases q:i<l.length
 .rw[<-Ae l i q,h i q]
 .have h1:=pH l;have h2:2^l.length<=2^i:=Nat.pow_le_pow_right (by omega) (by omega);rw[Nat.div_eq_of_lt (by omega),Nat.div_eq_of_lt (by omega)]
section
variable(i:List Int)(l:List ae.T)(o b c:List Int)(m:List ab.T){s:Mk}
structure vJ(s s':Mk)(L:List Int)(n w:Nat)(z:Int):Prop where
 sp:Sp s s' n []
 ok:cQ s'.v z
 val:∀val,Sat val s'.a->(aZ val z=true↔∀k,k<n->aZ val (L.getD k 0)=decide (w / 2^k % 2=1))
 dO:∀G,k8 G s'.a->(∀x∈L,GL G x)->GL G z
theorem U6{L:List Int}{w:Nat}(hL:L.length<=64)(hw:w<18446744073709551616)(hx:∀x∈L,cQ s.v x)(hv:s.v+L.length<=100000)(ha:s.a.length+L.length<=100000) :
  ∃(z:Int) (s':Mk),qq (L,((w:Int),dw i l o b c m s))=some (z,dw i l o b c m s')/\vJ s s' L L.length w z:=by
 have eL:∃q,Hq ((w:Int),((1:Int),(L,(((L.length:Nat):Int),((0:Int),dw i l o b c m s)))))=some q/\∃(z:Int) (s':Mk),q=(z,dw i l o b c m s')/\vJ s s' L L.length w z:=by
  unfold Hq;delta ot;refine oD L.length (fun k d=>∃(z:Int) (s':Mk),d=((w:Int),(z,(L,(((L.length:Nat):Int),((k:Int),dw i l o b c m s')))))/\vJ s s' L k w z) ?_ ?_ ⟨1,s,rfl,Sp.refl s,⟨by omega,by omega⟩,fun val _=>⟨fun _ k hk=>by omega,fun _=>Jv val⟩,fun G _ _=>.inl (by omega)⟩ (bL (by omega))
  .rintro k d hk ⟨z,t,rfl,A⟩;have hxk:=aN hk;have g:gt (.int .i64) L (k:Int)=L[k]:=bF (σ:=.int .i64) hxk;have hl:L.getD k 0=L[k]:=by rw[bM,hxk];rfl
   have lk:=hx L[k] (dk hk);have lo:=A.sp.lo;have hi:=A.sp.hi;have hlen:=A.sp.len;have mk:A9 t:=A.sp.Ol (by omega) (by omega);have hb:iQ (kv .u64 (Int.fdiv (w:Int) (HPow.hPow (2:Int) (Min.min (Int.toNat (k:Int)) 64))) (1:Int)) 0=decide (w / 2^k % 2=0):=by
    rw[age hw (by omega)];show decide (((w / 2^k % 2:Nat):Int)=0)=_;by_cases q:w / 2^k % 2=0
    .rw[bG q,bG (by omega)]
    .rw[cw q,cw (by omega)]
   obtain⟨x,ex⟩:∃x,x=(if decide (w / 2^k % 2=0)then jV L[k]else L[k]):=⟨_,rfl⟩;have e1:vc (gt (.int .i64) L (k:Int),(iQ (kv .u64 (Int.fdiv (w:Int) (HPow.hPow (2:Int) (Min.min (Int.toNat (k:Int)) 64))) (1:Int)) 0,()))=some (x,()):=by rw[hb,g,ex];exact ad0 lk (by omega) _
   have xo:cQ t.v x:=by
    rw[ex];split
    .exact(sj lk).1.up lo
    .exact lk.up lo
   have xe:∀val,aZ val x=(aZ val L[k] == decide (w / 2^k % 2=1)):=by
    intro val;rw[ex];by_cases q:w / 2^k % 2=0
    .rw[bG q,cw (by omega),if_pos rfl,sd lk.1];cases aZ val L[k]<;>rfl
    .rw[cw q,bG (by omega)];cases h:aZ val L[k]<;>simp[h]
   obtain⟨y,t',e2,A2⟩:=si i l o b c m mk A.ok xo;have ek:∀p q:Int,p=q->(some (.inl ((w:Int),(y,(L,(((L.length:Nat):Int),(p,dw i l o b c m t')))))):Option (TL zd.σs⊕Out y7))=some (.inl ((w:Int),(y,(L,(((L.length:Nat):Int),(q,dw i l o b c m t')))))):=by rintro _ _ rfl;rfl
   refine⟨_,ax (ar (show(k:Int)<((L.length:Nat):Int) by omega)) (ak (show av (k:Int) (List.length L)=true from aK ⟨by omega,by omega⟩) (ak (ar (show(0:Int)<=(k:Int) by omega)) (ah e1 (ah e2 (ek _ _ (bR (show(k:Int)+1=((k+1:Nat):Int) by omega) (by omega))))))),y,t',rfl,A.sp.trans A2.sp,A2.ok,?_,?_⟩
   .intro val hs;rw[A2.val val hs];show(aZ val z&&aZ val x)=true↔_;rw[Bool.and_eq_true,A.val val (A2.sp.sat hs),xe val];constructor
    .rintro⟨h1,h2⟩ j hj;by_cases q:j<k
     .exact h1 j q
     .obtain rfl:j=k:=by omega
      rw[hl];simpa using h2
    .intro h;refine⟨fun j hj=>h j (by omega),?_⟩;have:=h k (by omega);rw[hl]at this;simpa using this
   .intro G hc hg;refine A2.dO G hc (A.dO G (A2.sp.dO hc) hg) ?_;have:=hg L[k] (dk hk);rw[ex];split
    .exact(vk lk).2 this
    .exact this
  .rintro d ⟨z,t,rfl,A⟩;exact⟨_,ag (au (show ¬((L.length:Nat):Int)<((L.length:Nat):Int) by omega)) rfl,z,t,rfl,A⟩
 obtain⟨q,e,z,t,rfl,A⟩:=eL;refine⟨z,t,?_,A⟩;show Hu vc mR Hq L (w:Int) (s.v:Int) i l o b c m (s.a.map cG)=_;unfold Hu;exact ah e rfl
theorem vJ.word{s s':Mk}{L:List Int}{w:Nat}{z:Int}(h:vJ s s' L L.length w z)(hw:w<2^L.length)(val:Int->Bool)(k:Sat val s'.a):aZ val z=decide (cd (L.map (aZ val))=w):=by
 have h1:=h.val val k;have key:(∀k,k<L.length->aZ val (L.getD k 0)=decide (w / 2^k % 2=1))↔cd (L.map (aZ val))=w:=by
  have hg:∀k,k<L.length->(L.map (aZ val)).getD k false=aZ val (L.getD k 0):=by intro k hk;rw[bM,bM,bT,aN hk];rfl
  constructor
  .intro q;refine Uq (by rw[aI];exact hw) ?_;intro k hk;rw[aI]at hk;rw[hg k hk];exact q k hk
  .intro q k hk;rw[<-hg k hk,Ae _ _ (by rw[aI];exact hk),q]
 rw[key]at h1;by_cases q:cd (L.map (aZ val))=w
 .rw[bG q];exact h1.2 q
 .rw[cw q];cases h:aZ val z
  .rfl
  .exact absurd (h1.1 h) q
end
theorem anE(a:Int):JA a a=true:=bG rfl
theorem anu(a:Bool):N8 a a=true:=bG rfl
theorem aaP:∀l:List UInt8,Ev.qg l l=true
 |[]=>rfl|x::l=>by simp[Ev.qg,aaP l]
theorem anz(a:ByteArray):Ev.vE a a=true:=aaP _
mutual
theorem Sh.jY:∀{σ:Sh}(a:σ.T),σ.beq a a=true
 |.int _,a=>anE a|.bool,a=>anu a|.str,a=>anz a|.agg l,a=>abf (l:=l) a|.sl s,a=>jX (fun x=>Sh.jY x) a
theorem abf:∀{l:List Sh}(a:TL l),tq l a a=true
 |[],a=>rfl|s::l,a=>by have h1:=Sh.jY (σ:=s) a.1;have h2:=abf (l:=l) a.2;show(match s.beq a.1 a.1 with|true=>tq l a.2 a.2|false=>false)=true;rw[h1];exact h2
end
theorem lE{a L:Nat}(ha:a<=100)(h:L<=10000000):room a L=true:=l9 (by have:(2*L+192)*a<=(2*10000000+192)*100:=Nat.mul_le_mul (by omega) ha;omega) (by omega)
theorem tg{σ:Sh}{L:List σ.T}{k:Nat}(h:k<L.length){x:σ.T}(hx:x=gt σ L (k:Int)){z:Int}(hz:z=(k:Int)):List.set L (Int.toNat z) x=L:=by subst hx;subst hz;have:=bF (σ:=σ) (aN h);rw[this,eD];exact List.set_getElem_self h
theorem qX{L:List Int}(h:L.length<=1000000):ou (L,())=some (L,()):=ak (lE (by decide) (by show([]++L).length<=_;rw[List.nil_append];omega)) rfl
theorem aoc{L:List ae.T}(h:L.length<=1000000):aca (L,())=some (L,()):=ak (lE (by decide) (by show([]++L).length<=_;rw[List.nil_append];omega)) rfl
theorem aoa{L:List ae.T}(h:L.length<=1000000):acg (L,())=some (L,()):=ak (lE (by decide) (by show([]++L).length<=_;rw[List.nil_append];omega)) rfl
theorem aod{L:List ab.T}(h:L.length<=1000000):Zr (L,())=some (L,()):=ak (lE (by decide) (by show([]++L).length<=_;rw[List.nil_append];omega)) rfl
theorem aoe{L:List bg.T}(h:L.length<=1000000):sQ (L,())=some (L,()):=ak (lE (by decide) (by show([]++L).length<=_;rw[List.nil_append];omega)) rfl
theorem aof{L:List aH.T}(h:L.length<=1000000):sP (L,())=some (L,()):=ak (lE (by decide) (by show([]++L).length<=_;rw[List.nil_append];omega)) rfl
section
variable(i:Nat)(t41 t42 b00:Int)(b01:List Int)(b02:List ae.T)(b03 b04 b05:List Int)(b07:List ae.T)(b1:List ab.T)(m0 m1:Int)(m2:Bool)(rs:List bg.T)(ws:List aH.T)(z:Int)
theorem aid(hr:rs.length<=1000)(hrr:∀r∈rs,r.2.1.length<=100000) :
  Ib ((i:Int),(t41,(t42,((rs.length:Int),((0:Int),(b00,(b01,(b02,(b03,(b04,(b05,((i:Int),(b1,(m0,(m1,(m2,(rs,(ws,(b07,(z,()))))))))))))))))))))=some ((i:Int),(t41,(t42,(b00,(b01,(b02,(b03,(b04,(b05,((i:Int),(b1,(m0,(m1,(m2,(rs,(ws,(b07,(z,())))))))))))))))))):=by
 unfold Ib;delta ku;refine dn (fun k:Nat=>((i:Int),(t41,(t42,((rs.length:Int),((k:Int),(b00,(b01,(b02,(b03,(b04,(b05,((i:Int),(b1,(m0,(m1,(m2,(rs,(ws,(b07,(z,()))))))))))))))))))))) rs.length rfl ?_ ?_ (bL (by omega))
 .intro k hk;have hx:=aN hk;have hg:gt bg rs (k:Int)=rs[k]:=bF (σ:=bg) hx;have e1:ou ((gt bg rs (k:Int)).2.1,())=some ((gt bg rs (k:Int)).2.1,()):=qX (by rw[hg];exact dK (hrr _ (dk hk)) (by decide));have e:∀(p q:Int) (A:List bg.T),p=q->A=rs->(some (.inl ((i:Int),(t41,(t42,((rs.length:Int),(p,(b00,(b01,(b02,(b03,(b04,(b05,((i:Int),(b1,(m0,(m1,(m2,(A,(ws,(b07,(z,()))))))))))))))))))))):Option (TL zv.σs⊕Out zq))=some (.inl ((i:Int),(t41,(t42,((rs.length:Int),(q,(b00,(b01,(b02,(b03,(b04,(b05,((i:Int),(b1,(m0,(m1,(m2,(rs,(ws,(b07,(z,()))))))))))))))))))))):=by rintro _ _ _ rfl rfl;rfl
  have hi:av (k:Int) (List.length rs)=true:=aK ⟨by omega,by omega⟩
  try dsimp only
  unfold zG;have nb:Nat.beq i i=true:=by simp
  have nn:nQ (Int.toNat (i:Int)) (Int.toNat (i:Int))=true:=ar rfl;exact ax (ar (show(k:Int)<(rs.length:Int) by omega)) (ak nb (ak nb (ak hi (ah e1 (ak hi (ak nn (ak nn (ak nn (ak nb (ak (ar rfl) (e _ _ _ (bR (by omega) (by omega)) (tg (σ:=bg) hk rfl rfl))))))))))))
 .try dsimp only
  unfold zG;exact ag (au (show ¬(rs.length:Int)<(rs.length:Int) by omega)) rfl
theorem aie(hr:ws.length<=1000)(hrr:∀r∈ws,r.2.1.length<=100000/\r.2.2.1.length<=100000) :
  Ic ((i:Int),(t41,(t42,((ws.length:Int),((0:Int),(b00,(b01,(b02,(b03,(b04,(b05,((i:Int),(b1,(m0,(m1,(m2,(rs,(ws,(b07,(z,()))))))))))))))))))))=some (t41,(t42,(b00,(b01,(b02,(b03,(b04,(b05,((i:Int),(b1,(m0,(m1,(m2,(rs,(ws,(b07,(z,())))))))))))))))) ):=by
 unfold Ic;delta ku;refine dn (fun k:Nat=>((i:Int),(t41,(t42,((ws.length:Int),((k:Int),(b00,(b01,(b02,(b03,(b04,(b05,((i:Int),(b1,(m0,(m1,(m2,(rs,(ws,(b07,(z,()))))))))))))))))))))) ws.length rfl ?_ ?_ (bL (by omega))
 .intro k hk;have hx:=aN hk;have hg:gt aH ws (k:Int)=ws[k]:=bF (σ:=aH) hx;have hb:=hrr _ (dk hk);have e1:ou ((gt aH ws (k:Int)).2.1,())=some ((gt aH ws (k:Int)).2.1,()):=qX (by rw[hg];exact dK hb.1 (by decide));have e2:ou ((gt aH ws (k:Int)).2.2.1,())=some ((gt aH ws (k:Int)).2.2.1,()):=qX (by rw[hg];exact dK hb.2 (by decide));have e:∀(p q:Int) (A:List aH.T),p=q->A=ws->(some (.inl ((i:Int),(t41,(t42,((ws.length:Int),(p,(b00,(b01,(b02,(b03,(b04,(b05,((i:Int),(b1,(m0,(m1,(m2,(rs,(A,(b07,(z,()))))))))))))))))))))):Option (TL zw.σs⊕Out zs))=some (.inl ((i:Int),(t41,(t42,((ws.length:Int),(q,(b00,(b01,(b02,(b03,(b04,(b05,((i:Int),(b1,(m0,(m1,(m2,(rs,(ws,(b07,(z,()))))))))))))))))))))):=by rintro _ _ _ rfl rfl;rfl
  have hi:av (k:Int) (List.length ws)=true:=aK ⟨by omega,by omega⟩;have hs1:List.set ws (Int.toNat (k:Int)) ((gt aH ws (k:Int)).1,((gt aH ws (k:Int)).2.1,((gt aH ws (k:Int)).2.2.1,())))=ws:=tg (σ:=aH) hk rfl rfl;have hs2:∀A:List aH.T,A=ws->List.set A (Int.toNat (k:Int)) ((gt aH A (k:Int)).1,((gt aH A (k:Int)).2.1,((gt aH ws (k:Int)).2.2.1,())))=ws:=by rintro _ rfl;exact hs1
  try dsimp only
  unfold zH;have nb:Nat.beq i i=true:=by simp
  have nk:nQ (Int.toNat (k:Int)) (Int.toNat (k:Int))=true:=ar rfl;exact ax (ar (show(k:Int)<(ws.length:Int) by omega)) (ak nb (ak hi (ah e1 (ak nk (ak nk (ak nk (ak nk (ak nk (ak (jX (fun x=>Sh.jY x) _) (ah e2 (ak nk (ak nk (ak nk (e _ _ _ (bR (by omega) (by omega)) (hs2 _ hs1)))))))))))))))
 .try dsimp only
  unfold zH;exact ag (au (show ¬(ws.length:Int)<(ws.length:Int) by omega)) rfl
end
theorem an9{n:aB}(ft:Fit n)(b00:Int)(b01:List Int)(b02:List ae.T)(b03 b04 b05:List Int)(b07:List ae.T)(z:Int) :
  S9 (((n.aa.map af).length:Int),((0:Int),(b00,(b01,(b02,(b03,(b04,(b05,(n.aa.map af,(b07,(z,())))))))))))=some (b00,(b01,(b02,(b03,(b04,(b05,(n.aa.map af,(b07,(z,()))))))))):=by
 have hL:(n.aa.map af).length=n.aa.length:=aI ..;have hM:=ft.aa.1;unfold S9;delta kV;refine dn (fun k:Nat=>(((n.aa.map af).length:Int),((k:Int),(b00,(b01,(b02,(b03,(b04,(b05,(n.aa.map af,(b07,(z,()))))))))))) ) n.aa.length rfl ?_ ?_ (bL (by omega))
 .intro k hk;have hx:=aN hk;have hx':(n.aa.map af)[k]?=some (af n.aa[k]):=by rw[bT,hx];rfl
  have hf:=ft.aa.2 _ (dk hk);generalize n.aa[k]=m at hx' hf;have hg:gt ab (n.aa.map af) (k:Int)=af m:=bF (σ:=ab) hx';have e1:sQ ((gt ab (n.aa.map af) (k:Int)).2.2.2.1,())=some (m.reads.map bW,()):=by rw[hg];exact aoe (by show(m.reads.map bW).length<=_;rw[aI];have:=hf.oi;omega)
  have e2:sP ((gt ab (n.aa.map af) (k:Int)).2.2.2.2.1,())=some (m.writes.map bH,()):=by rw[hg];exact aof (by show(m.writes.map bH).length<=_;rw[aI];have:=hf.qp;omega)
  have e13:=aid k ((n.aa.map af).length:Int) (k:Int) b00 b01 b02 b03 b04 b05 b07 (n.aa.map af) (gt ab (n.aa.map af) (k:Int)).1 (gt ab (n.aa.map af) (k:Int)).2.1 (gt ab (n.aa.map af) (k:Int)).2.2.1 (m.reads.map bW) (m.writes.map bH) z (by rw[aI];have:=hf.oi;omega) (fun r hr=>by obtain⟨r2,hr2,rfl⟩:=List.mem_map.1 hr;have:=(hf.ks r2 hr2).1;show r2.addr.length<=_;omega);have e18:=aie k ((n.aa.map af).length:Int) (k:Int) b00 b01 b02 b03 b04 b05 b07 (n.aa.map af) (gt ab (n.aa.map af) (k:Int)).1 (gt ab (n.aa.map af) (k:Int)).2.1 (gt ab (n.aa.map af) (k:Int)).2.2.1 (m.reads.map bW) (m.writes.map bH) z (by rw[aI];have:=hf.qp;omega) (fun r hr=>by obtain⟨r2,hr2,rfl⟩:=List.mem_map.1 hr;have:=hf.pg r2 hr2;exact⟨by show r2.addr.length<=_;omega,by show r2.data.length<=_;omega⟩);have e:∀(p q:Int) (A:List ab.T),p=q->A=n.aa.map af->(some (.inl (((n.aa.map af).length:Int),(p,(b00,(b01,(b02,(b03,(b04,(b05,(A,(b07,(z,())))))))))))) :Option (TL zC.σs⊕Out zx))=some (.inl (((n.aa.map af).length:Int),(q,(b00,(b01,(b02,(b03,(b04,(b05,(n.aa.map af,(b07,(z,())))))))))))) :=by rintro _ _ _ rfl rfl;rfl
  have hst:List.set (n.aa.map af) (Int.toNat (k:Int)) ((gt ab (n.aa.map af) (k:Int)).1,((gt ab (n.aa.map af) (k:Int)).2.1,((gt ab (n.aa.map af) (k:Int)).2.2.1,(m.reads.map bW,(m.writes.map bH,())))))=n.aa.map af:=tg (σ:=ab) (by omega) (by rw[hg];rfl) rfl;have hi:av (k:Int) (List.length (n.aa.map af))=true:=aK ⟨by omega,by omega⟩;have nn:nQ (Int.toNat (k:Int)) (Int.toNat (k:Int))=true:=ar rfl;have nb:Nat.beq (Int.toNat (k:Int)) (Int.toNat (k:Int))=true:=by simp
  try dsimp only
  unfold zM;refine ax (ar (show(k:Int)<((n.aa.map af).length:Int) by omega)) (ak hi (ah e1 (ak nn (ak nn (ak nn (ak nn (ak nn (ak (jX (fun x=>Sh.jY x) _) (ah e2 (ak nn (ak nn (ak nn (ak nb (ak nb (ah e13 (ak nb (ah e18 (e _ _ _ (bR (show(k:Int)+1=((k+1:Nat):Int) by omega) (by omega)) hst))))))))))))))))))
 .try dsimp only
  unfold zM;exact ag (au (show ¬(n.aa.length:Int)<((n.aa.map af).length:Int) by omega)) rfl
theorem aet{n:aB}(ft:Fit n):adH (n.vars,(n.aL,(n.aj.map bf,(n.bz,(n.bc,(n.constraints,(n.aa.map af,(n.aC.map cG,()))))))))=some (n.vars,(n.aL,(n.aj.map bf,(n.bz,(n.bc,(n.constraints,(n.aa.map af,(n.aC.map cG,())))))))):=by have e1:=qX (L:=n.aL) (by have:=ft.ins.1;omega);have e2:=qX (L:=n.bz) (by have:=ft.out.1;omega);have e3:=qX (L:=n.bc) (by have:=ft.bad.1;omega);have e4:=qX (L:=n.constraints) (by have:=ft.mJ.1;omega);have e5:=aoc (L:=n.aj.map bf) (by rw[aI];have:=ft.aE.1;omega);have e6:=aoa (L:=n.aC.map cG) (by rw[aI];have:=ft.aC.1;omega);have e7:=aod (L:=n.aa.map af) (by rw[aI];have:=ft.aa.1;omega);have e8:=an9 ft n.vars n.aL (n.aj.map bf) n.bz n.bc n.constraints (n.aC.map cG) (0:Int);exact ah e1 (ah e2 (ah e3 (ah e4 (ah e5 (ak (jX (fun x=>Sh.jY x) _) (ak (jX (fun x=>Sh.jY x) _) (ah e6 (ak (jX (fun x=>Sh.jY x) _) (ah e7 (ah e8 rfl))))))))))
