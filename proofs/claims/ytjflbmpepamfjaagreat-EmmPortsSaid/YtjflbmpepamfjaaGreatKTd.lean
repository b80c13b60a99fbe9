import Derived.Test.YtjflbmpepamfjaaGreatKTa
set_option linter.all false
section
namespace Go.Proofs.YtjflbmpepamfjaaGreat.V
open Go Go.RowKit
set_option maxRecDepth 1000000
abbrev atF:Lay:=⟨[(0,.eg .I)],[],0⟩
abbrev Xp:List (Ev.Ex×Lay):=[(.ret,⟨[(0,.hd 0 .I)],[(0,.arr .I 3)],1⟩)]
abbrev X6:=Kb 64 1 atF 1 Xp
def aup(t0z:Bool)(t0:io):Option (Out Xp):=
 br t0z
 (
  some ([],()))
 (
  aq (room 8 (List.length (ap [] t0)))<|
  some ((ap [] t0),()))
def auo  :X6:=⟨u2 aup,pB Tryz.func64 8 k0 e0 1 (sS l0) fun d=>aGm⟩
def atS:X6:=auo
abbrev X9:List Sh:=[.sl .I]
abbrev X8:List Sh:=[.sl .I]
abbrev Bo:=TL X9->Option (TL X8)
abbrev Bq:=Kd 64 X9 X8
def Bp:Bq:=⟨_,J8 atS.ok rfl (fun L=>rfl) (fun L=>⟨_,_,rfl,rfl,rfl⟩)⟩
def ua:Bo:=Bp.F
abbrev ato:Lay:=⟨[(0,.eg ag)],[],0⟩
abbrev WG:List (Ev.Ex×Lay):=[(.ret,⟨[(0,.hd 0 ag)],[(0,.arr ag 85)],1⟩)]
abbrev Xl:=Kb 65 1 ato 1 WG
def atP(t0z:Bool)(t0:bi):Option (Out WG):=
 br t0z
 (
  some ([],()))
 (
  aq (room 24 (List.length (ap [] t0)))<|
  some ((ap [] t0),()))
def atO  :Xl:=⟨u2 atP,pB Tryz.func65 8 k0 e0 1 (sS l0) fun d=>aGm⟩
def atr:Xl:=atO
abbrev Xo:List Sh:=[.sl ag]
abbrev Xm:List Sh:=[.sl ag]
abbrev XA:=TL Xo->Option (TL Xm)
abbrev XC:=Kd 65 Xo Xm
def XB:XC:=⟨_,J8 atr.ok rfl (fun L=>rfl) (fun L=>⟨_,_,rfl,rfl,rfl⟩)⟩
def atQ:XA:=XB.F
abbrev att:Lay:=⟨[(0,.eg ag)],[],0⟩
abbrev WJ:List (Ev.Ex×Lay):=[(.ret,⟨[(0,.hd 0 ag)],[(0,.arr ag 93)],1⟩)]
abbrev XP:=Kb 66 1 att 1 WJ
def aui(t0z:Bool)(t0:bi):Option (Out WJ):=
 br t0z
 (
  some ([],()))
 (
  aq (room 24 (List.length (ap [] t0)))<|
  some ((ap [] t0),()))
def auh  :XP:=⟨u2 aui,pB Tryz.func66 8 k0 e0 1 (sS l0) fun d=>aGm⟩
def atu:XP:=auh
abbrev XR:List Sh:=[.sl ag]
abbrev XQ:List Sh:=[.sl ag]
abbrev XV:=TL XR->Option (TL XQ)
abbrev XX:=Kd 66 XR XQ
def XW:XX:=⟨_,J8 atu.ok rfl (fun L=>rfl) (fun L=>⟨_,_,rfl,rfl,rfl⟩)⟩
def auj:XV:=XW.F
abbrev atk:Lay:=⟨[(0,.eg aj)],[],0⟩
abbrev Ir:List (Ev.Ex×Lay):=[(.ret,⟨[(0,.hd 0 aj)],[(0,.arr aj 54)],1⟩)]
abbrev Xd:=Kb 67 1 atk 1 Ir
def atJ(t0z:Bool)(t0:bv):Option (Out Ir):=
 br t0z
 (
  some ([],()))
 (
  aq (room 72 (List.length (ap [] t0)))<|
  some ((ap [] t0),()))
def atI  :Xd:=⟨u2 atJ,pB Tryz.func67 8 k0 e0 1 (sS l0) fun d=>aGm⟩
def atn:Xd:=atI
abbrev WZ:Lay:=⟨[(0,.fz aj)],[],0⟩
abbrev WU:List (Ev.Ex×Lay):=Ir
abbrev Xf:=be WZ WU
abbrev Xh:=Kb 67 1 WZ 1 WU
def Xg:Xh:=OA atn rfl
def atK:Xf:=Xg.F
abbrev atq:Lay:=⟨[(0,.eg bW)],[],0⟩
abbrev Iu:List (Ev.Ex×Lay):=[(.ret,⟨[(0,.hd 0 bW)],[(0,.arr bW 50)],1⟩)]
abbrev XG:=Kb 68 1 atq 1 Iu
def at7(t0z:Bool)(t0:eq):Option (Out Iu):=
 br t0z
 (
  some ([],()))
 (
  aq (room 32 (List.length (ap [] t0)))<|
  some ((ap [] t0),()))
def at6  :XG:=⟨u2 at7,pB Tryz.func68 8 k0 e0 1 (sS l0) fun d=>aGm⟩
def ats:XG:=at6
abbrev Xz:Lay:=⟨[(0,.fz bW)],[],0⟩
abbrev Xk:List (Ev.Ex×Lay):=Iu
abbrev Jf:=be Xz Xk
abbrev Jh:=Kb 68 1 Xz 1 Xk
def Jg:Jh:=OA ats rfl
def Je:Jf:=Jg.F
abbrev atm:Lay:=⟨[(0,.eg bA)],[],0⟩
abbrev Is:List (Ev.Ex×Lay):=[(.ret,⟨[(0,.hd 0 bA)],[(0,.arr bA 136)],1⟩)]
abbrev Xj:=Kb 69 1 atm 1 Is
def atN(t0z:Bool)(t0:ge):Option (Out Is):=
 br t0z
 (
  some ([],()))
 (
  aq (room 56 (List.length (ap [] t0)))<|
  some ((ap [] t0),()))
def atM  :Xj:=⟨u2 atN,pB Tryz.func69 8 k0 e0 1 (sS l0) fun d=>aGm⟩
def atp:Xj:=atM
abbrev Xe:Lay:=⟨[(0,.fz bA)],[],0⟩
abbrev Xc:List (Ev.Ex×Lay):=Is
abbrev IU:=be Xe Xc
abbrev IW:=Kb 69 1 Xe 1 Xc
def IV:IW:=OA atp rfl
def IK:IU:=IV.F
abbrev CA:List (Nat×LO):=[(0,.cells [.I,.fz .I,.fz ag,.fz .I,.fz .I,.fz .I,.hd 1 aj,.fz ag] 27),(1,.dA aj [.I,.I,.bool,.hd 2 bW,.hd 3 bA] 54),(2,.arr bW 50),(3,.arr bA 136),(4,.cells [.I,.ai,.ai,.ai,.ai,.ai,.ai,.ai] 27)]
abbrev adD:List (Nat×LO):=[(0,.cells [.I,.fz .I,.fz ag,.fz .I,.fz .I,.fz .I,.hd 1 aj,.fz ag] 27),(1,.arr aj 54),(2,.cells [.I,.ai,.ai,.ai,.ai,.ai,.ai,.ai] 27)]
abbrev BH:Lay:=⟨[(1,.ptr 0 0),(2,.ptr 2 0),(41,.I),(42,.I)],adD,3⟩
abbrev BD:List (Ev.Ex×Lay):=[((.exit 2),⟨[(1,.ptr 0 0),(2,.ptr 2 0)],adD,3⟩)]
abbrev YS:=be BH BD
abbrev Kc:=Ld 0 123 (cw [1] (bL Tryz.f29)) BH BD
abbrev BE:Lay:=⟨[(1,.ptr 0 0),(2,.ptr 4 0),(6,.dK 1 5 0),(41,.I),(42,.I),(94,.I),(95,.I)],CA,5⟩
abbrev BB:List (Ev.Ex×Lay):=[((.exit 6),⟨[(1,.ptr 0 0),(2,.ptr 4 0),(41,.I),(42,.I)],CA,5⟩)]
abbrev J4:=be BE BB
abbrev BI:=Ld 0 123 (cw [1,1] (bL Tryz.f29)) BE BB
abbrev BF:Lay:=⟨[(1,.ptr 0 0),(2,.ptr 4 0),(6,.dK 1 5 0),(41,.I),(42,.I),(69,.I),(70,.I)],CA,5⟩
abbrev BC:List (Ev.Ex×Lay):=[((.exit 4),⟨[(1,.ptr 0 0),(2,.ptr 4 0),(6,.dK 1 5 0),(41,.I),(42,.I)],CA,5⟩)]
abbrev J5:=be BF BC
abbrev BJ:=Ld 0 123 (cw [1,0] (bL Tryz.f29)) BF BC
def BL(F2:Bo)(t6 t41 t42 t69 t70 aM:Int)(aS:io)(aI:bi)(aN aP bf:io)(aJ:bi)(b1i:Int)(b1:bv)(ij ik:Int)(im:Bool)(b2:eq)(b3:ge)(wS:Int):am BF BC:=
 br (iL t70 t69)
 (
  aq (Nat.beq (Int.toNat t6) (Int.toNat b1i))<|
  aq (Nat.beq (Int.toNat t6) (Int.toNat b1i))<|
  aq (ar t70 b2.length)<|
  aL (F2 ((gt bW b2 t70).2.1,())) fun x0=>
  aq (ar t70 b2.length)<|
  aGt ((Int.ofNat (Int.toNat t6)),t41,t42,t69,(ol (t70+(1:Int))),aM,aS,aI,aN,aP,bf,aJ,(Int.ofNat (Int.toNat b1i)),b1,ij,ik,im,(List.set b2 (Int.toNat t70) ((gt bW b2 t70).1,x0.1,())),b3,wS,()))
 (
  aGu ((Int.ofNat (Int.toNat t6)),t41,t42,aM,aS,aI,aN,aP,bf,aJ,(Int.ofNat (Int.toNat b1i)),b1,ij,ik,im,b2,b3,wS,()))
def au7(c2:Bq) :BJ:=cH (tA (BL c2.F)) (pL (kD c2 k0) e0 1 l0 fun d=>aGm)
def YM:BJ:=au7 Bp
def J7:J5:=bu (tA (BL ua)) NN
def BK(F2:Bo)(t6 t41 t42 t94 t95 aM:Int)(aS:io)(aI:bi)(aN aP bf:io)(aJ:bi)(b1i:Int)(b1:bv)(ij ik:Int)(im:Bool)(b2:eq)(b3:ge)(wS:Int):am BE BB:=
 br (iL t95 t94)
 (
  aq (Nat.beq (Int.toNat t6) (Int.toNat b1i))<|
  aq (ar t95 b3.length)<|
  aL (F2 ((gt bA b3 t95).2.1,())) fun x0=>
  aL (F2 ((gt bA b3 t95).2.2.1,())) fun x1=>
  aq (nQ (Int.toNat t95) (Int.toNat t95))<|
  aGt ((Int.ofNat (Int.toNat t6)),t41,t42,t94,(ol (t95+(1:Int))),aM,aS,aI,aN,aP,bf,aJ,(Int.ofNat (Int.toNat b1i)),b1,ij,ik,im,b2,(List.set (List.set b3 (Int.toNat t95) ((gt bA b3 t95).1,x0.1,(gt bA b3 t95).2.2.1,())) (Int.toNat t95) ((gt bA (List.set b3 (Int.toNat t95) ((gt bA b3 t95).1,x0.1,(gt bA b3 t95).2.2.1,())) t95).1,(gt bA (List.set b3 (Int.toNat t95) ((gt bA b3 t95).1,x0.1,(gt bA b3 t95).2.2.1,())) t95).2.1,x1.1,())),wS,()))
 (
  aGu (t41,t42,aM,aS,aI,aN,aP,bf,aJ,(Int.ofNat (Int.toNat b1i)),b1,ij,ik,im,b2,b3,wS,()))
def au6(c2:Bq) :BI:=cH (tA (BK c2.F)) (pL (kD c2 k0) e0 1 l0 fun d=>aGm)
def YL:BI:=au6 Bp
def J6:J4:=bu (tA (BK ua)) NN
def BN(F3:IU)(F4:Jf)(L13:J5)(L18:J4)(t41 t42 aM:Int)(aS:io)(aI:bi)(aN aP bf:io)(aJ:bi)(b1:bv)(bT:Int):am BH BD:=
 br (iL t42 t41)
 (
  aq (ar t42 b1.length)<|
  aL (F4 ((gt aj b1 t42).2.2.2.1,())) fun x0=>
  aq (nQ (Int.toNat t42) (Int.toNat t42))<|
  aq (nQ (Int.toNat t42) (Int.toNat t42))<|
  aq (nQ (Int.toNat t42) (Int.toNat t42))<|
  aq (nQ (Int.toNat t42) (Int.toNat t42))<|
  aq (nQ (Int.toNat t42) (Int.toNat t42))<|
  aq (oG (Sh.beq bA) (gt aj b1 t42).2.2.2.2.1 (gt aj b1 t42).2.2.2.2.1)<|
  aL (F3 ((gt aj b1 t42).2.2.2.2.1,())) fun x1=>
  aq (nQ (Int.toNat t42) (Int.toNat t42))<|
  aq (nQ (Int.toNat t42) (Int.toNat t42))<|
  aq (nQ (Int.toNat t42) (Int.toNat t42))<|
  aq (Nat.beq (Int.toNat t42) (Int.toNat t42))<|
  aq (Nat.beq (Int.toNat t42) (Int.toNat t42))<|
  aL (L13 ((Int.ofNat (Int.toNat t42)),t41,t42,(Int.ofNat (List.length x0.1)),(0:Int),aM,aS,aI,aN,aP,bf,aJ,(Int.ofNat (Int.toNat t42)),b1,(gt aj b1 t42).1,(gt aj b1 t42).2.1,(gt aj b1 t42).2.2.1,x0.1,x1.1,bT,())) fun x2=>
  aq (Nat.beq (Int.toNat x2.1) (Int.toNat (gi x2)))<|
  aL (L18 ((Int.ofNat (Int.toNat x2.1)),x2.2.1,x2.2.2.1,(Int.ofNat (List.length (gp (ot x2)))),(0:Int),fW x2,gp x2,iA x2,jE x2,jF x2,kz x2,nM x2,(Int.ofNat (Int.toNat (gi x2))),Zw x2,pA x2,(ot x2).2.1,(ot x2).2.2.1,fW (ot x2),gp (ot x2),iA (ot x2),())) fun x3=>
  aGt (x3.1,(ol (md x3.2.1 (1:Int))),x3.2.2.1,fW x3,gp x3,iA x3,jE x3,jF x3,kz x3,(List.set (gi x3) (Int.toNat (nM x3)) (Zw x3,pA x3,(ot x3).2.1,(ot x3).2.2.1,fW (ot x3),())),gp (ot x3),()))
 (
  aGu (aM,aS,aI,aN,aP,bf,aJ,b1,bT,()))
def avf(c3:IW)(c4:Jh)(M13:BJ)(M18:BI):Kc:=cH (nN (BN c3.F c4.F M13.L M18.L)) (pL (kB c3 (kB c4 k0)) e0 1 (sC M13 (sC M18 l0)) fun d=>aGm)
def ave:Kc:=avf IV Jg YM YL
def YT:YS:=bu (nN (BN IK Je J7 J6)) NN
abbrev YR:List Sh:=[bD]
abbrev Ka:List Sh:=[bD]
abbrev auY:=TL YR->Option (TL Ka)
abbrev YG:=Kd 29 YR Ka
def avo(F0:XV)(F1:XA)(F2:Bo)(F3:IU)(F4:Jf)(F5:Xf)(L8:YS)(L13:J5)(L18:J4)(a0:Sh.T bD):Option (TL Ka):=
 aL (F2 (a0.2.1,())) fun x0=>
 aL (F2 (fW a0,())) fun x1=>
 aL (F2 (gp a0,())) fun x2=>
 aL (F2 (iA a0,())) fun x3=>
 aL (F1 (a0.2.2.1,())) fun x4=>
 aL (F0 (jF a0,())) fun x5=>
 aL (F5 (jE a0,())) fun x6=>
 aL (L8 ((Int.ofNat (List.length x6.1)),(0:Int),a0.1,x0.1,x4.1,x1.1,x2.1,x3.1,x5.1,x6.1,(0:Int),())) fun x7=>
 some ((x7.1,x7.2.1,x7.2.2.1,fW x7,gp x7,iA x7,jF x7,jE x7,()),())
def avn(c0:XX)(c1:XC)(c2:Bq)(c3:IW)(c4:Jh)(c5:Xh)(M8:Kc)(M13:BJ)(M18:BI):YG:=⟨u1 (avo c0.F c1.F c2.F c3.F c4.F c5.F M8.L M13.L M18.L),pD Tryz.func29 123 (kD c0 (kD c1 (kD c2 (kB c3 (kB c4 (kB c5 k0)))))) e0 1 (lS (lU (cw [0] (bL Tryz.f29)) 5 (kD c0 (kD c1 (kD c2 (kB c3 (kB c4 (kB c5 k0)))))) e0 1 l0 aGm (sC M8 l0) aGm) aGm) fun d=>aGm⟩
def Y1:YG:=avn XW XB Bp IV Jg Xg ave YM YL
def avg:auY:=Y1.F
theorem avv(a:Int):FY a a=true:=iU rfl
theorem avp(a:Bool):Kw a a=true:=iU rfl
theorem YU:∀l:List UInt8,Ev.qV l l=true
 |[]=>rfl|x::l=>by simp[Ev.qV,YU l]
theorem avs(a:ByteArray):Ev.vO a a=true:=YU _
mutual
theorem Sh.Km:∀{σ:Sh}(a:σ.T),σ.beq a a=true
 |.int _,a=>avv a|.bool,a=>avp a|.str,a=>avs a|.agg l,a=>Y8 (l:=l) a|.sl s,a=>GX (fun x=>Sh.Km x) a
theorem Y8:∀{l:List Sh}(a:TL l),ui l a a=true
 |[],a=>rfl|s::l,a=>by have h1:=Sh.Km (σ:=s) a.1;have h2:=Y8 (l:=l) a.2;show(match s.beq a.1 a.1 with|true=>ui l a.2 a.2|false=>false)=true;rw[h1];exact h2
end
theorem tU{a L:Nat}(ha:a<=100)(h:L<=10000000):room a L=true:=tW (by have:(2*L+192)*a<=(2*10000000+192)*100:=Nat.mul_le_mul aGl ha;omega) aGl
theorem Ku{σ:Sh}{L:List σ.T}{k:Nat}(h:k<L.length){x:σ.T}(hx:x=gt σ L (k:Int)){z:Int}(hz:z=(k:Int)):List.set L (Int.toNat z) x=L:=by subst hx;subst hz;have:=bP (σ:=σ) (bF h);rw[this,Id];exact List.set_getElem_self h
open Go.Proofs.YtjflbmpepamfjaaGreat.Pl
theorem tz{L:io}(h:L.length<=1000000):ua (L,())=some (L,()):=au (tU aGo (by show L.length<=_;omega)) rfl
theorem clL{L:List ag.T}(h:L.length<=1000000):atQ (L,())=some (L,()):=au (tU aGo (by show L.length<=_;omega)) rfl
theorem clA{L:List ag.T}(h:L.length<=1000000):auj (L,())=some (L,()):=au (tU aGo (by show L.length<=_;omega)) rfl
theorem clM{L:List aj.T}(h:L.length<=1000000):atK (L,())=some (L,()):=au (tU aGo (by show([]++L).length<=_;rw[Nm];omega)) rfl
theorem clR{L:List bW.T}(h:L.length<=1000000):Je (L,())=some (L,()):=au (tU aGo (by show([]++L).length<=_;rw[Nm];omega)) rfl
theorem clW{L:List bA.T}(h:L.length<=1000000):IK (L,())=some (L,()):=au (tU aGo (by show([]++L).length<=_;rw[Nm];omega)) rfl
section
variable(i:Nat)(t41 t42 b00:Int)(b01:io)(b02:List ag.T)(b03 b04 b05:io)(b07:List ag.T)(b1:List aj.T)(m0 m1:Int)(m2:Bool)(rs:List bW.T)(ws:List bA.T)(z:Int)
theorem awY(hr:rs.length<=1000)(hrr:∀r∈rs,r.2.1.length<=100000) :
  J7 ((i:Int),t41,t42,(rs.length:Int),(0:Int),b00,b01,b02,b03,b04,b05,b07,(i:Int),b1,m0,m1,m2,rs,ws,z,())=some ((i:Int),t41,t42,b00,b01,b02,b03,b04,b05,b07,(i:Int),b1,m0,m1,m2,rs,ws,z,()):=by
 unfold J7;delta tA u8 eJ fe;refine fE (fun k:Nat=>((i:Int),t41,t42,(rs.length:Int),(k:Int),b00,b01,b02,b03,b04,b05,b07,(i:Int),b1,m0,m1,m2,rs,ws,z,())) rs.length rfl ?_ ?_ aGp
 .intro k hk;have hx:=bF hk;have hg:gt bW rs (k:Int)=rs[k]:=bP (σ:=bW) hx;have e1:ua ((gt bW rs (k:Int)).2.1,())=some ((gt bW rs (k:Int)).2.1,()):=tz (by rw[hg];exact rt (hrr _ (EQ hk)) aGo);have e:∀(p q:Int) (A:List bW.T),p=q->A=rs->(aGt ((i:Int),t41,t42,(rs.length:Int),p,b00,b01,b02,b03,b04,b05,b07,(i:Int),b1,m0,m1,m2,A,ws,z,()):am BF BC)=aGt ((i:Int),t41,t42,(rs.length:Int),q,b00,b01,b02,b03,b04,b05,b07,(i:Int),b1,m0,m1,m2,rs,ws,z,()):=by rintro _ _ _ rfl rfl;rfl
  have hi:ar (k:Int) rs.length=true:=aGq
  try dsimp only
  unfold BL;exact aD (aA (show(k:Int)<(rs.length:Int) by omega)) (au (by show Nat.beq i i=true;simp) (au (by show Nat.beq i i=true;simp) (au hi (aT e1 (au hi (e _ _ _ (dk aGl aGl) (Ku (σ:=bW) hk rfl rfl)))))))
 .try dsimp only
  unfold BL;exact aw (ax (show ¬(rs.length:Int)<(rs.length:Int) by omega)) rfl
theorem awZ(hr:ws.length<=1000)(hrr:∀r∈ws,r.2.1.length<=100000/\r.2.2.1.length<=100000) :
  J6 ((i:Int),t41,t42,(ws.length:Int),(0:Int),b00,b01,b02,b03,b04,b05,b07,(i:Int),b1,m0,m1,m2,rs,ws,z,())=some (t41,(t42,b00,b01,b02,b03,b04,b05,b07,(i:Int),b1,m0,m1,m2,rs,ws,z,()) ):=by
 unfold J6;delta tA u8 eJ fe;refine fE (fun k:Nat=>((i:Int),t41,t42,(ws.length:Int),(k:Int),b00,b01,b02,b03,b04,b05,b07,(i:Int),b1,m0,m1,m2,rs,ws,z,())) ws.length rfl ?_ ?_ aGp
 .intro k hk;have hx:=bF hk;have hg:gt bA ws (k:Int)=ws[k]:=bP (σ:=bA) hx;have hb:=hrr _ (EQ hk);have e1:ua ((gt bA ws (k:Int)).2.1,())=some ((gt bA ws (k:Int)).2.1,()):=tz (by rw[hg];exact rt hb.1 aGo);have e2:ua ((gt bA ws (k:Int)).2.2.1,())=some ((gt bA ws (k:Int)).2.2.1,()):=tz (by rw[hg];exact rt hb.2 aGo);have e:∀(p q:Int) (A:List bA.T),p=q->A=ws->(aGt ((i:Int),t41,t42,(ws.length:Int),p,b00,b01,b02,b03,b04,b05,b07,(i:Int),b1,m0,m1,m2,rs,A,z,()):am BE BB)=aGt ((i:Int),t41,t42,(ws.length:Int),q,b00,b01,b02,b03,b04,b05,b07,(i:Int),b1,m0,m1,m2,rs,ws,z,()):=by rintro _ _ _ rfl rfl;rfl
  have hi:ar (k:Int) ws.length=true:=aGq;have hs1:List.set ws (Int.toNat (k:Int)) (gt bA ws (k:Int))=ws:=Ku (σ:=bA) hk rfl rfl;have hs2:∀A:List bA.T,A=ws->List.set A (Int.toNat (k:Int)) ((gt bA A (k:Int)).1,(gt bA A (k:Int)).2.1,(gt bA ws (k:Int)).2.2.1,())=ws:=by rintro _ rfl;exact hs1
  try dsimp only
  unfold BK;exact aD (aA (show(k:Int)<(ws.length:Int) by omega)) (au (by show Nat.beq i i=true;simp) (au hi (aT e1 (aT e2 (au (aA rfl) (e _ _ _ (dk aGl aGl) (hs2 _ hs1)))))))
 .try dsimp only
  unfold BK;exact aw (ax (show ¬(ws.length:Int)<(ws.length:Int) by omega)) rfl
end
theorem cl8{n:aZ}(ft:Fit n)(b00:Int)(b01:io)(b02:List ag.T)(b03 b04 b05:io)(b07:List ag.T)(z:Int) :
  YT (((n.aa.map aF).length:Int),(0:Int),b00,b01,b02,b03,b04,b05,b07,n.aa.map aF,z,())=some (b00,b01,b02,b03,b04,b05,b07,n.aa.map aF,z,()):=by
 have hL:(n.aa.map aF).length=n.aa.length:=aR ..;have hM:=ft.aa.1;unfold YT;delta nN;refine fE (fun k:Nat=>(((n.aa.map aF).length:Int),(k:Int),b00,b01,b02,b03,b04,b05,b07,n.aa.map aF,z,()) ) n.aa.length rfl ?_ ?_ aGp
 .intro k hk;have hx:=bF hk;have hx':(n.aa.map aF)[k]?=some (aF n.aa[k]):=by rw[dO,hx];rfl
  have hf:=ft.aa.2 _ (EQ hk);generalize n.aa[k]=m at hx' hf;have hg:gt aj (n.aa.map aF) (k:Int)=aF m:=bP (σ:=aj) hx';have e1:Je ((gt aj (n.aa.map aF) (k:Int)).2.2.2.1,())=some (m.reads.map cI,()):=by rw[hg];exact clR (by show(m.reads.map cI).length<=_;rw[aR];have:=hf.mJ;omega)
  have e2:IK ((gt aj (n.aa.map aF) (k:Int)).2.2.2.2.1,())=some (m.writes.map dy,()):=by rw[hg];exact clW (by show(m.writes.map dy).length<=_;rw[aR];have:=hf.qg;omega)
  have e13:=awY k ((n.aa.map aF).length:Int) (k:Int) b00 b01 b02 b03 b04 b05 b07 (n.aa.map aF) (gt aj (n.aa.map aF) (k:Int)).1 (gt aj (n.aa.map aF) (k:Int)).2.1 (gt aj (n.aa.map aF) (k:Int)).2.2.1 (m.reads.map cI) (m.writes.map dy) z (by rw[aR];have:=hf.mJ;omega) (fun r hr=>by obtain⟨r2,hr2,rfl⟩:=IN.1 hr;have:=(hf.gC r2 hr2).1;show r2.addr.length<=_;omega);have e18:=awZ k ((n.aa.map aF).length:Int) (k:Int) b00 b01 b02 b03 b04 b05 b07 (n.aa.map aF) (gt aj (n.aa.map aF) (k:Int)).1 (gt aj (n.aa.map aF) (k:Int)).2.1 (gt aj (n.aa.map aF) (k:Int)).2.2.1 (m.reads.map cI) (m.writes.map dy) z (by rw[aR];have:=hf.qg;omega) (fun r hr=>by obtain⟨r2,hr2,rfl⟩:=IN.1 hr;have:=hf.nO r2 hr2;exact⟨by show r2.addr.length<=_;omega,by show r2.data.length<=_;omega⟩);have e:∀(p q:Int) (A:List aj.T),p=q->A=n.aa.map aF->(aGt (((n.aa.map aF).length:Int),p,b00,b01,b02,b03,b04,b05,b07,A,z,()) :am BH BD)=aGt (((n.aa.map aF).length:Int),q,b00,b01,b02,b03,b04,b05,b07,n.aa.map aF,z,()) :=by rintro _ _ _ rfl rfl;rfl
  have hst:List.set (n.aa.map aF) (Int.toNat (k:Int)) ((gt aj (n.aa.map aF) (k:Int)).1,(gt aj (n.aa.map aF) (k:Int)).2.1,(gt aj (n.aa.map aF) (k:Int)).2.2.1,m.reads.map cI,m.writes.map dy,())=n.aa.map aF:=Ku (σ:=aj) aGl (by rw[hg];rfl) rfl;have hi:ar (k:Int) (List.length (n.aa.map aF))=true:=aGq;have nn:nQ (Int.toNat (k:Int)) (Int.toNat (k:Int))=true:=aA rfl;have nb:Nat.beq (Int.toNat (k:Int)) (Int.toNat (k:Int))=true:=aGn
  try dsimp only
  unfold BN;refine aD (aA (show(k:Int)<((n.aa.map aF).length:Int) by omega)) (au hi (aT e1 (au nn (au nn (au nn (au nn (au nn (au (GX (fun x=>Sh.Km x) _) (aT e2 (au nn (au nn (au nn (au nb (au nb (aT e13 (au nb (aT e18 (e _ _ _ (dk (show(k:Int)+1=((k+1:Nat):Int) by omega) aGl) hst))))))))))))))))))
 .try dsimp only
  unfold BN;exact aw (ax (show ¬(n.aa.length:Int)<((n.aa.map aF).length:Int) by omega)) rfl
theorem aeO{n:aZ}(ft:Fit n):avg (bX n,())=some (bX n,()):=by have e1:=tz (L:=n.bz) (by have:=ft.ins.1;omega);have e2:=tz (L:=n.bN) (by have:=ft.out.1;omega);have e3:=tz (L:=n.bO) (by have:=ft.bad.1;omega);have e4:=tz (L:=n.constraints) (by have:=ft.nH.1;omega);have e5:=clL (L:=n.aB.map cY) (by rw[aR];have:=ft.aC.1;omega);have e6:=clA (L:=n.al.map cW) (by rw[aR];have:=ft.al.1;omega);have e7:=clM (L:=n.aa.map aF) (by rw[aR];have:=ft.aa.1;omega);have e8:=cl8 ft n.vars n.bz (n.aB.map cY) n.bN n.bO n.constraints (n.al.map cW) (0:Int);exact aT e1 (aT e2 (aT e3 (aT e4 (aT e5 (aT e6 (aT e7 (aT e8 rfl)))))))
