import Derived.Test.YtbbhihkocghhaaaKTa
set_option linter.all false
section
namespace Go.Proofs.Ytbbhihkocghhaaa.V
open Go Go.RowKit
set_option maxRecDepth 1000000
abbrev YJ:ae:=⟨[(0,.dt .I)],[],0⟩
abbrev Nj:List (Ev.Ex×ae):=[(.ret,⟨[(0,.hd 0 .I)],[(0,.arr .I 3)],1⟩)]
abbrev N1:=Kb 48 1 YJ 1 Nj
def Zs(t0z:Bool)(t0:io):Option (Out Nj):=
 br t0z
 (
  some ([],()))
 (
  ak (room 8 (List.length (ap [] t0)))<|
  some ((ap [] t0),()))
def Zr  :N1:=⟨u2 Zs,pB Try.func48 8 k0 e0 1 (sS l0) fun d=>acu⟩
def YV:N1:=Zr
abbrev N3:List Sh:=[.sl .I]
abbrev N2:List Sh:=[.sl .I]
abbrev wT:=TL N3->Option (TL N2)
abbrev wV:=Kd 48 N3 N2
def wU:wV:=⟨_,Er YV.ok rfl (fun L=>rfl) (fun L=>⟨_,_,rfl,rfl,rfl⟩)⟩
def pQ:wT:=wU.F
abbrev Ys:ae:=⟨[(0,.dt ag)],[],0⟩
abbrev MC:List (Ev.Ex×ae):=[(.ret,⟨[(0,.hd 0 ag)],[(0,.arr ag 45)],1⟩)]
abbrev Ng:=Kb 49 1 Ys 1 MC
def YT(t0z:Bool)(t0:bi):Option (Out MC):=
 br t0z
 (
  some ([],()))
 (
  ak (room 24 (List.length (ap [] t0)))<|
  some ((ap [] t0),()))
def YS  :Ng:=⟨u2 YT,pB Try.func49 8 k0 e0 1 (sS l0) fun d=>acu⟩
def Yv:Ng:=YS
abbrev Ni:List Sh:=[.sl ag]
abbrev Nh:List Sh:=[.sl ag]
abbrev Nv:=TL Ni->Option (TL Nh)
abbrev Nx:=Kd 49 Ni Nh
def Nw:Nx:=⟨_,Er Yv.ok rfl (fun L=>rfl) (fun L=>⟨_,_,rfl,rfl,rfl⟩)⟩
def YU:Nv:=Nw.F
abbrev Yx:ae:=⟨[(0,.dt ag)],[],0⟩
abbrev MF:List (Ev.Ex×ae):=[(.ret,⟨[(0,.hd 0 ag)],[(0,.arr ag 75)],1⟩)]
abbrev NL:=Kb 50 1 Yx 1 MF
def Zl(t0z:Bool)(t0:bi):Option (Out MF):=
 br t0z
 (
  some ([],()))
 (
  ak (room 24 (List.length (ap [] t0)))<|
  some ((ap [] t0),()))
def Zk  :NL:=⟨u2 Zl,pB Try.func50 8 k0 e0 1 (sS l0) fun d=>acu⟩
def Yy:NL:=Zk
abbrev NO:List Sh:=[.sl ag]
abbrev NM:List Sh:=[.sl ag]
abbrev NS:=TL NO->Option (TL NM)
abbrev NU:=Kd 50 NO NM
def NT:NU:=⟨_,Er Yy.ok rfl (fun L=>rfl) (fun L=>⟨_,_,rfl,rfl,rfl⟩)⟩
def Zm:NS:=NT.F
abbrev Yo:ae:=⟨[(0,.dt aj)],[],0⟩
abbrev CE:List (Ev.Ex×ae):=[(.ret,⟨[(0,.hd 0 aj)],[(0,.arr aj 73)],1⟩)]
abbrev MX:=Kb 51 1 Yo 1 CE
def YN(t0z:Bool)(t0:bv):Option (Out CE):=
 br t0z
 (
  some ([],()))
 (
  ak (room 72 (List.length (ap [] t0)))<|
  some ((ap [] t0),()))
def YM  :MX:=⟨u2 YN,pB Try.func51 8 k0 e0 1 (sS l0) fun d=>acu⟩
def Yr:MX:=YM
abbrev MS:ae:=⟨[(0,.fz aj)],[],0⟩
abbrev MO:List (Ev.Ex×ae):=CE
abbrev MZ:=be MS MO
abbrev Na:=Kb 51 1 MS 1 MO
def M0:Na:=H8 Yr rfl
def YO:MZ:=M0.F
abbrev Yu:ae:=⟨[(0,.dt bK)],[],0⟩
abbrev CH:List (Ev.Ex×ae):=[(.ret,⟨[(0,.hd 0 bK)],[(0,.arr bK 77)],1⟩)]
abbrev NB:=Kb 52 1 Yu 1 CH
def Za(t0z:Bool)(t0:eq):Option (Out CH):=
 br t0z
 (
  some ([],()))
 (
  ak (room 32 (List.length (ap [] t0)))<|
  some ((ap [] t0),()))
def Y9  :NB:=⟨u2 Za,pB Try.func52 8 k0 e0 1 (sS l0) fun d=>acu⟩
def Yw:NB:=Y9
abbrev Nu:ae:=⟨[(0,.fz bK)],[],0⟩
abbrev Nf:List (Ev.Ex×ae):=CH
abbrev Dk:=be Nu Nf
abbrev Dm:=Kb 52 1 Nu 1 Nf
def Dl:Dm:=H8 Yw rfl
def Dj:Dk:=Dl.F
abbrev Yq:ae:=⟨[(0,.dt bj)],[],0⟩
abbrev CF:List (Ev.Ex×ae):=[(.ret,⟨[(0,.hd 0 bj)],[(0,.arr bj 79)],1⟩)]
abbrev Nc:=Kb 53 1 Yq 1 CF
def YR(t0z:Bool)(t0:ge):Option (Out CF):=
 br t0z
 (
  some ([],()))
 (
  ak (room 56 (List.length (ap [] t0)))<|
  some ((ap [] t0),()))
def YQ  :Nc:=⟨u2 YR,pB Try.func53 8 k0 e0 1 (sS l0) fun d=>acu⟩
def Yt:Nc:=YQ
abbrev MY:ae:=⟨[(0,.fz bj)],[],0⟩
abbrev MW:List (Ev.Ex×ae):=CF
abbrev C7:=be MY MW
abbrev C9:=Kb 53 1 MY 1 MW
def C8:C9:=H8 Yt rfl
def CX:C7:=C8.F
abbrev xT:List (Nat×LO):=[(0,.cells [.I,.fz .I,.fz ag,.fz .I,.fz .I,.fz .I,.hd 1 aj,.fz ag] 27),(1,.cT aj [.I,.I,.bool,.hd 2 bK,.hd 3 bj] 73),(2,.arr bK 77),(3,.arr bj 79),(4,.cells [.I,.bu,.bu,.bu,.bu,.bu,.bu,.bu] 27)]
abbrev PR:List (Nat×LO):=[(0,.cells [.I,.fz .I,.fz ag,.fz .I,.fz .I,.fz .I,.hd 1 aj,.fz ag] 27),(1,.arr aj 73),(2,.cells [.I,.bu,.bu,.bu,.bu,.bu,.bu,.bu] 27)]
abbrev xm:ae:=⟨[(1,.ptr 0 0),(2,.ptr 2 0),(41,.I),(42,.I)],PR,3⟩
abbrev xh:List (Ev.Ex×ae):=[((.exit 2),⟨[(1,.ptr 0 0),(2,.ptr 2 0)],PR,3⟩)]
abbrev OT:=be xm xh
abbrev Eu:=Ld 0 123 (bZ [1] (bC Try.f22)) xm xh
abbrev xj:ae:=⟨[(1,.ptr 0 0),(2,.ptr 4 0),(6,.cY 1 5 0),(41,.I),(42,.I),(94,.I),(95,.I)],xT,5⟩
abbrev xf:List (Ev.Ex×ae):=[((.exit 6),⟨[(1,.ptr 0 0),(2,.ptr 4 0),(41,.I),(42,.I)],xT,5⟩)]
abbrev El:=be xj xf
abbrev xn:=Ld 0 123 (bZ [1,1] (bC Try.f22)) xj xf
abbrev xk:ae:=⟨[(1,.ptr 0 0),(2,.ptr 4 0),(6,.cY 1 5 0),(41,.I),(42,.I),(69,.I),(70,.I)],xT,5⟩
abbrev xg:List (Ev.Ex×ae):=[((.exit 4),⟨[(1,.ptr 0 0),(2,.ptr 4 0),(6,.cY 1 5 0),(41,.I),(42,.I)],xT,5⟩)]
abbrev Em:=be xk xg
abbrev xo:=Ld 0 123 (bZ [1,0] (bC Try.f22)) xk xg
def xq(F2:wT)(t6 t41 t42 t69 t70 aF:Int)(aN:io)(aC:bi)(aG aJ aY:io)(aD:bi)(b1i:Int)(b1:bv)(fU fV:Int)(fW:Bool)(b2:eq)(b3:ge)(sk:Int):am xk xg:=
 br (iL t70 t69)
 (
  ak (Nat.beq (Int.toNat t6) (Int.toNat b1i))<|
  ak (Nat.beq (Int.toNat t6) (Int.toNat b1i))<|
  ak (al t70 b2.length)<|
  aE (F2 ((gt bK b2 t70).2.1,())) fun x0=>
  ak (al t70 b2.length)<|
  acB ((Int.ofNat (Int.toNat t6)),t41,t42,t69,(mt (t70+(1:Int))),aF,aN,aC,aG,aJ,aY,aD,(Int.ofNat (Int.toNat b1i)),b1,fU,fV,fW,(List.set b2 (Int.toNat t70) ((gt bK b2 t70).1,x0.1,())),b3,sk,()))
 (
  acC ((Int.ofNat (Int.toNat t6)),t41,t42,aF,aN,aC,aG,aJ,aY,aD,(Int.ofNat (Int.toNat b1i)),b1,fU,fV,fW,b2,b3,sk,()))
def Z9(c2:wV) :xo:=cj (po (xq c2.F)) (pL (kD c2 k0) e0 1 l0 fun d=>acu)
def ON:xo:=Z9 wU
def Ep:Em:=bh (po (xq pQ)) NN
def xp(F2:wT)(t6 t41 t42 t94 t95 aF:Int)(aN:io)(aC:bi)(aG aJ aY:io)(aD:bi)(b1i:Int)(b1:bv)(fU fV:Int)(fW:Bool)(b2:eq)(b3:ge)(sk:Int):am xj xf:=
 br (iL t95 t94)
 (
  ak (Nat.beq (Int.toNat t6) (Int.toNat b1i))<|
  ak (al t95 b3.length)<|
  aE (F2 ((gt bj b3 t95).2.1,())) fun x0=>
  aE (F2 ((gt bj b3 t95).2.2.1,())) fun x1=>
  ak (nQ (Int.toNat t95) (Int.toNat t95))<|
  acB ((Int.ofNat (Int.toNat t6)),t41,t42,t94,(mt (t95+(1:Int))),aF,aN,aC,aG,aJ,aY,aD,(Int.ofNat (Int.toNat b1i)),b1,fU,fV,fW,b2,(List.set (List.set b3 (Int.toNat t95) ((gt bj b3 t95).1,x0.1,(gt bj b3 t95).2.2.1,())) (Int.toNat t95) ((gt bj (List.set b3 (Int.toNat t95) ((gt bj b3 t95).1,x0.1,(gt bj b3 t95).2.2.1,())) t95).1,(gt bj (List.set b3 (Int.toNat t95) ((gt bj b3 t95).1,x0.1,(gt bj b3 t95).2.2.1,())) t95).2.1,x1.1,())),sk,()))
 (
  acC (t41,t42,aF,aN,aC,aG,aJ,aY,aD,(Int.ofNat (Int.toNat b1i)),b1,fU,fV,fW,b2,b3,sk,()))
def Z8(c2:wV) :xn:=cj (po (xp c2.F)) (pL (kD c2 k0) e0 1 l0 fun d=>acu)
def OM:xn:=Z8 wU
def Eo:El:=bh (po (xp pQ)) NN
def xt(F3:C7)(F4:Dk)(L13:Em)(L18:El)(t41 t42 aF:Int)(aN:io)(aC:bi)(aG aJ aY:io)(aD:bi)(b1:bv)(bI:Int):am xm xh:=
 br (iL t42 t41)
 (
  ak (al t42 b1.length)<|
  aE (F4 ((gt aj b1 t42).2.2.2.1,())) fun x0=>
  ak (nQ (Int.toNat t42) (Int.toNat t42))<|
  ak (nQ (Int.toNat t42) (Int.toNat t42))<|
  ak (nQ (Int.toNat t42) (Int.toNat t42))<|
  ak (nQ (Int.toNat t42) (Int.toNat t42))<|
  ak (nQ (Int.toNat t42) (Int.toNat t42))<|
  ak (lO (Sh.beq bj) (gt aj b1 t42).2.2.2.2.1 (gt aj b1 t42).2.2.2.2.1)<|
  aE (F3 ((gt aj b1 t42).2.2.2.2.1,())) fun x1=>
  ak (nQ (Int.toNat t42) (Int.toNat t42))<|
  ak (nQ (Int.toNat t42) (Int.toNat t42))<|
  ak (nQ (Int.toNat t42) (Int.toNat t42))<|
  ak (Nat.beq (Int.toNat t42) (Int.toNat t42))<|
  ak (Nat.beq (Int.toNat t42) (Int.toNat t42))<|
  aE (L13 ((Int.ofNat (Int.toNat t42)),t41,t42,(Int.ofNat (List.length x0.1)),(0:Int),aF,aN,aC,aG,aJ,aY,aD,(Int.ofNat (Int.toNat t42)),b1,(gt aj b1 t42).1,(gt aj b1 t42).2.1,(gt aj b1 t42).2.2.1,x0.1,x1.1,bI,())) fun x2=>
  ak (Nat.beq (Int.toNat x2.1) (Int.toNat (ff x2)))<|
  aE (L18 ((Int.ofNat (Int.toNat x2.1)),x2.2.1,x2.2.2.1,(Int.ofNat (List.length (fj (lE x2)))),(0:Int),eZ x2,fj x2,gi x2,iH x2,iI x2,jo x2,kS x2,(Int.ofNat (Int.toNat (ff x2))),Py x2,mA x2,(lE x2).2.1,(lE x2).2.2.1,eZ (lE x2),fj (lE x2),gi (lE x2),())) fun x3=>
  acB (x3.1,(mt (lw x3.2.1 (1:Int))),x3.2.2.1,eZ x3,fj x3,gi x3,iH x3,iI x3,jo x3,(List.set (ff x3) (Int.toNat (kS x3)) (Py x3,mA x3,(lE x3).2.1,(lE x3).2.2.1,eZ (lE x3),())),fj (lE x3),()))
 (
  acC (aF,aN,aC,aG,aJ,aY,aD,b1,bI,()))
def aah(c3:C9)(c4:Dm)(M13:xo)(M18:xn):Eu:=cj (kT (xt c3.F c4.F M13.L M18.L)) (pL (kB c3 (kB c4 k0)) e0 1 (sC M13 (sC M18 l0)) fun d=>acu)
def aag:Eu:=aah C8 Dl ON OM
def OU:OT:=bh (kT (xt CX Dj Ep Eo)) NN
abbrev OS:List Sh:=[bB]
abbrev Et:List Sh:=[bB]
abbrev Z0:=TL OS->Option (TL Et)
abbrev OE:=Kd 22 OS Et
def aaq(F0:NS)(F1:Nv)(F2:wT)(F3:C7)(F4:Dk)(F5:MZ)(L8:OT)(L13:Em)(L18:El)(a0:Sh.T bB):Option (TL Et):=
 aE (F2 (a0.2.1,())) fun x0=>
 aE (F2 (eZ a0,())) fun x1=>
 aE (F2 (fj a0,())) fun x2=>
 aE (F2 (gi a0,())) fun x3=>
 aE (F1 (a0.2.2.1,())) fun x4=>
 aE (F0 (iI a0,())) fun x5=>
 aE (F5 (iH a0,())) fun x6=>
 aE (L8 ((Int.ofNat (List.length x6.1)),(0:Int),a0.1,x0.1,x4.1,x1.1,x2.1,x3.1,x5.1,x6.1,(0:Int),())) fun x7=>
 some ((x7.1,x7.2.1,x7.2.2.1,eZ x7,fj x7,gi x7,iI x7,iH x7,()),())
def aap(c0:NU)(c1:Nx)(c2:wV)(c3:C9)(c4:Dm)(c5:Na)(M8:Eu)(M13:xo)(M18:xn):OE:=⟨u1 (aaq c0.F c1.F c2.F c3.F c4.F c5.F M8.L M13.L M18.L),pD Try.func22 123 (kD c0 (kD c1 (kD c2 (kB c3 (kB c4 (kB c5 k0)))))) e0 1 (lS (lU (bZ [0] (bC Try.f22)) 5 (kD c0 (kD c1 (kD c2 (kB c3 (kB c4 (kB c5 k0)))))) e0 1 l0 acu (sC M8 l0) acu) acu) fun d=>acu⟩
def O2:OE:=aap NT Nw wU C8 Dl M0 aag ON OM
def aai:Z0:=O2.F
theorem aax(a:Int):Bh a a=true:=gO rfl
theorem aar(a:Bool):EP a a=true:=gO rfl
theorem OV:∀l:List UInt8,Ev.nT l l=true
 |[]=>rfl|x::l=>by simp[Ev.nT,OV l]
theorem aau(a:ByteArray):Ev.rz a a=true:=OV _
mutual
theorem Sh.EF:∀{σ:Sh}(a:σ.T),σ.beq a a=true
 |.int _,a=>aax a|.bool,a=>aar a|.str,a=>aau a|.agg l,a=>O9 (l:=l) a|.sl s,a=>BG (fun x=>Sh.EF x) a
theorem O9:∀{l:List Sh}(a:TL l),pW l a a=true
 |[],a=>rfl|s::l,a=>by have h1:=Sh.EF (σ:=s) a.1;have h2:=O9 (l:=l) a.2;show(match s.beq a.1 a.1 with|true=>pW l a.2 a.2|false=>false)=true;rw[h1];exact h2
end
theorem pJ{a L:Nat}(ha:a<=100)(h:L<=10000000):room a L=true:=pM (by have:(2*L+192)*a<=(2*10000000+192)*100:=abZ acs ha;omega) acs
theorem EM{σ:Sh}{L:List σ.T}{k:Nat}(h:k<L.length){x:σ.T}(hx:x=gt σ L (k:Int)){z:Int}(hz:z=(k:Int)):List.set L (Int.toNat z) x=L:=by subst hx;subst hz;have:=bG (σ:=σ) (bF h);rw[this,Fr];exact List.set_getElem_self h
open Go.Proofs.Ytbbhihkocghhaaa.Pl
theorem pk{L:io}(h:L.length<=1000000):pQ (L,())=some (L,()):=an (pJ acw (by show L.length<=_;omega)) rfl
theorem clL{L:List ag.T}(h:L.length<=1000000):YU (L,())=some (L,()):=an (pJ acw (by show L.length<=_;omega)) rfl
theorem clA{L:List ag.T}(h:L.length<=1000000):Zm (L,())=some (L,()):=an (pJ acw (by show L.length<=_;omega)) rfl
theorem clM{L:List aj.T}(h:L.length<=1000000):YO (L,())=some (L,()):=an (pJ acw (by show([]++L).length<=_;rw[LT];omega)) rfl
theorem clR{L:List bK.T}(h:L.length<=1000000):Dj (L,())=some (L,()):=an (pJ acw (by show([]++L).length<=_;rw[LT];omega)) rfl
theorem clW{L:List bj.T}(h:L.length<=1000000):CX (L,())=some (L,()):=an (pJ acw (by show([]++L).length<=_;rw[LT];omega)) rfl
section
variable(i:Nat)(t41 t42 b00:Int)(b01:io)(b02:List ag.T)(b03 b04 b05:io)(b07:List ag.T)(b1:List aj.T)(m0 m1:Int)(m2:Bool)(rs:List bK.T)(ws:List bj.T)(z:Int)
theorem aaH(hr:rs.length<=1000)(hrr:∀r∈rs,r.2.1.length<=100000) :
  Ep ((i:Int),t41,t42,(rs.length:Int),(0:Int),b00,b01,b02,b03,b04,b05,b07,(i:Int),b1,m0,m1,m2,rs,ws,z,())=some ((i:Int),t41,t42,b00,b01,b02,b03,b04,b05,b07,(i:Int),b1,m0,m1,m2,rs,ws,z,()):=by
 unfold Ep;delta po u8 dI dU;refine ez (fun k:Nat=>((i:Int),t41,t42,(rs.length:Int),(k:Int),b00,b01,b02,b03,b04,b05,b07,(i:Int),b1,m0,m1,m2,rs,ws,z,())) rs.length rfl ?_ ?_ acx
 .intro k hk;have hx:=bF hk;have hg:gt bK rs (k:Int)=rs[k]:=bG (σ:=bK) hx;have e1:pQ ((gt bK rs (k:Int)).2.1,())=some ((gt bK rs (k:Int)).2.1,()):=pk (by rw[hg];exact pp (hrr _ (AT hk)) acw);have e:∀(p q:Int) (A:List bK.T),p=q->A=rs->(acB ((i:Int),t41,t42,(rs.length:Int),p,b00,b01,b02,b03,b04,b05,b07,(i:Int),b1,m0,m1,m2,A,ws,z,()):am xk xg)=acB ((i:Int),t41,t42,(rs.length:Int),q,b00,b01,b02,b03,b04,b05,b07,(i:Int),b1,m0,m1,m2,rs,ws,z,()):=by rintro _ _ _ rfl rfl;rfl
  have hi:al (k:Int) rs.length=true:=acy
  try dsimp only
  unfold xq;exact aA (au (show(k:Int)<(rs.length:Int) by omega)) (an (by show Nat.beq i i=true;simp) (an (by show Nat.beq i i=true;simp) (an hi (aO e1 (an hi (e _ _ _ (cN acs acs) (EM (σ:=bK) hk rfl rfl)))))))
 .try dsimp only
  unfold xq;exact ao (aq (show ¬(rs.length:Int)<(rs.length:Int) by omega)) rfl
theorem aaI(hr:ws.length<=1000)(hrr:∀r∈ws,r.2.1.length<=100000/\r.2.2.1.length<=100000) :
  Eo ((i:Int),t41,t42,(ws.length:Int),(0:Int),b00,b01,b02,b03,b04,b05,b07,(i:Int),b1,m0,m1,m2,rs,ws,z,())=some (t41,(t42,b00,b01,b02,b03,b04,b05,b07,(i:Int),b1,m0,m1,m2,rs,ws,z,()) ):=by
 unfold Eo;delta po u8 dI dU;refine ez (fun k:Nat=>((i:Int),t41,t42,(ws.length:Int),(k:Int),b00,b01,b02,b03,b04,b05,b07,(i:Int),b1,m0,m1,m2,rs,ws,z,())) ws.length rfl ?_ ?_ acx
 .intro k hk;have hx:=bF hk;have hg:gt bj ws (k:Int)=ws[k]:=bG (σ:=bj) hx;have hb:=hrr _ (AT hk);have e1:pQ ((gt bj ws (k:Int)).2.1,())=some ((gt bj ws (k:Int)).2.1,()):=pk (by rw[hg];exact pp hb.1 acw);have e2:pQ ((gt bj ws (k:Int)).2.2.1,())=some ((gt bj ws (k:Int)).2.2.1,()):=pk (by rw[hg];exact pp hb.2 acw);have e:∀(p q:Int) (A:List bj.T),p=q->A=ws->(acB ((i:Int),t41,t42,(ws.length:Int),p,b00,b01,b02,b03,b04,b05,b07,(i:Int),b1,m0,m1,m2,rs,A,z,()):am xj xf)=acB ((i:Int),t41,t42,(ws.length:Int),q,b00,b01,b02,b03,b04,b05,b07,(i:Int),b1,m0,m1,m2,rs,ws,z,()):=by rintro _ _ _ rfl rfl;rfl
  have hi:al (k:Int) ws.length=true:=acy;have hs1:List.set ws (Int.toNat (k:Int)) (gt bj ws (k:Int))=ws:=EM (σ:=bj) hk rfl rfl;have hs2:∀A:List bj.T,A=ws->List.set A (Int.toNat (k:Int)) ((gt bj A (k:Int)).1,(gt bj A (k:Int)).2.1,(gt bj ws (k:Int)).2.2.1,())=ws:=by rintro _ rfl;exact hs1
  try dsimp only
  unfold xp;exact aA (au (show(k:Int)<(ws.length:Int) by omega)) (an (by show Nat.beq i i=true;simp) (an hi (aO e1 (aO e2 (an (au rfl) (e _ _ _ (cN acs acs) (hs2 _ hs1)))))))
 .try dsimp only
  unfold xp;exact ao (aq (show ¬(ws.length:Int)<(ws.length:Int) by omega)) rfl
end
theorem cl8{n:ba}(ft:Fit n)(b00:Int)(b01:io)(b02:List ag.T)(b03 b04 b05:io)(b07:List ag.T)(z:Int) :
  OU (((n.aa.map aM).length:Int),(0:Int),b00,b01,b02,b03,b04,b05,b07,n.aa.map aM,z,())=some (b00,b01,b02,b03,b04,b05,b07,n.aa.map aM,z,()):=by
 have hL:(n.aa.map aM).length=n.aa.length:=aT ..;have hM:=ft.aa.1;unfold OU;delta kT;refine ez (fun k:Nat=>(((n.aa.map aM).length:Int),(k:Int),b00,b01,b02,b03,b04,b05,b07,n.aa.map aM,z,()) ) n.aa.length rfl ?_ ?_ acx
 .intro k hk;have hx:=bF hk;have hx':(n.aa.map aM)[k]?=some (aM n.aa[k]):=by rw[dx,hx];rfl
  have hf:=ft.aa.2 _ (AT hk);generalize n.aa[k]=m at hx' hf;have hg:gt aj (n.aa.map aM) (k:Int)=aM m:=bG (σ:=aj) hx';have e1:Dj ((gt aj (n.aa.map aM) (k:Int)).2.2.2.1,())=some (m.reads.map cp,()):=by rw[hg];exact clR (by show(m.reads.map cp).length<=_;rw[aT];have:=hf.kR;omega)
  have e2:CX ((gt aj (n.aa.map aM) (k:Int)).2.2.2.2.1,())=some (m.writes.map cS,()):=by rw[hg];exact clW (by show(m.writes.map cS).length<=_;rw[aT];have:=hf.n8;omega)
  have e13:=aaH k ((n.aa.map aM).length:Int) (k:Int) b00 b01 b02 b03 b04 b05 b07 (n.aa.map aM) (gt aj (n.aa.map aM) (k:Int)).1 (gt aj (n.aa.map aM) (k:Int)).2.1 (gt aj (n.aa.map aM) (k:Int)).2.2.1 (m.reads.map cp) (m.writes.map cS) z (by rw[aT];have:=hf.kR;omega) (fun r hr=>by obtain⟨r2,hr2,rfl⟩:=IN.1 hr;have:=(hf.gG r2 hr2).1;show r2.addr.length<=_;omega);have e18:=aaI k ((n.aa.map aM).length:Int) (k:Int) b00 b01 b02 b03 b04 b05 b07 (n.aa.map aM) (gt aj (n.aa.map aM) (k:Int)).1 (gt aj (n.aa.map aM) (k:Int)).2.1 (gt aj (n.aa.map aM) (k:Int)).2.2.1 (m.reads.map cp) (m.writes.map cS) z (by rw[aT];have:=hf.n8;omega) (fun r hr=>by obtain⟨r2,hr2,rfl⟩:=IN.1 hr;have:=hf.kU r2 hr2;exact⟨by show r2.addr.length<=_;omega,by show r2.data.length<=_;omega⟩);have e:∀(p q:Int) (A:List aj.T),p=q->A=n.aa.map aM->(acB (((n.aa.map aM).length:Int),p,b00,b01,b02,b03,b04,b05,b07,A,z,()) :am xm xh)=acB (((n.aa.map aM).length:Int),q,b00,b01,b02,b03,b04,b05,b07,n.aa.map aM,z,()) :=by rintro _ _ _ rfl rfl;rfl
  have hst:List.set (n.aa.map aM) (Int.toNat (k:Int)) ((gt aj (n.aa.map aM) (k:Int)).1,(gt aj (n.aa.map aM) (k:Int)).2.1,(gt aj (n.aa.map aM) (k:Int)).2.2.1,m.reads.map cp,m.writes.map cS,())=n.aa.map aM:=EM (σ:=aj) acs (by rw[hg];rfl) rfl;have hi:al (k:Int) (List.length (n.aa.map aM))=true:=acy;have nn:nQ (Int.toNat (k:Int)) (Int.toNat (k:Int))=true:=au rfl;have nb:Nat.beq (Int.toNat (k:Int)) (Int.toNat (k:Int))=true:=acv
  try dsimp only
  unfold xt;refine aA (au (show(k:Int)<((n.aa.map aM).length:Int) by omega)) (an hi (aO e1 (an nn (an nn (an nn (an nn (an nn (an (BG (fun x=>Sh.EF x) _) (aO e2 (an nn (an nn (an nn (an nb (an nb (aO e13 (an nb (aO e18 (e _ _ _ (cN (show(k:Int)+1=((k+1:Nat):Int) by omega) acs) hst))))))))))))))))))
 .try dsimp only
  unfold xt;exact ao (aq (show ¬(n.aa.length:Int)<((n.aa.map aM).length:Int) by omega)) rfl
theorem SJ{n:ba}(ft:Fit n):aai (cx n,())=some (cx n,()):=by have e1:=pk (L:=n.bk) (by have:=ft.ins.1;omega);have e2:=pk (L:=n.bL) (by have:=ft.out.1;omega);have e3:=pk (L:=n.bP) (by have:=ft.bad.1;omega);have e4:=pk (L:=n.constraints) (by have:=ft.kO.1;omega);have e5:=clL (L:=n.az.map cG) (by rw[aT];have:=ft.aw.1;omega);have e6:=clA (L:=n.ai.map cF) (by rw[aT];have:=ft.ai.1;omega);have e7:=clM (L:=n.aa.map aM) (by rw[aT];have:=ft.aa.1;omega);have e8:=cl8 ft n.vars n.bk (n.az.map cG) n.bL n.bP n.constraints (n.ai.map cF) (0:Int);exact aO e1 (aO e2 (aO e3 (aO e4 (aO e5 (aO e6 (aO e7 (aO e8 rfl)))))))
