import Derived.Test.YtmkbdfidnfmgmaaGreatWTa
import Derived.Test.YtmkbdfidnfmgmaaGreatWSb
set_option linter.all false
section
namespace Go.Proofs.YtmkbdfidnfmgmaaGreat.V
open Go Go.RowKit
set_option maxRecDepth 1000000
abbrev aet:List Sh:=[.I]
abbrev Q4:List Sh:=[.bool]
abbrev aex:=TL aet->Option (TL Q4)
abbrev Q8:=Kd 80 aet Q4
def Q7(a0:Int):Option (TL Q4):=some ((iQ (oN .i64 a0 (1:Int)) (1:Int)),())
def aq8  :Q8:=⟨u1 Q7,pD Tryz.func80 6 k0 e0 1 (sS l0) fun d=>atP⟩
def aey:Q8:=aq8
def aeu:aex:=aey.F
abbrev aej:List Sh:=[.I,(.sl .bool)]
abbrev GV:List Sh:=[.bool]
abbrev oU:=TL aej->Option (TL GV)
abbrev nV:=Kd 71 aej GV
def Q5(F0:aex)(F1:pX)(a0:Int)(a1:md):Option (TL GV):=
 br (iL a0 (0:Int))
 (
  some (false,()))
 (
  az (F1 (a0,())) fun x0=>
  az (F0 (a0,())) fun x1=>
  br (iL (0:Int) x0.1)
  (
   br (bP true (iL x0.1 (Int.ofNat a1.length)) false)
   (
    au (aw x0.1 a1.length)<|
    some ((Bool.not (@decide _ (Bool.decEq x1.1 (bP true (gt .bool a1 x0.1) false)))),()))
   (
    some ((Bool.not (@decide _ (Bool.decEq x1.1 false))),())))
  (
   some ((Bool.not (@decide _ (Bool.decEq x1.1 false))),())))
def aq2(c0:Q8)(c1:oX) :nV:=⟨u2 (Q5 c0.F c1.F),pD Tryz.func71 27 (kD c0 (kD c1 k0)) e0 1 (sS l0) fun d=>atP⟩
def oV:nV:=aq2 aey pY
def lQ:oU:=oV.F
abbrev Gz:ai:=⟨[(1,.fz .bool),(4,.int .u64),(11,.fz .I),(12,.I),(13,.I)],[],0⟩
abbrev Gu:List (Ev.Ex×ai):=[((.exit 0),⟨[(4,.int .u64)],[],0⟩)]
abbrev adX:=be Gz Gu
abbrev QC:=Ld 0 27 (cj [0] (bu Tryz.f83)) Gz Gu
def GK(F0:oU)(t1:md)(t4:Int)(t11:jp)(t12 t13:Int):am Gz Gu:=
 br (iL t13 t12)
 (
  au (aw t13 t11.length)<|
  az (F0 ((gt .I t11 t13),t1,())) fun x0=>
  br x0.1
  (
   au (iE (0:Int) t13)<|
   atY (t1,(zG .u64 t4 (IntKind.wrap .u64 ((1:Int)*(HPow.hPow (2:Int) (Min.min (Int.toNat t13) 64))))),t11,t12,(qr (t13+(1:Int))),()))
  (
   atY (t1,t4,t11,t12,(qr (t13+(1:Int))),())))
 (
  atZ (t4,()))
def aqs(c0:nV) :QC:=cu (u5 (GK c0.F)) (pL (kD c0 k0) e0 1 l0 fun d=>atP)
def aqr:QC:=aqs oV
def GJ:adX:=bp (u5 (GK lQ)) NN
abbrev adW:List Sh:=[(.sl .I),(.sl .bool)]
abbrev QB:List Sh:=[(.int .u64)]
abbrev zu:=TL adW->Option (TL QB)
abbrev wy:=Kd 83 adW QB
def QR(F0:oU)(L2:adX)(a0:jp)(a1:md):Option (TL QB):=
 au (both (iE (0:Int) (ed (iL (64:Int) (Int.ofNat a0.length)) (64:Int) (Int.ofNat a0.length))) (iE (ed (iL (64:Int) (Int.ofNat a0.length)) (64:Int) (Int.ofNat a0.length)) (Int.ofNat a0.length)))<|
 az (L2 (a1,(0:Int),(List.take (Int.toNat (ed (iL (64:Int) (Int.ofNat a0.length)) (64:Int) (Int.ofNat a0.length))) a0),(Int.ofNat (List.length (List.take (Int.toNat (ed (iL (64:Int) (Int.ofNat a0.length)) (64:Int) (Int.ofNat a0.length))) a0))),(0:Int),())) fun x0=>
 some (x0.1,())
def aqC(c0:nV)(M2:QC):wy:=⟨u2 (QR c0.F M2.L),pD Tryz.func83 27 (kD c0 k0) e0 1 (sS (sC M2 l0)) fun d=>atP⟩
def zv:wy:=aqC oV aqr
def uF:zu:=zv.F
abbrev GG:ai:=⟨[(0,.int .u64),(4,.hd 0 .bool),(7,.I),(8,.I)],[(0,.arr .bool 4)],1⟩
abbrev GA:List (Ev.Ex×ai):=[((.exit 0),⟨[(4,.hd 0 .bool)],[(0,.arr .bool 4)],1⟩)]
abbrev aea:=be GG GA
abbrev aeb:=Ld 0 21 (cj [0] (bu Tryz.f84)) GG GA
def GQ(t0 t7 t8:Int)(b0:md):am GG GA:=
 br (iL t8 t7)
 (
  au (iE (0:Int) t8)<|
  au (room 1 (List.length (ap b0 ((iQ (oN .u64 (Int.fdiv t0 (HPow.hPow (2:Int) (Min.min (Int.toNat t8) 64))) (1:Int)) (1:Int))::[]))))<|
  atY (t0,t7,(qr (t8+(1:Int))),(ap b0 ((iQ (oN .u64 (Int.fdiv t0 (HPow.hPow (2:Int) (Min.min (Int.toNat t8) 64))) (1:Int)) (1:Int))::[])),()))
 (
  atZ (b0,()))
def aqD  :aeb:=cu (u4 GQ) (pL k0 e0 1 l0 fun d=>atP)
def QT:aea:=bp (u4 GQ) NN
abbrev ad9:List Sh:=[(.int .u64),.I]
abbrev QS:List Sh:=[(.sl .bool)]
abbrev QX:=TL ad9->Option (TL QS)
abbrev GW:=Kd 84 ad9 QS
def QZ(F0:Qd)(L2:aea)(a0 a1:Int):Option (TL QS):=
 az (F0 (a1,())) fun x0=>
 az (L2 (a0,x0.1,(0:Int),[],())) fun x1=>
 some (x1.1,())
def aqQ(c0:Gj)(M2:aeb):GW:=⟨u2 (QZ c0.F M2.L),pD Tryz.func84 21 (kD c0 k0) e0 1 (sS (sC M2 l0)) fun d=>atP⟩
def QY:GW:=aqQ Qe aqD
def GP:QX:=QY.F
def bE(l:Int)(v:md):Bool:=if l<0 then false else(decide (l % 2=1)) != (decide (0<l / 2)&&(v.getD (l / 2).toNat false))
theorem ait{l:Int}(h:0<=l)(h2:l<9223372036854775808):oN .i64 l 1=l % 2:=by
 obtain⟨n,rfl⟩:=BY h;unfold oN;have e:(BitVec.ofInt (IntKind.i64).bits (n:Int) &&& BitVec.ofInt (IntKind.i64).bits 1).toNat=n % 2:=by
  rw[BitVec.toNat_and,atm,atm];have e1:(((n:Int) % ((2^(IntKind.i64).bits:Nat):Int)).toNat)=n:=by rw[Int.emod_eq_of_lt atO (by show(n:Int)<((2^64:Nat):Int);omega)];rfl
  rw[e1];show n &&& 1=n % 2;exact Nat.and_one_is_mod n
 rw[e];exact Eq.trans atX atO
theorem ais{w:Int}(h:0<=w)(h2:w<18446744073709551616):oN .u64 w 1=w % 2:=by
 obtain⟨n,rfl⟩:=BY h;unfold oN;have e:(BitVec.ofInt (IntKind.u64).bits (n:Int) &&& BitVec.ofInt (IntKind.u64).bits 1).toNat=n % 2:=by
  rw[BitVec.toNat_and,atm,atm];have e1:(((n:Int) % ((2^(IntKind.u64).bits:Nat):Int)).toNat)=n:=by rw[Int.emod_eq_of_lt atO (by show(n:Int)<((2^64:Nat):Int);omega)];rfl
  rw[e1];show n &&& 1=n % 2;exact Nat.and_one_is_mod n
 rw[e];exact Eq.trans (RO atO) atO
theorem alr{l:Int}(h:0<=l)(h2:l<9223372036854775808):aeu (l,())=some (decide (l % 2=1),()):=by show Q7 l=_;unfold Q7;rw[ait h h2];rfl
theorem afd{v:md}{i:Int}(h:0<=i):gt .bool v i=v.getD i.toNat false:=by unfold gt;rfl
theorem uH(l:Int)(v:md)(h2:l<9223372036854775808):lQ (l,v,())=some (bE l v,()):=by
 show Q5 aeu ph l v=_;unfold Q5 bE;by_cases h:l<0
 .rw[IO h];exact aR (aD h) rfl
 .rw[BT h];refine ax (aF h) (aB (aas l) (aB (alr atO h2) ?_));have e:∀a b c:Bool,b=c->(some (Bool.not (@decide _ (Bool.decEq a b)),()):Option (TL GV))=some (a != c,()):=by rintro a b _ rfl;cases a<;>cases b<;>rfl
  by_cases h0:0<l / 2
  .refine aR (aD h0) ?_;by_cases h1:l / 2<(v.length:Int)
   .refine aR (aD h1) (aS (aU ⟨atO,h1⟩) (e _ _ _ ?_));rw[dt h0];show gt .bool v (l / 2)=_;rw[afd atO];rfl
   .refine ax (aF h1) (e _ _ _ ?_);rw[dt h0,eu,abs atO];rfl
  .refine ax (aF h0) (e _ _ _ ?_);rw[eY h0];rfl
def ff:md->Nat
 |[]=>0|b::l=>(if b then 1 else 0)+2*ff l
theorem aqt(l:md)(b:Bool):ff (l++[b])=ff l+(if b then 2^l.length else 0):=by
 induction l with
 |nil=>cases b<;>rfl
 |cons c l ih=>rw[arM,ff,ih,ff,di,Nat.pow_succ];cases b<;>simp<;>omega
theorem aeA(l:md):ff l<2^l.length:=by induction l with|nil=>decide|cons c l ih=>rw[ff,di,Nat.pow_succ];split<;>omega
theorem amd{i:Nat}(h:i<64):(2:Nat)^i<=9223372036854775808:=by have:(2:Nat)^i<=2^63:=Nat.pow_le_pow_right atS atO;exact this
theorem ajO{w i:Nat}(hi:i<64)(hw:w<2^i):zG .u64 (w:Int) (IntKind.wrap .u64 ((1:Int)*(HPow.hPow (2:Int) (Min.min (Int.toNat (i:Int)) 64))))=((w+2^i:Nat):Int):=by
 have hp:=amd hi;have e1:((1:Int)*(HPow.hPow (2:Int) (Min.min (Int.toNat (i:Int)) 64)))=((2^i:Nat):Int):=by rw[Int.one_mul,Ne,asx atO];simp
 rw[e1,RO atO];unfold zG;have e2:∀n:Nat,n<18446744073709551616->(BitVec.ofInt (IntKind.u64).bits (n:Int)).toNat=n:=by intro n hn;rw[atm,Int.emod_eq_of_lt atO (by show(n:Int)<((2^64:Nat):Int);omega)];rfl
 have e3:w ||| 2^i=w+2^i:=by rw[Nat.or_comm,atI];have:=Nat.two_pow_add_eq_or_of_lt hw 1;rw[Nat.mul_one]at this;exact this.symm
 rw[BitVec.toNat_or,e2 _ atO,e2 _ atO,e3,RO atO]
theorem Rd(l:jp)(v:md)(hl:l.length<=64)(hr:∀x∈l,x<9223372036854775808):uF (l,v,())=some ((ff (l.map (bE · v)):Int),()):=by
 show QR lQ GJ l v=_;unfold QR;have es:ed (iL (64:Int) (Int.ofNat l.length)) (64:Int) (Int.ofNat l.length)=(l.length:Int):=by have q:iL (64:Int) (Int.ofNat l.length)=false:=aF (by show ¬(64:Int)<(l.length:Int);omega);rw[q];rfl
 have et:List.take (Int.toNat (ed (iL (64:Int) (Int.ofNat l.length)) (64:Int) (Int.ofNat l.length))) l=l:=by rw[es,Ne,eX]
 have eL:GJ (v,(0:Int),l,(l.length:Int),(0:Int),())=some ((ff (l.map (bE · v)):Int),()):=by
  unfold GJ;delta u5;refine d9 (fun k:Nat=>(v,(ff ((l.take k).map (bE · v)):Int),l,(l.length:Int),(k:Int),())) l.length rfl ?_ ?_ atU
  .intro k hk;have hx:=ba hk;have hm:=hr _ (By hk)
   try dsimp only
   unfold GK;have e1:=uH l[k] v hm;have e1':lQ ((gt .I l (k:Int)),v,())=some (bE l[k] v,()):=by rw[bI (σ:=.I) hx];exact e1
   have ht:(l.take (k+1)).map (bE · v)=(l.take k).map (bE · v)++[bE l[k] v]:=by rw[Pl.eE hx,d7];rfl
   have hk2:((l.take k).map (bE · v)).length=k:=by rw[aP,fx];omega
   have hw:=aeA ((l.take k).map (bE · v));rw[hk2]at hw;have e:∀(a b p q:Int),a=b->p=q->(atY (v,a,l,(l.length:Int),p,()):am Gz Gu)=atY (v,b,l,(l.length:Int),q,()):=by rintro _ _ _ _ rfl rfl;rfl
   refine aR atW (aS atT (aB e1' ?_));rw[ht,aqt,hk2];cases hb:bE l[k] v
   .refine ax rfl (e _ _ _ _ ?_ (dL atO atO));rfl
   .refine aR rfl (aS atW (e _ _ _ _ (ajO atO hw) (dL atO atO)))
  .try dsimp only
   unfold GK;rw[eX];exact ax atV rfl
 refine aS ?_ ?_
 .rw[es];show both (decide _) (decide _)=true;rw[dt atO,dt (by show(l.length:Int)<=(l.length:Int);omega)];rfl
 .have eT:∀L:jp,L=l->GJ (v,(0:Int),L,(Int.ofNat L.length),(0:Int),())=some ((ff (l.map (bE · v)):Int),()):=by rintro _ rfl;exact eL
  exact aB (eT _ et) rfl
theorem ZF(P:md)(z:Bool)(h:P.length<=10000000):room 1 (List.length (P++(z::[])))=true:=by rw[bU,di,IT];exact uE atO atO
def iR(w n:Nat):md:=(List.range n).map fun i=>decide (w / 2^i % 2=1)
theorem wu(w n:Nat):(iR w n).length=n:=by simp[iR]
theorem aqi(w n:Nat):iR w (n+1)=iR w n++[decide (w / 2^n % 2=1)]:=by unfold iR;rw[asg,d7];rfl
theorem ak2{q:Nat}(h:q<18446744073709551616):(iQ (oN .u64 (q:Int) (1:Int)) (1:Int))=decide (q % 2=1):=by rw[ais atO atO];show decide _=decide _;congr 1;apply propext;omega
theorem aiu(w n:Nat)(hn:n<=64)(hw:w<18446744073709551616):GP ((w:Int),(n:Int),())=some (iR w n,()):=by
 have hb:Jd ((n:Int),())=some ((n:Int),()):=by
  show Ax (n:Int)=_;unfold Ax;have h1:ed (decide ((64:Int)<(n:Int))) (64:Int) (n:Int)=(n:Int):=by unfold ed;rw[eY atO]
  have h2:ed (decide ((n:Int)<(0:Int))) (0:Int) (n:Int)=(n:Int):=by unfold ed;rw[eY atO]
  show some (ed (decide (ed (decide ((64:Int)<(n:Int))) (64:Int) (n:Int)<0)) 0 (ed (decide ((64:Int)<(n:Int))) (64:Int) (n:Int)),())=_;rw[h1,h2]
 have eL:QT ((w:Int),(n:Int),(0:Int),[],())=some (iR w n,()):=by
  unfold QT;delta u4;refine d9 (fun k:Nat=>((w:Int),(n:Int),(k:Int),iR w k,())) n rfl ?_ ?_ atU
  .intro k hk
   try dsimp only
   unfold GQ;have hd:Int.fdiv (w:Int) (HPow.hPow (2:Int) (Min.min (Int.toNat (k:Int)) 64))=((w / 2^k:Nat):Int):=by rw[Ne,asx atO,att _ (Int.pow_nonneg atS)];simp
   have hlt:w / 2^k<=w:=Nat.div_le_self _ _;have hb:(iQ (oN .u64 (Int.fdiv (w:Int) (HPow.hPow (2:Int) (Min.min (Int.toNat (k:Int)) 64))) (1:Int)) (1:Int))=decide (w / 2^k % 2=1):=by rw[hd];exact ak2 atO
   have e:∀(a b:md) (p q:Int),a=b->p=q->(atY ((w:Int),(n:Int),p,a,()):am GG GA)=atY ((w:Int),(n:Int),q,b,()):=by rintro _ _ _ _ rfl rfl;rfl
   refine aR (aD (show(k:Int)<(n:Int) by omega)) (aS atW (aS (ZF _ _ (by rw[wu];omega)) (e _ _ _ _ ?_ (dL atO atO))));rw[aqi];exact PP (fun b:Bool=>iR w k++[b]) hb
  .try dsimp only
   unfold GQ;exact ax atV rfl
 show QZ Jd QT (w:Int) (n:Int)=_;unfold QZ;exact aB hb (aB eL rfl)
abbrev bA:=Int×Int×Unit
def R3(L:List bA):Prop:=L.Pairwise (fun p q=>p.1<q.1)
def rd(M:List bA)(k:Int):Int:=match M with|[]=>0|p::M=>match decide (p.1=k)with|true=>p.2.1|false=>rd M k
def sN(k v:Int)(M:List bA):List bA:=match M with|[]=>[(k,v,())]|p::M=>match decide (k<p.1)with|true=>(k,v,())::p::M|false=>match decide (p.1=k)with|true=>(k,v,())::M|false=>p::sN k v M
def sM(k:Int)(M:List bA):List bA:=match M with|[]=>[]|p::M=>match decide (p.1=k)with|true=>M|false=>p::sM k M
theorem Y1:∀(M:List bA) (k:Int),@jM (.int .u64) M k=rd M k
 |[],k=>rfl|p::M,k=>PP (fun z:Int=>match decide (p.1=k)with|true=>p.2.1|false=>z) (Y1 M k)
theorem Rl(k v:Int):∀(M:List bA),@fF (.int .u64) k v M=sN k v M
 |[]=>rfl|p::M=>PP (fun z:List bA=>match decide (k<p.1)with|true=>(k,v,())::p::M|false=>match decide (p.1=k)with|true=>(k,v,())::M|false=>p::z) (Rl k v M)
theorem Rm(k:Int):∀(M:List bA),@lV (.int .u64) k M=sM k M
 |[]=>rfl|p::M=>PP (fun z:List bA=>match decide (p.1=k)with|true=>M|false=>p::z) (Rm k M)
def wr(L:List bA)(a w:Int):List bA:=if w=0 then sM a L else sN a w L
theorem alR{L:List bA}{a w:Int}(h:R3 L):R3 (wr L a w):=by
 unfold wr;split
 .exact Rm a L▸aar (σ:=.int .u64) (k:=a) h
 .exact Rl a w L▸TF (σ:=.int .u64) (k:=a) (v:=w) h
theorem ark(p:bA)(M:List bA)(a:Int):rd (p::M) a=if p.1=a then p.2.1 else rd M a:=by
 rw[rd];by_cases q:p.1=a
 .rw[dt q,IO q]
 .rw[eY q,BT q]
theorem adU(p:bA)(M:List bA)(a:Int):sM a (p::M)=if p.1=a then M else p::sM a M:=by
 rw[sM];by_cases q:p.1=a
 .rw[dt q,IO q]
 .rw[eY q,BT q]
theorem adK(p:bA)(M:List bA)(a w:Int):sN a w (p::M)=if a<p.1 then(a,w,())::p::M else if p.1=a then(a,w,())::M else p::sN a w M:=by
 rw[sN];by_cases q:a<p.1
 .rw[dt q,IO q]
 .rw[eY q,BT q];by_cases r:p.1=a
  .rw[dt r,IO r]
  .rw[eY r,BT r]
theorem aeF(a:Int):∀L:List bA,(sM a L).length<=L.length
 |[]=>rt _|p::M=>by rw[adU];have:=aeF a M;split<;>simp only[di]<;>omega
theorem aeE(a w:Int):∀L:List bA,(sN a w L).length<=L.length+1
 |[]=>rt _|p::M=>by
  rw[adK];have:=aeE a w M;split
  .simp only[di];omega
  .split<;>simp only[di]<;>omega
theorem alQ(L:List bA)(a w:Int):(wr L a w).length<=L.length+1:=by unfold wr;have:=aeF a L;have:=aeE a w L;split<;>omega
abbrev aoB:ai:=⟨[(0,.fJ .I)],[],0⟩
abbrev ab6:List (Ev.Ex×ai):=[(.ret,⟨[(0,.hd 0 .I)],[(0,.arr .I 3)],1⟩)]
abbrev acT:=Kb 93 1 aoB 1 ab6
def apq(t0z:Bool)(t0:jp):Option (Out ab6):=
 br t0z
 (
  some ([],()))
 (
  au (room 8 (List.length (ap [] t0)))<|
  some ((ap [] t0),()))
def apo  :acT:=⟨u2 apq,pB Tryz.func93 8 k0 e0 1 (sS l0) fun d=>atP⟩
def aoN:acT:=apo
abbrev acV:List Sh:=[.sl .I]
abbrev acU:List Sh:=[.sl .I]
abbrev FQ:=TL acV->Option (TL acU)
abbrev FU:=Kd 93 acV acU
def FR:FU:=⟨_,GX aoN.ok rfl (fun L=>rfl) (fun L=>⟨_,_,rfl,rfl,rfl⟩)⟩
def wj:FQ:=FR.F
abbrev aob:ai:=⟨[(0,.fJ af)],[],0⟩
abbrev abu:List (Ev.Ex×ai):=[(.ret,⟨[(0,.hd 0 af)],[(0,.arr af 78)],1⟩)]
abbrev ab3:=Kb 94 1 aob 1 abu
def aoL(t0z:Bool)(t0:bv):Option (Out abu):=
 br t0z
 (
  some ([],()))
 (
  au (room 24 (List.length (ap [] t0)))<|
  some ((ap [] t0),()))
def aoK  :ab3:=⟨u2 aoL,pB Tryz.func94 8 k0 e0 1 (sS l0) fun d=>atP⟩
def aoe:ab3:=aoK
abbrev ab5:List Sh:=[.sl af]
abbrev ab4:List Sh:=[.sl af]
abbrev aci:=TL ab5->Option (TL ab4)
abbrev ack:=Kd 94 ab5 ab4
def acj:ack:=⟨_,GX aoe.ok rfl (fun L=>rfl) (fun L=>⟨_,_,rfl,rfl,rfl⟩)⟩
def aoM:aci:=acj.F
abbrev aol:ai:=⟨[(0,.fJ af)],[],0⟩
abbrev abw:List (Ev.Ex×ai):=[(.ret,⟨[(0,.hd 0 af)],[(0,.arr af 113)],1⟩)]
abbrev acF:=Kb 95 1 aol 1 abw
def apf(t0z:Bool)(t0:bv):Option (Out abw):=
 br t0z
 (
  some ([],()))
 (
  au (room 24 (List.length (ap [] t0)))<|
  some ((ap [] t0),()))
def ape  :acF:=⟨u2 apf,pB Tryz.func95 8 k0 e0 1 (sS l0) fun d=>atP⟩
def aom:acF:=ape
abbrev acH:List Sh:=[.sl af]
abbrev acG:List Sh:=[.sl af]
abbrev acL:=TL acH->Option (TL acG)
abbrev acN:=Kd 95 acH acG
def acM:acN:=⟨_,GX aom.ok rfl (fun L=>rfl) (fun L=>⟨_,_,rfl,rfl,rfl⟩)⟩
def apg:acL:=acM.F
abbrev an8:ai:=⟨[(0,.fJ ah)],[],0⟩
abbrev OD:List (Ev.Ex×ai):=[(.ret,⟨[(0,.hd 0 ah)],[(0,.arr ah 97)],1⟩)]
abbrev abV:=Kb 96 1 an8 1 OD
def aoG(t0z:Bool)(t0:ce):Option (Out OD):=
 br t0z
 (
  some ([],()))
 (
  au (room 72 (List.length (ap [] t0)))<|
  some ((ap [] t0),()))
def aoF  :abV:=⟨u2 aoG,pB Tryz.func96 8 k0 e0 1 (sS l0) fun d=>atP⟩
def aoa:abV:=aoF
abbrev abP:ai:=⟨[(0,.fz ah)],[],0⟩
abbrev abL:List (Ev.Ex×ai):=OD
abbrev abX:=be abP abL
abbrev abZ:=Kb 96 1 abP 1 abL
def abY:abZ:=JP aoa rfl
def aoH:abX:=abY.F
abbrev aod:ai:=⟨[(0,.fJ cF)],[],0⟩
abbrev OI:List (Ev.Ex×ai):=[(.ret,⟨[(0,.hd 0 cF)],[(0,.arr cF 148)],1⟩)]
abbrev acq:=Kb 97 1 aod 1 OI
def ao2(t0z:Bool)(t0:ip):Option (Out OI):=
 br t0z
 (
  some ([],()))
 (
  au (room 32 (List.length (ap [] t0)))<|
  some ((ap [] t0),()))
def ao1  :acq:=⟨u2 ao2,pB Tryz.func97 8 k0 e0 1 (sS l0) fun d=>atP⟩
def aoj:acq:=ao1
abbrev ach:ai:=⟨[(0,.fz cF)],[],0⟩
abbrev ab2:List (Ev.Ex×ai):=OI
abbrev Pj:=be ach ab2
abbrev Pm:=Kb 97 1 ach 1 ab2
def Pk:Pm:=JP aoj rfl
def Ph:Pj:=Pk.F
abbrev an9:ai:=⟨[(0,.fJ bD)],[],0⟩
abbrev OE:List (Ev.Ex×ai):=[(.ret,⟨[(0,.hd 0 bD)],[(0,.arr bD 174)],1⟩)]
abbrev ab1:=Kb 98 1 an9 1 OE
def aoJ(t0z:Bool)(t0:io):Option (Out OE):=
 br t0z
 (
  some ([],()))
 (
  au (room 56 (List.length (ap [] t0)))<|
  some ((ap [] t0),()))
def aoI  :ab1:=⟨u2 aoJ,pB Tryz.func98 8 k0 e0 1 (sS l0) fun d=>atP⟩
def aoc:ab1:=aoI
abbrev abW:ai:=⟨[(0,.fz bD)],[],0⟩
abbrev abU:List (Ev.Ex×ai):=OE
abbrev O6:=be abW abU
abbrev O8:=Kb 98 1 abW 1 abU
def O7:O8:=JP aoc rfl
def O1:O6:=O7.F
abbrev Ir:List (Nat×LO):=[(0,.cells [.I,.fz .I,.fz af,.fz .I,.fz .I,.fz .I,.hd 1 ah,.fz af] 27),(1,.fA ah [.I,.I,.bool,.hd 2 cF,.hd 3 bD] 97),(2,.arr cF 148),(3,.arr bD 174),(4,.cells [.I,.bt,.bt,.bt,.bt,.bt,.bt,.bt] 27)]
abbrev afx:List (Nat×LO):=[(0,.cells [.I,.fz .I,.fz af,.fz .I,.fz .I,.fz .I,.hd 1 ah,.fz af] 27),(1,.arr ah 97),(2,.cells [.I,.bt,.bt,.bt,.bt,.bt,.bt,.bt] 27)]
abbrev GI:ai:=⟨[(1,.ptr 0 0),(2,.ptr 2 0),(41,.I),(42,.I)],afx,3⟩
abbrev GC:List (Ev.Ex×ai):=[((.exit 2),⟨[(1,.ptr 0 0),(2,.ptr 2 0)],afx,3⟩)]
abbrev aeg:=be GI GC
abbrev QW:=Ld 0 123 (cj [1] (bu Tryz.f41)) GI GC
abbrev GD:ai:=⟨[(1,.ptr 0 0),(2,.ptr 4 0),(6,.fE 1 5 0),(41,.I),(42,.I),(94,.I),(95,.I)],Ir,5⟩
abbrev Gx:List (Ev.Ex×ai):=[((.exit 6),⟨[(1,.ptr 0 0),(2,.ptr 4 0),(41,.I),(42,.I)],Ir,5⟩)]
abbrev QN:=be GD Gx
abbrev GL:=Ld 0 123 (cj [1,1] (bu Tryz.f41)) GD Gx
abbrev GF:ai:=⟨[(1,.ptr 0 0),(2,.ptr 4 0),(6,.fE 1 5 0),(41,.I),(42,.I),(69,.I),(70,.I)],Ir,5⟩
abbrev Gy:List (Ev.Ex×ai):=[((.exit 4),⟨[(1,.ptr 0 0),(2,.ptr 4 0),(6,.fE 1 5 0),(41,.I),(42,.I)],Ir,5⟩)]
abbrev QO:=be GF Gy
abbrev GM:=Ld 0 123 (cj [1,0] (bu Tryz.f41)) GF Gy
def GO(F2:FQ)(t6 t41 t42 t69 t70 aA:Int)(aC:jp)(aK:bv)(aM aO aQ:jp)(aG:bv)(b1i:Int)(b1:ce)(bN cW:Int)(dg:Bool)(b2:ip)(b3:io)(mJ:Int):am GF Gy:=
 br (iL t70 t69)
 (
  au (Nat.beq (Int.toNat t6) (Int.toNat b1i))<|
  au (Nat.beq (Int.toNat t6) (Int.toNat b1i))<|
  au (aw t70 b2.length)<|
  az (F2 ((gt cF b2 t70).2.1,())) fun x0=>
  au (aw t70 b2.length)<|
  atY ((Int.ofNat (Int.toNat t6)),t41,t42,t69,(qr (t70+(1:Int))),aA,aC,aK,aM,aO,aQ,aG,(Int.ofNat (Int.toNat b1i)),b1,bN,cW,dg,(List.set b2 (Int.toNat t70) ((gt cF b2 t70).1,x0.1,())),b3,mJ,()))
 (
  atZ ((Int.ofNat (Int.toNat t6)),t41,t42,aA,aC,aK,aM,aO,aQ,aG,(Int.ofNat (Int.toNat b1i)),b1,bN,cW,dg,b2,b3,mJ,()))
def aqB(c2:FU) :GM:=cu (l9 (GO c2.F)) (pL (kD c2 k0) e0 1 l0 fun d=>atP)
def ad7:GM:=aqB FR
def QQ:QO:=bp (l9 (GO wj)) NN
def GN(F2:FQ)(t6 t41 t42 t94 t95 aA:Int)(aC:jp)(aK:bv)(aM aO aQ:jp)(aG:bv)(b1i:Int)(b1:ce)(bN cW:Int)(dg:Bool)(b2:ip)(b3:io)(mJ:Int):am GD Gx:=
 br (iL t95 t94)
 (
  au (Nat.beq (Int.toNat t6) (Int.toNat b1i))<|
  au (aw t95 b3.length)<|
  az (F2 ((gt bD b3 t95).2.1,())) fun x0=>
  az (F2 ((gt bD b3 t95).2.2.1,())) fun x1=>
  au (nQ (Int.toNat t95) (Int.toNat t95))<|
  atY ((Int.ofNat (Int.toNat t6)),t41,t42,t94,(qr (t95+(1:Int))),aA,aC,aK,aM,aO,aQ,aG,(Int.ofNat (Int.toNat b1i)),b1,bN,cW,dg,b2,(List.set (List.set b3 (Int.toNat t95) ((gt bD b3 t95).1,x0.1,(gt bD b3 t95).2.2.1,())) (Int.toNat t95) ((gt bD (List.set b3 (Int.toNat t95) ((gt bD b3 t95).1,x0.1,(gt bD b3 t95).2.2.1,())) t95).1,(gt bD (List.set b3 (Int.toNat t95) ((gt bD b3 t95).1,x0.1,(gt bD b3 t95).2.2.1,())) t95).2.1,x1.1,())),mJ,()))
 (
  atZ (t41,t42,aA,aC,aK,aM,aO,aQ,aG,(Int.ofNat (Int.toNat b1i)),b1,bN,cW,dg,b2,b3,mJ,()))
def aqA(c2:FU) :GL:=cu (l9 (GN c2.F)) (pL (kD c2 k0) e0 1 l0 fun d=>atP)
def ad6:GL:=aqA FR
def QP:QN:=bp (l9 (GN wj)) NN
def GU(F3:O6)(F4:Pj)(L13:QO)(L18:QN)(t41 t42 aA:Int)(aC:jp)(aK:bv)(aM aO aQ:jp)(aG:bv)(b1:ce)(cP:Int):am GI GC:=
 br (iL t42 t41)
 (
  au (aw t42 b1.length)<|
  az (F4 ((gt ah b1 t42).2.2.2.1,())) fun x0=>
  au (nQ (Int.toNat t42) (Int.toNat t42))<|
  au (nQ (Int.toNat t42) (Int.toNat t42))<|
  au (nQ (Int.toNat t42) (Int.toNat t42))<|
  au (nQ (Int.toNat t42) (Int.toNat t42))<|
  au (nQ (Int.toNat t42) (Int.toNat t42))<|
  au (ov (Sh.beq bD) (gt ah b1 t42).2.2.2.2.1 (gt ah b1 t42).2.2.2.2.1)<|
  az (F3 ((gt ah b1 t42).2.2.2.2.1,())) fun x1=>
  au (nQ (Int.toNat t42) (Int.toNat t42))<|
  au (nQ (Int.toNat t42) (Int.toNat t42))<|
  au (nQ (Int.toNat t42) (Int.toNat t42))<|
  au (Nat.beq (Int.toNat t42) (Int.toNat t42))<|
  au (Nat.beq (Int.toNat t42) (Int.toNat t42))<|
  az (L13 ((Int.ofNat (Int.toNat t42)),t41,t42,(Int.ofNat (List.length x0.1)),(0:Int),aA,aC,aK,aM,aO,aQ,aG,(Int.ofNat (Int.toNat t42)),b1,(gt ah b1 t42).1,(gt ah b1 t42).2.1,(gt ah b1 t42).2.2.1,x0.1,x1.1,cP,())) fun x2=>
  au (Nat.beq (Int.toNat x2.1) (Int.toNat (dH x2)))<|
  az (L18 ((Int.ofNat (Int.toNat x2.1)),x2.2.1,x2.2.2.1,(Int.ofNat (List.length (cQ (aW x2)))),(0:Int),cT x2,cQ x2,cK x2,cU x2,dz x2,dZ x2,eS x2,(Int.ofNat (Int.toNat (dH x2))),fW x2,fK x2,(aW x2).2.1,(aW x2).2.2.1,cT (aW x2),cQ (aW x2),cK (aW x2),())) fun x3=>
  atY (x3.1,(qr (pp x3.2.1 (1:Int))),x3.2.2.1,cT x3,cQ x3,cK x3,cU x3,dz x3,dZ x3,(List.set (dH x3) (Int.toNat (eS x3)) (fW x3,fK x3,(aW x3).2.1,(aW x3).2.2.1,cT (aW x3),())),cQ (aW x3),()))
 (
  atZ (aA,aC,aK,aM,aO,aQ,aG,b1,cP,()))
def aqN(c3:O8)(c4:Pm)(M13:GM)(M18:GL):QW:=cu (vm (GU c3.F c4.F M13.L M18.L)) (pL (kB c3 (kB c4 k0)) e0 1 (sC M13 (sC M18 l0)) fun d=>atP)
def aqM:QW:=aqN O7 Pk ad7 ad6
def aeh:aeg:=bp (vm (GU O1 Ph QQ QP)) NN
abbrev aef:List Sh:=[cA]
abbrev QV:List Sh:=[cA]
abbrev aer:=TL aef->Option (TL QV)
abbrev Q3:=Kd 41 aef QV
def aqZ(F0:acL)(F1:aci)(F2:FQ)(F3:O6)(F4:Pj)(F5:abX)(L8:aeg)(L13:QO)(L18:QN)(a0:Sh.T cA):Option (TL QV):=
 az (F2 (a0.2.1,())) fun x0=>
 az (F2 (cT a0,())) fun x1=>
 az (F2 (cQ a0,())) fun x2=>
 az (F2 (cK a0,())) fun x3=>
 az (F1 (a0.2.2.1,())) fun x4=>
 az (F0 (dz a0,())) fun x5=>
 az (F5 (cU a0,())) fun x6=>
 az (L8 ((Int.ofNat (List.length x6.1)),(0:Int),a0.1,x0.1,x4.1,x1.1,x2.1,x3.1,x5.1,x6.1,(0:Int),())) fun x7=>
 some ((x7.1,x7.2.1,x7.2.2.1,cT x7,cQ x7,cK x7,dz x7,cU x7,()),())
def aqY(c0:acN)(c1:ack)(c2:FU)(c3:O8)(c4:Pm)(c5:abZ)(M8:QW)(M13:GM)(M18:GL):Q3:=⟨u1 (aqZ c0.F c1.F c2.F c3.F c4.F c5.F M8.L M13.L M18.L),pD Tryz.func41 123 (kD c0 (kD c1 (kD c2 (kB c3 (kB c4 (kB c5 k0)))))) e0 1 (lS (lU (cj [0] (bu Tryz.f41)) 5 (kD c0 (kD c1 (kD c2 (kB c3 (kB c4 (kB c5 k0)))))) e0 1 l0 atP (sC M8 l0) atP) atP) fun d=>atP⟩
def aes:Q3:=aqY acM acj FR O7 Pk abY aqM ad7 ad6
def aqO:aer:=aes.F
abbrev aoq:ai:=⟨[(0,.fJ .bool)],[],0⟩
abbrev O0:List (Ev.Ex×ai):=[(.ret,⟨[(0,.hd 0 .bool)],[(0,.arr .bool 4)],1⟩)]
abbrev acS:=Kb 42 1 aoq 1 O0
def apn(t0z:Bool)(t0:md):Option (Out O0):=
 br t0z
 (
  some ([],()))
 (
  au (room 1 (List.length (ap [] t0)))<|
  some ((ap [] t0),()))
def apm  :acS:=⟨u2 apn,pB Tryz.func42 8 k0 e0 1 (sS l0) fun d=>atP⟩
def aoC:acS:=apm
abbrev acR:ai:=⟨[(0,.fz .bool)],[],0⟩
abbrev acQ:List (Ev.Ex×ai):=O0
abbrev abD:=be acR acQ
abbrev abE:=Kb 42 1 acR 1 acQ
def OZ:abE:=JP aoC rfl
def aoi:abD:=OZ.F
abbrev acP:ai:=⟨[(0,.hd 0 .bool)],[(0,.arr .bool 4)],1⟩
abbrev acO:List (Ev.Ex×ai):=[(.ret,⟨[(0,.hd 1 .bool)],[(0,.arr .bool 4),(1,.arr .bool 4)],2⟩)]
abbrev aog:=be acP acO
abbrev acm:=Kb 42 1 acP 1 acO
def aoh:acm:=⟨_,aq0 atP OZ.ok⟩
abbrev Zke:ai:=⟨[(0,.ptr 0 0),(1,.int .u64)],[(0,.cells [.I,.I,.mp 1] 179),(1,.map .u64 (.int .u64))],2⟩
abbrev I8:List (Ev.Ex×ai):=[(.ret,⟨[(0,.int .u64)],[(0,.cells [.I,.I,.mp 1] 179),(1,.map .u64 (.int .u64))],2⟩)]
abbrev Qp:=be Zke I8
abbrev Gv:=Kb 82 2 Zke 1 I8
def S6(t1 aA aC:Int)(b1:ii):Option (Out I8):=some ((@jM (.int .u64) b1 t1),aA,aC,b1,())
def aqd  :Gv:=⟨u4 S6,pB Tryz.func82 13 k0 e0 1 (sS l0) fun d=>atP⟩
def Qq:Gv:=aqd
def JB:Qp:=Qq.F
