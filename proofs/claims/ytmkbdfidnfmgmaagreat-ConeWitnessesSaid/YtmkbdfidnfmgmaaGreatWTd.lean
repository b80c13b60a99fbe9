import Derived.Test.YtmkbdfidnfmgmaaGreatWTc
set_option linter.all false
section
namespace Go.Proofs.YtmkbdfidnfmgmaaGreat.V
open Go Go.RowKit
theorem aq9(a:Int):Nz a a=true:=dt rfl
theorem aq1(a:Bool):Rp a a=true:=dt rfl
theorem aei:∀l:List UInt8,Ev.tv l l=true
 |[]=>rfl|x::l=>by simp[Ev.tv,aei l]
theorem aq4(a:ByteArray):Ev.yQ a a=true:=aei _
mutual
theorem Sh.zz:∀{σ:Sh}(a:σ.T),σ.beq a a=true
 |.int _,a=>aq9 a|.bool,a=>aq1 a|.str,a=>aq4 a|.agg l,a=>aeL (l:=l) a|.sl s,a=>yZ (fun x=>Sh.zz x) a
theorem aeL:∀{l:List Sh}(a:TL l),wE l a a=true
 |[],a=>rfl|s::l,a=>by have h1:=Sh.zz (σ:=s) a.1;have h2:=aeL (l:=l) a.2;show(match s.beq a.1 a.1 with|true=>wE l a.2 a.2|false=>false)=true;rw[h1];exact h2
end
theorem se{a L:Nat}(ha:a<=100)(h:L<=10000000):room a L=true:=uE (by have:(2*L+192)*a<=(2*10000000+192)*100:=Nat.mul_le_mul atO ha;omega) atO
theorem Rk{σ:Sh}{L:List σ.T}{k:Nat}(h:k<L.length){x:σ.T}(hx:x=gt σ L (k:Int)){z:Int}(hz:z=(k:Int)):List.set L (Int.toNat z) x=L:=by subst hx;subst hz;have:=bI (σ:=σ) (ba h);rw[this,Ne];exact List.set_getElem_self h
theorem qH(x:Int):iQ x x=true:=aD rfl
theorem pE(x:Int):Bool.not (iQ x x)=false:=by rw[qH];rfl
theorem nb3(x y z:Int):Bool.not (both (iQ x x) (both (iQ y y) (both (iQ z z) true)))=false:=by rw[qH,qH,qH];rfl
open Go.Proofs.YtmkbdfidnfmgmaaGreat.Pl
theorem oA{L:jp}(h:L.length<=1000000):wj (L,())=some (L,()):=aS (se atS (by show L.length<=_;omega)) rfl
theorem TV{L:List af.T}(h:L.length<=1000000):aoM (L,())=some (L,()):=aS (se atS (by show L.length<=_;omega)) rfl
theorem TU{L:List af.T}(h:L.length<=1000000):apg (L,())=some (L,()):=aS (se atS (by show L.length<=_;omega)) rfl
theorem TW{L:List ah.T}(h:L.length<=1000000):aoH (L,())=some (L,()):=aS (se atS (by show([]++L).length<=_;rw[UV];omega)) rfl
theorem TX{L:List cF.T}(h:L.length<=1000000):Ph (L,())=some (L,()):=aS (se atS (by show([]++L).length<=_;rw[UV];omega)) rfl
theorem TY{L:List bD.T}(h:L.length<=1000000):O1 (L,())=some (L,()):=aS (se atS (by show([]++L).length<=_;rw[UV];omega)) rfl
theorem clB{L:md}(h:L.length<=1000000):aoi (L,())=some (L,()):=aS (se atS (by show([]++L).length<=_;rw[UV];omega)) rfl
section
variable(i:Nat)(t41 t42 b00:Int)(b01:jp)(b02:List af.T)(b03 b04 b05:jp)(b07:List af.T)(b1:List ah.T)(m0 m1:Int)(m2:Bool)(rs:List cF.T)(ws:List bD.T)(z:Int)
theorem arw(hr:rs.length<=1000)(hrr:∀r∈rs,r.2.1.length<=100000) :
  QQ ((i:Int),t41,t42,(rs.length:Int),(0:Int),b00,b01,b02,b03,b04,b05,b07,(i:Int),b1,m0,m1,m2,rs,ws,z,())=some ((i:Int),t41,t42,b00,b01,b02,b03,b04,b05,b07,(i:Int),b1,m0,m1,m2,rs,ws,z,()):=by
 unfold QQ;delta l9 u8 bM bX;refine d9 (fun k:Nat=>((i:Int),t41,t42,(rs.length:Int),(k:Int),b00,b01,b02,b03,b04,b05,b07,(i:Int),b1,m0,m1,m2,rs,ws,z,())) rs.length rfl ?_ ?_ atU
 .intro k hk;have hx:=ba hk;have hg:gt cF rs (k:Int)=rs[k]:=bI (σ:=cF) hx;have e1:wj ((gt cF rs (k:Int)).2.1,())=some ((gt cF rs (k:Int)).2.1,()):=oA (by rw[hg];exact IS (hrr _ (By hk)) atS);have e:∀(p q:Int) (A:List cF.T),p=q->A=rs->(atY ((i:Int),t41,t42,(rs.length:Int),p,b00,b01,b02,b03,b04,b05,b07,(i:Int),b1,m0,m1,m2,A,ws,z,()):am GF Gy)=atY ((i:Int),t41,t42,(rs.length:Int),q,b00,b01,b02,b03,b04,b05,b07,(i:Int),b1,m0,m1,m2,rs,ws,z,()):=by rintro _ _ _ rfl rfl;rfl
  have hi:aw (k:Int) rs.length=true:=atT
  try dsimp only
  unfold GO;exact aR (aD (show(k:Int)<(rs.length:Int) by omega)) (aS (by show Nat.beq i i=true;simp) (aS (by show Nat.beq i i=true;simp) (aS hi (aB e1 (aS hi (e _ _ _ (dL atO atO) (Rk (σ:=cF) hk rfl rfl)))))))
 .try dsimp only
  unfold GO;exact ax (aF (show ¬(rs.length:Int)<(rs.length:Int) by omega)) rfl
theorem arx(hr:ws.length<=1000)(hrr:∀r∈ws,r.2.1.length<=100000/\r.2.2.1.length<=100000) :
  QP ((i:Int),t41,t42,(ws.length:Int),(0:Int),b00,b01,b02,b03,b04,b05,b07,(i:Int),b1,m0,m1,m2,rs,ws,z,())=some (t41,(t42,b00,b01,b02,b03,b04,b05,b07,(i:Int),b1,m0,m1,m2,rs,ws,z,()) ):=by
 unfold QP;delta l9 u8 bM bX;refine d9 (fun k:Nat=>((i:Int),t41,t42,(ws.length:Int),(k:Int),b00,b01,b02,b03,b04,b05,b07,(i:Int),b1,m0,m1,m2,rs,ws,z,())) ws.length rfl ?_ ?_ atU
 .intro k hk;have hx:=ba hk;have hg:gt bD ws (k:Int)=ws[k]:=bI (σ:=bD) hx;have hb:=hrr _ (By hk);have e1:wj ((gt bD ws (k:Int)).2.1,())=some ((gt bD ws (k:Int)).2.1,()):=oA (by rw[hg];exact IS hb.1 atS);have e2:wj ((gt bD ws (k:Int)).2.2.1,())=some ((gt bD ws (k:Int)).2.2.1,()):=oA (by rw[hg];exact IS hb.2 atS);have e:∀(p q:Int) (A:List bD.T),p=q->A=ws->(atY ((i:Int),t41,t42,(ws.length:Int),p,b00,b01,b02,b03,b04,b05,b07,(i:Int),b1,m0,m1,m2,rs,A,z,()):am GD Gx)=atY ((i:Int),t41,t42,(ws.length:Int),q,b00,b01,b02,b03,b04,b05,b07,(i:Int),b1,m0,m1,m2,rs,ws,z,()):=by rintro _ _ _ rfl rfl;rfl
  have hi:aw (k:Int) ws.length=true:=atT;have hs1:List.set ws (Int.toNat (k:Int)) (gt bD ws (k:Int))=ws:=Rk (σ:=bD) hk rfl rfl;have hs2:∀A:List bD.T,A=ws->List.set A (Int.toNat (k:Int)) ((gt bD A (k:Int)).1,(gt bD A (k:Int)).2.1,(gt bD ws (k:Int)).2.2.1,())=ws:=by rintro _ rfl;exact hs1
  try dsimp only
  unfold GN;exact aR (aD (show(k:Int)<(ws.length:Int) by omega)) (aS (by show Nat.beq i i=true;simp) (aS hi (aB e1 (aB e2 (aS (aD rfl) (e _ _ _ (dL atO atO) (hs2 _ hs1)))))))
 .try dsimp only
  unfold GN;exact ax (aF (show ¬(ws.length:Int)<(ws.length:Int) by omega)) rfl
end
theorem cl8{n:ak}(ft:Fit n)(b00:Int)(b01:jp)(b02:List af.T)(b03 b04 b05:jp)(b07:List af.T)(z:Int) :
  aeh (((n.ae.map aI).length:Int),(0:Int),b00,b01,b02,b03,b04,b05,b07,n.ae.map aI,z,())=some (b00,b01,b02,b03,b04,b05,b07,n.ae.map aI,z,()):=by
 have hL:(n.ae.map aI).length=n.ae.length:=aP ..;have hM:=ft.ae.1;unfold aeh;delta vm;refine d9 (fun k:Nat=>(((n.ae.map aI).length:Int),(k:Int),b00,b01,b02,b03,b04,b05,b07,n.ae.map aI,z,()) ) n.ae.length rfl ?_ ?_ atU
 .intro k hk;have hx:=ba hk;have hx':(n.ae.map aI)[k]?=some (aI n.ae[k]):=by rw[ct,hx];rfl
  have hf:=ft.ae.2 _ (By hk);generalize n.ae[k]=m at hx' hf;have hg:gt ah (n.ae.map aI) (k:Int)=aI m:=bI (σ:=ah) hx';have e1:Ph ((gt ah (n.ae.map aI) (k:Int)).2.2.2.1,())=some (m.reads.map fC,()):=by rw[hg];exact TX (by show(m.reads.map fC).length<=_;rw[aP];have:=hf.nH;omega)
  have e2:O1 ((gt ah (n.ae.map aI) (k:Int)).2.2.2.2.1,())=some (m.writes.map fy,()):=by rw[hg];exact TY (by show(m.writes.map fy).length<=_;rw[aP];have:=hf.tI;omega)
  have e13:=arw k ((n.ae.map aI).length:Int) (k:Int) b00 b01 b02 b03 b04 b05 b07 (n.ae.map aI) (gt ah (n.ae.map aI) (k:Int)).1 (gt ah (n.ae.map aI) (k:Int)).2.1 (gt ah (n.ae.map aI) (k:Int)).2.2.1 (m.reads.map fC) (m.writes.map fy) z (by rw[aP];have:=hf.nH;omega) (fun r hr=>by obtain⟨r2,hr2,rfl⟩:=ro.1 hr;have:=(hf.ig r2 hr2).1;show r2.addr.length<=_;omega);have e18:=arx k ((n.ae.map aI).length:Int) (k:Int) b00 b01 b02 b03 b04 b05 b07 (n.ae.map aI) (gt ah (n.ae.map aI) (k:Int)).1 (gt ah (n.ae.map aI) (k:Int)).2.1 (gt ah (n.ae.map aI) (k:Int)).2.2.1 (m.reads.map fC) (m.writes.map fy) z (by rw[aP];have:=hf.tI;omega) (fun r hr=>by obtain⟨r2,hr2,rfl⟩:=ro.1 hr;have:=hf.iX r2 hr2;exact⟨by show r2.addr.length<=_;omega,by show r2.data.length<=_;omega⟩);have e:∀(p q:Int) (A:List ah.T),p=q->A=n.ae.map aI->(atY (((n.ae.map aI).length:Int),p,b00,b01,b02,b03,b04,b05,b07,A,z,()) :am GI GC)=atY (((n.ae.map aI).length:Int),q,b00,b01,b02,b03,b04,b05,b07,n.ae.map aI,z,()) :=by rintro _ _ _ rfl rfl;rfl
  have hst:List.set (n.ae.map aI) (Int.toNat (k:Int)) ((gt ah (n.ae.map aI) (k:Int)).1,(gt ah (n.ae.map aI) (k:Int)).2.1,(gt ah (n.ae.map aI) (k:Int)).2.2.1,m.reads.map fC,m.writes.map fy,())=n.ae.map aI:=Rk (σ:=ah) atO (by rw[hg];rfl) rfl;have hi:aw (k:Int) (List.length (n.ae.map aI))=true:=atT;have nn:nQ (Int.toNat (k:Int)) (Int.toNat (k:Int))=true:=aD rfl;have nb:Nat.beq (Int.toNat (k:Int)) (Int.toNat (k:Int))=true:=atQ
  try dsimp only
  unfold GU;refine aR (aD (show(k:Int)<((n.ae.map aI).length:Int) by omega)) (aS hi (aB e1 (aS nn (aS nn (aS nn (aS nn (aS nn (aS (yZ (fun x=>Sh.zz x) _) (aB e2 (aS nn (aS nn (aS nn (aS nb (aS nb (aB e13 (aS nb (aB e18 (e _ _ _ (dL (show(k:Int)+1=((k+1:Nat):Int) by omega) atO) hst))))))))))))))))))
 .try dsimp only
  unfold GU;exact ax (aF (show ¬(n.ae.length:Int)<((n.ae.map aI).length:Int) by omega)) rfl
theorem aiv{n:ak}(ft:Fit n):aqO (bW n,())=some (bW n,()):=by have e1:=oA (L:=n.al) (by have:=ft.ins.1;omega);have e2:=oA (L:=n.aZ) (by have:=ft.out.1;omega);have e3:=oA (L:=n.aN) (by have:=ft.bad.1;omega);have e4:=oA (L:=n.constraints) (by have:=ft.gG.1;omega);have e5:=TV (L:=n.ag.map bq) (by rw[aP];have:=ft.aJ.1;omega);have e6:=TU (L:=n.aj.map bc) (by rw[aP];have:=ft.aj.1;omega);have e7:=TW (L:=n.ae.map aI) (by rw[aP];have:=ft.ae.1;omega);have e8:=cl8 ft n.vars n.al (n.ag.map bq) n.aZ n.aN n.constraints (n.aj.map bc) (0:Int);exact aB e1 (aB e2 (aB e3 (aB e4 (aB e5 (aB e6 (aB e7 (aB e8 rfl)))))))
theorem alE(n:ak)(cs:List (List bA))(h:cs.length=n.ae.length):mD (n.ae.map aI) cs (n.ae.map aI).length=dK n cs:=by
 refine arW fun i=>?_;rcases arm i n.ae.length with q|q
 .have hm:=ba q;have hc:=ast (l:=cs) (i:=i) atO;have hm':(n.ae.map aI)[i]?=some (aI n.ae[i]):=by rw[ct,hm];rfl
  rw[Hb hm hc];unfold mD;rw[ct,arT (by rw[aP];exact q)];have g1:gt ah (n.ae.map aI) (i:Int)=aI n.ae[i]:=bI (σ:=ah) hm';have g2:gt (.sl bk) cs (i:Int)=cs[i]:=bI (σ:=.sl bk) hc;show some (pS (gt ah (n.ae.map aI) (i:Int)).1 (gt ah (n.ae.map aI) (i:Int)).2.1 (gt (.sl bk) cs (i:Int)))=_;rw[g1,g2];rfl
 .have h1:(dK n cs)[i]?=none:=abs (by rw[GZ h];exact q);have h2:(mD (n.ae.map aI) cs (n.ae.map aI).length)[i]?=none:=abs (by unfold mD;rw[aP,asO,aP];exact q);exact h2.trans h1.symm
theorem ae0{x k:Int}(h0:0<=x)(h:nM x k=true):x<2^k.toNat:=by unfold nM at h;have h:=aig h;have hp:(0:Int)<2^k.toNat:=Int.pow_pos atS;have e:=Int.emod_def x (2^k.toNat);rw[h,Int.mul_zero,Int.sub_zero]at e;have:=Int.emod_lt_of_pos x hp;omega
variable{c:List bA}
theorem zC{i:Nat}{p:bA}(h:c[i]?=some p):jT c (i:Int)=p.1/\m9 c (i:Int)=p.2.1:=by have g:gt bk c (i:Int)=p:=bI (σ:=bk) h;unfold jT m9;rw[g];exact⟨rfl,rfl⟩
theorem art{m:cf}(h:nF m.addr m.word c=true)(ok:T5 c):pW m 4096 c:=by
 unfold nF at h;simp only[act,IR]at h;obtain⟨⟨⟨⟨⟨h1,h2⟩,h3⟩,h4⟩,h5⟩,h6⟩:=h;have hs:=aam h6;have h6':∀i,i<c.length->na m.addr m.word c i=true:=fun i hi=>In.1 h6 i (Id.2 hi);have hc:∀p∈c,(0<=p.1/\p.1<2^m.addr.toNat)/\0<p.2.1/\p.2.1<2^m.word.toNat:=by intro p hp;obtain⟨i,hi⟩:=Fr hp;have hil:=jj hi;obtain⟨e1,e2⟩:=zC hi;have hb:=h6' i hil;obtain⟨o1,o2⟩:=ok i hil;unfold na at hb;simp only[act,atH,ate]at hb;obtain⟨⟨⟨b1,b2⟩,b3⟩,_⟩:=hb;rw[e1]at o1 b2;rw[e2]at o2 b1 b3;exact⟨⟨o1.1,ae0 o1.1 b2⟩,atO,ae0 o2.1 b3⟩
 refine⟨?_,h5,fun p hp=>(hc p hp).1,fun p hp=>(hc p hp).2⟩;refine asb.2 fun i j hi hj hij=>?_;have:=hs j hj i hij;rw[(zC (ba hi)).1,(zC (ba hj)).1]at this;exact this
theorem aeX{n:ak}{ls:md}{cs:List (List bA)}(h:lu (bW n) (ls,cs,())=true)(ok:tF cs):nR n 4096 ls cs:=by
 unfold lu at h;simp only[act,IR]at h;obtain⟨⟨h1,h2⟩,h3⟩:=h;have h1':ls.length=n.ag.length:=h1.trans (aP ..);have h2':cs.length=n.ae.length:=h2.trans (aP ..);refine⟨h1',h2',fun i m c hm hc=>?_⟩;have hil:=jj hm;have h3':∀i,i<(n.ae.map aI).length->sc (n.ae.map aI) cs i=true:=by have h3:(List.range (n.ae.map aI).length).all (sc (n.ae.map aI) cs)=true:=h3;exact fun i hi=>In.1 h3 i (Id.2 hi)
 have hp:=h3' i (by rw[aP];exact hil);unfold sc at hp;have hm':(n.ae.map aI)[i]?=some (aI m):=by rw[ct,hm];rfl
 have g1:gt ah (n.ae.map aI) (i:Int)=aI m:=bI (σ:=ah) hm';have g2:gt (.sl bk) cs (i:Int)=c:=bI (σ:=.sl bk) hc;rw[g1,g2]at hp;exact art hp (ok c (dy hc))
theorem G7{n:ak}(h:Pl.eZ n=0):∃V,bR n V/\cZ n=0/\n.vars.toNat=V/\dT (aY n) V=true:=by
 unfold Pl.eZ at h;by_cases h0:cZ n=0
 .obtain⟨V,hs⟩:=zd h0;have hV:n.vars.toNat=V:=by rw[hs.vars];rfl
  rw[BT (by simpa using h0),hV]at h;refine⟨V,hs,h0,hV,?_⟩;cases q:dT (aY n) V
  .rw[q]at h;simp at h
  .rfl
 .rw[IO h0]at h;exact absurd h h0
section
variable{n:ak}(ft:Fit n)(ls:md)(cs:List (List bA))
include ft
theorem arl:Zq8 (nt n (ls,cs,()))=some (match lu (bW n) (ls,cs,())with|true=>((0:Int),mD (n.ae.map aI) cs (n.ae.map aI).length,())|false=>((14:Int),[],())):=ae3 (bW n) (ls,cs,()) (by show(n.ae.map aI).length<=_;rw[aP];have:=ft.ae.1;omega)
theorem alu(h:Pl.eZ n=0)(hf:lu (bW n) (ls,cs,())=true)(hb:ls.length<=1000000):ap9 (nt n (ls,cs,()))=atZ ((0:Int),mc n (cG n n.vars.toNat) ls (dK n cs) ()):=by
 obtain⟨V,hs,h0,hV,ha⟩:=G7 h;have eo:=aeB hs ft h0;rw[IO ha]at eo;rw[hV];have el:=arl ft ls cs;rw[hf]at el;have hcs:cs.length=n.ae.length:=by unfold lu at hf;simp only[act,IR]at hf;exact hf.1.2.trans (aP ..)
 have hr:=alE n cs hcs;have e:∀R R':List fD,R=R'->(atZ ((0:Int),mc n (cG n V) ls R ()):Option (Out GS))=atZ ((0:Int),mc n (cG n V) ls R' ()):=by rintro _ _ rfl;rfl
 exact aB (th ft) (ax (by rw[h];rfl) (aB el (ax rfl (aB eo (aB (aiv ft) (aB (clB (L:=ls) hb) (aS (yZ (fun x=>Sh.zz x) _) (e _ _ hr))))))))
end
abbrev qj:=md×List (List bA)
abbrev qT:=md×Bool×Unit
def kH(n:ak)(s:qj)(x:md):qj:=(jI n (cz n s.1 s.2 x),jY n s.2 (cz n s.1 s.2 x))
def tD(n:ak)(s:qj)(x:md):qT:=(lj n (cz n s.1 s.2 x),kh n (cz n s.1 s.2 x),())
theorem alH(P:List qT)(z:qT)(h:P.length<=10000000):room 32 (List.length (P++(z::[])))=true:=by rw[bU,di,IT];exact uE atO atO
section
variable{n:ak}(ft:Fit n)
include ft
theorem aeG:List.length (bW n).2.2.1<=100000/\List.length (bW n).2.2.2.2.2.2.1<=100000:=⟨by show(n.ag.map bq).length<=_;rw[aP];have:=ft.aJ.1;omega,by show(n.ae.map aI).length<=_;rw[aP];have:=ft.ae.1;omega⟩
theorem ft':Fit (d8 (bW n)):=by rw[lZ];exact ft
end
theorem ajX{n:ak}{ls:md}{cs:List (List bA)}(h:Pl.eZ n=0)(hf:lu (bW n) (ls,cs,())=true):jG (bW n) (ls,cs,())=0:=by unfold jG;rw[lZ,BT (fun q=>q h),hf]
