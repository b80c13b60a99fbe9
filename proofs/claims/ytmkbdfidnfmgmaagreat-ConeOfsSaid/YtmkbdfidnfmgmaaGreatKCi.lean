import Derived.Test.YtmkbdfidnfmgmaaGreatKCf
import Derived.Test.YtmkbdfidnfmgmaaGreatKCh
set_option linter.all false
section
namespace Go.Proofs.YtmkbdfidnfmgmaaGreat.V
open Go Go.RowKit Go.Proofs.YtmkbdfidnfmgmaaGreat.Pl
set_option maxRecDepth 10000
theorem amV(R:aB)(hR:R.ag.length<=2000)(ts:jp):Kx ((0:Int),(0:Int),(0:Int),ts,dL R (R.ag.map aL,()))=some ((0:Int),(0:Int),ts,dL R ((R.ag.map fw).map aL,())):=by
 unfold Kx;delta bV;refine cO (fun k:Nat=>((0:Int),(k:Int),(0:Int),ts,dL R (((R.ag.take k).map fw++R.ag.drop k).map aL,()))) R.ag.length rfl ?_ ?_ auh
 .intro k hk;unfold dL
  try dsimp only
  unfold BC;have hg:=bA hk;obtain⟨a,ha⟩:∃a,a=R.ag[k]:=⟨_,rfl⟩;rw[<-ha]at hg;have hlen:((R.ag.take k).map fw++R.ag.drop k).length=R.ag.length:=by rw[bF,aG,dK,asR];omega
  have hX:(((R.ag.take k).map fw++R.ag.drop k).map aL)[k]?=some (aL a):=by rw[cW,In (by rw[aG,dK];omega),aG,dK,asO (asZ hk),Nat.sub_self,atE,atf,hg];rfl
  obtain⟨X,hXX⟩:∃X,X=((R.ag.take k).map fw++R.ag.drop k).map aL:=⟨_,rfl⟩;have hXl:X.length=R.ag.length:=by rw[hXX,aG,hlen]
  have hup:X.set k (aL (fw a))=((R.ag.take (k+1)).map fw++R.ag.drop (k+1)).map aL:=by rw[hXX,<-abe fw hg,List.map_set]
  rw[<-hXX]at hX |-;rw[<-hup];have ek:pu ((k:Int)+1)=((k+1:Nat):Int):=auk;have aS:an (k:Int) X.length=true:=aug;refine(bR (aF (show(k:Int)<(X.length:Int) by omega))).trans ((aW aS).trans ((aW aS).trans ?_));have hmx:=aa6 a.a a.b;have hmi:=aa7 a.a a.b;have fin:∀(b b':Int) (y y':ae.T),b=b'->y=y'->(aul ((0:Int),b,(0:Int),ts,dL R (X.set k y,())):am AF Ah)=aul ((0:Int),b',(0:Int),ts,dL R (X.set k y',())):=by rintro _ _ _ _ rfl rfl;rfl
  refine fin _ _ _ _ ek ?_;rw[bz hX];show((a.var,fD (iL a.a a.b) a.b a.a,fD (iL a.b a.a) a.b a.a,()):ae.T)=(a.var,max a.a a.b,min a.a a.b,());rw[hmx,hmi];rfl
 .unfold dL
  try dsimp only
  unfold BC;rw[cV,List.drop_length,di];refine(bC (aJ (show ¬(R.ag.length:Int)<(((R.ag.map fw).map aL).length:Int) by rw[aG,aG];omega))).trans rfl
section
variable{n:aB}{V:Nat}(hs:cA n V)(h0:da n=0)(ha:dO (bh n) V=true)
include hs h0 ha
theorem ajO:Wb (dn n,())=some (dn (oK n V),jI n V,(0:Int),()):=by
 have hV2:=hs.v2;have hvars:=hs.vars;have ft:=pz hs;have S:=og hs ha;have hfine:=(uA hs ha h0).1;have hcons:=E1 hs ha h0;have hsck:=Z6 hs ha h0;have hDr:=S.eJ;have hDl:(bp (fY n V)).length<=V:=(sD V _ S.nodup S.eJ).1;obtain⟨O,hO⟩:∃O,O=kH n V:=⟨_,rfl⟩;have hOl:O.length<=9000000:=by rw[hO];exact afU hs
 have hSK:∀k,(gL n V k).length<=9000000:=fun k=>by unfold gL;rw[aG];refine EQ List.filter_sublist.length_le ?_;rw[dK,<-hO];omega
 have eO:=arB hs ft h0;rw[IO ha,<-hO]at eO;have e7:KT (O.map bB,(0:Int),nt n ((0:Int),dL n ([],())))=some (nt n ((0:Int),dL n ((eZ n V).map aL,()))):=by
  unfold KT;delta nq u7 bV cy;refine cO (fun k:Nat=>(O.map bB,(k:Int),nt n ((0:Int),dL n ((gL n V k).map aL,())))) O.length rfl ?_ ?_ auh
  .intro k hk;unfold nt dL
   try dsimp only
   unfold B8;have hg:=bA hk;obtain⟨x,hx⟩:∃x,x=O[k]:=⟨_,rfl⟩;rw[<-hx]at hg;have hg':(O.map bB)[k]?=some (bB x):=by rw[cW,hg];rfl
   have hOm:(O.map bB).length=O.length:=aG _;have ek:pu ((k:Int)+1)=((k+1:Nat):Int):=auk;have aS:an (k:Int) (List.length (O.map bB))=true:=aP ⟨auc,by rw[hOm];omega⟩;have fin:∀(b b':Int) (L L':List ae.T),b=b'->L=L'->(aul (O.map bB,b,nt n ((0:Int),dL n (L,()))):am vZ vX)=aul (O.map bB,b',nt n ((0:Int),dL n (L',()))):=by rintro _ _ _ _ rfl rfl;rfl
   refine(bR (aF (show(k:Int)<((O.map bB).length:Int) by omega))).trans ((aW aS).trans ?_);rw[bz (σ:=bT) hg'];have hgO:(kH n V)[k]?=some x:=by rw[<-hO];exact hg
   have his:=uO n (afT (d5 hgO));rcases his with⟨h1,a,h2,h3⟩|⟨h1,_⟩
   .have h2':(n.ag.map aL)[x.1.pos]?=some (aL a):=by rw[cW,h2];rfl
    have hpl:=(rg.1 h2).1;refine(bR (show Bool.not (bB x).1=true from OF Bool.not h1)).trans ((aW aS).trans ((aW (aP ⟨by show(0:Int)<=(x.1.pos:Int);omega,by show(x.1.pos:Int)<((List.length (n.ag.map aL):Nat):Int);rw[aG];omega⟩)).trans ?_));have hgt:gt ae (n.ag.map aL) ((bB x).2.2.1)=aL a:=bz h2';have hsk:gL n V (k+1)=gL n V k++[a]:=by unfold gL;rw[cK hgO,are,asq,IO (by rw[h1];rfl),atg,cH,UV,asr,ff,h2];rfl
    have key:∀y:ae.T,y=aL a->(aj (room 24 (List.length ((gL n V k).map aL++(Hu y::[])))) <|(aul (O.map bB,(pu ((k:Int)+1)),nt n ((0:Int),dL n ((gL n V k).map aL++(Hu y::[]),()))):am vZ vX))=aul (O.map bB,((k+1:Nat):Int),nt n ((0:Int),dL n ((gL n V (k+1)).map aL,()))):=by rintro _ rfl;rw[aW (eX (by rw[aG];have:=hSK k;omega) auc)];exact fin _ _ _ _ ek (by rw[hsk,cH];rfl)
    exact key _ hgt
   .refine(bC (show Bool.not (bB x).1=false from OF Bool.not h1)).trans ?_;exact fin _ _ _ _ ek (by
     have hsk:gL n V (k+1)=gL n V k:=by unfold gL;rw[cK hgO,are,asq,Fr (by rw[h1];simp),atg,di]
     rw[hsk])
  .unfold nt dL
   try dsimp only
   unfold B8;have:gL n V O.length=eZ n V:=by unfold gL eZ;rw[hO,cV]
   rw[this];refine(bC (aJ (show ¬(O.length:Int)<((O.map bB).length:Int) by rw[aG];omega))).trans rfl
 obtain⟨D,hD⟩:∃D,D=bp (fY n V):=⟨_,rfl⟩;have eD:JZ (dL n ((eZ n V).map aL,()))=some ((eZ n V).map aL,D,()):=by
  have h1:cA { fY n V with vars:=(V:Int) } V:=by
   have:({ fY n V with vars:=(V:Int) }:aB)=fY n V:=by rw[<-S.vars]
   rw[this];exact S
  rw[hD];exact akL h1 hfine
 rw[<-hD]at hDr hDl;obtain⟨ts,hts⟩:∃ts,ts=jI n V:=⟨_,rfl⟩;rw[<-hts]at hfine hcons;have hts2:ts=fB (List.replicate (V+1) 0) 1 D:=by rw[hts,hD];rfl
 have e14:BD ((0:Int),(0:Int),dL n ((eZ n V).map aL,D,List.replicate (V+1) (0:Int),()))=some ((0:Int),dL n ((eZ n V).map aL,ts,())):=by
  rw[hts2];unfold BD;delta bV;refine cO (fun k:Nat=>((k:Int),(0:Int),dL n ((eZ n V).map aL,D,fB (List.replicate (V+1) 0) 1 (D.take k),()))) D.length rfl ?_ ?_ auh
  .intro k hk;unfold dL
   try dsimp only
   unfold BB;have hg:=bA hk;obtain⟨r1,r2⟩:=hDr _ (ut hk);have ek:pu ((k:Int)+1)=((k+1:Nat):Int):=auk;have fin:∀(b b':Int) (L L':jp),b=b'->L=L'->(aul (b,(0:Int),dL n ((eZ n V).map aL,D,L,())):am AE Ag)=aul (b',(0:Int),dL n ((eZ n V).map aL,D,L',())):=by rintro _ _ _ _ rfl rfl;rfl
   refine(bR (aF (show(k:Int)<(D.length:Int) by omega))).trans ?_;rw[aW aug,bz (σ:=.I) hg,aW (aP ⟨auc,by rw[oe,fx];omega⟩)];refine fin _ _ _ _ ek ?_;rw[cK hg,wX,dK,asO (asZ hk),ek,show(1:Int)+(k:Int)=((k+1:Nat):Int) by omega];rfl
  .unfold dL
   try dsimp only
   unfold BB;refine(bC (aJ (show ¬(D.length:Int)<(D.length:Int) by omega))).trans ?_;rw[cV];rfl
 have eR:=ajU S hfine hsck hcons;have hRl:(j4 n V).ag.length<=2000:=by show((eZ n V).map _).length<=2000;rw[aG];exact S.lens.2.2.1
 have e19:=amV (j4 n V) hRl ts;have hnR:j4 n V=eS ts (fY n V):=by unfold j4;rw[hts]
 have w1:pu (n.vars+1)=((V+1:Nat):Int):=by rw[hvars];exact auk
 show Lh ID ae8 Wg JZ KT BD Kx (dn n)=_;unfold Lh;refine(bg eO).trans ((bC rfl).trans ((bg e7).trans ((bg eD).trans ?_)));have ew:∀z:Int,z=((V+1:Nat):Int)->both (iE (0:Int) z) (both (iE z z) (iE ((Int.ofNat 8)*z) (281474976710656:Int)))=true:=by rintro _ rfl;exact nC auj (aF (atm _)) (aF (by show(8:Int)*((V+1:Nat):Int)<=_;omega))
 have e14':∀L:jp,L=List.replicate (V+1) (0:Int)->BD ((0:Int),(0:Int),dL n ((eZ n V).map aL,D,L,()))=some ((0:Int),dL n ((eZ n V).map aL,ts,())):=by rintro _ rfl;exact e14
 rw[hnR]at e19;refine(aW (ew _ w1)).trans ((bg (e14' _ (OF (fun z:Int=>List.replicate z.toNat (0:Int)) w1))).trans ((bg eR).trans ((bg e19).trans ?_)));rw[<-hts];show some ((n.vars,_,_,_,_,_,_,((eS ts (fY n V)).ag.map fw).map aL,()),ts,(0:Int),())=_;rw[<-hnR];rfl
end
section
variable{n:aB}{V:Nat}(hs:cA n V)(h0:da n=0)(ha:dO (bh n) V=true){s:S2}(M:jk n V s)
include hs h0 ha M
theorem ajP:ahC (dn n,dn { cz n s with vars:=0 },())=some (dn (pG n s V),()):=by
 have hV2:=hs.v2;have P:=uB hs M;obtain⟨D,hD⟩:∃D,D=dF n s:=⟨_,rfl⟩;have hDr:∀v∈D,1<=v/\v<=(V:Int):=fun v hv=>by rw[hD]at hv;exact hs.eJ v ((qM n s).subset hv)
 have hDl:D.length<=V:=by rw[hD];exact Fe hs M
 have P0:cA { ({ cz n s with vars:=(0:Int) }:aB)with vars:=(V:Int) } V:=by
  have:({ cz n s with vars:=(V:Int) }:aB)=cz n s:=by rw[<-P.vars]
  show cA { cz n s with vars:=(V:Int) } V;rw[this];exact P
 have P1:cA { ({ cz n s with vars:=(D.length:Int) }:aB)with vars:=(V:Int) } V:=P0;have F0:=sI hs (s:=s);have eD:=aaU P0 F0;have hDD:bp { cz n s with vars:=(0:Int) }=D:=by rw[hD];rfl
 rw[hDD]at eD;obtain⟨ts,hts⟩:∃ts,ts=zu n s V:=⟨_,rfl⟩;have hts2:ts=fB (List.replicate (V+1) 0) 1 D:=by rw[hts,hD];rfl
 have hb:Im ts V:=by
  refine⟨by rw[hts2,oe,fx],fun v v0 v1=>?_⟩;obtain⟨k,rfl⟩:=By v0;rw[ot,hts2];by_cases q:((k:Nat):Int)∈D
  .obtain⟨i,hi,e⟩:=ash q;have hn:D.Nodup:=by rw[hD];exact hs.nodup.sublist (qM n s)
   have:=E9 D (List.replicate (V+1) 0) 1 i ((k:Nat):Int) hn (fun x hx=>by have:=hDr x hx;rw[fx];omega) (by rw[bA hi,e]);rw[this];omega
  .have:=ur D (List.replicate (V+1) 0) 1 ((k:Nat):Int).toNat (fun x hx e=>by have:=hDr x hx;exact q (by rw[show((k:Nat):Int)=x by omega];exact hx));rw[this,ff,ati];split<;>simp
 have e4:Cj (D,(0:Int),nt { cz n s with vars:=(0:Int) } ((0:Int),List.replicate (V+1) (0:Int),()))=some (D,nt { cz n s with vars:=(0:Int) } ((0:Int),ts,())):=by
  rw[hts2];unfold Cj;delta bV;refine cO (fun k:Nat=>(D,(k:Int),nt { cz n s with vars:=(0:Int) } ((0:Int),fB (List.replicate (V+1) 0) 1 (D.take k),()))) D.length rfl ?_ ?_ auh
  .intro k hk;unfold nt
   try dsimp only
   unfold Ci;have hg:=bA hk;obtain⟨r1,r2⟩:=hDr _ (ut hk);have ek:pu ((k:Int)+1)=((k+1:Nat):Int):=auk;have fin:∀(b b':Int) (L L':jp),b=b'->L=L'->(aul (D,b,nt { cz n s with vars:=(0:Int) } ((0:Int),L,())):am Bh AO)=aul (D,b',nt { cz n s with vars:=(0:Int) } ((0:Int),L',())):=by rintro _ _ _ _ rfl rfl;rfl
   refine(bR (aF (show(k:Int)<(D.length:Int) by omega))).trans ?_;rw[aW aug,bz (σ:=.I) hg,aW (aP ⟨auc,by rw[oe,fx];omega⟩)];refine fin _ _ _ _ ek ?_;rw[cK hg,wX,dK,asO (asZ hk),ek,show(1:Int)+(k:Int)=((k+1:Nat):Int) by omega];rfl
  .unfold nt
   try dsimp only
   unfold Ci;refine(bC (aJ (show ¬(D.length:Int)<(D.length:Int) by omega))).trans ?_;rw[cV];rfl
 have eR:K6 (dn { cz n s with vars:=(D.length:Int) },ts,())=some (dn (lH n s V),()):=by rw[ajV P1 F0 hb,<-akD hs M h0,<-hts,<-hD];rfl
 have hsm:=uw hs M h0;have eN:=ajO hsm (wO hs M h0) (EW hs h0 ha M);have w1:pu (n.vars+1)=((V+1:Nat):Int):=by rw[hs.vars];exact auk
 have ew:∀z:Int,z=((V+1:Nat):Int)->both (iE (0:Int) z) (both (iE z z) (iE ((Int.ofNat 8)*z) (281474976710656:Int)))=true:=by rintro _ rfl;exact nC auj (aF (atm _)) (aF (by show(8:Int)*((V+1:Nat):Int)<=_;omega))
 have e4':∀L:jp,L=List.replicate (V+1) (0:Int)->Cj (D,(0:Int),nt { cz n s with vars:=(0:Int) } ((0:Int),L,()))=some (D,nt { cz n s with vars:=(0:Int) } ((0:Int),ts,())):=by rintro _ rfl;exact e4
 show Ls Wb K6 Ks Cj (dn n) (dn { cz n s with vars:=(0:Int) })=_;unfold Ls;exact(bg eD).trans ((aW (ew _ w1)).trans ((bg (e4' _ (OF (fun z:Int=>List.replicate z.toNat (0:Int)) w1))).trans ((bg eR).trans ((bg eN).trans rfl))))
end
variable{m:kw}
theorem qK{ls:jp}(h:∀l∈ls,0<=l/\l / 2<(m.length:Int))(hn:ls.length<=1000000)(hm:m.length<=400000):mD (ls,m,())=some (du m ls,()):=by
 have e:XP (ls,(0:Int),m,())=some (du m ls,()):=by
  unfold XP;delta u3;refine cO (fun k:Nat=>(ls,(k:Int),du m (ls.take k),())) ls.length rfl ?_ ?_ auh
  .intro k hk
   try dsimp only
   unfold Da;have hg:=bA hk;obtain⟨h1,h2⟩:=h _ (ut hk);obtain⟨u,hu⟩:=By (show 0<=ls[k] / 2 by omega);have hut:(ls[k] / 2).toNat=u:=auc
   have hu:ls[k] / 2=(u:Int):=hu;have ek:pu ((k:Int)+1)=((k+1:Nat):Int):=auk;have fin:∀(b b':Int) (L L':kw),b=b'->L=L'->(aul (ls,b,L,()):am Ch BM)=aul (ls,b',L',()):=by intros;subst_vars;rfl
   have hsn:du m (ls.take (k+1))=o9 (du m (ls.take k)) ls[k]:=by rw[cK hg,sG];rfl
   refine(bR (aF (show(k:Int)<((ls.length:Nat):Int) by omega))).trans ((aW aug).trans ?_);rw[bz (σ:=.I) hg];refine(bg (abk ⟨h1,auc⟩ hu)).trans ?_;by_cases q:0<ls[k] / 2
   .refine(bR auj).trans ((aW (aP ⟨auc,by rw[Pl.jv];omega⟩)).trans ?_);refine fin _ _ _ _ ek ?_;rw[hsn];unfold o9;rw[IO q,hut];rfl
   .refine(bC aui).trans ?_;refine fin _ _ _ _ ek ?_;rw[hsn];unfold o9;rw[Fr q]
  .try dsimp only
   unfold Da;rw[cV];exact(bC (aJ (show ¬((ls.length:Nat):Int)<((ls.length:Nat):Int) by omega))).trans rfl
 exact(bg e).trans rfl
theorem rounds_succ(n:aB):∀(k:Nat) (s:S2),jw n (k+1) s=j9 n (jw n k s)
 |0,s=>rfl|k+1,s=>by show jw n (k+1) (j9 n s)=j9 n (jw n k (j9 n s));exact rounds_succ n k (j9 n s)
abbrev dV{α:Type}(n:aB)(s:S2)(r:α):=nt n (s.1,s.2,r)
section
variable{n:aB}{V:Nat}(hs:cA n V)(N6:List bT.T)(r:Int)
include hs
theorem anF{s:S2}(hl:s.1.length=V+1):C9 (N6,r,(0:Int),dV n s ())=some (N6,r,dV n ((n.ah.map cT.aT).foldl cT.run s) ()):=by
 have hll:=hs.lens.2.1;unfold C9;delta iT u1 bV cy;refine cO (fun k:Nat=>(N6,r,(k:Int),dV n (((n.ah.take k).map cT.aT).foldl cT.run s) ())) n.ah.length rfl ?_ ?_ auh
 .intro k hk;have hg:=bA hk;obtain⟨l,hl2⟩:∃l,l=n.ah[k]:=⟨_,rfl⟩;rw[<-hl2]at hg;have hlm:=d5 hg;have hg':(n.ah.map aX)[k]?=some (aX l):=by rw[cW,hg];rfl
  have hr:=hs.eJ l.var (by unfold bp;simp only[qr,rt];exact .inl (.inl (.inr ⟨l,hlm,rfl⟩)));have hx:=hs.lits l.next (by unfold cL;grind);have hle:=oh ((n.ah.take k).map cT.aT) s;have hsn:((n.ah.take (k+1)).map cT.aT).foldl cT.run s=cT.run (((n.ah.take k).map cT.aT).foldl cT.run s) (.aT l):=by rw[cK hg,cH,aso];rfl
  rw[hsn];obtain⟨t,ht⟩:∃t,t=((n.ah.take k).map cT.aT).foldl cT.run s:=⟨_,rfl⟩;rw[<-ht]at hle |-;have htl:t.1.length=V+1:=by rw[<-hle.l1];exact hl
  unfold dV nt
  try dsimp only
  unfold C6;rw[Fa];have ek:pu ((k:Int)+1)=((k+1:Nat):Int):=auk;have fin:∀(b b':Int) (u u':S2),b=b'->u=u'->(aul (N6,r,b,dV n u ()):am Cf BK)=aul (N6,r,b',dV n u' ()):=by rintro _ _ _ _ rfl rfl;rfl
  refine(bR (aF (show(k:Int)<((List.length (n.ah.map aX):Nat):Int) by rw[aG];omega))).trans ((aW (aP ⟨auc,by rw[aG];omega⟩)).trans ?_);rw[bz hg'];refine(aW (aP ⟨by show 0<=l.var;omega,by show l.var<_;omega⟩)).trans ?_;cases q:t.1.getD l.var.toNat false with|true=>refine(bR (show gt .bool t.1 (aX l).1=true from q)).trans ((aW (aP ⟨auc,by rw[aG];omega⟩)).trans ((bg (qK (ls:=[l.next]) (m:=t.1) (fun y hy=>by rw[GE.1 hy];omega) aue (by have:=hs.v2;omega))).trans ?_));exact fin _ _ (du t.1 [l.next],t.2) _ ek rfl|false=>refine(bC (show gt .bool t.1 (aX l).1=false from q)).trans ?_;exact fin _ _ t _ ek rfl
 .unfold dV nt
  try dsimp only
  unfold C6;rw[cV];refine(bC (aJ (show ¬((n.ah.length:Nat):Int)<((List.length (n.ah.map aX):Nat):Int) by rw[aG];omega))).trans rfl
theorem amy{k:Nat}{x:cU×cg}(hx:(n6 n)[k]?=some x){s:S2}(hl:s.1.length=V+1)(hl2:s.2.length=n.af.length):CK ((n6 n).map bB,r,(k:Int),(0:Int),dV n s ())=some ((n6 n).map bB,r,(k:Int),dV n ((x.2.to.map (cT.iS x)).foldl cT.run s) ()):=by
 have hv2:=hs.v2;have hxm:=d5 hx;have hxI:x.2∈dt n:=by rw[<-rm];exact AT hxm
 have hxi:=uO n hxm;have hkl:=(rg.1 hx).1;have hx':((n6 n).map bB)[k]?=some (bB x):=by rw[cW,hx];rfl
 have hlens:=vN hs hxI;have aS:an (k:Int) (List.length ((n6 n).map bB))=true:=aP ⟨auc,by rw[aG];omega⟩;unfold CK;delta gA u2 bV cy;refine cO (fun j:Nat=>((n6 n).map bB,r,(k:Int),(j:Int),dV n (((x.2.to.take j).map (cT.iS x)).foldl cT.run s) ())) x.2.to.length rfl ?_ ?_ auh
 .intro j hj;have hg:=bA hj;obtain⟨v,hv⟩:∃v,v=x.2.to[j]:=⟨_,rfl⟩;rw[<-hv]at hg;have hr:=hs.mI hxI (d5 hg);have hle:=oh ((x.2.to.take j).map (cT.iS x)) s;have hsn:((x.2.to.take (j+1)).map (cT.iS x)).foldl cT.run s=cT.run (((x.2.to.take j).map (cT.iS x)).foldl cT.run s) (.iS x v):=by rw[cK hg,cH,aso];rfl
  rw[hsn];obtain⟨t,ht⟩:∃t,t=((x.2.to.take j).map (cT.iS x)).foldl cT.run s:=⟨_,rfl⟩;rw[<-ht]at hle |-;have htl:t.1.length=V+1:=by rw[<-hle.l1];exact hl
  have htl2:t.2.length=n.af.length:=by rw[<-hle.l2];exact hl2
  unfold dV nt
  try dsimp only
  unfold CA;rw[xl,aW aS,bz hx'];have ek:pu ((j:Int)+1)=((j+1:Nat):Int):=auk;have fin:∀(b b':Int) (u u':S2),b=b'->u=u'->(aul ((n6 n).map bB,r,(k:Int),b,dV n u ()):am v8 v7)=aul ((n6 n).map bB,r,(k:Int),b',dV n u' ()):=by rintro _ _ _ _ rfl rfl;rfl
  have gv:gt .I (bB x).2.2.2.2.1 (j:Int)=v:=bz (σ:=.I) hg;refine(bR (aF (show(j:Int)<((x.2.to.length:Nat):Int) by omega))).trans ((aW aS).trans ((aW (aP ⟨auc,by show(j:Int)<((x.2.to.length:Nat):Int);omega⟩)).trans ?_));have key:∀z:Int,z=v->(aj (an z (List.length t.1))<|
    br (gt .bool t.1 z)
    (
     aj (an (k:Int) (List.length ((n6 n).map bB)))<|
     aA (mD ((bB x).2.2.2.1,t.1,())) fun x0=>
     aj (an (k:Int) (List.length ((n6 n).map bB)))<|
     br (bB x).1
     (
      aj (an (k:Int) (List.length ((n6 n).map bB)))<|
      aj (an (bB x).2.1 (List.length t.2))<|
      aul ((n6 n).map bB,r,(k:Int),(pu ((j:Int)+(1:Int))),dV n (x0.1,List.set t.2 (Int.toNat (bB x).2.1) true) ()))
     (
      aul ((n6 n).map bB,r,(k:Int),(pu ((j:Int)+(1:Int))),dV n (x0.1,t.2) ())))
    (
     (aul ((n6 n).map bB,r,(k:Int),(pu ((j:Int)+(1:Int))),dV n t ()):am v8 v7)))=aul ((n6 n).map bB,r,(k:Int),((j+1:Nat):Int),dV n (bif t.1.getD v.toNat false then(du t.1 x.2.bq,bif x.1.rd then t.2.set x.1.mem true else t.2)else t) ()):=by
   intro z hz;rw[hz,aW aug];cases q:t.1.getD v.toNat false with
   |false=>refine(bC (show gt .bool t.1 v=false from q)).trans ?_;exact fin _ _ t _ ek rfl|true=>
    refine(bR (show gt .bool t.1 v=true from q)).trans ((aW aS).trans ?_);refine(bg (qK (ls:=x.2.bq) (m:=t.1) (fun y hy=>by have:=hs.uT hxI hy;omega) auc auc)).trans ?_;rw[aW aS];cases q2:x.1.rd with
    |false=>refine(bC (show(bB x).1=false from q2)).trans ?_;exact fin _ _ (du t.1 x.2.bq,t.2) _ ek rfl|true=>
     have hml:x.1.mem<n.af.length:=by
      rcases hxi with⟨h,_⟩|⟨_,m,rr,h1,_⟩
      .rw[q2]at h;cases h
      .exact(rg.1 h1).1
     refine(bR (show(bB x).1=true from q2)).trans ((aW aS).trans ((aW (aP ⟨by show(0:Int)<=(x.1.mem:Int);omega,by show(x.1.mem:Int)<_;omega⟩)).trans ?_));exact fin _ _ (du t.1 x.2.bq,t.2.set x.1.mem true) _ ek rfl
  exact key _ gv
 .unfold dV nt
  try dsimp only
  unfold CA;rw[aW aS,bz hx',cV];exact(bC (aJ (show ¬((x.2.to.length:Nat):Int)<((x.2.to.length:Nat):Int) by omega))).trans rfl
theorem amx{s:S2}(hl:s.1.length=V+1)(hl2:s.2.length=n.af.length):CJ ((n6 n).map bB,r,(0:Int),dV n s ())=some ((n6 n).map bB,r,dV n (((n6 n).flatMap fun x=>x.2.to.map (cT.iS x)).foldl cT.run s) ()):=by
 have hnl:(n6 n).length<=9000000:=by
  have h:=zk hs;have:(n6 n).length=(bh n).length:=by rw[<-sY,aG]
  omega
 unfold CJ;delta iT u1 bV cy;refine cO (fun k:Nat=>((n6 n).map bB,r,(k:Int),dV n ((((n6 n).take k).flatMap fun x=>x.2.to.map (cT.iS x)).foldl cT.run s) ())) (n6 n).length rfl ?_ ?_ auh
 .intro k hk;have hg:=bA hk;have hle:=oh (((n6 n).take k).flatMap fun x=>x.2.to.map (cT.iS x)) s;have hsn:(((n6 n).take (k+1)).flatMap fun x=>x.2.to.map (cT.iS x)).foldl cT.run s=((n6 n)[k].2.to.map (cT.iS (n6 n)[k])).foldl cT.run ((((n6 n).take k).flatMap fun x=>x.2.to.map (cT.iS x)).foldl cT.run s):=by rw[cK hg,BT,aso,ww,NE,di]
  rw[hsn];obtain⟨t,ht⟩:∃t,t=(((n6 n).take k).flatMap fun x=>x.2.to.map (cT.iS x)).foldl cT.run s:=⟨_,rfl⟩;rw[<-ht]at hle |-;have e17:=amy hs r hg (s:=t) (by rw[<-hle.l1];exact hl) (by rw[<-hle.l2];exact hl2);unfold dV nt
  try dsimp only
  unfold Cz;have ek:pu ((k:Int)+1)=((k+1:Nat):Int):=auk;refine(bR (aF (show(k:Int)<((List.length ((n6 n).map bB):Nat):Int) by rw[aG];omega))).trans ((bg e17).trans ?_);have fin:∀(b b':Int) (u:S2),b=b'->(aul ((n6 n).map bB,r,b,dV n u ()):am BF Bd)=aul ((n6 n).map bB,r,b',dV n u ()):=by intros;subst_vars;rfl
  exact fin _ _ _ ek
 .unfold dV nt
  try dsimp only
  unfold Cz;rw[cV];exact(bC (aJ (show ¬((n6 n).length:Int)<((List.length ((n6 n).map bB):Nat):Int) by rw[aG];omega))).trans rfl
theorem amA{j:Nat}{M:cC}(hM:n.af[j]?=some M)(ms:kw)(hl:m.length=V+1):CM (N6,r,(j:Int),(0:Int),dV n (m,ms) ())=some (N6,r,(j:Int),dV n (du m (M.reads.flatMap (·.addr)),ms) ()):=by
 have hv2:=hs.v2;have hMm:=d5 hM;have hsm:=hs.af M hMm;have hjl:=(rg.1 hM).1;have hM':(n.af.map aM)[j]?=some (aM M):=by rw[cW,hM];rfl
 have aS:an (j:Int) (List.length (n.af.map aM))=true:=aP ⟨auc,by rw[aG];omega⟩;unfold CM;delta gA u2 bV cy;refine cO (fun k:Nat=>(N6,r,(j:Int),(k:Int),dV n (du m ((M.reads.take k).flatMap (·.addr)),ms) ())) M.reads.length rfl ?_ ?_ auh
 .intro k hk;have hg:=bA hk;obtain⟨x,hx⟩:∃x,x=M.reads[k]:=⟨_,rfl⟩;rw[<-hx]at hg;have hxm:=d5 hg;have hg':(M.reads.map bS)[k]?=some (bS x):=by rw[cW,hg];rfl
  have hsn:du m ((M.reads.take (k+1)).flatMap (·.addr))=du (du m ((M.reads.take k).flatMap (·.addr))) x.addr:=by rw[cK hg,BT,sG,ww,NE,di]
  rw[hsn];obtain⟨t,ht⟩:∃t,t=du m ((M.reads.take k).flatMap (·.addr)):=⟨_,rfl⟩;have htl:t.length=V+1:=by rw[ht,Pl.jv];exact hl
  rw[<-ht];unfold dV nt
  try dsimp only
  unfold CC;have ek:pu ((k:Int)+1)=((k+1:Nat):Int):=auk;rw[aW aS,bz hM'];refine(bR (aF (show(k:Int)<((List.length (M.reads.map bS):Nat):Int) by rw[aG];omega))).trans ((aW aS).trans ((aW (aP ⟨auc,by show(k:Int)<((List.length (M.reads.map bS):Nat):Int);rw[aG];omega⟩)).trans ?_));have e:∀y:bO.T,y=bS x->mD (y.2.1,t,())=some (du t x.addr,()):=by rintro _ rfl;have:=hsm.2.2.2.2.1 x hxm;refine qK (ls:=x.addr) (fun l hl2=>?_) auc auc;have:=N2 hs hMm (l:=l) (by unfold dU;simp only[qr,rc];exact .inl ⟨x,hxm,hl2⟩);omega
  refine(bg (e _ (bz hg'))).trans ?_;have fin:∀(b b':Int) (u:S2),b=b'->(aul (N6,r,(j:Int),b,dV n u ()):am BH Bf)=aul (N6,r,(j:Int),b',dV n u ()):=by rintro _ _ _ rfl;rfl
  exact fin _ _ (du t x.addr,ms) ek
 .unfold dV nt
  try dsimp only
  unfold CC;rw[aW aS,bz hM',cV];exact(bC (aJ (show ¬((M.reads.length:Nat):Int)<((List.length (M.reads.map bS):Nat):Int) by rw[aG];omega))).trans rfl
theorem amB{j:Nat}{M:cC}(hM:n.af[j]?=some M)(ms:kw)(hl:m.length=V+1):CN (N6,r,(j:Int),(0:Int),dV n (m,ms) ())=some (N6,r,(j:Int),dV n (du m (M.writes.flatMap eF),ms) ()):=by
 have hv2:=hs.v2;have hMm:=d5 hM;have hsm:=hs.af M hMm;have hjl:=(rg.1 hM).1;have hM':(n.af.map aM)[j]?=some (aM M):=by rw[cW,hM];rfl
 have aS:an (j:Int) (List.length (n.af.map aM))=true:=aP ⟨auc,by rw[aG];omega⟩;unfold CN;delta gA u2 bV cy;refine cO (fun k:Nat=>(N6,r,(j:Int),(k:Int),dV n (du m ((M.writes.take k).flatMap eF),ms) ())) M.writes.length rfl ?_ ?_ auh
 .intro k hk;have hg:=bA hk;obtain⟨x,hx⟩:∃x,x=M.writes[k]:=⟨_,rfl⟩;rw[<-hx]at hg;have hxm:=d5 hg;have hg':(M.writes.map bX)[k]?=some (bX x):=by rw[cW,hg];rfl
  have hsn:du m ((M.writes.take (k+1)).flatMap eF)=du (du (du (du m ((M.writes.take k).flatMap eF)) [x.on]) x.addr) x.data:=by rw[cK hg,BT,sG,ww,NE,di,show eF x=[x.on]++(x.addr++x.data)from rfl,sG,sG]
  rw[hsn];obtain⟨t,ht⟩:∃t,t=du m ((M.writes.take k).flatMap eF):=⟨_,rfl⟩;have htl:t.length=V+1:=by rw[ht,Pl.jv];exact hl
  rw[<-ht];unfold dV nt
  try dsimp only
  unfold CD;have ek:pu ((k:Int)+1)=((k+1:Nat):Int):=auk;rw[aW aS,bz hM'];refine(bR (aF (show(k:Int)<((List.length (M.writes.map bX):Nat):Int) by rw[aG];omega))).trans ((aW aS).trans ((aW (aP ⟨auc,by show(k:Int)<((List.length (M.writes.map bX):Nat):Int);rw[aG];omega⟩)).trans ?_));obtain⟨w1,w2⟩:=hsm.2.2.2.2.2.1 x hxm;have lit:∀l∈eF x,0<=l/\l / 2<=(V:Int):=fun l hl2=>N2 hs hMm (l:=l) (by unfold dU;simp only[qr,rc];exact .inr ⟨x,hxm,hl2⟩);unfold eF at lit;have gy:gt bu (M.writes.map bX) (k:Int)=bX x:=bz hg';have e1:∀y:bu.T,y=bX x->mD ((y.1::[]),t,())=some (du t [x.on],()):=by rintro _ rfl;exact qK (ls:=[x.on]) (fun l hl2=>by rw[GE.1 hl2];have:=lit x.on Pi;omega) aue auc
  have e2:∀y:bu.T,y=bX x->mD (y.2.1,du t [x.on],())=some (du (du t [x.on]) x.addr,()):=by rintro _ rfl;exact qK (ls:=x.addr) (fun l hl2=>by have:=lit l (Id _ (AI _ hl2));rw[Pl.jv];omega) auc (by rw[Pl.jv];omega)
  have e3:∀y:bu.T,y=bX x->mD (y.2.2.1,du (du t [x.on]) x.addr,())=some (du (du (du t [x.on]) x.addr) x.data,()):=by rintro _ rfl;exact qK (ls:=x.data) (fun l hl2=>by have:=lit l (Id _ (Fd _ hl2));rw[Pl.jv,Pl.jv];omega) auc (by rw[Pl.jv,Pl.jv];omega)
  refine(bg (e1 _ gy)).trans ((bg (e2 _ gy)).trans ((bg (e3 _ gy)).trans ?_));have fin:∀(b b':Int) (u:S2),b=b'->(aul (N6,r,(j:Int),b,dV n u ()):am BI Bg)=aul (N6,r,(j:Int),b',dV n u ()):=by rintro _ _ _ rfl;rfl
  exact fin _ _ (du (du (du t [x.on]) x.addr) x.data,ms) ek
 .unfold dV nt
  try dsimp only
  unfold CD;rw[aW aS,bz hM',cV];exact(bC (aJ (show ¬((M.writes.length:Nat):Int)<((List.length (M.writes.map bX):Nat):Int) by rw[aG];omega))).trans rfl
theorem amz{s:S2}(hl:s.1.length=V+1)(hl2:s.2.length=n.af.length):CL (N6,r,(0:Int),dV n s ())=some (N6,r,dV n ((n.af.zipIdx.map fun x=>cT.mem x.2 x.1).foldl cT.run s) ()):=by
 have hll:=hs.lens.2.2.2.2;have hzl:n.af.zipIdx.length=n.af.length:=aue
 unfold CL;delta iT u1 bV cy;refine cO (fun k:Nat=>(N6,r,(k:Int),dV n (((n.af.zipIdx.take k).map fun x=>cT.mem x.2 x.1).foldl cT.run s) ())) n.af.length rfl ?_ ?_ auh
 .intro k hk;have hg:=bA hk;obtain⟨M,hM⟩:∃M,M=n.af[k]:=⟨_,rfl⟩;rw[<-hM]at hg;have hz:n.af.zipIdx[k]?=some (M,k):=by grind
  have hle:=oh ((n.af.zipIdx.take k).map fun x=>cT.mem x.2 x.1) s;have hsn:((n.af.zipIdx.take (k+1)).map fun x=>cT.mem x.2 x.1).foldl cT.run s=cT.run (((n.af.zipIdx.take k).map fun x=>cT.mem x.2 x.1).foldl cT.run s) (.mem k M):=by rw[cK hz,cH,aso];rfl
  rw[hsn];obtain⟨t,ht⟩:∃t,t=((n.af.zipIdx.take k).map fun x=>cT.mem x.2 x.1).foldl cT.run s:=⟨_,rfl⟩;rw[<-ht]at hle |-;have htl:t.1.length=V+1:=by rw[<-hle.l1];exact hl
  have htl2:t.2.length=n.af.length:=by rw[<-hle.l2];exact hl2
  have e28:=amA hs N6 r hg (m:=t.1) t.2 htl;have e32:=amB hs N6 r hg (m:=du t.1 (M.reads.flatMap (·.addr))) t.2 (by rw[Pl.jv];exact htl);rw[<-sG]at e32;unfold dV nt
  try dsimp only
  unfold CB;rw[Fb];have ek:pu ((k:Int)+1)=((k+1:Nat):Int):=auk;have fin:∀(b b':Int) (u u':S2),b=b'->u=u'->(aul (N6,r,b,dV n u ()):am BG Be)=aul (N6,r,b',dV n u' ()):=by rintro _ _ _ _ rfl rfl;rfl
  refine(bR (aF (show(k:Int)<((List.length (n.af.map aM):Nat):Int) by rw[aG];omega))).trans ((aW aug).trans ?_);cases q:t.2.getD k false with|false=>refine(bR (show Bool.not (gt .bool t.2 (k:Int))=true from OF Bool.not q)).trans ?_;exact fin _ _ t _ ek rfl|true=>refine(bC (show Bool.not (gt .bool t.2 (k:Int))=false from OF Bool.not q)).trans ((bg e28).trans ((bg e32).trans ?_));exact fin _ _ (du t.1 (M.reads.flatMap (·.addr)++M.writes.flatMap eF),t.2) _ ek rfl
 .unfold dV nt
  try dsimp only
  unfold CB;rw[<-hzl,cV,hzl];exact(bC (aJ (show ¬((n.af.length:Nat):Int)<((List.length (n.af.map aM):Nat):Int) by rw[aG];omega))).trans rfl
theorem ajW(n:aB)(k:Nat)(s:S2):(jw n k s).1.length=s.1.length/\(jw n k s).2.length=s.2.length:=⟨(EU k s).l1.symm,(EU k s).l2.symm⟩
theorem anE{s:S2}(hl:s.1.length=V+1)(hl2:s.2.length=n.af.length):C8 ((n6 n).map bB,(0:Int),dV n s ())=some ((jw n (V+n.af.length+2) s).1,(jw n (V+n.af.length+2) s).2,()):=by
 have hv2:=hs.v2;have hvars:=hs.vars;have hll:=hs.lens.2.2.2.2;have hbnd:pu ((pu (n.vars+(Int.ofNat (List.length (n.af.map aM)))))+(1:Int))=((V+n.af.length+1:Nat):Int):=by
  have e:n.vars+(Int.ofNat (List.length (n.af.map aM)))=((V+n.af.length:Nat):Int):=by grind
  rw[e,bP (x:=((V+n.af.length:Nat):Int)) auc];exact auk
 unfold C8;delta bV;refine cO (fun k:Nat=>((n6 n).map bB,(k:Int),dV n (jw n k s) ())) (V+n.af.length+2) rfl ?_ ?_ auh
 .intro k hk;obtain⟨t,ht⟩:∃t,t=jw n k s:=⟨_,rfl⟩;obtain⟨a1,a2⟩:=ajW hs n k s;rw[rounds_succ,<-ht];rw[<-ht]at a1 a2;have htl:t.1.length=V+1:=a1.trans hl;have htl2:t.2.length=n.af.length:=a2.trans hl2;have e9:=anF hs ((n6 n).map bB) (k:Int) htl;have l9:=oh (n.ah.map cT.aT) t;have e14:=amx hs (k:Int) (s:=(n.ah.map cT.aT).foldl cT.run t) (by rw[<-l9.l1];exact htl) (by rw[<-l9.l2];exact htl2);have l14:=oh ((n6 n).flatMap fun x=>x.2.to.map (cT.iS x)) ((n.ah.map cT.aT).foldl cT.run t);have e24:=amz hs ((n6 n).map bB) (k:Int) (s:=((n6 n).flatMap fun x=>x.2.to.map (cT.iS x)).foldl cT.run ((n.ah.map cT.aT).foldl cT.run t)) (by rw[<-l14.l1,<-l9.l1];exact htl) (by rw[<-l14.l2,<-l9.l2];exact htl2);have hr:(n.af.zipIdx.map fun x=>cT.mem x.2 x.1).foldl cT.run (((n6 n).flatMap fun x=>x.2.to.map (cT.iS x)).foldl cT.run ((n.ah.map cT.aT).foldl cT.run t))=j9 n t:=by unfold j9 kU;rw[aso,aso,anx]
  rw[hr]at e24;unfold dV nt
  try dsimp only
  unfold C0;have ek:pu ((k:Int)+1)=((k+1:Nat):Int):=auk;refine(bR (show iE (k:Int) (pu ((pu (n.vars+(Int.ofNat (List.length (n.af.map aM)))))+(1:Int)))=true by rw[hbnd];exact auj)).trans ((bg e9).trans ((bg e14).trans ((bg e24).trans ?_)));have fin:∀(b b':Int) (u:S2),b=b'->(aul ((n6 n).map bB,b,dV n u ()):am Ce BJ)=aul ((n6 n).map bB,b',dV n u ()):=by rintro _ _ _ rfl;rfl
  exact fin _ _ _ ek
 .unfold dV nt
  try dsimp only
  unfold C0;exact(bC (show iE ((V+n.af.length+2:Nat):Int) (pu ((pu (n.vars+(Int.ofNat (List.length (n.af.map aM)))))+(1:Int)))=false by rw[hbnd];exact aui)).trans rfl
theorem amD:aik (dn n,())=some ((lg n V).1,(lg n V).2,()):=by
 have hv2:=hs.v2;have hvars:=hs.vars;obtain⟨a1,a2,a3,a4,a5⟩:=hs.lens;have hb:∀l∈n.aU++n.constraints,0<=l/\l / 2<=(V:Int):=fun l hl=>hs.lits l (by
  unfold cL
  grind)
 have e1:=qK (ls:=n.aU) (m:=List.replicate (V+1) false) (fun l hl=>by have:=hb l (AI _ hl);rw[fx];omega) auc (by rw[fx];omega);have e2:=qK (ls:=n.constraints) (m:=du (List.replicate (V+1) false) n.aU) (fun l hl=>by have:=hb l (Fd _ hl);rw[Pl.jv,fx];omega) auc (by rw[Pl.jv,fx];omega);have eN:=RO hs (pz hs);have e6:=anE hs (s:=(du (du (List.replicate (V+1) false) n.aU) n.constraints,List.replicate n.af.length false)) (by rw[Pl.jv,Pl.jv,fx]) (fx ..);have w1:pu (n.vars+1)=((V+1:Nat):Int):=by rw[hvars];exact auk
 have hml:(List.length (n.af.map aM))=n.af.length:=aG ..;show Mv Sz mD C8 C9 CJ CK CL CM CN (dn n)=_;unfold Mv;have ew:∀(z a:Int) (d:Nat),z=(d:Int)->d<=100000->a=1->both (iE (0:Int) z) (both (iE z z) (iE (a*z) (281474976710656:Int)))=true:=by rintro _ _ d rfl hd rfl;exact nC auj (aF (atm _)) auj
 refine(aW (ew _ _ (V+1) w1 auc rfl)).trans ((aW (ew _ _ n.af.length (by show((List.length (n.af.map aM):Nat):Int)=_;rw[hml]) auc rfl)).trans ?_);have e1':∀L:kw,L=List.replicate (V+1) false->mD (n.aU,L,())=some (du (List.replicate (V+1) false) n.aU,()):=by rintro _ rfl;exact e1
 refine(bg (e1' _ (OF (fun z:Int=>List.replicate z.toNat false) w1))).trans ((bg e2).trans ((bg eN).trans ?_));have e6':∀L:kw,L=List.replicate n.af.length false->C8 ((n6 n).map bB,(0:Int),dV n (du (du (List.replicate (V+1) false) n.aU) n.constraints,L) ())=some ((lg n V).1,(lg n V).2,()):=by rintro _ rfl;exact e6
 refine(bg (e6' _ (OF (fun z:Nat=>List.replicate z false) hml))).trans rfl
end
variable{α:Type}{p:α->Bool}{L:List α}{x:α}{k:Nat}
theorem Sm(h:L[k]?=some x)(q:p x=true):(L.take (k+1)).filter p=(L.take k).filter p++[x]:=by rw[cK h,are,asq,IO q,atg]
theorem Sk(h:L[k]?=some x)(q:p x=false):(L.take (k+1)).filter p=(L.take k).filter p:=by rw[cK h,are,asq,Fr (by rw[q];decide),atg,di]
theorem OI(p:α->Bool)(L:List α)(k:Nat):((L.take k).filter p).length<=L.length:=by have:=(asI (p:=p) (l:=L.take k)).length_le;rw[dK]at this;omega
theorem OB(p:Nat->Bool)(k:Nat):(ez ((List.range k).filter p)).length<=k:=by rw[nB];have:=(asI (p:=p) (l:=List.range k)).length_le;rw[asi]at this;omega
def qz{α:Type}(L:List α)(d:α)(p:Nat->Bool)(k:Nat):List α:=((List.range k).filter p).map fun i=>L.getD i d
variable{d:α}
theorem aor{p:Nat->Bool}(h:L[k]?=some x)(q:p k=true):qz L d p (k+1)=qz L d p k++[x]:=by unfold qz;rw[asA,are,cH,asq,IO q,atg,UV,asr,ff,h];rfl
theorem aoq{p:Nat->Bool}(q:p k=false):qz L d p (k+1)=qz L d p k:=by unfold qz;rw[asA,are,cH,asq,Fr (by rw[q];decide),atg,asr,di]
theorem amE(L:List α)(d:α)(p:Nat->Bool)(k:Nat):(qz L d p k).length<=k:=by unfold qz;rw[aG];have:=(asI (p:=p) (l:=List.range k)).length_le;rw[asi]at this;omega
section
variable{n:aB}{V:Nat}(hs:cA n V){s:S2}(M:jk n V s)
include hs M
theorem anB:Yg (s.1,s.2,(0:Int),nt n ((0:Int),(0:Int),([]:jp),(0:Int),([]:jp),()))=some (s.1,s.2,nt n ((0:Int),(0:Int),ez (jP n s),(0:Int),n.ax.filter (kv s),())):=by
 have hml:=M.l1;have hl:=hs.lens.1;have hv2:=hs.v2;unfold Yg;delta u16 u4 bV cy;refine cO (fun k:Nat=>(s.1,s.2,(k:Int),nt n ((0:Int),(0:Int),ez ((List.range k).filter fun i=>kv s (n.ax.getD i 0)),(0:Int),(n.ax.take k).filter (kv s),()))) n.ax.length rfl ?_ ?_ auh
 .intro k hk;unfold nt
  try dsimp only
  unfold Dn;obtain⟨v,hg,v1,v2⟩:=abV hs M hk;have hgd:n.ax.getD k 0=(v:Int):=by rw[ff,hg];rfl
  have ek:pu ((k:Int)+1)=((k+1:Nat):Int):=auk;have aS:an (k:Int) (List.length n.ax)=true:=aug;have fin:∀(b b':Int) (L L' K K':jp),b=b'->L=L'->K=K'->(aul (s.1,s.2,b,nt n ((0:Int),(0:Int),L,(0:Int),K,())):am CZ Cy)=aul (s.1,s.2,b',nt n ((0:Int),(0:Int),L',(0:Int),K',())):=by rintro _ _ _ _ _ _ rfl rfl rfl;rfl
  refine(bR (aF (show(k:Int)<(n.ax.length:Int) by omega))).trans ?_;rw[aW aS,bz (σ:=.I) hg,aW aug];have hr1:=OB (fun i=>kv s (n.ax.getD i 0)) k;have hr2:=OI (kv s) n.ax k;cases q:s.1.getD v false with
  |true=>
   have qk:kv s (n.ax.getD k 0)=true:=by unfold kv;rw[hgd];exact q
   refine(bR (show gt .bool s.1 (v:Int)=true from q)).trans ((aW (eX auc auc)).trans ((aW aS).trans ((aW (eX auc auc)).trans ?_)));exact fin _ _ _ _ _ _ ek (qT (p:=fun i=>kv s (n.ax.getD i 0)) qk).symm (Sm hg (by rw[<-hgd];exact qk)).symm
  |false=>
   have qk:kv s (n.ax.getD k 0)=false:=by unfold kv;rw[hgd];exact q
   refine(bC (show gt .bool s.1 (v:Int)=false from q)).trans ?_;exact fin _ _ _ _ _ _ ek (qS (p:=fun i=>kv s (n.ax.getD i 0)) qk).symm (Sk hg (by rw[<-hgd];exact qk)).symm
 .unfold nt
  try dsimp only
  unfold Dn;rw[cV];refine(bC (aJ (show ¬(n.ax.length:Int)<(n.ax.length:Int) by omega))).trans rfl
theorem amr(a b:jp):X1 (s.1,s.2,(0:Int),nt n ((0:Int),(0:Int),a,([]:jp),(0:Int),b,([]:List ae.T),()))=some (s.1,s.2,nt n ((0:Int),(0:Int),a,ez (i9 n s),(0:Int),b,(n.ah.filter fun l=>kv s l.var).map aX,())):=by
 have hml:=M.l1;have hl:=hs.lens.2.1;have hv2:=hs.v2;unfold X1;delta mC u6 bV cy;refine cO (fun k:Nat=>(s.1,s.2,(k:Int),nt n ((0:Int),(0:Int),a,ez ((List.range k).filter fun i=>kv s (n.ah.getD i j0).var),(0:Int),b,((n.ah.take k).filter fun l=>kv s l.var).map aX,()))) n.ah.length rfl ?_ ?_ auh
 .intro k hk;unfold nt
  try dsimp only
  unfold Dh;have hg:=bA hk;obtain⟨l,hl2⟩:∃l,l=n.ah[k]:=⟨_,rfl⟩;rw[<-hl2]at hg;have hg':(n.ah.map aX)[k]?=some (aX l):=by rw[cW,hg];rfl
  have hr:=hs.eJ l.var (by unfold bp;simp only[qr,rt];exact .inl (.inl (.inr ⟨l,d5 hg,rfl⟩)));obtain⟨v,hv⟩:=By (show 0<=l.var by omega);have hv:l.var=(v:Int):=hv;have hgd:(n.ah.getD k j0).var=(v:Int):=by rw[ff,hg];exact hv
  have ek:pu ((k:Int)+1)=((k+1:Nat):Int):=auk;have hLl:(n.ah.map aX).length=n.ah.length:=aG _;have aS:an (k:Int) (List.length (n.ah.map aX))=true:=aug;have fin:∀(c c':Int) (L L':jp) (K K':List ae.T),c=c'->L=L'->K=K'->(aul (s.1,s.2,c,nt n ((0:Int),(0:Int),a,L,(0:Int),b,K,())):am Cu Cb)=aul (s.1,s.2,c',nt n ((0:Int),(0:Int),a,L',(0:Int),b,K',())):=by rintro _ _ _ _ _ _ rfl rfl rfl;rfl
  refine(bR (aF (show(k:Int)<((n.ah.map aX).length:Int) by omega))).trans ?_;rw[aW aS,bz (σ:=ae) hg'];have hin2:an l.var (List.length s.1)=true:=aug;have hr1:=OB (fun i=>kv s (n.ah.getD i j0).var) k;have hr2:=OI (fun l:dI=>kv s l.var) n.ah k;cases q:s.1.getD v false with
  |true=>
   have qk:kv s (n.ah.getD k j0).var=true:=by unfold kv;rw[hgd];exact q
   have q2:kv s l.var=true:=by unfold kv;rw[hv];exact q
   refine(aW (show an (aX l).1 (List.length s.1)=true from hin2)).trans ((bR (show gt .bool s.1 (aX l).1=true from q2)).trans ((aW (eX auc auc)).trans ((aW aS).trans ((aW (eX (x:=aX l) (by rw[aG];omega) auc)).trans ?_))));exact fin _ _ _ _ _ _ ek (qT (p:=fun i=>kv s (n.ah.getD i j0).var) qk).symm (by rw[Sm (p:=fun l:dI=>kv s l.var) hg q2,cH];rfl)
  |false=>
   have qk:kv s (n.ah.getD k j0).var=false:=by unfold kv;rw[hgd];exact q
   have q2:kv s l.var=false:=by unfold kv;rw[hv];exact q
   refine(aW (show an (aX l).1 (List.length s.1)=true from hin2)).trans ((bC (show gt .bool s.1 (aX l).1=false from q2)).trans ?_);exact fin _ _ _ _ _ _ ek (qS (p:=fun i=>kv s (n.ah.getD i j0).var) qk).symm (by rw[Sk (p:=fun l:dI=>kv s l.var) hg q2])
 .unfold nt
  try dsimp only
  unfold Dh;rw[cV];refine(bC (aJ (show ¬(n.ah.length:Int)<((n.ah.map aX).length:Int) by rw[aG];omega))).trans rfl
theorem ams(a b c:jp)(d:List ae.T):X2 (s.1,s.2,(0:Int),nt n ((0:Int),(0:Int),a,b,([]:jp),(0:Int),c,d,([]:List ai.T),()))=some (s.1,nt n ((0:Int),(0:Int),a,b,ez (iz n s),(0:Int),c,d,(pick n.af oJ fun i=>s.2.getD i false).map aM,())):=by
 have hml:=M.l2;have hl:n.af.length<=100:=EQ hs.lens.2.2.2.2 auc;unfold X2;delta kZ u8 bV cy;refine cO (fun k:Nat=>(s.1,s.2,(k:Int),nt n ((0:Int),(0:Int),a,b,ez ((List.range k).filter fun i=>s.2.getD i false),(0:Int),c,d,(qz n.af oJ (fun i=>s.2.getD i false) k).map aM,()))) n.af.length rfl ?_ ?_ auh
 .intro k hk;unfold nt
  try dsimp only
  unfold Di;have hg:=bA hk;obtain⟨m,hm2⟩:∃m,m=n.af[k]:=⟨_,rfl⟩;rw[<-hm2]at hg;have hg':(n.af.map aM)[k]?=some (aM m):=by rw[cW,hg];rfl
  have hLl:(n.af.map aM).length=n.af.length:=aG _;have ek:pu ((k:Int)+1)=((k+1:Nat):Int):=auk;have aS:an (k:Int) (List.length (n.af.map aM))=true:=aug;have fin:∀(x x':Int) (L L':jp) (K K':List ai.T),x=x'->L=L'->K=K'->(aul (s.1,s.2,x,nt n ((0:Int),(0:Int),a,b,L,(0:Int),c,d,K,())):am Cv Cc)=aul (s.1,s.2,x',nt n ((0:Int),(0:Int),a,b,L',(0:Int),c,d,K',())):=by rintro _ _ _ _ _ _ rfl rfl rfl;rfl
  refine(bR (aF (show(k:Int)<((n.af.map aM).length:Int) by omega))).trans ?_;rw[aW aug,bz (σ:=ai) hg'];have hr1:=OB (fun i=>s.2.getD i false) k;have hr2:=amE n.af oJ (fun i=>s.2.getD i false) k;cases q:s.2.getD k false with|true=>refine(bR (show gt .bool s.2 (k:Int)=true from q)).trans ((aW (eX auc auc)).trans ((aW aS).trans ((aW (eX (x:=aM m) (by rw[aG];omega) auc)).trans ?_)));exact fin _ _ _ _ _ _ ek (qT (p:=fun i=>s.2.getD i false) q).symm (by rw[aor (p:=fun i=>s.2.getD i false) hg q,cH];rfl)|false=>refine(bC (show gt .bool s.2 (k:Int)=false from q)).trans ?_;exact fin _ _ _ _ _ _ ek (qS (p:=fun i=>s.2.getD i false) q).symm (by rw[aoq (p:=fun i=>s.2.getD i false) q])
 .unfold nt
  try dsimp only
  unfold Di;refine(bC (aJ (show ¬(n.af.length:Int)<((n.af.map aM).length:Int) by rw[aG];omega))).trans rfl
theorem amt(a b c e:jp)(d:List ae.T)(f:List ai.T):X3 (s.1,(0:Int),nt n ((0:Int),(0:Int),a,b,c,(0:Int),e,d,f,([]:List ae.T),()))=some (nt n ((0:Int),(0:Int),a,b,c,(0:Int),e,d,f,(n.ag.filter fun x=>kv s x.var).map aL,())) :=by
 have hml:=M.l1;have hl:=hs.lens.2.2.1;have hv2:=hs.v2;unfold X3;delta kZ u8 bV cy;refine cO (fun k:Nat=>(s.1,(k:Int),nt n ((0:Int),(0:Int),a,b,c,(0:Int),e,d,f,((n.ag.take k).filter fun x=>kv s x.var).map aL,()))) n.ag.length rfl ?_ ?_ auh
 .intro k hk;unfold nt
  try dsimp only
  unfold Dj;have hg:=bA hk;obtain⟨l,hl2⟩:∃l,l=n.ag[k]:=⟨_,rfl⟩;rw[<-hl2]at hg;have hg':(n.ag.map aL)[k]?=some (aL l):=by rw[cW,hg];rfl
  have hr:=hs.eJ l.var (by unfold bp;simp only[qr,rt];exact .inr ⟨l,d5 hg,rfl⟩);have ek:pu ((k:Int)+1)=((k+1:Nat):Int):=auk;have hLl:(n.ag.map aL).length=n.ag.length:=aG _;have aS:an (k:Int) (List.length (n.ag.map aL))=true:=aug;have fin:∀(x x':Int) (K K':List ae.T),x=x'->K=K'->(aul (s.1,x,nt n ((0:Int),(0:Int),a,b,c,(0:Int),e,d,f,K,())):am Cw Cd)=aul (s.1,x',nt n ((0:Int),(0:Int),a,b,c,(0:Int),e,d,f,K',())):=by rintro _ _ _ _ rfl rfl;rfl
  refine(bR (aF (show(k:Int)<((n.ag.map aL).length:Int) by omega))).trans ?_;rw[aW aS,bz (σ:=ae) hg'];have hin2:an l.var (List.length s.1)=true:=aug;have hr2:=OI (fun l:dM=>kv s l.var) n.ag k;cases q2:kv s l.var with|true=>refine(aW (show an (aL l).1 (List.length s.1)=true from hin2)).trans ((bR (show gt .bool s.1 (aL l).1=true from q2)).trans ((aW aS).trans ((aW (eX (x:=aL l) (by rw[aG];omega) auc)).trans ?_)));exact fin _ _ _ _ ek (by rw[Sm (p:=fun l:dM=>kv s l.var) hg q2,cH];rfl)|false=>refine(aW (show an (aL l).1 (List.length s.1)=true from hin2)).trans ((bC (show gt .bool s.1 (aL l).1=false from q2)).trans ?_);exact fin _ _ _ _ ek (by rw[Sk (p:=fun l:dM=>kv s l.var) hg q2])
 .unfold nt
  try dsimp only
  unfold Dj;rw[cV];refine(bC (aJ (show ¬(n.ag.length:Int)<((n.ag.map aL).length:Int) by rw[aG];omega))).trans rfl
end
theorem amu{n:aB}{V:Nat}(hs:cA n V)(h0:da n=0)(ha:dO (bh n) V=true){s:S2}(M:jk n V s):MA (dn n,())=some ((dn (pG n s V),ez (jP n s),ez (i9 n s),ez (iz n s),()),()):=by have eP:=amD hs;rw[jk.one (aag hs) M]at eP;have eN:=ajP hs h0 ha M;exact(bg eP).trans ((bg (anB hs M)).trans ((bg (amr hs M _ _)).trans ((bg (ams hs M _ _ _ _)).trans ((bg (amt hs M _ _ _ _ _ _)).trans ((bg eN).trans rfl)))))
theorem nu(L:jp)(hL:L.length<=100000):si (L,L,())=some (true,()):=by
 have eL:Xg (L,L,(0:Int),())=aum ():=by
  unfold Xg;delta u3;refine cO (fun i:Nat=>(L,L,(i:Int),())) L.length rfl ?_ ?_ auh
  .intro i hi
   try dsimp only
   unfold CR;have e:∀p q:Int,p=q->(aul (L,L,p,()):am BS Bm)=aul (L,L,q,()):=by rintro _ _ rfl;rfl
   exact ba (aF (show(i:Int)<(L.length:Int) by omega)) (aK aug (aK aug (aN (uz _) (e _ _ (bP (x:=(i:Int)+1) auc)))))
  .try dsimp only
   unfold CR;exact aN (aJ (show ¬(L.length:Int)<(L.length:Int) by omega)) rfl
 exact aN (uz _) (aZ eL rfl)
theorem bt2(L:jp):both (iP (Sh.beq .I) L L) true=true:=by rw[qL];rfl
theorem ajF(m:cC)(h1:m.reads.length<=1000)(h2:m.writes.length<=1000)(h3:∀r∈m.reads,r.addr.length<=100000)(h4:∀w∈m.writes,w.addr.length<=100000/\w.data.length<=100000):Xr (aM m,aM m,())=some (true,()):=by
 have e4:Xs ((0:Int),fp m (fp m ()))=aum (fp m (fp m ())):=by
  unfold Xs;delta ju;have hL:(m.reads.map bS).length=m.reads.length:=aG _;refine cO (fun i:Nat=>((i:Int),fp m (fp m ()))) m.reads.length rfl ?_ ?_ auh
  .intro i hi
   try dsimp only
   unfold CU;have hx:=bA hi;have hm:=ut hi;have hx':(m.reads.map bS)[i]?=some (bS m.reads[i]):=by rw[cW,hx];rfl
   have e:∀p q:Int,p=q->(aul (p,fp m (fp m ())):am B2 Bu)=aul (q,fp m (fp m ())):=by rintro _ _ rfl;rfl
   have aS:an (i:Int) (List.length (m.reads.map bS))=true:=aug;rw[bz (σ:=bO) hx'];exact ba (aF (show(i:Int)<((m.reads.map bS).length:Int) by omega)) (aK aS (aK aS (aN (uz _) (aK aS (aK aS (aZ (nu m.reads[i].addr (h3 _ hm)) (aN Oa (e _ _ (bP (x:=(i:Int)+1) auc)))))))))
  .try dsimp only
   unfold CU;exact aN (aJ (show ¬(m.reads.length:Int)<((m.reads.map bS).length:Int) by omega)) rfl
 have e9:Xt ((0:Int),fp m (fp m ()))=aum ():=by
  unfold Xt;delta ju;have hL:(m.writes.map bX).length=m.writes.length:=aG _;refine cO (fun i:Nat=>((i:Int),fp m (fp m ()))) m.writes.length rfl ?_ ?_ auh
  .intro i hi
   try dsimp only
   unfold CV;have hx:=bA hi;have hm:=ut hi;have hx':(m.writes.map bX)[i]?=some (bX m.writes[i]):=by rw[cW,hx];rfl
   have e:∀p q:Int,p=q->(aul (p,fp m (fp m ())):am B3 Bv)=aul (q,fp m (fp m ())):=by rintro _ _ rfl;rfl
   have aS:an (i:Int) (List.length (m.writes.map bX))=true:=aug;have w1:iP (Sh.beq bu) (m.writes.map bX) (m.writes.map bX)=true:=xQ (f:=Sh.beq bu) (fun x=>Sh.uZ (σ:=bu) x) _;have w2:Sh.beq bu (bX m.writes[i]) (bX m.writes[i])=true:=Sh.uZ (σ:=bu) _;have w3:both (iQ (bX m.writes[i]).1 (bX m.writes[i]).1) (both (iP (Sh.beq .I) (bX m.writes[i]).2.1 (bX m.writes[i]).2.1) (both (iP (Sh.beq .I) (bX m.writes[i]).2.2.1 (bX m.writes[i]).2.2.1) true))=true:=nC (jj _) (qL _) (bt2 _);rw[bz (σ:=bu) hx'];exact ba (aF (show(i:Int)<((m.writes.map bX).length:Int) by omega)) (aK aS (aK aS (aK w1 (aK (jj _) (aK aS (aK w2 (aK w3 (aN (uz _) (aZ (nu m.writes[i].addr (h4 _ hm).1) (aN Oa (aZ (nu m.writes[i].data (h4 _ hm).2) (aN Oa (e _ _ (bP (x:=(i:Int)+1) auc))))))))))))))
  .try dsimp only
   unfold CV;exact aN (aJ (show ¬(m.writes.length:Int)<((m.writes.map bX).length:Int) by omega)) rfl
 exact aN (uz _) (aN (uC _) (aN (ale _) (aN (uC _) (aN (uC _) (aZ e4 (aZ e9 rfl))))))
section
variable{n:aB}{V:Nat}(hs:cA n V)
include hs
theorem ajX:LG (dn n,dn n,())=some (true,()):=by
 obtain⟨a1,a2,a3,a4,a5⟩:=hs.lens;have e4:Xl ((0:Int),nt n (nt n ()))=aum (nt n (nt n ())):=by
  unfold Xl;delta gK u5 bV cy;have hL:(n.ah.map aX).length=n.ah.length:=aG _;refine cO (fun i:Nat=>((i:Int),nt n (nt n ()))) n.ah.length rfl ?_ ?_ auh
  .intro i hi;unfold nt
   try dsimp only
   unfold CS;have e:∀p q:Int,p=q->(aul (p,nt n (nt n ())):am BW Bo)=aul (q,nt n (nt n ())):=by rintro _ _ rfl;rfl
   have aS:an (i:Int) (List.length (n.ah.map aX))=true:=aug;generalize gt ae (n.ah.map aX) (i:Int)=x;have hb:Bool.not (both (iQ x.1 x.1) (both (iQ x.2.1 x.2.1) (both (iQ x.2.2.1 x.2.2.1) true)))=false:=nb3 _ _ _;exact ba (aF (show(i:Int)<((n.ah.map aX).length:Int) by omega)) (aK aS (aK aS (aN hb (e _ _ (bP (x:=(i:Int)+1) auc)))))
  .unfold nt
   try dsimp only
   unfold CS;exact aN (aJ (show ¬(n.ah.length:Int)<((n.ah.map aX).length:Int) by omega)) rfl
 have e9:Xm ((0:Int),nt n (nt n ()))=aum (nt n (nt n ())):=by
  unfold Xm;delta gK u5 bV cy;have hL:(n.ag.map aL).length=n.ag.length:=aG _;refine cO (fun i:Nat=>((i:Int),nt n (nt n ()))) n.ag.length rfl ?_ ?_ auh
  .intro i hi;unfold nt
   try dsimp only
   unfold CT;have e:∀p q:Int,p=q->(aul (p,nt n (nt n ())):am BX Bp)=aul (q,nt n (nt n ())):=by rintro _ _ rfl;rfl
   have aS:an (i:Int) (List.length (n.ag.map aL))=true:=aug;generalize gt ae (n.ag.map aL) (i:Int)=x;have hb:Bool.not (both (iQ x.1 x.1) (both (iQ x.2.1 x.2.1) (both (iQ x.2.2.1 x.2.2.1) true)))=false:=nb3 _ _ _;exact ba (aF (show(i:Int)<((n.ag.map aL).length:Int) by omega)) (aK aS (aK aS (aN hb (e _ _ (bP (x:=(i:Int)+1) auc)))))
  .unfold nt
   try dsimp only
   unfold CT;exact aN (aJ (show ¬(n.ag.length:Int)<((n.ag.map aL).length:Int) by omega)) rfl
 have e14:WD ((0:Int),nt n (nt n ()))=aum (nt n (nt n ())):=by
  unfold WD;delta gK u5 bV cy;have hL:(n.af.map aM).length=n.af.length:=aG _;have h6:n.af.length<=100:=EQ a5 auc;refine cO (fun i:Nat=>((i:Int),nt n (nt n ()))) n.af.length rfl ?_ ?_ auh
  .intro i hi;unfold nt
   try dsimp only
   unfold Co;have e:∀p q:Int,p=q->(aul (p,nt n (nt n ())):am Bn AZ)=aul (q,nt n (nt n ())):=by rintro _ _ rfl;rfl
   have aS:an (i:Int) (List.length (n.af.map aM))=true:=aug;have hx:=bA hi;have hx':(n.af.map aM)[i]?=some (aM n.af[i]):=by rw[cW,hx];rfl
   obtain⟨m1,m2,m3,m4,m5,m6,m7,m8⟩:=hs.af _ (ut hi);have es:=ajF n.af[i] auc auc (fun r hr=>by have:=m5 r hr;omega) fun w hw=>by have:=m6 w hw;omega
   rw[bz (σ:=ai) hx'];exact ba (aF (show(i:Int)<((n.af.map aM).length:Int) by omega)) (aK aS (aK aS (aZ es (aN rfl (e _ _ (bP (x:=(i:Int)+1) auc))))))
  .unfold nt
   try dsimp only
   unfold Co;exact aN (aJ (show ¬(n.af.length:Int)<((n.af.map aM).length:Int) by omega)) rfl
 exact aN (uz _) (aZ (nu n.ax auc) (aN rfl (aN (uC _) (aN (uC _) (aN (uC _) (aZ e4 (aZ e9 (aZ e14 (aZ (nu n.bk auc) (ba rfl (aZ (nu n.aU auc) (ba rfl (aZ (nu n.constraints auc) rfl)))))))))))))
theorem ajQ(hd:bp n=(List.range V).map fun i:Nat=>(i:Int)+1)(ho:∀a∈n.ag,a.a<2*a.var/\a.b<=a.a):Kl (dn n,())=some (true,()):=by
 obtain⟨a1,a2,a3,a4,a5⟩:=hs.lens;have hV:=hs.v2;have hf:jb ((List.range (V+1)).map fun i:Nat=>(i:Int)) V:=by
  have hg:∀v:Nat,v<=V->rv ((List.range (V+1)).map fun i:Nat=>(i:Int)) (v:Int)=v:=fun v hv=>by rw[ot,ff,cW,ST,atd auc];rfl
  exact⟨aue,hg 0 auc,fun v a b=>by rw[hg v b];omega,fun u v a b c=>by rw[hg u auc,hg v c];omega⟩
 have h1:cA { n with vars:=(V:Int) } V:=by
  have:({ n with vars:=(V:Int) }:aB)=n:=by rw[<-hs.vars]
  rw[this];exact hs
 have eD:=aaU h1 hf;have hlen:(bp n).length=V:=by rw[hd,aG,asi]
 obtain⟨D,hD⟩:∃D,D=bp n:=⟨_,rfl⟩;rw[<-hD]at eD hd hlen;have hat:∀k:Nat,k<V->D[k]?=some ((k:Int)+1):=fun k hk=>by rw[hd,cW,atd hk];rfl
 have e5:Vc (D,(0:Int),nt n ())=aum (nt n ()):=by
  unfold Vc;delta ei;refine cO (fun k:Nat=>(D,(k:Int),nt n ())) V rfl ?_ ?_ auh
  .intro k hk;unfold nt
   try dsimp only
   unfold A9;have e:∀p q:Int,p=q->(aul (D,p,nt n ()):am Af zU)=aul (D,q,nt n ()):=by rintro _ _ rfl;rfl
   have ek:pu ((k:Int)+1)=((k+1:Nat):Int):=auk;rw[bz (σ:=.I) (hat k hk)];exact ba (aF (show(k:Int)<(D.length:Int) by omega)) (aK aug (aN (qU (aF (by rw[ek];omega))) (e _ _ ek)))
  .unfold nt
   try dsimp only
   unfold A9;exact aN (aJ (show ¬(V:Int)<(D.length:Int) by omega)) rfl
 have e10:UT ((0:Int),nt n ())=aum ():=by
  unfold UT;delta u9;have hL:(n.ag.map aL).length=n.ag.length:=aG _;refine cO (fun k:Nat=>((k:Int),nt n ())) n.ag.length rfl ?_ ?_ auh
  .intro k hk;unfold nt
   try dsimp only
   unfold AD;have e:∀p q:Int,p=q->(aul (p,nt n ()):am zT zH)=aul (q,nt n ()):=by rintro _ _ rfl;rfl
   have hx:=bA hk;have hm:=ut hk;obtain⟨a,ha⟩:∃a,a=n.ag[k]:=⟨_,rfl⟩;rw[<-ha]at hx hm;have hx':(n.ag.map aL)[k]?=some (aL a):=by rw[cW,hx];rfl
   obtain⟨o1,o2⟩:=ho a hm;obtain⟨d1,d2⟩:=(Og hs hf a hm).1;have w:pu ((2:Int)*a.var)=2*a.var:=auk;rw[bz (σ:=ae) hx'];exact ba (aF (show(k:Int)<((n.ag.map aL).length:Int) by omega)) (aK aug (aN (aJ (show ¬pu ((2:Int)*a.var)<=a.a by rw[w];omega)) (aN (show bK false true (iL a.a a.b)=false from aui) (e _ _ (bP (x:=(k:Int)+1) auc)))))
  .unfold nt
   try dsimp only
   unfold AD;exact aN (aJ (show ¬(n.ag.length:Int)<((n.ag.map aL).length:Int) by omega)) rfl
 exact aZ eD (aN (qU (aF (by show(D.length:Int)=n.vars;rw[hs.vars,hlen]))) (aZ e5 (aZ e10 rfl)))
