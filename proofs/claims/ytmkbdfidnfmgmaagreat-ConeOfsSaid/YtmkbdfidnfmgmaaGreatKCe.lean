import Derived.Test.YtmkbdfidnfmgmaaGreatKCd
import Derived.Test.YtmkbdfidnfmgmaaGreatKCa
import Derived.Test.YtmkbdfidnfmgmaaGreatKTc
set_option linter.all false
section
namespace Go.Proofs.YtmkbdfidnfmgmaaGreat.V
open Go Go.RowKit Go.Proofs.YtmkbdfidnfmgmaaGreat.Pl
theorem nC{a b c:Bool}(h1:a=true)(h2:b=true)(h3:c=true):both a (both b c)=true:=by subst h1;subst h2;subst h3;rfl
variable{p:Nat->Bool}{k:Nat}
theorem qT(h:p k=true):((List.range (k+1)).filter p).map (fun v:Nat=>(v:Int))=((List.range k).filter p).map (fun v:Nat=>(v:Int))++[(k:Int)]:=by rw[asA,are,cH,asq,IO h];rfl
theorem qS(h:p k=false):((List.range (k+1)).filter p).map (fun v:Nat=>(v:Int))=((List.range k).filter p).map (fun v:Nat=>(v:Int)):=by rw[asA,are,cH,asq,Fr (by rw[h];simp)];simp
theorem am4{n:aB}{V:Nat}(hs:cA n V)(ft:Fit n)(mk lv:jp):∀(F:Nat) (m:kw) (l:Int) (v:Nat),l / 2=(v:Int)->v<=V->m.length=V+1->m.count false<F ->
  ∃m',DQ F ((v:Int),nt n (m,wk n V mk lv))=some (nt n (m',wk n V mk lv))/\gD n m [l] m':=by
 intro F
 induction F with
 |zero=>intro m l v _ _ _ h;omega|succ F ih=>
  intro m l v hv hvV hm hF;have hV2:=hs.v2;have hvars:=hs.vars;have hnl:=zk hs;have hvt:(l / 2).toNat=v:=auc
  obtain⟨of,hof⟩:∃of,of=gb (bh n) V (bh n).length:=⟨_,rfl⟩;have hofl:of.length=V+1:=by rw[hof];exact za _ _ _
  have hofv:of[v]?=some (aT of v):=ti auc;show ∃m',MY oT (DQ F) SG (MR (DQ F)) (v:Int) n.vars n.ax (n.ah.map aX) n.bk n.aU n.constraints (n.af.map aM) (n.ag.map aL) m n.vars n.ax (n.ah.map aX) n.bk n.aU n.constraints (n.af.map aM) (n.ag.map aL) (gb (bh n) V (bh n).length) ((d7 n).map eu) mk lv=some (nt n (m',wk n V mk lv))/\gD n m [l] m';rw[<-hof];unfold MY;by_cases h1:v=0
  .rw[bR auj];exact⟨m,by rw[hof];rfl,gD.there (.inl auc)⟩
  rw[bC aui,Hv,bC aui,aW aug];by_cases q:On m v
  .rw[bR (show bK false true (gt .bool m (v:Int))=true from q)];exact⟨m,by rw[hof];rfl,gD.there (.inr (by rw[hvt];exact q))⟩
  have q':m.getD v false=false:=by unfold On at q;simpa using q
  rw[bC (show bK false true (gt .bool m (v:Int))=false from q'),aW aug,aW aug,bz (σ:=.I) hofv];have qn:¬On m (l / 2).toNat:=by rw[hvt];exact q
  rcases ab4 hs.apart (fun x hx=>(hs.d8 x hx).2) hvV with⟨g1,g2⟩|⟨i,x,g1,g2,g3⟩
  .rw[<-hof]at g1;rw[g1,bR (aF rfl)];refine⟨m.set v true,by rw[hof];rfl,?_⟩;have:=gD.free (n:=n) (m:=m) (l:=l) auc auc qn fun x hx hm2=>g2 x.nd (AT hx) (by have:(l / 2).toNat∈x.to.map Int.toNat:=AT hm2;rw[hvt]at this;exact this);rw[hvt]at this;exact this
  .rw[<-hof]at g3;rw[g3,bC aui,aW aug];subst hof;have hil:=jN g1;have hnl2:(d7 n).length=(bh n).length:=by rw[JE];unfold bh;rw[aG]
   obtain⟨xd,hxd⟩:∃xd,(d7 n)[i]?=some xd:=⟨_,bA auc⟩;obtain⟨y,hy1,hy2⟩:=xU n hxd;have hxy:x=y.nd:=by rw[FW,hy1]at g1;simpa using g1.symm
   subst hxy;have hy:=d5 hy1;have hlens:=vN hs hy;have hxd':((d7 n).map eu)[i]?=some (eu xd):=by rw[cW,hxd];rfl
   have d8:l / 2∈y.to:=by obtain⟨u,hu,e⟩:=rt.1 g2;have:=hs.mI hy hu;rw[show l / 2=u by omega];exact hu
   have one:∀z∈dt n,l / 2∈z.to->z=y:=fun z hz hm2=>by obtain⟨j,hj⟩:=LT hz;have:=Pd hs.abd hj hy1 hm2 d8;rw[this,hy1]at hj;exact(BY hj).symm
   rw[show((i:Int)+1-1)=(i:Int) by omega,bP (x:=(i:Int)) auc,aW (aP ⟨auc,by rw[aG];omega⟩),bz hxd'];have e3:=aaY (n:=n) (of:=gb (bh n) V (bh n).length) (nd:=d7 n) (m:=mk) (lv:=lv) hy2;have hcnt:=EV (i:=v) auc q;have hL:∃o,MR (DQ F) (y.bq,(y.bq.length:Int),(0:Int),nt n (m.set v true,wk n V mk lv))=some o/\∃m',o=nt n (m',wk n V mk lv)/\gD n (m.set v true) y.bq m':=by
    unfold MR;refine jD (fun d=>∃(k:Nat) (m':kw),k<=y.bq.length/\d=(y.bq,(y.bq.length:Int),(k:Int),nt n (m',wk n V mk lv))/\gD n (m.set v true) (y.bq.take k) m') _ (fun d=>y.bq.length-d.2.2.1.toNat) ?_ NN _ ⟨0,_,Do _,rfl,gD.nil⟩ (bG (by have:=hlens.2;omega));rintro d ⟨k,m',hk',rfl,hA⟩;unfold nt wk mb
    try dsimp only
    unfold MO;by_cases hlt:k<y.bq.length
    .have hl:=bA hlt;obtain⟨u,hu1,hu2,hu3,hl0,hl1⟩:=aaX hs hy hl;obtain⟨m2,e2,hA2⟩:=ih m' y.bq[k] u hu1 hu2 (by rw[hA.len,aig];exact hm) (by have:=hA.kY;omega);rw[bR auj,aW aug,bz (σ:=.I) hl];right;refine⟨(y.bq,(y.bq.length:Int),((k+1:Nat):Int),nt n (m2,wk n V mk lv)),?_,⟨k+1,m2,hlt,rfl,by rw[cK hl];exact hA.app hA2⟩,?_⟩
     .refine(bg (zl hu1)).trans ((bg e2).trans ?_);have e:∀b b':Int,b=b'->(aul (y.bq,(y.bq.length:Int),b,nt n (m2,wk n V mk lv)):am Dw Dp)=aul (y.bq,(y.bq.length:Int),b',nt n (m2,wk n V mk lv)):=by rintro _ _ rfl;rfl
      exact e _ _ (bP (x:=(k:Int)+1) auc)
     .show y.bq.length-((k+1:Nat):Int).toNat<y.bq.length-(k:Int).toNat;omega
    .left;have hk2:k=y.bq.length:=auc
     rw[hk2,cV]at hA;rw[bC aui];exact⟨_,rfl,m',rfl,hA⟩
   obtain⟨o,ho,m',rfl,hA⟩:=hL;refine⟨m',(bg e3).trans ((bg ho).trans rfl),gD.node one hy d8 auc auc qn (by rw[hvt];exact hA)⟩
theorem amZ{n:aB}{V:Nat}(hs:cA n V)(ft:Fit n)(h0:da n=0)(ha:dO (bh n) V=true):∃m lv,tK (nt n ())=aum ((0:Int),wk n V m lv):=by
 have es:oQ (dn n,())=some (da n,()):=by unfold oQ;rw[show eH ((dn n,()):TL [cJ]).1=n from o6 n,pV ft];rfl
 obtain⟨m,lv,ea,_⟩:=Oq hs ft;exact⟨m,lv,aZ es (aN (by rw[h0];rfl) (aZ (RP hs ft) (aZ ea (aN (by rw[ha];rfl) rfl))))⟩
variable{ls:jp}
theorem ajp{n:aB}{V:Nat}(hs:cA n V)(ft:Fit n)(h0:da n=0)(ha:dO (bh n) V=true)(hl:∀l∈ls,0<=l/\l / 2<=(V:Int))(hn:ls.length<=1000000) :
  Za (dn n,ls,())=some (mw n V ls,()):=by
 obtain⟨mk,lv,et⟩:=amZ hs ft h0 ha;have hV2:=hs.v2;have hvars:=hs.vars;have e8:∃o,Em (ls,(ls.length:Int),(0:Int),List.replicate (V+1) false,nt n (wk n V mk lv))=some o/\∃m':kw,o=(m',())/\gD n (List.replicate (V+1) false) ls m':=by
  unfold Em;delta pg bV cy;refine jD (fun d=>∃(k:Nat) (m':kw),k<=ls.length/\d=(ls,(ls.length:Int),(k:Int),m',nt n (wk n V mk lv))/\gD n (List.replicate (V+1) false) (ls.take k) m') _ (fun d=>ls.length-d.2.2.1.toNat) ?_ NN _ ⟨0,_,Do _,rfl,gD.nil⟩ auh;rintro d ⟨k,m',hk',rfl,hA⟩;unfold nt wk mb
  try dsimp only
  unfold Np;by_cases hlt:k<ls.length
  .have hg:=bA hlt;obtain⟨h1,h2⟩:=hl _ (ut hlt);obtain⟨u,hu⟩:=By (show 0<=ls[k] / 2 by omega);have hml:m'.length=V+1:=by rw[hA.len,fx]
   obtain⟨m2,e2,hA2⟩:=am4 hs ft mk lv NN m' ls[k] u hu auc hml (bG (by have:=List.count_le_length (a:=false) (l:=m');omega));have e2':MQ ((u:Int),nt n (m',wk n V mk lv))=some (nt n (m2,wk n V mk lv)):=e2;rw[bR auj,aW aug,bz (σ:=.I) hg];right;refine⟨(ls,(ls.length:Int),((k+1:Nat):Int),m2,nt n (wk n V mk lv)),?_,⟨k+1,m2,hlt,rfl,by rw[cK hg];exact hA.app hA2⟩,?_⟩
   .refine(bg (zl hu)).trans ((bg e2').trans ?_);have e:∀b b':Int,b=b'->(aul (ls,(ls.length:Int),b,m2,nt n (wk n V mk lv)):am DR DG)=aul (ls,(ls.length:Int),b',m2,nt n (wk n V mk lv)):=by rintro _ _ rfl;rfl
    exact e _ _ (bP (x:=(k:Int)+1) auc)
   .show ls.length-((k+1:Nat):Int).toNat<ls.length-(k:Int).toNat;omega
  .left;have hk2:k=ls.length:=auc
   rw[hk2,cV]at hA;rw[bC aui];exact⟨_,rfl,m',rfl,hA⟩
 obtain⟨o,e8,m,rfl,hA⟩:=e8;have hml:m.length=V+1:=by rw[hA.len,fx]
 have e13:Eg ((m.length:Int),(0:Int),[],m,())=some (mw n V ls,()):=by
  rw[<-hA.list];unfold Eg;delta u4;refine cO (fun k:Nat=>((m.length:Int),(k:Int),((List.range k).filter fun v=>m.getD v false).map (fun v:Nat=>(v:Int)),m,())) (V+1) rfl ?_ ?_ auh
  .intro k hk
   try dsimp only
   unfold Ef;rw[bR auj,aW aug];have hlen:(((List.range k).filter fun v=>m.getD v false).map (fun v:Nat=>(v:Int))).length<=100000000:=by rw[aG];have:=(asI (p:=fun v=>m.getD v false) (l:=List.range k)).length_le;rw[asi]at this;omega
   rw[bP (x:=(k:Int)+1) auc];cases q:m.getD k false
   .rw[bC (show gt .bool m (k:Int)=false from q),qS (p:=fun v=>m.getD v false) q];rfl
   .rw[bR (show gt .bool m (k:Int)=true from q),qT (p:=fun v=>m.getD v false) q];rw[aW (eX hlen auc)];rfl
  .try dsimp only
   unfold Ef;rw[bC aui];rfl
 have w1:pu (n.vars+1)=((V+1:Nat):Int):=by rw[hvars];exact auk
 show NB oT MQ tK Em Eg (dn n) ls=_;unfold NB;refine(bg et).trans ?_;refine(bC rfl).trans ?_;have ew:∀z:Int,z=((V+1:Nat):Int)->(aj (both (iE (0:Int) z) (both (iE z z) (iE ((Int.ofNat 1)*z) (281474976710656:Int))))<|
   aA (Em (ls,(Int.ofNat ls.length),(0:Int),(List.replicate (Int.toNat z) (Sh.zero .bool)),nt n (wk n V mk lv))) fun x2=>
   aA (Eg ((Int.ofNat (List.length x2.1)),(0:Int),[],x2.1,())) fun x3=>
   some (x3.1,()))=some (mw n V ls,()):=by
  rintro _ rfl;rw[aW (nC auj (aF (atm _)) (aF (by rw[show(Int.ofNat 1:Int)=1 from rfl];omega)))];exact aZ e8 (aZ e13 rfl)
 exact ew _ w1
set_option maxRecDepth 10000
theorem alp(k p:Nat):(List.replicate k (0:Int)).getD p 0=0:=by rw[ff,ati];split<;>rfl
variable{ts:jp}
theorem aj8{V:Nat}(F:jb ts V)(hV:V<=2000):∃x,MT (ts,())=some (x,true,()):=by
 have hl:=F.len;have h5:∃o,DS (ts,ts,(ts.length:Int),(0:Int),List.replicate (V+1) (0:Int),())=some o/\∃x:jp,o=.inr (x,()):=by
  unfold DS;delta u5;refine jD (fun d=>∃(k:Nat) (x:jp),k<=V+1/\d=(ts,ts,(ts.length:Int),(k:Int),x,())/\x.length=V+1/\∀p:Nat,(∀v:Nat,1<=v->v<k->rv ts (v:Int)≠(p:Int))->x.getD p 0=0) _ (fun d=>V+1-d.2.2.2.1.toNat) ?_ NN _ ⟨0,_,Do _,rfl,fx,fun p _=>alp _ _⟩ (bG (by show V+1-0<=_;omega));rintro d ⟨k,x,hk,rfl,hx,hz⟩
  try dsimp only
  unfold MS;by_cases hlt:k<V+1
  .have ek:pu ((k:Int)+1)=((k+1:Nat):Int):=auk;have fin:∀(b b':Int) (y:jp),b=b'->(aul (ts,ts,(ts.length:Int),b,y,()):am Dx Dq)=aul (ts,ts,(ts.length:Int),b',y,()):=by rintro _ _ _ rfl;rfl
   rw[bR auj,aW aug];right;by_cases q:k=0
   .subst q;refine⟨(ts,ts,(ts.length:Int),((1:Nat):Int),x,()),?_,⟨1,x,auc,rfl,hx,fun p hp=>hz p fun v h1 h2=>auc⟩,?_⟩
    .rw[bR (show iQ ((0:Nat):Int) 0=true from rfl)];exact fin _ _ _ ek
    .show V+1-((1:Nat):Int).toNat<V+1-((0:Nat):Int).toNat;omega
   .obtain⟨r1,r2⟩:=F.eJ k auc auc;obtain⟨u,hu⟩:=By (show 0<=rv ts (k:Int) by omega);have hu:gt .I ts (k:Int)=(u:Int):=hu;have hu2:rv ts (k:Int)=(u:Int):=hu;have hu3:x.getD u 0=0:=hz u fun v h1 h2 e=>F.inj v k h1 h2 auc (e.trans hu2.symm);refine⟨(ts,ts,(ts.length:Int),((k+1:Nat):Int),x.set u (k:Int),()),?_,⟨k+1,_,auc,rfl,by rw[aig];exact hx,fun p hp=>?_⟩,?_⟩
    .rw[bC aui,hu,bC aui,bC (show bK false true (iE (Int.ofNat ts.length) (u:Int))=false from aJ (by show ¬((ts.length:Nat):Int)<=(u:Int);omega)),aW aug];exact(bC (OF (fun z:Int=>Bool.not (iQ z 0)) hu3)).trans ((aW aug).trans (fin _ _ _ ek))
    .have h1:=hp k auc auc;rw[ff,List.getElem?_set_ne auc,<-ff];exact hz p fun v a b=>hp v a auc
    .show V+1-((k+1:Nat):Int).toNat<V+1-(k:Int).toNat;omega
  .left;rw[bC aui];exact⟨_,rfl,x,rfl⟩
 obtain⟨o,h5,x,rfl⟩:=h5;refine⟨x,?_⟩;show Na DS ts=_;unfold Na;have h00:rv ts 0=0:=F.zero;rw[bC (aJ (by show ¬((ts.length:Nat):Int)=0;omega)),aW aug];refine(bC (OF (fun z:Int=>Bool.not (iQ z 0)) h00)).trans ?_;rw[aW (nC (aF (by show(0:Int)<=((ts.length:Nat):Int);omega)) (aF (atm _)) (aF (by show(8:Int)*((ts.length:Nat):Int)<=281474976710656;omega)))];have h5':∀(z:Int) (y:jp),z=(ts.length:Int)->y=List.replicate (V+1) 0->DS (ts,ts,z,(0:Int),y,())=aum (x,()):=by rintro _ _ rfl rfl;exact h5
 exact(bg (h5' _ _ rfl (by show List.replicate ts.length (0:Int)=_;rw[hl]))).trans rfl
theorem pz{n:aB}{V:Nat}(hs:cA n V):Fit n:=by
 obtain⟨a1,a2,a3,a4,a5⟩:=hs.lens;have hv:=hs.v2;have hvars:=hs.vars;have i64:∀x:Int,-9000000<=x->x<=9000000->dZ x:=fun x a b=>⟨auc,auc⟩;have lit:∀l∈cL n,dZ l:=fun l hl=>by have:=hs.lits l hl;exact i64 l auc auc
 have df:∀v∈bp n,dZ v:=fun v hl=>by have:=hs.eJ v hl;exact i64 v auc auc
 refine⟨i64 _ auc auc,⟨auc,fun x hx=>df x (by unfold bp;simp only[qr];exact .inl (.inl (.inl hx)))⟩,⟨auc,fun l hl=>⟨df l.var (by unfold bp;simp only[qr,rt];exact .inl (.inl (.inr ⟨l,hl,rfl⟩))),lit l.next (by unfold cL;simp only[qr,rt];exact .inl (.inl (.inl (.inl (.inl ⟨l,hl,rfl⟩))))),by have:=hs.init l hl;exact i64 _ auc auc⟩⟩,
  ⟨auc,fun x hx=>lit x (by unfold cL;simp only[qr];exact .inl (.inl (.inl (.inl (.inr hx)))))⟩,⟨auc,fun x hx=>lit x (by unfold cL;simp only[qr];exact .inl (.inl (.inl (.inr hx))))⟩,⟨auc,fun x hx=>lit x (by unfold cL;simp only[qr];exact .inl (.inl (.inr hx)))⟩,⟨auc,fun m hm=>?_⟩,⟨auc,fun a ha=>⟨df a.var (by unfold bp;simp only[qr,rt];exact .inr ⟨a,ha,rfl⟩),lit a.a (by unfold cL;simp only[qr,rc];exact .inr ⟨a,ha,by simp[fH]⟩),lit a.b (by unfold cL;simp only[qr,rc];exact .inr ⟨a,ha,by simp[fH]⟩)⟩⟩⟩
 obtain⟨b1,b2,b3,b4,b5,b6,b7,b8⟩:=hs.af m hm;have ml:∀l∈dU m,dZ l:=fun l hl=>lit l (by unfold cL;simp only[qr,rc];exact .inl (.inr ⟨m,hm,hl⟩));refine⟨⟨i64 _ auc auc,auc⟩,i64 _ auc auc,auc,auc,fun r hr=>?_,fun w hw=>?_⟩
 .have e:=b5 r hr;have hd:=hs.eJ r.var (by unfold bp;simp only[qr,rc];exact .inl (.inr ⟨m,hm,rc.2 ⟨r,hr,rt.2 ⟨0,act.2 auc,aue⟩⟩⟩));exact⟨auc,auc,auc,fun x hx=>ml x (by unfold dU;simp only[qr,rc];exact .inl ⟨r,hr,hx⟩)⟩
 .obtain⟨e1,e2⟩:=b6 w hw;have wl:∀l∈eF w,dZ l:=fun l hl=>ml l (by unfold dU;simp only[qr,rc];exact .inr ⟨w,hw,hl⟩);unfold eF at wl;exact⟨auc,auc,wl _ Pi,fun x hx=>wl x (Id _ (AI _ hx)),fun x hx=>wl x (Id _ (Fd _ hx))⟩
variable{x:Int}
theorem Fm{n:Nat}(h:0<=x/\x<n):rN n x=true:=by unfold rN;rw[fm h.1,fm h.2];rfl
theorem oo{n:Nat}(h:0<=x/\x / 2<n):gi n x=true:=by unfold gi;rw[fm h.1,fm h.2];rfl
variable{l:Int}
theorem amI:az ts l=rl ts l:=by
 unfold az rl;rw[ot];have:l % 2=0\/l % 2=1:=auc
 rcases this with h|h
 .rw[h];rfl
 .rw[h];rfl
theorem aai(ts:jp)(n:aB):tD ts n=eS ts n:=by
 have e1:HQ ts=rv ts:=by funext x;rfl
 have e2:az ts=rl ts:=by funext l;exact amI
 unfold tD;rw[e1,e2];rfl
theorem abB{n:aB}{V:Nat}(hs:cA n V)(hc:Pl.gV n=0)(F:jb ts V)(C:∀m∈n.af,mg ts m=true):preB n ts=true:=by
 have hl:=F.len;have hv:=hs.v2;have hvars:=hs.vars;obtain⟨x,hx⟩:=aj8 F hv;have hlit:∀l∈cL n,0<=l/\l / 2<(ts.length:Int):=fun l h=>by have:=hs.lits l h;omega
 have hdef:∀v∈bp n,0<=v/\v<(ts.length:Int):=fun v h=>by have:=hs.eJ v h;omega
 have ml:∀m∈n.af,∀l∈dU m,0<=l/\l / 2<(ts.length:Int):=fun m hm l h=>hlit l (by unfold cL;simp only[qr,rc];exact .inl (.inr ⟨m,hm,h⟩));have hd:∀m∈n.af,∀r∈m.reads,∀i:Nat,i<m.word.toNat->r.var+(i:Int)∈bp n:=fun m hm r hr i hi=>by unfold bp;simp only[qr,rc];exact .inl (.inr ⟨m,hm,rc.2 ⟨r,hr,rt.2 ⟨i,act.2 hi,rfl⟩⟩⟩)
 have hr0:∀m∈n.af,∀r∈m.reads,0<=r.var/\r.var<(ts.length:Int):=fun m hm r hr=>by have:=hdef _ (hd m hm r hr 0 (by have:=(hs.af m hm).2.2.1;omega));omega
 unfold preB;simp only[asp,IS,acl];refine⟨pV (pz hs),hc,auc,auc,fun y hy=>?_,?_,fun m hm=>?_,?_⟩
 .obtain⟨i,hi,rfl⟩:=ash hy;have:=F.le (v:=(i:Int)) auc auc;rw[ot,ST,ff,bA hi]at this;simp only[Option.getD_some]at this;omega
 .unfold Hs;simp only[asp,acl];refine⟨fun x hx=>Fm (hdef x ?_),fun l hl2=>⟨Fm (hdef _ ?_),oo (hlit _ ?_)⟩,fun x hx=>oo (hlit x ?_),fun x hx=>oo (hlit x ?_),fun x hx=>oo (hlit x ?_),fun m hm r hr=>⟨Fm (hr0 m hm r hr),fun y hy=>oo (ml m hm y ?_)⟩,fun m hm w hw=>⟨oo (ml m hm _ ?_),fun y hy=>oo (ml m hm y ?_),fun y hy=>oo (ml m hm y ?_)⟩,fun a ha=>⟨Fm (hdef _ ?_),oo (hlit _ ?_),oo (hlit _ ?_)⟩⟩
  .unfold bp;simp only[qr];exact .inl (.inl (.inl hx))
  .unfold bp;simp only[qr,rt];exact .inl (.inl (.inr ⟨l,hl2,rfl⟩))
  .unfold cL;simp only[qr,rt];exact .inl (.inl (.inl (.inl (.inl ⟨l,hl2,rfl⟩))))
  .unfold cL;simp only[qr];exact .inl (.inl (.inl (.inl (.inr hx))))
  .unfold cL;simp only[qr];exact .inl (.inl (.inl (.inr hx)))
  .unfold cL;simp only[qr];exact .inl (.inl (.inr hx))
  .unfold dU;simp only[qr,rc];exact .inl ⟨r,hr,hy⟩
  .unfold dU;simp only[qr,rc];exact .inr ⟨w,hw,by unfold eF;simp⟩
  .unfold dU;simp only[qr,rc];exact .inr ⟨w,hw,by unfold eF;simp[hy]⟩
  .unfold dU;simp only[qr,rc];exact .inr ⟨w,hw,by unfold eF;simp[hy]⟩
  .unfold bp;simp only[qr,rt];exact .inr ⟨a,ha,rfl⟩
  .unfold cL;simp only[qr,rc];exact .inr ⟨a,ha,by simp[fH]⟩
  .unfold cL;simp only[qr,rc];exact .inr ⟨a,ha,by simp[fH]⟩
 .unfold Hr;simp only[asp,IS,acl,act];intro r hr i hi;have h1:=hdef _ (hd m hm r hr i hi);refine⟨(hr0 m hm r hr).1,auc,?_⟩;have h2:=C m hm;unfold mg at h2;obtain⟨k,hk,rfl⟩:=ash hr;have h3:=(acl.1 h2) k (act.2 hk);rw[ff,bA hk]at h3;have h3:pH ts m.word m.reads[k]=true:=h3;unfold pH at h3;exact asl ((acl.1 h3) i (act.2 hi))
 .unfold R8;rw[hx]
abbrev gR:=List iU.T
abbrev tX(n:aB)(m ms:kw)(left:jp)(lm mm:gR):=nt n (m,ms,left,lm,mm,())
abbrev eK(n:aB)(m ms:kw)(left:jp)(lm mm:gR):=nt n (m,ms,lm,mm,left,())
variable{m:kw}
theorem amK(hl:ls[k]?=some l)(h:0<l / 2)(h2:m.getD (l / 2).toNat false=false):iW m (ls.take (k+1))=iW m (ls.take k)++[l]:=by unfold iW;rw[cK hl,are,asq,IO (by rw[h2,fm h];rfl)];rfl
theorem aa9(hl:ls[k]?=some l)(h:¬(0<l / 2/\m.getD (l / 2).toNat false=false)):iW m (ls.take (k+1))=iW m (ls.take k):=by unfold iW;rw[cK hl,are,asq,Fr (by simp only[asp,IS,Bool.not_eq_true'];exact h)];simp
def kE(m:kw)(v:Int):Bool:=!m.getD v.toNat false
variable{v:Int}{L:jp}
theorem ab3(hl:L[k]?=some v)(h:m.getD v.toNat false=false):(L.take (k+1)).filter (kE m)=(L.take k).filter (kE m)++[v]:=by rw[cK hl,are,asq,IO (by unfold kE;rw[h];rfl)];rfl
theorem ab2(hl:L[k]?=some v)(h:m.getD v.toNat false=true):(L.take (k+1)).filter (kE m)=(L.take k).filter (kE m):=by rw[cK hl,are,asq,Fr (by unfold kE;rw[h];simp)];simp
theorem aak(m:kw)(L:jp)(v:Int):dp m (L++[v])=(dp m L).set v.toNat true:=by unfold dp;rw[aso];rfl
section
variable{n:aB}{V:Nat}(hs:cA n V)(ft:Fit n)(h0:da n=0)(ha:dO (bh n) V=true)
include hs ft h0 ha
theorem xb(hl:∀l∈ls,0<=l/\l / 2<=(V:Int))(hn:ls.length<=1000000)(hm:m.length=V+1)(hc:pS n (On m))(ms:kw){left:jp}(hleft:todo m left<=10000)(lm mm:gR) :
  ∃m' left',qE (ls,tX n m ms left lm mm)=some (eK n m' ms left' lm mm)/\pC n V ls m left m' left':=by
 refine⟨dp m (nS n V m ls),left++nS n V m ls,?_,ant hs (fun l h=>(hl l h).2) hm hc left⟩;have hV2:=hs.v2;have e2:My (ls,((ls.length:Int),(0:Int),nt n (m,ms,left,lm,mm,[],())) )=some (nt n (m,ms,left,lm,mm,iW m ls,())):=by
  unfold My;delta gK u5 bV cy;refine cO (fun k:Nat=>(ls,(ls.length:Int),(k:Int),nt n (m,ms,left,lm,mm,iW m (ls.take k),())) ) ls.length rfl ?_ ?_ auh
  .intro k hk;unfold nt
   try dsimp only
   unfold Dm;have hg:=bA hk;obtain⟨h1,h2⟩:=hl _ (ut hk);obtain⟨u,hu⟩:=By (show 0<=ls[k] / 2 by omega);have hut:(ls[k] / 2).toNat=u:=auc
   rw[bR auj,aW aug,bz (σ:=.I) hg];refine(bg (zl hu)).trans ?_;have hlen:(iW m (ls.take k)).length<=100000000:=by
    have h3:=(asI (p:=fun x=>decide (0<x / 2)&&!m.getD (x / 2).toNat false) (l:=ls.take k)).length_le;have h4:(ls.take k).length<=ls.length:=by rw[dK];omega
    unfold iW;omega
   have ek:pu ((k:Int)+1)=((k+1:Nat):Int):=auk;have fin:∀(b b':Int) (s s':jp),b=b'->s=s'->(aul (ls,(ls.length:Int),b,nt n (m,ms,left,lm,mm,s,())):am CP Cm)=aul (ls,(ls.length:Int),b',nt n (m,ms,left,lm,mm,s',())):=by rintro _ _ _ _ rfl rfl;rfl
   by_cases q:0<ls[k] / 2
   .refine(bR auj).trans ((aW aug).trans ?_);cases q2:m.getD u false
    .refine(bR (show bK true (Bool.not (gt .bool m (u:Int))) false=true from(OF Bool.not q2))).trans ((aW (eX hlen auc)).trans ?_);exact fin _ _ _ _ ek (amK hg q (by rw[hut];exact q2)).symm
    .refine(bC (show bK true (Bool.not (gt .bool m (u:Int))) false=false from(OF Bool.not q2))).trans ?_;exact fin _ _ _ _ ek (aa9 hg (fun h=>by rw[hut,q2]at h;cases h.2)).symm
   .refine(bC aui).trans ?_;exact fin _ _ _ _ ek (aa9 hg (fun h=>q h.1)).symm
  .unfold nt
   try dsimp only
   unfold Dm;rw[bC aui,cV];rfl
 have hsl:∀l∈iW m ls,0<=l/\l / 2<=(V:Int):=fun l h=>hl l (asv.1 h).1;have hsn:(iW m ls).length<=1000000:=EQ List.filter_sublist.length_le hn;show MF Za oT My Mg ls n.vars n.ax (n.ah.map aX) n.bk n.aU n.constraints (n.af.map aM) (n.ag.map aL) m ms left lm mm=_;unfold MF;refine(bg e2).trans ?_;by_cases q:(iW m ls).length=0
 .refine(bR (aF (show((iW m ls).length:Int)=0 by omega))).trans ?_;have e:nS n V m ls=[]:=by
   unfold nS;have:iW m ls=[]:=AC q;rw[this];have:mw n V []=[]:=List.eq_nil_iff_forall_not_mem.2 fun v hv=>by have h:=(Od.1 hv).2.2;exact sB (S:=fun _=>False) (fun _ _ _ h _ _ _ _=>h) (fun l hl=>by simp at hl) h
   rw[this];rfl
  rw[e,di];rfl
 .refine(bC (aJ (show ¬((iW m ls).length:Int)=0 by omega))).trans ((bg (ajp hs ft h0 ha hsl hsn)).trans ?_);obtain⟨L,hL⟩:∃L,L=mw n V (iW m ls):=⟨_,rfl⟩;have hLm:∀v∈L,0<=v/\v<=(V:Int):=fun v hv=>by rw[hL]at hv;have:=Od.1 hv;exact⟨this.1,this.2.1⟩
  have hLn:(L.map Int.toNat).Nodup:=by rw[hL];exact Z7 n V _
  have hLl:L.length<=V+1:=by rw[hL];unfold mw;rw[aG];exact EQ List.filter_sublist.length_le (by rw[asi];exact ro _)
  have eN:nS n V m ls=L.filter (kE m):=by rw[hL];rfl
  have e10:Mg (L,(L.length:Int),(0:Int),nt n (m,ms,lm,mm,left,()))=some (eK n (dp m (L.filter (kE m))) ms (left++L.filter (kE m)) lm mm):=by
   unfold Mg;delta u16 u4 bV cy;refine cO (fun k:Nat=>(L,(L.length:Int),(k:Int),eK n (dp m ((L.take k).filter (kE m))) ms (left++(L.take k).filter (kE m)) lm mm)) L.length (by rw[WP];show _=(L,_,_,eK n m ms (left++[]) lm mm);rw[di];rfl) ?_ ?_ auh
   .intro k hk;unfold eK nt
    try dsimp only
    unfold Dc;have hg:=bA hk;obtain⟨h1,h2⟩:=hLm _ (ut hk);obtain⟨u,hu⟩:=By h1;have hu:L[k]=(u:Int):=hu;have hut:(L[k]).toNat=u:=auc
    have hml:(dp m ((L.take k).filter (kE m))).length=V+1:=by rw[wN];exact hm
    have hu2:(dp m ((L.take k).filter (kE m))).getD u false=m.getD u false:=by
     rw[atR];show On _ u↔On m u;rw[xm];constructor
     .rintro(h|⟨w,hw,e,_⟩)
      .exact h
      .exfalso;have hw:=(asv.1 hw).1;obtain⟨j,hj,hj2⟩:=ash hw;rw[dK]at hj;rw[List.getElem_take]at hj2;have hp:=asN.1 (atc.1 hLn) j k (by rw[aG];omega) (by rw[aG];omega) auc;rw[atA,atA,hj2,e,hut]at hp;exact hp rfl
     .exact .inl
    rw[bR auj,aW aug,bz (σ:=.I) hg,hu,aW aug];have ek:pu ((k:Int)+1)=((k+1:Nat):Int):=auk;have hg2:L[k]?=some (u:Int):=by rw[hg,hu]
    have fin:∀(b b':Int) (s s':kw) (t t':jp),b=b'->s=s'->t=t'->(aul (L,(L.length:Int),b,eK n s ms t lm mm):am Ck BP)=aul (L,(L.length:Int),b',eK n s' ms t' lm mm):=by rintro _ _ _ _ _ _ rfl rfl rfl;rfl
    cases q2:m.getD u false
    .have hnl:(left++(L.take k).filter (kE m)).length<=100000000:=by
      rw[bF];have h3:=(asI (p:=kE m) (l:=L.take k)).length_le;have h4:(L.take k).length<=L.length:=by rw[dK];omega
      unfold todo at hleft;omega
     refine(bR (show Bool.not (gt .bool (dp m ((L.take k).filter (kE m))) (u:Int))=true from(OF Bool.not (hu2.trans q2)))).trans ((aW aug).trans ((aW (eX hnl auc)).trans ?_));refine fin _ _ _ _ _ _ ek ?_ ?_
     .rw[ab3 hg2 q2,aak];rfl
     .rw[ab3 hg2 q2,<-bM];rfl
    .refine(bC (show Bool.not (gt .bool (dp m ((L.take k).filter (kE m))) (u:Int))=false from(OF Bool.not (hu2.trans q2)))).trans ?_;refine fin _ _ _ _ _ _ ek ?_ ?_
     .rw[ab2 hg2 q2]
     .rw[ab2 hg2 q2]
   .unfold eK nt
    try dsimp only
    unfold Dc;rw[bC aui,cV];rfl
  rw[eN,<-hL];exact(bg e10).trans rfl
end
abbrev iA{α:Type}(n:aB)(r:α):=(n.vars,n.ah.map aX,n.bk,n.aU,n.constraints,n.af.map aM,n.ag.map aL,r)
def ep(D:jp)(k:Nat):jp:=((List.range k).filter fun v:Nat=>decide (1<=v)&&!D.contains (v:Int)).map fun v:Nat=>(v:Int)
variable{D:jp}
theorem Ok(h:1<=k)(h2:(k:Int)∉D):ep D (k+1)=ep D k++[(k:Int)]:=by
 have hc:D.contains (k:Int)=false:=by grind
 exact qT (p:=fun v:Nat=>decide (1<=v)&&!D.contains (v:Int)) (by grind)
theorem Oj(h2:(k:Int)∈D):ep D (k+1)=ep D k:=by
 have hc:D.contains (k:Int)=true:=by grind
 exact qS (p:=fun v:Nat=>decide (1<=v)&&!D.contains (v:Int)) (by grind)
theorem aae(D:jp):ep D 1=[]:=rfl
theorem aad(D:jp)(k:Nat):(ep D k).length<=k:=by
 unfold ep
 grind
theorem wX(L t:jp)(k:Int)(v:Int):fB t k (L++[v])=(fB t k L).set v.toNat (k+L.length):=by rw[N7];rfl
section
variable{n:aB}{V:Nat}(hs:cA n V)(h0:da n=0)(ha:dO (bh n) V=true){s:S2}(M:jk n V s)
include hs h0 ha M
theorem akM:NC (dn (cz n s),())=some (dn (lH n s V),(0:Int),()):=by
 have hV2:=hs.v2;have P:=uB hs M;have hPf:=pz P;have E:=sJ hs (s:=s);obtain⟨D,hD⟩:∃D,D=dF n s:=⟨_,rfl⟩;have hDd:bp (cz n s)=D:=by rw[hD];rfl
 have hDr:∀v∈D,1<=v/\v<=(V:Int):=fun v hv=>by rw[hD]at hv;exact hs.eJ v ((qM n s).subset hv)
 have hDl:D.length<=V:=by rw[hD];exact Fe hs M
 have hvars:(cz n s).vars=(V:Int):=P.vars;have hmiss:pM n s V=ep D (V+1):=by rw[hD];rfl
 have hIl:(cz n s).ax.length<=2000:=P.lens.1;have hfull:=ux hs M;have hT:lI n s V={ cz n s with ax:=(cz n s).ax++ep D (V+1) }:=by unfold lI;rw[hmiss]
 have d8:gd n s V=fB (List.replicate (V+1) 0) 1 (D++ep D (V+1)):=by unfold gd jn;rw[hmiss,<-hD]
 have hpre:=abB hfull (aj7 hs M ha) (sI hs) (E6 hs (s:=s));have hsm:lH n s V={ eS (gd n s V) (cz n s)with vars:=(D.length:Int) }:=by unfold lH;rw[hD]
 obtain⟨Q,hQ⟩:∃Q,Q=cz n s:=⟨_,rfl⟩;rw[<-hQ]at hPf hDd hvars hIl hT hsm |-;rw[hT]at hpre;obtain⟨I,hI⟩:∃I,I=Q.ax:=⟨_,rfl⟩;obtain⟨ts,hts⟩:∃ts,ts=gd n s V:=⟨_,rfl⟩;rw[<-hts]at hpre d8 hsm;have htl:ts.length=V+1:=by rw[d8,oe,fx]
 rw[hsm];have eD:Zr (nt Q ())=some (D,()):=by show um Q.vars Q.ax (Q.ah.map aX) Q.bk Q.aU Q.constraints (Q.af.map aM) (Q.ag.map aL)=_;unfold um;have e:eH (Q.vars,Q.ax,Q.ah.map aX,Q.bk,Q.aU,Q.constraints,Q.af.map aM,Q.ag.map aL,())=Q:=o6 Q;rw[e,pV hPf,hDd];rfl
 have eC:sy (nt Q ())=some (iA Q (I,())):=by show od Q.vars Q.ax (Q.ah.map aX) Q.bk Q.aU Q.constraints (Q.af.map aM) (Q.ag.map aL)=_;unfold od;have e:eH (Q.vars,Q.ax,Q.ah.map aX,Q.bk,Q.aU,Q.constraints,Q.af.map aM,Q.ag.map aL,())=Q:=o6 Q;rw[e,pV hPf,hI];rfl
 obtain⟨m,hm⟩:∃m,m=dp (List.replicate (V+1) false) D:=⟨_,rfl⟩;have hml:m.length=V+1:=by rw[hm,wN,fx]
 have hmo:∀v:Nat,v<=V->(m.getD v false=true↔(v:Int)∈D):=fun v hv=>by
  show On m v↔_;rw[hm,xm];constructor
  .rintro(h|⟨u,hu,e,_⟩)
   .exact absurd h nE
   .have:=hDr u hu;rw[show(v:Int)=u by omega];exact hu
  .intro h;exact .inr ⟨(v:Int),h,aue,by rw[fx];omega⟩
 have e4:EC (D,D,(D.length:Int),(0:Int),nt Q ((0:Int),List.replicate (V+1) false,()))=some (D,nt Q ((0:Int),m,())):=by
  rw[hm];unfold EC;delta gA u2 bV cy;refine cO (fun k:Nat=>(D,D,(D.length:Int),(k:Int),nt Q ((0:Int),dp (List.replicate (V+1) false) (D.take k),()))) D.length rfl ?_ ?_ auh
  .intro k hk;unfold nt
   try dsimp only
   unfold EB;have hg:=bA hk;obtain⟨r1,r2⟩:=hDr _ (ut hk);rw[bR auj,aW aug,bz (σ:=.I) hg,aW (aP ⟨auc,by rw[wN,fx];omega⟩),cK hg,aak,bP (x:=(k:Int)+1) auc];rfl
  .unfold nt
   try dsimp only
   unfold EB;rw[bC aui,cV];rfl
 have e10:Nu (D,(1:Int),nt Q ((0:Int),m,iA Q (I,())))=some (D,nt Q ((0:Int),m,iA Q (I++ep D (V+1),()))):=by
  unfold Nu;delta kZ u8 bV cy;refine cO (fun k:Nat=>(D,((k+1:Nat):Int),nt Q ((0:Int),m,iA Q (I++ep D (k+1),())))) V (by rw[aae,di];rfl) ?_ ?_ auh
  .intro k hk;unfold nt iA
   try dsimp only
   unfold Es;have ek:pu (((k+1:Nat):Int)+1)=((k+1+1:Nat):Int):=auk;have fin:∀(b b':Int) (L L':jp),b=b'->L=L'->(aul (D,b,nt Q ((0:Int),m,iA Q (L,()))):am DY DI)=aul (D,b',nt Q ((0:Int),m,iA Q (L',()))):=by rintro _ _ _ _ rfl rfl;rfl
   rw[bR auj,aW aug];have hmk:=hmo (k+1) auc;cases q:m.getD (k+1) false with
   |true=>rw[bC (show Bool.not (gt .bool m ((k+1:Nat):Int))=false from OF Bool.not q)];exact fin _ _ _ _ ek (by rw[Oj (hmk.1 q)])|false=>
    have hnD:((k+1:Nat):Int)∉D:=fun h=>by have:=hmk.2 h;rw[q]at this;cases this
    have hln:(I++ep D (k+1)).length<=100000000:=by rw[bF,hI];have:=aad D (k+1);omega
    rw[bR (show Bool.not (gt .bool m ((k+1:Nat):Int))=true from OF Bool.not q),aW (eX hln auc)];exact fin _ _ _ _ ek (by rw[Ok auc hnD,<-bM];rfl)
  .unfold nt iA
   try dsimp only
   unfold Es;rw[bC aui];rfl
 have e16:Ew (D,D,(D.length:Int),(0:Int),nt Q ((0:Int),m,iA Q (I++ep D (V+1),List.replicate (V+1) (0:Int),())))=some (D,nt Q ((0:Int),m,iA Q (I++ep D (V+1),fB (List.replicate (V+1) 0) 1 D,()))):=by
  unfold Ew;delta qC ju bV cy;refine cO (fun k:Nat=>(D,D,(D.length:Int),(k:Int),nt Q ((0:Int),m,iA Q (I++ep D (V+1),fB (List.replicate (V+1) 0) 1 (D.take k),())))) D.length rfl ?_ ?_ auh
  .intro k hk;unfold nt iA
   try dsimp only
   unfold Et;have hg:=bA hk;obtain⟨r1,r2⟩:=hDr _ (ut hk);have ek:pu ((k:Int)+1)=((k+1:Nat):Int):=auk;have fin:∀(b b':Int) (L L':jp),b=b'->L=L'->(aul (D,D,(D.length:Int),b,nt Q ((0:Int),m,iA Q (I++ep D (V+1),L,()))):am DZ DJ)=aul (D,D,(D.length:Int),b',nt Q ((0:Int),m,iA Q (I++ep D (V+1),L',()))):=by rintro _ _ _ _ rfl rfl;rfl
   rw[bR auj,aW aug,bz (σ:=.I) hg,aW (aP ⟨auc,by rw[oe,fx];omega⟩)];refine fin _ _ _ _ ek ?_;rw[cK hg,wX,dK,asO (asZ hk),ek,show(1:Int)+(k:Int)=((k+1:Nat):Int) by omega];rfl
  .unfold nt iA
   try dsimp only
   unfold Et;rw[bC aui,cV];rfl
 have e22:Nv (D,(D.length:Int),(1:Int),nt Q ((0:Int),m,iA Q (I++ep D (V+1),fB (List.replicate (V+1) 0) 1 D,())))=some (D,nt Q ((0:Int),iA Q (I++ep D (V+1),ts,()))):=by
  rw[d8];unfold Nv;delta lF ei bV cy;refine cO (fun k:Nat=>(D,((D.length+(ep D (k+1)).length:Nat):Int),((k+1:Nat):Int),nt Q ((0:Int),m,iA Q (I++ep D (V+1),fB (List.replicate (V+1) 0) 1 (D++ep D (k+1)),())))) V (by rw[aae,di];rfl) ?_ ?_ auh
  .intro k hk;unfold nt iA
   try dsimp only
   unfold Eu;have hkl:=aad D (k+1);have ek:pu (((k+1:Nat):Int)+1)=((k+1+1:Nat):Int):=auk;have fin:∀(a a' b b':Int) (L L':jp),a=a'->b=b'->L=L'->(aul (D,a,b,nt Q ((0:Int),m,iA Q (I++ep D (V+1),L,()))):am D3 DK)=aul (D,a',b',nt Q ((0:Int),m,iA Q (I++ep D (V+1),L',()))):=by rintro _ _ _ _ _ _ rfl rfl rfl;rfl
   rw[bR auj,aW aug];have hmk:=hmo (k+1) auc;cases q:m.getD (k+1) false with
   |true=>rw[bC (show Bool.not (gt .bool m ((k+1:Nat):Int))=false from OF Bool.not q)];exact fin _ _ _ _ _ _ (by rw[Oj (hmk.1 q)]) ek (by rw[Oj (hmk.1 q)])|false=>
    have hnD:((k+1:Nat):Int)∉D:=fun h=>by have:=hmk.2 h;rw[q]at this;cases this
    have en:pu (((D.length+(ep D (k+1)).length:Nat):Int)+1)=((D.length+(ep D (k+1)).length+1:Nat):Int):=auk;rw[bR (show Bool.not (gt .bool m ((k+1:Nat):Int))=true from OF Bool.not q),aW (aP ⟨auc,by rw[oe,fx];omega⟩)];refine fin _ _ _ _ _ _ ?_ ek ?_
    .rw[Ok auc hnD,bF,en];rfl
    .rw[Ok auc hnD,<-bM,wX,en];have h5:(D++ep D (k+1)).length=D.length+(ep D (k+1)).length:=bF;rw[show(1:Int)+((D++ep D (k+1)).length:Int)=((D.length+(ep D (k+1)).length+1:Nat):Int) by rw[h5];omega];rfl
  .unfold nt iA
   try dsimp only
   unfold Eu;rw[bC aui];rfl
 have eR:YX (Q.vars,I++ep D (V+1),Q.ah.map aX,Q.bk,Q.aU,Q.constraints,Q.af.map aM,Q.ag.map aL,ts,())=some (Q.vars,(I++ep D (V+1)).map (rv ts),(Q.ah.map (fF ts)).map aX,Q.bk.map (rl ts),Q.aU.map (rl ts),Q.constraints.map (rl ts),(Q.af.map (fG ts)).map aM,(0:Int),(Q.ag.map (fO ts)).map aL,()):=by show uk Q.vars (I++ep D (V+1)) (Q.ah.map aX) Q.bk Q.aU Q.constraints (Q.af.map aM) (Q.ag.map aL) ts=_;unfold uk;rw[hI];have e:eH (Q.vars,Q.ax++ep D (V+1),Q.ah.map aX,Q.bk,Q.aU,Q.constraints,Q.af.map aM,Q.ag.map aL,())={ Q with ax:=Q.ax++ep D (V+1) }:=o6 { Q with ax:=Q.ax++ep D (V+1) };rw[e,hpre,aai];rfl
 have w1:pu (Q.vars+1)=((V+1:Nat):Int):=by rw[hvars];exact auk
 show NJ YX sy Zr EC Nu Ew Nv (dn Q)=_;unfold NJ;refine(bg eD).trans ?_;have ew:∀(z a:Int) (d:Nat),z=((V+1:Nat):Int)->a=(d:Int)->d<=8->both (iE (0:Int) z) (both (iE z z) (iE (a*z) (281474976710656:Int)))=true:=by rintro _ _ d rfl rfl hd;refine nC auj (aF (atm _)) (aF ?_);have:(d:Int)*((V+1:Nat):Int)<=8*((V+1:Nat):Int):=Int.mul_le_mul_of_nonneg_right auc auc;omega
 refine(aW (ew _ _ 1 w1 rfl auc)).trans ?_;have e4':∀L:kw,L=List.replicate (V+1) false->EC (D,D,(D.length:Int),(0:Int),nt Q ((0:Int),L,()))=some (D,nt Q ((0:Int),m,())):=by rintro _ rfl;exact e4
 refine(bg (e4' _ (OF (fun z:Int=>List.replicate z.toNat false) w1))).trans ((bg eC).trans ((bg e10).trans ((aW (ew _ _ 8 w1 rfl auc)).trans ?_)));have e16':∀L:jp,L=List.replicate (V+1) (0:Int)->Ew (D,D,(D.length:Int),(0:Int),nt Q ((0:Int),m,iA Q (I++ep D (V+1),L,())))=some (D,nt Q ((0:Int),m,iA Q (I++ep D (V+1),fB (List.replicate (V+1) 0) 1 D,()))):=by rintro _ rfl;exact e16
 refine(bg (e16' _ (OF (fun z:Int=>List.replicate z.toNat (0:Int)) w1))).trans ((bg e22).trans ((bg eR).trans ((bC rfl).trans ?_)));have hlen2:(((I++ep D (V+1)).map (rv ts)).length:Int)=(I.length:Int)+((ep D (V+1)).length:Int):=by rw[aG,bF];omega
 have ck:both (iE (0:Int) (Int.ofNat Q.ax.length)) (iE (Int.ofNat Q.ax.length) (Int.ofNat ((I++ep D (V+1)).map (rv ts)).length))=true:=by have a1:iE (0:Int) (Int.ofNat Q.ax.length)=true:=aF (by show(0:Int)<=((Q.ax.length:Nat):Int);omega);have a2:iE (Int.ofNat Q.ax.length) (Int.ofNat ((I++ep D (V+1)).map (rv ts)).length)=true:=aF (by show((Q.ax.length:Nat):Int)<=(((I++ep D (V+1)).map (rv ts)).length:Int);rw[hlen2,<-hI];omega);rw[a1,a2];rfl
 refine(aW ck).trans ?_;have ht:List.take Q.ax.length ((I++ep D (V+1)).map (rv ts))=Q.ax.map (rv ts):=by rw[cH,<-hI];have:I.length=(I.map (rv ts)).length:=(aG _).symm;rw[this];exact atL
 have fin:∀L:jp,L=Q.ax.map (rv ts)->(some (((D.length:Int),L,(Q.ah.map (fF ts)).map aX,Q.bk.map (rl ts),Q.aU.map (rl ts),Q.constraints.map (rl ts),(Q.af.map (fG ts)).map aM,(Q.ag.map (fO ts)).map aL,()),(0:Int),()):Option (TL ED))=some (dn { eS ts Q with vars:=(D.length:Int) },(0:Int),()):=by rintro _ rfl;rfl
 exact fin _ ht
end
abbrev dL{α:Type}(n:aB)(r:α):=(n.vars,n.ax,n.ah.map aX,n.bk,n.aU,n.constraints,n.af.map aM,r)
abbrev Hu(y:ae.T):ae.T:=(y.1,y.2.1,y.2.2.1,())
theorem abe{α:Type}(f:α->α){L:List α}{a:α}(h:L[k]?=some a):((L.take k).map f++L.drop k).set k (f a)=(L.take (k+1)).map f++L.drop (k+1):=by obtain⟨hk,ha⟩:=rg.1 h;rw[cK h,ass hk,ha,cH,List.set_append_right _ _ (by grind),aG,dK,asO (asZ hk),Nat.sub_self,atS,bM];rfl
theorem aa6(a b:Int):fD (iL a b) b a=max a b:=by
 unfold fD
 grind
theorem aa7(a b:Int):fD (iL b a) b a=min a b:=by
 unfold fD
 grind
def gL(n:aB)(V k:Nat):List dM:=(((kH n V).take k).filter fun x=>!x.1.rd).map fun x=>n.ag.getD x.1.pos rn
theorem amW(R:aB)(hR:R.ag.length<=2000)(ts:jp):DW ((0:Int),(R.ag.length:Int),(0:Int),(0:Int),ts,dL R (R.ag.map aL,()))=some ((0:Int),(0:Int),ts,dL R ((R.ag.map fw).map aL,())):=by
 unfold DW;delta iT u1 bV cy;refine cO (fun k:Nat=>((0:Int),(R.ag.length:Int),(k:Int),(0:Int),ts,dL R (((R.ag.take k).map fw++R.ag.drop k).map aL,()))) R.ag.length rfl ?_ ?_ auh
 .intro k hk;unfold dL
  try dsimp only
  unfold DU;have hg:=bA hk;obtain⟨a,ha⟩:∃a,a=R.ag[k]:=⟨_,rfl⟩;rw[<-ha]at hg;have hlen:((R.ag.take k).map fw++R.ag.drop k).length=R.ag.length:=by rw[bF,aG,dK,asR];omega
  have hX:(((R.ag.take k).map fw++R.ag.drop k).map aL)[k]?=some (aL a):=by rw[cW,In (by rw[aG,dK];omega),aG,dK,asO (asZ hk),Nat.sub_self,atE,atf,hg];rfl
  obtain⟨X,hXX⟩:∃X,X=((R.ag.take k).map fw++R.ag.drop k).map aL:=⟨_,rfl⟩;have hXl:X.length=R.ag.length:=by rw[hXX,aG,hlen]
  have hup:X.set k (aL (fw a))=((R.ag.take (k+1)).map fw++R.ag.drop (k+1)).map aL:=by rw[hXX,<-abe fw hg,List.map_set]
  rw[<-hXX]at hX |-;rw[<-hup];have ek:pu ((k:Int)+1)=((k+1:Nat):Int):=auk;rw[bR auj,aW aug,aW (show nQ (Int.toNat (k:Int)) (Int.toNat (k:Int))=true from aF rfl),bz hX];refine(aW (aF rfl)).trans ?_;have hY:(X.set k (a.var,fD (iL a.a a.b) a.b a.a,a.b,()))[k]?=some (a.var,fD (iL a.a a.b) a.b a.a,a.b,()):=asE auc;have hY2:gt ae (X.set k (a.var,fD (iL a.a a.b) a.b a.a,a.b,())) (k:Int)=(a.var,fD (iL a.a a.b) a.b a.a,a.b,()):=bz (σ:=ae) hY;obtain⟨mn,hmn⟩:∃mn:Int,mn=min a.a a.b:=⟨_,rfl⟩;have hmx:=aa6 a.a a.b;have hmi:=aa7 a.a a.b;rw[<-hmn]at hmi;have hsw:aL (fw a)=(a.var,max a.a a.b,mn,()):=by rw[hmn];rfl
  have h1:∀z:Int,z=max a.a a.b->((a.var,z,mn,()):ae.T)=aL (fw a):=by rintro _ rfl;exact hsw.symm
  have fin:∀(b b':Int) (y:ae.T) (z:Int),b=b'->y=(a.var,fD (iL a.a a.b) a.b a.a,a.b,())->z=mn->(aul ((0:Int),(R.ag.length:Int),b,(0:Int),ts,dL R ((X.set k (a.var,fD (iL a.a a.b) a.b a.a,a.b,())).set k (y.1,y.2.1,z,()),())):am wB wA)=aul ((0:Int),(R.ag.length:Int),b',(0:Int),ts,dL R (X.set k (aL (fw a)),())):=by rintro b _ _ z rfl rfl hz;rw[hz];have h2:(X.set k (a.var,fD (iL a.a a.b) a.b a.a,a.b,())).set k (a.var,fD (iL a.a a.b) a.b a.a,mn,())=X.set k (aL (fw a)):=(OF (List.set _ k) (h1 _ hmx)).trans (List.set_set ..);exact OF (fun L:List ae.T=>(aul ((0:Int),(R.ag.length:Int),b,(0:Int),ts,dL R (L,())):am wB wA)) h2
  exact fin _ _ _ _ ek hY2 hmi
 .unfold dL
  try dsimp only
  unfold DU;rw[bC aui,cV,List.drop_length,di];rfl
section
variable{n:aB}{V:Nat}(hs:cA n V)(h0:da n=0)(ha:dO (bh n) V=true)
include hs h0 ha
theorem ako:Nb (dn n,())=some (dn (oK n V),jI n V,(0:Int),()):=by
 have hV2:=hs.v2;have hvars:=hs.vars;have ft:=pz hs;have S:=og hs ha;have hSf:=pz S;have hck:Pl.gV n=0:=w7 hs h0 fun v hv=>(jW hs.apart V).1 ha v hv;have hfine:=(uA hs ha h0).1;have hpre:=abB S (Z6 hs ha h0) hfine (E1 hs ha h0);have hDr:=S.eJ;have hDl:(bp (fY n V)).length<=V:=(sD V _ S.nodup S.eJ).1;obtain⟨O,hO⟩:∃O,O=kH n V:=⟨_,rfl⟩;have hOl:O.length<=9000000:=by rw[hO];exact afU hs
 have hSK:∀k,(gL n V k).length<=9000000:=fun k=>by unfold gL;rw[aG];refine EQ List.filter_sublist.length_le ?_;rw[dK,<-hO];omega
 have eC:=Jq ft;rw[hck]at eC;have eO:=arE hs ft h0;rw[IO ha,<-hO]at eO;have e8:Ei (O.map (fun x=>eu x.1),(O.length:Int),(0:Int),nt n ((0:Int),dL n ([],())))=some (nt n ((0:Int),dL n ((eZ n V).map aL,()))):=by
  unfold Ei;delta kZ u8 bV cy;refine cO (fun k:Nat=>(O.map (fun x=>eu x.1),(O.length:Int),(k:Int),nt n ((0:Int),dL n ((gL n V k).map aL,())))) O.length rfl ?_ ?_ auh
  .intro k hk;unfold nt dL
   try dsimp only
   unfold Eh;have hg:=bA hk;obtain⟨x,hx⟩:∃x,x=O[k]:=⟨_,rfl⟩;rw[<-hx]at hg;have hg':(O.map fun x=>eu x.1)[k]?=some (eu x.1):=by rw[cW,hg];rfl
   have ek:pu ((k:Int)+1)=((k+1:Nat):Int):=auk;have fin:∀(b b':Int) (L L':List ae.T),b=b'->L=L'->(aul (O.map (fun x=>eu x.1),(O.length:Int),b,nt n ((0:Int),dL n (L,()))):am wD wC)=aul (O.map (fun x=>eu x.1),(O.length:Int),b',nt n ((0:Int),dL n (L',()))):=by rintro _ _ _ _ rfl rfl;rfl
   rw[bR auj,aW (aP ⟨auc,by rw[aG];omega⟩),bz hg'];have hgO:(kH n V)[k]?=some x:=by rw[<-hO];exact hg
   have his:=uO n (afT (d5 hgO));rcases his with⟨h1,a,h2,h3⟩|⟨h1,_⟩
   .have h2':(n.ag.map aL)[x.1.pos]?=some (aL a):=by rw[cW,h2];rfl
    have hpl:=(rg.1 h2).1;refine(bR (show Bool.not (eu x.1).1=true from OF Bool.not h1)).trans ((aW (aP ⟨by show(0:Int)<=(x.1.pos:Int);omega,by show(x.1.pos:Int)<((List.length (n.ag.map aL):Nat):Int);rw[aG];omega⟩)).trans ?_);have hgt:gt ae (n.ag.map aL) ((eu x.1).2.2.1)=aL a:=bz h2';have hsk:gL n V (k+1)=gL n V k++[a]:=by unfold gL;rw[cK hgO,are,asq,IO (by rw[h1];rfl),atg,cH,UV,asr,ff,h2];rfl
    have key:∀y:ae.T,y=aL a->(aj (room 24 (List.length ((gL n V k).map aL++(Hu y::[])))) <|(aul (O.map (fun x=>eu x.1),(O.length:Int),(pu ((k:Int)+1)),nt n ((0:Int),dL n ((gL n V k).map aL++(Hu y::[]),()))):am wD wC))=aul (O.map (fun x=>eu x.1),(O.length:Int),((k+1:Nat):Int),nt n ((0:Int),dL n ((gL n V (k+1)).map aL,()))):=by rintro _ rfl;rw[aW (eX (by rw[aG];have:=hSK k;omega) auc)];exact fin _ _ _ _ ek (by rw[hsk,cH];rfl)
    exact key _ hgt
   .refine(bC (show Bool.not (eu x.1).1=false from OF Bool.not h1)).trans ?_;exact fin _ _ _ _ ek (by
     have hsk:gL n V (k+1)=gL n V k:=by unfold gL;rw[cK hgO,are,asq,Fr (by rw[h1];simp),atg,di]
     rw[hsk])
  .unfold nt dL
   try dsimp only
   unfold Eh;rw[bC aui];have:gL n V O.length=eZ n V:=by unfold gL eZ;rw[hO,cV]
   rw[this];rfl
 obtain⟨D,hD⟩:∃D,D=bp (fY n V):=⟨_,rfl⟩;rw[<-hD]at hDr hDl;have eD:YP (dL n ((eZ n V).map aL,()))=some (D,(eZ n V).map aL,()):=by show ui n.vars n.ax (n.ah.map aX) n.bk n.aU n.constraints (n.af.map aM) ((eZ n V).map aL)=_;unfold ui;have e:eH (n.vars,n.ax,n.ah.map aX,n.bk,n.aU,n.constraints,n.af.map aM,(eZ n V).map aL,())=fY n V:=o6 (fY n V);rw[e,pV hSf,hD];rfl
 obtain⟨ts,hts⟩:∃ts,ts=jI n V:=⟨_,rfl⟩;rw[<-hts]at hpre hfine;have hts2:ts=fB (List.replicate (V+1) 0) 1 D:=by rw[hts,hD];rfl
 have e15:DV (D,(D.length:Int),(0:Int),(0:Int),dL n ((eZ n V).map aL,List.replicate (V+1) (0:Int),()))=some ((0:Int),dL n ((eZ n V).map aL,ts,())):=by
  rw[hts2];unfold DV;delta iT u1 bV cy;refine cO (fun k:Nat=>(D,(D.length:Int),(k:Int),(0:Int),dL n ((eZ n V).map aL,fB (List.replicate (V+1) 0) 1 (D.take k),()))) D.length rfl ?_ ?_ auh
  .intro k hk;unfold dL
   try dsimp only
   unfold DT;have hg:=bA hk;obtain⟨r1,r2⟩:=hDr _ (ut hk);have ek:pu ((k:Int)+1)=((k+1:Nat):Int):=auk;have fin:∀(b b':Int) (L L':jp),b=b'->L=L'->(aul (D,(D.length:Int),b,(0:Int),dL n ((eZ n V).map aL,L,())):am Dy Dr)=aul (D,(D.length:Int),b',(0:Int),dL n ((eZ n V).map aL,L',())):=by rintro _ _ _ _ rfl rfl;rfl
   rw[bR auj,aW aug,bz (σ:=.I) hg,aW (aP ⟨auc,by rw[oe,fx];omega⟩)];refine fin _ _ _ _ ek ?_;rw[cK hg,wX,dK,asO (asZ hk),ek,show(1:Int)+(k:Int)=((k+1:Nat):Int) by omega];rfl
  .unfold dL
   try dsimp only
   unfold DT;rw[bC aui,cV];rfl
 have eR:Yr (dL n ((eZ n V).map aL,ts,()))=some (dL (j4 n V) ((0:Int),ts,(j4 n V).ag.map aL,())):=by show ug n.vars n.ax (n.ah.map aX) n.bk n.aU n.constraints (n.af.map aM) ((eZ n V).map aL) ts=_;unfold ug;have e:eH (n.vars,n.ax,n.ah.map aX,n.bk,n.aU,n.constraints,n.af.map aM,(eZ n V).map aL,())=fY n V:=o6 (fY n V);rw[e,hpre,aai];unfold j4;rw[<-hts];rfl
 have hRl:(j4 n V).ag.length<=2000:=by show((eZ n V).map _).length<=2000;rw[aG];exact S.lens.2.2.1
 have e21:=amW (j4 n V) hRl ts;have w1:pu (n.vars+1)=((V+1:Nat):Int):=by rw[hvars];exact auk
 show Nt afK I9 Yr YP Ei DV DW (dn n)=_;unfold Nt;have e8':∀z:Int,z=(O.length:Int)->Ei (O.map (fun x=>eu x.1),z,(0:Int),nt n ((0:Int),dL n ([],())))=some (nt n ((0:Int),dL n ((eZ n V).map aL,()))):=by rintro _ rfl;exact e8
 refine(bg eC).trans ((bC rfl).trans ((bg eO).trans ((bg (e8' _ (by show((List.length (O.map fun x=>eu x.1):Nat):Int)=_;rw[aG]))).trans ?_)));have ew:∀z:Int,z=((V+1:Nat):Int)->both (iE (0:Int) z) (both (iE z z) (iE ((Int.ofNat 8)*z) (281474976710656:Int)))=true:=by rintro _ rfl;exact nC auj (aF (atm _)) (aF (by show(8:Int)*((V+1:Nat):Int)<=_;omega))
 have e15':∀L:jp,L=List.replicate (V+1) (0:Int)->DV (D,(D.length:Int),(0:Int),(0:Int),dL n ((eZ n V).map aL,L,()))=some ((0:Int),dL n ((eZ n V).map aL,ts,())):=by rintro _ rfl;exact e15
 refine(aW (ew _ w1)).trans ((bg eD).trans ((bg (e15' _ (OF (fun z:Int=>List.replicate z.toNat (0:Int)) w1))).trans ((bg eR).trans ?_)));have e21':∀z:Int,z=((j4 n V).ag.length:Int)->DW ((0:Int),z,(0:Int),(0:Int),ts,dL (j4 n V) ((j4 n V).ag.map aL,()))=some ((0:Int),(0:Int),ts,dL (j4 n V) (((j4 n V).ag.map fw).map aL,())):=by rintro _ rfl;exact e21
 refine(bg (e21' _ (by show((List.length ((j4 n V).ag.map aL):Nat):Int)=_;rw[aG]))).trans ?_;rw[<-hts];rfl
