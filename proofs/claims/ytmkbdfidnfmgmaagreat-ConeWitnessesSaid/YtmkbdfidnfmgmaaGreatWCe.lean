import Derived.Test.YtmkbdfidnfmgmaaGreatWCd
import Derived.Test.YtmkbdfidnfmgmaaGreatWCa
import Derived.Test.YtmkbdfidnfmgmaaGreatWTc
set_option linter.all false
section
namespace Go.Proofs.YtmkbdfidnfmgmaaGreat.V
open Go Go.RowKit Go.Proofs.YtmkbdfidnfmgmaaGreat.Pl
theorem vR{a b c:Bool}(h1:a=true)(h2:b=true)(h3:c=true):both a (both b c)=true:=by subst h1;subst h2;subst h3;rfl
variable{p:Nat->Bool}{k:Nat}
theorem yJ(h:p k=true):((List.range (k+1)).filter p).map (fun v:Nat=>(v:Int))=((List.range k).filter p).map (fun v:Nat=>(v:Int))++[(k:Int)]:=by rw[asg,asa,d7,asq,IO h];rfl
theorem yI(h:p k=false):((List.range (k+1)).filter p).map (fun v:Nat=>(v:Int))=((List.range k).filter p).map (fun v:Nat=>(v:Int)):=by rw[asg,asa,d7,asq,BT (by rw[h];simp)];simp
theorem ak1{n:ak}{V:Nat}(hs:bR n V)(ft:Fit n)(mk lv:jp):∀(F:Nat) (m:md) (l:Int) (v:Nat),l / 2=(v:Int)->v<=V->m.length=V+1->m.count false<F ->
  ∃m',Cu F ((v:Int),nt n (m,wk n V mk lv))=some (nt n (m',wk n V mk lv))/\gK n m [l] m':=by
 intro F
 induction F with
 |zero=>intro m l v _ _ _ h;omega|succ F ih=>
  intro m l v hv hvV hm hF;have hV2:=hs.v2;have hvars:=hs.vars;have hnl:=JN hs;have hvt:(l / 2).toNat=v:=atO
  obtain⟨of,hof⟩:∃of,of=gl (aY n) V (aY n).length:=⟨_,rfl⟩;have hofl:of.length=V+1:=by rw[hof];exact AJ _ _ _
  have hofv:of[v]?=some (aJ of v):=we atO;show ∃m',KT ph (Cu F) Sb (KL (Cu F)) (v:Int) n.vars n.al (n.ag.map bq) n.aZ n.aN n.constraints (n.ae.map aI) (n.aj.map bc) m n.vars n.al (n.ag.map bq) n.aZ n.aN n.constraints (n.ae.map aI) (n.aj.map bc) (gl (aY n) V (aY n).length) ((eH n).map dC) mk lv=some (nt n (m',wk n V mk lv))/\gK n m [l] m';rw[<-hof];unfold KT;by_cases h1:v=0
  .rw[dc atW];exact⟨m,by rw[hof];rfl,gK.there (.inl atO)⟩
  rw[cE atV,RK,cE atV,bH atT];by_cases q:On m v
  .rw[dc (show bP false true (gt .bool m (v:Int))=true from q)];exact⟨m,by rw[hof];rfl,gK.there (.inr (by rw[hvt];exact q))⟩
  have q':m.getD v false=false:=by unfold On at q;simpa using q
  rw[cE (show bP false true (gt .bool m (v:Int))=false from q'),bH atT,bH atT,bI (σ:=.I) hofv];have qn:¬On m (l / 2).toNat:=by rw[hvt];exact q
  rcases ZA hs.apart (fun x hx=>(hs.ef x hx).2) hvV with⟨g1,g2⟩|⟨i,x,g1,g2,g3⟩
  .rw[<-hof]at g1;rw[g1,dc (aD rfl)];refine⟨m.set v true,by rw[hof];rfl,?_⟩;have:=gK.free (n:=n) (m:=m) (l:=l) atO atO qn fun x hx hm2=>g2 x.nd (AI hx) (by have:(l / 2).toNat∈x.to.map Int.toNat:=AI hm2;rw[hvt]at this;exact this);rw[hvt]at this;exact this
  .rw[<-hof]at g3;rw[g3,cE atV,bH atT];subst hof;have hil:=jj g1;have hnl2:(eH n).length=(aY n).length:=by rw[JF];unfold aY;rw[aP]
   obtain⟨xd,hxd⟩:∃xd,(eH n)[i]?=some xd:=⟨_,ba atO⟩;obtain⟨y,hy1,hy2⟩:=za n hxd;have hxy:x=y.nd:=by rw[E3,hy1]at g1;simpa using g1.symm
   subst hxy;have hy:=dy hy1;have hlens:=AM hs hy;have hxd':((eH n).map dC)[i]?=some (dC xd):=by rw[ct,hxd];rfl
   have ef:l / 2∈y.to:=by obtain⟨u,hu,e⟩:=ro.1 g2;have:=hs.mf hy hu;rw[show l / 2=u by omega];exact hu
   have one:∀z∈dj n,l / 2∈z.to->z=y:=fun z hz hm2=>by obtain⟨j,hj⟩:=Fr hz;have:=NP hs.YG hj hy1 hm2 ef;rw[this,hy1]at hj;exact(Do hj).symm
   rw[show((i:Int)+1-1)=(i:Int) by omega,cH (x:=(i:Int)) atO,bH (aU ⟨atO,by rw[aP];omega⟩),bI hxd'];have e3:=Yr (n:=n) (of:=gl (aY n) V (aY n).length) (nd:=eH n) (m:=mk) (lv:=lv) hy2;have hcnt:=DS (i:=v) atO q;have hL:∃o,KL (Cu F) (y.bj,(y.bj.length:Int),(0:Int),nt n (m.set v true,wk n V mk lv))=some o/\∃m',o=nt n (m',wk n V mk lv)/\gK n (m.set v true) y.bj m':=by
    unfold KL;refine kp (fun d=>∃(k:Nat) (m':md),k<=y.bj.length/\d=(y.bj,(y.bj.length:Int),(k:Int),nt n (m',wk n V mk lv))/\gK n (m.set v true) (y.bj.take k) m') _ (fun d=>y.bj.length-d.2.2.1.toNat) ?_ NN _ ⟨0,_,GT _,rfl,gK.nil⟩ (cp (by have:=hlens.2;omega));rintro d ⟨k,m',hk',rfl,hA⟩;unfold nt wk mW
    try dsimp only
    unfold KI;by_cases hlt:k<y.bj.length
    .have hl:=ba hlt;obtain⟨u,hu1,hu2,hu3,hl0,hl1⟩:=Yq hs hy hl;obtain⟨m2,e2,hA2⟩:=ih m' y.bj[k] u hu1 hu2 (by rw[hA.len,acl];exact hm) (by have:=hA.l8;omega);rw[dc atW,bH atT,bI (σ:=.I) hl];right;refine⟨(y.bj,(y.bj.length:Int),((k+1:Nat):Int),nt n (m2,wk n V mk lv)),?_,⟨k+1,m2,hlt,rfl,by rw[eE hl];exact hA.app hA2⟩,?_⟩
     .refine(bS (AU hu1)).trans ((bS e2).trans ?_);have e:∀b b':Int,b=b'->(atY (y.bj,(y.bj.length:Int),b,nt n (m2,wk n V mk lv)):am B7 BV)=atY (y.bj,(y.bj.length:Int),b',nt n (m2,wk n V mk lv)):=by rintro _ _ rfl;rfl
      exact e _ _ (cH (x:=(k:Int)+1) atO)
     .show y.bj.length-((k+1:Nat):Int).toNat<y.bj.length-(k:Int).toNat;omega
    .left;have hk2:k=y.bj.length:=atO
     rw[hk2,eX]at hA;rw[cE atV];exact⟨_,rfl,m',rfl,hA⟩
   obtain⟨o,ho,m',rfl,hA⟩:=hL;refine⟨m',(bS e3).trans ((bS ho).trans rfl),gK.node one hy ef atO atO qn (by rw[hvt];exact hA)⟩
theorem akT{n:ak}{V:Nat}(hs:bR n V)(ft:Fit n)(h0:cZ n=0)(ha:dT (aY n) V=true):∃m lv,uV (nt n ())=atZ ((0:Int),wk n V m lv):=by
 have es:ql (bW n,())=some (cZ n,()):=by unfold ql;rw[show d8 ((bW n,()):TL [cA]).1=n from lZ n,qW ft];rfl
 obtain⟨m,lv,ea,_⟩:=MS hs ft;exact⟨m,lv,aB es (ax (by rw[h0];rfl) (aB (Rj hs ft) (aB ea (ax (by rw[ha];rfl) rfl))))⟩
variable{ls:jp}
theorem agR{n:ak}{V:Nat}(hs:bR n V)(ft:Fit n)(h0:cZ n=0)(ha:dT (aY n) V=true)(hl:∀l∈ls,0<=l/\l / 2<=(V:Int))(hn:ls.length<=1000000) :
  V9 (bW n,ls,())=some (nB n V ls,()):=by
 obtain⟨mk,lv,et⟩:=akT hs ft h0 ha;have hV2:=hs.v2;have hvars:=hs.vars;have e8:∃o,Da (ls,(ls.length:Int),(0:Int),List.replicate (V+1) false,nt n (wk n V mk lv))=some o/\∃m':md,o=(m',())/\gK n (List.replicate (V+1) false) ls m':=by
  unfold Da;delta qA bM bX;refine kp (fun d=>∃(k:Nat) (m':md),k<=ls.length/\d=(ls,(ls.length:Int),(k:Int),m',nt n (wk n V mk lv))/\gK n (List.replicate (V+1) false) (ls.take k) m') _ (fun d=>ls.length-d.2.2.1.toNat) ?_ NN _ ⟨0,_,GT _,rfl,gK.nil⟩ atU;rintro d ⟨k,m',hk',rfl,hA⟩;unfold nt wk mW
  try dsimp only
  unfold Lb;by_cases hlt:k<ls.length
  .have hg:=ba hlt;obtain⟨h1,h2⟩:=hl _ (By hlt);obtain⟨u,hu⟩:=BY (show 0<=ls[k] / 2 by omega);have hml:m'.length=V+1:=by rw[hA.len,gp]
   obtain⟨m2,e2,hA2⟩:=ak1 hs ft mk lv NN m' ls[k] u hu atO hml (cp (by have:=List.count_le_length (a:=false) (l:=m');omega));have e2':KK ((u:Int),nt n (m',wk n V mk lv))=some (nt n (m2,wk n V mk lv)):=e2;rw[dc atW,bH atT,bI (σ:=.I) hg];right;refine⟨(ls,(ls.length:Int),((k+1:Nat):Int),m2,nt n (wk n V mk lv)),?_,⟨k+1,m2,hlt,rfl,by rw[eE hg];exact hA.app hA2⟩,?_⟩
   .refine(bS (AU hu)).trans ((bS e2').trans ?_);have e:∀b b':Int,b=b'->(atY (ls,(ls.length:Int),b,m2,nt n (wk n V mk lv)):am Cv Cj)=atY (ls,(ls.length:Int),b',m2,nt n (wk n V mk lv)):=by rintro _ _ rfl;rfl
    exact e _ _ (cH (x:=(k:Int)+1) atO)
   .show ls.length-((k+1:Nat):Int).toNat<ls.length-(k:Int).toNat;omega
  .left;have hk2:k=ls.length:=atO
   rw[hk2,eX]at hA;rw[cE atV];exact⟨_,rfl,m',rfl,hA⟩
 obtain⟨o,e8,m,rfl,hA⟩:=e8;have hml:m.length=V+1:=by rw[hA.len,gp]
 have e13:CU ((m.length:Int),(0:Int),[],m,())=some (nB n V ls,()):=by
  rw[<-hA.list];unfold CU;delta u4;refine d9 (fun k:Nat=>((m.length:Int),(k:Int),((List.range k).filter fun v=>m.getD v false).map (fun v:Nat=>(v:Int)),m,())) (V+1) rfl ?_ ?_ atU
  .intro k hk
   try dsimp only
   unfold CT;rw[dc atW,bH atT];have hlen:(((List.range k).filter fun v=>m.getD v false).map (fun v:Nat=>(v:Int))).length<=100000000:=by rw[aP];have:=(atd (p:=fun v=>m.getD v false) (l:=List.range k)).length_le;rw[asO]at this;omega
   rw[cH (x:=(k:Int)+1) atO];cases q:m.getD k false
   .rw[cE (show gt .bool m (k:Int)=false from q),yI (p:=fun v=>m.getD v false) q];rfl
   .rw[dc (show gt .bool m (k:Int)=true from q),yJ (p:=fun v=>m.getD v false) q];rw[bH (lM hlen atO)];rfl
  .try dsimp only
   unfold CT;rw[cE atV];rfl
 have w1:qr (n.vars+1)=((V+1:Nat):Int):=by rw[hvars];exact atX
 show Lo ph KK uV Da CU (bW n) ls=_;unfold Lo;refine(bS et).trans ?_;refine(cE rfl).trans ?_;have ew:∀z:Int,z=((V+1:Nat):Int)->(au (both (iE (0:Int) z) (both (iE z z) (iE ((Int.ofNat 1)*z) (281474976710656:Int))))<|
   az (Da (ls,(Int.ofNat ls.length),(0:Int),(List.replicate (Int.toNat z) (Sh.zero .bool)),nt n (wk n V mk lv))) fun x2=>
   az (CU ((Int.ofNat (List.length x2.1)),(0:Int),[],x2.1,())) fun x3=>
   some (x3.1,()))=some (nB n V ls,()):=by
  rintro _ rfl;rw[bH (vR atW (aD (asQ _)) (aD (by rw[show(Int.ofNat 1:Int)=1 from rfl];omega)))];exact aB e8 (aB e13 rfl)
 exact ew _ w1
set_option maxRecDepth 10000
theorem ajd(k p:Nat):(List.replicate k (0:Int)).getD p 0=0:=by rw[eu,atf];split<;>rfl
variable{ts:jp}
theorem ahL{V:Nat}(F:jE ts V)(hV:V<=2000):∃x,KO (ts,())=some (x,true,()):=by
 have hl:=F.len;have h5:∃o,Cw (ts,ts,(ts.length:Int),(0:Int),List.replicate (V+1) (0:Int),())=some o/\∃x:jp,o=.inr (x,()):=by
  unfold Cw;delta u5;refine kp (fun d=>∃(k:Nat) (x:jp),k<=V+1/\d=(ts,ts,(ts.length:Int),(k:Int),x,())/\x.length=V+1/\∀p:Nat,(∀v:Nat,1<=v->v<k->rv ts (v:Int)≠(p:Int))->x.getD p 0=0) _ (fun d=>V+1-d.2.2.2.1.toNat) ?_ NN _ ⟨0,_,GT _,rfl,gp,fun p _=>ajd _ _⟩ (cp (by show V+1-0<=_;omega));rintro d ⟨k,x,hk,rfl,hx,hz⟩
  try dsimp only
  unfold KM;by_cases hlt:k<V+1
  .have ek:qr ((k:Int)+1)=((k+1:Nat):Int):=atX;have fin:∀(b b':Int) (y:jp),b=b'->(atY (ts,ts,(ts.length:Int),b,y,()):am Ca BW)=atY (ts,ts,(ts.length:Int),b',y,()):=by rintro _ _ _ rfl;rfl
   rw[dc atW,bH atT];right;by_cases q:k=0
   .subst q;refine⟨(ts,ts,(ts.length:Int),((1:Nat):Int),x,()),?_,⟨1,x,atO,rfl,hx,fun p hp=>hz p fun v h1 h2=>atO⟩,?_⟩
    .rw[dc (show iQ ((0:Nat):Int) 0=true from rfl)];exact fin _ _ _ ek
    .show V+1-((1:Nat):Int).toNat<V+1-((0:Nat):Int).toNat;omega
   .obtain⟨r1,r2⟩:=F.dY k atO atO;obtain⟨u,hu⟩:=BY (show 0<=rv ts (k:Int) by omega);have hu:gt .I ts (k:Int)=(u:Int):=hu;have hu2:rv ts (k:Int)=(u:Int):=hu;have hu3:x.getD u 0=0:=hz u fun v h1 h2 e=>F.inj v k h1 h2 atO (e.trans hu2.symm);refine⟨(ts,ts,(ts.length:Int),((k+1:Nat):Int),x.set u (k:Int),()),?_,⟨k+1,_,atO,rfl,by rw[acl];exact hx,fun p hp=>?_⟩,?_⟩
    .rw[cE atV,hu,cE atV,cE (show bP false true (iE (Int.ofNat ts.length) (u:Int))=false from aF (by show ¬((ts.length:Nat):Int)<=(u:Int);omega)),bH atT];exact(cE (PP (fun z:Int=>Bool.not (iQ z 0)) hu3)).trans ((bH atT).trans (fin _ _ _ ek))
    .have h1:=hp k atO atO;rw[eu,atu atO,<-eu];exact hz p fun v a b=>hp v a atO
    .show V+1-((k+1:Nat):Int).toNat<V+1-(k:Int).toNat;omega
  .left;rw[cE atV];exact⟨_,rfl,x,rfl⟩
 obtain⟨o,h5,x,rfl⟩:=h5;refine⟨x,?_⟩;show KV Cw ts=_;unfold KV;have h00:rv ts 0=0:=F.zero;rw[cE (aF (by show ¬((ts.length:Nat):Int)=0;omega)),bH atT];refine(cE (PP (fun z:Int=>Bool.not (iQ z 0)) h00)).trans ?_;rw[bH (vR (aD (by show(0:Int)<=((ts.length:Nat):Int);omega)) (aD (asQ _)) (aD (by show(8:Int)*((ts.length:Nat):Int)<=281474976710656;omega)))];have h5':∀(z:Int) (y:jp),z=(ts.length:Int)->y=List.replicate (V+1) 0->Cw (ts,ts,z,(0:Int),y,())=atZ (x,()):=by rintro _ _ rfl rfl;exact h5
 exact(bS (h5' _ _ rfl (by show List.replicate ts.length (0:Int)=_;rw[hl]))).trans rfl
theorem vP{n:ak}{V:Nat}(hs:bR n V):Fit n:=by
 obtain⟨a1,a2,a3,a4,a5⟩:=hs.lens;have hv:=hs.v2;have hvars:=hs.vars;have i64:∀x:Int,-9000000<=x->x<=9000000->dD x:=fun x a b=>⟨atO,atO⟩;have lit:∀l∈bJ n,dD l:=fun l hl=>by have:=hs.lits l hl;exact i64 l atO atO
 have df:∀v∈aX n,dD v:=fun v hl=>by have:=hs.dY v hl;exact i64 v atO atO
 refine⟨i64 _ atO atO,⟨atO,fun x hx=>df x (by unfold aX;simp only[rc];exact .inl (.inl (.inl hx)))⟩,⟨atO,fun l hl=>⟨df l.var (by unfold aX;simp only[rc,ro];exact .inl (.inl (.inr ⟨l,hl,rfl⟩))),lit l.next (by unfold bJ;simp only[rc,ro];exact .inl (.inl (.inl (.inl (.inl ⟨l,hl,rfl⟩))))),by have:=hs.init l hl;exact i64 _ atO atO⟩⟩,
  ⟨atO,fun x hx=>lit x (by unfold bJ;simp only[rc];exact .inl (.inl (.inl (.inl (.inr hx)))))⟩,⟨atO,fun x hx=>lit x (by unfold bJ;simp only[rc];exact .inl (.inl (.inl (.inr hx))))⟩,⟨atO,fun x hx=>lit x (by unfold bJ;simp only[rc];exact .inl (.inl (.inr hx)))⟩,⟨atO,fun m hm=>?_⟩,⟨atO,fun a ha=>⟨df a.var (by unfold aX;simp only[rc,ro];exact .inr ⟨a,ha,rfl⟩),lit a.a (by unfold bJ;simp only[rc,rg];exact .inr ⟨a,ha,by simp[js]⟩),lit a.b (by unfold bJ;simp only[rc,rg];exact .inr ⟨a,ha,by simp[js]⟩)⟩⟩⟩
 obtain⟨b1,b2,b3,b4,b5,b6,b7,b8⟩:=hs.ae m hm;have ml:∀l∈fi m,dD l:=fun l hl=>lit l (by unfold bJ;simp only[rc,rg];exact .inl (.inr ⟨m,hm,hl⟩));refine⟨⟨i64 _ atO atO,atO⟩,i64 _ atO atO,atO,atO,fun r hr=>?_,fun w hw=>?_⟩
 .have e:=b5 r hr;have hd:=hs.dY r.var (by unfold aX;simp only[rc,rg];exact .inl (.inr ⟨m,hm,rg.2 ⟨r,hr,ro.2 ⟨0,Id.2 atO,atQ⟩⟩⟩));exact⟨atO,atO,atO,fun x hx=>ml x (by unfold fi;simp only[rc,rg];exact .inl ⟨r,hr,hx⟩)⟩
 .obtain⟨e1,e2⟩:=b6 w hw;have wl:∀l∈iP w,dD l:=fun l hl=>ml l (by unfold fi;simp only[rc,rg];exact .inr ⟨w,hw,hl⟩);unfold iP at wl;exact⟨atO,atO,wl _ IN,fun x hx=>wl x (FS _ (AC _ hx)),fun x hx=>wl x (FS _ (EQ _ hx))⟩
variable{x:Int}
theorem Eo{n:Nat}(h:0<=x/\x<n):sX n x=true:=by unfold sX;rw[dt h.1,dt h.2];rfl
theorem pH{n:Nat}(h:0<=x/\x / 2<n):iG n x=true:=by unfold iG;rw[dt h.1,dt h.2];rfl
variable{l:Int}
theorem akw:av ts l=rl ts l:=by
 unfold av rl;rw[vV];have:l % 2=0\/l % 2=1:=atO
 rcases this with h|h
 .rw[h];rfl
 .rw[h];rfl
theorem XN(ts:jp)(n:ak):uQ ts n=iu ts n:=by
 have e1:Ij ts=rv ts:=by funext x;rfl
 have e2:av ts=rl ts:=by funext l;exact akw
 unfold uQ;rw[e1,e2];rfl
theorem Y4{n:ak}{V:Nat}(hs:bR n V)(hc:Pl.eZ n=0)(F:jE ts V)(C:∀m∈n.ae,sb ts m=true):preB n ts=true:=by
 have hl:=F.len;have hv:=hs.v2;have hvars:=hs.vars;obtain⟨x,hx⟩:=ahL F hv;have hlit:∀l∈bJ n,0<=l/\l / 2<(ts.length:Int):=fun l h=>by have:=hs.lits l h;omega
 have hdef:∀v∈aX n,0<=v/\v<(ts.length:Int):=fun v h=>by have:=hs.dY v h;omega
 have ml:∀m∈n.ae,∀l∈fi m,0<=l/\l / 2<(ts.length:Int):=fun m hm l h=>hlit l (by unfold bJ;simp only[rc,rg];exact .inl (.inr ⟨m,hm,h⟩));have hd:∀m∈n.ae,∀r∈m.reads,∀i:Nat,i<m.word.toNat->r.var+(i:Int)∈aX n:=fun m hm r hr i hi=>by unfold aX;simp only[rc,rg];exact .inl (.inr ⟨m,hm,rg.2 ⟨r,hr,ro.2 ⟨i,Id.2 hi,rfl⟩⟩⟩)
 have hr0:∀m∈n.ae,∀r∈m.reads,0<=r.var/\r.var<(ts.length:Int):=fun m hm r hr=>by have:=hdef _ (hd m hm r hr 0 (by have:=(hs.ae m hm).2.2.1;omega));omega
 unfold preB;simp only[act,IR,In];refine⟨qW (vP hs),hc,atO,atO,fun y hy=>?_,?_,fun m hm=>?_,?_⟩
 .obtain⟨i,hi,rfl⟩:=arO hy;have:=F.le (v:=(i:Int)) atO atO;rw[vV,Ne,eu,ba hi]at this;simp only[Option.getD_some]at this;omega
 .unfold HQ;simp only[act,In];refine⟨fun x hx=>Eo (hdef x ?_),fun l hl2=>⟨Eo (hdef _ ?_),pH (hlit _ ?_)⟩,fun x hx=>pH (hlit x ?_),fun x hx=>pH (hlit x ?_),fun x hx=>pH (hlit x ?_),fun m hm r hr=>⟨Eo (hr0 m hm r hr),fun y hy=>pH (ml m hm y ?_)⟩,fun m hm w hw=>⟨pH (ml m hm _ ?_),fun y hy=>pH (ml m hm y ?_),fun y hy=>pH (ml m hm y ?_)⟩,fun a ha=>⟨Eo (hdef _ ?_),pH (hlit _ ?_),pH (hlit _ ?_)⟩⟩
  .unfold aX;simp only[rc];exact .inl (.inl (.inl hx))
  .unfold aX;simp only[rc,ro];exact .inl (.inl (.inr ⟨l,hl2,rfl⟩))
  .unfold bJ;simp only[rc,ro];exact .inl (.inl (.inl (.inl (.inl ⟨l,hl2,rfl⟩))))
  .unfold bJ;simp only[rc];exact .inl (.inl (.inl (.inl (.inr hx))))
  .unfold bJ;simp only[rc];exact .inl (.inl (.inl (.inr hx)))
  .unfold bJ;simp only[rc];exact .inl (.inl (.inr hx))
  .unfold fi;simp only[rc,rg];exact .inl ⟨r,hr,hy⟩
  .unfold fi;simp only[rc,rg];exact .inr ⟨w,hw,by unfold iP;simp⟩
  .unfold fi;simp only[rc,rg];exact .inr ⟨w,hw,by unfold iP;simp[hy]⟩
  .unfold fi;simp only[rc,rg];exact .inr ⟨w,hw,by unfold iP;simp[hy]⟩
  .unfold aX;simp only[rc,ro];exact .inr ⟨a,ha,rfl⟩
  .unfold bJ;simp only[rc,rg];exact .inr ⟨a,ha,by simp[js]⟩
  .unfold bJ;simp only[rc,rg];exact .inr ⟨a,ha,by simp[js]⟩
 .unfold HH;simp only[act,IR,In,Id];intro r hr i hi;have h1:=hdef _ (hd m hm r hr i hi);refine⟨(hr0 m hm r hr).1,atO,?_⟩;have h2:=C m hm;unfold sb at h2;obtain⟨k,hk,rfl⟩:=arO hr;have h3:=(In.1 h2) k (Id.2 hk);rw[eu,ba hk]at h3;have h3:uq ts m.word m.reads[k]=true:=h3;unfold uq at h3;exact aig ((In.1 h3) i (Id.2 hi))
 .unfold RB;rw[hx]
abbrev ib:=List jl.T
abbrev vk(n:ak)(m ms:md)(left:jp)(lm mm:ib):=nt n (m,ms,left,lm,mm,())
abbrev fg(n:ak)(m ms:md)(left:jp)(lm mm:ib):=nt n (m,ms,lm,mm,left,())
variable{m:md}
theorem akE(hl:ls[k]?=some l)(h:0<l / 2)(h2:m.getD (l / 2).toNat false=false):jn m (ls.take (k+1))=jn m (ls.take k)++[l]:=by unfold jn;rw[eE hl,asa,asq,IO (by rw[h2,dt h];rfl)];rfl
theorem YC(hl:ls[k]?=some l)(h:¬(0<l / 2/\m.getD (l / 2).toNat false=false)):jn m (ls.take (k+1))=jn m (ls.take k):=by unfold jn;rw[eE hl,asa,asq,BT (by simp only[act,IR,atH];exact h)];simp
def lx(m:md)(v:Int):Bool:=!m.getD v.toNat false
variable{L:jp}{v:Int}
theorem Zz(hl:L[k]?=some v)(h:m.getD v.toNat false=false):(L.take (k+1)).filter (lx m)=(L.take k).filter (lx m)++[v]:=by rw[eE hl,asa,asq,IO (by unfold lx;rw[h];rfl)];rfl
theorem Zy(hl:L[k]?=some v)(h:m.getD v.toNat false=true):(L.take (k+1)).filter (lx m)=(L.take k).filter (lx m):=by rw[eE hl,asa,asq,BT (by unfold lx;rw[h];simp)];simp
theorem XQ(m:md)(L:jp)(v:Int):cS m (L++[v])=(cS m L).set v.toNat true:=by unfold cS;rw[asd];rfl
section
variable{n:ak}{V:Nat}(hs:bR n V)(ft:Fit n)(h0:cZ n=0)(ha:dT (aY n) V=true)
include hs ft h0 ha
theorem yk(hl:∀l∈ls,0<=l/\l / 2<=(V:Int))(hn:ls.length<=1000000)(hm:m.length=V+1)(hc:qU n (On m))(ms:md){left:jp}(hleft:todo m left<=10000)(lm mm:ib) :
  ∃m' left',rP (ls,vk n m ms left lm mm)=some (fg n m' ms left' lm mm)/\qK n V ls m left m' left':=by
 refine⟨cS m (o8 n V m ls),left++o8 n V m ls,?_,alm hs (fun l h=>(hl l h).2) hm hc left⟩;have hV2:=hs.v2;have e2:Kw (ls,((ls.length:Int),(0:Int),nt n (m,ms,left,lm,mm,[],())) )=some (nt n (m,ms,left,lm,mm,jn m ls,())):=by
  unfold Kw;delta jv u5 bM bX;refine d9 (fun k:Nat=>(ls,(ls.length:Int),(k:Int),nt n (m,ms,left,lm,mm,jn m (ls.take k),())) ) ls.length rfl ?_ ?_ atU
  .intro k hk;unfold nt
   try dsimp only
   unfold BU;have hg:=ba hk;obtain⟨h1,h2⟩:=hl _ (By hk);obtain⟨u,hu⟩:=BY (show 0<=ls[k] / 2 by omega);have hut:(ls[k] / 2).toNat=u:=atO
   rw[dc atW,bH atT,bI (σ:=.I) hg];refine(bS (AU hu)).trans ?_;have hlen:(jn m (ls.take k)).length<=100000000:=by
    have h3:=(atd (p:=fun x=>decide (0<x / 2)&&!m.getD (x / 2).toNat false) (l:=ls.take k)).length_le;have h4:(ls.take k).length<=ls.length:=by rw[fx];omega
    unfold jn;omega
   have ek:qr ((k:Int)+1)=((k+1:Nat):Int):=atX;have fin:∀(b b':Int) (s s':jp),b=b'->s=s'->(atY (ls,(ls.length:Int),b,nt n (m,ms,left,lm,mm,s,())):am BO BL)=atY (ls,(ls.length:Int),b',nt n (m,ms,left,lm,mm,s',())):=by rintro _ _ _ _ rfl rfl;rfl
   by_cases q:0<ls[k] / 2
   .refine(dc atW).trans ((bH atT).trans ?_);cases q2:m.getD u false
    .refine(dc (show bP true (Bool.not (gt .bool m (u:Int))) false=true from(PP Bool.not q2))).trans ((bH (lM hlen atO)).trans ?_);exact fin _ _ _ _ ek (akE hg q (by rw[hut];exact q2)).symm
    .refine(cE (show bP true (Bool.not (gt .bool m (u:Int))) false=false from(PP Bool.not q2))).trans ?_;exact fin _ _ _ _ ek (YC hg (fun h=>by rw[hut,q2]at h;cases h.2)).symm
   .refine(cE atV).trans ?_;exact fin _ _ _ _ ek (YC hg (fun h=>q h.1)).symm
  .unfold nt
   try dsimp only
   unfold BU;rw[cE atV,eX];rfl
 have hsl:∀l∈jn m ls,0<=l/\l / 2<=(V:Int):=fun l h=>hl l (arg.1 h).1;have hsn:(jn m ls).length<=1000000:=IS List.filter_sublist.length_le hn;show Kz V9 ph Kw Kr ls n.vars n.al (n.ag.map bq) n.aZ n.aN n.constraints (n.ae.map aI) (n.aj.map bc) m ms left lm mm=_;unfold Kz;refine(bS e2).trans ?_;by_cases q:(jn m ls).length=0
 .refine(dc (aD (show((jn m ls).length:Int)=0 by omega))).trans ?_;have e:o8 n V m ls=[]:=by
   unfold o8;have:jn m ls=[]:=ww q;rw[this];have:nB n V []=[]:=List.eq_nil_iff_forall_not_mem.2 fun v hv=>by have h:=(MA.1 hv).2.2;exact tT (S:=fun _=>False) (fun _ _ _ h _ _ _ _=>h) (fun l hl=>by simp at hl) h
   rw[this];rfl
  rw[e,d6];rfl
 .refine(cE (aF (show ¬((jn m ls).length:Int)=0 by omega))).trans ((bS (agR hs ft h0 ha hsl hsn)).trans ?_);obtain⟨L,hL⟩:∃L,L=nB n V (jn m ls):=⟨_,rfl⟩;have hLm:∀v∈L,0<=v/\v<=(V:Int):=fun v hv=>by rw[hL]at hv;have:=MA.1 hv;exact⟨this.1,this.2.1⟩
  have hLn:(L.map Int.toNat).Nodup:=by rw[hL];exact XD n V _
  have hLl:L.length<=V+1:=by rw[hL];unfold nB;rw[aP];exact IS List.filter_sublist.length_le (by rw[asO];exact rt _)
  have eN:o8 n V m ls=L.filter (lx m):=by rw[hL];rfl
  have e10:Kr (L,(L.length:Int),(0:Int),nt n (m,ms,lm,mm,left,()))=some (fg n (cS m (L.filter (lx m))) ms (left++L.filter (lx m)) lm mm):=by
   unfold Kr;delta u16 u4 bM bX;refine d9 (fun k:Nat=>(L,(L.length:Int),(k:Int),fg n (cS m ((L.take k).filter (lx m))) ms (left++(L.take k).filter (lx m)) lm mm)) L.length (by rw[arR];show _=(L,_,_,fg n m ms (left++[]) lm mm);rw[d6];rfl) ?_ ?_ atU
   .intro k hk;unfold fg nt
    try dsimp only
    unfold BR;have hg:=ba hk;obtain⟨h1,h2⟩:=hLm _ (By hk);obtain⟨u,hu⟩:=BY h1;have hu:L[k]=(u:Int):=hu;have hut:(L[k]).toNat=u:=atO
    have hml:(cS m ((L.take k).filter (lx m))).length=V+1:=by rw[yd];exact hm
    have hu2:(cS m ((L.take k).filter (lx m))).getD u false=m.getD u false:=by
     rw[atD];show On _ u↔On m u;rw[yx];constructor
     .rintro(h|⟨w,hw,e,_⟩)
      .exact h
      .exfalso;have hw:=(arg.1 hw).1;obtain⟨j,hj,hj2⟩:=arO hw;rw[fx]at hj;rw[List.getElem_take]at hj2;have hp:=asb.1 (arN.1 hLn) j k (by rw[aP];omega) (by rw[aP];omega) atO;rw[ath,ath,hj2,e,hut]at hp;exact hp rfl
     .exact .inl
    rw[dc atW,bH atT,bI (σ:=.I) hg,hu,bH atT];have ek:qr ((k:Int)+1)=((k+1:Nat):Int):=atX;have hg2:L[k]?=some (u:Int):=by rw[hg,hu]
    have fin:∀(b b':Int) (s s':md) (t t':jp),b=b'->s=s'->t=t'->(atY (L,(L.length:Int),b,fg n s ms t lm mm):am BK BG)=atY (L,(L.length:Int),b',fg n s' ms t' lm mm):=by rintro _ _ _ _ _ _ rfl rfl rfl;rfl
    cases q2:m.getD u false
    .have hnl:(left++(L.take k).filter (lx m)).length<=100000000:=by
      rw[bU];have h3:=(atd (p:=lx m) (l:=L.take k)).length_le;have h4:(L.take k).length<=L.length:=by rw[fx];omega
      unfold todo at hleft;omega
     refine(dc (show Bool.not (gt .bool (cS m ((L.take k).filter (lx m))) (u:Int))=true from(PP Bool.not (hu2.trans q2)))).trans ((bH atT).trans ((bH (lM hnl atO)).trans ?_));refine fin _ _ _ _ _ _ ek ?_ ?_
     .rw[Zz hg2 q2,XQ];rfl
     .rw[Zz hg2 q2,<-bB];rfl
    .refine(cE (show Bool.not (gt .bool (cS m ((L.take k).filter (lx m))) (u:Int))=false from(PP Bool.not (hu2.trans q2)))).trans ?_;refine fin _ _ _ _ _ _ ek ?_ ?_
     .rw[Zy hg2 q2]
     .rw[Zy hg2 q2]
   .unfold fg nt
    try dsimp only
    unfold BR;rw[cE atV,eX];rfl
  rw[eN,<-hL];exact(bS e10).trans rfl
end
abbrev iM{α:Type}(n:ak)(r:α):=(n.vars,n.ag.map bq,n.aZ,n.aN,n.constraints,n.ae.map aI,n.aj.map bc,r)
def fb(D:jp)(k:Nat):jp:=((List.range k).filter fun v:Nat=>decide (1<=v)&&!D.contains (v:Int)).map fun v:Nat=>(v:Int)
variable{D:jp}
theorem MH(h:1<=k)(h2:(k:Int)∉D):fb D (k+1)=fb D k++[(k:Int)]:=by
 have hc:D.contains (k:Int)=false:=by grind
 exact yJ (p:=fun v:Nat=>decide (1<=v)&&!D.contains (v:Int)) (by grind)
theorem MG(h2:(k:Int)∈D):fb D (k+1)=fb D k:=by
 have hc:D.contains (k:Int)=true:=by grind
 exact yI (p:=fun v:Nat=>decide (1<=v)&&!D.contains (v:Int)) (by grind)
theorem XK(D:jp):fb D 1=[]:=rfl
theorem XJ(D:jp)(k:Nat):(fb D k).length<=k:=by
 unfold fb
 grind
theorem Mp(L t:jp)(k:Int)(v:Int):gN t k (L++[v])=(gN t k L).set v.toNat (k+L.length):=by rw[Yf];rfl
section
variable{n:ak}{V:Nat}(hs:bR n V)(h0:cZ n=0)(ha:dT (aY n) V=true){s:S2}(M:iZ n V s)
include hs h0 ha M
theorem aiz:Lw (bW (bV n s),())=some (bW (ij n s V),(0:Int),()):=by
 have hV2:=hs.v2;have P:=DY hs M;have hPf:=vP P;have E:=tY hs (s:=s);obtain⟨D,hD⟩:∃D,D=dF n s:=⟨_,rfl⟩;have hDd:aX (bV n s)=D:=by rw[hD];rfl
 have hDr:∀v∈D,1<=v/\v<=(V:Int):=fun v hv=>by rw[hD]at hv;exact hs.dY v ((vS n s).subset hv)
 have hDl:D.length<=V:=by rw[hD];exact MT hs M
 have hvars:(bV n s).vars=(V:Int):=P.vars;have hmiss:pR n s V=fb D (V+1):=by rw[hD];rfl
 have hIl:(bV n s).al.length<=2000:=P.lens.1;have hfull:=vL hs M;have hT:mA n s V={ bV n s with al:=(bV n s).al++fb D (V+1) }:=by unfold mA;rw[hmiss]
 have ef:eW n s V=gN (List.replicate (V+1) 0) 1 (D++fb D (V+1)):=by unfold eW jr;rw[hmiss,<-hD]
 have hpre:=Y4 hfull (ahK hs M ha) (tX hs) (D6 hs (s:=s));have hsm:ij n s V={ iu (eW n s V) (bV n s)with vars:=(D.length:Int) }:=by unfold ij;rw[hD]
 obtain⟨Q,hQ⟩:∃Q,Q=bV n s:=⟨_,rfl⟩;rw[<-hQ]at hPf hDd hvars hIl hT hsm |-;rw[hT]at hpre;obtain⟨I,hI⟩:∃I,I=Q.al:=⟨_,rfl⟩;obtain⟨ts,hts⟩:∃ts,ts=eW n s V:=⟨_,rfl⟩;rw[<-hts]at hpre ef hsm;have htl:ts.length=V+1:=by rw[ef,tO,gp]
 rw[hsm];have eD:Wq (nt Q ())=some (D,()):=by show vB Q.vars Q.al (Q.ag.map bq) Q.aZ Q.aN Q.constraints (Q.ae.map aI) (Q.aj.map bc)=_;unfold vB;have e:d8 (Q.vars,Q.al,Q.ag.map bq,Q.aZ,Q.aN,Q.constraints,Q.ae.map aI,Q.aj.map bc,())=Q:=lZ Q;rw[e,qW hPf,hDd];rfl
 have eC:tM (nt Q ())=some (iM Q (I,())):=by show pC Q.vars Q.al (Q.ag.map bq) Q.aZ Q.aN Q.constraints (Q.ae.map aI) (Q.aj.map bc)=_;unfold pC;have e:d8 (Q.vars,Q.al,Q.ag.map bq,Q.aZ,Q.aN,Q.constraints,Q.ae.map aI,Q.aj.map bc,())=Q:=lZ Q;rw[e,qW hPf,hI];rfl
 obtain⟨m,hm⟩:∃m,m=cS (List.replicate (V+1) false) D:=⟨_,rfl⟩;have hml:m.length=V+1:=by rw[hm,yd,gp]
 have hmo:∀v:Nat,v<=V->(m.getD v false=true↔(v:Int)∈D):=fun v hv=>by
  show On m v↔_;rw[hm,yx];constructor
  .rintro(h|⟨u,hu,e,_⟩)
   .exact absurd h pI
   .have:=hDr u hu;rw[show(v:Int)=u by omega];exact hu
  .intro h;exact .inr ⟨(v:Int),h,atQ,by rw[gp];omega⟩
 have e4:Dq (D,D,(D.length:Int),(0:Int),nt Q ((0:Int),List.replicate (V+1) false,()))=some (D,nt Q ((0:Int),m,())):=by
  rw[hm];unfold Dq;delta iC u2 bM bX;refine d9 (fun k:Nat=>(D,D,(D.length:Int),(k:Int),nt Q ((0:Int),cS (List.replicate (V+1) false) (D.take k),()))) D.length rfl ?_ ?_ atU
  .intro k hk;unfold nt
   try dsimp only
   unfold Dp;have hg:=ba hk;obtain⟨r1,r2⟩:=hDr _ (By hk);rw[dc atW,bH atT,bI (σ:=.I) hg,bH (aU ⟨atO,by rw[yd,gp];omega⟩),eE hg,XQ,cH (x:=(k:Int)+1) atO];rfl
  .unfold nt
   try dsimp only
   unfold Dp;rw[cE atV,eX];rfl
 have e10:Lh (D,(1:Int),nt Q ((0:Int),m,iM Q (I,())))=some (D,nt Q ((0:Int),m,iM Q (I++fb D (V+1),()))):=by
  unfold Lh;delta l9 u8 bM bX;refine d9 (fun k:Nat=>(D,((k+1:Nat):Int),nt Q ((0:Int),m,iM Q (I++fb D (k+1),())))) V (by rw[XK,d6];rfl) ?_ ?_ atU
  .intro k hk;unfold nt iM
   try dsimp only
   unfold Df;have ek:qr (((k+1:Nat):Int)+1)=((k+1+1:Nat):Int):=atX;have fin:∀(b b':Int) (L L':jp),b=b'->L=L'->(atY (D,b,nt Q ((0:Int),m,iM Q (L,()))):am CG Cl)=atY (D,b',nt Q ((0:Int),m,iM Q (L',()))):=by rintro _ _ _ _ rfl rfl;rfl
   rw[dc atW,bH atT];have hmk:=hmo (k+1) atO;cases q:m.getD (k+1) false with
   |true=>rw[cE (show Bool.not (gt .bool m ((k+1:Nat):Int))=false from PP Bool.not q)];exact fin _ _ _ _ ek (by rw[MG (hmk.1 q)])|false=>
    have hnD:((k+1:Nat):Int)∉D:=fun h=>by have:=hmk.2 h;rw[q]at this;cases this
    have hln:(I++fb D (k+1)).length<=100000000:=by rw[bU,hI];have:=XJ D (k+1);omega
    rw[dc (show Bool.not (gt .bool m ((k+1:Nat):Int))=true from PP Bool.not q),bH (lM hln atO)];exact fin _ _ _ _ ek (by rw[MH atO hnD,<-bB];rfl)
  .unfold nt iM
   try dsimp only
   unfold Df;rw[cE atV];rfl
 have e16:Di (D,D,(D.length:Int),(0:Int),nt Q ((0:Int),m,iM Q (I++fb D (V+1),List.replicate (V+1) (0:Int),())))=some (D,nt Q ((0:Int),m,iM Q (I++fb D (V+1),gN (List.replicate (V+1) 0) 1 D,()))):=by
  unfold Di;delta rO vm bM bX;refine d9 (fun k:Nat=>(D,D,(D.length:Int),(k:Int),nt Q ((0:Int),m,iM Q (I++fb D (V+1),gN (List.replicate (V+1) 0) 1 (D.take k),())))) D.length rfl ?_ ?_ atU
  .intro k hk;unfold nt iM
   try dsimp only
   unfold Dg;have hg:=ba hk;obtain⟨r1,r2⟩:=hDr _ (By hk);have ek:qr ((k:Int)+1)=((k+1:Nat):Int):=atX;have fin:∀(b b':Int) (L L':jp),b=b'->L=L'->(atY (D,D,(D.length:Int),b,nt Q ((0:Int),m,iM Q (I++fb D (V+1),L,()))):am CH Cm)=atY (D,D,(D.length:Int),b',nt Q ((0:Int),m,iM Q (I++fb D (V+1),L',()))):=by rintro _ _ _ _ rfl rfl;rfl
   rw[dc atW,bH atT,bI (σ:=.I) hg,bH (aU ⟨atO,by rw[tO,gp];omega⟩)];refine fin _ _ _ _ ek ?_;rw[eE hg,Mp,fx,asx (asS hk),ek,show(1:Int)+(k:Int)=((k+1:Nat):Int) by omega];rfl
  .unfold nt iM
   try dsimp only
   unfold Dg;rw[cE atV,eX];rfl
 have e22:Li (D,(D.length:Int),(1:Int),nt Q ((0:Int),m,iM Q (I++fb D (V+1),gN (List.replicate (V+1) 0) 1 D,())))=some (D,nt Q ((0:Int),iM Q (I++fb D (V+1),ts,()))):=by
  rw[ef];unfold Li;delta mw vl bM bX;refine d9 (fun k:Nat=>(D,((D.length+(fb D (k+1)).length:Nat):Int),((k+1:Nat):Int),nt Q ((0:Int),m,iM Q (I++fb D (V+1),gN (List.replicate (V+1) 0) 1 (D++fb D (k+1)),())))) V (by rw[XK,d6];rfl) ?_ ?_ atU
  .intro k hk;unfold nt iM
   try dsimp only
   unfold Dh;have hkl:=XJ D (k+1);have ek:qr (((k+1:Nat):Int)+1)=((k+1+1:Nat):Int):=atX;have fin:∀(a a' b b':Int) (L L':jp),a=a'->b=b'->L=L'->(atY (D,a,b,nt Q ((0:Int),m,iM Q (I++fb D (V+1),L,()))):am CI Cn)=atY (D,a',b',nt Q ((0:Int),m,iM Q (I++fb D (V+1),L',()))):=by rintro _ _ _ _ _ _ rfl rfl rfl;rfl
   rw[dc atW,bH atT];have hmk:=hmo (k+1) atO;cases q:m.getD (k+1) false with
   |true=>rw[cE (show Bool.not (gt .bool m ((k+1:Nat):Int))=false from PP Bool.not q)];exact fin _ _ _ _ _ _ (by rw[MG (hmk.1 q)]) ek (by rw[MG (hmk.1 q)])|false=>
    have hnD:((k+1:Nat):Int)∉D:=fun h=>by have:=hmk.2 h;rw[q]at this;cases this
    have en:qr (((D.length+(fb D (k+1)).length:Nat):Int)+1)=((D.length+(fb D (k+1)).length+1:Nat):Int):=atX;rw[dc (show Bool.not (gt .bool m ((k+1:Nat):Int))=true from PP Bool.not q),bH (aU ⟨atO,by rw[tO,gp];omega⟩)];refine fin _ _ _ _ _ _ ?_ ek ?_
    .rw[MH atO hnD,bU,en];rfl
    .rw[MH atO hnD,<-bB,Mp,en];have h5:(D++fb D (k+1)).length=D.length+(fb D (k+1)).length:=bU;rw[show(1:Int)+((D++fb D (k+1)).length:Int)=((D.length+(fb D (k+1)).length+1:Nat):Int) by rw[h5];omega];rfl
  .unfold nt iM
   try dsimp only
   unfold Dh;rw[cE atV];rfl
 have eR:VR (Q.vars,I++fb D (V+1),Q.ag.map bq,Q.aZ,Q.aN,Q.constraints,Q.ae.map aI,Q.aj.map bc,ts,())=some (Q.vars,(I++fb D (V+1)).map (rv ts),(Q.ag.map (jV ts)).map bq,Q.aZ.map (rl ts),Q.aN.map (rl ts),Q.constraints.map (rl ts),(Q.ae.map (i9 ts)).map aI,(0:Int),(Q.aj.map (jU ts)).map bc,()):=by show vA Q.vars (I++fb D (V+1)) (Q.ag.map bq) Q.aZ Q.aN Q.constraints (Q.ae.map aI) (Q.aj.map bc) ts=_;unfold vA;rw[hI];have e:d8 (Q.vars,Q.al++fb D (V+1),Q.ag.map bq,Q.aZ,Q.aN,Q.constraints,Q.ae.map aI,Q.aj.map bc,())={ Q with al:=Q.al++fb D (V+1) }:=lZ { Q with al:=Q.al++fb D (V+1) };rw[e,hpre,XN];rfl
 have w1:qr (Q.vars+1)=((V+1:Nat):Int):=by rw[hvars];exact atX
 show LL VR tM Wq Dq Lh Di Li (bW Q)=_;unfold LL;refine(bS eD).trans ?_;have ew:∀(z a:Int) (d:Nat),z=((V+1:Nat):Int)->a=(d:Int)->d<=8->both (iE (0:Int) z) (both (iE z z) (iE (a*z) (281474976710656:Int)))=true:=by rintro _ _ d rfl rfl hd;refine vR atW (aD (asQ _)) (aD ?_);have:(d:Int)*((V+1:Nat):Int)<=8*((V+1:Nat):Int):=Int.mul_le_mul_of_nonneg_right atO atO;omega
 refine(bH (ew _ _ 1 w1 rfl atO)).trans ?_;have e4':∀L:md,L=List.replicate (V+1) false->Dq (D,D,(D.length:Int),(0:Int),nt Q ((0:Int),L,()))=some (D,nt Q ((0:Int),m,())):=by rintro _ rfl;exact e4
 refine(bS (e4' _ (PP (fun z:Int=>List.replicate z.toNat false) w1))).trans ((bS eC).trans ((bS e10).trans ((bH (ew _ _ 8 w1 rfl atO)).trans ?_)));have e16':∀L:jp,L=List.replicate (V+1) (0:Int)->Di (D,D,(D.length:Int),(0:Int),nt Q ((0:Int),m,iM Q (I++fb D (V+1),L,())))=some (D,nt Q ((0:Int),m,iM Q (I++fb D (V+1),gN (List.replicate (V+1) 0) 1 D,()))):=by rintro _ rfl;exact e16
 refine(bS (e16' _ (PP (fun z:Int=>List.replicate z.toNat (0:Int)) w1))).trans ((bS e22).trans ((bS eR).trans ((cE rfl).trans ?_)));have hlen2:(((I++fb D (V+1)).map (rv ts)).length:Int)=(I.length:Int)+((fb D (V+1)).length:Int):=by rw[aP,bU];omega
 have ck:both (iE (0:Int) (Int.ofNat Q.al.length)) (iE (Int.ofNat Q.al.length) (Int.ofNat ((I++fb D (V+1)).map (rv ts)).length))=true:=by have a1:iE (0:Int) (Int.ofNat Q.al.length)=true:=aD (by show(0:Int)<=((Q.al.length:Nat):Int);omega);have a2:iE (Int.ofNat Q.al.length) (Int.ofNat ((I++fb D (V+1)).map (rv ts)).length)=true:=aD (by show((Q.al.length:Nat):Int)<=(((I++fb D (V+1)).map (rv ts)).length:Int);rw[hlen2,<-hI];omega);rw[a1,a2];rfl
 refine(bH ck).trans ?_;have ht:List.take Q.al.length ((I++fb D (V+1)).map (rv ts))=Q.al.map (rv ts):=by rw[d7,<-hI];have:I.length=(I.map (rv ts)).length:=(aP _).symm;rw[this];exact atw
 have fin:∀L:jp,L=Q.al.map (rv ts)->(some (((D.length:Int),L,(Q.ag.map (jV ts)).map bq,Q.aZ.map (rl ts),Q.aN.map (rl ts),Q.constraints.map (rl ts),(Q.ae.map (i9 ts)).map aI,(Q.aj.map (jU ts)).map bc,()),(0:Int),()):Option (TL Dr))=some (bW { iu ts Q with vars:=(D.length:Int) },(0:Int),()):=by rintro _ rfl;rfl
 exact fin _ ht
end
abbrev fY{α:Type}(n:ak)(r:α):=(n.vars,n.al,n.ag.map bq,n.aZ,n.aN,n.constraints,n.ae.map aI,r)
abbrev afe(y:af.T):af.T:=(y.1,y.2.1,y.2.2.1,())
theorem akV{α:Type}(f:α->α){L:List α}{a:α}(h:L[k]?=some a):((L.take k).map f++L.drop k).set k (f a)=(L.take (k+1)).map f++L.drop (k+1):=by obtain⟨hk,ha⟩:=ut.1 h;rw[eE h,asV hk,ha,d7,List.set_append_right _ _ (by grind),aP,fx,asx (asS hk),Nat.sub_self,atE,bB];rfl
theorem akz(a b:Int):ed (iL a b) b a=max a b:=by
 unfold ed
 grind
theorem akA(a b:Int):ed (iL b a) b a=min a b:=by
 unfold ed
 grind
def mE(n:ak)(V k:Nat):List dU:=(((cG n V).take k).filter fun x=>!x.1.rd).map fun x=>n.aj.getD x.1.pos uJ
theorem akQ(R:ak)(hR:R.aj.length<=2000)(ts:jp):CB ((0:Int),(R.aj.length:Int),(0:Int),(0:Int),ts,fY R (R.aj.map bc,()))=some ((0:Int),(0:Int),ts,fY R ((R.aj.map jc).map bc,())):=by
 unfold CB;delta kI u1 bM bX;refine d9 (fun k:Nat=>((0:Int),(R.aj.length:Int),(k:Int),(0:Int),ts,fY R (((R.aj.take k).map jc++R.aj.drop k).map bc,()))) R.aj.length rfl ?_ ?_ atU
 .intro k hk;unfold fY
  try dsimp only
  unfold Cz;have hg:=ba hk;obtain⟨a,ha⟩:∃a,a=R.aj[k]:=⟨_,rfl⟩;rw[<-ha]at hg;have hlen:((R.aj.take k).map jc++R.aj.drop k).length=R.aj.length:=by rw[bU,aP,fx,asl];omega
  have hX:(((R.aj.take k).map jc++R.aj.drop k).map bc)[k]?=some (bc a):=by rw[ct,WF (by rw[aP,fx];omega),aP,fx,asx (asS hk),Nat.sub_self,atl,asF,hg];rfl
  obtain⟨X,hXX⟩:∃X,X=((R.aj.take k).map jc++R.aj.drop k).map bc:=⟨_,rfl⟩;have hXl:X.length=R.aj.length:=by rw[hXX,aP,hlen]
  have hup:X.set k (bc (jc a))=((R.aj.take (k+1)).map jc++R.aj.drop (k+1)).map bc:=by rw[hXX,<-akV jc hg,List.map_set]
  rw[<-hXX]at hX |-;rw[<-hup];have ek:qr ((k:Int)+1)=((k+1:Nat):Int):=atX;rw[dc atW,bH atT,bH (show nQ (Int.toNat (k:Int)) (Int.toNat (k:Int))=true from aD rfl),bI hX];refine(bH (aD rfl)).trans ?_;have hY:(X.set k (a.var,ed (iL a.a a.b) a.b a.a,a.b,()))[k]?=some (a.var,ed (iL a.a a.b) a.b a.a,a.b,()):=arK atO;have hY2:gt af (X.set k (a.var,ed (iL a.a a.b) a.b a.a,a.b,())) (k:Int)=(a.var,ed (iL a.a a.b) a.b a.a,a.b,()):=bI (σ:=af) hY;obtain⟨mn,hmn⟩:∃mn:Int,mn=min a.a a.b:=⟨_,rfl⟩;have hmx:=akz a.a a.b;have hmi:=akA a.a a.b;rw[<-hmn]at hmi;have hsw:bc (jc a)=(a.var,max a.a a.b,mn,()):=by rw[hmn];rfl
  have h1:∀z:Int,z=max a.a a.b->((a.var,z,mn,()):af.T)=bc (jc a):=by rintro _ rfl;exact hsw.symm
  have fin:∀(b b':Int) (y:af.T) (z:Int),b=b'->y=(a.var,ed (iL a.a a.b) a.b a.a,a.b,())->z=mn->(atY ((0:Int),(R.aj.length:Int),b,(0:Int),ts,fY R ((X.set k (a.var,ed (iL a.a a.b) a.b a.a,a.b,())).set k (y.1,y.2.1,z,()),())):am xQ xN)=atY ((0:Int),(R.aj.length:Int),b',(0:Int),ts,fY R (X.set k (bc (jc a)),())):=by rintro b _ _ z rfl rfl hz;rw[hz];have h2:(X.set k (a.var,ed (iL a.a a.b) a.b a.a,a.b,())).set k (a.var,ed (iL a.a a.b) a.b a.a,mn,())=X.set k (bc (jc a)):=(PP (List.set _ k) (h1 _ hmx)).trans (List.set_set ..);exact PP (fun L:List af.T=>(atY ((0:Int),(R.aj.length:Int),b,(0:Int),ts,fY R (L,())):am xQ xN)) h2
  exact fin _ _ _ _ ek hY2 hmi
 .unfold fY
  try dsimp only
  unfold Cz;rw[cE atV,eX,List.drop_length,d6];rfl
section
variable{n:ak}{V:Nat}(hs:bR n V)(h0:cZ n=0)(ha:dT (aY n) V=true)
include hs h0 ha
theorem ah9:KW (bW n,())=some (bW (sU n V),j6 n V,(0:Int),()):=by
 have hV2:=hs.v2;have hvars:=hs.vars;have ft:=vP hs;have S:=rT hs ha;have hSf:=vP S;have hck:Pl.eZ n=0:=rS hs h0 fun v hv=>(jL hs.apart V).1 ha v hv;have hfine:=(yl hs ha h0).1;have hpre:=Y4 S (ahW hs ha h0) hfine (Mr hs ha h0);have hDr:=S.dY;have hDl:(aX (jb n V)).length<=V:=(yj V _ S.nodup S.dY).1;obtain⟨O,hO⟩:∃O,O=cG n V:=⟨_,rfl⟩;have hOl:O.length<=9000000:=by rw[hO];exact aeT hs
 have hSK:∀k,(mE n V k).length<=9000000:=fun k=>by unfold mE;rw[aP];refine IS List.filter_sublist.length_le ?_;rw[fx,<-hO];omega
 have eC:=th ft;rw[hck]at eC;have eO:=aeB hs ft h0;rw[IO ha,<-hO]at eO;have e8:CW (O.map (fun x=>dC x.1),(O.length:Int),(0:Int),nt n ((0:Int),fY n ([],())))=some (nt n ((0:Int),fY n ((jo n V).map bc,()))):=by
  unfold CW;delta l9 u8 bM bX;refine d9 (fun k:Nat=>(O.map (fun x=>dC x.1),(O.length:Int),(k:Int),nt n ((0:Int),fY n ((mE n V k).map bc,())))) O.length rfl ?_ ?_ atU
  .intro k hk;unfold nt fY
   try dsimp only
   unfold CV;have hg:=ba hk;obtain⟨x,hx⟩:∃x,x=O[k]:=⟨_,rfl⟩;rw[<-hx]at hg;have hg':(O.map fun x=>dC x.1)[k]?=some (dC x.1):=by rw[ct,hg];rfl
   have ek:qr ((k:Int)+1)=((k+1:Nat):Int):=atX;have fin:∀(b b':Int) (L L':List af.T),b=b'->L=L'->(atY (O.map (fun x=>dC x.1),(O.length:Int),b,nt n ((0:Int),fY n (L,()))):am xS xR)=atY (O.map (fun x=>dC x.1),(O.length:Int),b',nt n ((0:Int),fY n (L',()))):=by rintro _ _ _ _ rfl rfl;rfl
   rw[dc atW,bH (aU ⟨atO,by rw[aP];omega⟩),bI hg'];have hgO:(cG n V)[k]?=some x:=by rw[<-hO];exact hg
   have his:=uv n (uI (dy hgO));rcases his with⟨h1,a,h2,h3⟩|⟨h1,_⟩
   .have h2':(n.aj.map bc)[x.1.pos]?=some (bc a):=by rw[ct,h2];rfl
    have hpl:=(ut.1 h2).1;refine(dc (show Bool.not (dC x.1).1=true from PP Bool.not h1)).trans ((bH (aU ⟨by show(0:Int)<=(x.1.pos:Int);omega,by show(x.1.pos:Int)<((List.length (n.aj.map bc):Nat):Int);rw[aP];omega⟩)).trans ?_);have hgt:gt af (n.aj.map bc) ((dC x.1).2.2.1)=bc a:=bI h2';have hsk:mE n V (k+1)=mE n V k++[a]:=by unfold mE;rw[eE hgO,asa,asq,IO (by rw[h1];rfl),List.filter_nil,d7,arI,asG,eu,h2];rfl
    have key:∀y:af.T,y=bc a->(au (room 24 (List.length ((mE n V k).map bc++(afe y::[])))) <|(atY (O.map (fun x=>dC x.1),(O.length:Int),(qr ((k:Int)+1)),nt n ((0:Int),fY n ((mE n V k).map bc++(afe y::[]),()))):am xS xR))=atY (O.map (fun x=>dC x.1),(O.length:Int),((k+1:Nat):Int),nt n ((0:Int),fY n ((mE n V (k+1)).map bc,()))):=by rintro _ rfl;rw[bH (lM (by rw[aP];have:=hSK k;omega) atO)];exact fin _ _ _ _ ek (by rw[hsk,d7];rfl)
    exact key _ hgt
   .refine(cE (show Bool.not (dC x.1).1=false from PP Bool.not h1)).trans ?_;exact fin _ _ _ _ ek (by
     have hsk:mE n V (k+1)=mE n V k:=by unfold mE;rw[eE hgO,asa,asq,BT (by rw[h1];simp),List.filter_nil,d6]
     rw[hsk])
  .unfold nt fY
   try dsimp only
   unfold CV;rw[cE atV];have:mE n V O.length=jo n V:=by unfold mE jo;rw[hO,eX]
   rw[this];rfl
 obtain⟨D,hD⟩:∃D,D=aX (jb n V):=⟨_,rfl⟩;rw[<-hD]at hDr hDl;have eD:VJ (fY n ((jo n V).map bc,()))=some (D,(jo n V).map bc,()):=by show vz n.vars n.al (n.ag.map bq) n.aZ n.aN n.constraints (n.ae.map aI) ((jo n V).map bc)=_;unfold vz;have e:d8 (n.vars,n.al,n.ag.map bq,n.aZ,n.aN,n.constraints,n.ae.map aI,(jo n V).map bc,())=jb n V:=lZ (jb n V);rw[e,qW hSf,hD];rfl
 obtain⟨ts,hts⟩:∃ts,ts=j6 n V:=⟨_,rfl⟩;rw[<-hts]at hpre hfine;have hts2:ts=gN (List.replicate (V+1) 0) 1 D:=by rw[hts,hD];rfl
 have e15:CA (D,(D.length:Int),(0:Int),(0:Int),fY n ((jo n V).map bc,List.replicate (V+1) (0:Int),()))=some ((0:Int),fY n ((jo n V).map bc,ts,())):=by
  rw[hts2];unfold CA;delta kI u1 bM bX;refine d9 (fun k:Nat=>(D,(D.length:Int),(k:Int),(0:Int),fY n ((jo n V).map bc,gN (List.replicate (V+1) 0) 1 (D.take k),()))) D.length rfl ?_ ?_ atU
  .intro k hk;unfold fY
   try dsimp only
   unfold Cy;have hg:=ba hk;obtain⟨r1,r2⟩:=hDr _ (By hk);have ek:qr ((k:Int)+1)=((k+1:Nat):Int):=atX;have fin:∀(b b':Int) (L L':jp),b=b'->L=L'->(atY (D,(D.length:Int),b,(0:Int),fY n ((jo n V).map bc,L,())):am Cb BX)=atY (D,(D.length:Int),b',(0:Int),fY n ((jo n V).map bc,L',())):=by rintro _ _ _ _ rfl rfl;rfl
   rw[dc atW,bH atT,bI (σ:=.I) hg,bH (aU ⟨atO,by rw[tO,gp];omega⟩)];refine fin _ _ _ _ ek ?_;rw[eE hg,Mp,fx,asx (asS hk),ek,show(1:Int)+(k:Int)=((k+1:Nat):Int) by omega];rfl
  .unfold fY
   try dsimp only
   unfold Cy;rw[cE atV,eX];rfl
 have eR:Vj (fY n ((jo n V).map bc,ts,()))=some (fY (mq n V) ((0:Int),ts,(mq n V).aj.map bc,())):=by show vu n.vars n.al (n.ag.map bq) n.aZ n.aN n.constraints (n.ae.map aI) ((jo n V).map bc) ts=_;unfold vu;have e:d8 (n.vars,n.al,n.ag.map bq,n.aZ,n.aN,n.constraints,n.ae.map aI,(jo n V).map bc,())=jb n V:=lZ (jb n V);rw[e,hpre,XN];unfold mq;rw[<-hts];rfl
 have hRl:(mq n V).aj.length<=2000:=by show((jo n V).map _).length<=2000;rw[aP];exact S.lens.2.2.1
 have e21:=akQ (mq n V) hRl ts;have w1:qr (n.vars+1)=((V+1:Nat):Int):=by rw[hvars];exact atX
 show Lg aeC IQ Vj VJ CW CA CB (bW n)=_;unfold Lg;have e8':∀z:Int,z=(O.length:Int)->CW (O.map (fun x=>dC x.1),z,(0:Int),nt n ((0:Int),fY n ([],())))=some (nt n ((0:Int),fY n ((jo n V).map bc,()))):=by rintro _ rfl;exact e8
 refine(bS eC).trans ((cE rfl).trans ((bS eO).trans ((bS (e8' _ (by show((List.length (O.map fun x=>dC x.1):Nat):Int)=_;rw[aP]))).trans ?_)));have ew:∀z:Int,z=((V+1:Nat):Int)->both (iE (0:Int) z) (both (iE z z) (iE ((Int.ofNat 8)*z) (281474976710656:Int)))=true:=by rintro _ rfl;exact vR atW (aD (asQ _)) (aD (by show(8:Int)*((V+1:Nat):Int)<=_;omega))
 have e15':∀L:jp,L=List.replicate (V+1) (0:Int)->CA (D,(D.length:Int),(0:Int),(0:Int),fY n ((jo n V).map bc,L,()))=some ((0:Int),fY n ((jo n V).map bc,ts,())):=by rintro _ rfl;exact e15
 refine(bH (ew _ w1)).trans ((bS eD).trans ((bS (e15' _ (PP (fun z:Int=>List.replicate z.toNat (0:Int)) w1))).trans ((bS eR).trans ?_)));have e21':∀z:Int,z=((mq n V).aj.length:Int)->CB ((0:Int),z,(0:Int),(0:Int),ts,fY (mq n V) ((mq n V).aj.map bc,()))=some ((0:Int),(0:Int),ts,fY (mq n V) (((mq n V).aj.map jc).map bc,())):=by rintro _ rfl;exact e21
 refine(bS (e21' _ (by show((List.length ((mq n V).aj.map bc):Nat):Int)=_;rw[aP]))).trans ?_;rw[<-hts];rfl
