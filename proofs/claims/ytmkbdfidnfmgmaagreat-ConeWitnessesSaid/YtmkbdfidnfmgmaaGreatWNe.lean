import Derived.Test.YtmkbdfidnfmgmaaGreatWNb
import Derived.Test.YtmkbdfidnfmgmaaGreatWNd
set_option linter.all false
section
namespace Go.Proofs.YtmkbdfidnfmgmaaGreat.Pl
structure cV where
 rd:Bool
 mem:Nat
 pos:Nat
structure cx where
 to:jp
 bj:jp
def jZ(a:dU):cx:=⟨[a.var],[a.a,a.b]⟩
def kj(word:Int)(r:jz):cx:=⟨bZ r.var word.toNat,r.addr⟩
def j4(m:cf):List cx:=m.reads.map (kj m.word)
def dj(n:ak):List cx:=n.aj.map jZ++n.ae.flatMap j4
def ja(k:Nat)(m:cf):List cV:=(List.range m.reads.length).map fun i=>⟨true,k,i⟩
def iN(k:Nat):List cf->List cV
 |[]=>[]|m::l=>ja k m++iN (k+1) l
def eH(n:ak):List cV:=(List.range n.aj.length).map (fun i=>⟨false,0,i⟩)++iN 0 n.ae
def cV.is(n:ak)(x:cV)(i:cx):Prop:=(x.rd=false/\∃a,n.aj[x.pos]?=some a/\i=jZ a)\/(x.rd=true/\∃m r,n.ae[x.mem]?=some m/\m.reads[x.pos]?=some r/\i=kj m.word r)
theorem aiY(n:List cf):∀(l:List cf) (k:Nat),(∀j,l[j]?=n[k+j]?)->∀(i:Nat) (x:cV),(iN k l)[i]?=some x->∃(m:cf) (r:jz),n[x.mem]?=some m/\m.reads[x.pos]?=some r/\(l.flatMap j4)[i]?=some (kj m.word r)/\x.rd=true:=by
 intro l
 induction l with
 |nil=>intro k _ i x h;simp[iN]at h|cons m l ih=>
  intro k hk i x h;rw[iN]at h;rw[AT];have hl1:(ja k m).length=m.reads.length:=by simp[ja]
  have hl2:(j4 m).length=m.reads.length:=by simp[j4]
  by_cases hi:i<m.reads.length
  .rw[Pi atO]at h;rw[Pi atO];unfold ja at h;rw[ct,arT hi]at h;injection h with h;subst h;have:=hk 0;rw[asF]at this;refine⟨m,m.reads[i],by rw[<-this];rfl,ba hi,?_,rfl⟩;unfold j4;rw[ct,ba hi];rfl
  .rw[WF atO]at h;rw[WF atO];rw[hl1]at h;rw[hl2];exact ih (k+1) (fun j=>by have:=hk (j+1);grind) _ x h
theorem Jf:∀(l:List cf) (k:Nat),(iN k l).length=(l.flatMap j4).length:=by
 intro l
 induction l with|nil=>intro k;rfl|cons m l ih=>intro k;rw[iN,AT,bU,bU,ih];simp[ja,j4]
theorem JF(n:ak):(eH n).length=(dj n).length:=by unfold eH dj;simp only[bU,Jf];simp
variable{i:Nat}
theorem za(n:ak){x:cV}(h:(eH n)[i]?=some x):∃y,(dj n)[i]?=some y/\x.is n y:=by
 unfold eH at h;unfold dj;have hl1:((List.range n.aj.length).map (fun i=>(⟨false,0,i⟩:cV))).length=n.aj.length:=atQ
 have hl2:(n.aj.map jZ).length=n.aj.length:=atQ
 by_cases hi:i<n.aj.length
 .rw[Pi atO]at h;rw[Pi atO];rw[ct,arT hi]at h;injection h with h;subst h;rw[ct,ba hi];exact⟨_,rfl,.inl ⟨rfl,_,ba hi,rfl⟩⟩
 .rw[WF atO]at h;rw[WF atO];rw[hl1]at h;rw[hl2];obtain⟨m,r,h1,h2,h3,h4⟩:=aiY n.ae n.ae 0 (fun j=>atQ) _ x h;exact⟨_,h3,.inr ⟨h4,m,r,h1,h2,rfl⟩⟩
def cx.nd(x:cx):Nd:=⟨x.bj.map fun l=>(l / 2).toNat,x.to.map Int.toNat⟩
def aY(n:ak):List Nd:=(dj n).map cx.nd
theorem anu{V:Int}:∀(l pre:jp),pre.Nodup->(∀x∈pre,1<=x/\x<=V)->dup V pre l=0->(pre++l).Nodup/\∀x∈pre++l,1<=x/\x<=V:=by
 intro l
 induction l with
 |nil=>intro pre h1 h2 _;simpa using⟨h1,h2⟩|cons v l ih=>
  intro pre h1 h2 h;rw[dup]at h;by_cases ha:v<1\/V<v
  .rw[IO ha]at h;omega
  .rw[BT ha]at h;by_cases hc:pre.contains v=true
   .rw[IO hc]at h;omega
   .rw[BT hc]at h;have hn:v∉pre:=by simpa using hc
    have:=ih (pre++[v]) (by
     rw[rx];exact⟨h1,atQ,fun a ha' b hb=>by simp at hb;subst hb;rintro rfl;exact hn ha'⟩) (fun x hx=>by
     rcases rc.1 hx with hx|hx
     .exact h2 x hx
     .simp at hx;subst hx;omega) h
    simpa using this
structure bR(n:ak)(V:Nat):Prop where
 vars:n.vars=(V:Int)
 v2:V<=2000
 nodup:(aX n).Nodup
 dY:∀x∈aX n,1<=x/\x<=(V:Int)
 lits:∀l∈bJ n,0<=l/\l / 2<=(V:Int)
 ae:∀m∈n.ae,1<=m.addr/\m.addr<=62/\1<=m.word/\m.word<=64/\(∀r∈m.reads,(r.addr.length:Int)=m.addr)/\(∀x∈m.writes,(x.addr.length:Int)=m.addr/\(x.data.length:Int)=m.word)/\m.reads.length<=4/\m.writes.length<=4
 init:∀l∈n.ag,0<=l.init/\l.init<=2
 lens:n.al.length<=2000/\n.ag.length<=2000/\n.aj.length<=2000/\n.aZ.length+n.aN.length+n.constraints.length<=1000/\n.ae.length<=4
variable{α:Type}
theorem any_false{p:α->Bool}{l:List α}(h:¬l.any p=true):∀x∈l,p x=false:=by grind
theorem zd{n:ak}(h:cZ n=0):∃V,bR n V:=by
 unfold cZ at h;by_cases h1:lK n=true
 .rw[IO h1]at h;omega
 rw[BT h1]at h;by_cases h2:n.ae.any iO=true
 .rw[IO h2]at h;omega
 rw[BT h2]at h;by_cases h3:n.ag.any ki=true
 .rw[IO h3]at h;omega
 rw[BT h3]at h;by_cases h4:dup n.vars [] (aX n)≠0
 .rw[IO h4]at h;exact absurd h h4
 rw[BT h4]at h;by_cases h5:(bJ n).any (iG n.vars)=true
 .rw[IO h5]at h;omega
 unfold lK at h1;rw[Bool.or_eq_true,not_or]at h1;obtain⟨h1a,h1b⟩:=h1;have h1a':¬(n.vars<0\/2000<n.vars\/2000<n.al.length\/2000<n.ag.length\/2000<n.aj.length\/1000<n.aZ.length+n.aN.length+n.constraints.length\/4<n.ae.length):=by simpa using h1a
 obtain⟨V,hV⟩:=BY (show 0<=n.vars by omega);obtain⟨d1,d2⟩:=anu (V:=n.vars) (aX n) [] atQ atQ atO;simp only[UV]at d1 d2;refine⟨V,hV,atO,d1,fun x hx=>hV▸d2 x hx,fun l hl=>?_,fun m hm=>?_,fun l hl=>?_,⟨atO,atO,atO,atO,atO⟩⟩
 .have:=any_false h5 l hl;unfold iG at this;have:¬(l<0\/n.vars<l / 2):=by simpa using this
  omega
 .have hw:=any_false h2 m hm;have hp:=any_false h1b m hm;unfold jS at hp;have hp:¬(4<m.reads.length\/4<m.writes.length):=by simpa using hp
  unfold iO at hw;rw[asM,asM]at hw;obtain⟨⟨w1,w2⟩,w3⟩:=hw;have w1:¬(m.addr<1\/62<m.addr\/m.word<1\/64<m.word):=by simpa using w1
  refine⟨atO,atO,atO,atO,fun r hr=>?_,fun x hx=>?_,atO,atO⟩
  .have:=any_false (p:=mF m) (by rw[w2];simp) r hr;unfold mF at this;simpa using this
  .have:=any_false (p:=nj m) (by rw[w3];simp) x hx;unfold nj at this
   grind
 .have:=any_false h3 l hl;unfold ki at this;have:¬(l.init<0\/2<l.init):=by simpa using this
  omega
theorem NW(n:ak):(dj n).flatMap cx.to=n.aj.map (·.var)++n.ae.flatMap fv:=by
 unfold dj;rw[OF];congr 1
 .induction n.aj with|nil=>rfl|cons a l ih=>rw[arI,AT,ih];rfl
 .rw[List.flatMap_assoc];congr 1;funext m;unfold j4 fv;rw[asn];rfl
theorem NP{f:α->jp}:∀{l:List α},(l.flatMap f).Nodup->∀{i j:Nat}{x y:α}{v:Int},l[i]?=some x->l[j]?=some y->v∈f x->v∈f y->i=j:=by
 intro l
 induction l with
 |nil=>intro _ i j x y v h;simp at h|cons a l ih=>
  intro hn i j x y v hi hj hx hy;rw[AT,rx]at hn
  grind
section
variable{n:ak}{V:Nat}
theorem bR.YG(s:bR n V):((dj n).flatMap cx.to).Nodup:=by
 rw[NW];have:=s.nodup;unfold aX at this
 grind
theorem bR.mf(s:bR n V){x:cx}(hx:x∈dj n){v:Int}(hv:v∈x.to):1<=v/\v<=(V:Int):=by
 have:v∈(dj n).flatMap cx.to:=rg.2 ⟨x,hx,hv⟩;rw[NW]at this;refine s.dY v ?_;unfold aX
 grind
theorem bR.zf(s:bR n V){x:cx}(hx:x∈dj n){l:Int}(hl:l∈x.bj):0<=l/\l / 2<=(V:Int):=by
 refine s.lits l ?_;unfold dj at hx;unfold bJ;rcases rc.1 hx with hx|hx
 .obtain⟨a,ha,rfl⟩:=ro.1 hx;have:l∈n.aj.flatMap js:=rg.2 ⟨a,ha,hl⟩;simp[this]
 .obtain⟨m,hm,hx⟩:=rg.1 hx;obtain⟨r,hr,rfl⟩:=ro.1 hx;have:l∈n.ae.flatMap fi:=rg.2 ⟨m,hm,by unfold fi;exact rc.2 (.inl (rg.2 ⟨r,hr,hl⟩))⟩;simp[this]
theorem bR.Ih(s:bR n V){x:cx}(hx:x∈dj n):x.to≠[]:=by
 unfold dj at hx;rcases rc.1 hx with hx|hx
 .obtain⟨a,ha,rfl⟩:=ro.1 hx;simp[jZ]
 .obtain⟨m,hm,hx⟩:=rg.1 hx;obtain⟨r,hr,rfl⟩:=ro.1 hx;have:=(s.ae m hm).2.2.1;unfold kj bZ;simp;omega
theorem E3:(aY n)[i]?=((dj n)[i]?).map cx.nd:=by unfold aY;rw[ct]
theorem ze{x:Nd}(h:x∈aY n):∃y∈dj n,x=y.nd:=by
 unfold aY at h
 grind
theorem bR.apart(s:bR n V):ik (aY n):=by
 intro i j x y v hi hj hx hy;rw[E3]at hi hj;obtain⟨x',hi',rfl⟩:=asj.1 hi;obtain⟨y',hj',rfl⟩:=asj.1 hj;obtain⟨a,ha,e1⟩:=ro.1 hx;obtain⟨b,hb,e2⟩:=ro.1 hy;have r1:=s.mf (dy hi') ha;have r2:=s.mf (dy hj') hb;have:a=b:=atO
 subst this;exact NP s.YG hi' hj' ha hb
theorem bR.bz(s:bR n V):∀x∈aY n,∀u∈x.bj,u<=V:=by intro x hx u hu;obtain⟨y,hy,rfl⟩:=ze hx;obtain⟨l,hl,rfl⟩:=ro.1 hu;have:=s.zf hy hl;omega
theorem bR.ef(s:bR n V):∀x∈aY n,x.to≠[]/\∀v∈x.to,v<=V:=by intro x hx;obtain⟨y,hy,rfl⟩:=ze hx;refine⟨by have:=s.Ih hy;unfold cx.nd;simpa using this,fun v hv=>?_⟩;obtain⟨l,hl,rfl⟩:=ro.1 hv;have:=s.mf hy hl;omega
end
variable{x:Nd}
def eZ(n:ak):Int:=if cZ n≠0 then cZ n else if dT (aY n) n.vars.toNat then 0 else 8
def zc(p:Nat->Bool):Nat->Nat
 |0=>0|k+1=>(if p k then 1 else 0)+zc p k
variable{p:Nat->Bool}{q:Nat->Bool}
theorem ZR:∀k,(∀v,v<k->p v=true->q v=true)->zc p k<=zc q k:=by
 intro k
 induction k with
 |zero=>intro _;exact rt _|succ k ih=>
  intro h;have h1:=ih fun v hv=>h v atO;have h2:=h k atO;simp only[zc]
  grind
variable{v:Nat}
theorem ams:∀k,v<k->q v=true->p v=false->(∀v,v<k->p v=true->q v=true)->zc p k<zc q k:=by
 intro k
 induction k with
 |zero=>intro h;omega|succ k ih=>
  intro hv hq hp h;simp only[zc];by_cases e:v=k
  .subst e;have h1:=ZR (p:=p) (q:=q) v fun v hv=>h v atO;rw[hq,hp];simp;omega
  grind
def fresh(V:Nat)(m:jp):Nat:=zc (fun v=>aJ m v == 0) (V+1)
section
variable{N:List Nd}{V:Nat}{m lv m' lv' m'' lv'':jp}
structure VI(N:List Nd)(V:Nat)(m lv:jp):Prop where
 ml:m.length=V+1
 ll:lv.length=V+1
 kd:∀v,v<=V->aJ m v=0\/aJ m v=1\/aJ m v=2
 wL:∀x∈N,∀u∈x.to,∀v∈x.to,aJ m u=aJ m v
 free:∀v,v<=V->(∀x∈N,v∉x.to)->aJ m v=0/\aJ lv v=0
 done:∀v,v<=V->aJ m v=2->∃k:Nat,aJ lv v=(k:Int)/\dB N v k
structure Ext(V:Nat)(m lv m' lv':jp):Prop where
 a:∀u,u<=V->aJ m u=1->aJ m' u=1
 b:∀u,u<=V->aJ m' u=1->aJ m u=1
 c:∀u,u<=V->aJ m u=2->aJ m' u=2/\aJ lv' u=aJ lv u
theorem Ext.refl:Ext V m lv m lv:=⟨fun _ _ h=>h,fun _ _ h=>h,fun _ _ h=>⟨h,rfl⟩⟩
theorem Ext.trans(h:Ext V m lv m' lv')(k:Ext V m' lv' m'' lv''):Ext V m lv m'' lv'':=⟨fun u hu h1=>k.a u hu (h.a u hu h1),fun u hu h1=>h.b u hu (k.b u hu h1),fun u hu h1=>⟨(k.c u hu (h.c u hu h1).1).1,by rw[(k.c u hu (h.c u hu h1).1).2,(h.c u hu h1).2]⟩⟩
def tl(N:List Nd)(m:jp)(u:Nat):Prop:=aJ m u=2\/∀x∈N,u∉x.to
theorem N0(i:VI N V m lv)(i':VI N V m' lv')(h:Ext V m lv m' lv'){u:Nat}(hu:u<=V)(t:tl N m u):tl N m' u/\aJ lv' u=aJ lv u:=by
 rcases t with t|t
 .exact⟨.inl (h.c u hu t).1,(h.c u hu t).2⟩
 .exact⟨.inr t,by rw[(i.free u hu t).2,(i'.free u hu t).2]⟩
theorem EU(i:VI N V m lv){u:Nat}(hu:u<=V)(t:tl N m u):∃k:Nat,aJ lv u=(k:Int)/\dB N u k:=by
 rcases t with t|t
 .exact i.done u hu t
 .exact⟨0,by rw[(i.free u hu t).2];rfl,.free u t⟩
theorem anW(i:VI N V m lv)(i':VI N V m' lv')(h:Ext V m lv m' lv'):fresh V m'<=fresh V m:=by
 refine ZR _ fun v hv hz=>?_;have hv:v<=V:=atO
 have hz:aJ m' v=0:=by grind
 rcases i.kd v hv with h0|h0|h0
 .simpa using h0
 .have:=h.a v hv h0;omega
 .have:=(h.c v hv h0).1;omega
theorem VI.under(ap:ik N)(i:VI N V m lv)(hx:x∈N)(ef:∀v∈x.to,v<=V)(hv:v∈x.to)(h0:aJ m v=0):VI N V (fL m x.to 1) lv:=by
 refine⟨by rw[ru,i.ml],i.ll,fun u hu=>?_,fun y hy a ha b hb=>?_,fun u hu hf=>?_,fun u hu h2=>?_⟩
 .rw[gC];split
  .exact .inr (.inl rfl)
  .exact i.kd u hu
 .rw[gC,gC];by_cases e:y=x
  .subst e;rw[IO ⟨ha,by rw[i.ml];have:=ef a ha;omega⟩,IO ⟨hb,by rw[i.ml];have:=ef b hb;omega⟩]
  .rw[BT fun h=>e (ap.same hy hx ha h.1),BT fun h=>e (ap.same hy hx hb h.1)];exact i.wL y hy a ha b hb
 .rw[gC,BT fun h=>hf x hx h.1];exact i.free u hu hf
 .rw[gC]at h2;split at h2
  .omega
  .exact i.done u hu h2
theorem amY(i:VI N V m lv)(hx:x∈N)(hv:v∈x.to)(hV:v<=V)(h0:aJ m v=0):fresh V (fL m x.to 1)<fresh V m:=by
 refine ams (v:=v) _ atO (by grind) ?_ fun u hu hz=>?_
 .rw[gC,IO ⟨hv,by rw[i.ml];omega⟩];rfl
 .have hz:aJ (fL m x.to 1) u=0:=by grind
  rw[gC]at hz
  grind
theorem VI.close(ap:ik N)(i0:VI N V m lv)(hx:x∈N)(ef:∀v∈x.to,v<=V)(bz:∀u∈x.bj,u<=V)(hv:v∈x.to)(h0:aJ m v=0)
  (i:VI N V m' lv') (h:Ext V (fL m x.to 1) lv m' lv') (ht:∀u∈x.bj,tl N m' u) {L:Int}(hL:L=((mx (x.bj.map fun u=>(aJ lv' u).toNat):Nat):Int)) :
  VI N V (fL m' x.to 2) (fL lv' x.to (L+1))/\Ext V m lv (fL m' x.to 2) (fL lv' x.to (L+1))/\tl N (fL m' x.to 2) v:=by
 have hml:=i.ml;have hll:=i.ll;have hlev:∀u∈x.bj,dB N u (aJ lv' u).toNat:=fun u hu=>by obtain⟨k,h1,h2⟩:=EU i (bz u hu) (ht u hu);rw[h1];simpa using h2
 have hm0:∀u∈x.to,aJ m u=0:=fun u hu=>by rw[i0.wL x hx u hu v hv,h0]
 refine⟨⟨by rw[ru,hml],by rw[ru,hll],fun u hu=>?_,fun y hy a ha b hb=>?_,fun u hu hf=>?_,fun u hu h2=>?_⟩,⟨fun u hu h1=>?_,fun u hu h1=>?_,fun u hu h2=>?_⟩,?_⟩
 .rw[gC];split
  .exact .inr (.inr rfl)
  .exact i.kd u hu
 .rw[gC,gC];by_cases e:y=x
  .subst e
   grind
  .rw[BT fun h=>e (ap.same hy hx ha h.1),BT fun h=>e (ap.same hy hx hb h.1)];exact i.wL y hy a ha b hb
 .rw[gC,BT fun h=>hf x hx h.1,gC,BT fun h=>hf x hx h.1];exact i.free u hu hf
 .by_cases hux:u∈x.to
  .refine⟨mx (x.bj.map fun u=>(aJ lv' u).toNat)+1,?_,.node x u _ hx hux hlev⟩;rw[gC,IO ⟨hux,by rw[hll];omega⟩,hL];rfl
  .rw[gC,BT fun h=>hux h.1]at h2;rw[gC,BT fun h=>hux h.1];exact i.done u hu h2
 .have hux:u∉x.to:=fun hux=>by have:=hm0 u hux;omega
  rw[gC,BT fun h=>hux h.1];refine h.a u hu ?_;rw[gC,BT fun h=>hux h.1];exact h1
 .rw[gC]at h1;split at h1
  .omega
  .rename_i hn;have hux:u∉x.to:=fun hux=>hn ⟨hux,by rw[hml];omega⟩;have:=h.b u hu h1
   rwa [gC,BT fun h=>hux h.1]at this
 .have hux:u∉x.to:=fun hux=>by have:=hm0 u hux;omega
  have:=h.c u hu (by rw[gC,BT fun h=>hux h.1];exact h2);rw[gC,BT fun h=>hux h.1,gC,BT fun h=>hux h.1];exact this
 .refine .inl ?_;rw[gC,IO ⟨hv,by grind⟩]
theorem an3(hx:x∈N){l:Nat}(hv:v∈x.to)(hl:l∈x.bj)(hd:∀u,u<=V->aJ m u=1->oh N u v):∀u,u<=V->aJ (fL m x.to 1) u=1->oh N u l:=by
 intro u hu h;rw[gC]at h;split at h
 .rename_i hc;exact .one x u l hx hc.1 hl
 .exact .more x u v l (hd u hu h) hx hv hl
theorem vi0:VI N V (List.replicate (V+1) 0) (List.replicate (V+1) 0):=by
 have hz:∀v,aJ (List.replicate (V+1) 0) v=0:=fun v=>by
  unfold aJ
  grind
 exact⟨atQ,atQ,fun v _=>.inl (hz v),fun x _ u _ v _=>by rw[hz,hz],fun v _ _=>⟨hz v,hz v⟩,fun v _ h=>by grind⟩
def gl(N:List Nd)(V:Nat):Nat->jp
 |0=>List.replicate (V+1) 0|k+1=>match N[k]? with|some x=>fL (gl N V k) x.to ((k:Int)+1)|none=>gl N V k
theorem AJ(N:List Nd)(V:Nat):∀k,(gl N V k).length=V+1:=by
 intro k
 induction k with|zero=>simp[gl]|succ k ih=>rw[gl];cases N[k]?<;>simp[ru,ih]
theorem aaF{k:Nat}(h:N[k]?=some x):gl N V (k+1)=fL (gl N V k) x.to ((k:Int)+1):=by rw[gl,h]
theorem alv(ap:ik N)(ef:∀x∈N,∀v∈x.to,v<=V):∀k v,v<=V->(aJ (gl N V k) v=0/\∀i x,i<k->N[i]?=some x->v∉x.to)\/∃i x,i<k/\N[i]?=some x/\v∈x.to/\aJ (gl N V k) v=(i:Int)+1:=by
 intro k
 induction k with
 |zero=>
  intro v _;left;refine⟨?_,fun i x h=>atO⟩;unfold gl aJ
  grind
 |succ k ih=>
  intro v hv;cases hk:N[k]? with
  |none=>
   rw[gl,hk]
   grind
  |some y=>
   rw[aaF hk,gC];by_cases hvy:v∈y.to
   .rw[IO ⟨hvy,by rw[AJ];omega⟩]
    grind
   grind
theorem ZA(ap:ik N)(ef:∀x∈N,∀v∈x.to,v<=V)(hv:v<=V):(aJ (gl N V N.length) v=0/\∀x∈N,v∉x.to)\/∃(i:Nat) (x:Nd),N[i]?=some x/\v∈x.to/\aJ (gl N V N.length) v=(i:Int)+1:=by
 rcases alv ap ef N.length v hv with⟨h1,h2⟩|⟨i,x,h1,h2,h3,h4⟩
 .left;refine⟨h1,fun x hx=>?_⟩;obtain⟨i,hi,rfl⟩:=arO hx
  simp_all
 grind
theorem amD{l:mt}{k u:Nat}{f:Nat->Nat}(h:l[k]?=some u):mx ((l.take (k+1)).map f)=max (mx ((l.take k).map f)) (f u):=by rw[eE h,d7];exact akj _ _
end
end Go.Proofs.YtmkbdfidnfmgmaaGreat.Pl
end
section
namespace Go.Proofs.YtmkbdfidnfmgmaaGreat.V
open Go Go.RowKit Go.Proofs.YtmkbdfidnfmgmaaGreat.Pl
theorem Zz0(v:Int)(k:Nat):bZ v (k+1)=bZ v k++[v+(k:Int)]:=by unfold bZ;rw[asg,d7];rfl
theorem AB(v:Int)(k:Nat):(bZ v k).length=k:=by simp[bZ]
theorem N5(m:cf)(i:Nat)(r:jz)(hr:m.reads[i]?=some r)(hw:0<=m.word/\m.word<=4000)(hv:-1099511627776<=r.var/\r.var<=1099511627776) :
  Az (aI m,(i:Int),())=some (bZ r.var m.word.toNat,()):=by
 obtain⟨W,hW⟩:=BY hw.1;have hi:=jj hr;have hr':(m.reads.map fC)[i]?=some (fC r):=by rw[ct,hr];rfl
 have hL:SU ((i:Int),m.word,(0:Int),m.addr,m.word,m.any,m.reads.map fC,m.writes.map fy,[],())=some (bZ r.var m.word.toNat,()):=by
  unfold SU;delta u9;rw[hW,Ne];refine AY (fun k:Nat=>((i:Int),(W:Int),(k:Int),m.addr,(W:Int),m.any,m.reads.map fC,m.writes.map fy,bZ r.var k,())) W ?_ ?_ NN atU
  .intro k hk
   try dsimp only
   unfold Jq;rw[dc atW,bH (aU ⟨atO,by rw[aP];omega⟩),bH (uE (by simp[AB];omega) (by simp[AB];omega)),bI hr',show(fC r).1=r.var from rfl];rw[cH (x:=r.var+(k:Int)) atO,cH (x:=(k:Int)+1) atO,Zz0];rfl
  .try dsimp only
   unfold Jq;rw[cE atV];rfl
 show Ti SU (aI m) (i:Int)=_;unfold Ti;rw[cE atV,RK,cE (aF (by show ¬((m.reads.map fC).length:Int)<=(i:Int);rw[aP];omega))];exact(bS hL).trans rfl
def dC(x:cV):an.T:=(x.rd,(x.mem:Int),(x.pos:Int),())
abbrev WT:=Int×jp×List af.T×jp×jp×jp×List ah.T×List af.T×jp×List an.T×jp×jp×Unit
def mW(n:ak)(of:jp)(nd:List cV)(m lv:jp):WT:=(n.vars,n.al,n.ag.map bq,n.aZ,n.aN,n.constraints,n.ae.map aI,n.aj.map bc,of,nd.map dC,m,lv,())
variable{i:cx}{of:jp}{lv:jp}{n:ak}{x:cV}{m:jp}{nd:List cV}
theorem Yr(h:x.is n i):Sb (x.rd,(x.mem:Int),(x.pos:Int),mW n of nd m lv)=some (i.bj,mW n of nd m lv):=by
 show SF x.rd (x.mem:Int) (x.pos:Int) n.vars n.al (n.ag.map bq) n.aZ n.aN n.constraints (n.ae.map aI) (n.aj.map bc) of (nd.map dC) m lv=_;unfold SF;rcases h with⟨h,a,ha,rfl⟩|⟨h,M,r,hM,hr,rfl⟩
 .have ha':(n.aj.map bc)[x.pos]?=some (bc a):=by grind
  have hl:=jj ha';rw[h,cE rfl,bH atT,bI ha'];rfl
 .have hM':(n.ae.map aI)[x.mem]?=some (aI M):=by grind
  have hr':(M.reads.map fC)[x.pos]?=some (fC r):=by rw[ct,hr];rfl
  have hl:=jj hM';have hl2:=jj hr';rw[h,dc rfl,bH atT,bI hM',show(aI M).2.2.2.1=M.reads.map fC from rfl,bH atT,bI hr'];rfl
theorem ZG(h:x.is n i)(ft:Fit n)(hw:∀M∈n.ae,0<=M.word) :
  zZ (x.rd,(x.mem:Int),(x.pos:Int),mW n of nd m lv)=some (i.to,mW n of nd m lv):=by
 show Ah Az x.rd (x.mem:Int) (x.pos:Int) n.vars n.al (n.ag.map bq) n.aZ n.aN n.constraints (n.ae.map aI) (n.aj.map bc) of (nd.map dC) m lv=_;unfold Ah;rcases h with⟨h,a,ha,rfl⟩|⟨h,M,r,hM,hr,rfl⟩
 .have ha':(n.aj.map bc)[x.pos]?=some (bc a):=by rw[ct,ha];rfl
  have hl:=jj ha';rw[h,cE rfl,bH atT,bI ha'];rfl
 .have hM':(n.ae.map aI)[x.mem]?=some (aI M):=by rw[ct,hM];rfl
  have hl:=jj hM';have hmem:=dy hM;have hf:=ft.ae.2 M hmem;have hr2:=hf.ig r (dy hr);rw[h,dc rfl,bH atT,bI hM'];exact(bS (N5 M x.pos r hr ⟨hw M hmem,hf.word.2⟩ ⟨hr2.2.1,hr2.2.2.1⟩)).trans rfl
theorem abb{V:Nat}(a:Int)(vs:jp)(hln:vs.length<=100000)(hvs:∀v∈vs,0<=v/\v<=(V:Int))(hm:m.length=V+1) :
  Zbg (a,vs,mW n of nd m lv)=some (vs,mW n of nd (fL m (vs.map Int.toNat) a) lv):=by
 have hL:Sk (a,vs,(vs.length:Int),(0:Int),vs,mW n of nd m lv)=some (vs,mW n of nd (fL m (vs.map Int.toNat) a) lv):=by
  unfold Sk;delta jv u5 bM bX;refine AY (fun k:Nat=>(a,vs,(vs.length:Int),(k:Int),vs,mW n of nd (fL m ((vs.take k).map Int.toNat) a) lv)) vs.length ?_ ?_ NN atU
  .intro k hk;unfold mW
   try dsimp only
   unfold IJ;have hv:=ba hk;obtain⟨h0,h1⟩:=hvs _ (By hk);obtain⟨v,hv2⟩:=BY h0;rw[hv2]at hv h1;rw[dc atW,bH atT,bI (σ:=.I) hv,bH (aU ⟨atO,by rw[ru,hm];omega⟩),cH (x:=(k:Int)+1) atO];rw[eE hv,d7,arI,asG,SY];rfl
  .unfold mW
   try dsimp only
   unfold IJ;rw[cE atV,eX];rfl
 show Sw Sk a vs n.vars n.al (n.ag.map bq) n.aZ n.aN n.constraints (n.ae.map aI) (n.aj.map bc) of (nd.map dC) m lv=_;unfold Sw;exact(bS hL).trans rfl
end Go.Proofs.YtmkbdfidnfmgmaaGreat.V
end
section
namespace Go.Proofs.YtmkbdfidnfmgmaaGreat.Pl
theorem we{l:jp}{v:Nat}(h:v<l.length):l[v]?=some (aJ l v):=by unfold aJ;grind
variable{V:Nat}{n:ak}{y:cx}
theorem Yq(hs:bR n V)(hy:y∈dj n){k:Nat}{l:Int}(h:y.bj[k]?=some l):∃u:Nat,l / 2=(u:Int)/\u<=V/\y.nd.bj[k]?=some u/\0<=l/\l<=2*V+1:=by
 have:=hs.zf hy (dy h);refine⟨(l / 2).toNat,atO,atO,?_,atO,atO⟩;unfold cx.nd
 grind
theorem AM(hs:bR n V)(hy:y∈dj n):y.to.length<=64/\y.bj.length<=62:=by
 unfold dj at hy;rcases rc.1 hy with hy|hy
 .obtain⟨a,ha,rfl⟩:=ro.1 hy;simp[jZ]
 .obtain⟨m,hm,hy⟩:=rg.1 hy;obtain⟨r,hr,rfl⟩:=ro.1 hy;have h1:=hs.ae m hm;have h2:=h1.2.2.2.2.1 r hr;unfold kj bZ;simp;omega
variable{lv:jp}{N:List Nd}{l:mt}{m:jp}
theorem aki{m' lv':jp}(i:VI N V m lv)(i':VI N V m' lv')(h:Ext V m lv m' lv')(hl:∀u∈l,u<=V)(ht:∀u∈l,tl N m u) :
  mx (l.map fun u=>(aJ lv' u).toNat)=mx (l.map fun u=>(aJ lv u).toNat):=by
 rw[Zti fun u hu=>by rw[(N0 i i' h (hl u hu) (ht u hu)).2]]
theorem alg(ap:ik N)(i:VI N V m lv)(hl:∀u∈l,u<=V)(ht:∀u∈l,tl N m u):mx (l.map fun u=>(aJ lv u).toNat)<=N.length:=by refine Zx fun z hz=>?_;obtain⟨u,hu,rfl⟩:=ro.1 hz;obtain⟨k,h1,h2⟩:=EU i (hl u hu) (ht u hu);rw[h1];have:=h2.le ap;simpa using this
theorem sm{α β:Type}(f:α->List β):∀(l:List α) (k:Nat),(∀x∈l,(f x).length<=k)->(l.flatMap f).length<=l.length*k:=by
 intro l k
 induction l with
 |nil=>intro _;simp|cons x l ih=>
  intro h;rw[AT,bU,di,asN]
  grind
theorem JN(hs:bR n V):(aY n).length<=3000:=by unfold aY dj;rw[aP,bU,aP];have h1:=hs.lens;have h2:=sm j4 n.ae 4 (fun m hm=>by unfold j4;rw[aP];exact(hs.ae m hm).2.2.2.2.2.2.1);omega
end Go.Proofs.YtmkbdfidnfmgmaaGreat.Pl
end
section
namespace Go.Proofs.YtmkbdfidnfmgmaaGreat.V
open Go Go.RowKit Go.Proofs.YtmkbdfidnfmgmaaGreat.Pl
theorem aas(l:Int):ph (l,())=some (l / 2,()):=by show Tj l=_;unfold Tj;rw[att _ atS];rfl
theorem AU{l q:Int}(h:l / 2=q):ph (l,())=some (q,()):=by rw[aas,h]
def amt(n:ak)(V:Nat)(m lv:jp)(v:Nat)(b:Bool)(m' lv':jp):Prop:=(b=true/\VI (aY n) V m' lv'/\Ext V m lv m' lv'/\tl (aY n) m' v)\/(b=false/\∃u,u<=V/\∀k,¬dB (aY n) u k)
def wk(n:ak)(V:Nat)(m lv:jp):WT:=mW n (gl (aY n) V (aY n).length) (eH n) m lv
abbrev WV:=Int×jp×List af.T×jp×jp×jp×List ah.T×List af.T×jp×List an.T×jp×jp×jp×Unit
def wv(n:ak)(V:Nat)(m lv vs:jp):WV:=(n.vars,n.al,n.ag.map bq,n.aZ,n.aN,n.constraints,n.ae.map aI,n.aj.map bc,gl (aY n) V (aY n).length,(eH n).map dC,m,lv,vs,())
variable{V:Nat}{n:ak}
theorem alk{F:be R4 Iu}(L:Nat)(hL:L<=3000)(m lv vs:jp)(hln:vs.length<=100000)(hvs:∀v∈vs,0<=v/\v<=(V:Int))(hm:lv.length=V+1) :
  Sm F ((L:Int),vs,(vs.length:Int),(0:Int),wv n V m lv vs)=some (wv n V m (fL lv (vs.map Int.toNat) ((L:Int)+1)) vs):=by
 unfold Sm;refine AY (fun k:Nat=>((L:Int),vs,(vs.length:Int),(k:Int),wv n V m (fL lv ((vs.take k).map Int.toNat) ((L:Int)+1)) vs)) vs.length ?_ ?_ NN atU
 .intro k hk;unfold wv
  try dsimp only
  unfold IP;have hv:=ba hk;obtain⟨h0,h1⟩:=hvs _ (By hk);obtain⟨v,hv2⟩:=BY h0;rw[hv2]at hv h1;rw[dc atW,bH atT,bI (σ:=.I) hv,bH (aU ⟨atO,by rw[ru,hm];omega⟩),cH (x:=(k:Int)+1) atO,cH (x:=(L:Int)+1) atO];rw[eE hv,d7,arI,asG,SY];rfl
 .unfold wv
  try dsimp only
  unfold IP;rw[cE atV,eX];rfl
theorem ajF(hs:bR n V)(ft:Fit n):∀(F:Nat) (m lv:jp) (v:Nat),VI (aY n) V m lv->(∀u,u<=V->aJ m u=1->oh (aY n) u v)->v<=V->fresh V m<F ->
  ∃b m' lv',w8 F ((v:Int),wk n V m lv)=some (b,wk n V m' lv')/\amt n V m lv v b m' lv':=by
 intro F
 induction F with
 |zero=>intro m lv v _ _ _ h;omega|succ F ih=>
  intro m lv v hI hD hv hF;have hV2:=hs.v2;have hnl:=JN hs;have hmw:∀M∈n.ae,0<=M.word:=fun M hM=>by have:=hs.ae M hM;omega
  obtain⟨of,hof⟩:∃of,of=gl (aY n) V (aY n).length:=⟨_,rfl⟩;have hofl:of.length=V+1:=by rw[hof];exact AJ _ _ _
  have hofv:of[v]?=some (aJ of v):=we atO;have hmv:m[v]?=some (aJ m v):=we (by rw[hI.ml];omega);show ∃b m' lv',SE ph (w8 F) Sb Zbg zZ (Sn (w8 F)) (Sm (w8 F)) (v:Int) n.vars n.al (n.ag.map bq) n.aZ n.aN n.constraints (n.ae.map aI) (n.aj.map bc) (gl (aY n) V (aY n).length) ((eH n).map dC) m lv=_/\_;rw[<-hof];unfold SE;rw[bH atT,bI (σ:=.I) hofv];rcases ZA hs.apart (fun x hx=>(hs.ef x hx).2) hv with⟨h1,h2⟩|⟨i,x,h1,h2,h3⟩
  .rw[<-hof]at h1;rw[h1,dc (aD rfl)];exact⟨true,m,lv,by rw[hof];rfl,.inl ⟨rfl,hI,Ext.refl,.inr h2⟩⟩
  rw[<-hof]at h3;rw[h3,cE atV,bH (aU ⟨atO,by rw[hI.ml];omega⟩),RK,bI (σ:=.int .u8) hmv];rcases hI.kd v hv with hk|hk|hk
  .-- its node's literals
   subst hof;have hil:=jj h1;have hnl2:(eH n).length=(aY n).length:=by rw[JF];unfold aY;rw[aP]
   obtain⟨xd,hxd⟩:∃xd,(eH n)[i]?=some xd:=⟨_,ba atO⟩;obtain⟨y,hy1,hy2⟩:=za n hxd;have hxy:x=y.nd:=by rw[E3,hy1]at h1;simpa using h1.symm
   subst hxy;have hy:=dy hy1;have hx:=dy h1;have hxd':((eH n).map dC)[i]?=some (dC xd):=by rw[ct,hxd];rfl
   have hvs:∀u∈y.to,0<=u/\u<=(V:Int):=fun u hu=>by have:=hs.mf hy hu;omega
   have hlens:=AM hs hy;have hfr:∀u∈y.nd.bj,u<=V:=fun u hu=>hs.bz _ hx u hu;have hI5:=hI.under hs.apart hx (fun u hu=>(hs.ef _ hx).2 u hu) h2 hk;rw[hk,cE atV,bH (aU ⟨atO,by rw[hI.ml];omega⟩),cE atV,bH atT];rw[show((i:Int)+1-1)=(i:Int) by omega,cH (x:=(i:Int)) atO,bH (aU ⟨atO,by rw[aP];omega⟩),bI hxd'];have e1:=ZG (of:=gl (aY n) V (aY n).length) (m:=m) (lv:=lv) (nd:=eH n) hy2 ft hmw;have e2:=abb (n:=n) (of:=gl (aY n) V (aY n).length) (nd:=eH n) (lv:=lv) 1 y.to atO hvs hI.ml;have e3:=Yr (n:=n) (of:=gl (aY n) V (aY n).length) (nd:=eH n) (m:=fL m (y.to.map Int.toNat) 1) (lv:=lv) hy2;have hL11:∃o,Sn (w8 F) ((0:Int),y.bj,(y.bj.length:Int),(0:Int),wv n V (fL m y.nd.to 1) lv y.to)=some o /\
     ((∃m' lv',o=.inl (false,wk n V m' lv')/\∃u,u<=V/\∀k,¬dB (aY n) u k) \/
      ∃(m' lv':jp) (L:Nat),o=.inr ((L:Int),wv n V m' lv' y.to)/\VI (aY n) V m' lv'/\Ext V (fL m y.nd.to 1) lv m' lv'/\(∀u∈y.nd.bj,tl (aY n) m' u)/\L=mx (y.nd.bj.map fun u=>(aJ lv' u).toNat)):=by
    unfold Sn;refine kp (fun d=>∃(k:Nat) (m' lv':jp) (L:Nat),k<=y.bj.length/\d=((L:Int),y.bj,(y.bj.length:Int),(k:Int),wv n V m' lv' y.to)/\VI (aY n) V m' lv'/\Ext V (fL m y.nd.to 1) lv m' lv' /\
     (∀u∈y.nd.bj.take k,tl (aY n) m' u)/\L=mx ((y.nd.bj.take k).map fun u=>(aJ lv' u).toNat)) _ (fun d=>y.bj.length-d.2.2.2.1.toNat) ?_ NN _ ⟨0,_,lv,0,GT _,rfl,hI5,Ext.refl,atQ,rfl⟩ (cp (by have:=hlens.2;omega))
    rintro d ⟨k,m',lv',L,hk',rfl,hI',hE',hT',hL⟩;unfold wv
    try dsimp only
    unfold SL;by_cases hlt:k<y.bj.length
    .have hl:=ba hlt;obtain⟨u,hu1,hu2,hu3,hl0,hl1⟩:=Yq hs hy hl;have hlt2:fresh V m'<F:=by have h1:=anW hI5 hI' hE';have h2:=amY hI hx h2 hv hk;omega
     have hdep:∀t,t<=V->aJ m' t=1->oh (aY n) t u:=fun t ht h=>an3 hx h2 (dy hu3) hD t ht (hE'.b t ht h);obtain⟨b,m2,lv2,g1,g2⟩:=ih m' lv' u hI' hdep hu2 hlt2;rw[dc atW,bH atT,bI (σ:=.I) hl];rcases g2 with⟨rfl,gI,gE,gT⟩|⟨rfl,u',hu',hno⟩
     .right;obtain⟨kk,hk1,hk2⟩:=EU gI hu2 gT;have hkl:=IS (hk2.le hs.apart) hnl;have hlu:lv2[u]?=some (kk:Int):=by rw[<-hk1];exact we (by rw[gI.ll];omega)
      have hT:∀u'∈y.nd.bj.take (k+1),tl (aY n) m2 u':=fun u' h'=>by
       rw[eE hu3]at h';rcases rc.1 h' with h'|h'
       .exact(N0 hI' gI gE (hfr u' (ash h')) (hT' u' h')).1
       .simp at h';subst h';exact gT
      have hmx:mx ((y.nd.bj.take (k+1)).map fun u=>(aJ lv2 u).toNat)=max L kk:=by rw[amD hu3,aki hI' gI gE (fun u hu=>hfr u (ash hu)) hT',<-hL,hk1,Ne]
      refine⟨((max L kk:Nat),y.bj,(y.bj.length:Int),((k+1:Nat):Int),wv n V m2 lv2 y.to),?_,⟨k+1,m2,lv2,max L kk,atO,rfl,gI,hE'.trans gE,hT,hmx.symm⟩,?_⟩
      .refine(bS (AU hu1)).trans ((bS g1).trans ?_);refine(cE rfl).trans ((bH (aU ⟨atO,by show(u:Int)<((List.length lv2:Nat):Int);rw[gI.ll];omega⟩)).trans ?_);have hsel:ed (@decide _ (Int.decLt (L:Int) (gt .I lv2 (u:Int)))) (gt .I lv2 (u:Int)) (L:Int)=((max L kk:Nat):Int):=by
        rw[bI (σ:=.I) hlu];unfold ed;split
        .rename_i q;have q:=aig q;have:max L kk=kk:=atO
         rw[this]
        .rename_i q;have q:=asK q;have:max L kk=L:=atO
         rw[this]
       have e:∀a b a' b':Int,a=a'->b=b'->(atY (a,y.bj,(y.bj.length:Int),b,wv n V m2 lv2 y.to):am ID Iz)=atY (a',y.bj,(y.bj.length:Int),b',wv n V m2 lv2 y.to):=by rintro _ _ _ _ rfl rfl;rfl
       exact e _ _ _ _ hsel (cH (x:=(k:Int)+1) atO)
      .show y.bj.length-((k+1:Nat):Int).toNat<y.bj.length-(k:Int).toNat;omega
     .left;refine⟨_,(bS (AU hu1)).trans ((bS g1).trans ?_),.inl ⟨m2,lv2,rfl,u',hu',hno⟩⟩;exact(dc rfl).trans rfl
    .left;have hlen:y.nd.bj.length<=k:=by unfold cx.nd;rw[aP];omega
     rw[If hlen]at hT' hL;rw[cE atV];exact⟨_,rfl,.inr ⟨m',lv',L,rfl,hI',hE',hT',hL⟩⟩
   obtain⟨o,ho,hcase⟩:=hL11;rcases hcase with⟨m',lv',rfl,u',hu',hno⟩|⟨m',lv',L,rfl,hI',hE',hT',hL⟩
   .refine⟨false,m',lv',?_,.inr ⟨rfl,u',hu',hno⟩⟩;refine(bS e1).trans ((bS e2).trans ((bS e3).trans ((bS ho).trans ?_)));rfl
   .have hmxl:L<=3000:=by rw[hL];exact IS (alg hs.apart hI' hfr hT') hnl
    have c:=hI.close hs.apart hx (fun u hu=>(hs.ef _ hx).2 u hu) hfr h2 hk hI' hE' hT' (L:=(L:Int)) (by rw[hL]);have e5:=alk (n:=n) (V:=V) (F:=w8 F) L hmxl m' lv' y.to atO hvs hI'.ll;have e6:=abb (n:=n) (of:=gl (aY n) V (aY n).length) (nd:=eH n) (lv:=fL lv' (y.to.map Int.toNat) ((L:Int)+1)) 2 y.to atO hvs hI'.ml;refine⟨true,fL m' y.nd.to 2,fL lv' y.nd.to ((L:Int)+1),?_,.inl ⟨rfl,c.1,c.2.1,c.2.2⟩⟩;refine(bS e1).trans ((bS e2).trans ((bS e3).trans ((bS ho).trans ((bS e5).trans ?_))));exact(bS e6).trans rfl
  .rw[hk,cE atV,bH (aU ⟨atO,by rw[hI.ml];omega⟩),dc (aD rfl)];exact⟨false,m,lv,by rw[hof];rfl,.inr ⟨rfl,v,hv,fun k=>oh.none hs.apart (hD v hv hk) k⟩⟩
  .rw[hk,dc (aD rfl)];exact⟨true,m,lv,by rw[hof];rfl,.inl ⟨rfl,hI,Ext.refl,.inl hk⟩⟩
structure N6(N:List (cV×cx))(V:Nat):Prop where
 v2:V<=2000
 len:N.length<=3000
 to:∀x∈N,x.2.to.length<=100000/\∀v∈x.2.to,0<=v/\v<=(V:Int)
 bj:∀x∈N,x.2.bj.length<=100000/\∀l∈x.2.bj,0<=l/\l<=2*(V:Int)+1
def nt{α:Type}(n:ak)(r:α):Int×jp×List af.T×jp×jp×jp×List ah.T×List af.T×α:=(n.vars,n.al,n.ag.map bq,n.aZ,n.aN,n.constraints,n.ae.map aI,n.aj.map bc,r)
abbrev W4:=jp×List an.T×jp×jp×Unit
def w4(of:jp)(nd:List cV)(m lv:jp):W4:=(of,nd.map dC,m,lv,())
def lB(k:Nat):List cV:=(List.range k).map fun i=>⟨false,0,i⟩
theorem amC(k:Nat):lB (k+1)=lB k++[⟨false,0,k⟩]:=by unfold lB;rw[asg,d7];rfl
theorem Jj(k:Nat):(lB k).length=k:=by simp[lB]
theorem amq(n:ak)(of m lv:jp)(hA:n.aj.length<=2000):Jc ((n.aj.length:Int),(0:Int),nt n (nt n (w4 of [] m lv)))=some (nt n (nt n (w4 of (lB n.aj.length) m lv))):=by
 unfold Jc;delta mw vl bM bX;refine AY (fun k:Nat=>((n.aj.length:Int),(k:Int),nt n (nt n (w4 of (lB k) m lv)))) n.aj.length ?_ ?_ NN atU
 .intro k hk;unfold nt w4
  try dsimp only
  unfold Jl;refine aR atW (aS (lM (L:=(lB k).map dC) (by rw[aP,Jj];omega) atS) ?_);rw[cH (x:=(k:Int)+1) atO,amC,d7];rfl
 .unfold nt w4
  try dsimp only
  unfold Jl;rw[cE atV];rfl
def pA(j k:Nat):List cV:=(List.range k).map fun i=>⟨true,j,i⟩
theorem am5(j k:Nat):pA j (k+1)=pA j k++[⟨true,j,k⟩]:=by unfold pA;rw[asg,d7];rfl
theorem Zu0(j k:Nat):(pA j k).length=k:=by simp[pA]
theorem alM(n:ak)(of m lv:jp)(j M R:Nat)(pre:List cV)(hj:j<=4)(hM:M<=4)(hR:R<=4)(hp:pre.length<=3000) :
  IZ ((j:Int),(M:Int),(j:Int),(R:Int),(0:Int),nt n (nt n (w4 of pre m lv)))=some ((M:Int),(j:Int),nt n (nt n (w4 of (pre++pA j R) m lv))):=by
 unfold IZ;delta kI u1 bM bX;refine d9 (fun k:Nat=>((j:Int),(M:Int),(j:Int),(R:Int),(k:Int),nt n (nt n (w4 (of) (pre++pA j k) m lv)))) R (by rw[show pA j 0=[]from rfl,d6];rfl) ?_ ?_ atU
 .intro k hk;unfold nt w4
  try dsimp only
  unfold Ji;refine aR atW (aS (lM (L:=(pre++pA j k).map dC) (by rw[aP,bU,Zu0];omega) atS) ?_);rw[cH (x:=(k:Int)+1) atO,am5,<-bB,List.map_append (l₁:=pre++pA j k)];rfl
 .unfold nt w4
  try dsimp only
  unfold Ji;rw[cE atV];rfl
theorem Zu5(k:Nat):∀(l:List cf) (m:cf),iN k (l++[m])=iN k l++Pl.ja (k+l.length) m
 |[],m=>by simp[iN]|x::l,m=>by rw[arM,iN,iN,Zu5 (k+1) l m,bB,di,show k+1+l.length=k+(l.length+1) by omega]
theorem amr(n:ak)(of m lv:jp)(hA:n.aj.length<=2000)(hM:n.ae.length<=4)(hR:∀M∈n.ae,M.reads.length<=4) :
  Jb ((n.ae.length:Int),(0:Int),nt n (nt n (w4 of (lB n.aj.length) m lv)))=some (nt n (w4 of (eH n) m lv)):=by
 have hlen:∀k,k<=n.ae.length->(lB n.aj.length++iN 0 (n.ae.take k)).length<=3000:=by
  intro k hk;rw[bU,Jj,Jf];have:=sm j4 (n.ae.take k) 4 (fun M hM=>by unfold j4;rw[aP];exact hR M (ash hM));have h2:(n.ae.take k).length<=4:=by rw[fx];omega
  omega
 unfold Jb;delta mw vl bM bX;refine d9 (fun k:Nat=>((n.ae.length:Int),(k:Int),nt n (nt n (w4 of (lB n.aj.length++iN 0 (n.ae.take k)) m lv)))) n.ae.length (by rw[arR,show iN 0 []=[]from rfl,d6];rfl) ?_ ?_ atU
 .intro k hk;have hMk:=ba hk;have hMk':(n.ae.map aI)[k]?=some (aI n.ae[k]):=by rw[ct,hMk];rfl
  have hrk:=hR _ (By hk);unfold nt w4
  try dsimp only
  unfold Jk;rw[dc atW,bH (aU ⟨atO,by rw[aP];omega⟩),bI hMk'];have e:=alM n of m lv k n.ae.length n.ae[k].reads.length _ atO hM hrk (hlen k atO);have hl:List.length (aI n.ae[k]).2.2.2.1=n.ae[k].reads.length:=aP _;rw[hl];refine(bS e).trans ?_;have e2:lB n.aj.length++iN 0 (n.ae.take (k+1))=lB n.aj.length++iN 0 (n.ae.take k)++pA k n.ae[k].reads.length:=by rw[eE hMk,Zu5,bB,fx,asx atO,ase];rfl
  rw[e2];have hw:=cH (x:=(k:Int)+1) atO;show some (Sum.inl (_,qr ((k:Int)+1),_))=_;rw[hw];rfl
 .unfold nt w4
  try dsimp only
  unfold Jk;rw[cE atV,eX];rfl
theorem alO(n:ak)(V:Nat)(of m lv vs:jp)(nd:List cV)(a b:Int)(k:Nat)(hk:k<=3000)(hln:vs.length<=100000)(hvs:∀v∈vs,0<=v/\v<=(V:Int))(hof:of.length=V+1) :
  IY ((k:Int),a,b,vs,(vs.length:Int),(0:Int),nt n (w4 of nd m lv))=some (a,b,nt n (w4 (fL of (vs.map Int.toNat) ((k:Int)+1)) nd m lv)):=by
 unfold IY;delta JT u6 bM bX;refine d9 (fun j:Nat=>((k:Int),a,b,vs,(vs.length:Int),(j:Int),nt n (w4 (fL of ((vs.take j).map Int.toNat) ((k:Int)+1)) nd m lv))) vs.length rfl ?_ ?_ atU
 .intro j hj;have hv:=ba hj;obtain⟨h0,h1⟩:=hvs _ (By hj);obtain⟨v,hv2⟩:=BY h0;rw[hv2]at hv h1;unfold nt w4
  try dsimp only
  unfold Jg;rw[dc atW,bH atT,bI (σ:=.I) hv,bH (aU ⟨atO,by rw[ru,hof];omega⟩),cH (x:=(j:Int)+1) atO,cH (x:=(k:Int)+1) atO];rw[eE hv,d7,arI,asG,SY];rfl
 .unfold nt w4
  try dsimp only
  unfold Jg;rw[cE atV,eX];rfl
theorem alN(hs:bR n V)(ft:Fit n)(m lv:jp):I9 (((eH n).length:Int),(0:Int),nt n (w4 (List.replicate (V+1) 0) (eH n) m lv))=some (wk n V m lv):=by
 have hnl:=JN hs;have hV2:=hs.v2;have hnl2:(eH n).length=(aY n).length:=by rw[JF];unfold aY;rw[aP]
 have hmw:∀M∈n.ae,0<=M.word:=fun M hM=>by have:=hs.ae M hM;omega
 unfold I9;delta iC u2 bM bX;refine d9 (fun k:Nat=>(((eH n).length:Int),(k:Int),nt n (w4 (gl (aY n) V k) (eH n) m lv))) (eH n).length rfl ?_ ?_ atU
 .intro k hk;have hxd:=ba hk;obtain⟨y,hy1,hy2⟩:=za n hxd;have hy:=dy hy1;have hx:(aY n)[k]?=some y.nd:=by rw[E3,hy1];rfl
  have hxd':((eH n).map dC)[k]?=some (dC (eH n)[k]):=by rw[ct,hxd];rfl
  have hvs:∀u∈y.to,0<=u/\u<=(V:Int):=fun u hu=>by have:=hs.mf hy hu;omega
  have hlens:=AM hs hy;have e1:=ZG (of:=gl (aY n) V k) (m:=m) (lv:=lv) (nd:=eH n) hy2 ft hmw;have e2:=alO n V (gl (aY n) V k) m lv y.to (eH n) ((eH n).length:Int) (k:Int) k atO atO hvs (AJ _ _ _);unfold nt w4
  try dsimp only
  unfold Jh;refine aR atW (aS (aU ⟨atO,by rw[aP];omega⟩) ?_);rw[bI hxd'];refine aB e1 (aB e2 ?_);rw[aaF hx];have hw:=cH (x:=(k:Int)+1) atO;show some (Sum.inl (_,qr ((k:Int)+1),_))=_;rw[hw];rfl
 .unfold nt w4
  try dsimp only
  unfold Jh;rw[cE atV,hnl2];rfl
theorem Rj(hs:bR n V)(ft:Fit n):Zo9 (nt n ())=some (wk n V (List.replicate (V+1) 0) (List.replicate (V+1) 0)):=by
 have hV2:=hs.v2;have hvars:=hs.vars;have e3:=amq n (List.replicate (V+1) 0) (List.replicate (V+1) 0) (List.replicate (V+1) 0) hs.lens.2.2.1;have e8:=amr n (List.replicate (V+1) 0) (List.replicate (V+1) 0) (List.replicate (V+1) 0) hs.lens.2.2.1 hs.lens.2.2.2.2 (fun M hM=>(hs.ae M hM).2.2.2.2.2.2.1);have e17:=alN hs ft (List.replicate (V+1) 0) (List.replicate (V+1) 0);have hw:qr (n.vars+1)=((V+1:Nat):Int):=by rw[hvars,atX];omega
 show S7 zZ Jc Jb IZ I9 IY n.vars n.al (n.ag.map bq) n.aZ n.aN n.constraints (n.ae.map aI) (n.aj.map bc)=_;unfold S7;rw[hw];have hc:∀k:Int,0<=k->k<=8->both (decide ((0:Int)<=((V+1:Nat):Int))) (both (decide (((V+1:Nat):Int)<=((V+1:Nat):Int))) (decide (k*((V+1:Nat):Int)<=281474976710656)))=true:=by intro k h0 h8;rw[dt atO,dt atO,dt (by have:k*((V+1:Nat):Int)<=8*((V+1:Nat):Int):=Int.mul_le_mul_of_nonneg_right h8 atO;omega)];rfl
 have e3':Jc (((List.map bc n.aj).length:Int),(0:Int),nt n (nt n (w4 (List.replicate (V+1) 0) [] (List.replicate (V+1) 0) (List.replicate (V+1) 0))))=some (nt n (nt n (w4 (List.replicate (V+1) 0) (lB n.aj.length) (List.replicate (V+1) 0) (List.replicate (V+1) 0)))):=by rw[aP];exact e3
 have e8':Jb (((List.map aI n.ae).length:Int),(0:Int),nt n (nt n (w4 (List.replicate (V+1) 0) (lB n.aj.length) (List.replicate (V+1) 0) (List.replicate (V+1) 0))))=some (nt n (w4 (List.replicate (V+1) 0) (eH n) (List.replicate (V+1) 0) (List.replicate (V+1) 0))):=by rw[aP];exact e8
 have e17':I9 (((List.map dC (eH n)).length:Int),(0:Int),nt n (w4 (List.replicate (V+1) 0) (eH n) (List.replicate (V+1) 0) (List.replicate (V+1) 0)))=some (wk n V (List.replicate (V+1) 0) (List.replicate (V+1) 0)):=by grind
 exact aS (hc 8 atS atS) (aS (hc 1 atS atS) (aS (hc 8 atS atS) (aB e3' (aB e8' (aB e17' rfl)))))
theorem aiI{m:jp}(h:V<=2000):fresh V m<NN:=by
 have z:∀(p:Nat->Bool) k,zc p k<=k:=by
  intro p k
  induction k with|zero=>exact rt _|succ k ih=>rw[zc];split<;>omega
 have:fresh V m<=V+1:=z _ _;exact atU
theorem MS(hs:bR n V)(ft:Fit n) :
  ∃m lv,Zhj (wk n V (List.replicate (V+1) 0) (List.replicate (V+1) 0))=some (dT (aY n) V,wk n V m lv) /\
   (dT (aY n) V=true->lv.length=V+1/\∀v,v<=V->∃k:Nat,aJ lv v=(k:Int)/\dB (aY n) v k):=by
 have hV2:=hs.v2;have hL:=kp (B:=fun d=>SO Sf d.1 d.2.1 d.2.2.1 d.2.2.2.1 d.2.2.2.2.1 d.2.2.2.2.2.1 d.2.2.2.2.2.2.1 d.2.2.2.2.2.2.2.1 d.2.2.2.2.2.2.2.2.1 d.2.2.2.2.2.2.2.2.2.1 d.2.2.2.2.2.2.2.2.2.2.1 d.2.2.2.2.2.2.2.2.2.2.2.1 d.2.2.2.2.2.2.2.2.2.2.2.2.1 d.2.2.2.2.2.2.2.2.2.2.2.2.2.1)
  (I:=fun d:Int×Int×WT=>∃(k:Nat) (m lv:jp),d=(((V+1:Nat):Int),(k:Int),wk n V m lv)/\k<=V+1/\VI (aY n) V m lv/\(∀u,u<=V->aJ m u≠1)/\(∀u,u<k->tl (aY n) m u))
  (Q:=fun o:Out IH=>(∃m lv,o=.inl (false,wk n V m lv)/\∃u,u<=V/\∀k,¬dB (aY n) u k)\/(∃m lv,o=.inr (wk n V m lv)/\VI (aY n) V m lv/\∀u,u<V+1->tl (aY n) m u))
  (μ:=fun d=>V+1-d.2.1.toNat) ?_ NN (((V+1:Nat):Int),(0:Int),wk n V (List.replicate (V+1) 0) (List.replicate (V+1) 0)) ⟨0,_,_,rfl,atO,vi0,fun u hu=>by unfold aJ;rw[eu,atf];split<;>simp,fun u h=>atO⟩ atU
 .obtain⟨o,ho,hcase⟩:=hL;have hlen:((List.length (gl (aY n) V (aY n).length):Nat):Int)=((V+1:Nat):Int):=by rw[AJ]
  have ho':Zhi (((List.length (gl (aY n) V (aY n).length):Nat):Int),(0:Int),wk n V (List.replicate (V+1) 0) (List.replicate (V+1) 0))=some o:=by rw[hlen];exact ho
  rcases hcase with⟨m,lv,rfl,u,hu,hno⟩|⟨m,lv,rfl,hI,hT⟩
  .have hf:dT (aY n) V=false:=by
    cases h:dT (aY n) V
    .rfl
    .obtain⟨kk,hkk⟩:=(jL hs.apart V).1 h u hu;exact absurd hkk (hno kk)
   rw[hf];exact⟨m,lv,aB ho' rfl,fun h=>by cases h⟩
  .have hl:∀v,v<=V->∃k:Nat,aJ lv v=(k:Int)/\dB (aY n) v k:=fun v hv=>EU hI hv (hT v atO);have ht:dT (aY n) V=true:=(jL hs.apart V).2 fun v hv=>by obtain⟨k,_,h⟩:=hl v hv;exact⟨k,h⟩
   rw[ht];exact⟨m,lv,aB ho' rfl,fun _=>⟨hI.ll,hl⟩⟩
 .rintro _ ⟨k,m,lv,rfl,hk,hI,hU,hT⟩;by_cases hlt:k<V+1
  .obtain⟨b,m2,lv2,e,hp⟩:=ajF hs ft NN m lv k hI (fun u hu h=>absurd h (hU u hu)) atO (aiI hV2);have e':Sf ((k:Int),wk n V m lv)=some (b,wk n V m2 lv2):=e;rcases hp with⟨rfl,hI7,hE7,ht7⟩|⟨rfl,u',hu',hno⟩
   .right;refine⟨_,aR (aD (show(k:Int)<((V+1:Nat):Int) by omega)) (aB e' (ax rfl rfl)),⟨k+1,m2,lv2,?_,atO,hI7,fun u hu h=>hU u hu (hE7.b u hu h),fun u hu=>?_⟩,?_⟩
    .have e2:∀a a':Int,a=a'->(((V+1:Nat):Int),a,wk n V m2 lv2)=(((V+1:Nat):Int),a',wk n V m2 lv2):=by rintro _ _ rfl;rfl
     exact e2 _ _ (cH (x:=(k:Int)+1) atO)
    .by_cases e:u=k
     .subst e;exact ht7
     .exact(N0 hI hI7 hE7 atO (hT u atO)).1
    .show V+1-(qr ((k:Int)+1)).toNat<V+1-(k:Int).toNat;rw[cH (x:=(k:Int)+1) atO];omega
   .left;exact⟨_,aR (aD (show(k:Int)<((V+1:Nat):Int) by omega)) (aB e' (aR rfl rfl)),.inl ⟨m2,lv2,rfl,u',hu',hno⟩⟩
  .left;exact⟨_,ax (aF (show ¬(k:Int)<((V+1:Nat):Int) by omega)) rfl,.inr ⟨m,lv,rfl,hI,fun u hu=>hT u atO⟩⟩
theorem th(ft:Fit n):IQ (bW n,())=some (eZ n,()):=by
 have es:ql (bW n,())=some (cZ n,()):=by unfold ql;rw[show d8 ((bW n,()):TL [cA]).1=n from lZ n,qW ft];rfl
 by_cases h0:cZ n=0
 .obtain⟨V,hs⟩:=zd h0;have hV:n.vars.toNat=V:=by rw[hs.vars];rfl
  obtain⟨m,lv,ea,_⟩:=MS hs ft;have ew:=Rj hs ft;cases hc:dT (aY n) V
  .have et:uV (nt n ())=atY ((8:Int),()):=by refine aB es (ax (by rw[h0];rfl) (aB ew (aB ea (aR (by rw[hc];rfl) rfl))))
   refine(aB et rfl).trans ?_;unfold eZ;rw[h0,hV,hc];rfl
  .have et:uV (nt n ())=atZ ((0:Int),wk n V m lv):=by refine aB es (ax (by rw[h0];rfl) (aB ew (aB ea (ax (by rw[hc];rfl) rfl))))
   refine(aB et rfl).trans ?_;unfold eZ;rw[h0,hV,hc];rfl
 .have et:uV (nt n ())=atY (cZ n,()):=by refine aB es (aR (by simp[h0]) rfl)
  refine(aB et rfl).trans ?_;unfold eZ;rw[IO h0];rfl
set_option maxRecDepth 10000
structure Zj(n:ak):Prop where
 ins:n.al.length<=4000
 aJ:n.ag.length<=4000
 aj:n.aj.length<=4000
 ae:n.ae.length<=100
 mem:∀m∈n.ae,(1<=m.word/\m.word<=64)/\m.reads.length<=100/\∀r∈m.reads,-1099511627776<=r.var/\r.var<=1099511627776
def A6(n:ak)(k:Nat):List (cV×cx):=(lB k).zip ((n.aj.take k).map jZ)
def M6(n:ak)(k:Nat):List (cV×cx):=(iN 0 (n.ae.take k)).zip ((n.ae.take k).flatMap j4)
def n6(n:ak):List (cV×cx):=A6 n n.aj.length++M6 n n.ae.length
theorem p9(n:ak):(n6 n).map (fun x:cV×cx=>x.2)=dj n:=by
 unfold n6 A6 M6 dj;rw[d7,eX,eX];congr 1
 .exact List.map_snd_zip (by rw[Jj,aP];omega)
 .exact List.map_snd_zip (by rw[Jf];omega)
theorem yL(n:ak):(n6 n).map (fun x:cV×cx=>x.2.nd)=aY n:=by unfold aY;rw[<-p9,Fn];rfl
theorem NC(hs:bR n V):N6 (n6 n) V:=by
 have hm:∀x∈n6 n,x.2∈dj n:=fun x hx=>by rw[<-p9];exact AI hx
 refine⟨hs.v2,?_,fun x hx=>⟨?_,fun v hv=>?_⟩,fun x hx=>⟨?_,fun l hl=>?_⟩⟩
 .have h:=JN hs;rw[<-yL,aP]at h;exact h
 .have:=(AM hs (hm x hx)).1;omega
 .have:=hs.mf (hm x hx) hv;omega
 .have:=(AM hs (hm x hx)).2;omega
 .have:=hs.zf (hm x hx) hl;omega
