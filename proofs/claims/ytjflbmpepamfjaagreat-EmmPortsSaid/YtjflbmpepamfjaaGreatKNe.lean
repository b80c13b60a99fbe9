import Derived.Test.YtjflbmpepamfjaaGreatKNb
import Derived.Test.YtjflbmpepamfjaaGreatKNd
set_option linter.all false
section
namespace Go.Proofs.YtjflbmpepamfjaaGreat.Pl
structure bG where
 rd:Bool
 mem:Nat
 pos:Nat
structure bE where
 to:io
 an:io
def oc(a:ga):bE:=⟨[a.var],[a.a,a.b]⟩
def nV(word:Int)(r:gr):bE:=⟨cQ r.var word.toNat,r.addr⟩
def jm(m:cS):List bE:=m.reads.map (nV m.word)
def fy(n:aZ):List bE:=n.al.map oc++n.aa.flatMap jm
def iG(k:Nat)(m:cS):List bG:=(List.range m.reads.length).map fun i=>⟨true,k,i⟩
def iF(k:Nat):List cS->List bG
 |[]=>[]|m::l=>iG k m++iF (k+1) l
def dS(n:aZ):List bG:=(List.range n.al.length).map (fun i=>⟨false,0,i⟩)++iF 0 n.aa
def bG.is(n:aZ)(x:bG)(i:bE):Prop:=(x.rd=false/\∃a,n.al[x.pos]?=some a/\i=oc a)\/(x.rd=true/\∃m r,n.aa[x.mem]?=some m/\m.reads[x.pos]?=some r/\i=nV m.word r)
theorem afh(n:List cS):∀(l:List cS) (k:Nat),(∀j,l[j]?=n[k+j]?)->∀(i:Nat) (x:bG),(iF k l)[i]?=some x->∃(m:cS) (r:gr),n[x.mem]?=some m/\m.reads[x.pos]?=some r/\(l.flatMap jm)[i]?=some (nV m.word r)/\x.rd=true:=by
 intro l
 induction l with
 |nil=>intro k _ i x h;simp[iF]at h|cons m l ih=>
  intro k hk i x h;rw[iF]at h;rw[Fn];have hl1:(iG k m).length=m.reads.length:=by simp[iG]
  have hl2:(jm m).length=m.reads.length:=by simp[jm]
  by_cases hi:i<m.reads.length
  .rw[Fr aGl]at h;rw[Fr aGl];unfold iG at h;rw[dO,aFH hi]at h;injection h with h;subst h;have:=hk 0;rw[aux]at this;refine⟨m,m.reads[i],by rw[<-this];rfl,bF hi,?_,rfl⟩;unfold jm;rw[dO,bF hi];rfl
  .rw[IO aGl]at h;rw[IO aGl];rw[hl1]at h;rw[hl2];exact ih (k+1) (fun j=>by have:=hk (j+1);grind) _ x h
theorem uF:∀(l:List cS) (k:Nat),(iF k l).length=(l.flatMap jm).length:=by
 intro l
 induction l with|nil=>intro k;rfl|cons m l ih=>intro k;rw[iF,Fn,aO,aO,ih];simp[iG,jm]
theorem Zuw(n:aZ):(dS n).length=(fy n).length:=by unfold dS fy;simp only[aO,uF];simp
variable{i:Nat}
theorem Hq(n:aZ){x:bG}(h:(dS n)[i]?=some x):∃y,(fy n)[i]?=some y/\x.is n y:=by
 unfold dS at h;unfold fy;have hl1:((List.range n.al.length).map (fun i=>(⟨false,0,i⟩:bG))).length=n.al.length:=aGn
 have hl2:(n.al.map oc).length=n.al.length:=aGn
 by_cases hi:i<n.al.length
 .rw[Fr aGl]at h;rw[Fr aGl];rw[dO,aFH hi]at h;injection h with h;subst h;rw[dO,bF hi];exact⟨_,rfl,.inl ⟨rfl,_,bF hi,rfl⟩⟩
 .rw[IO aGl]at h;rw[IO aGl];rw[hl1]at h;rw[hl2];obtain⟨m,r,h1,h2,h3,h4⟩:=afh n.aa n.aa 0 (fun j=>aGn) _ x h;exact⟨_,h3,.inr ⟨h4,m,r,h1,h2,rfl⟩⟩
def bE.nd(x:bE):Nd:=⟨x.an.map fun l=>(l / 2).toNat,x.to.map Int.toNat⟩
def bh(n:aZ):List Nd:=(fy n).map bE.nd
theorem asz{V:Int}:∀(l pre:io),pre.Nodup->(∀x∈pre,1<=x/\x<=V)->dup V pre l=0->(pre++l).Nodup/\∀x∈pre++l,1<=x/\x<=V:=by
 intro l
 induction l with
 |nil=>intro pre h1 h2 _;simpa using⟨h1,h2⟩|cons v l ih=>
  intro pre h1 h2 h;rw[dup]at h;by_cases ha:v<1\/V<v
  .rw[BY ha]at h;omega
  .rw[rx ha]at h;by_cases hc:pre.contains v=true
   .rw[BY hc]at h;omega
   .rw[rx hc]at h;have hn:v∉pre:=by simpa using hc
    have:=ih (pre++[v]) (by
     rw[aFo];exact⟨h1,aGn,fun a ha' b hb=>by simp at hb;subst hb;rintro rfl;exact hn ha'⟩) (fun x hx=>by
     rcases At.1 hx with hx|hx
     .exact h2 x hx
     .simp at hx;subst hx;omega) h
    simpa using this
structure dx(n:aZ)(V:Nat):Prop where
 vars:n.vars=(V:Int)
 v2:V<=2000
 nodup:(df n).Nodup
 rng:∀x∈df n,1<=x/\x<=(V:Int)
 lits:∀l∈eK n,0<=l/\l / 2<=(V:Int)
 aa:∀m∈n.aa,1<=m.addr/\m.addr<=62/\1<=m.word/\m.word<=64/\(∀r∈m.reads,(r.addr.length:Int)=m.addr)/\(∀x∈m.writes,(x.addr.length:Int)=m.addr/\(x.data.length:Int)=m.word)/\m.reads.length<=4/\m.writes.length<=4
 init:∀l∈n.aB,0<=l.init/\l.init<=2
 lens:n.bz.length<=2000/\n.aB.length<=2000/\n.al.length<=2000/\n.bN.length+n.bO.length+n.constraints.length<=1000/\n.aa.length<=4
variable{α:Type}
theorem any_false{p:α->Bool}{l:List α}(h:¬l.any p=true):∀x∈l,p x=false:=by grind
theorem Ht{n:aZ}(h:fx n=0):∃V,dx n V:=by
 unfold fx at h;by_cases h1:iK n=true
 .rw[BY h1]at h;omega
 rw[rx h1]at h;by_cases h2:n.aa.any ie=true
 .rw[BY h2]at h;omega
 rw[rx h2]at h;by_cases h3:n.aB.any j8=true
 .rw[BY h3]at h;omega
 rw[rx h3]at h;by_cases h4:dup n.vars [] (df n)≠0
 .rw[BY h4]at h;exact absurd h h4
 rw[rx h4]at h;by_cases h5:(eK n).any (mj n.vars)=true
 .rw[BY h5]at h;omega
 unfold iK at h1;rw[Bool.or_eq_true,not_or]at h1;obtain⟨h1a,h1b⟩:=h1;have h1a':¬(n.vars<0\/2000<n.vars\/2000<n.bz.length\/2000<n.aB.length\/2000<n.al.length\/1000<n.bN.length+n.bO.length+n.constraints.length\/4<n.aa.length):=by simpa using h1a
 obtain⟨V,hV⟩:=Fd (show 0<=n.vars by omega);obtain⟨d1,d2⟩:=asz (V:=n.vars) (df n) [] aGn aGn aGl;simp only[Nm]at d1 d2;refine⟨V,hV,aGl,d1,fun x hx=>hV▸d2 x hx,fun l hl=>?_,fun m hm=>?_,fun l hl=>?_,⟨aGl,aGl,aGl,aGl,aGl⟩⟩
 .have:=any_false h5 l hl;unfold mj at this;have:¬(l<0\/n.vars<l / 2):=by simpa using this
  omega
 .have hw:=any_false h2 m hm;have hp:=any_false h1b m hm;unfold iM at hp;have hp:¬(4<m.reads.length\/4<m.writes.length):=by simpa using hp
  unfold ie at hw;rw[aFA,aFA]at hw;obtain⟨⟨w1,w2⟩,w3⟩:=hw;have w1:¬(m.addr<1\/62<m.addr\/m.word<1\/64<m.word):=by simpa using w1
  refine⟨aGl,aGl,aGl,aGl,fun r hr=>?_,fun x hx=>?_,aGl,aGl⟩
  .have:=any_false (p:=lY m) (by rw[w2];simp) r hr;unfold lY at this;simpa using this
  .have:=any_false (p:=kZ m) (by rw[w3];simp) x hx;unfold kZ at this
   grind
 .have:=any_false h3 l hl;unfold j8 at this;have:¬(l.init<0\/2<l.init):=by simpa using this
  omega
theorem UR(n:aZ):(fy n).flatMap bE.to=n.al.map (·.var)++n.aa.flatMap gA:=by
 unfold fy;rw[Ne];congr 1
 .induction n.al with|nil=>rfl|cons a l ih=>rw[IS,Fn,ih];rfl
 .rw[List.flatMap_assoc];congr 1;funext m;unfold jm gA;rw[aEX];rfl
theorem arz{f:α->io}:∀{l:List α},(l.flatMap f).Nodup->∀{i j:Nat}{x y:α}{v:Int},l[i]?=some x->l[j]?=some y->v∈f x->v∈f y->i=j:=by
 intro l
 induction l with
 |nil=>intro _ i j x y v h;simp at h|cons a l ih=>
  intro hn i j x y v hi hj hx hy;rw[Fn,aFo]at hn
  grind
section
variable{n:aZ}{V:Nat}
theorem dx.agN(s:dx n V):((fy n).flatMap bE.to).Nodup:=by
 rw[UR];have:=s.nodup;unfold df at this
 grind
theorem dx.qn(s:dx n V){x:bE}(hx:x∈fy n){v:Int}(hv:v∈x.to):1<=v/\v<=(V:Int):=by
 have:v∈(fy n).flatMap bE.to:=WP.2 ⟨x,hx,hv⟩;rw[UR]at this;refine s.rng v ?_;unfold df
 grind
theorem dx.H9(s:dx n V){x:bE}(hx:x∈fy n){l:Int}(hl:l∈x.an):0<=l/\l / 2<=(V:Int):=by
 refine s.lits l ?_;unfold fy at hx;unfold eK;rcases At.1 hx with hx|hx
 .obtain⟨a,ha,rfl⟩:=IN.1 hx;have:l∈n.al.flatMap jk:=WP.2 ⟨a,ha,hl⟩;simp[this]
 .obtain⟨m,hm,hx⟩:=WP.1 hx;obtain⟨r,hr,rfl⟩:=IN.1 hx;have:l∈n.aa.flatMap gH:=WP.2 ⟨m,hm,by unfold gH;exact At.2 (.inl (WP.2 ⟨r,hr,hl⟩))⟩;simp[this]
theorem dx.Lv(s:dx n V){x:bE}(hx:x∈fy n):x.to≠[]:=by
 unfold fy at hx;rcases At.1 hx with hx|hx
 .obtain⟨a,ha,rfl⟩:=IN.1 hx;simp[oc]
 .obtain⟨m,hm,hx⟩:=WP.1 hx;obtain⟨r,hr,rfl⟩:=IN.1 hx;have:=(s.aa m hm).2.2.1;unfold nV cQ;simp;omega
theorem Hw:(bh n)[i]?=((fy n)[i]?).map bE.nd:=by unfold bh;rw[dO]
theorem Wi{x:Nd}(h:x∈bh n):∃y∈fy n,x=y.nd:=by
 unfold bh at h
 grind
theorem dx.apart(s:dx n V):fg (bh n):=by
 intro i j x y v hi hj hx hy;rw[Hw]at hi hj;obtain⟨x',hi',rfl⟩:=Option.map_eq_some_iff.1 hi;obtain⟨y',hj',rfl⟩:=Option.map_eq_some_iff.1 hj;obtain⟨a,ha,e1⟩:=IN.1 hx;obtain⟨b,hb,e2⟩:=IN.1 hy;have r1:=s.qn (ep hi') ha;have r2:=s.qn (ep hj') hb;have:a=b:=aGl
 subst this;exact arz s.agN hi' hj' ha hb
theorem dx.aU(s:dx n V):∀x∈bh n,∀u∈x.an,u<=V:=by intro x hx u hu;obtain⟨y,hy,rfl⟩:=Wi hx;obtain⟨l,hl,rfl⟩:=IN.1 hu;have:=s.H9 hy hl;omega
theorem dx.ks(s:dx n V):∀x∈bh n,x.to≠[]/\∀v∈x.to,v<=V:=by intro x hx;obtain⟨y,hy,rfl⟩:=Wi hx;refine⟨by have:=s.Lv hy;unfold bE.nd;simpa using this,fun v hv=>?_⟩;obtain⟨l,hl,rfl⟩:=IN.1 hv;have:=s.qn hy hl;omega
end
variable{x:Nd}
def iN(n:aZ):Int:=if fx n≠0 then fx n else if gN (bh n) n.vars.toNat then 0 else 8
def zc(p:Nat->Bool):Nat->Nat
 |0=>0|k+1=>(if p k then 1 else 0)+zc p k
variable{q:Nat->Bool}{p:Nat->Bool}
theorem UB:∀k,(∀v,v<k->p v=true->q v=true)->zc p k<=zc q k:=by
 intro k
 induction k with
 |zero=>intro _;exact pi _|succ k ih=>
  intro h;have h1:=ih fun v hv=>h v aGl;have h2:=h k aGl;simp only[zc]
  grind
variable{v:Nat}
theorem aru:∀k,v<k->q v=true->p v=false->(∀v,v<k->p v=true->q v=true)->zc p k<zc q k:=by
 intro k
 induction k with
 |zero=>intro h;omega|succ k ih=>
  intro hv hq hp h;simp only[zc];by_cases e:v=k
  .subst e;have h1:=UB (p:=p) (q:=q) v fun v hv=>h v aGl;rw[hq,hp];simp;omega
  grind
def fresh(V:Nat)(m:io):Nat:=zc (fun v=>aC m v == 0) (V+1)
section
variable{N:List Nd}{V:Nat}{m lv m' lv' m'' lv'':io}
structure VI(N:List Nd)(V:Nat)(m lv:io):Prop where
 ml:m.length=V+1
 ll:lv.length=V+1
 kd:∀v,v<=V->aC m v=0\/aC m v=1\/aC m v=2
 wY:∀x∈N,∀u∈x.to,∀v∈x.to,aC m u=aC m v
 free:∀v,v<=V->(∀x∈N,v∉x.to)->aC m v=0/\aC lv v=0
 done:∀v,v<=V->aC m v=2->∃k:Nat,aC lv v=(k:Int)/\cN N v k
structure Ext(V:Nat)(m lv m' lv':io):Prop where
 a:∀u,u<=V->aC m u=1->aC m' u=1
 b:∀u,u<=V->aC m' u=1->aC m u=1
 c:∀u,u<=V->aC m u=2->aC m' u=2/\aC lv' u=aC lv u
theorem Ext.refl:Ext V m lv m lv:=⟨fun _ _ h=>h,fun _ _ h=>h,fun _ _ h=>⟨h,rfl⟩⟩
theorem Ext.trans(h:Ext V m lv m' lv')(k:Ext V m' lv' m'' lv''):Ext V m lv m'' lv'':=⟨fun u hu h1=>k.a u hu (h.a u hu h1),fun u hu h1=>h.b u hu (k.b u hu h1),fun u hu h1=>⟨(k.c u hu (h.c u hu h1).1).1,by rw[(k.c u hu (h.c u hu h1).1).2,(h.c u hu h1).2]⟩⟩
def tl(N:List Nd)(m:io)(u:Nat):Prop:=aC m u=2\/∀x∈N,u∉x.to
theorem G5(i:VI N V m lv)(i':VI N V m' lv')(h:Ext V m lv m' lv'){u:Nat}(hu:u<=V)(t:tl N m u):tl N m' u/\aC lv' u=aC lv u:=by
 rcases t with t|t
 .exact⟨.inl (h.c u hu t).1,(h.c u hu t).2⟩
 .exact⟨.inr t,by rw[(i.free u hu t).2,(i'.free u hu t).2]⟩
theorem Ar(i:VI N V m lv){u:Nat}(hu:u<=V)(t:tl N m u):∃k:Nat,aC lv u=(k:Int)/\cN N u k:=by
 rcases t with t|t
 .exact i.done u hu t
 .exact⟨0,by rw[(i.free u hu t).2];rfl,.free u t⟩
theorem as0(i:VI N V m lv)(i':VI N V m' lv')(h:Ext V m lv m' lv'):fresh V m'<=fresh V m:=by
 refine UB _ fun v hv hz=>?_;have hv:v<=V:=aGl
 have hz:aC m' v=0:=by grind
 rcases i.kd v hv with h0|h0|h0
 .simpa using h0
 .have:=h.a v hv h0;omega
 .have:=(h.c v hv h0).1;omega
theorem VI.under(ap:fg N)(i:VI N V m lv)(hx:x∈N)(ks:∀v∈x.to,v<=V)(hv:v∈x.to)(h0:aC m v=0):VI N V (cG m x.to 1) lv:=by
 refine⟨by rw[lz,i.ml],i.ll,fun u hu=>?_,fun y hy a ha b hb=>?_,fun u hu hf=>?_,fun u hu h2=>?_⟩
 .rw[eY];split
  .exact .inr (.inl rfl)
  .exact i.kd u hu
 .rw[eY,eY];by_cases e:y=x
  .subst e;rw[BY ⟨ha,by rw[i.ml];have:=ks a ha;omega⟩,BY ⟨hb,by rw[i.ml];have:=ks b hb;omega⟩]
  .rw[rx fun h=>e (ap.same hy hx ha h.1),rx fun h=>e (ap.same hy hx hb h.1)];exact i.wY y hy a ha b hb
 .rw[eY,rx fun h=>hf x hx h.1];exact i.free u hu hf
 .rw[eY]at h2;split at h2
  .omega
  .exact i.done u hu h2
theorem ar5(i:VI N V m lv)(hx:x∈N)(hv:v∈x.to)(hV:v<=V)(h0:aC m v=0):fresh V (cG m x.to 1)<fresh V m:=by
 refine aru (v:=v) _ aGl (by grind) ?_ fun u hu hz=>?_
 .rw[eY,BY ⟨hv,by rw[i.ml];omega⟩];rfl
 .have hz:aC (cG m x.to 1) u=0:=by grind
  rw[eY]at hz
  grind
theorem VI.close(ap:fg N)(i0:VI N V m lv)(hx:x∈N)(ks:∀v∈x.to,v<=V)(aU:∀u∈x.an,u<=V)(hv:v∈x.to)(h0:aC m v=0)
  (i:VI N V m' lv') (h:Ext V (cG m x.to 1) lv m' lv') (ht:∀u∈x.an,tl N m' u) {L:Int}(hL:L=((mx (x.an.map fun u=>(aC lv' u).toNat):Nat):Int)) :
  VI N V (cG m' x.to 2) (cG lv' x.to (L+1))/\Ext V m lv (cG m' x.to 2) (cG lv' x.to (L+1))/\tl N (cG m' x.to 2) v:=by
 have hml:=i.ml;have hll:=i.ll;have hlev:∀u∈x.an,cN N u (aC lv' u).toNat:=fun u hu=>by obtain⟨k,h1,h2⟩:=Ar i (aU u hu) (ht u hu);rw[h1];simpa using h2
 have hm0:∀u∈x.to,aC m u=0:=fun u hu=>by rw[i0.wY x hx u hu v hv,h0]
 refine⟨⟨by rw[lz,hml],by rw[lz,hll],fun u hu=>?_,fun y hy a ha b hb=>?_,fun u hu hf=>?_,fun u hu h2=>?_⟩,⟨fun u hu h1=>?_,fun u hu h1=>?_,fun u hu h2=>?_⟩,?_⟩
 .rw[eY];split
  .exact .inr (.inr rfl)
  .exact i.kd u hu
 .rw[eY,eY];by_cases e:y=x
  .subst e
   grind
  .rw[rx fun h=>e (ap.same hy hx ha h.1),rx fun h=>e (ap.same hy hx hb h.1)];exact i.wY y hy a ha b hb
 .rw[eY,rx fun h=>hf x hx h.1,eY,rx fun h=>hf x hx h.1];exact i.free u hu hf
 .by_cases hux:u∈x.to
  .refine⟨mx (x.an.map fun u=>(aC lv' u).toNat)+1,?_,.node x u _ hx hux hlev⟩;rw[eY,BY ⟨hux,by rw[hll];omega⟩,hL];rfl
  .rw[eY,rx fun h=>hux h.1]at h2;rw[eY,rx fun h=>hux h.1];exact i.done u hu h2
 .have hux:u∉x.to:=fun hux=>by have:=hm0 u hux;omega
  rw[eY,rx fun h=>hux h.1];refine h.a u hu ?_;rw[eY,rx fun h=>hux h.1];exact h1
 .rw[eY]at h1;split at h1
  .omega
  .rename_i hn;have hux:u∉x.to:=fun hux=>hn ⟨hux,by rw[hml];omega⟩;have:=h.b u hu h1
   rwa [eY,rx fun h=>hux h.1]at this
 .have hux:u∉x.to:=fun hux=>by have:=hm0 u hux;omega
  have:=h.c u hu (by rw[eY,rx fun h=>hux h.1];exact h2);rw[eY,rx fun h=>hux h.1,eY,rx fun h=>hux h.1];exact this
 .refine .inl ?_;rw[eY,BY ⟨hv,by grind⟩]
theorem atb(hx:x∈N){l:Nat}(hv:v∈x.to)(hl:l∈x.an)(hd:∀u,u<=V->aC m u=1->mr N u v):∀u,u<=V->aC (cG m x.to 1) u=1->mr N u l:=by
 intro u hu h;rw[eY]at h;split at h
 .rename_i hc;exact .one x u l hx hc.1 hl
 .exact .more x u v l (hd u hu h) hx hv hl
theorem vi0:VI N V (List.replicate (V+1) 0) (List.replicate (V+1) 0):=by
 have hz:∀v,aC (List.replicate (V+1) 0) v=0:=fun v=>by
  unfold aC
  grind
 exact⟨aGn,aGn,fun v _=>.inl (hz v),fun x _ u _ v _=>by rw[hz,hz],fun v _ _=>⟨hz v,hz v⟩,fun v _ h=>by grind⟩
def fH(N:List Nd)(V:Nat):Nat->io
 |0=>List.replicate (V+1) 0|k+1=>match N[k]? with|some x=>cG (fH N V k) x.to ((k:Int)+1)|none=>fH N V k
theorem DN(N:List Nd)(V:Nat):∀k,(fH N V k).length=V+1:=by
 intro k
 induction k with|zero=>simp[fH]|succ k ih=>rw[fH];cases N[k]?<;>simp[lz,ih]
theorem VE{k:Nat}(h:N[k]?=some x):fH N V (k+1)=cG (fH N V k) x.to ((k:Int)+1):=by rw[fH,h]
theorem ahX(ap:fg N)(ks:∀x∈N,∀v∈x.to,v<=V):∀k v,v<=V->(aC (fH N V k) v=0/\∀i x,i<k->N[i]?=some x->v∉x.to)\/∃i x,i<k/\N[i]?=some x/\v∈x.to/\aC (fH N V k) v=(i:Int)+1:=by
 intro k
 induction k with
 |zero=>
  intro v _;left;refine⟨?_,fun i x h=>aGl⟩;unfold fH aC
  grind
 |succ k ih=>
  intro v hv;cases hk:N[k]? with
  |none=>
   rw[fH,hk]
   grind
  |some y=>
   rw[VE hk,eY];by_cases hvy:v∈y.to
   .rw[BY ⟨hvy,by rw[DN];omega⟩]
    grind
   grind
theorem aiS(ap:fg N)(ks:∀x∈N,∀v∈x.to,v<=V)(hv:v<=V):(aC (fH N V N.length) v=0/\∀x∈N,v∉x.to)\/∃(i:Nat) (x:Nd),N[i]?=some x/\v∈x.to/\aC (fH N V N.length) v=(i:Int)+1:=by
 rcases ahX ap ks N.length v hv with⟨h1,h2⟩|⟨i,x,h1,h2,h3,h4⟩
 .left;refine⟨h1,fun x hx=>?_⟩;obtain⟨i,hi,rfl⟩:=aFV hx
  simp_all
 grind
theorem arF{l:jp}{k u:Nat}{f:Nat->Nat}(h:l[k]?=some u):mx ((l.take (k+1)).map f)=max (mx ((l.take k).map f)) (f u):=by rw[dY h,dE];exact agv _ _
end
end Go.Proofs.YtjflbmpepamfjaaGreat.Pl
end
section
namespace Go.Proofs.YtjflbmpepamfjaaGreat.V
open Go Go.RowKit Go.Proofs.YtjflbmpepamfjaaGreat.Pl
theorem Zz0(v:Int)(k:Nat):cQ v (k+1)=cQ v k++[v+(k:Int)]:=by unfold cQ;rw[aFj,dE];rfl
theorem DD(v:Int)(k:Nat):(cQ v k).length=k:=by simp[cQ]
theorem Hb(m:cS)(i:Nat)(r:gr)(hr:m.reads[i]?=some r)(hw:0<=m.word/\m.word<=4000)(hv:-1099511627776<=r.var/\r.var<=1099511627776) :
  MX (aF m,(i:Int),())=some (cQ r.var m.word.toNat,()):=by
 obtain⟨W,hW⟩:=Fd hw.1;have hi:=js hr;have hr':(m.reads.map cI)[i]?=some (cI r):=by rw[dO,hr];rfl
 have hL:MU ((i:Int),m.word,(0:Int),m.addr,m.word,m.any,m.reads.map cI,m.writes.map dy,[],())=some (cQ r.var m.word.toNat,()):=by
  unfold MU;delta u9;rw[hW,Id];refine uW (fun k:Nat=>((i:Int),(W:Int),(k:Int),m.addr,(W:Int),m.any,m.reads.map cI,m.writes.map dy,cQ r.var k,())) W ?_ ?_ NN aGp
  .intro k hk
   try dsimp only
   unfold DF;rw[fi aGs,dT (bC ⟨aGl,by rw[aR];omega⟩),dT (tW (by simp[DD];omega) (by simp[DD];omega)),bP hr',show(cI r).1=r.var from rfl];rw[cT (x:=r.var+(k:Int)) aGl,cT (x:=(k:Int)+1) aGl,Zz0];rfl
  .try dsimp only
   unfold DF;rw[dF aGr];rfl
 show Nk MU (aF m) (i:Int)=_;unfold Nk;rw[dF aGr,K8,dF (ax (by show ¬((m.reads.map cI).length:Int)<=(i:Int);rw[aR];omega))];exact(cM hL).trans rfl
def fh(x:bG):ae.T:=(x.rd,(x.mem:Int),(x.pos:Int),())
abbrev WT:=Int×io×List ag.T×io×io×io×List aj.T×List ag.T×io×List ae.T×io×io×Unit
def mM(n:aZ)(of:io)(nd:List bG)(m lv:io):WT:=(n.vars,n.bz,n.aB.map cY,n.bN,n.bO,n.constraints,n.aa.map aF,n.al.map cW,of,nd.map fh,m,lv,())
variable{lv:io}{m:io}{x:bG}{i:bE}{of:io}{nd:List bG}{n:aZ}
theorem aga(h:x.is n i):zR (x.rd,(x.mem:Int),(x.pos:Int),mM n of nd m lv)=some (i.an,mM n of nd m lv):=by
 show MJ x.rd (x.mem:Int) (x.pos:Int) n.vars n.bz (n.aB.map cY) n.bN n.bO n.constraints (n.aa.map aF) (n.al.map cW) of (nd.map fh) m lv=_;unfold MJ;rcases h with⟨h,a,ha,rfl⟩|⟨h,M,r,hM,hr,rfl⟩
 .have ha':(n.al.map cW)[x.pos]?=some (cW a):=by grind
  have hl:=js ha';rw[h,dF rfl,dT aGq,bP ha'];rfl
 .have hM':(n.aa.map aF)[x.mem]?=some (aF M):=by grind
  have hr':(M.reads.map cI)[x.pos]?=some (cI r):=by rw[dO,hr];rfl
  have hl:=js hM';have hl2:=js hr';rw[h,fi rfl,dT aGq,bP hM',show(aF M).2.2.2.1=M.reads.map cI from rfl,dT aGq,bP hr'];rfl
theorem Uu(h:x.is n i)(ft:Fit n)(hw:∀M∈n.aa,0<=M.word) :
  xB (x.rd,(x.mem:Int),(x.pos:Int),mM n of nd m lv)=some (i.to,mM n of nd m lv):=by
 show xJ MX x.rd (x.mem:Int) (x.pos:Int) n.vars n.bz (n.aB.map cY) n.bN n.bO n.constraints (n.aa.map aF) (n.al.map cW) of (nd.map fh) m lv=_;unfold xJ;rcases h with⟨h,a,ha,rfl⟩|⟨h,M,r,hM,hr,rfl⟩
 .have ha':(n.al.map cW)[x.pos]?=some (cW a):=by rw[dO,ha];rfl
  have hl:=js ha';rw[h,dF rfl,dT aGq,bP ha'];rfl
 .have hM':(n.aa.map aF)[x.mem]?=some (aF M):=by rw[dO,hM];rfl
  have hl:=js hM';have hmem:=ep hM;have hf:=ft.aa.2 M hmem;have hr2:=hf.gC r (ep hr);rw[h,fi rfl,dT aGq,bP hM'];exact(cM (Hb M x.pos r hr ⟨hw M hmem,hf.word.2⟩ ⟨hr2.2.1,hr2.2.2.1⟩)).trans rfl
theorem Wk{V:Nat}(a:Int)(vs:io)(hln:vs.length<=100000)(hvs:∀v∈vs,0<=v/\v<=(V:Int))(hm:m.length=V+1) :
  tS (a,vs,mM n of nd m lv)=some (vs,mM n of nd (cG m (vs.map Int.toNat) a) lv):=by
 have hL:Mi (a,vs,(vs.length:Int),(0:Int),vs,mM n of nd m lv)=some (vs,mM n of nd (cG m (vs.map Int.toNat) a) lv):=by
  unfold Mi;delta yC u5 eJ fe;refine uW (fun k:Nat=>(a,vs,(vs.length:Int),(k:Int),vs,mM n of nd (cG m ((vs.take k).map Int.toNat) a) lv)) vs.length ?_ ?_ NN aGp
  .intro k hk;unfold mM
   try dsimp only
   unfold Dc;have hv:=bF hk;obtain⟨h0,h1⟩:=hvs _ (EQ hk);obtain⟨v,hv2⟩:=Fd h0;rw[hv2]at hv h1;rw[fi aGs,dT aGq,bP (σ:=.I) hv,dT (bC ⟨aGl,by rw[lz,hm];omega⟩),cT (x:=(k:Int)+1) aGl];rw[dY hv,dE,IS,aFi,xQ];rfl
  .unfold mM
   try dsimp only
   unfold Dc;rw[dF aGr,gb];rfl
 show Mu Mi a vs n.vars n.bz (n.aB.map cY) n.bN n.bO n.constraints (n.aa.map aF) (n.al.map cW) of (nd.map fh) m lv=_;unfold Mu;exact(cM hL).trans rfl
end Go.Proofs.YtjflbmpepamfjaaGreat.V
end
section
namespace Go.Proofs.YtjflbmpepamfjaaGreat.Pl
theorem wi{l:io}{v:Nat}(h:v<l.length):l[v]?=some (aC l v):=by unfold aC;grind
variable{V:Nat}{n:aZ}{y:bE}
theorem af9(hs:dx n V)(hy:y∈fy n){k:Nat}{l:Int}(h:y.an[k]?=some l):∃u:Nat,l / 2=(u:Int)/\u<=V/\y.nd.an[k]?=some u/\0<=l/\l<=2*V+1:=by
 have:=hs.H9 hy (ep h);refine⟨(l / 2).toNat,aGl,aGl,?_,aGl,aGl⟩;unfold bE.nd
 grind
theorem DV(hs:dx n V)(hy:y∈fy n):y.to.length<=64/\y.an.length<=62:=by
 unfold fy at hy;rcases At.1 hy with hy|hy
 .obtain⟨a,ha,rfl⟩:=IN.1 hy;simp[oc]
 .obtain⟨m,hm,hy⟩:=WP.1 hy;obtain⟨r,hr,rfl⟩:=IN.1 hy;have h1:=hs.aa m hm;have h2:=h1.2.2.2.2.1 r hr;unfold nV cQ;simp;omega
variable{lv:io}{m:io}{l:jp}{N:List Nd}
theorem agu{m' lv':io}(i:VI N V m lv)(i':VI N V m' lv')(h:Ext V m lv m' lv')(hl:∀u∈l,u<=V)(ht:∀u∈l,tl N m u) :
  mx (l.map fun u=>(aC lv' u).toNat)=mx (l.map fun u=>(aC lv u).toNat):=by
 rw[Zti fun u hu=>by rw[(G5 i i' h (hl u hu) (ht u hu)).2]]
theorem ahB(ap:fg N)(i:VI N V m lv)(hl:∀u∈l,u<=V)(ht:∀u∈l,tl N m u):mx (l.map fun u=>(aC lv u).toNat)<=N.length:=by refine QY fun z hz=>?_;obtain⟨u,hu,rfl⟩:=IN.1 hz;obtain⟨k,h1,h2⟩:=Ar i (hl u hu) (ht u hu);rw[h1];have:=h2.le ap;simpa using this
theorem GK{α β:Type}(f:α->List β):∀(l:List α) (k:Nat),(∀x∈l,(f x).length<=k)->(l.flatMap f).length<=l.length*k:=by
 intro l k
 induction l with
 |nil=>intro _;simp|cons x l ih=>
  intro h;rw[Fn,aO,cF,Nat.succ_mul]
  grind
theorem yi(hs:dx n V):(bh n).length<=3000:=by unfold bh fy;rw[aR,aO,aR];have h1:=hs.lens;have h2:=GK jm n.aa 4 (fun m hm=>by unfold jm;rw[aR];exact(hs.aa m hm).2.2.2.2.2.2.1);omega
end Go.Proofs.YtjflbmpepamfjaaGreat.Pl
end
section
namespace Go.Proofs.YtjflbmpepamfjaaGreat.V
open Go Go.RowKit Go.Proofs.YtjflbmpepamfjaaGreat.Pl
theorem ar1(l:Int):Dp (l,())=some (l / 2,()):=by show Nl l=_;unfold Nl;rw[Int.fdiv_eq_ediv_of_nonneg _ aGo];rfl
variable{l:Int}
theorem Zwy{q:Int}(h:l / 2=q):Dp (l,())=some (q,()):=by rw[ar1,h]
def arx(n:aZ)(V:Nat)(m lv:io)(v:Nat)(b:Bool)(m' lv':io):Prop:=(b=true/\VI (bh n) V m' lv'/\Ext V m lv m' lv'/\tl (bh n) m' v)\/(b=false/\∃u,u<=V/\∀k,¬cN (bh n) u k)
def wk(n:aZ)(V:Nat)(m lv:io):WT:=mM n (fH (bh n) V (bh n).length) (dS n) m lv
abbrev WV:=Int×io×List ag.T×io×io×io×List aj.T×List ag.T×io×List ae.T×io×io×io×Unit
def wv(n:aZ)(V:Nat)(m lv vs:io):WV:=(n.vars,n.bz,n.aB.map cY,n.bN,n.bO,n.constraints,n.aa.map aF,n.al.map cW,fH (bh n) V (bh n).length,(dS n).map fh,m,lv,vs,())
theorem ahH{n:aZ}{V:Nat}{F:be LG CD}(L:Nat)(hL:L<=3000)(m lv vs:io)(hln:vs.length<=100000)(hvs:∀v∈vs,0<=v/\v<=(V:Int))(hm:lv.length=V+1) :
  Mk F ((L:Int),vs,(vs.length:Int),(0:Int),wv n V m lv vs)=some (wv n V m (cG lv (vs.map Int.toNat) ((L:Int)+1)) vs):=by
 unfold Mk;refine uW (fun k:Nat=>((L:Int),vs,(vs.length:Int),(k:Int),wv n V m (cG lv ((vs.take k).map Int.toNat) ((L:Int)+1)) vs)) vs.length ?_ ?_ NN aGp
 .intro k hk;unfold wv
  try dsimp only
  unfold Di;have hv:=bF hk;obtain⟨h0,h1⟩:=hvs _ (EQ hk);obtain⟨v,hv2⟩:=Fd h0;rw[hv2]at hv h1;rw[fi aGs,dT aGq,bP (σ:=.I) hv,dT (bC ⟨aGl,by rw[lz,hm];omega⟩),cT (x:=(k:Int)+1) aGl,cT (x:=(L:Int)+1) aGl];rw[dY hv,dE,IS,aFi,xQ];rfl
 .unfold wv
  try dsimp only
  unfold Di;rw[dF aGr,gb];rfl
theorem afI{n:aZ}{V:Nat}(hs:dx n V)(ft:Fit n):∀(F:Nat) (m lv:io) (v:Nat),VI (bh n) V m lv->(∀u,u<=V->aC m u=1->mr (bh n) u v)->v<=V->fresh V m<F ->
  ∃b m' lv',uB F ((v:Int),wk n V m lv)=some (b,wk n V m' lv')/\arx n V m lv v b m' lv':=by
 intro F
 induction F with
 |zero=>intro m lv v _ _ _ h;omega|succ F ih=>
  intro m lv v hI hD hv hF;have hV2:=hs.v2;have hnl:=yi hs;have hmw:∀M∈n.aa,0<=M.word:=fun M hM=>by have:=hs.aa M hM;omega
  obtain⟨of,hof⟩:∃of,of=fH (bh n) V (bh n).length:=⟨_,rfl⟩;have hofl:of.length=V+1:=by rw[hof];exact DN _ _ _
  have hofv:of[v]?=some (aC of v):=wi aGl;have hmv:m[v]?=some (aC m v):=wi (by rw[hI.ml];omega);show ∃b m' lv',MG Dp (uB F) zR tS xB (Ml (uB F)) (Mk (uB F)) (v:Int) n.vars n.bz (n.aB.map cY) n.bN n.bO n.constraints (n.aa.map aF) (n.al.map cW) (fH (bh n) V (bh n).length) ((dS n).map fh) m lv=_/\_;rw[<-hof];unfold MG;rw[dT aGq,bP (σ:=.I) hofv];rcases aiS hs.apart (fun x hx=>(hs.ks x hx).2) hv with⟨h1,h2⟩|⟨i,x,h1,h2,h3⟩
  .rw[<-hof]at h1;rw[h1,fi (aA rfl)];exact⟨true,m,lv,by rw[hof];rfl,.inl ⟨rfl,hI,Ext.refl,.inr h2⟩⟩
  rw[<-hof]at h3;rw[h3,dF aGr,dT (bC ⟨aGl,by rw[hI.ml];omega⟩),K8,bP (σ:=.int .u8) hmv];rcases hI.kd v hv with hk|hk|hk
  .-- its node's literals
   subst hof;have hil:=js h1;have hnl2:(dS n).length=(bh n).length:=by rw[Zuw];unfold bh;rw[aR]
   obtain⟨xd,hxd⟩:∃xd,(dS n)[i]?=some xd:=⟨_,bF aGl⟩;obtain⟨y,hy1,hy2⟩:=Hq n hxd;have hxy:x=y.nd:=by rw[Hw,hy1]at h1;simpa using h1.symm
   subst hxy;have hy:=ep hy1;have hx:=ep h1;have hxd':((dS n).map fh)[i]?=some (fh xd):=by rw[dO,hxd];rfl
   have hvs:∀u∈y.to,0<=u/\u<=(V:Int):=fun u hu=>by have:=hs.qn hy hu;omega
   have hlens:=DV hs hy;have hfr:∀u∈y.nd.an,u<=V:=fun u hu=>hs.aU _ hx u hu;have hI5:=hI.under hs.apart hx (fun u hu=>(hs.ks _ hx).2 u hu) h2 hk;rw[hk,dF aGr,dT (bC ⟨aGl,by rw[hI.ml];omega⟩),dF aGr,dT aGq];rw[show((i:Int)+1-1)=(i:Int) by omega,cT (x:=(i:Int)) aGl,dT (bC ⟨aGl,by rw[aR];omega⟩),bP hxd'];have e1:=Uu (of:=fH (bh n) V (bh n).length) (m:=m) (lv:=lv) (nd:=dS n) hy2 ft hmw;have e2:=Wk (n:=n) (of:=fH (bh n) V (bh n).length) (nd:=dS n) (lv:=lv) 1 y.to aGl hvs hI.ml;have e3:=aga (n:=n) (of:=fH (bh n) V (bh n).length) (nd:=dS n) (m:=cG m (y.to.map Int.toNat) 1) (lv:=lv) hy2;have hL11:∃o,Ml (uB F) ((0:Int),y.an,(y.an.length:Int),(0:Int),wv n V (cG m y.nd.to 1) lv y.to)=some o /\
     ((∃m' lv',o=.inl (false,wk n V m' lv')/\∃u,u<=V/\∀k,¬cN (bh n) u k) \/
      ∃(m' lv':io) (L:Nat),o=.inr ((L:Int),wv n V m' lv' y.to)/\VI (bh n) V m' lv'/\Ext V (cG m y.nd.to 1) lv m' lv'/\(∀u∈y.nd.an,tl (bh n) m' u)/\L=mx (y.nd.an.map fun u=>(aC lv' u).toNat)):=by
    unfold Ml;refine nY (fun d=>∃(k:Nat) (m' lv':io) (L:Nat),k<=y.an.length/\d=((L:Int),y.an,(y.an.length:Int),(k:Int),wv n V m' lv' y.to)/\VI (bh n) V m' lv'/\Ext V (cG m y.nd.to 1) lv m' lv' /\
     (∀u∈y.nd.an.take k,tl (bh n) m' u)/\L=mx ((y.nd.an.take k).map fun u=>(aC lv' u).toNat)) _ (fun d=>y.an.length-d.2.2.2.1.toNat) ?_ NN _ ⟨0,_,lv,0,AI _,rfl,hI5,Ext.refl,aGn,rfl⟩ (cB (by have:=hlens.2;omega))
    rintro d ⟨k,m',lv',L,hk',rfl,hI',hE',hT',hL⟩;unfold wv
    try dsimp only
    unfold MQ;by_cases hlt:k<y.an.length
    .have hl:=bF hlt;obtain⟨u,hu1,hu2,hu3,hl0,hl1⟩:=af9 hs hy hl;have hlt2:fresh V m'<F:=by have h1:=as0 hI5 hI' hE';have h2:=ar5 hI hx h2 hv hk;omega
     have hdep:∀t,t<=V->aC m' t=1->mr (bh n) t u:=fun t ht h=>atb hx h2 (ep hu3) hD t ht (hE'.b t ht h);obtain⟨b,m2,lv2,g1,g2⟩:=ih m' lv' u hI' hdep hu2 hlt2;rw[fi aGs,dT aGq,bP (σ:=.I) hl];rcases g2 with⟨rfl,gI,gE,gT⟩|⟨rfl,u',hu',hno⟩
     .right;obtain⟨kk,hk1,hk2⟩:=Ar gI hu2 gT;have hkl:=rt (hk2.le hs.apart) hnl;have hlu:lv2[u]?=some (kk:Int):=by rw[<-hk1];exact wi (by rw[gI.ll];omega)
      have hT:∀u'∈y.nd.an.take (k+1),tl (bh n) m2 u':=fun u' h'=>by
       rw[dY hu3]at h';rcases At.1 h' with h'|h'
       .exact(G5 hI' gI gE (hfr u' (arm h')) (hT' u' h')).1
       .simp at h';subst h';exact gT
      have hmx:mx ((y.nd.an.take (k+1)).map fun u=>(aC lv2 u).toNat)=max L kk:=by rw[arF hu3,agu hI' gI gE (fun u hu=>hfr u (arm hu)) hT',<-hL,hk1,Id]
      refine⟨((max L kk:Nat),y.an,(y.an.length:Int),((k+1:Nat):Int),wv n V m2 lv2 y.to),?_,⟨k+1,m2,lv2,max L kk,aGl,rfl,gI,hE'.trans gE,hT,hmx.symm⟩,?_⟩
      .refine(cM (Zwy hu1)).trans ((cM g1).trans ?_);refine(dF rfl).trans ((dT (bC ⟨aGl,by show(u:Int)<((List.length lv2:Nat):Int);rw[gI.ll];omega⟩)).trans ?_);have hsel:mn (@decide _ (Int.decLt (L:Int) (gt .I lv2 (u:Int)))) (gt .I lv2 (u:Int)) (L:Int)=((max L kk:Nat):Int):=by
        rw[bP (σ:=.I) hlu];unfold mn;split
        .rename_i q;have q:=Pi q;have:max L kk=kk:=aGl
         rw[this]
        .rename_i q;have q:=aEU q;have:max L kk=L:=aGl
         rw[this]
       have e:∀a b a' b':Int,a=a'->b=b'->(aGt (a,y.an,(y.an.length:Int),b,wv n V m2 lv2 y.to):am CX CT)=aGt (a',y.an,(y.an.length:Int),b',wv n V m2 lv2 y.to):=by rintro _ _ _ _ rfl rfl;rfl
       exact e _ _ _ _ hsel (cT (x:=(k:Int)+1) aGl)
      .show y.an.length-((k+1:Nat):Int).toNat<y.an.length-(k:Int).toNat;omega
     .left;refine⟨_,(cM (Zwy hu1)).trans ((cM g1).trans ?_),.inl ⟨m2,lv2,rfl,u',hu',hno⟩⟩;exact(fi rfl).trans rfl
    .left;have hlen:y.nd.an.length<=k:=by unfold bE.nd;rw[aR];omega
     rw[By hlen]at hT' hL;rw[dF aGr];exact⟨_,rfl,.inr ⟨m',lv',L,rfl,hI',hE',hT',hL⟩⟩
   obtain⟨o,ho,hcase⟩:=hL11;rcases hcase with⟨m',lv',rfl,u',hu',hno⟩|⟨m',lv',L,rfl,hI',hE',hT',hL⟩
   .refine⟨false,m',lv',?_,.inr ⟨rfl,u',hu',hno⟩⟩;refine(cM e1).trans ((cM e2).trans ((cM e3).trans ((cM ho).trans ?_)));rfl
   .have hmxl:L<=3000:=by rw[hL];exact rt (ahB hs.apart hI' hfr hT') hnl
    have c:=hI.close hs.apart hx (fun u hu=>(hs.ks _ hx).2 u hu) hfr h2 hk hI' hE' hT' (L:=(L:Int)) (by rw[hL]);have e5:=ahH (n:=n) (V:=V) (F:=uB F) L hmxl m' lv' y.to aGl hvs hI'.ll;have e6:=Wk (n:=n) (of:=fH (bh n) V (bh n).length) (nd:=dS n) (lv:=cG lv' (y.to.map Int.toNat) ((L:Int)+1)) 2 y.to aGl hvs hI'.ml;refine⟨true,cG m' y.nd.to 2,cG lv' y.nd.to ((L:Int)+1),?_,.inl ⟨rfl,c.1,c.2.1,c.2.2⟩⟩;refine(cM e1).trans ((cM e2).trans ((cM e3).trans ((cM ho).trans ((cM e5).trans ?_))));exact(cM e6).trans rfl
  .rw[hk,dF aGr,dT (bC ⟨aGl,by rw[hI.ml];omega⟩),fi (aA rfl)];exact⟨false,m,lv,by rw[hof];rfl,.inr ⟨rfl,v,hv,fun k=>mr.none hs.apart (hD v hv hk) k⟩⟩
  .rw[hk,fi (aA rfl)];exact⟨true,m,lv,by rw[hof];rfl,.inl ⟨rfl,hI,Ext.refl,.inl hk⟩⟩
theorem PU(m:cS)(i:Nat)(r:gr)(hr:m.reads[i]?=some r)(hw:0<=m.word/\m.word<=4000)(hv:-1099511627776<=r.var/\r.var<=1099511627776) :
  LQ (aF m,(i:Int),())=some (cQ r.var m.word.toNat,()):=by
 obtain⟨W,hW⟩:=Fd hw.1;have hi:=js hr;have hr':(m.reads.map cI)[i]?=some (cI r):=by rw[dO,hr];rfl
 have hL:Mp ((i:Int),(0:Int),m.addr,m.word,m.any,m.reads.map cI,m.writes.map dy,[],())=some (cQ r.var m.word.toNat,()):=by
  unfold Mp;delta u8;rw[hW,Id];refine uW (fun k:Nat=>((i:Int),(k:Int),m.addr,(W:Int),m.any,m.reads.map cI,m.writes.map dy,cQ r.var k,())) W ?_ ?_ NN aGp
  .intro k hk
   try dsimp only
   unfold Dl;rw[fi aGs,dT (bC ⟨aGl,by rw[aR];omega⟩),dT (tW (by simp[DD];omega) (by simp[DD];omega)),bP hr',show(cI r).1=r.var from rfl];rw[cT (x:=r.var+(k:Int)) aGl,cT (x:=(k:Int)+1) aGl,Zz0];rfl
  .try dsimp only
   unfold Dl;rw[dF aGr];rfl
 show MH Mp (aF m) (i:Int)=_;unfold MH;rw[dF aGr,K8,dF (ax (by show ¬((m.reads.map cI).length:Int)<=(i:Int);rw[aR];omega))];exact(cM hL).trans rfl
theorem agX(h:0<=l/\l<=1000000){u:Nat}(hu:l / 2=(u:Int)):xF (l,())=some ((u:Int),()):=by show MP l=_;unfold MP;rw[Int.tdiv_eq_ediv_of_nonneg h.1,hu,cT aGl];rfl
def nK(L:io)(i:Int):Int:=gt .I L i
variable{i:Nat}
theorem wb{L:io}{x:Int}(h:L[i]?=some x):nK L (i:Int)=x:=bP (σ:=.I) h
def cK(x:bG×bE):du.T:=(x.1.rd,(x.1.mem:Int),(x.1.pos:Int),x.2.an,x.2.to,())
variable{B:Int}
theorem afc{V:Nat}(x:bG×bE)(out:io)(hB:∀u,u<=V->aC out u<=B)(hB0:0<=B/\B<=1000000000000)(hl:out.length=V+1)(hV:V<=2000)
  (hf:∀l∈x.2.an,0<=l/\l<=2*(V:Int)+1) (hfl:x.2.an.length<=100000):LJ (cK x,out,())=some (fj out x.2.nd.an 0,()):=by
 have hfr:∀k,x.2.nd.an.drop k=(x.2.an.drop k).map fun l=>(l / 2).toNat:=fun k=>by unfold bE.nd;rw[List.map_drop]
 have hL:=nY (B:=fun d=>MS xF d.1 d.2.1 d.2.2.1 d.2.2.2.1 d.2.2.2.2.1 d.2.2.2.2.2.1 d.2.2.2.2.2.2.1 d.2.2.2.2.2.2.2.1)
  (I:=fun d:TL xE.σs=>∃(k:Nat) (n:Int),d=(out,n,(k:Int),cK x)/\k<=x.2.an.length/\0<=n/\n<=B/\fj out (x.2.nd.an.drop k) n=fj out x.2.nd.an 0)
  (Q:=fun o:Out xD=>(o=.inl ((-1:Int),())/\fj out x.2.nd.an 0 = -1)\/∃n:Int,o=.inr (n,())/\n<=B/\0<=n/\fj out x.2.nd.an 0=n+1)
  (μ:=fun d=>x.2.an.length-d.2.2.1.toNat) ?_ NN (out,(0:Int),(0:Int),cK x) ⟨0,0,rfl,aGl,aGl,hB0.1,by rw[List.drop_zero]⟩ (cB (by show _-_<=_;omega))
 .obtain⟨o,ho,hcase⟩:=hL;have ho':Zfs (out,(0:Int),(0:Int),cK x)=some o:=ho;rcases hcase with⟨rfl,h⟩|⟨n,rfl,hn,hn0,h⟩
  .rw[h];exact aT ho' rfl
  .rw[h];have e:∀a b:Int,a=b->(some (a,()):Option (Int×Unit))=some (b,()):=by rintro _ _ rfl;rfl
   exact aT ho' (e _ _ (cT (x:=n+1) aGl))
 .rintro _ ⟨k,n,rfl,hk,h0,hn,hr⟩;by_cases hlt:k<x.2.an.length
  .have hg:=bF hlt;obtain⟨a1,a2⟩:=hf _ (EQ hlt);obtain⟨u,hu⟩:=Fd (show 0<=x.2.an[k] / 2 by omega);have huV:u<=V:=aGl
   have hlu:out[u]?=some (aC out u):=by unfold aC;rw[fq,bF aGl];rfl
   have e1:=agX (l:=x.2.an[k]) ⟨a1,aGl⟩ hu;have hdrop:x.2.nd.an.drop k=u::x.2.nd.an.drop (k+1):=by rw[hfr,hfr,aiT hlt,IS,hu];rfl
   rw[hdrop,fj]at hr;by_cases hneg:aC out u<0
   .left;rw[BY hneg]at hr;refine⟨.inl ((-1:Int),()),?_,.inl ⟨rfl,hr.symm⟩⟩;refine aD (aA (show(k:Int)<((x.2.an.length:Nat):Int) by omega)) (au (bC ⟨show(0:Int)<=(k:Int) by omega,by show(k:Int)<((x.2.an.length:Nat):Int);omega⟩) ?_);refine(cM (show xF (gt .I x.2.an (k:Int),())=some ((u:Int),()) by rw[bP (σ:=.I) hg];exact e1)).trans ?_;refine au (bC ⟨show(0:Int)<=(u:Int) by omega,by rw[hl];show(u:Int)<_;omega⟩) (aD (aA (show nK out (u:Int)<(0:Int) by rw[wb hlu];exact hneg)) rfl)
   .right;rw[rx hneg]at hr;have hBu:=hB u huV;refine⟨(out,(max n (aC out u):Int),((k+1:Nat):Int),cK x),?_,⟨k+1,max n (aC out u),rfl,aGl,aGl,aGl,hr⟩,?_⟩
    .refine aD (aA (show(k:Int)<((x.2.an.length:Nat):Int) by omega)) (au (bC ⟨show(0:Int)<=(k:Int) by omega,by show(k:Int)<((x.2.an.length:Nat):Int);omega⟩) ?_);refine(cM (show xF (gt .I x.2.an (k:Int),())=some ((u:Int),()) by rw[bP (σ:=.I) hg];exact e1)).trans ?_;refine au (bC ⟨show(0:Int)<=(u:Int) by omega,by rw[hl];show(u:Int)<_;omega⟩) (aw (ax (show ¬nK out (u:Int)<(0:Int) by rw[wb hlu];exact hneg)) ?_);have e:∀a b a' b':Int,a=a'->b=b'->(aGt (out,a,b,cK x):am xE xD)=aGt (out,a',b',cK x):=by rintro _ _ _ _ rfl rfl;rfl
     refine e _ _ _ _ ?_ (cT (x:=(k:Int)+1) aGl);show mn (decide (n<nK out (u:Int))) (nK out (u:Int)) n=_;rw[wb hlu];unfold mn;split
     .rename_i q;have q:=Pi q;show aC out u=_;omega
     .rename_i q;have q:=aEU q;show n=_;have q:¬n<aC out u:=q;omega
    .show x.2.an.length-((k+1:Nat):Int).toNat<x.2.an.length-(k:Int).toNat;omega
  .left;have hnil:x.2.nd.an.drop k=[]:=by rw[hfr,ask aGl];rfl
   rw[hnil,fj]at hr;exact⟨.inr (n,()),aw (ax (show ¬(k:Int)<((x.2.an.length:Nat):Int) by omega)) rfl,.inr ⟨n,rfl,hn,h0,hr.symm⟩⟩
theorem ash(l:io)(vs ws:jp)(x:Int):cG l (vs++ws) x=cG (cG l vs x) ws x:=by simp[cG,aFP]
theorem NT{x B:Int}(hx:x<=B):∀(vs:jp) {l:io},(∀u,aC l u<=B)->∀u,aC (cG l vs x) u<=B
 |[],l,h,u=>h u|v::vs,l,h,u=>by
  have:cG l (v::vs) x=cG (l.set v x) vs x:=rfl;rw[this];refine NT hx vs (fun u=>?_) u;rw[Wo]
  grind
theorem Zyk{out:io}{B:Int}(hB:∀u,aC out u<=B):∀(us:jp) (n:Int),n<=B->0<=B->fj out us n<=B+1
 |[],n,h,h0=>by rw[fj];omega|u::us,n,h,h0=>by
  rw[fj];split
  .omega
  .exact Zyk hB us _ (by grind) h0
structure N6(N:List (bG×bE))(V:Nat):Prop where
 v2:V<=2000
 len:N.length<=3000
 to:∀x∈N,x.2.to.length<=100000/\∀v∈x.2.to,0<=v/\v<=(V:Int)
 an:∀x∈N,x.2.an.length<=100000/\∀l∈x.2.an,0<=l/\l<=2*(V:Int)+1
variable{N:List (bG×bE)}
theorem aiD{V:Nat}(h6:N6 N V){x:bG×bE}(hx:N[i]?=some x)(out:io)(hl:out.length=V+1) :
  C7 (N.map cK,(i:Int),(0:Int),out,())=some (N.map cK,(i:Int),cG out x.2.nd.to (-1),()):=by
 have hx':(N.map cK)[i]?=some (cK x):=by grind
 have hi:=js hx';obtain⟨h1,h2⟩:=h6.to x (ep hx);unfold C7;delta u4;refine fE (fun k:Nat=>(N.map cK,(i:Int),(k:Int),cG out ((x.2.to.take k).map Int.toNat) (-1),())) x.2.to.length rfl ?_ ?_ aGp
 .intro k hk;have hv:=bF hk;obtain⟨v0,v1⟩:=h2 _ (EQ hk);obtain⟨v,hv2⟩:=Fd v0;rw[hv2]at hv v1
  try dsimp only
  unfold De;rw[dT aGq,bP hx'];refine aD (aA (show(k:Int)<((x.2.to.length:Nat):Int) by omega)) (au aGq (au (bC ⟨show(0:Int)<=(k:Int) by omega,show(k:Int)<((x.2.to.length:Nat):Int) by omega⟩) ?_));have hg:nK x.2.to (k:Int)=(v:Int):=wb hv;refine au (show ar (nK x.2.to (k:Int)) (List.length (cG out ((x.2.to.take k).map Int.toNat) (-1)))=true by rw[hg];exact bC ⟨aGl,by rw[lz,hl];omega⟩) ?_;have e:∀(a a':Int) (b b':io),a=a'->b=b'->(aGt (N.map cK,(i:Int),a,b,()):am CM CI)=aGt (N.map cK,(i:Int),a',b',()):=by rintro _ _ _ _ rfl rfl;rfl
  refine e _ _ _ _ (cT (x:=(k:Int)+1) aGl) ?_;rw[dY hv,dE,IS,aFi,xQ];show List.set (cG out ((x.2.to.take k).map Int.toNat) (-1)) (nK x.2.to (k:Int)).toNat (-1)=_;rw[hg]
 .try dsimp only
  unfold De;rw[dT aGq,bP hx'];refine aw (ax (show ¬((x.2.to.length:Nat):Int)<((x.2.to.length:Nat):Int) by omega)) ?_;rw[gb];rfl
theorem QB{V:Nat}(h6:N6 N V){x:bG×bE}(hx:N[i]?=some x)(a b c:Int)(out:io)(hl:out.length=V+1) :
  CP (N.map cK,a,b,(i:Int),c,(0:Int),out,())=some (N.map cK,a,b,(i:Int),cG out x.2.nd.to c,()):=by
 have hx':(N.map cK)[i]?=some (cK x):=by grind
 have hi:=js hx';obtain⟨h1,h2⟩:=h6.to x (ep hx);unfold CP;delta u7;refine fE (fun k:Nat=>(N.map cK,a,b,(i:Int),c,(k:Int),cG out ((x.2.to.take k).map Int.toNat) c,())) x.2.to.length rfl ?_ ?_ aGp
 .intro k hk;have hv:=bF hk;obtain⟨v0,v1⟩:=h2 _ (EQ hk);obtain⟨v,hv2⟩:=Fd v0;rw[hv2]at hv v1
  try dsimp only
  unfold C9;rw[dT aGq,bP hx'];refine aD (aA (show(k:Int)<((x.2.to.length:Nat):Int) by omega)) (au aGq (au (bC ⟨show(0:Int)<=(k:Int) by omega,show(k:Int)<((x.2.to.length:Nat):Int) by omega⟩) ?_));have hg:nK x.2.to (k:Int)=(v:Int):=wb hv;refine au (show ar (nK x.2.to (k:Int)) (List.length (cG out ((x.2.to.take k).map Int.toNat) c))=true by rw[hg];exact bC ⟨aGl,by rw[lz,hl];omega⟩) ?_;have e:∀(p p':Int) (q q':io),p=p'->q=q'->(aGt (N.map cK,a,b,(i:Int),c,p,q,()):am CG CF)=aGt (N.map cK,a,b,(i:Int),c,p',q',()):=by rintro _ _ _ _ rfl rfl;rfl
  refine e _ _ _ _ (cT (x:=(k:Int)+1) aGl) ?_;rw[dY hv,dE,IS,aFi,xQ];show List.set (cG out ((x.2.to.take k).map Int.toNat) c) (nK x.2.to (k:Int)).toNat c=_;rw[hg]
 .try dsimp only
  unfold C9;rw[dT aGq,bP hx'];refine aw (ax (show ¬((x.2.to.length:Nat):Int)<((x.2.to.length:Nat):Int) by omega)) ?_;rw[gb];rfl
theorem aiC{V:Nat}(h6:N6 N V)(out:io)(hl:out.length=V+1) :
  Mj (N.map cK,(0:Int),out,())=some (N.map cK,cG out ((N.map (·.2.nd)).flatMap (·.to)) (-1),()):=by
 have hn:=h6.len;unfold Mj;delta u3;refine fE (fun i:Nat=>(N.map cK,(i:Int),cG out (((N.take i).map (·.2.nd)).flatMap (·.to)) (-1),())) N.length rfl ?_ ?_ aGp
 .intro i hi;have hx:=bF hi
  try dsimp only
  unfold Dh;refine aD (aA (show(i:Int)<(((N.map cK).length:Nat):Int) by rw[aR];omega)) ((cM (aiD h6 hx _ (by rw[lz,hl]))).trans ?_);have e:∀(p p':Int) (q q':io),p=p'->q=q'->(aGt (N.map cK,p,q,()):am CV CR)=aGt (N.map cK,p',q',()):=by intros;subst_vars;rfl
  refine e _ _ _ _ (cT (x:=(i:Int)+1) aGl) ?_;rw[dY hx,dE,Ne,ash];simp
 .try dsimp only
  unfold Dh;refine aw (ax (show ¬((N.length:Nat):Int)<(((N.map cK).length:Nat):Int) by rw[aR];omega)) ?_;rw[gb];rfl
theorem arY(M:List Nd)(x:Nd)(out:io):jv (M++[x]) out=iR (jv M out) x:=by unfold jv;rw[aFP];rfl
theorem MZ:∀(M:List Nd) (out:io),(jv M out).length=out.length
 |[],out=>rfl|x::M,out=>by show(jv M (iR out x)).length=_;rw[MZ M,Zun]
theorem Zyn(x:Nd):∀(M:List Nd) (out:io),iD (M++[x]) out=iD M out+(if fj (jv M out) x.an 0<0 then 1 else 0)
 |[],out=>by show(if fj out x.an 0<0 then 1 else 0)+0=0+_;rw[aFm];rfl
 |y::M,out=>by show(if fj out y.an 0<0 then 1 else 0)+iD (M++[x]) (iR out y)=_;rw[Zyn x M (iR out y)];show _=(if fj out y.an 0<0 then 1 else 0)+iD M (iR out y)+_;rw[adc];rfl
theorem N8:∀(M:List Nd) (out:io),iD M out<=M.length
 |[],out=>pi _|y::M,out=>by have:=N8 M (iR out y);show(if fj out y.an 0<0 then 1 else 0)+iD M (iR out y)<=M.length+1;split<;>omega
theorem Nr:∀(M:List Nd) {out:io}{B:Int},0<=B->(∀u,aC out u<=B)->∀u,aC (jv M out) u<=B+(M.length:Int)
 |[],out,B,h0,h,u=>by have:=h u;show aC out u<=B+((0:Nat):Int);omega|y::M,out,B,h0,h,u=>by have h1:∀u,aC (iR out y) u<=B+1:=NT (Zyk h y.an 0 h0 h0) y.to (fun u=>by grind);have:=Nr M (out:=iR out y) (B:=B+1) aGl h1 u;show aC (jv M (iR out y)) u<=B+((M.length+1:Nat):Int);omega
theorem ahz{V:Nat}(h6:N6 N V)(r:Int)(out:io)(hl:out.length=V+1)(hB:∀u,aC out u<=B)(hB0:0<=B/\B<=900000000000) :
  CZ (N.map cK,(0:Int),r,(0:Int),out,())=some (N.map cK,(iD (N.map (·.2.nd)) out:Int),r,jv (N.map (·.2.nd)) out,()):=by
 have hn:=h6.len;unfold CZ;delta u5;refine fE (fun i:Nat=>(N.map cK,(iD ((N.take i).map (·.2.nd)) out:Int),r,(i:Int),jv ((N.take i).map (·.2.nd)) out,())) N.length rfl ?_ ?_ aGp
 .intro i hi;have hx:=bF hi;have hx':(N.map cK)[i]?=some (cK N[i]):=by rw[dO,hx];rfl
  obtain⟨f1,f2⟩:=h6.an _ (EQ hi);have hlen:((N.take i).map (fun x:bG×bE=>x.2.nd)).length<=3000:=by grind
  have hle:=N8 ((N.take i).map (fun x:bG×bE=>x.2.nd)) out;have hb:=Nr ((N.take i).map (fun x:bG×bE=>x.2.nd)) hB0.1 hB;have hrl:(jv ((N.take i).map (fun x:bG×bE=>x.2.nd)) out).length=V+1:=by rw[MZ,hl]
  have e1:=afc (V:=V) (B:=B+(((N.take i).map (fun x:bG×bE=>x.2.nd)).length:Int)) N[i] _ (fun u _=>hb u) ⟨aGl,aGl⟩ hrl h6.v2 f2 f1
  try dsimp only
  unfold Da;refine aD (aA (show(i:Int)<(((N.map cK).length:Nat):Int) by rw[aR];omega)) (au (bC ⟨aGl,by rw[aR];omega⟩) ?_);rw[bP hx'];refine(cM e1).trans ?_;have e:∀(p p' q q':Int) (s s':io),p=p'->q=q'->s=s'->(aGt (N.map cK,p,r,q,s,()):am CJ CH)=aGt (N.map cK,p',r,q',s',()):=by rintro _ _ _ _ _ _ rfl rfl rfl;rfl
  have hs:jv ((N.take (i+1)).map (fun x:bG×bE=>x.2.nd)) out=cG (jv ((N.take i).map (fun x:bG×bE=>x.2.nd)) out) N[i].2.nd.to (fj (jv ((N.take i).map (fun x:bG×bE=>x.2.nd)) out) N[i].2.nd.an 0):=by rw[dY hx,dE];exact arY _ _ _
  have hc:iD ((N.take (i+1)).map (fun x:bG×bE=>x.2.nd)) out=iD ((N.take i).map (fun x:bG×bE=>x.2.nd)) out+(if fj (jv ((N.take i).map (fun x:bG×bE=>x.2.nd)) out) N[i].2.nd.an 0<0 then 1 else 0):=by rw[dY hx,dE];exact Zyn _ _ _
  rw[hs,hc];by_cases hneg:fj (jv ((N.take i).map (fun x:bG×bE=>x.2.nd)) out) N[i].2.nd.an 0<0
  .rw[BY hneg];refine aD (aA hneg) ((cM (QB h6 hx _ r _ _ hrl)).trans ?_);exact e _ _ _ _ _ _ ((cT (x:=((iD ((N.take i).map (fun x:bG×bE=>x.2.nd)) out:Nat):Int)+1) aGl).trans aGl) (cT (x:=(i:Int)+1) aGl) rfl
  .rw[rx hneg];refine aw (ax hneg) ((cM (QB h6 hx _ r _ _ hrl)).trans ?_);exact e _ _ _ _ _ _ rfl (cT (x:=(i:Int)+1) aGl) rfl
 .try dsimp only
  unfold Da;refine aw (ax (show ¬((N.length:Nat):Int)<(((N.map cK).length:Nat):Int) by rw[aR];omega)) ?_;rw[gb];rfl
theorem Zy8(M:List Nd)(out:io):∀r,(jt M r out).length=out.length
 |0=>rfl|r+1=>by rw[jt,MZ,Zy8 M out r]
theorem Zuq(M:List Nd){out:io}(h:∀u,aC out u<=0):∀r u,aC (jt M r out) u<=(r:Int)*(M.length:Int)
 |0,u=>by have:=h u;show aC out u<=((0:Nat):Int)*_;omega|r+1,u=>by
  have h1:=Nr M (out:=jt M r out) (B:=(r:Int)*(M.length:Int)) (Int.mul_nonneg aGl aGl) (Zuq M h r) u;rw[jt]
  grind
theorem ahy{V:Nat}(h6:N6 N V)(out:io)(hl:out.length=V+1)(hB:∀u,aC out u<=0) :
  Mh (N.map cK,(0:Int),(0:Int),out,())=some ((iD (N.map (fun x:bG×bE=>x.2.nd)) (jt (N.map (fun x:bG×bE=>x.2.nd)) N.length out):Int),jt (N.map (fun x:bG×bE=>x.2.nd)) (N.length+1) out,()):=by
 have hn:=h6.len;unfold Mh;delta u4;refine fE (fun r:Nat=>(N.map cK,(match r with|0=>(0:Int)|r+1=>(iD (N.map (fun x:bG×bE=>x.2.nd)) (jt (N.map (fun x:bG×bE=>x.2.nd)) r out):Int)),(r:Int),jt (N.map (fun x:bG×bE=>x.2.nd)) r out,())) (N.length+1) rfl ?_ ?_ aGp
 .intro r hr;have hb:=Zuq (N.map (fun x:bG×bE=>x.2.nd)) hB r;have hm:(r:Int)*((N.map (fun x:bG×bE=>x.2.nd)).length:Int)<=3000*3000:=by rw[aR];exact Int.mul_le_mul aGl aGl aGl aGl
  have h0:0<=(r:Int)*((N.map (fun x:bG×bE=>x.2.nd)).length:Int):=Int.mul_nonneg aGl aGl;have e1:=ahz h6 (r:Int) (jt (N.map (fun x:bG×bE=>x.2.nd)) r out) (by rw[Zy8,hl]) hb ⟨h0,aGl⟩
  try dsimp only
  unfold Db;refine aD (aA (show(r:Int)<=(((N.map cK).length:Nat):Int) by rw[aR];omega)) ((cM e1).trans ?_);have e:∀(p q q':Int) (s:io),q=q'->(aGt (N.map cK,p,q,s,()):am CS CQ)=aGt (N.map cK,p,q',s,()):=by intros;subst_vars;rfl
  exact e _ _ _ _ (cT (x:=(r:Int)+1) aGl)
 .try dsimp only
  unfold Db;refine aw (ax (show ¬((N.length+1:Nat):Int)<=(((N.map cK).length:Nat):Int) by rw[aR];omega)) ?_;rfl
def nt{α:Type}(n:aZ)(r:α):Int×io×List ag.T×io×io×io×List aj.T×List ag.T×α:=(n.vars,n.bz,n.aB.map cY,n.bN,n.bO,n.constraints,n.aa.map aF,n.al.map cW,r)
abbrev W4:=io×List ae.T×io×io×Unit
def w4(of:io)(nd:List bG)(m lv:io):W4:=(of,nd.map fh,m,lv,())
def jW(k:Nat):List bG:=(List.range k).map fun i=>⟨false,0,i⟩
theorem UT(k:Nat):jW (k+1)=jW k++[⟨false,0,k⟩]:=by unfold jW;rw[aFj,dE];rfl
theorem uJ(k:Nat):(jW k).length=k:=by simp[jW]
theorem arq(n:aZ)(of m lv:io)(hA:n.al.length<=2000):Du ((n.al.length:Int),(0:Int),nt n (nt n (w4 of [] m lv)))=some (nt n (nt n (w4 of (jW n.al.length) m lv))):=by
 unfold Du;delta vi eC eJ fe;refine uW (fun k:Nat=>((n.al.length:Int),(k:Int),nt n (nt n (w4 of (jW k) m lv)))) n.al.length ?_ ?_ NN aGp
 .intro k hk;unfold nt w4
  try dsimp only
  unfold DA;refine aD aGs (au (uP (L:=(jW k).map fh) (by rw[aR,uJ];omega) aGo) ?_);rw[cT (x:=(k:Int)+1) aGl,UT,dE];rfl
 .unfold nt w4
  try dsimp only
  unfold DA;rw[dF aGr];rfl
def mI(j k:Nat):List bG:=(List.range k).map fun i=>⟨true,j,i⟩
theorem Vw(j k:Nat):mI j (k+1)=mI j k++[⟨true,j,k⟩]:=by unfold mI;rw[aFj,dE];rfl
theorem NA(j k:Nat):(mI j k).length=k:=by simp[mI]
theorem aif(n:aZ)(of m lv:io)(j M R:Nat)(pre:List bG)(hj:j<=4)(hM:M<=4)(hR:R<=4)(hp:pre.length<=3000) :
  Dn ((j:Int),(M:Int),(j:Int),(R:Int),(0:Int),nt n (nt n (w4 of pre m lv)))=some ((M:Int),(j:Int),nt n (nt n (w4 of (pre++mI j R) m lv))):=by
 unfold Dn;delta yB u1 eJ fe;refine fE (fun k:Nat=>((j:Int),(M:Int),(j:Int),(R:Int),(k:Int),nt n (nt n (w4 (of) (pre++mI j k) m lv)))) R (by rw[show mI j 0=[]from rfl,dJ];rfl) ?_ ?_ aGp
 .intro k hk;unfold nt w4
  try dsimp only
  unfold Dx;refine aD aGs (au (uP (L:=(pre++mI j k).map fh) (by rw[aR,aO,NA];omega) aGo) ?_);rw[cT (x:=(k:Int)+1) aGl,Vw,<-bV,List.map_append (l₁:=pre++mI j k)];rfl
 .unfold nt w4
  try dsimp only
  unfold Dx;rw[dF aGr];rfl
theorem NC(k:Nat):∀(l:List cS) (m:cS),iF k (l++[m])=iF k l++Pl.iG (k+l.length) m
 |[],m=>by simp[iF]|x::l,m=>by rw[ST,iF,iF,NC (k+1) l m,bV,cF,show k+1+l.length=k+(l.length+1) by omega]
theorem ars(n:aZ)(of m lv:io)(hA:n.al.length<=2000)(hM:n.aa.length<=4)(hR:∀M∈n.aa,M.reads.length<=4) :
  Ds ((n.aa.length:Int),(0:Int),nt n (nt n (w4 of (jW n.al.length) m lv)))=some (nt n (w4 of (dS n) m lv)):=by
 have hlen:∀k,k<=n.aa.length->(jW n.al.length++iF 0 (n.aa.take k)).length<=3000:=by
  intro k hk;rw[aO,uJ,uF];have:=GK jm (n.aa.take k) 4 (fun M hM=>by unfold jm;rw[aR];exact hR M (arm hM));have h2:(n.aa.take k).length<=4:=by rw[fD];omega
  omega
 unfold Ds;delta vi eC eJ fe;refine fE (fun k:Nat=>((n.aa.length:Int),(k:Int),nt n (nt n (w4 of (jW n.al.length++iF 0 (n.aa.take k)) m lv)))) n.aa.length (by rw[are,show iF 0 []=[]from rfl,dJ];rfl) ?_ ?_ aGp
 .intro k hk;have hMk:=bF hk;have hMk':(n.aa.map aF)[k]?=some (aF n.aa[k]):=by rw[dO,hMk];rfl
  have hrk:=hR _ (EQ hk);unfold nt w4
  try dsimp only
  unfold Dz;rw[fi aGs,dT (bC ⟨aGl,by rw[aR];omega⟩),bP hMk'];have e:=aif n of m lv k n.aa.length n.aa[k].reads.length _ aGl hM hrk (hlen k aGl);have hl:List.length (aF n.aa[k]).2.2.2.1=n.aa[k].reads.length:=aR _;rw[hl];refine(cM e).trans ?_;have e2:jW n.al.length++iF 0 (n.aa.take (k+1))=jW n.al.length++iF 0 (n.aa.take k)++mI k n.aa[k].reads.length:=by rw[dY hMk,NC,bV,fD,aGd aGl,aFm];rfl
  rw[e2];have hw:=cT (x:=(k:Int)+1) aGl;show some (Sum.inl (_,ol ((k:Int)+1),_))=_;rw[hw];rfl
 .unfold nt w4
  try dsimp only
  unfold Dz;rw[dF aGr,gb];rfl
theorem aii(n:aZ)(V:Nat)(of m lv vs:io)(nd:List bG)(a b:Int)(k:Nat)(hk:k<=3000)(hln:vs.length<=100000)(hvs:∀v∈vs,0<=v/\v<=(V:Int))(hof:of.length=V+1) :
  Dm ((k:Int),a,b,vs,(vs.length:Int),(0:Int),nt n (w4 of nd m lv))=some (a,b,nt n (w4 (cG of (vs.map Int.toNat) ((k:Int)+1)) nd m lv)):=by
 unfold Dm;delta EF u6 eJ fe;refine fE (fun j:Nat=>((k:Int),a,b,vs,(vs.length:Int),(j:Int),nt n (w4 (cG of ((vs.take j).map Int.toNat) ((k:Int)+1)) nd m lv))) vs.length rfl ?_ ?_ aGp
 .intro j hj;have hv:=bF hj;obtain⟨h0,h1⟩:=hvs _ (EQ hj);obtain⟨v,hv2⟩:=Fd h0;rw[hv2]at hv h1;unfold nt w4
  try dsimp only
  unfold Dv;rw[fi aGs,dT aGq,bP (σ:=.I) hv,dT (bC ⟨aGl,by rw[lz,hof];omega⟩),cT (x:=(j:Int)+1) aGl,cT (x:=(k:Int)+1) aGl];rw[dY hv,dE,IS,aFi,xQ];rfl
 .unfold nt w4
  try dsimp only
  unfold Dv;rw[dF aGr,gb];rfl
theorem aih{n:aZ}{V:Nat}(hs:dx n V)(ft:Fit n)(m lv:io):Dq (((dS n).length:Int),(0:Int),nt n (w4 (List.replicate (V+1) 0) (dS n) m lv))=some (wk n V m lv):=by
 have hnl:=yi hs;have hV2:=hs.v2;have hnl2:(dS n).length=(bh n).length:=by rw[Zuw];unfold bh;rw[aR]
 have hmw:∀M∈n.aa,0<=M.word:=fun M hM=>by have:=hs.aa M hM;omega
 unfold Dq;delta mK u2 eJ fe;refine fE (fun k:Nat=>(((dS n).length:Int),(k:Int),nt n (w4 (fH (bh n) V k) (dS n) m lv))) (dS n).length rfl ?_ ?_ aGp
 .intro k hk;have hxd:=bF hk;obtain⟨y,hy1,hy2⟩:=Hq n hxd;have hy:=ep hy1;have hx:(bh n)[k]?=some y.nd:=by rw[Hw,hy1];rfl
  have hxd':((dS n).map fh)[k]?=some (fh (dS n)[k]):=by rw[dO,hxd];rfl
  have hvs:∀u∈y.to,0<=u/\u<=(V:Int):=fun u hu=>by have:=hs.qn hy hu;omega
  have hlens:=DV hs hy;have e1:=Uu (of:=fH (bh n) V k) (m:=m) (lv:=lv) (nd:=dS n) hy2 ft hmw;have e2:=aii n V (fH (bh n) V k) m lv y.to (dS n) ((dS n).length:Int) (k:Int) k aGl aGl hvs (DN _ _ _);unfold nt w4
  try dsimp only
  unfold Dw;refine aD aGs (au (bC ⟨aGl,by rw[aR];omega⟩) ?_);rw[bP hxd'];refine aT e1 (aT e2 ?_);rw[VE hx];have hw:=cT (x:=(k:Int)+1) aGl;show some (Sum.inl (_,ol ((k:Int)+1),_))=_;rw[hw];rfl
 .unfold nt w4
  try dsimp only
  unfold Dw;rw[dF aGr,hnl2];rfl
theorem Zf{n:aZ}{V:Nat}(hs:dx n V)(ft:Fit n):Zo9 (nt n ())=some (wk n V (List.replicate (V+1) 0) (List.replicate (V+1) 0)):=by
 have hV2:=hs.v2;have hvars:=hs.vars;have e3:=arq n (List.replicate (V+1) 0) (List.replicate (V+1) 0) (List.replicate (V+1) 0) hs.lens.2.2.1;have e8:=ars n (List.replicate (V+1) 0) (List.replicate (V+1) 0) (List.replicate (V+1) 0) hs.lens.2.2.1 hs.lens.2.2.2.2 (fun M hM=>(hs.aa M hM).2.2.2.2.2.2.1);have e17:=aih hs ft (List.replicate (V+1) 0) (List.replicate (V+1) 0);have hw:ol (n.vars+1)=((V+1:Nat):Int):=by rw[hvars,cT aGl];omega
 show MY xB Du Ds Dn Dq Dm n.vars n.bz (n.aB.map cY) n.bN n.bO n.constraints (n.aa.map aF) (n.al.map cW)=_;unfold MY;rw[hw];have hc:∀k:Int,0<=k->k<=8->both (decide ((0:Int)<=((V+1:Nat):Int))) (both (decide (((V+1:Nat):Int)<=((V+1:Nat):Int))) (decide (k*((V+1:Nat):Int)<=281474976710656)))=true:=by intro k h0 h8;rw[iU aGl,iU aGl,iU (by have:k*((V+1:Nat):Int)<=8*((V+1:Nat):Int):=Int.mul_le_mul_of_nonneg_right h8 aGl;omega)];rfl
 have e3':Du (((List.map cW n.al).length:Int),(0:Int),nt n (nt n (w4 (List.replicate (V+1) 0) [] (List.replicate (V+1) 0) (List.replicate (V+1) 0))))=some (nt n (nt n (w4 (List.replicate (V+1) 0) (jW n.al.length) (List.replicate (V+1) 0) (List.replicate (V+1) 0)))):=by rw[aR];exact e3
 have e8':Ds (((List.map aF n.aa).length:Int),(0:Int),nt n (nt n (w4 (List.replicate (V+1) 0) (jW n.al.length) (List.replicate (V+1) 0) (List.replicate (V+1) 0))))=some (nt n (w4 (List.replicate (V+1) 0) (dS n) (List.replicate (V+1) 0) (List.replicate (V+1) 0))):=by rw[aR];exact e8
 have e17':Dq (((List.map fh (dS n)).length:Int),(0:Int),nt n (w4 (List.replicate (V+1) 0) (dS n) (List.replicate (V+1) 0) (List.replicate (V+1) 0)))=some (wk n V (List.replicate (V+1) 0) (List.replicate (V+1) 0)):=by grind
 exact au (hc 8 aGo aGo) (au (hc 1 aGo aGo) (au (hc 8 aGo aGo) (aT e3' (aT e8' (aT e17' rfl)))))
theorem ae4{V:Nat}{m:io}(h:V<=2000):fresh V m<NN:=by
 have z:∀(p:Nat->Bool) k,zc p k<=k:=by
  intro p k
  induction k with|zero=>exact pi _|succ k ih=>rw[zc];split<;>omega
 have:fresh V m<=V+1:=z _ _;exact aGp
theorem Qk{n:aZ}{V:Nat}(hs:dx n V)(ft:Fit n) :
  ∃m lv,Zhj (wk n V (List.replicate (V+1) 0) (List.replicate (V+1) 0))=some (gN (bh n) V,wk n V m lv) /\
   (gN (bh n) V=true->lv.length=V+1/\∀v,v<=V->∃k:Nat,aC lv v=(k:Int)/\cN (bh n) v k):=by
 have hV2:=hs.v2;have hL:=nY (B:=fun d=>MT Me d.1 d.2.1 d.2.2.1 d.2.2.2.1 d.2.2.2.2.1 d.2.2.2.2.2.1 d.2.2.2.2.2.2.1 d.2.2.2.2.2.2.2.1 d.2.2.2.2.2.2.2.2.1 d.2.2.2.2.2.2.2.2.2.1 d.2.2.2.2.2.2.2.2.2.2.1 d.2.2.2.2.2.2.2.2.2.2.2.1 d.2.2.2.2.2.2.2.2.2.2.2.2.1 d.2.2.2.2.2.2.2.2.2.2.2.2.2.1)
  (I:=fun d:Int×Int×WT=>∃(k:Nat) (m lv:io),d=(((V+1:Nat):Int),(k:Int),wk n V m lv)/\k<=V+1/\VI (bh n) V m lv/\(∀u,u<=V->aC m u≠1)/\(∀u,u<k->tl (bh n) m u))
  (Q:=fun o:Out C8=>(∃m lv,o=.inl (false,wk n V m lv)/\∃u,u<=V/\∀k,¬cN (bh n) u k)\/(∃m lv,o=.inr (wk n V m lv)/\VI (bh n) V m lv/\∀u,u<V+1->tl (bh n) m u))
  (μ:=fun d=>V+1-d.2.1.toNat) ?_ NN (((V+1:Nat):Int),(0:Int),wk n V (List.replicate (V+1) 0) (List.replicate (V+1) 0)) ⟨0,_,_,rfl,aGl,vi0,fun u hu=>by unfold aC;rw[fq,aFG];split<;>simp,fun u h=>aGl⟩ aGp
 .obtain⟨o,ho,hcase⟩:=hL;have hlen:((List.length (fH (bh n) V (bh n).length):Nat):Int)=((V+1:Nat):Int):=by rw[DN]
  have ho':Zhi (((List.length (fH (bh n) V (bh n).length):Nat):Int),(0:Int),wk n V (List.replicate (V+1) 0) (List.replicate (V+1) 0))=some o:=by rw[hlen];exact ho
  rcases hcase with⟨m,lv,rfl,u,hu,hno⟩|⟨m,lv,rfl,hI,hT⟩
  .have hf:gN (bh n) V=false:=by
    cases h:gN (bh n) V
    .rfl
    .obtain⟨kk,hkk⟩:=(Ak hs.apart V).1 h u hu;exact absurd hkk (hno kk)
   rw[hf];exact⟨m,lv,aT ho' rfl,fun h=>by cases h⟩
  .have hl:∀v,v<=V->∃k:Nat,aC lv v=(k:Int)/\cN (bh n) v k:=fun v hv=>Ar hI hv (hT v aGl);have ht:gN (bh n) V=true:=(Ak hs.apart V).2 fun v hv=>by obtain⟨k,_,h⟩:=hl v hv;exact⟨k,h⟩
   rw[ht];exact⟨m,lv,aT ho' rfl,fun _=>⟨hI.ll,hl⟩⟩
 .rintro _ ⟨k,m,lv,rfl,hk,hI,hU,hT⟩;by_cases hlt:k<V+1
  .obtain⟨b,m2,lv2,e,hp⟩:=afI hs ft NN m lv k hI (fun u hu h=>absurd h (hU u hu)) aGl (ae4 hV2);have e':Me ((k:Int),wk n V m lv)=some (b,wk n V m2 lv2):=e;rcases hp with⟨rfl,hI7,hE7,ht7⟩|⟨rfl,u',hu',hno⟩
   .right;refine⟨_,aD (aA (show(k:Int)<((V+1:Nat):Int) by omega)) (aT e' (aw rfl rfl)),⟨k+1,m2,lv2,?_,aGl,hI7,fun u hu h=>hU u hu (hE7.b u hu h),fun u hu=>?_⟩,?_⟩
    .have e2:∀a a':Int,a=a'->(((V+1:Nat):Int),a,wk n V m2 lv2)=(((V+1:Nat):Int),a',wk n V m2 lv2):=by rintro _ _ rfl;rfl
     exact e2 _ _ (cT (x:=(k:Int)+1) aGl)
    .by_cases e:u=k
     .subst e;exact ht7
     .exact(G5 hI hI7 hE7 aGl (hT u aGl)).1
    .show V+1-(ol ((k:Int)+1)).toNat<V+1-(k:Int).toNat;rw[cT (x:=(k:Int)+1) aGl];omega
   .left;exact⟨_,aD (aA (show(k:Int)<((V+1:Nat):Int) by omega)) (aT e' (aD rfl rfl)),.inl ⟨m2,lv2,rfl,u',hu',hno⟩⟩
  .left;exact⟨_,aw (ax (show ¬(k:Int)<((V+1:Nat):Int) by omega)) rfl,.inr ⟨m,lv,rfl,hI,fun u hu=>hT u aGl⟩⟩
theorem Zq6{n:aZ}(ft:Fit n):Zfn (bX n,())=some (iN n,()):=by
 have es:qJ (bX n,())=some (fx n,()):=by unfold qJ;rw[show kI ((bX n,()):TL [bD]).1=n from nD n,Vo ft];rfl
 by_cases h0:fx n=0
 .obtain⟨V,hs⟩:=Ht h0;have hV:n.vars.toNat=V:=by rw[hs.vars];rfl
  obtain⟨m,lv,ea,_⟩:=Qk hs ft;have ew:=Zf hs ft;cases hc:gN (bh n) V
  .have et:xL (nt n ())=aGt ((8:Int),()):=by refine aT es (aw (by rw[h0];rfl) (aT ew (aT ea (aD (by rw[hc];rfl) rfl))))
   refine(aT et rfl).trans ?_;unfold iN;rw[h0,hV,hc];rfl
  .have et:xL (nt n ())=aGu ((0:Int),wk n V m lv):=by refine aT es (aw (by rw[h0];rfl) (aT ew (aT ea (aw (by rw[hc];rfl) rfl))))
   refine(aT et rfl).trans ?_;unfold iN;rw[h0,hV,hc];rfl
 .have et:xL (nt n ())=aGt (fx n,()):=by refine aT es (aD (by simp[h0]) rfl)
  refine(aT et rfl).trans ?_;unfold iN;rw[BY h0];rfl
set_option maxRecDepth 10000
variable{α:Type}
theorem rH{D O:Type}{B:D->Option (D⊕O)}(f:Nat->D)(L:List α)(q:α->Bool){bad good:O}(hs:∀i x,L[i]?=some x->q x=false->B (f i)=aGt (f (i+1)))(hf:∀i x,L[i]?=some x->q x=true->B (f i)=aGu bad)
  (he:B (f L.length)=aGu good) {d:D}(hd:d=f 0) {N:Nat}(hN:L.length<N):bu B N d=some (if L.any q then bad else good):=by
 subst hd;have main:∀k i,i+k=L.length->∀N,k<N->bu B N (f i)=some (if(L.drop i).any q then bad else good):=by
  intro k
  induction k with
  |zero=>intro i hi N hN;obtain⟨N,rfl⟩:∃M,N=M+1:=⟨N-1,aGl⟩;rw[ask aGl,show i=L.length by omega];simp only[bu,he,List.any_nil,GE,aFk]
  |succ k ih=>
   intro i hi N hN;obtain⟨N,rfl⟩:∃M,N=M+1:=⟨N-1,aGl⟩;have hx:=bF (show i<L.length by omega);rw[aiT (show i<L.length by omega),List.any_cons];cases hq:q L[i]with
   |true=>simp only[bu,hf i _ hx hq,Bool.true_or,aFx]|false=>
    simp only[bu,hs i _ hx hq,aGa]
    grind
 grind
theorem Q4{L:Nat}(h:L<=10000000):room 8 L=true:=tW aGl aGl
abbrev jD{α:Type}(m:cS)(r:α):=(m.addr,m.word,m.any,m.reads.map cI,m.writes.map dy,r)
variable{x:α}{β:Type}{L:List α}
theorem j4(f:α->β)(h:L[i]?=some x):(L.map f)[i]?=some (f x):=by grind
theorem fY(f:α->β)(h:L[i]?=some x):ar (i:Int) (List.length (L.map f))=true:=bC ⟨aGl,by grind⟩
theorem map_lt(f:α->β)(h:L[i]?=some x):iL (i:Int) (Int.ofNat (List.length (L.map f)))=true:=by grind
theorem nP(f:α->β)(L:List α):iL (L.length:Int) (Int.ofNat (List.length (L.map f)))=false:=by grind
theorem Q5(b:Bool):bH false true b=b:=by cases b<;>rfl
variable{m:cS}
theorem P6(hm:qt m):Ff (aF m,())=some (ie m,()):=by
 have h1:=hm.mJ;have h2:=hm.qg;have e4:Fg ((0:Int),jD m ())=some (if m.reads.any (lY m)then .inl (true,())else .inr (jD m ())):=by
  unfold Fg;delta u6;refine rH (fun i:Nat=>((i:Int),jD m ())) m.reads (lY m) (fun i x hx q=>?_) (fun i x hx q=>?_) ?_ rfl aGp
  .try dsimp only
   unfold zt;have hl:=(AC.1 hx).1;rw[bP (σ:=bW) (j4 cI hx)];have q':Bool.not (iQ (Int.ofNat (List.length (cI x).2.1)) m.addr)=false:=q;have e:∀p q:Int,p=q->(aGt (p,jD m ()):am zm zi)=aGt (q,jD m ()):=by rintro _ _ rfl;rfl
   exact aD (map_lt cI hx) (au (fY cI hx) (aw q' (e _ _ (cT (x:=(i:Int)+1) aGl))))
  .try dsimp only
   unfold zt;rw[bP (σ:=bW) (j4 cI hx)];have q':Bool.not (iQ (Int.ofNat (List.length (cI x).2.1)) m.addr)=true:=q;exact aD (map_lt cI hx) (au (fY cI hx) (aD q' rfl))
  .exact aw (nP cI m.reads) rfl
 have e9:Fh ((0:Int),jD m ())=some (if m.writes.any (kZ m)then .inl (true,())else .inr ()):=by
  unfold Fh;delta u6;refine rH (fun i:Nat=>((i:Int),jD m ())) m.writes (kZ m) (fun i x hx q=>?_) (fun i x hx q=>?_) ?_ rfl aGp
  .try dsimp only
   unfold zu;have hl:=(AC.1 hx).1;rw[bP (σ:=bA) (j4 dy hx)];unfold kZ at q;rw[aFA]at q;have q1:Bool.not (iQ (Int.ofNat (List.length (dy x).2.1)) m.addr)=false:=q.1;have q2:bH false true (Bool.not (iQ (Int.ofNat (List.length (dy x).2.2.1)) m.word))=false:=(Q5 _).trans q.2;have e:∀p q:Int,p=q->(aGt (p,jD m ()):am zn zj)=aGt (q,jD m ()):=by rintro _ _ rfl;rfl
   exact aD (map_lt dy hx) (au (fY dy hx) (aw q1 (au (fY dy hx) (aw q2 (e _ _ (cT (x:=(i:Int)+1) aGl))))))
  .try dsimp only
   unfold zu;rw[bP (σ:=bA) (j4 dy hx)];unfold kZ at q;cases q1:((x.addr.length:Int) != m.addr)with|true=>exact aD (map_lt dy hx) (au (fY dy hx) (aD (show Bool.not (iQ (Int.ofNat (List.length (dy x).2.1)) m.addr)=true from q1) rfl))|false=>rw[q1,aGa]at q;exact aD (map_lt dy hx) (au (fY dy hx) (aw (show Bool.not (iQ (Int.ofNat (List.length (dy x).2.1)) m.addr)=false from q1) (au (fY dy hx) (aD (show bH false true (Bool.not (iQ (Int.ofNat (List.length (dy x).2.2.1)) m.word))=true from(Q5 _).trans q) rfl))))
  .exact aw (nP dy m.writes) rfl
 show Fj Fg Fh (aF m)=_;unfold Fj ie;by_cases c1:m.addr<1
 .rw[iU (.inl c1)];exact(fi (aA c1)).trans rfl
 refine(dF (ax c1)).trans ?_;by_cases c2:62<m.addr
 .rw[iU (.inr (.inl c2))];exact(fi (show bH false true (iL (62:Int) m.addr)=true from aA c2)).trans rfl
 refine(dF (show bH false true (iL (62:Int) m.addr)=false from ax c2)).trans ?_;by_cases c3:m.word<1
 .rw[iU (.inr (.inr (.inl c3)))];exact(fi (show bH false true (iL m.word (1:Int))=true from aA c3)).trans rfl
 refine(dF (show bH false true (iL m.word (1:Int))=false from ax c3)).trans ?_;by_cases c4:64<m.word
 .rw[iU (.inr (.inr (.inr c4)))];exact(fi (show bH false true (iL (64:Int) m.word)=true from aA c4)).trans rfl
 refine(dF (show bH false true (iL (64:Int) m.word)=false from ax c4)).trans ((cM e4).trans ?_);rw[jG (fun h=>aGl),aGa];cases m.reads.any (lY m)with|true=>rfl|false=>refine(cM e9).trans ?_;cases m.writes.any (kZ m)<;>rfl
section
variable{n:aZ}(ft:Fit n)
include ft
theorem aet:Po (bX n,())=some (iK n,()):=by
 have hm:=ft.aa.1;have e4:E7 ((0:Int),nt n ())=some (if n.aa.any iM then .inl (true,())else .inr (nt n ())):=by
  unfold E7;delta u9;refine rH (fun i:Nat=>((i:Int),nt n ())) n.aa iM (fun i x hx q=>?_) (fun i x hx q=>?_) ?_ rfl aGp
  .unfold nt
   try dsimp only
   unfold zl;have hl:=(AC.1 hx).1;rw[bP (σ:=aj) (j4 aF hx)];unfold iM at q;have q:=aEU q;have e:∀p q:Int,p=q->(aGt (p,nt n ()):am zd yY)=aGt (q,nt n ()):=by rintro _ _ rfl;rfl
   have q1:iL (4:Int) (Int.ofNat (List.length (x.reads.map cI)))=false:=ax (by show ¬(4:Int)<((x.reads.map cI).length:Int);rw[aR];omega);have q2:bH false true (iL (4:Int) (Int.ofNat (List.length (x.writes.map dy))))=false:=ax (by show ¬(4:Int)<((x.writes.map dy).length:Int);rw[aR];omega);exact aD (map_lt aF hx) (au (fY aF hx) (aw q1 (au (fY aF hx) (aw q2 (e _ _ (cT (x:=(i:Int)+1) aGl))))))
  .unfold nt
   try dsimp only
   unfold zl;rw[bP (σ:=aj) (j4 aF hx)];unfold iM at q;have q:=Pi q;by_cases c:4<x.reads.length
   .have q1:iL (4:Int) (Int.ofNat (List.length (x.reads.map cI)))=true:=aA (by show(4:Int)<((x.reads.map cI).length:Int);rw[aR];omega);exact aD (map_lt aF hx) (au (fY aF hx) (aD q1 rfl))
   .have q1:iL (4:Int) (Int.ofNat (List.length (x.reads.map cI)))=false:=ax (by show ¬(4:Int)<((x.reads.map cI).length:Int);rw[aR];omega);have q2:bH false true (iL (4:Int) (Int.ofNat (List.length (x.writes.map dy))))=true:=aA (by show(4:Int)<((x.writes.map dy).length:Int);rw[aR];omega);exact aD (map_lt aF hx) (au (fY aF hx) (aw q1 (au (fY aF hx) (aD q2 rfl))))
  .exact aw (nP aF n.aa) rfl
 have h1:=ft.out.1;have h2:=ft.bad.1;have h3:=ft.nH.1;have w1:ol ((Int.ofNat (List.length n.bN))+(Int.ofNat (List.length n.bO)))=((n.bN.length+n.bO.length:Nat):Int):=(cT (x:=(n.bN.length:Int)+(n.bO.length:Int)) aGl).trans aGl;have w2:ol ((ol ((Int.ofNat (List.length n.bN))+(Int.ofNat (List.length n.bO))))+(Int.ofNat (List.length n.constraints)))=((n.bN.length+n.bO.length+n.constraints.length:Nat):Int):=by rw[w1];exact(cT (x:=((n.bN.length+n.bO.length:Nat):Int)+(n.constraints.length:Int)) aGl).trans aGl
 show Fc E7 (bX n)=_;unfold Fc;have key:∀b:Bool,b=iK n->(some (b,()):Option (TL vl))=some (iK n,()):=by rintro _ rfl;rfl
 have yes:iK n=true->(some (true,()):Option (TL vl))=some (iK n,()):=fun h=>by rw[h];rfl
 have hp:iK n=true↔(n.vars<0\/2000<n.vars\/2000<n.bz.length\/2000<n.aB.length\/2000<n.al.length\/1000<n.bN.length+n.bO.length+n.constraints.length\/4<n.aa.length\/n.aa.any iM=true):=by unfold iK;simp only[Bool.or_eq_true,In,or_assoc]
 by_cases c1:n.vars<0
 .exact(fi (aA c1)).trans (yes (hp.2 aGl))
 refine(dF (ax c1)).trans ?_;by_cases c2:2000<n.vars
 .exact(fi (show bH false true (iL (2000:Int) n.vars)=true from aA c2)).trans (yes (hp.2 aGl))
 refine(dF (show bH false true (iL (2000:Int) n.vars)=false from ax c2)).trans ?_;by_cases c3:1000<n.bN.length+n.bO.length+n.constraints.length
 .exact(fi (show bH false true (iL (1000:Int) (ol ((ol ((Int.ofNat (List.length n.bN))+(Int.ofNat (List.length n.bO))))+(Int.ofNat (List.length n.constraints)))))=true by rw[w2];exact aGs)).trans (yes (hp.2 aGl))
 refine(dF (show bH false true (iL (1000:Int) (ol ((ol ((Int.ofNat (List.length n.bN))+(Int.ofNat (List.length n.bO))))+(Int.ofNat (List.length n.constraints)))))=false by rw[w2];exact aGr)).trans ?_;have lm:(Int.ofNat (List.length (n.aa.map aF)))=(n.aa.length:Int):=by show((n.aa.map aF).length:Int)=_;rw[aR]
 have ll:(Int.ofNat (List.length (n.aB.map cY)))=(n.aB.length:Int):=by show((n.aB.map cY).length:Int)=_;rw[aR]
 have la:(Int.ofNat (List.length (n.al.map cW)))=(n.al.length:Int):=by show((n.al.map cW).length:Int)=_;rw[aR]
 by_cases c4:4<n.aa.length
 .exact(fi (show bH false true (iL (4:Int) (Int.ofNat (List.length (n.aa.map aF))))=true by rw[lm];exact aGs)).trans (yes (hp.2 aGl))
 refine(dF (show bH false true (iL (4:Int) (Int.ofNat (List.length (n.aa.map aF))))=false by rw[lm];exact aGr)).trans ((cM e4).trans ?_);cases c5:n.aa.any iM with
 |true=>exact yes (hp.2 (.inr (.inr (.inr (.inr (.inr (.inr (.inr c5))))))))|false=>
  have c5':¬n.aa.any iM=true:=by rw[c5];decide
  show br (iL (2000:Int) (Int.ofNat (List.length n.bz))) _ (br (bH false true (iL (2000:Int) (Int.ofNat (List.length (n.aB.map cY))))) _ (some (bH false true (iL (2000:Int) (Int.ofNat (List.length (n.al.map cW)))),())))=_;rw[ll,la];by_cases c6:2000<n.bz.length
  .exact(fi (aA (show(2000:Int)<(n.bz.length:Int) by omega))).trans (yes (hp.2 aGl))
  refine(dF (ax (show ¬(2000:Int)<(n.bz.length:Int) by omega))).trans ?_;by_cases c7:2000<n.aB.length
  .exact(fi (show bH false true (iL (2000:Int) (n.aB.length:Int))=true from aGs)).trans (yes (hp.2 aGl))
  refine(dF (show bH false true (iL (2000:Int) (n.aB.length:Int))=false from aGr)).trans (key _ ?_);by_cases c8:2000<n.al.length
  .rw[hp.2 aGl];exact aGs
  .rw[show bH false true (iL (2000:Int) (n.al.length:Int))=false from aGr];cases q:iK n with
   |false=>rfl|true=>
    rcases hp.1 q with h|h|h|h|h|h|h|h
    .omega
    .omega
    .omega
    .omega
    .omega
    .omega
    .omega
    .exact absurd h c5'
end
theorem mg{x:Int}{n:Nat}(e:x=(n:Int))(h:n<=1000000000):ol x=(n:Int):=by rw[e];exact cT aGl
structure FJ(n:aZ):Prop where
 ins:n.bz.length<=4000
 aC:n.aB.length<=4000
 al:n.al.length<=4000
 aa:n.aa.length<=100
 mem:∀m∈n.aa,(1<=m.word/\m.word<=64)/\m.reads.length<=100/\∀r∈m.reads,-1099511627776<=r.var/\r.var<=1099511627776
section
variable{n:aZ}(K:FJ n)
include K
theorem ais(A:io)(hA:A.length<=10000):O4 ((0:Int),nt n (A,()))=some (nt n ((A++n.aB.map (·.var)),())):=by
 have hl:=K.aC;unfold O4;delta eC;have hL:(n.aB.map cY).length=n.aB.length:=aR _;refine fE (fun k:Nat=>((k:Int),nt n ((A++(n.aB.take k).map (·.var)),()))) n.aB.length (by rw[are,aFi,dJ];rfl) ?_ ?_ aGp
 .intro k hk;have hx:=bF hk;have hx':(n.aB.map cY)[k]?=some (cY n.aB[k]):=by grind
  have g:gt ag (n.aB.map cY) (k:Int)=cY n.aB[k]:=bP (σ:=ag) hx';have e:∀(a b:io) (p q:Int),a=b->p=q->(aGt (p,nt n (a,())):am yV yR)=aGt (q,nt n (b,())):=by intros;subst_vars;rfl
  have ht:(A++(n.aB.take k).map (·.var))++([(gt ag (n.aB.map cY) (k:Int)).1]:io)=A++(n.aB.take (k+1)).map (·.var):=by rw[g,Pl.dY hx,dE,<-bV];rfl
  have hroom:=uP (a:=8) (L:=A++(n.aB.take k).map (·.var)) (x:=(gt ag (n.aB.map cY) (k:Int)).1) (by grind) aGl;exact aD (aA (show(k:Int)<((n.aB.map cY).length:Int) by omega)) (au (show ar (k:Int) (List.length (n.aB.map cY))=true from aGq) (au hroom (e _ _ _ _ ht (mg (show(k:Int)+1=((k+1:Nat):Int) by omega) aGl))))
 .rw[gb];exact aw (ax (show ¬(n.aB.length:Int)<((n.aB.map cY).length:Int) by omega)) rfl
theorem ag9{j:Nat}(hm:n.aa[j]?=some m)(A:io)(hA:A.length<=5000000):EV ((j:Int),(0:Int),nt n (A,()))=some ((j:Int),nt n ((A++gA m),())):=by
 have hj:=(AC.1 hm).1;have hmm:=ep hm;obtain⟨⟨m3,m4⟩,m7,m5⟩:=K.mem m hmm;unfold EV;delta nN;have hL:((n.aa.map aF).length:Int)=(n.aa.length:Int):=by rw[aR]
 have hxm:(n.aa.map aF)[j]?=some (aF m):=by rw[dO,hm];rfl
 have gm:gt aj (n.aa.map aF) (j:Int)=aF m:=bP (σ:=aj) hxm;have aU:ar (j:Int) (List.length (n.aa.map aF))=true:=aGq;have hR:(m.reads.map cI).length=m.reads.length:=aR _;refine fE (fun k:Nat=>((j:Int),(k:Int),nt n ((A++(m.reads.take k).flatMap fun r=>cQ r.var m.word.toNat),()))) m.reads.length (by rw[are,aER,dJ];rfl) ?_ ?_ aGp
 .intro k hk;have hx:=bF hk;have hr:=EQ hk;have r1:=m5 _ hr;have ed:=PU m k m.reads[k] hx aGl r1;have e:∀(a b:io) (p q:Int),a=b->p=q->(aGt ((j:Int),p,nt n (a,())):am yP yH)=aGt ((j:Int),q,nt n (b,())):=by rintro _ _ _ _ rfl rfl;rfl
  have ht:(A++(m.reads.take k).flatMap fun r=>cQ r.var m.word.toNat)++cQ m.reads[k].var m.word.toNat=A++(m.reads.take (k+1)).flatMap fun r=>cQ r.var m.word.toNat:=by rw[Pl.dY hx,Ne,<-bV,aEV]
  have hd:∀r:gr,(cQ r.var m.word.toNat).length<=64:=fun r=>by unfold cQ;rw[aR,aFp];omega
  have hb:=fT (fun r:gr=>cQ r.var m.word.toNat) 64 (m.reads.take k) fun r _=>hd r;rw[fD]at hb;have hroom:room 8 (List.length ((A++(m.reads.take k).flatMap fun r=>cQ r.var m.word.toNat)++cQ m.reads[k].var m.word.toNat))=true:=Q4 (by grind);unfold nt
  try dsimp only
  unfold yZ;rw[gm];exact au aU (aD (aA (show(k:Int)<((m.reads.map cI).length:Int) by omega)) (au aU (aT ed (au hroom (e _ _ _ _ ht (mg (show(k:Int)+1=((k+1:Nat):Int) by omega) aGl))))))
 .rw[gb];unfold nt
  try dsimp only
  unfold yZ;rw[gm];exact au aU (aw (ax (show ¬(m.reads.length:Int)<((m.reads.map cI).length:Int) by omega)) rfl)
theorem ait(A:io)(hA:A.length<=10000):O5 ((0:Int),nt n (A,()))=some (nt n ((A++n.aa.flatMap gA),())):=by
 have hl:=K.aa;unfold O5;delta eC;have hL:((n.aa.map aF).length:Int)=(n.aa.length:Int):=by rw[aR]
 refine fE (fun k:Nat=>((k:Int),nt n ((A++(n.aa.take k).flatMap gA),()))) n.aa.length (by rw[are,aER,dJ];rfl) ?_ ?_ aGp
 .intro k hk;have hx:=bF hk;have hb:=fT gA 6400 (n.aa.take k) fun m hm=>by
   obtain⟨⟨m3,m4⟩,m7,m5⟩:=K.mem m (arm hm);have h2:=fT (fun r:gr=>cQ r.var m.word.toNat) 64 m.reads fun r _=>by unfold cQ;grind
   unfold gA;omega
  rw[fD]at hb;have e10:=ag9 K hx (A++(n.aa.take k).flatMap gA) (by rw[aO];omega);have ht:(A++(n.aa.take k).flatMap gA)++gA n.aa[k]=A++(n.aa.take (k+1)).flatMap gA:=by rw[Pl.dY hx,Ne,<-bV,aEV]
  have e:∀(a b:io) (p q:Int),a=b->p=q->(aGt (p,nt n (a,())):am yW yS)=aGt (q,nt n (b,())):=by rintro _ _ _ _ rfl rfl;rfl
  exact aD (aA (show(k:Int)<((n.aa.map aF).length:Int) by omega)) (aT e10 (e _ _ _ _ ht (mg (show(k:Int)+1=((k+1:Nat):Int) by omega) aGl)))
 .rw[gb];exact aw (ax (show ¬(n.aa.length:Int)<((n.aa.map aF).length:Int) by omega)) rfl
theorem aha(A:io)(hA:A.length<=5000000):OP ((0:Int),nt n (A,()))=some ((A++n.al.map (·.var)),()):=by
 have hl:=K.al;unfold OP;delta eC;have hL:(n.al.map cW).length=n.al.length:=aR _;refine fE (fun k:Nat=>((k:Int),nt n ((A++(n.al.take k).map (·.var)),()))) n.al.length (by rw[are,aFi,dJ];rfl) ?_ ?_ aGp
 .intro k hk;have hx:=bF hk;have hx':(n.al.map cW)[k]?=some (cW n.al[k]):=by grind
  have g:gt ag (n.al.map cW) (k:Int)=cW n.al[k]:=bP (σ:=ag) hx';have e:∀(a b:io) (p q:Int),a=b->p=q->(aGt (p,nt n (a,())):am yQ yI)=aGt (q,nt n (b,())):=by intros;subst_vars;rfl
  have ht:(A++(n.al.take k).map (·.var))++([(gt ag (n.al.map cW) (k:Int)).1]:io)=A++(n.al.take (k+1)).map (·.var):=by rw[g,Pl.dY hx,dE,<-bV];rfl
  have hroom:=uP (a:=8) (L:=A++(n.al.take k).map (·.var)) (x:=(gt ag (n.al.map cW) (k:Int)).1) (by grind) aGl;exact aD (aA (show(k:Int)<((n.al.map cW).length:Int) by omega)) (au (show ar (k:Int) (List.length (n.al.map cW))=true from aGq) (au hroom (e _ _ _ _ ht (mg (show(k:Int)+1=((k+1:Nat):Int) by omega) aGl))))
 .rw[gb];exact aw (ax (show ¬(n.al.length:Int)<((n.al.map cW).length:Int) by omega)) rfl
theorem aeU:adL (bX n,())=some (df n,()):=by
 have hl:=K.ins;have hl2:=K.aC;have hb:=fT gA 6400 n.aa fun m hm=>by
  obtain⟨⟨m3,m4⟩,m7,m5⟩:=K.mem m hm;have h2:=fT (fun r:gr=>cQ r.var m.word.toNat) 64 m.reads fun r _=>by unfold cQ;rw[aR,aFp];omega
  unfold gA;omega
 have hl3:=K.aa;have hroom:room 8 (List.length (([]:io)++n.bz))=true:=Q4 (by rw[Nm];omega);exact au hroom (aT (ais K n.bz aGl) (aT (ait K (n.bz++n.aB.map (·.var)) (by rw[aO,aR];omega)) (aT (aha K (n.bz++n.aB.map (·.var)++n.aa.flatMap gA) (by grind)) rfl)))
end
variable{j:Nat}
theorem oY{L:Nat}(h:L<=1000000000):room 8 L=true:=tW aGl aGl
section
variable{n:aZ}(ft:Fit n)
include ft
omit ft in
theorem ahF(j:Int)(mf:qt m)(A:io)(hA:A.length<=200000000):EP (j,(0:Int),nt n (A,jD m ()))=some (j,nt n (A++m.reads.flatMap (·.addr),jD m ())):=by
 have hl:=mf.mJ;unfold EP;delta u16 u4 eJ fe;refine fE (fun k:Nat=>(j,(k:Int),nt n (A++(m.reads.take k).flatMap (·.addr),jD m ()))) m.reads.length (by rw[are,aER,dJ];rfl) ?_ ?_ aGp
 .intro k hk;have hx:=bF hk;have hr:=mf.gC _ (EQ hk);have hb:=fT (fun r:gr=>r.addr) 4000 (m.reads.take k) fun r h=>(mf.gC r (arm h)).1;rw[fD]at hb;have ht:(A++(m.reads.take k).flatMap (·.addr))++m.reads[k].addr=A++(m.reads.take (k+1)).flatMap (·.addr):=by rw[Pl.dY hx,Ne,<-bV,aEV]
  have e:∀(a b:io) (p q:Int),a=b->p=q->(aGt (j,p,nt n (a,jD m ())):am yK yE)=aGt (j,q,nt n (b,jD m ())):=by rintro _ _ _ _ rfl rfl;rfl
  unfold nt
  try dsimp only
  unfold EI;rw[bP (σ:=bW) (j4 cI hx)];exact aD (map_lt cI hx) (au (fY cI hx) (au (show room 8 (List.length ((A++(m.reads.take k).flatMap (·.addr))++m.reads[k].addr))=true from oY (by rw[aO,aO];omega)) (e _ _ _ _ ht (mg (show(k:Int)+1=((k+1:Nat):Int) by omega) aGl))))
 .rw[gb];exact aw (nP cI m.reads) rfl
omit ft in
theorem ahG(j:Int)(mf:qt m)(A:io)(hA:A.length<=300000000):ER (j,(0:Int),nt n (A,jD m ()))=some (j,nt n (A++m.writes.flatMap jT,())):=by
 have hl:=mf.qg;unfold ER;delta u16 u4 eJ fe;refine fE (fun k:Nat=>(j,(k:Int),nt n (A++(m.writes.take k).flatMap jT,jD m ()))) m.writes.length (by rw[are,aER,dJ];rfl) ?_ ?_ aGp
 .intro k hk;have hx:=bF hk;have hr:=mf.nO _ (EQ hk);have hb:=fT jT 8001 (m.writes.take k) fun r h=>by have:=mf.nO r (arm h);unfold jT;rw[cF,aO];omega
  rw[fD]at hb;obtain⟨w,hw⟩:∃w,w=m.writes[k]:=⟨_,rfl⟩;rw[<-hw]at hr hx;obtain⟨P,hP⟩:∃P,P=A++(m.writes.take k).flatMap jT:=⟨_,rfl⟩;have hPl:P.length<=302000000:=by rw[hP,aO];omega
  have ht:((P++[w.on])++w.addr)++w.data=A++(m.writes.take (k+1)).flatMap jT:=by rw[hP,Pl.dY hx,Ne,aEV];unfold jT;simp only[bV,ST,Nm]
  have e:∀(a b:io) (p q:Int),a=b->p=q->(aGt (j,p,nt n (a,jD m ())):am yL yF)=aGt (j,q,nt n (b,jD m ())):=by rintro _ _ _ _ rfl rfl;rfl
  rw[<-hP];unfold nt
  try dsimp only
  unfold EJ;rw[bP (σ:=bA) (j4 dy hx)];have r1:room 8 (List.length (P++[w.on]))=true:=oY (by rw[aO];simp;omega);have r2:room 8 (List.length ((P++[w.on])++w.addr))=true:=oY (by rw[aO,aO];simp;omega);have r3:room 8 (List.length (((P++[w.on])++w.addr)++w.data))=true:=oY (by rw[aO,aO,aO];simp;omega);exact aD (map_lt dy hx) (au (fY dy hx) (au r1 (au r2 (au r3 (e _ _ _ _ ht (mg (show(k:Int)+1=((k+1:Nat):Int) by omega) aGl))))))
 .rw[gb];exact aw (nP dy m.writes) rfl
theorem agp:OT (bX n,())=some (eK n,()):=by
 have l1:=ft.aC.1;have l2:=ft.out.1;have l3:=ft.bad.1;have l4:=ft.nH.1;have l5:=ft.aa.1;have l6:=ft.al.1;have e3:OU ((0:Int),nt n ([],()))=some (nt n (n.aB.map (·.next),())):=by
  unfold OU;delta eC;refine fE (fun k:Nat=>((k:Int),nt n ((n.aB.take k).map (·.next),()))) n.aB.length rfl ?_ ?_ aGp
  .intro k hk;have hx:=bF hk;have ht:(n.aB.take k).map (·.next)++[n.aB[k].next]=(n.aB.take (k+1)).map (·.next):=by rw[Pl.dY hx,dE];rfl
   have e:∀(a b:io) (p q:Int),a=b->p=q->(aGt (p,nt n (a,())):am yT yN)=aGt (q,nt n (b,())):=by rintro _ _ _ _ rfl rfl;rfl
   unfold nt
   try dsimp only
   unfold EX;rw[bP (σ:=ag) (j4 cY hx)];exact aD (map_lt cY hx) (au (fY cY hx) (au (show room 8 (List.length ((n.aB.take k).map (·.next)++[n.aB[k].next]))=true from oY (by rw[aO,aR,fD,List.length_singleton];omega)) (e _ _ _ _ ht (mg (show(k:Int)+1=((k+1:Nat):Int) by omega) aGl))))
  .rw[gb];exact aw (nP cY n.aB) rfl
 obtain⟨A,hA⟩:∃A,A=((n.aB.map (·.next)++n.bN)++n.bO)++n.constraints:=⟨_,rfl⟩;have hAl:A.length<=16000:=by rw[hA];simp only[aO,aR];omega
 have hmem:∀m∈n.aa,(gH m).length<=1300000:=fun m h=>by
  have mf:=ft.aa.2 m h;have a:=fT (fun r:gr=>r.addr) 4000 m.reads fun r h=>(mf.gC r h).1;have b:=fT jT 8001 m.writes fun r h=>by have:=mf.nO r h;unfold jT;rw[cF,aO];omega
  have:=mf.mJ;have:=mf.qg;unfold gH;rw[aO];omega
 have e10:OE ((0:Int),nt n (A,()))=some (nt n (A++n.aa.flatMap gH,())):=by
  unfold OE;delta eC;refine fE (fun k:Nat=>((k:Int),nt n (A++(n.aa.take k).flatMap gH,()))) n.aa.length (by rw[are,aER,dJ];rfl) ?_ ?_ aGp
  .intro k hk;have hx:=bF hk;have mf:=ft.aa.2 _ (EQ hk);obtain⟨m,hm⟩:∃m,m=n.aa[k]:=⟨_,rfl⟩;rw[<-hm]at hx mf;have hb:=fT gH 1300000 (n.aa.take k) fun r h=>hmem r (arm h);rw[fD]at hb;have ha:=fT (fun r:gr=>r.addr) 4000 m.reads fun r h=>(mf.gC r h).1;have hrn:=mf.mJ;have e14:=ahF (n:=n) (k:Int) mf (A++(n.aa.take k).flatMap gH) (by rw[aO];omega);have e18:=ahG (n:=n) (k:Int) mf ((A++(n.aa.take k).flatMap gH)++m.reads.flatMap (·.addr)) (by rw[aO,aO];omega);have ht:((A++(n.aa.take k).flatMap gH)++m.reads.flatMap (·.addr))++m.writes.flatMap jT=A++(n.aa.take (k+1)).flatMap gH:=by rw[Pl.dY hx,Ne,aEV];unfold gH;simp only[bV]
   have e:∀(a b:io) (p q:Int),a=b->p=q->(aGt (p,nt n (a,())):am yJ yD)=aGt (q,nt n (b,())):=by rintro _ _ _ _ rfl rfl;rfl
   unfold nt
   try dsimp only
   unfold EH;rw[bP (σ:=aj) (j4 aF hx)];exact aD (map_lt aF hx) (au (fY aF hx) (aT e14 (aT e18 (e _ _ _ _ ht (mg (show(k:Int)+1=((k+1:Nat):Int) by omega) aGl)))))
  .rw[gb];exact aw (nP aF n.aa) rfl
 obtain⟨B,hB⟩:∃B,B=A++n.aa.flatMap gH:=⟨_,rfl⟩;have hBl:B.length<=200000000:=by have hb:=fT gH 1300000 n.aa hmem;rw[hB,aO];omega
 have e25:OH ((0:Int),nt n (B,()))=some (B++n.al.flatMap jk,()):=by
  unfold OH;delta eC;refine fE (fun k:Nat=>((k:Int),nt n (B++(n.al.take k).flatMap jk,()))) n.al.length (by rw[are,aER,dJ];rfl) ?_ ?_ aGp
  .intro k hk;have hx:=bF hk;have hb:=fT jk 2 (n.al.take k) fun r _=>pi 2;rw[fD]at hb;have ht:(B++(n.al.take k).flatMap jk)++[n.al[k].a,n.al[k].b]=B++(n.al.take (k+1)).flatMap jk:=by rw[Pl.dY hx,Ne,<-bV,aEV];rfl
   have e:∀(a b:io) (p q:Int),a=b->p=q->(aGt (p,nt n (a,())):am yM yG)=aGt (q,nt n (b,())):=by rintro _ _ _ _ rfl rfl;rfl
   have r1:room 8 (List.length ((B++(n.al.take k).flatMap jk)++[n.al[k].a,n.al[k].b]))=true:=oY (by rw[aO,aO,cF,List.length_singleton];omega);unfold nt
   try dsimp only
   unfold EK;rw[bP (σ:=ag) (j4 cW hx)];exact aD (map_lt cW hx) (au (fY cW hx) (au (fY cW hx) (au r1 (e _ _ _ _ ht (mg (show(k:Int)+1=((k+1:Nat):Int) by omega) aGl)))))
  .rw[gb];exact aw (nP cW n.al) rfl
 rw[hA]at e10;rw[hB,hA]at e25;have r1:room 8 (List.length (n.aB.map (·.next)++n.bN))=true:=oY (by simp only[aO,aR];omega);have r2:room 8 (List.length ((n.aB.map (·.next)++n.bN)++n.bO))=true:=oY (by simp only[aO,aR];omega);have r3:room 8 (List.length (((n.aB.map (·.next)++n.bN)++n.bO)++n.constraints))=true:=oY (by simp only[aO,aR];omega);exact aT e3 (au r1 (au r2 (au r3 (aT e10 (aT e25 rfl)))))
end
def tk(m:ip)(L:io):ip:=L.foldl (fun m v=>m.set v.toNat true) m
theorem PS:∀(L:io) (m:ip),(tk m L).length=m.length
 |[],_=>rfl|v::L,m=>(PS L _).trans (aFB ..)
theorem Ut:∀(L:io) (m:ip) (p:Nat),(tk m L).getD p false=true↔m.getD p false=true\/∃v∈L,v.toNat=p/\p<m.length
 |[],m,p=>by unfold tk;simp|v::L,m,p=>by
  have ih:=Ut L (m.set v.toNat true) p;show(tk (m.set v.toNat true) L).getD p false=true↔_
  grind
section
variable{n:aZ}{V:Nat}(hv:n.vars=(V:Int))(hV:V<=2000)(K:FJ n)
include hv hV K
theorem aee(hl:(df n).length<=10000000):Pc (bX n,())=some (dup n.vars [] (df n),()):=by
 have eD:=aeU K;obtain⟨D,hD⟩:∃D,D=df n:=⟨_,rfl⟩;rw[<-hD]at eD hl |-;obtain⟨m0,hm0⟩:∃m,m=List.replicate (V+1) false:=⟨_,rfl⟩;have hml:∀L,(tk m0 L).length=V+1:=fun L=>by rw[PS,hm0,List.length_replicate]
 have hat:∀(L:io) (p:Nat),p<=V->((tk m0 L).getD p false=true↔∃v∈L,v.toNat=p):=fun L p hp=>by
  rw[Ut,hm0,List.length_replicate];constructor
  .rintro(h|⟨v,h1,h2,_⟩)
   .rw[fq,aFG]at h;split at h<;>simp at h
   .exact⟨v,h1,h2⟩
  .rintro⟨v,h1,h2⟩;exact .inr ⟨v,h1,h2,aGl⟩
 have hL:=nY (B:=fun d=>zh d.1 d.2.1 d.2.2.1 d.2.2.2.1 d.2.2.2.2.1 d.2.2.2.2.2.1 d.2.2.2.2.2.2.1 d.2.2.2.2.2.2.2.1 d.2.2.2.2.2.2.2.2.1 d.2.2.2.2.2.2.2.2.2.1 d.2.2.2.2.2.2.2.2.2.2.1)
  (I:=fun d:TL tC.σs=>∃k:Nat,k<=D.length/\d=(D,(k:Int),nt n (tk m0 (D.take k),()))/\dup n.vars [] D=dup n.vars (D.take k) (D.drop k)/\(∀v∈D.take k,1<=v/\v<=(V:Int))/\(D.take k).Nodup)
  (Q:=fun o:Out vj=>(o=.inl (dup n.vars [] D,())/\dup n.vars [] D≠0)\/(o=.inr (nt n (tk m0 D,()))/\dup n.vars [] D=(if(D.length:Int)<n.vars then 7 else 0)/\(∀v∈D,1<=v/\v<=(V:Int))/\D.Nodup))
  (fun d:TL tC.σs=>D.length-Int.toNat d.2.1) ?_ NN (D,(0:Int),nt n (m0,())) ⟨0,aGl,rfl,rfl,aGn,aGn⟩ (cB (by show D.length-Int.toNat (0:Int)<=_;omega))
 .obtain⟨o,e4,q⟩:=hL;have hw:ol (n.vars+1)=((V+1:Nat):Int):=by rw[hv];exact mg aGl aGl
  have hb:∀z:Int,z=((V+1:Nat):Int)->both (iE (0:Int) z) (both (iE z z) (iE ((Int.ofNat 1)*z) (281474976710656:Int)))=true:=by rintro _ rfl;have a1:iE (0:Int) ((V+1:Nat):Int)=true:=aGs;have a2:iE ((V+1:Nat):Int) ((V+1:Nat):Int)=true:=aGs;have a3:iE ((Int.ofNat 1)*((V+1:Nat):Int)) (281474976710656:Int)=true:=aA (by show(1:Int)*((V+1:Nat):Int)<=_;omega);rw[a1,a2,a3];rfl
  have e4':∀L:ip,L=m0->adR (D,(0:Int),nt n (L,()))=some o:=by rintro _ rfl;exact e4
  have hrep:List.replicate (Int.toNat (ol (n.vars+(1:Int)))) (Sh.zero .bool)=m0:=by rw[hw,hm0];rfl
  rcases q with⟨rfl,q⟩|⟨rfl,q1,q2,q3⟩
  .exact(cM eD).trans ((dT (hb _ hw)).trans ((cM (e4' _ hrep)).trans rfl))
  .have hnot:∀v:Nat,1<=v->v<=V->((tk m0 D).getD v false=true↔(v:Int)∈D):=fun v v1 v2=>by
    rw[hat D v v2];constructor
    .rintro⟨u,h1,h2⟩;have:=q2 u h1;rw[show(v:Int)=u by omega];exact h1
    .exact fun h=>⟨_,h,aGn⟩
   have e12:OY ((1:Int),nt n (tk m0 D,()))=some (if(List.range V).any (fun i=>!(tk m0 D).getD (i+1) false)then .inl ((7:Int),())else .inr ()):=by
    unfold OY;delta eC;refine rH (fun i:Nat=>(((i+1:Nat):Int),nt n (tk m0 D,()))) (List.range V) (fun i=>!(tk m0 D).getD (i+1) false) (fun i x hx q=>?_) (fun i x hx q=>?_) ?_ rfl (cB (by rw[aFp];omega))
    .obtain⟨hi,rfl⟩:=AC.1 hx;rw[aFp]at hi;rw[List.getElem_range]at q;have ek:ol (((i+1:Nat):Int)+1)=((i+1+1:Nat):Int):=mg aGl aGl;have e:∀p q:Int,p=q->(aGt (p,nt n (tk m0 D,())):am yU yO)=aGt (q,nt n (tk m0 D,())):=by rintro _ _ rfl;rfl
     unfold nt
     try dsimp only
     unfold vk;exact aD (aA (by rw[hv];omega)) (au (bC ⟨aGl,by rw[hml];omega⟩) (aw (show Bool.not (gt .bool (tk m0 D) ((i+1:Nat):Int))=false from q) (e _ _ ek)))
    .obtain⟨hi,rfl⟩:=AC.1 hx;rw[aFp]at hi;rw[List.getElem_range]at q;unfold nt
     try dsimp only
     unfold vk;exact aD (aA (by rw[hv];omega)) (au (bC ⟨aGl,by rw[hml];omega⟩) (aD (show Bool.not (gt .bool (tk m0 D) ((i+1:Nat):Int))=true from q) rfl))
    .rw[aFp];unfold nt
     try dsimp only
     unfold vk;exact aw (ax (by rw[hv];omega)) rfl
   have hany:(List.range V).any (fun i=>!(tk m0 D).getD (i+1) false)=decide (D.length<V):=by
    rw[Bool.eq_iff_iff,aEQ,decide_eq_true_iff];constructor
    .rintro⟨i,hi,h⟩;have hi:=aFT.1 hi;rcases ww D.length V with c|c
     .exact c
     .have:=(aeS V D q3 q2).2 c (i+1) aGl aGl;rw[(hnot (i+1) aGl aGl).2 this]at h;cases h
    .intro c;refine Classical.byContradiction fun h=>?_;have:=Ztp V (D.map Int.toNat) fun j a b=>by
      have:(tk m0 D).getD j false=true:=by cases r:(tk m0 D).getD j false with|true=>rfl|false=>exact absurd ⟨j-1,aFT.2 aGl,by rw[show j-1+1=j by omega,r];rfl⟩ h
      exact IN.2 ⟨(j:Int),(hnot j a b).1 this,aGn⟩
     rw[aR]at this;omega
   rw[hany]at e12;refine(cM eD).trans ((dT (hb _ hw)).trans ((cM (e4' _ hrep)).trans ((cM e12).trans ?_)));rw[q1,hv];by_cases c:D.length<V
   .rw[iU c,BY (show(D.length:Int)<(V:Int) by omega)];rfl
   .rw[jG c,rx (show ¬(D.length:Int)<(V:Int) by omega)];rfl
 .rintro d ⟨k,k1,rfl,k2,k3,k4⟩;rcases ww k D.length with hk|hk
  .have hx:=bF hk;obtain⟨v,hvv⟩:∃v,v=D[k]:=⟨_,rfl⟩;rw[<-hvv]at hx;have aU:ar (k:Int) D.length=true:=aGq;have h0:iL (k:Int) (Int.ofNat D.length)=true:=aA (show(k:Int)<(D.length:Int) by omega);have g:gt .I D (k:Int)=v:=bP (σ:=.I) hx;unfold nt
   try dsimp only
   unfold zh;rw[g];by_cases c1:v<1
   .have hd:=VW (V:=n.vars) hx (.inl c1);rw[<-k2]at hd;exact .inl ⟨_,aD h0 (au aU (aD (aA c1) rfl)),.inl ⟨by rw[hd],by rw[hd];decide⟩⟩
   .by_cases c2:n.vars<v
    .have hd:=VW (V:=n.vars) hx (.inr c2);rw[<-k2]at hd;exact .inl ⟨_,aD h0 (au aU (aw (ax c1) (au aU (aD (show bH false true (iL n.vars v)=true from aA c2) rfl)))),.inl ⟨by rw[hd],by rw[hd];decide⟩⟩
    .have f2:bH false true (iL n.vars v)=false:=ax c2;have hin2:ar v (List.length (tk m0 (D.take k)))=true:=bC ⟨aGl,by rw[hml];omega⟩;have hg:=hat (D.take k) v.toNat aGl;cases hs:(tk m0 (D.take k)).getD v.toNat false with
     |true=>obtain⟨u,u1,u2⟩:=hg.1 hs;have:=k3 u u1;have hd:=ata (V:=n.vars) hx aGl aGl (by rw[List.contains_iff_mem,show v=u by omega];exact u1);rw[<-k2]at hd;exact .inl ⟨_,aD h0 (au aU (aw (ax c1) (au aU (aw f2 (au aU (au hin2 (aD (show gt .bool (tk m0 (D.take k)) v=true from hs) rfl))))))),.inl ⟨by rw[hd],by rw[hd];decide⟩⟩
     |false=>
      have hnm:v∉D.take k:=fun h=>by rw[hg.2 ⟨v,h,rfl⟩]at hs;cases hs
      have hd:=aeW (V:=n.vars) hx aGl aGl (by simpa using hnm);refine .inr ⟨(D,((k+1:Nat):Int),nt n (tk m0 (D.take (k+1)),())),?_,⟨k+1,aGl,rfl,by rw[k2,hd],?_,?_⟩,by show D.length-Int.toNat ((k+1:Nat):Int)<D.length-Int.toNat (k:Int);omega⟩
      .have e:∀(p q:Int) (L M:ip),p=q->L=M->(aGt (D,p,nt n (L,())):am tC vj)=aGt (D,q,nt n (M,())):=by rintro _ _ _ _ rfl rfl;rfl
       exact aD h0 (au aU (aw (ax c1) (au aU (aw f2 (au aU (au hin2 (aw (show gt .bool (tk m0 (D.take k)) v=false from hs) (au aU (au hin2 (e _ _ _ _ (mg (show(k:Int)+1=((k+1:Nat):Int) by omega) aGl) (by rw[Pl.dY hx];unfold tk;rw[aFP];rfl)))))))))))
      .intro u hu;rw[Pl.dY hx,At,OF]at hu;rcases hu with hu|rfl
       .exact k3 u hu
       .omega
      .rw[Pl.dY hx,aFo];exact⟨k4,aGn,fun a ha b hb e=>by rw[OF]at hb;subst hb;subst e;exact hnm ha⟩
  .obtain rfl:k=D.length:=aGl
   have hd:=afZ (V:=n.vars) (l:=D) (pi _);rw[<-k2]at hd;rw[gb]at k3 k4 |-;exact .inl ⟨.inr (nt n (tk m0 D,())),aw (ax (show ¬(D.length:Int)<(D.length:Int) by omega)) rfl,.inr ⟨rfl,hd,k3,k4⟩⟩
end
theorem PX{V:Int}(h:0<=l):(2*V+1<l)=(V<l / 2):=by grind
theorem PR{n:aZ}(ft:Fit n):cy (bX n,())=some (fx n,()):=by
 have el:=aet ft;have hmn:=ft.aa.1;have hln:=ft.aC.1;show Fe OT Pc Ff Po E9 Fa E5 (bX n)=_;unfold Fe;have key:∀z:Int,z=fx n->(some (z,()):Option (TL zq))=some (fx n,()):=by rintro _ rfl;rfl
 refine(cM el).trans ?_;cases c1:iK n with
 |true=>exact key 10 (by unfold fx;rw[c1];rfl)|false=>
  have hlim:(0<=n.vars/\n.vars<=2000):=by unfold iK at c1;rw[aFA]at c1;have:=aEU c1.1;omega
  obtain⟨V,hv⟩:=Fd hlim.1;have hv:n.vars=(V:Int):=hv;have e4:E9 ((0:Int),nt n ())=some (if n.aa.any ie then .inl ((9:Int),())else .inr (nt n ())):=by
   unfold E9;delta u9;refine rH (fun i:Nat=>((i:Int),nt n ())) n.aa ie (fun i x hx q=>?_) (fun i x hx q=>?_) ?_ rfl aGp
   .have hl:=(AC.1 hx).1;have ew:=P6 (ft.aa.2 x (ep hx));rw[q]at ew;have e:∀p q:Int,p=q->(aGt (p,nt n ()):am ze y8)=aGt (q,nt n ()):=by rintro _ _ rfl;rfl
    unfold nt
    try dsimp only
    unfold zo;rw[bP (σ:=aj) (j4 aF hx)];exact aD (map_lt aF hx) (au (fY aF hx) (aT ew (aw rfl (e _ _ (cT (x:=(i:Int)+1) aGl)))))
   .have ew:=P6 (ft.aa.2 x (ep hx));rw[q]at ew;unfold nt
    try dsimp only
    unfold zo;rw[bP (σ:=aj) (j4 aF hx)];exact aD (map_lt aF hx) (au (fY aF hx) (aT ew (aD rfl rfl)))
   .exact aw (nP aF n.aa) rfl
  refine(dF rfl).trans ((cM e4).trans ?_);cases c2:n.aa.any ie with
  |true=>exact key 9 (by unfold fx;rw[c1,c2];rfl)|false=>
   have e9:Fa ((0:Int),nt n ())=some (if n.aB.any j8 then .inl ((1:Int),())else .inr (nt n ())):=by
    unfold Fa;delta u9;refine rH (fun i:Nat=>((i:Int),nt n ())) n.aB j8 (fun i x hx q=>?_) (fun i x hx q=>?_) ?_ rfl aGp
    .have hl:=(AC.1 hx).1;have e:∀p q:Int,p=q->(aGt (p,nt n ()):am zg y9)=aGt (q,nt n ()):=by rintro _ _ rfl;rfl
     have q:=aEU q;unfold nt
     try dsimp only
     unfold zp;rw[bP (σ:=ag) (j4 cY hx)];exact aD (map_lt cY hx) (au (fY cY hx) (aw (show iL x.init (0:Int)=false from aGr) (au (fY cY hx) (aw (show bH false true (iL (2:Int) x.init)=false from aGr) (e _ _ (cT (x:=(i:Int)+1) aGl))))))
    .have q:=Pi q;unfold nt
     try dsimp only
     unfold zp;rw[bP (σ:=ag) (j4 cY hx)];by_cases c:x.init<0
     .exact aD (map_lt cY hx) (au (fY cY hx) (aD (show iL x.init (0:Int)=true from aA c) rfl))
     .exact aD (map_lt cY hx) (au (fY cY hx) (aw (show iL x.init (0:Int)=false from ax c) (au (fY cY hx) (aD (show bH false true (iL (2:Int) x.init)=true from aGs) rfl))))
    .exact aw (nP cY n.aB) rfl
   refine(cM e9).trans ?_;cases c3:n.aB.any j8 with
   |true=>exact key 1 (by unfold fx;rw[c1,c2,c3];rfl)|false=>
    have hwd:∀m∈n.aa,1<=m.word/\m.word<=64:=fun m hm=>by have:=aFn.1 c2 m hm;unfold ie at this;simp only[Bool.or_eq_true,In,not_or]at this;omega
    have K:FJ n:=⟨ft.ins.1,ft.aC.1,ft.al.1,ft.aa.1,fun m hm=>⟨hwd m hm,(ft.aa.2 m hm).mJ,fun r hr=>⟨((ft.aa.2 m hm).gC r hr).2.1,((ft.aa.2 m hm).gC r hr).2.2.1⟩⟩⟩;have hDl:(df n).length<=10000000:=by
     have hb:=fT gA 6400 n.aa fun m hm=>by
      obtain⟨⟨m3,m4⟩,m7,m5⟩:=K.mem m hm;have h2:=fT (fun r:gr=>cQ r.var m.word.toNat) 64 m.reads fun r _=>by unfold cQ;rw[aR,aFp];omega
      unfold gA;omega
     have:=K.ins;have:=K.al;unfold df;simp only[aO,aR];omega
    have ed:=aee hv aGl K hDl;have hsF:fx n=if dup n.vars [] (df n)≠0 then dup n.vars [] (df n)else if(eK n).any (mj n.vars)then 5 else 0:=by unfold fx;rw[c1,c2,c3];rfl
    refine(cM ed).trans ?_;by_cases c4:dup n.vars [] (df n)=0
    .rw[rx (fun h=>h c4)]at hsF;have eL:=agp ft;have hll:(eK n).length<=1000000000:=by
      have hmem:=fT gH 1300000 n.aa fun m h=>by
       have mf:=ft.aa.2 m h;have a:=fT (fun r:gr=>r.addr) 4000 m.reads fun r h=>(mf.gC r h).1;have b:=fT jT 8001 m.writes fun r h=>by have:=mf.nO r h;unfold jT;rw[cF,aO];omega
       have:=mf.mJ;have:=mf.qg;unfold gH;rw[aO];omega
      have ha:=fT jk 2 n.al fun r _=>pi 2;have:=ft.out.1;have:=ft.bad.1;have:=ft.nH.1;have:=ft.al.1;unfold eK;simp only[aO,aR]at ha |-;omega
     obtain⟨L,hL⟩:∃L,L=eK n:=⟨_,rfl⟩;rw[<-hL]at eL hll hsF;have e18:E5 (L,(0:Int),nt n ())=some (if L.any (mj n.vars)then .inl ((5:Int),())else .inr ()):=by
      have hw:ol ((ol ((2:Int)*n.vars))+(1:Int))=2*n.vars+1:=by rw[cT (x:=2*n.vars) aGl];exact cT aGl
      unfold E5;delta eC;refine rH (fun i:Nat=>(L,(i:Int),nt n ())) L (mj n.vars) (fun i x hx q=>?_) (fun i x hx q=>?_) ?_ rfl aGp
      .have hl:=(AC.1 hx).1;have q:=aEU q;have e:∀p q:Int,p=q->(aGt (L,p,nt n ()):am y7 yX)=aGt (L,q,nt n ()):=by rintro _ _ rfl;rfl
       have aU:ar (i:Int) L.length=true:=aGq;unfold nt
       try dsimp only
       unfold zk;rw[bP (σ:=.I) hx,hw];exact aD (aA (show(i:Int)<(L.length:Int) by omega)) (au aU (aw aGr (au aU (aw (show bH false true (iL (2*n.vars+1) x)=false from ax (by rw[PX aGl];omega)) (e _ _ (cT (x:=(i:Int)+1) aGl))))))
      .have hl:=(AC.1 hx).1;have q:=Pi q;have aU:ar (i:Int) L.length=true:=aGq;unfold nt
       try dsimp only
       unfold zk;rw[bP (σ:=.I) hx,hw];by_cases c:x<0
       .exact aD (aA (show(i:Int)<(L.length:Int) by omega)) (au aU (aD (aA c) rfl))
       .exact aD (aA (show(i:Int)<(L.length:Int) by omega)) (au aU (aw (ax c) (au aU (aD (show bH false true (iL (2*n.vars+1) x)=true from aA (by rw[PX aGl];omega)) rfl))))
      .exact aw (ax (show ¬(L.length:Int)<(L.length:Int) by omega)) rfl
     refine(dF (show Bool.not (iQ (dup n.vars [] (df n)) (0:Int))=false by rw[c4];rfl)).trans ((cM eL).trans ((cM e18).trans ?_));cases c5:L.any (mj n.vars)with|true=>exact key 5 (by rw[hsF,c5];rfl)|false=>exact key 0 (by rw[hsF,c5];rfl)
    .exact(fi (vH (ax c4))).trans (key _ (by rw[hsF,BY c4]))
def A6(n:aZ)(k:Nat):List (bG×bE):=(jW k).zip ((n.al.take k).map oc)
def M6(n:aZ)(k:Nat):List (bG×bE):=(iF 0 (n.aa.take k)).zip ((n.aa.take k).flatMap jm)
def R6(j:Nat)(M:cS)(r:Nat):List (bG×bE):=(mI j r).zip ((M.reads.take r).map (nV M.word))
def n6(n:aZ):List (bG×bE):=A6 n n.al.length++M6 n n.aa.length
variable{k:Nat}
theorem afL{n:aZ}{a:ga}(h:n.al[k]?=some a):A6 n (k+1)=A6 n k++[(⟨false,0,k⟩,oc a)]:=by unfold A6;rw[UT,dY h,dE,List.zip_append (by rw[uJ,aR,fD];have:=js h;omega)];rfl
theorem Vh{n:aZ}(h:k<=n.al.length):(A6 n k).length=k:=by unfold A6;rw[List.length_zip,uJ,aR,fD];omega
variable{M:cS}
theorem afN{r:gr}(h:M.reads[k]?=some r):R6 j M (k+1)=R6 j M k++[(⟨true,j,k⟩,nV M.word r)]:=by unfold R6;rw[Vw,dY h,dE,List.zip_append (by rw[NA,aR,fD];have:=js h;omega)];rfl
theorem atg(h:k<=M.reads.length):(R6 j M k).length=k:=by unfold R6;rw[List.length_zip,NA,aR,fD];omega
theorem afM{n:aZ}(h:n.aa[k]?=some M):M6 n (k+1)=M6 n k++R6 k M M.reads.length:=by unfold M6 R6;rw[dY h,NC,Ne,List.zip_append (by rw[uF])];have:=js h;rw[fD,aGd aGl,aFm,gb];simp only[Fn,aER,dJ];rfl
theorem ahU(n:aZ)(hA:n.al.length<=2000):G1 ((0:Int),nt n ([],()))=some (nt n ((A6 n n.al.length).map cK,())):=by
 unfold G1;delta eC;refine fE (fun k:Nat=>((k:Int),nt n ((A6 n k).map cK,()))) n.al.length rfl ?_ ?_ aGp
 .intro k hk;have ha:=bF hk;have ha':(n.al.map cW)[k]?=some (cW n.al[k]):=by grind
  unfold nt
  try dsimp only
  unfold Dk;refine aD (aA (show(k:Int)<(((n.al.map cW).length:Nat):Int) by rw[aR];omega)) (au (bC ⟨aGl,by grind⟩) ?_);rw[bP ha'];refine au (uP (L:=(A6 n k).map cK) (by rw[aR,Vh aGl];omega) aGo) ?_;rw[cT (x:=(k:Int)+1) aGl,afL ha,List.map_append (l₁:=A6 n k)];rfl
 .unfold nt
  try dsimp only
  unfold Dk;refine aw (ax (show ¬(n.al.length:Int)<(((n.al.map cW).length:Nat):Int) by rw[aR];omega)) rfl
theorem agz{n:aZ}(hM:n.aa[j]?=some M)(hw:0<=M.word/\M.word<=4000)(hR:M.reads.length<=4)(hrv:∀r∈M.reads,-1099511627776<=r.var/\r.var<=1099511627776)(hj:j<=4)(pre:List (bG×bE))(hp:pre.length<=3000) :
  Ma ((j:Int),(0:Int),nt n (pre.map cK,()))=some ((j:Int),nt n ((pre++R6 j M M.reads.length).map cK,())):=by
 have hM':(n.aa.map aF)[j]?=some (aF M):=by grind
 have hjl:=js hM';unfold Ma;delta nN;refine fE (fun k:Nat=>((j:Int),(k:Int),nt n ((pre++R6 j M k).map cK,()))) M.reads.length (by rw[show R6 j M 0=[]from rfl,dJ];rfl) ?_ ?_ aGp
 .intro k hk;have hr:=bF hk;have hr':(M.reads.map cI)[k]?=some (cI M.reads[k]):=by rw[dO,hr];rfl
  have e1:=PU M k _ hr hw (hrv _ (EQ hk));unfold nt
  try dsimp only
  unfold Dd;rw[dT aGq,bP hM',show(aF M).2.2.2.1=M.reads.map cI from rfl];refine aD (aA (show(k:Int)<(((M.reads.map cI).length:Nat):Int) by rw[aR];omega)) (au aGq (au (bC ⟨aGl,by rw[aR];omega⟩) (au aGq ?_)));rw[bP hr'];refine(cM e1).trans (au (uP (L:=(pre++R6 j M k).map cK) (by rw[aR,aO,atg aGl];omega) aGo) ?_);rw[cT (x:=(k:Int)+1) aGl,afN hr,<-bV,List.map_append (l₁:=pre++R6 j M k)];rfl
 .unfold nt
  try dsimp only
  unfold Dd;rw[dT aGq,bP hM',show(aF M).2.2.2.1=M.reads.map cI from rfl];exact aw (ax (show ¬(M.reads.length:Int)<(((M.reads.map cI).length:Nat):Int) by rw[aR];omega)) rfl
theorem ath(n:aZ)(k:Nat):(M6 n k).length=((n.aa.take k).flatMap jm).length:=by unfold M6;rw[List.length_zip,uF];omega
theorem ue(n:aZ):(n6 n).map (fun x:bG×bE=>x.2)=fy n:=by
 unfold n6 A6 M6 fy;rw[dE,gb,gb];congr 1
 .exact List.map_snd_zip (by rw[uJ,aR];omega)
 .exact List.map_snd_zip (by rw[uF];omega)
theorem tT(n:aZ):(n6 n).map (fun x:bG×bE=>x.2.nd)=bh n:=by unfold bh;rw[<-ue,aFF];rfl
theorem F8{n:aZ}{V:Nat}(hs:dx n V):N6 (n6 n) V:=by
 have hm:∀x∈n6 n,x.2∈fy n:=fun x hx=>by rw[<-ue];exact abs hx
 refine⟨hs.v2,?_,fun x hx=>⟨?_,fun v hv=>?_⟩,fun x hx=>⟨?_,fun l hl=>?_⟩⟩
 .have h:=yi hs;rw[<-tT,aR]at h;exact h
 .have:=(DV hs (hm x hx)).1;omega
 .have:=hs.qn (hm x hx) hv;omega
 .have:=(DV hs (hm x hx)).2;omega
 .have:=hs.H9 (hm x hx) hl;omega
theorem avr{n:aZ}{V:Nat}(hs:dx n V)(ft:Fit n):ly (bX n,())=some ((n6 n).map cK,()):=by
 have hA:=hs.lens.2.2.1;have hMl:=hs.lens.2.2.2.2;have e3:=ahU n hA;have hlen:∀k,k<=n.aa.length->(A6 n n.al.length++M6 n k).length<=3000:=by
  intro k hk;rw[aO,Vh (pi _),ath];have:=GK jm (n.aa.take k) 4 (fun M hM=>by unfold jm;rw[aR];exact(hs.aa M (arm hM)).2.2.2.2.2.2.1)
  grind
 have e8:FP ((0:Int),nt n ((A6 n n.al.length).map cK,()))=some ((n6 n).map cK,()):=by
  unfold FP;delta eC;refine fE (fun k:Nat=>((k:Int),nt n ((A6 n n.al.length++M6 n k).map cK,()))) n.aa.length (by rw[show M6 n 0=[]from rfl,dJ];rfl) ?_ ?_ aGp
  .intro k hk;have hM:=bF hk;have hm:=hs.aa _ (EQ hk);have hfit:=ft.aa.2 _ (EQ hk);have e11:=agz hM ⟨aGl,aGl⟩ hm.2.2.2.2.2.2.1 (fun r hr=>⟨(hfit.gC r hr).2.1,(hfit.gC r hr).2.2.1⟩) aGl (A6 n n.al.length++M6 n k) (hlen k aGl);unfold nt
   try dsimp only
   unfold Dj;refine aD (aA (show(k:Int)<(((n.aa.map aF).length:Nat):Int) by rw[aR];omega)) ((cM e11).trans ?_);have e:∀(p q:Int) (s s':List du.T),p=q->s=s'->(aGt (p,nt n (s,())):am CY CU)=aGt (q,nt n (s',())):=by rintro _ _ _ _ rfl rfl;rfl
   exact e _ _ _ _ (cT (x:=(k:Int)+1) aGl) (by rw[afM hM,bV]<;>rfl)
  .unfold nt
   try dsimp only
   unfold Dj;exact aw (ax (show ¬(n.aa.length:Int)<(((n.aa.map aF).length:Nat):Int) by rw[aR];omega)) rfl
 exact aT e3 (aT e8 rfl)
theorem ati{n:aZ}{V:Nat}(hs:dx n V)(ft:Fit n)(h0:fx n=0) :
  Zfg (bX n,())=some (if gN (bh n) V then(jt (bh n) ((n6 n).length+1) (jX (bh n) V),true,())else([],false,())):=by
 have hV2:=hs.v2;have h6:=F8 hs;have es:=PR ft;have eN:=avr hs ft;have hw:ol (n.vars+1)=((V+1:Nat):Int):=by rw[hs.vars,cT aGl];omega
 have e6:=aiC h6 (List.replicate (V+1) 0) aGn;rw[tT]at e6;have hout:cG (List.replicate (V+1) 0) ((bh n).flatMap (·.to)) (-1)=jX (bh n) V:=rfl;rw[hout]at e6;have hol:(jX (bh n) V).length=V+1:=by unfold jX;rw[lz];simp
 have hob:∀u,aC (jX (bh n) V) u<=0:=by
  unfold jX;refine NT aGl _ (fun u=>?_);unfold aC
  grind
 have e14:=ahy h6 (jX (bh n) V) hol hob;rw[tT]at e14;have hNl:(n6 n).length=(bh n).length:=by rw[<-tT,aR]
 have ht:=arX hs.apart hs.aU hs.ks;rw[<-hNl]at ht;have hle:=N8 (bh n) (jt (bh n) (n6 n).length (jX (bh n) V));show My LJ ly cy Mj C7 Mh CZ CP (bX n)=_;unfold My;refine(cM es).trans (aw (by rw[h0];rfl) ?_);have hw':ol (md (bX n).1 (1:Int))=((V+1:Nat):Int):=hw;rw[hw'];refine au (by show both (decide _) (both (decide _) (decide _))=true;rw[iU aGl,iU aGl,iU (by show(8:Int)*_<=_;omega)];rfl) ((cM eN).trans ((cM e6).trans ((cM e14).trans ?_)));by_cases ha:gN (bh n) V=true
 .have hz:=ht.2 ha;rw[BY ha];refine aw aGr rfl
 .have hz:iD (bh n) (jt (bh n) (n6 n).length (jX (bh n) V))≠0:=fun h=>ha (ht.1 h);rw[rx ha];refine aD aGs rfl
theorem Zxe{n:aZ}(ft:Fit n):Zb7 (bX n,())=some (iN n,()):=by
 have es:=PR ft;by_cases h0:fx n=0
 .obtain⟨V,hs⟩:=Ht h0;have hV:n.vars.toNat=V:=by rw[hs.vars];rfl
  have eL:=ati hs ft h0;unfold iN;rw[h0,hV,rx aGn];by_cases ha:gN (bh n) V=true
  .rw[BY ha]at eL;rw[BY ha];exact aT es (aw (by rw[h0];rfl) (aT eL (aw rfl rfl)))
  .rw[rx ha]at eL;rw[rx ha];exact aT es (aw (by rw[h0];rfl) (aT eL (aD rfl rfl)))
 .unfold iN;rw[BY h0];exact aT es (aD (by simp[h0]) rfl)
