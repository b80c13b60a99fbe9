import Derived.Test.YtmkbdfidnfmgmaaGreatKNb
import Derived.Test.YtmkbdfidnfmgmaaGreatKNd
set_option linter.all false
section
namespace Go.Proofs.YtmkbdfidnfmgmaaGreat.Pl
structure cU where
 rd:Bool
 mem:Nat
 pos:Nat
structure cg where
 to:jp
 bq:jp
def kS(a:dM):cg:=⟨[a.var],[a.a,a.b]⟩
def lK(word:Int)(r:fh):cg:=⟨cM r.var word.toNat,r.addr⟩
def iY(m:cC):List cg:=m.reads.map (lK m.word)
def dt(n:aB):List cg:=n.ag.map kS++n.af.flatMap iY
def iI(k:Nat)(m:cC):List cU:=(List.range m.reads.length).map fun i=>⟨true,k,i⟩
def iC(k:Nat):List cC->List cU
 |[]=>[]|m::l=>iI k m++iC (k+1) l
def d7(n:aB):List cU:=(List.range n.ag.length).map (fun i=>⟨false,0,i⟩)++iC 0 n.af
def cU.is(n:aB)(x:cU)(i:cg):Prop:=(x.rd=false/\∃a,n.ag[x.pos]?=some a/\i=kS a)\/(x.rd=true/\∃m r,n.af[x.mem]?=some m/\m.reads[x.pos]?=some r/\i=lK m.word r)
theorem ak9(n:List cC):∀(l:List cC) (k:Nat),(∀j,l[j]?=n[k+j]?)->∀(i:Nat) (x:cU),(iC k l)[i]?=some x->∃(m:cC) (r:fh),n[x.mem]?=some m/\m.reads[x.pos]?=some r/\(l.flatMap iY)[i]?=some (lK m.word r)/\x.rd=true:=by
 intro l
 induction l with
 |nil=>intro k _ i x h;simp[iC]at h|cons m l ih=>
  intro k hk i x h;rw[iC]at h;rw[ww];have hl1:(iI k m).length=m.reads.length:=by simp[iI]
  have hl2:(iY m).length=m.reads.length:=by simp[iY]
  by_cases hi:i<m.reads.length
  .rw[Ne auc]at h;rw[Ne auc];unfold iI at h;rw[cW,atd hi]at h;injection h with h;subst h;have:=hk 0;rw[atf]at this;refine⟨m,m.reads[i],by rw[<-this];rfl,bA hi,?_,rfl⟩;unfold iY;rw[cW,bA hi];rfl
  .rw[In auc]at h;rw[In auc];rw[hl1]at h;rw[hl2];exact ih (k+1) (fun j=>by have:=hk (j+1);grind) _ x h
theorem vF:∀(l:List cC) (k:Nat),(iC k l).length=(l.flatMap iY).length:=by
 intro l
 induction l with|nil=>intro k;rfl|cons m l ih=>intro k;rw[iC,ww,bF,bF,ih];simp[iI,iY]
theorem JE(n:aB):(d7 n).length=(dt n).length:=by unfold d7 dt;simp only[bF,vF];simp
variable{i:Nat}
theorem xU(n:aB){x:cU}(h:(d7 n)[i]?=some x):∃y,(dt n)[i]?=some y/\x.is n y:=by
 unfold d7 at h;unfold dt;have hl1:((List.range n.ag.length).map (fun i=>(⟨false,0,i⟩:cU))).length=n.ag.length:=aue
 have hl2:(n.ag.map kS).length=n.ag.length:=aue
 by_cases hi:i<n.ag.length
 .rw[Ne auc]at h;rw[Ne auc];rw[cW,atd hi]at h;injection h with h;subst h;rw[cW,bA hi];exact⟨_,rfl,.inl ⟨rfl,_,bA hi,rfl⟩⟩
 .rw[In auc]at h;rw[In auc];rw[hl1]at h;rw[hl2];obtain⟨m,r,h1,h2,h3,h4⟩:=ak9 n.af n.af 0 (fun j=>aue) _ x h;exact⟨_,h3,.inr ⟨h4,m,r,h1,h2,rfl⟩⟩
def cg.nd(x:cg):Nd:=⟨x.bq.map fun l=>(l / 2).toNat,x.to.map Int.toNat⟩
def bh(n:aB):List Nd:=(dt n).map cg.nd
theorem apF{V:Int}:∀(l pre:jp),pre.Nodup->(∀x∈pre,1<=x/\x<=V)->dup V pre l=0->(pre++l).Nodup/\∀x∈pre++l,1<=x/\x<=V:=by
 intro l
 induction l with
 |nil=>intro pre h1 h2 _;simpa using⟨h1,h2⟩|cons v l ih=>
  intro pre h1 h2 h;rw[dup]at h;by_cases ha:v<1\/V<v
  .rw[IO ha]at h;omega
  .rw[Fr ha]at h;by_cases hc:pre.contains v=true
   .rw[IO hc]at h;omega
   .rw[Fr hc]at h;have hn:v∉pre:=by simpa using hc
    have:=ih (pre++[v]) (by
     rw[rx];exact⟨h1,aue,fun a ha' b hb=>by simp at hb;subst hb;rintro rfl;exact hn ha'⟩) (fun x hx=>by
     rcases qr.1 hx with hx|hx
     .exact h2 x hx
     .simp at hx;subst hx;omega) h
    simpa using this
structure cA(n:aB)(V:Nat):Prop where
 vars:n.vars=(V:Int)
 v2:V<=2000
 nodup:(bp n).Nodup
 eJ:∀x∈bp n,1<=x/\x<=(V:Int)
 lits:∀l∈cL n,0<=l/\l / 2<=(V:Int)
 af:∀m∈n.af,1<=m.addr/\m.addr<=62/\1<=m.word/\m.word<=64/\(∀r∈m.reads,(r.addr.length:Int)=m.addr)/\(∀x∈m.writes,(x.addr.length:Int)=m.addr/\(x.data.length:Int)=m.word)/\m.reads.length<=4/\m.writes.length<=4
 init:∀l∈n.ah,0<=l.init/\l.init<=2
 lens:n.ax.length<=2000/\n.ah.length<=2000/\n.ag.length<=2000/\n.bk.length+n.aU.length+n.constraints.length<=1000/\n.af.length<=4
variable{α:Type}
theorem any_false{p:α->Bool}{l:List α}(h:¬l.any p=true):∀x∈l,p x=false:=by grind
theorem uS{n:aB}(h:da n=0):∃V,cA n V:=by
 unfold da at h;by_cases h1:ij n=true
 .rw[IO h1]at h;omega
 rw[Fr h1]at h;by_cases h2:n.af.any fZ=true
 .rw[IO h2]at h;omega
 rw[Fr h2]at h;by_cases h3:n.ah.any jc=true
 .rw[IO h3]at h;omega
 rw[Fr h3]at h;by_cases h4:dup n.vars [] (bp n)≠0
 .rw[IO h4]at h;exact absurd h h4
 rw[Fr h4]at h;by_cases h5:(cL n).any (gi n.vars)=true
 .rw[IO h5]at h;omega
 unfold ij at h1;rw[Bool.or_eq_true,not_or]at h1;obtain⟨h1a,h1b⟩:=h1;have h1a':¬(n.vars<0\/2000<n.vars\/2000<n.ax.length\/2000<n.ah.length\/2000<n.ag.length\/1000<n.bk.length+n.aU.length+n.constraints.length\/4<n.af.length):=by simpa using h1a
 obtain⟨V,hV⟩:=By (show 0<=n.vars by omega);obtain⟨d1,d2⟩:=apF (V:=n.vars) (bp n) [] aue aue auc;simp only[PP]at d1 d2;refine⟨V,hV,auc,d1,fun x hx=>hV▸d2 x hx,fun l hl=>?_,fun m hm=>?_,fun l hl=>?_,⟨auc,auc,auc,auc,auc⟩⟩
 .have:=any_false h5 l hl;unfold gi at this;have:¬(l<0\/n.vars<l / 2):=by simpa using this
  omega
 .have hw:=any_false h2 m hm;have hp:=any_false h1b m hm;unfold gU at hp;have hp:¬(4<m.reads.length\/4<m.writes.length):=by simpa using hp
  unfold fZ at hw;rw[ats,ats]at hw;obtain⟨⟨w1,w2⟩,w3⟩:=hw;have w1:¬(m.addr<1\/62<m.addr\/m.word<1\/64<m.word):=by simpa using w1
  refine⟨auc,auc,auc,auc,fun r hr=>?_,fun x hx=>?_,auc,auc⟩
  .have:=any_false (p:=kF m) (by rw[w2];simp) r hr;unfold kF at this;simpa using this
  .have:=any_false (p:=ke m) (by rw[w3];simp) x hx;unfold ke at this
   grind
 .have:=any_false h3 l hl;unfold jc at this;have:¬(l.init<0\/2<l.init):=by simpa using this
  omega
theorem acO(n:aB):(dt n).flatMap cg.to=n.ag.map (·.var)++n.af.flatMap dy:=by
 unfold dt;rw[BT];congr 1
 .induction n.ag with|nil=>rfl|cons a l ih=>rw[UV,ww,ih];rfl
 .rw[List.flatMap_assoc];congr 1;funext m;unfold iY dy;rw[asK];rfl
theorem Pd{f:α->jp}:∀{l:List α},(l.flatMap f).Nodup->∀{i j:Nat}{x y:α}{v:Int},l[i]?=some x->l[j]?=some y->v∈f x->v∈f y->i=j:=by
 intro l
 induction l with
 |nil=>intro _ i j x y v h;simp at h|cons a l ih=>
  intro hn i j x y v hi hj hx hy;rw[ww,rx]at hn
  grind
section
variable{n:aB}{V:Nat}
theorem cA.abd(s:cA n V):((dt n).flatMap cg.to).Nodup:=by
 rw[acO];have:=s.nodup;unfold bp at this
 grind
theorem cA.mI(s:cA n V){x:cg}(hx:x∈dt n){v:Int}(hv:v∈x.to):1<=v/\v<=(V:Int):=by
 have:v∈(dt n).flatMap cg.to:=rc.2 ⟨x,hx,hv⟩;rw[acO]at this;refine s.eJ v ?_;unfold bp
 grind
theorem cA.uT(s:cA n V){x:cg}(hx:x∈dt n){l:Int}(hl:l∈x.bq):0<=l/\l / 2<=(V:Int):=by
 refine s.lits l ?_;unfold dt at hx;unfold cL;rcases qr.1 hx with hx|hx
 .obtain⟨a,ha,rfl⟩:=rt.1 hx;have:l∈n.ag.flatMap fH:=rc.2 ⟨a,ha,hl⟩;simp[this]
 .obtain⟨m,hm,hx⟩:=rc.1 hx;obtain⟨r,hr,rfl⟩:=rt.1 hx;have:l∈n.af.flatMap dU:=rc.2 ⟨m,hm,by unfold dU;exact qr.2 (.inl (rc.2 ⟨r,hr,hl⟩))⟩;simp[this]
theorem cA.Hz(s:cA n V){x:cg}(hx:x∈dt n):x.to≠[]:=by
 unfold dt at hx;rcases qr.1 hx with hx|hx
 .obtain⟨a,ha,rfl⟩:=rt.1 hx;simp[kS]
 .obtain⟨m,hm,hx⟩:=rc.1 hx;obtain⟨r,hr,rfl⟩:=rt.1 hx;have:=(s.af m hm).2.2.1;unfold lK cM;simp;omega
theorem FW:(bh n)[i]?=((dt n)[i]?).map cg.nd:=by unfold bh;rw[cW]
theorem xV{x:Nd}(h:x∈bh n):∃y∈dt n,x=y.nd:=by
 unfold bh at h
 grind
theorem cA.apart(s:cA n V):gC (bh n):=by
 intro i j x y v hi hj hx hy;rw[FW]at hi hj;obtain⟨x',hi',rfl⟩:=asy.1 hi;obtain⟨y',hj',rfl⟩:=asy.1 hj;obtain⟨a,ha,e1⟩:=rt.1 hx;obtain⟨b,hb,e2⟩:=rt.1 hy;have r1:=s.mI (d5 hi') ha;have r2:=s.mI (d5 hj') hb;have:a=b:=auc
 subst this;exact Pd s.abd hi' hj' ha hb
theorem cA.aS(s:cA n V):∀x∈bh n,∀u∈x.bq,u<=V:=by intro x hx u hu;obtain⟨y,hy,rfl⟩:=xV hx;obtain⟨l,hl,rfl⟩:=rt.1 hu;have:=s.uT hy hl;omega
theorem cA.d8(s:cA n V):∀x∈bh n,x.to≠[]/\∀v∈x.to,v<=V:=by intro x hx;obtain⟨y,hy,rfl⟩:=xV hx;refine⟨by have:=s.Hz hy;unfold cg.nd;simpa using this,fun v hv=>?_⟩;obtain⟨l,hl,rfl⟩:=rt.1 hv;have:=s.mI hy hl;omega
end
variable{x:Nd}
def gV(n:aB):Int:=if da n≠0 then da n else if dO (bh n) n.vars.toNat then 0 else 8
def zc(p:Nat->Bool):Nat->Nat
 |0=>0|k+1=>(if p k then 1 else 0)+zc p k
variable{p:Nat->Bool}{q:Nat->Bool}
theorem acz:∀k,(∀v,v<k->p v=true->q v=true)->zc p k<=zc q k:=by
 intro k
 induction k with
 |zero=>intro _;exact ro _|succ k ih=>
  intro h;have h1:=ih fun v hv=>h v auc;have h2:=h k auc;simp only[zc]
  grind
variable{v:Nat}
theorem aoH:∀k,v<k->q v=true->p v=false->(∀v,v<k->p v=true->q v=true)->zc p k<zc q k:=by
 intro k
 induction k with
 |zero=>intro h;omega|succ k ih=>
  intro hv hq hp h;simp only[zc];by_cases e:v=k
  .subst e;have h1:=acz (p:=p) (q:=q) v fun v hv=>h v auc;rw[hq,hp];simp;omega
  grind
def fresh(V:Nat)(m:jp):Nat:=zc (fun v=>aT m v == 0) (V+1)
section
variable{N:List Nd}{V:Nat}{m lv m' lv' m'' lv'':jp}
structure VI(N:List Nd)(V:Nat)(m lv:jp):Prop where
 ml:m.length=V+1
 ll:lv.length=V+1
 kd:∀v,v<=V->aT m v=0\/aT m v=1\/aT m v=2
 yr:∀x∈N,∀u∈x.to,∀v∈x.to,aT m u=aT m v
 free:∀v,v<=V->(∀x∈N,v∉x.to)->aT m v=0/\aT lv v=0
 done:∀v,v<=V->aT m v=2->∃k:Nat,aT lv v=(k:Int)/\dC N v k
structure Ext(V:Nat)(m lv m' lv':jp):Prop where
 a:∀u,u<=V->aT m u=1->aT m' u=1
 b:∀u,u<=V->aT m' u=1->aT m u=1
 c:∀u,u<=V->aT m u=2->aT m' u=2/\aT lv' u=aT lv u
theorem Ext.refl:Ext V m lv m lv:=⟨fun _ _ h=>h,fun _ _ h=>h,fun _ _ h=>⟨h,rfl⟩⟩
theorem Ext.trans(h:Ext V m lv m' lv')(k:Ext V m' lv' m'' lv''):Ext V m lv m'' lv'':=⟨fun u hu h1=>k.a u hu (h.a u hu h1),fun u hu h1=>h.b u hu (k.b u hu h1),fun u hu h1=>⟨(k.c u hu (h.c u hu h1).1).1,by rw[(k.c u hu (h.c u hu h1).1).2,(h.c u hu h1).2]⟩⟩
def tl(N:List Nd)(m:jp)(u:Nat):Prop:=aT m u=2\/∀x∈N,u∉x.to
theorem Pp(i:VI N V m lv)(i':VI N V m' lv')(h:Ext V m lv m' lv'){u:Nat}(hu:u<=V)(t:tl N m u):tl N m' u/\aT lv' u=aT lv u:=by
 rcases t with t|t
 .exact⟨.inl (h.c u hu t).1,(h.c u hu t).2⟩
 .exact⟨.inr t,by rw[(i.free u hu t).2,(i'.free u hu t).2]⟩
theorem FN(i:VI N V m lv){u:Nat}(hu:u<=V)(t:tl N m u):∃k:Nat,aT lv u=(k:Int)/\dC N u k:=by
 rcases t with t|t
 .exact i.done u hu t
 .exact⟨0,by rw[(i.free u hu t).2];rfl,.free u t⟩
theorem ap1(i:VI N V m lv)(i':VI N V m' lv')(h:Ext V m lv m' lv'):fresh V m'<=fresh V m:=by
 refine acz _ fun v hv hz=>?_;have hv:v<=V:=auc
 have hz:aT m' v=0:=by grind
 rcases i.kd v hv with h0|h0|h0
 .simpa using h0
 .have:=h.a v hv h0;omega
 .have:=(h.c v hv h0).1;omega
theorem VI.under(ap:gC N)(i:VI N V m lv)(hx:x∈N)(d8:∀v∈x.to,v<=V)(hv:v∈x.to)(h0:aT m v=0):VI N V (dT m x.to 1) lv:=by
 refine⟨by rw[lT,i.ml],i.ll,fun u hu=>?_,fun y hy a ha b hb=>?_,fun u hu hf=>?_,fun u hu h2=>?_⟩
 .rw[gk];split
  .exact .inr (.inl rfl)
  .exact i.kd u hu
 .rw[gk,gk];by_cases e:y=x
  .subst e;rw[IO ⟨ha,by rw[i.ml];have:=d8 a ha;omega⟩,IO ⟨hb,by rw[i.ml];have:=d8 b hb;omega⟩]
  .rw[Fr fun h=>e (ap.same hy hx ha h.1),Fr fun h=>e (ap.same hy hx hb h.1)];exact i.yr y hy a ha b hb
 .rw[gk,Fr fun h=>hf x hx h.1];exact i.free u hu hf
 .rw[gk]at h2;split at h2
  .omega
  .exact i.done u hu h2
theorem apd(i:VI N V m lv)(hx:x∈N)(hv:v∈x.to)(hV:v<=V)(h0:aT m v=0):fresh V (dT m x.to 1)<fresh V m:=by
 refine aoH (v:=v) _ auc (by grind) ?_ fun u hu hz=>?_
 .rw[gk,IO ⟨hv,by rw[i.ml];omega⟩];rfl
 .have hz:aT (dT m x.to 1) u=0:=by grind
  rw[gk]at hz
  grind
theorem VI.close(ap:gC N)(i0:VI N V m lv)(hx:x∈N)(d8:∀v∈x.to,v<=V)(aS:∀u∈x.bq,u<=V)(hv:v∈x.to)(h0:aT m v=0)
  (i:VI N V m' lv') (h:Ext V (dT m x.to 1) lv m' lv') (ht:∀u∈x.bq,tl N m' u) {L:Int}(hL:L=((mx (x.bq.map fun u=>(aT lv' u).toNat):Nat):Int)) :
  VI N V (dT m' x.to 2) (dT lv' x.to (L+1))/\Ext V m lv (dT m' x.to 2) (dT lv' x.to (L+1))/\tl N (dT m' x.to 2) v:=by
 have hml:=i.ml;have hll:=i.ll;have hlev:∀u∈x.bq,dC N u (aT lv' u).toNat:=fun u hu=>by obtain⟨k,h1,h2⟩:=FN i (aS u hu) (ht u hu);rw[h1];simpa using h2
 have hm0:∀u∈x.to,aT m u=0:=fun u hu=>by rw[i0.yr x hx u hu v hv,h0]
 refine⟨⟨by rw[lT,hml],by rw[lT,hll],fun u hu=>?_,fun y hy a ha b hb=>?_,fun u hu hf=>?_,fun u hu h2=>?_⟩,⟨fun u hu h1=>?_,fun u hu h1=>?_,fun u hu h2=>?_⟩,?_⟩
 .rw[gk];split
  .exact .inr (.inr rfl)
  .exact i.kd u hu
 .rw[gk,gk];by_cases e:y=x
  .subst e
   grind
  .rw[Fr fun h=>e (ap.same hy hx ha h.1),Fr fun h=>e (ap.same hy hx hb h.1)];exact i.yr y hy a ha b hb
 .rw[gk,Fr fun h=>hf x hx h.1,gk,Fr fun h=>hf x hx h.1];exact i.free u hu hf
 .by_cases hux:u∈x.to
  .refine⟨mx (x.bq.map fun u=>(aT lv' u).toNat)+1,?_,.node x u _ hx hux hlev⟩;rw[gk,IO ⟨hux,by rw[hll];omega⟩,hL];rfl
  .rw[gk,Fr fun h=>hux h.1]at h2;rw[gk,Fr fun h=>hux h.1];exact i.done u hu h2
 .have hux:u∉x.to:=fun hux=>by have:=hm0 u hux;omega
  rw[gk,Fr fun h=>hux h.1];refine h.a u hu ?_;rw[gk,Fr fun h=>hux h.1];exact h1
 .rw[gk]at h1;split at h1
  .omega
  .rename_i hn;have hux:u∉x.to:=fun hux=>hn ⟨hux,by rw[hml];omega⟩;have:=h.b u hu h1
   rwa [gk,Fr fun h=>hux h.1]at this
 .have hux:u∉x.to:=fun hux=>by have:=hm0 u hux;omega
  have:=h.c u hu (by rw[gk,Fr fun h=>hux h.1];exact h2);rw[gk,Fr fun h=>hux h.1,gk,Fr fun h=>hux h.1];exact this
 .refine .inl ?_;rw[gk,IO ⟨hv,by grind⟩]
theorem ap9(hx:x∈N){l:Nat}(hv:v∈x.to)(hl:l∈x.bq)(hd:∀u,u<=V->aT m u=1->mY N u v):∀u,u<=V->aT (dT m x.to 1) u=1->mY N u l:=by
 intro u hu h;rw[gk]at h;split at h
 .rename_i hc;exact .one x u l hx hc.1 hl
 .exact .more x u v l (hd u hu h) hx hv hl
theorem vi0:VI N V (List.replicate (V+1) 0) (List.replicate (V+1) 0):=by
 have hz:∀v,aT (List.replicate (V+1) 0) v=0:=fun v=>by
  unfold aT
  grind
 exact⟨aue,aue,fun v _=>.inl (hz v),fun x _ u _ v _=>by rw[hz,hz],fun v _ _=>⟨hz v,hz v⟩,fun v _ h=>by grind⟩
def gb(N:List Nd)(V:Nat):Nat->jp
 |0=>List.replicate (V+1) 0|k+1=>match N[k]? with|some x=>dT (gb N V k) x.to ((k:Int)+1)|none=>gb N V k
theorem za(N:List Nd)(V:Nat):∀k,(gb N V k).length=V+1:=by
 intro k
 induction k with|zero=>simp[gb]|succ k ih=>rw[gb];cases N[k]?<;>simp[lT,ih]
theorem adl{k:Nat}(h:N[k]?=some x):gb N V (k+1)=dT (gb N V k) x.to ((k:Int)+1):=by rw[gb,h]
theorem anC(ap:gC N)(d8:∀x∈N,∀v∈x.to,v<=V):∀k v,v<=V->(aT (gb N V k) v=0/\∀i x,i<k->N[i]?=some x->v∉x.to)\/∃i x,i<k/\N[i]?=some x/\v∈x.to/\aT (gb N V k) v=(i:Int)+1:=by
 intro k
 induction k with
 |zero=>
  intro v _;left;refine⟨?_,fun i x h=>auc⟩;unfold gb aT
  grind
 |succ k ih=>
  intro v hv;cases hk:N[k]? with
  |none=>
   rw[gb,hk]
   grind
  |some y=>
   rw[adl hk,gk];by_cases hvy:v∈y.to
   .rw[IO ⟨hvy,by rw[za];omega⟩]
    grind
   grind
theorem ab4(ap:gC N)(d8:∀x∈N,∀v∈x.to,v<=V)(hv:v<=V):(aT (gb N V N.length) v=0/\∀x∈N,v∉x.to)\/∃(i:Nat) (x:Nd),N[i]?=some x/\v∈x.to/\aT (gb N V N.length) v=(i:Int)+1:=by
 rcases anC ap d8 N.length v hv with⟨h1,h2⟩|⟨i,x,h1,h2,h3,h4⟩
 .left;refine⟨h1,fun x hx=>?_⟩;obtain⟨i,hi,rfl⟩:=ash hx
  simp_all
 grind
theorem aoQ{l:md}{k u:Nat}{f:Nat->Nat}(h:l[k]?=some u):mx ((l.take (k+1)).map f)=max (mx ((l.take k).map f)) (f u):=by rw[cK h,cH];exact amj _ _
end
end Go.Proofs.YtmkbdfidnfmgmaaGreat.Pl
end
section
namespace Go.Proofs.YtmkbdfidnfmgmaaGreat.V
open Go Go.RowKit Go.Proofs.YtmkbdfidnfmgmaaGreat.Pl
theorem Zz0(v:Int)(k:Nat):cM v (k+1)=cM v k++[v+(k:Int)]:=by unfold cM;rw[asA,cH];rfl
theorem yW(v:Int)(k:Nat):(cM v k).length=k:=by simp[cM]
theorem Pu(m:cC)(i:Nat)(r:fh)(hr:m.reads[i]?=some r)(hw:0<=m.word/\m.word<=4000)(hv:-1099511627776<=r.var/\r.var<=1099511627776) :
  yU (aM m,(i:Int),())=some (cM r.var m.word.toNat,()):=by
 obtain⟨W,hW⟩:=By hw.1;have hi:=jN hr;have hr':(m.reads.map bS)[i]?=some (bS r):=by rw[cW,hr];rfl
 have hL:TA ((i:Int),m.word,(0:Int),m.addr,m.word,m.any,m.reads.map bS,m.writes.map bX,[],())=some (cM r.var m.word.toNat,()):=by
  unfold TA;delta u9;rw[hW,ST];refine vR (fun k:Nat=>((i:Int),(W:Int),(k:Int),m.addr,(W:Int),m.any,m.reads.map bS,m.writes.map bX,cM r.var k,())) W ?_ ?_ NN auh
  .intro k hk
   try dsimp only
   unfold Js;rw[bR auj,aW (aP ⟨auc,by rw[aG];omega⟩),aW (q9 (by simp[yW];omega) (by simp[yW];omega)),bz hr',show(bS r).1=r.var from rfl];rw[bP (x:=r.var+(k:Int)) auc,bP (x:=(k:Int)+1) auc,Zz0];rfl
  .try dsimp only
   unfold Js;rw[bC aui];rfl
 show TO TA (aM m) (i:Int)=_;unfold TO;rw[bC aui,Hv,bC (aJ (by show ¬((m.reads.map bS).length:Int)<=(i:Int);rw[aG];omega))];exact(bg hL).trans rfl
def eu(x:cU):aH.T:=(x.rd,(x.mem:Int),(x.pos:Int),())
abbrev WT:=Int×jp×List ae.T×jp×jp×jp×List ai.T×List ae.T×jp×List aH.T×jp×jp×Unit
def mb(n:aB)(of:jp)(nd:List cU)(m lv:jp):WT:=(n.vars,n.ax,n.ah.map aX,n.bk,n.aU,n.constraints,n.af.map aM,n.ag.map aL,of,nd.map eu,m,lv,())
variable{i:cg}{nd:List cU}{x:cU}{n:aB}{of:jp}{lv:jp}{m:jp}
theorem aaY(h:x.is n i):SG (x.rd,(x.mem:Int),(x.pos:Int),mb n of nd m lv)=some (i.bq,mb n of nd m lv):=by
 show To x.rd (x.mem:Int) (x.pos:Int) n.vars n.ax (n.ah.map aX) n.bk n.aU n.constraints (n.af.map aM) (n.ag.map aL) of (nd.map eu) m lv=_;unfold To;rcases h with⟨h,a,ha,rfl⟩|⟨h,M,r,hM,hr,rfl⟩
 .have ha':(n.ag.map aL)[x.pos]?=some (aL a):=by grind
  have hl:=jN ha';rw[h,bC rfl,aW aug,bz ha'];rfl
 .have hM':(n.af.map aM)[x.mem]?=some (aM M):=by grind
  have hr':(M.reads.map bS)[x.pos]?=some (bS r):=by rw[cW,hr];rfl
  have hl:=jN hM';have hl2:=jN hr';rw[h,bR rfl,aW aug,bz hM',show(aM M).2.2.2.1=M.reads.map bS from rfl,aW aug,bz hr'];rfl
theorem acb(h:x.is n i)(ft:Fit n)(hw:∀M∈n.af,0<=M.word) :
  yH (x.rd,(x.mem:Int),(x.pos:Int),mb n of nd m lv)=some (i.to,mb n of nd m lv):=by
 show yP yU x.rd (x.mem:Int) (x.pos:Int) n.vars n.ax (n.ah.map aX) n.bk n.aU n.constraints (n.af.map aM) (n.ag.map aL) of (nd.map eu) m lv=_;unfold yP;rcases h with⟨h,a,ha,rfl⟩|⟨h,M,r,hM,hr,rfl⟩
 .have ha':(n.ag.map aL)[x.pos]?=some (aL a):=by rw[cW,ha];rfl
  have hl:=jN ha';rw[h,bC rfl,aW aug,bz ha'];rfl
 .have hM':(n.af.map aM)[x.mem]?=some (aM M):=by rw[cW,hM];rfl
  have hl:=jN hM';have hmem:=d5 hM;have hf:=ft.af.2 M hmem;have hr2:=hf.fq r (d5 hr);rw[h,bR rfl,aW aug,bz hM'];exact(bg (Pu M x.pos r hr ⟨hw M hmem,hf.word.2⟩ ⟨hr2.2.1,hr2.2.2.1⟩)).trans rfl
theorem adS{V:Nat}(a:Int)(vs:jp)(hln:vs.length<=100000)(hvs:∀v∈vs,0<=v/\v<=(V:Int))(hm:m.length=V+1) :
  Zbg (a,vs,mb n of nd m lv)=some (vs,mb n of nd (dT m (vs.map Int.toNat) a) lv):=by
 have hL:SV (a,vs,(vs.length:Int),(0:Int),vs,mb n of nd m lv)=some (vs,mb n of nd (dT m (vs.map Int.toNat) a) lv):=by
  unfold SV;delta gK u5 bV cy;refine vR (fun k:Nat=>(a,vs,(vs.length:Int),(k:Int),vs,mb n of nd (dT m ((vs.take k).map Int.toNat) a) lv)) vs.length ?_ ?_ NN auh
  .intro k hk;unfold mb
   try dsimp only
   unfold I4;have hv:=bA hk;obtain⟨h0,h1⟩:=hvs _ (ut hk);obtain⟨v,hv2⟩:=By h0;rw[hv2]at hv h1;rw[bR auj,aW aug,bz (σ:=.I) hv,aW (aP ⟨auc,by rw[lT,hm];omega⟩),bP (x:=(k:Int)+1) auc];rw[cK hv,cH,UV,asr,yT];rfl
  .unfold mb
   try dsimp only
   unfold I4;rw[bC aui,cV];rfl
 show S8 SV a vs n.vars n.ax (n.ah.map aX) n.bk n.aU n.constraints (n.af.map aM) (n.ag.map aL) of (nd.map eu) m lv=_;unfold S8;exact(bg hL).trans rfl
end Go.Proofs.YtmkbdfidnfmgmaaGreat.V
end
section
namespace Go.Proofs.YtmkbdfidnfmgmaaGreat.Pl
theorem ti{l:jp}{v:Nat}(h:v<l.length):l[v]?=some (aT l v):=by unfold aT;grind
variable{y:cg}{n:aB}{V:Nat}
theorem aaX(hs:cA n V)(hy:y∈dt n){k:Nat}{l:Int}(h:y.bq[k]?=some l):∃u:Nat,l / 2=(u:Int)/\u<=V/\y.nd.bq[k]?=some u/\0<=l/\l<=2*V+1:=by
 have:=hs.uT hy (d5 h);refine⟨(l / 2).toNat,auc,auc,?_,auc,auc⟩;unfold cg.nd
 grind
theorem vN(hs:cA n V)(hy:y∈dt n):y.to.length<=64/\y.bq.length<=62:=by
 unfold dt at hy;rcases qr.1 hy with hy|hy
 .obtain⟨a,ha,rfl⟩:=rt.1 hy;simp[kS]
 .obtain⟨m,hm,hy⟩:=rc.1 hy;obtain⟨r,hr,rfl⟩:=rt.1 hy;have h1:=hs.af m hm;have h2:=h1.2.2.2.2.1 r hr;unfold lK cM;simp;omega
variable{N:List Nd}{l:md}{lv:jp}{m:jp}
theorem ami{m' lv':jp}(i:VI N V m lv)(i':VI N V m' lv')(h:Ext V m lv m' lv')(hl:∀u∈l,u<=V)(ht:∀u∈l,tl N m u) :
  mx (l.map fun u=>(aT lv' u).toNat)=mx (l.map fun u=>(aT lv u).toNat):=by
 rw[Zti fun u hu=>by rw[(Pp i i' h (hl u hu) (ht u hu)).2]]
theorem ano(ap:gC N)(i:VI N V m lv)(hl:∀u∈l,u<=V)(ht:∀u∈l,tl N m u):mx (l.map fun u=>(aT lv u).toNat)<=N.length:=by refine ab1 fun z hz=>?_;obtain⟨u,hu,rfl⟩:=rt.1 hz;obtain⟨k,h1,h2⟩:=FN i (hl u hu) (ht u hu);rw[h1];have:=h2.le ap;simpa using this
theorem pU{α β:Type}(f:α->List β):∀(l:List α) (k:Nat),(∀x∈l,(f x).length<=k)->(l.flatMap f).length<=l.length*k:=by
 intro l k
 induction l with
 |nil=>intro _;simp|cons x l ih=>
  intro h;rw[ww,bF,dG,atj]
  grind
theorem zk(hs:cA n V):(bh n).length<=3000:=by unfold bh dt;rw[aG,bF,aG];have h1:=hs.lens;have h2:=pU iY n.af 4 (fun m hm=>by unfold iY;rw[aG];exact(hs.af m hm).2.2.2.2.2.2.1);omega
end Go.Proofs.YtmkbdfidnfmgmaaGreat.Pl
end
section
namespace Go.Proofs.YtmkbdfidnfmgmaaGreat.V
open Go Go.RowKit Go.Proofs.YtmkbdfidnfmgmaaGreat.Pl
theorem ao9(l:Int):oT (l,())=some (l / 2,()):=by show TP l=_;unfold TP;rw[Int.fdiv_eq_ediv_of_nonneg _ auf];rfl
variable{l:Int}
theorem zl{q:Int}(h:l / 2=q):oT (l,())=some (q,()):=by rw[ao9,h]
def aoI(n:aB)(V:Nat)(m lv:jp)(v:Nat)(b:Bool)(m' lv':jp):Prop:=(b=true/\VI (bh n) V m' lv'/\Ext V m lv m' lv'/\tl (bh n) m' v)\/(b=false/\∃u,u<=V/\∀k,¬dC (bh n) u k)
def wk(n:aB)(V:Nat)(m lv:jp):WT:=mb n (gb (bh n) V (bh n).length) (d7 n) m lv
abbrev WV:=Int×jp×List ae.T×jp×jp×jp×List ai.T×List ae.T×jp×List aH.T×jp×jp×jp×Unit
def wv(n:aB)(V:Nat)(m lv vs:jp):WV:=(n.vars,n.ax,n.ah.map aX,n.bk,n.aU,n.constraints,n.af.map aM,n.ag.map aL,gb (bh n) V (bh n).length,(d7 n).map eu,m,lv,vs,())
theorem ans{n:aB}{V:Nat}{F:be Sv Iq}(L:Nat)(hL:L<=3000)(m lv vs:jp)(hln:vs.length<=100000)(hvs:∀v∈vs,0<=v/\v<=(V:Int))(hm:lv.length=V+1) :
  SX F ((L:Int),vs,(vs.length:Int),(0:Int),wv n V m lv vs)=some (wv n V m (dT lv (vs.map Int.toNat) ((L:Int)+1)) vs):=by
 unfold SX;refine vR (fun k:Nat=>((L:Int),vs,(vs.length:Int),(k:Int),wv n V m (dT lv ((vs.take k).map Int.toNat) ((L:Int)+1)) vs)) vs.length ?_ ?_ NN auh
 .intro k hk;unfold wv
  try dsimp only
  unfold I8;have hv:=bA hk;obtain⟨h0,h1⟩:=hvs _ (ut hk);obtain⟨v,hv2⟩:=By h0;rw[hv2]at hv h1;rw[bR auj,aW aug,bz (σ:=.I) hv,aW (aP ⟨auc,by rw[lT,hm];omega⟩),bP (x:=(k:Int)+1) auc,bP (x:=(L:Int)+1) auc];rw[cK hv,cH,UV,asr,yT];rfl
 .unfold wv
  try dsimp only
  unfold I8;rw[bC aui,cV];rfl
theorem alH{n:aB}{V:Nat}(hs:cA n V)(ft:Fit n):∀(F:Nat) (m lv:jp) (v:Nat),VI (bh n) V m lv->(∀u,u<=V->aT m u=1->mY (bh n) u v)->v<=V->fresh V m<F ->
  ∃b m' lv',vt F ((v:Int),wk n V m lv)=some (b,wk n V m' lv')/\aoI n V m lv v b m' lv':=by
 intro F
 induction F with
 |zero=>intro m lv v _ _ _ h;omega|succ F ih=>
  intro m lv v hI hD hv hF;have hV2:=hs.v2;have hnl:=zk hs;have hmw:∀M∈n.af,0<=M.word:=fun M hM=>by have:=hs.af M hM;omega
  obtain⟨of,hof⟩:∃of,of=gb (bh n) V (bh n).length:=⟨_,rfl⟩;have hofl:of.length=V+1:=by rw[hof];exact za _ _ _
  have hofv:of[v]?=some (aT of v):=ti auc;have hmv:m[v]?=some (aT m v):=ti (by rw[hI.ml];omega);show ∃b m' lv',Tl oT (vt F) SG Zbg yH (SY (vt F)) (SX (vt F)) (v:Int) n.vars n.ax (n.ah.map aX) n.bk n.aU n.constraints (n.af.map aM) (n.ag.map aL) (gb (bh n) V (bh n).length) ((d7 n).map eu) m lv=_/\_;rw[<-hof];unfold Tl;rw[aW aug,bz (σ:=.I) hofv];rcases ab4 hs.apart (fun x hx=>(hs.d8 x hx).2) hv with⟨h1,h2⟩|⟨i,x,h1,h2,h3⟩
  .rw[<-hof]at h1;rw[h1,bR (aF rfl)];exact⟨true,m,lv,by rw[hof];rfl,.inl ⟨rfl,hI,Ext.refl,.inr h2⟩⟩
  rw[<-hof]at h3;rw[h3,bC aui,aW (aP ⟨auc,by rw[hI.ml];omega⟩),Hv,bz (σ:=.int .u8) hmv];rcases hI.kd v hv with hk|hk|hk
  .-- its node's literals
   subst hof;have hil:=jN h1;have hnl2:(d7 n).length=(bh n).length:=by rw[JE];unfold bh;rw[aG]
   obtain⟨xd,hxd⟩:∃xd,(d7 n)[i]?=some xd:=⟨_,bA auc⟩;obtain⟨y,hy1,hy2⟩:=xU n hxd;have hxy:x=y.nd:=by rw[FW,hy1]at h1;simpa using h1.symm
   subst hxy;have hy:=d5 hy1;have hx:=d5 h1;have hxd':((d7 n).map eu)[i]?=some (eu xd):=by rw[cW,hxd];rfl
   have hvs:∀u∈y.to,0<=u/\u<=(V:Int):=fun u hu=>by have:=hs.mI hy hu;omega
   have hlens:=vN hs hy;have hfr:∀u∈y.nd.bq,u<=V:=fun u hu=>hs.aS _ hx u hu;have hI5:=hI.under hs.apart hx (fun u hu=>(hs.d8 _ hx).2 u hu) h2 hk;rw[hk,bC aui,aW (aP ⟨auc,by rw[hI.ml];omega⟩),bC aui,aW aug];rw[show((i:Int)+1-1)=(i:Int) by omega,bP (x:=(i:Int)) auc,aW (aP ⟨auc,by rw[aG];omega⟩),bz hxd'];have e1:=acb (of:=gb (bh n) V (bh n).length) (m:=m) (lv:=lv) (nd:=d7 n) hy2 ft hmw;have e2:=adS (n:=n) (of:=gb (bh n) V (bh n).length) (nd:=d7 n) (lv:=lv) 1 y.to auc hvs hI.ml;have e3:=aaY (n:=n) (of:=gb (bh n) V (bh n).length) (nd:=d7 n) (m:=dT m (y.to.map Int.toNat) 1) (lv:=lv) hy2;have hL11:∃o,SY (vt F) ((0:Int),y.bq,(y.bq.length:Int),(0:Int),wv n V (dT m y.nd.to 1) lv y.to)=some o /\
     ((∃m' lv',o=.inl (false,wk n V m' lv')/\∃u,u<=V/\∀k,¬dC (bh n) u k) \/
      ∃(m' lv':jp) (L:Nat),o=.inr ((L:Int),wv n V m' lv' y.to)/\VI (bh n) V m' lv'/\Ext V (dT m y.nd.to 1) lv m' lv'/\(∀u∈y.nd.bq,tl (bh n) m' u)/\L=mx (y.nd.bq.map fun u=>(aT lv' u).toNat)):=by
    unfold SY;refine jD (fun d=>∃(k:Nat) (m' lv':jp) (L:Nat),k<=y.bq.length/\d=((L:Int),y.bq,(y.bq.length:Int),(k:Int),wv n V m' lv' y.to)/\VI (bh n) V m' lv'/\Ext V (dT m y.nd.to 1) lv m' lv' /\
     (∀u∈y.nd.bq.take k,tl (bh n) m' u)/\L=mx ((y.nd.bq.take k).map fun u=>(aT lv' u).toNat)) _ (fun d=>y.bq.length-d.2.2.2.1.toNat) ?_ NN _ ⟨0,_,lv,0,Do _,rfl,hI5,Ext.refl,aue,rfl⟩ (bG (by have:=hlens.2;omega))
    rintro d ⟨k,m',lv',L,hk',rfl,hI',hE',hT',hL⟩;unfold wv
    try dsimp only
    unfold Tv;by_cases hlt:k<y.bq.length
    .have hl:=bA hlt;obtain⟨u,hu1,hu2,hu3,hl0,hl1⟩:=aaX hs hy hl;have hlt2:fresh V m'<F:=by have h1:=ap1 hI5 hI' hE';have h2:=apd hI hx h2 hv hk;omega
     have hdep:∀t,t<=V->aT m' t=1->mY (bh n) t u:=fun t ht h=>ap9 hx h2 (d5 hu3) hD t ht (hE'.b t ht h);obtain⟨b,m2,lv2,g1,g2⟩:=ih m' lv' u hI' hdep hu2 hlt2;rw[bR auj,aW aug,bz (σ:=.I) hl];rcases g2 with⟨rfl,gI,gE,gT⟩|⟨rfl,u',hu',hno⟩
     .right;obtain⟨kk,hk1,hk2⟩:=FN gI hu2 gT;have hkl:=EQ (hk2.le hs.apart) hnl;have hlu:lv2[u]?=some (kk:Int):=by rw[<-hk1];exact ti (by rw[gI.ll];omega)
      have hT:∀u'∈y.nd.bq.take (k+1),tl (bh n) m2 u':=fun u' h'=>by
       rw[cK hu3]at h';rcases qr.1 h' with h'|h'
       .exact(Pp hI' gI gE (hfr u' (asf h')) (hT' u' h')).1
       .simp at h';subst h';exact gT
      have hmx:mx ((y.nd.bq.take (k+1)).map fun u=>(aT lv2 u).toNat)=max L kk:=by rw[aoQ hu3,ami hI' gI gE (fun u hu=>hfr u (asf hu)) hT',<-hL,hk1,ST]
      refine⟨((max L kk:Nat),y.bq,(y.bq.length:Int),((k+1:Nat):Int),wv n V m2 lv2 y.to),?_,⟨k+1,m2,lv2,max L kk,auc,rfl,gI,hE'.trans gE,hT,hmx.symm⟩,?_⟩
      .refine(bg (zl hu1)).trans ((bg g1).trans ?_);refine(bC rfl).trans ((aW (aP ⟨auc,by show(u:Int)<((List.length lv2:Nat):Int);rw[gI.ll];omega⟩)).trans ?_);have hsel:fD (@decide _ (Int.decLt (L:Int) (gt .I lv2 (u:Int)))) (gt .I lv2 (u:Int)) (L:Int)=((max L kk:Nat):Int):=by
        rw[bz (σ:=.I) hlu];unfold fD;split
        .rename_i q;have q:=asl q;have:max L kk=kk:=auc
         rw[this]
        .rename_i q;have q:=asM q;have:max L kk=L:=auc
         rw[this]
       have e:∀a b a' b':Int,a=a'->b=b'->(aul (a,y.bq,(y.bq.length:Int),b,wv n V m2 lv2 y.to):am IM IH)=aul (a',y.bq,(y.bq.length:Int),b',wv n V m2 lv2 y.to):=by rintro _ _ _ _ rfl rfl;rfl
       exact e _ _ _ _ hsel (bP (x:=(k:Int)+1) auc)
      .show y.bq.length-((k+1:Nat):Int).toNat<y.bq.length-(k:Int).toNat;omega
     .left;refine⟨_,(bg (zl hu1)).trans ((bg g1).trans ?_),.inl ⟨m2,lv2,rfl,u',hu',hno⟩⟩;exact(bR rfl).trans rfl
    .left;have hlen:y.nd.bq.length<=k:=by unfold cg.nd;rw[aG];omega
     rw[IT hlen]at hT' hL;rw[bC aui];exact⟨_,rfl,.inr ⟨m',lv',L,rfl,hI',hE',hT',hL⟩⟩
   obtain⟨o,ho,hcase⟩:=hL11;rcases hcase with⟨m',lv',rfl,u',hu',hno⟩|⟨m',lv',L,rfl,hI',hE',hT',hL⟩
   .refine⟨false,m',lv',?_,.inr ⟨rfl,u',hu',hno⟩⟩;refine(bg e1).trans ((bg e2).trans ((bg e3).trans ((bg ho).trans ?_)));rfl
   .have hmxl:L<=3000:=by rw[hL];exact EQ (ano hs.apart hI' hfr hT') hnl
    have c:=hI.close hs.apart hx (fun u hu=>(hs.d8 _ hx).2 u hu) hfr h2 hk hI' hE' hT' (L:=(L:Int)) (by rw[hL]);have e5:=ans (n:=n) (V:=V) (F:=vt F) L hmxl m' lv' y.to auc hvs hI'.ll;have e6:=adS (n:=n) (of:=gb (bh n) V (bh n).length) (nd:=d7 n) (lv:=dT lv' (y.to.map Int.toNat) ((L:Int)+1)) 2 y.to auc hvs hI'.ml;refine⟨true,dT m' y.nd.to 2,dT lv' y.nd.to ((L:Int)+1),?_,.inl ⟨rfl,c.1,c.2.1,c.2.2⟩⟩;refine(bg e1).trans ((bg e2).trans ((bg e3).trans ((bg ho).trans ((bg e5).trans ?_))));exact(bg e6).trans rfl
  .rw[hk,bC aui,aW (aP ⟨auc,by rw[hI.ml];omega⟩),bR (aF rfl)];exact⟨false,m,lv,by rw[hof];rfl,.inr ⟨rfl,v,hv,fun k=>mY.none hs.apart (hD v hv hk) k⟩⟩
  .rw[hk,bR (aF rfl)];exact⟨true,m,lv,by rw[hof];rfl,.inl ⟨rfl,hI,Ext.refl,.inl hk⟩⟩
theorem N1(m:cC)(i:Nat)(r:fh)(hr:m.reads[i]?=some r)(hw:0<=m.word/\m.word<=4000)(hv:-1099511627776<=r.var/\r.var<=1099511627776) :
  II (aM m,(i:Int),())=some (cM r.var m.word.toNat,()):=by
 obtain⟨W,hW⟩:=By hw.1;have hi:=jN hr;have hr':(m.reads.map bS)[i]?=some (bS r):=by rw[cW,hr];rfl
 have hL:S3 ((i:Int),(0:Int),m.addr,m.word,m.any,m.reads.map bS,m.writes.map bX,[],())=some (cM r.var m.word.toNat,()):=by
  unfold S3;delta u8;rw[hW,ST];refine vR (fun k:Nat=>((i:Int),(k:Int),m.addr,(W:Int),m.any,m.reads.map bS,m.writes.map bX,cM r.var k,())) W ?_ ?_ NN auh
  .intro k hk
   try dsimp only
   unfold Jc;rw[bR auj,aW (aP ⟨auc,by rw[aG];omega⟩),aW (q9 (by simp[yW];omega) (by simp[yW];omega)),bz hr',show(bS r).1=r.var from rfl];rw[bP (x:=r.var+(k:Int)) auc,bP (x:=(k:Int)+1) auc,Zz0];rfl
  .try dsimp only
   unfold Jc;rw[bC aui];rfl
 show Tm S3 (aM m) (i:Int)=_;unfold Tm;rw[bC aui,Hv,bC (aJ (by show ¬((m.reads.map bS).length:Int)<=(i:Int);rw[aG];omega))];exact(bg hL).trans rfl
theorem abk(h:0<=l/\l<=1000000){u:Nat}(hu:l / 2=(u:Int)):qj (l,())=some ((u:Int),()):=by show yO l=_;unfold yO;rw[Int.tdiv_eq_ediv_of_nonneg h.1,hu,auk];rfl
def n7(L:jp)(i:Int):Int:=gt .I L i
variable{i:Nat}
theorem xS{L:jp}{x:Int}(h:L[i]?=some x):n7 L (i:Int)=x:=bz (σ:=.I) h
def bB(x:cU×cg):bT.T:=(x.1.rd,(x.1.mem:Int),(x.1.pos:Int),x.2.bq,x.2.to,())
variable{B:Int}
theorem ak1{V:Nat}(x:cU×cg)(out:jp)(hB:∀u,u<=V->aT out u<=B)(hB0:0<=B/\B<=1000000000000)(hl:out.length=V+1)(hV:V<=2000)
  (hf:∀l∈x.2.bq,0<=l/\l<=2*(V:Int)+1) (hfl:x.2.bq.length<=100000):Sy (bB x,out,())=some (gF out x.2.nd.bq 0,()):=by
 have hfr:∀k,x.2.nd.bq.drop k=(x.2.bq.drop k).map fun l=>(l / 2).toNat:=fun k=>by unfold cg.nd;rw[List.map_drop]
 have hL:=jD (B:=fun d=>Tx qj d.1 d.2.1 d.2.2.1 d.2.2.2.1 d.2.2.2.2.1 d.2.2.2.2.2.1 d.2.2.2.2.2.2.1 d.2.2.2.2.2.2.2.1)
  (I:=fun d:TL yK.σs=>∃(k:Nat) (n:Int),d=(out,n,(k:Int),bB x)/\k<=x.2.bq.length/\0<=n/\n<=B/\gF out (x.2.nd.bq.drop k) n=gF out x.2.nd.bq 0)
  (Q:=fun o:Out yJ=>(o=.inl ((-1:Int),())/\gF out x.2.nd.bq 0 = -1)\/∃n:Int,o=.inr (n,())/\n<=B/\0<=n/\gF out x.2.nd.bq 0=n+1)
  (μ:=fun d=>x.2.bq.length-d.2.2.1.toNat) ?_ NN (out,(0:Int),(0:Int),bB x) ⟨0,0,rfl,auc,auc,hB0.1,by rw[List.drop_zero]⟩ (bG (by show _-_<=_;omega))
 .obtain⟨o,ho,hcase⟩:=hL;have ho':Zfs (out,(0:Int),(0:Int),bB x)=some o:=ho;rcases hcase with⟨rfl,h⟩|⟨n,rfl,hn,hn0,h⟩
  .rw[h];exact aZ ho' rfl
  .rw[h];have e:∀a b:Int,a=b->(some (a,()):Option (Int×Unit))=some (b,()):=by rintro _ _ rfl;rfl
   exact aZ ho' (e _ _ (bP (x:=n+1) auc))
 .rintro _ ⟨k,n,rfl,hk,h0,hn,hr⟩;by_cases hlt:k<x.2.bq.length
  .have hg:=bA hlt;obtain⟨a1,a2⟩:=hf _ (ut hlt);obtain⟨u,hu⟩:=By (show 0<=x.2.bq[k] / 2 by omega);have huV:u<=V:=auc
   have hlu:out[u]?=some (aT out u):=by unfold aT;rw[ff,bA auc];rfl
   have e1:=abk (l:=x.2.bq[k]) ⟨a1,auc⟩ hu;have hdrop:x.2.nd.bq.drop k=u::x.2.nd.bq.drop (k+1):=by rw[hfr,hfr,ass hlt,UV,hu];rfl
   rw[hdrop,gF]at hr;by_cases hneg:aT out u<0
   .left;rw[IO hneg]at hr;refine⟨.inl ((-1:Int),()),?_,.inl ⟨rfl,hr.symm⟩⟩;refine ba (aF (show(k:Int)<((x.2.bq.length:Nat):Int) by omega)) (aK (aP ⟨show(0:Int)<=(k:Int) by omega,by show(k:Int)<((x.2.bq.length:Nat):Int);omega⟩) ?_);refine(bg (show qj (gt .I x.2.bq (k:Int),())=some ((u:Int),()) by rw[bz (σ:=.I) hg];exact e1)).trans ?_;refine aK (aP ⟨show(0:Int)<=(u:Int) by omega,by rw[hl];show(u:Int)<_;omega⟩) (ba (aF (show n7 out (u:Int)<(0:Int) by rw[xS hlu];exact hneg)) rfl)
   .right;rw[Fr hneg]at hr;have hBu:=hB u huV;refine⟨(out,(max n (aT out u):Int),((k+1:Nat):Int),bB x),?_,⟨k+1,max n (aT out u),rfl,auc,auc,auc,hr⟩,?_⟩
    .refine ba (aF (show(k:Int)<((x.2.bq.length:Nat):Int) by omega)) (aK (aP ⟨show(0:Int)<=(k:Int) by omega,by show(k:Int)<((x.2.bq.length:Nat):Int);omega⟩) ?_);refine(bg (show qj (gt .I x.2.bq (k:Int),())=some ((u:Int),()) by rw[bz (σ:=.I) hg];exact e1)).trans ?_;refine aK (aP ⟨show(0:Int)<=(u:Int) by omega,by rw[hl];show(u:Int)<_;omega⟩) (aN (aJ (show ¬n7 out (u:Int)<(0:Int) by rw[xS hlu];exact hneg)) ?_);have e:∀a b a' b':Int,a=a'->b=b'->(aul (out,a,b,bB x):am yK yJ)=aul (out,a',b',bB x):=by rintro _ _ _ _ rfl rfl;rfl
     refine e _ _ _ _ ?_ (bP (x:=(k:Int)+1) auc);show fD (decide (n<n7 out (u:Int))) (n7 out (u:Int)) n=_;rw[xS hlu];unfold fD;split
     .rename_i q;have q:=asl q;show aT out u=_;omega
     .rename_i q;have q:=asM q;show n=_;have q:¬n<aT out u:=q;omega
    .show x.2.bq.length-((k+1:Nat):Int).toNat<x.2.bq.length-(k:Int).toNat;omega
  .left;have hnil:x.2.nd.bq.drop k=[]:=by rw[hfr,asG auc];rfl
   rw[hnil,gF]at hr;exact⟨.inr (n,()),aN (aJ (show ¬(k:Int)<((x.2.bq.length:Nat):Int) by omega)) rfl,.inr ⟨n,rfl,hn,h0,hr.symm⟩⟩
theorem apr(l:jp)(vs ws:md)(x:Int):dT l (vs++ws) x=dT (dT l vs x) ws x:=by simp[dT,aso]
theorem Uf{x B:Int}(hx:x<=B):∀(vs:md) {l:jp},(∀u,aT l u<=B)->∀u,aT (dT l vs x) u<=B
 |[],l,h,u=>h u|v::vs,l,h,u=>by
  have:dT l (v::vs) x=dT (l.set v x) vs x:=rfl;rw[this];refine Uf hx vs (fun u=>?_) u;rw[adW]
  grind
theorem Zyk{out:jp}{B:Int}(hB:∀u,aT out u<=B):∀(us:md) (n:Int),n<=B->0<=B->gF out us n<=B+1
 |[],n,h,h0=>by rw[gF];omega|u::us,n,h,h0=>by
  rw[gF];split
  .omega
  .exact Zyk hB us _ (by grind) h0
structure N6(N:List (cU×cg))(V:Nat):Prop where
 v2:V<=2000
 len:N.length<=3000
 to:∀x∈N,x.2.to.length<=100000/\∀v∈x.2.to,0<=v/\v<=(V:Int)
 bq:∀x∈N,x.2.bq.length<=100000/\∀l∈x.2.bq,0<=l/\l<=2*(V:Int)+1
variable{N:List (cU×cg)}
theorem aoi{V:Nat}(h6:N6 N V){x:cU×cg}(hx:N[i]?=some x)(out:jp)(hl:out.length=V+1) :
  IV (N.map bB,(i:Int),(0:Int),out,())=some (N.map bB,(i:Int),dT out x.2.nd.to (-1),()):=by
 have hx':(N.map bB)[i]?=some (bB x):=by grind
 have hi:=jN hx';obtain⟨h1,h2⟩:=h6.to x (d5 hx);unfold IV;delta u4;refine cO (fun k:Nat=>(N.map bB,(i:Int),(k:Int),dT out ((x.2.to.take k).map Int.toNat) (-1),())) x.2.to.length rfl ?_ ?_ auh
 .intro k hk;have hv:=bA hk;obtain⟨v0,v1⟩:=h2 _ (ut hk);obtain⟨v,hv2⟩:=By v0;rw[hv2]at hv v1
  try dsimp only
  unfold I6;rw[aW aug,bz hx'];refine ba (aF (show(k:Int)<((x.2.to.length:Nat):Int) by omega)) (aK aug (aK (aP ⟨show(0:Int)<=(k:Int) by omega,show(k:Int)<((x.2.to.length:Nat):Int) by omega⟩) ?_));have hg:n7 x.2.to (k:Int)=(v:Int):=xS hv;refine aK (show an (n7 x.2.to (k:Int)) (List.length (dT out ((x.2.to.take k).map Int.toNat) (-1)))=true by rw[hg];exact aP ⟨auc,by rw[lT,hl];omega⟩) ?_;have e:∀(a a':Int) (b b':jp),a=a'->b=b'->(aul (N.map bB,(i:Int),a,b,()):am Iz Iv)=aul (N.map bB,(i:Int),a',b',()):=by rintro _ _ _ _ rfl rfl;rfl
  refine e _ _ _ _ (bP (x:=(k:Int)+1) auc) ?_;rw[cK hv,cH,UV,asr,yT];show List.set (dT out ((x.2.to.take k).map Int.toNat) (-1)) (n7 x.2.to (k:Int)).toNat (-1)=_;rw[hg]
 .try dsimp only
  unfold I6;rw[aW aug,bz hx'];refine aN (aJ (show ¬((x.2.to.length:Nat):Int)<((x.2.to.length:Nat):Int) by omega)) ?_;rw[cV];rfl
theorem abu{V:Nat}(h6:N6 N V){x:cU×cg}(hx:N[i]?=some x)(a b c:Int)(out:jp)(hl:out.length=V+1) :
  IC (N.map bB,a,b,(i:Int),c,(0:Int),out,())=some (N.map bB,a,b,(i:Int),dT out x.2.nd.to c,()):=by
 have hx':(N.map bB)[i]?=some (bB x):=by grind
 have hi:=jN hx';obtain⟨h1,h2⟩:=h6.to x (d5 hx);unfold IC;delta u7;refine cO (fun k:Nat=>(N.map bB,a,b,(i:Int),c,(k:Int),dT out ((x.2.to.take k).map Int.toNat) c,())) x.2.to.length rfl ?_ ?_ auh
 .intro k hk;have hv:=bA hk;obtain⟨v0,v1⟩:=h2 _ (ut hk);obtain⟨v,hv2⟩:=By v0;rw[hv2]at hv v1
  try dsimp only
  unfold IX;rw[aW aug,bz hx'];refine ba (aF (show(k:Int)<((x.2.to.length:Nat):Int) by omega)) (aK aug (aK (aP ⟨show(0:Int)<=(k:Int) by omega,show(k:Int)<((x.2.to.length:Nat):Int) by omega⟩) ?_));have hg:n7 x.2.to (k:Int)=(v:Int):=xS hv;refine aK (show an (n7 x.2.to (k:Int)) (List.length (dT out ((x.2.to.take k).map Int.toNat) c))=true by rw[hg];exact aP ⟨auc,by rw[lT,hl];omega⟩) ?_;have e:∀(p p':Int) (q q':jp),p=p'->q=q'->(aul (N.map bB,a,b,(i:Int),c,p,q,()):am It Is)=aul (N.map bB,a,b,(i:Int),c,p',q',()):=by rintro _ _ _ _ rfl rfl;rfl
  refine e _ _ _ _ (bP (x:=(k:Int)+1) auc) ?_;rw[cK hv,cH,UV,asr,yT];show List.set (dT out ((x.2.to.take k).map Int.toNat) c) (n7 x.2.to (k:Int)).toNat c=_;rw[hg]
 .try dsimp only
  unfold IX;rw[aW aug,bz hx'];refine aN (aJ (show ¬((x.2.to.length:Nat):Int)<((x.2.to.length:Nat):Int) by omega)) ?_;rw[cV];rfl
theorem aoh{V:Nat}(h6:N6 N V)(out:jp)(hl:out.length=V+1) :
  SW (N.map bB,(0:Int),out,())=some (N.map bB,dT out ((N.map (·.2.nd)).flatMap (·.to)) (-1),()):=by
 have hn:=h6.len;unfold SW;delta u3;refine cO (fun i:Nat=>(N.map bB,(i:Int),dT out (((N.take i).map (·.2.nd)).flatMap (·.to)) (-1),())) N.length rfl ?_ ?_ auh
 .intro i hi;have hx:=bA hi
  try dsimp only
  unfold I7;refine ba (aF (show(i:Int)<(((N.map bB).length:Nat):Int) by rw[aG];omega)) ((bg (aoi h6 hx _ (by rw[lT,hl]))).trans ?_);have e:∀(p p':Int) (q q':jp),p=p'->q=q'->(aul (N.map bB,p,q,()):am IK IF)=aul (N.map bB,p',q',()):=by intros;subst_vars;rfl
  refine e _ _ _ _ (bP (x:=(i:Int)+1) auc) ?_;rw[cK hx,cH,BT,apr];simp
 .try dsimp only
  unfold I7;refine aN (aJ (show ¬((N.length:Nat):Int)<(((N.map bB).length:Nat):Int) by rw[aG];omega)) ?_;rw[cV];rfl
theorem ao6(M:List Nd)(x:Nd)(out:jp):jO (M++[x]) out=jT (jO M out) x:=by unfold jO;rw[aso];rfl
theorem TH:∀(M:List Nd) (out:jp),(jO M out).length=out.length
 |[],out=>rfl|x::M,out=>by show(jO M (jT out x)).length=_;rw[TH M,T9]
theorem Zyn(x:Nd):∀(M:List Nd) (out:jp),jB (M++[x]) out=jB M out+(if gF (jO M out) x.bq 0<0 then 1 else 0)
 |[],out=>by show(if gF out x.bq 0<0 then 1 else 0)+0=0+_;rw[asz];rfl
 |y::M,out=>by show(if gF out y.bq 0<0 then 1 else 0)+jB (M++[x]) (jT out y)=_;rw[Zyn x M (jT out y)];show _=(if gF out y.bq 0<0 then 1 else 0)+jB M (jT out y)+_;rw[asP];rfl
theorem Ur:∀(M:List Nd) (out:jp),jB M out<=M.length
 |[],out=>ro _|y::M,out=>by have:=Ur M (jT out y);show(if gF out y.bq 0<0 then 1 else 0)+jB M (jT out y)<=M.length+1;split<;>omega
theorem TT:∀(M:List Nd) {out:jp}{B:Int},0<=B->(∀u,aT out u<=B)->∀u,aT (jO M out) u<=B+(M.length:Int)
 |[],out,B,h0,h,u=>by have:=h u;show aT out u<=B+((0:Nat):Int);omega|y::M,out,B,h0,h,u=>by have h1:∀u,aT (jT out y) u<=B+1:=Uf (Zyk h y.bq 0 h0 h0) y.to (fun u=>by grind);have:=TT M (out:=jT out y) (B:=B+1) auc h1 u;show aT (jO M (jT out y)) u<=B+((M.length+1:Nat):Int);omega
theorem anl{V:Nat}(h6:N6 N V)(r:Int)(out:jp)(hl:out.length=V+1)(hB:∀u,aT out u<=B)(hB0:0<=B/\B<=900000000000) :
  IQ (N.map bB,(0:Int),r,(0:Int),out,())=some (N.map bB,(jB (N.map (·.2.nd)) out:Int),r,jO (N.map (·.2.nd)) out,()):=by
 have hn:=h6.len;unfold IQ;delta u5;refine cO (fun i:Nat=>(N.map bB,(jB ((N.take i).map (·.2.nd)) out:Int),r,(i:Int),jO ((N.take i).map (·.2.nd)) out,())) N.length rfl ?_ ?_ auh
 .intro i hi;have hx:=bA hi;have hx':(N.map bB)[i]?=some (bB N[i]):=by rw[cW,hx];rfl
  obtain⟨f1,f2⟩:=h6.bq _ (ut hi);have hlen:((N.take i).map (fun x:cU×cg=>x.2.nd)).length<=3000:=by grind
  have hle:=Ur ((N.take i).map (fun x:cU×cg=>x.2.nd)) out;have hb:=TT ((N.take i).map (fun x:cU×cg=>x.2.nd)) hB0.1 hB;have hrl:(jO ((N.take i).map (fun x:cU×cg=>x.2.nd)) out).length=V+1:=by rw[TH,hl]
  have e1:=ak1 (V:=V) (B:=B+(((N.take i).map (fun x:cU×cg=>x.2.nd)).length:Int)) N[i] _ (fun u _=>hb u) ⟨auc,auc⟩ hrl h6.v2 f2 f1
  try dsimp only
  unfold IY;refine ba (aF (show(i:Int)<(((N.map bB).length:Nat):Int) by rw[aG];omega)) (aK (aP ⟨auc,by rw[aG];omega⟩) ?_);rw[bz hx'];refine(bg e1).trans ?_;have e:∀(p p' q q':Int) (s s':jp),p=p'->q=q'->s=s'->(aul (N.map bB,p,r,q,s,()):am Iw Iu)=aul (N.map bB,p',r,q',s',()):=by rintro _ _ _ _ _ _ rfl rfl rfl;rfl
  have hs:jO ((N.take (i+1)).map (fun x:cU×cg=>x.2.nd)) out=dT (jO ((N.take i).map (fun x:cU×cg=>x.2.nd)) out) N[i].2.nd.to (gF (jO ((N.take i).map (fun x:cU×cg=>x.2.nd)) out) N[i].2.nd.bq 0):=by rw[cK hx,cH];exact ao6 _ _ _
  have hc:jB ((N.take (i+1)).map (fun x:cU×cg=>x.2.nd)) out=jB ((N.take i).map (fun x:cU×cg=>x.2.nd)) out+(if gF (jO ((N.take i).map (fun x:cU×cg=>x.2.nd)) out) N[i].2.nd.bq 0<0 then 1 else 0):=by rw[cK hx,cH];exact Zyn _ _ _
  rw[hs,hc];by_cases hneg:gF (jO ((N.take i).map (fun x:cU×cg=>x.2.nd)) out) N[i].2.nd.bq 0<0
  .rw[IO hneg];refine ba (aF hneg) ((bg (abu h6 hx _ r _ _ hrl)).trans ?_);exact e _ _ _ _ _ _ ((bP (x:=((jB ((N.take i).map (fun x:cU×cg=>x.2.nd)) out:Nat):Int)+1) auc).trans auc) (bP (x:=(i:Int)+1) auc) rfl
  .rw[Fr hneg];refine aN (aJ hneg) ((bg (abu h6 hx _ r _ _ hrl)).trans ?_);exact e _ _ _ _ _ _ rfl (bP (x:=(i:Int)+1) auc) rfl
 .try dsimp only
  unfold IY;refine aN (aJ (show ¬((N.length:Nat):Int)<(((N.map bB).length:Nat):Int) by rw[aG];omega)) ?_;rw[cV];rfl
theorem Zy8(M:List Nd)(out:jp):∀r,(jt M r out).length=out.length
 |0=>rfl|r+1=>by rw[jt,TH,Zy8 M out r]
theorem Zuq(M:List Nd){out:jp}(h:∀u,aT out u<=0):∀r u,aT (jt M r out) u<=(r:Int)*(M.length:Int)
 |0,u=>by have:=h u;show aT out u<=((0:Nat):Int)*_;omega|r+1,u=>by
  have h1:=TT M (out:=jt M r out) (B:=(r:Int)*(M.length:Int)) (Int.mul_nonneg auc auc) (Zuq M h r) u;rw[jt]
  grind
theorem ank{V:Nat}(h6:N6 N V)(out:jp)(hl:out.length=V+1)(hB:∀u,aT out u<=0) :
  SU (N.map bB,(0:Int),(0:Int),out,())=some ((jB (N.map (fun x:cU×cg=>x.2.nd)) (jt (N.map (fun x:cU×cg=>x.2.nd)) N.length out):Int),jt (N.map (fun x:cU×cg=>x.2.nd)) (N.length+1) out,()):=by
 have hn:=h6.len;unfold SU;delta u4;refine cO (fun r:Nat=>(N.map bB,(match r with|0=>(0:Int)|r+1=>(jB (N.map (fun x:cU×cg=>x.2.nd)) (jt (N.map (fun x:cU×cg=>x.2.nd)) r out):Int)),(r:Int),jt (N.map (fun x:cU×cg=>x.2.nd)) r out,())) (N.length+1) rfl ?_ ?_ auh
 .intro r hr;have hb:=Zuq (N.map (fun x:cU×cg=>x.2.nd)) hB r;have hm:(r:Int)*((N.map (fun x:cU×cg=>x.2.nd)).length:Int)<=3000*3000:=by rw[aG];exact Int.mul_le_mul auc auc auc auc
  have h0:0<=(r:Int)*((N.map (fun x:cU×cg=>x.2.nd)).length:Int):=Int.mul_nonneg auc auc;have e1:=anl h6 (r:Int) (jt (N.map (fun x:cU×cg=>x.2.nd)) r out) (by rw[Zy8,hl]) hb ⟨h0,auc⟩
  try dsimp only
  unfold IZ;refine ba (aF (show(r:Int)<=(((N.map bB).length:Nat):Int) by rw[aG];omega)) ((bg e1).trans ?_);have e:∀(p q q':Int) (s:jp),q=q'->(aul (N.map bB,p,q,s,()):am IG IE)=aul (N.map bB,p,q',s,()):=by intros;subst_vars;rfl
  exact e _ _ _ _ (bP (x:=(r:Int)+1) auc)
 .try dsimp only
  unfold IZ;refine aN (aJ (show ¬((N.length+1:Nat):Int)<=(((N.map bB).length:Nat):Int) by rw[aG];omega)) ?_;rfl
def nt{α:Type}(n:aB)(r:α):Int×jp×List ae.T×jp×jp×jp×List ai.T×List ae.T×α:=(n.vars,n.ax,n.ah.map aX,n.bk,n.aU,n.constraints,n.af.map aM,n.ag.map aL,r)
abbrev W4:=jp×List aH.T×jp×jp×Unit
def w4(of:jp)(nd:List cU)(m lv:jp):W4:=(of,nd.map eu,m,lv,())
def kT(k:Nat):List cU:=(List.range k).map fun i=>⟨false,0,i⟩
theorem acP(k:Nat):kT (k+1)=kT k++[⟨false,0,k⟩]:=by unfold kT;rw[asA,cH];rfl
theorem vH(k:Nat):(kT k).length=k:=by simp[kT]
theorem aoF(n:aB)(of m lv:jp)(hA:n.ag.length<=2000):Jh ((n.ag.length:Int),(0:Int),nt n (nt n (w4 of [] m lv)))=some (nt n (nt n (w4 of (kT n.ag.length) m lv))):=by
 unfold Jh;delta lF ei bV cy;refine vR (fun k:Nat=>((n.ag.length:Int),(k:Int),nt n (nt n (w4 of (kT k) m lv)))) n.ag.length ?_ ?_ NN auh
 .intro k hk;unfold nt w4
  try dsimp only
  unfold Jn;refine ba auj (aK (eX (L:=(kT k).map eu) (by rw[aG,vH];omega) auf) ?_);rw[bP (x:=(k:Int)+1) auc,acP,cH];rfl
 .unfold nt w4
  try dsimp only
  unfold Jn;rw[bC aui];rfl
def nm(j k:Nat):List cU:=(List.range k).map fun i=>⟨true,j,i⟩
theorem adh(j k:Nat):nm j (k+1)=nm j k++[⟨true,j,k⟩]:=by unfold nm;rw[asA,cH];rfl
theorem T4(j k:Nat):(nm j k).length=k:=by simp[nm]
theorem anW(n:aB)(of m lv:jp)(j M R:Nat)(pre:List cU)(hj:j<=4)(hM:M<=4)(hR:R<=4)(hp:pre.length<=3000) :
  Je ((j:Int),(M:Int),(j:Int),(R:Int),(0:Int),nt n (nt n (w4 of pre m lv)))=some ((M:Int),(j:Int),nt n (nt n (w4 of (pre++nm j R) m lv))):=by
 unfold Je;delta iT u1 bV cy;refine cO (fun k:Nat=>((j:Int),(M:Int),(j:Int),(R:Int),(k:Int),nt n (nt n (w4 (of) (pre++nm j k) m lv)))) R (by rw[show nm j 0=[]from rfl,di];rfl) ?_ ?_ auh
 .intro k hk;unfold nt w4
  try dsimp only
  unfold Jl;refine ba auj (aK (eX (L:=(pre++nm j k).map eu) (by rw[aG,bF,T4];omega) auf) ?_);rw[bP (x:=(k:Int)+1) auc,adh,<-bM,List.map_append (l₁:=pre++nm j k)];rfl
 .unfold nt w4
  try dsimp only
  unfold Jl;rw[bC aui];rfl
theorem T6(k:Nat):∀(l:List cC) (m:cC),iC k (l++[m])=iC k l++Pl.iI (k+l.length) m
 |[],m=>by simp[iC]|x::l,m=>by rw[ask,iC,iC,T6 (k+1) l m,bM,dG,show k+1+l.length=k+(l.length+1) by omega]
theorem aoG(n:aB)(of m lv:jp)(hA:n.ag.length<=2000)(hM:n.af.length<=4)(hR:∀M∈n.af,M.reads.length<=4) :
  Jg ((n.af.length:Int),(0:Int),nt n (nt n (w4 of (kT n.ag.length) m lv)))=some (nt n (w4 of (d7 n) m lv)):=by
 have hlen:∀k,k<=n.af.length->(kT n.ag.length++iC 0 (n.af.take k)).length<=3000:=by
  intro k hk;rw[bF,vH,vF];have:=pU iY (n.af.take k) 4 (fun M hM=>by unfold iY;rw[aG];exact hR M (asf hM));have h2:(n.af.take k).length<=4:=by rw[dK];omega
  omega
 unfold Jg;delta lF ei bV cy;refine cO (fun k:Nat=>((n.af.length:Int),(k:Int),nt n (nt n (w4 of (kT n.ag.length++iC 0 (n.af.take k)) m lv)))) n.af.length (by rw[WP,show iC 0 []=[]from rfl,di];rfl) ?_ ?_ auh
 .intro k hk;have hMk:=bA hk;have hMk':(n.af.map aM)[k]?=some (aM n.af[k]):=by rw[cW,hMk];rfl
  have hrk:=hR _ (ut hk);unfold nt w4
  try dsimp only
  unfold Jm;rw[bR auj,aW (aP ⟨auc,by rw[aG];omega⟩),bz hMk'];have e:=anW n of m lv k n.af.length n.af[k].reads.length _ auc hM hrk (hlen k auc);have hl:List.length (aM n.af[k]).2.2.2.1=n.af[k].reads.length:=aG _;rw[hl];refine(bg e).trans ?_;have e2:kT n.ag.length++iC 0 (n.af.take (k+1))=kT n.ag.length++iC 0 (n.af.take k)++nm k n.af[k].reads.length:=by rw[cK hMk,T6,bM,dK,asO auc,asz];rfl
  rw[e2];have hw:=bP (x:=(k:Int)+1) auc;show some (Sum.inl (_,pu ((k:Int)+1),_))=_;rw[hw];rfl
 .unfold nt w4
  try dsimp only
  unfold Jm;rw[bC aui,cV];rfl
theorem anY(n:aB)(V:Nat)(of m lv vs:jp)(nd:List cU)(a b:Int)(k:Nat)(hk:k<=3000)(hln:vs.length<=100000)(hvs:∀v∈vs,0<=v/\v<=(V:Int))(hof:of.length=V+1) :
  Jd ((k:Int),a,b,vs,(vs.length:Int),(0:Int),nt n (w4 of nd m lv))=some (a,b,nt n (w4 (dT of (vs.map Int.toNat) ((k:Int)+1)) nd m lv)):=by
 unfold Jd;delta mC u6 bV cy;refine cO (fun j:Nat=>((k:Int),a,b,vs,(vs.length:Int),(j:Int),nt n (w4 (dT of ((vs.take j).map Int.toNat) ((k:Int)+1)) nd m lv))) vs.length rfl ?_ ?_ auh
 .intro j hj;have hv:=bA hj;obtain⟨h0,h1⟩:=hvs _ (ut hj);obtain⟨v,hv2⟩:=By h0;rw[hv2]at hv h1;unfold nt w4
  try dsimp only
  unfold Jj;rw[bR auj,aW aug,bz (σ:=.I) hv,aW (aP ⟨auc,by rw[lT,hof];omega⟩),bP (x:=(j:Int)+1) auc,bP (x:=(k:Int)+1) auc];rw[cK hv,cH,UV,asr,yT];rfl
 .unfold nt w4
  try dsimp only
  unfold Jj;rw[bC aui,cV];rfl
theorem anX{n:aB}{V:Nat}(hs:cA n V)(ft:Fit n)(m lv:jp):Jf (((d7 n).length:Int),(0:Int),nt n (w4 (List.replicate (V+1) 0) (d7 n) m lv))=some (wk n V m lv):=by
 have hnl:=zk hs;have hV2:=hs.v2;have hnl2:(d7 n).length=(bh n).length:=by rw[JE];unfold bh;rw[aG]
 have hmw:∀M∈n.af,0<=M.word:=fun M hM=>by have:=hs.af M hM;omega
 unfold Jf;delta gA u2 bV cy;refine cO (fun k:Nat=>(((d7 n).length:Int),(k:Int),nt n (w4 (gb (bh n) V k) (d7 n) m lv))) (d7 n).length rfl ?_ ?_ auh
 .intro k hk;have hxd:=bA hk;obtain⟨y,hy1,hy2⟩:=xU n hxd;have hy:=d5 hy1;have hx:(bh n)[k]?=some y.nd:=by rw[FW,hy1];rfl
  have hxd':((d7 n).map eu)[k]?=some (eu (d7 n)[k]):=by rw[cW,hxd];rfl
  have hvs:∀u∈y.to,0<=u/\u<=(V:Int):=fun u hu=>by have:=hs.mI hy hu;omega
  have hlens:=vN hs hy;have e1:=acb (of:=gb (bh n) V k) (m:=m) (lv:=lv) (nd:=d7 n) hy2 ft hmw;have e2:=anY n V (gb (bh n) V k) m lv y.to (d7 n) ((d7 n).length:Int) (k:Int) k auc auc hvs (za _ _ _);unfold nt w4
  try dsimp only
  unfold Jk;refine ba auj (aK (aP ⟨auc,by rw[aG];omega⟩) ?_);rw[bz hxd'];refine aZ e1 (aZ e2 ?_);rw[adl hx];have hw:=bP (x:=(k:Int)+1) auc;show some (Sum.inl (_,pu ((k:Int)+1),_))=_;rw[hw];rfl
 .unfold nt w4
  try dsimp only
  unfold Jk;rw[bC aui,hnl2];rfl
theorem RP{n:aB}{V:Nat}(hs:cA n V)(ft:Fit n):Zo9 (nt n ())=some (wk n V (List.replicate (V+1) 0) (List.replicate (V+1) 0)):=by
 have hV2:=hs.v2;have hvars:=hs.vars;have e3:=aoF n (List.replicate (V+1) 0) (List.replicate (V+1) 0) (List.replicate (V+1) 0) hs.lens.2.2.1;have e8:=aoG n (List.replicate (V+1) 0) (List.replicate (V+1) 0) (List.replicate (V+1) 0) hs.lens.2.2.1 hs.lens.2.2.2.2 (fun M hM=>(hs.af M hM).2.2.2.2.2.2.1);have e17:=anX hs ft (List.replicate (V+1) 0) (List.replicate (V+1) 0);have hw:pu (n.vars+1)=((V+1:Nat):Int):=by rw[hvars,auk];omega
 show TG yH Jh Jg Je Jf Jd n.vars n.ax (n.ah.map aX) n.bk n.aU n.constraints (n.af.map aM) (n.ag.map aL)=_;unfold TG;rw[hw];have hc:∀k:Int,0<=k->k<=8->both (decide ((0:Int)<=((V+1:Nat):Int))) (both (decide (((V+1:Nat):Int)<=((V+1:Nat):Int))) (decide (k*((V+1:Nat):Int)<=281474976710656)))=true:=by intro k h0 h8;rw[fm auc,fm auc,fm (by have:k*((V+1:Nat):Int)<=8*((V+1:Nat):Int):=Int.mul_le_mul_of_nonneg_right h8 auc;omega)];rfl
 have e3':Jh (((List.map aL n.ag).length:Int),(0:Int),nt n (nt n (w4 (List.replicate (V+1) 0) [] (List.replicate (V+1) 0) (List.replicate (V+1) 0))))=some (nt n (nt n (w4 (List.replicate (V+1) 0) (kT n.ag.length) (List.replicate (V+1) 0) (List.replicate (V+1) 0)))):=by rw[aG];exact e3
 have e8':Jg (((List.map aM n.af).length:Int),(0:Int),nt n (nt n (w4 (List.replicate (V+1) 0) (kT n.ag.length) (List.replicate (V+1) 0) (List.replicate (V+1) 0))))=some (nt n (w4 (List.replicate (V+1) 0) (d7 n) (List.replicate (V+1) 0) (List.replicate (V+1) 0))):=by rw[aG];exact e8
 have e17':Jf (((List.map eu (d7 n)).length:Int),(0:Int),nt n (w4 (List.replicate (V+1) 0) (d7 n) (List.replicate (V+1) 0) (List.replicate (V+1) 0)))=some (wk n V (List.replicate (V+1) 0) (List.replicate (V+1) 0)):=by grind
 exact aK (hc 8 auf auf) (aK (hc 1 auf auf) (aK (hc 8 auf auf) (aZ e3' (aZ e8' (aZ e17' rfl)))))
theorem akT{V:Nat}{m:jp}(h:V<=2000):fresh V m<NN:=by
 have z:∀(p:Nat->Bool) k,zc p k<=k:=by
  intro p k
  induction k with|zero=>exact ro _|succ k ih=>rw[zc];split<;>omega
 have:fresh V m<=V+1:=z _ _;exact auh
theorem Oq{n:aB}{V:Nat}(hs:cA n V)(ft:Fit n) :
  ∃m lv,Zhj (wk n V (List.replicate (V+1) 0) (List.replicate (V+1) 0))=some (dO (bh n) V,wk n V m lv) /\
   (dO (bh n) V=true->lv.length=V+1/\∀v,v<=V->∃k:Nat,aT lv v=(k:Int)/\dC (bh n) v k):=by
 have hV2:=hs.v2;have hL:=jD (B:=fun d=>Ty SQ d.1 d.2.1 d.2.2.1 d.2.2.2.1 d.2.2.2.2.1 d.2.2.2.2.2.1 d.2.2.2.2.2.2.1 d.2.2.2.2.2.2.2.1 d.2.2.2.2.2.2.2.2.1 d.2.2.2.2.2.2.2.2.2.1 d.2.2.2.2.2.2.2.2.2.2.1 d.2.2.2.2.2.2.2.2.2.2.2.1 d.2.2.2.2.2.2.2.2.2.2.2.2.1 d.2.2.2.2.2.2.2.2.2.2.2.2.2.1)
  (I:=fun d:Int×Int×WT=>∃(k:Nat) (m lv:jp),d=(((V+1:Nat):Int),(k:Int),wk n V m lv)/\k<=V+1/\VI (bh n) V m lv/\(∀u,u<=V->aT m u≠1)/\(∀u,u<k->tl (bh n) m u))
  (Q:=fun o:Out IW=>(∃m lv,o=.inl (false,wk n V m lv)/\∃u,u<=V/\∀k,¬dC (bh n) u k)\/(∃m lv,o=.inr (wk n V m lv)/\VI (bh n) V m lv/\∀u,u<V+1->tl (bh n) m u))
  (μ:=fun d=>V+1-d.2.1.toNat) ?_ NN (((V+1:Nat):Int),(0:Int),wk n V (List.replicate (V+1) 0) (List.replicate (V+1) 0)) ⟨0,_,_,rfl,auc,vi0,fun u hu=>by unfold aT;rw[ff,ati];split<;>simp,fun u h=>auc⟩ auh
 .obtain⟨o,ho,hcase⟩:=hL;have hlen:((List.length (gb (bh n) V (bh n).length):Nat):Int)=((V+1:Nat):Int):=by rw[za]
  have ho':Zhi (((List.length (gb (bh n) V (bh n).length):Nat):Int),(0:Int),wk n V (List.replicate (V+1) 0) (List.replicate (V+1) 0))=some o:=by rw[hlen];exact ho
  rcases hcase with⟨m,lv,rfl,u,hu,hno⟩|⟨m,lv,rfl,hI,hT⟩
  .have hf:dO (bh n) V=false:=by
    cases h:dO (bh n) V
    .rfl
    .obtain⟨kk,hkk⟩:=(jW hs.apart V).1 h u hu;exact absurd hkk (hno kk)
   rw[hf];exact⟨m,lv,aZ ho' rfl,fun h=>by cases h⟩
  .have hl:∀v,v<=V->∃k:Nat,aT lv v=(k:Int)/\dC (bh n) v k:=fun v hv=>FN hI hv (hT v auc);have ht:dO (bh n) V=true:=(jW hs.apart V).2 fun v hv=>by obtain⟨k,_,h⟩:=hl v hv;exact⟨k,h⟩
   rw[ht];exact⟨m,lv,aZ ho' rfl,fun _=>⟨hI.ll,hl⟩⟩
 .rintro _ ⟨k,m,lv,rfl,hk,hI,hU,hT⟩;by_cases hlt:k<V+1
  .obtain⟨b,m2,lv2,e,hp⟩:=alH hs ft NN m lv k hI (fun u hu h=>absurd h (hU u hu)) auc (akT hV2);have e':SQ ((k:Int),wk n V m lv)=some (b,wk n V m2 lv2):=e;rcases hp with⟨rfl,hI7,hE7,ht7⟩|⟨rfl,u',hu',hno⟩
   .right;refine⟨_,ba (aF (show(k:Int)<((V+1:Nat):Int) by omega)) (aZ e' (aN rfl rfl)),⟨k+1,m2,lv2,?_,auc,hI7,fun u hu h=>hU u hu (hE7.b u hu h),fun u hu=>?_⟩,?_⟩
    .have e2:∀a a':Int,a=a'->(((V+1:Nat):Int),a,wk n V m2 lv2)=(((V+1:Nat):Int),a',wk n V m2 lv2):=by rintro _ _ rfl;rfl
     exact e2 _ _ (bP (x:=(k:Int)+1) auc)
    .by_cases e:u=k
     .subst e;exact ht7
     .exact(Pp hI hI7 hE7 auc (hT u auc)).1
    .show V+1-(pu ((k:Int)+1)).toNat<V+1-(k:Int).toNat;rw[bP (x:=(k:Int)+1) auc];omega
   .left;exact⟨_,ba (aF (show(k:Int)<((V+1:Nat):Int) by omega)) (aZ e' (ba rfl rfl)),.inl ⟨m2,lv2,rfl,u',hu',hno⟩⟩
  .left;exact⟨_,aN (aJ (show ¬(k:Int)<((V+1:Nat):Int) by omega)) rfl,.inr ⟨m,lv,rfl,hI,fun u hu=>hT u auc⟩⟩
theorem Jq{n:aB}(ft:Fit n):I9 (dn n,())=some (gV n,()):=by
 have es:oQ (dn n,())=some (da n,()):=by unfold oQ;rw[show eH ((dn n,()):TL [cJ]).1=n from o6 n,pV ft];rfl
 by_cases h0:da n=0
 .obtain⟨V,hs⟩:=uS h0;have hV:n.vars.toNat=V:=by rw[hs.vars];rfl
  obtain⟨m,lv,ea,_⟩:=Oq hs ft;have ew:=RP hs ft;cases hc:dO (bh n) V
  .have et:tK (nt n ())=aul ((8:Int),()):=by refine aZ es (aN (by rw[h0];rfl) (aZ ew (aZ ea (ba (by rw[hc];rfl) rfl))))
   refine(aZ et rfl).trans ?_;unfold gV;rw[h0,hV,hc];rfl
  .have et:tK (nt n ())=aum ((0:Int),wk n V m lv):=by refine aZ es (aN (by rw[h0];rfl) (aZ ew (aZ ea (aN (by rw[hc];rfl) rfl))))
   refine(aZ et rfl).trans ?_;unfold gV;rw[h0,hV,hc];rfl
 .have et:tK (nt n ())=aul (da n,()):=by refine aZ es (ba (by simp[h0]) rfl)
  refine(aZ et rfl).trans ?_;unfold gV;rw[IO h0];rfl
set_option maxRecDepth 10000
variable{α:Type}
theorem sM{D O:Type}{B:D->Option (D⊕O)}(f:Nat->D)(L:List α)(q:α->Bool){fe good:O}(hs:∀i x,L[i]?=some x->q x=false->B (f i)=aul (f (i+1)))(hf:∀i x,L[i]?=some x->q x=true->B (f i)=aum fe)
  (he:B (f L.length)=aum good) {d:D}(hd:d=f 0) {N:Nat}(hN:L.length<N):bj B N d=some (if L.any q then fe else good):=by
 subst hd;have main:∀k i,i+k=L.length->∀N,k<N->bj B N (f i)=some (if(L.drop i).any q then fe else good):=by
  intro k
  induction k with
  |zero=>intro i hi N hN;obtain⟨N,rfl⟩:∃M,N=M+1:=⟨N-1,auc⟩;rw[asG auc,show i=L.length by omega];simp only[bj,he,List.any_nil,asL,aua]
  |succ k ih=>
   intro i hi N hN;obtain⟨N,rfl⟩:∃M,N=M+1:=⟨N-1,auc⟩;have hx:=bA (show i<L.length by omega);rw[ass (show i<L.length by omega),List.any_cons];cases hq:q L[i]with
   |true=>simp only[bj,hf i _ hx hq,Bool.true_or,aub]|false=>
    simp only[bj,hs i _ hx hq,Bool.false_or]
    grind
 grind
theorem FC{L:Nat}(h:L<=10000000):room 8 L=true:=q9 auc auc
abbrev fp{α:Type}(m:cC)(r:α):=(m.addr,m.word,m.any,m.reads.map bS,m.writes.map bX,r)
variable{L:List α}{x:α}{β:Type}
theorem lf(f:α->β)(h:L[i]?=some x):(L.map f)[i]?=some (f x):=by grind
theorem iB(f:α->β)(h:L[i]?=some x):an (i:Int) (List.length (L.map f))=true:=aP ⟨auc,by grind⟩
theorem map_lt(f:α->β)(h:L[i]?=some x):iL (i:Int) (Int.ofNat (List.length (L.map f)))=true:=by grind
theorem oi(f:α->β)(L:List α):iL (L.length:Int) (Int.ofNat (List.length (L.map f)))=false:=by grind
theorem ab9(b:Bool):bK false true b=b:=by cases b<;>rfl
variable{m:cC}
theorem aaQ(hm:rb m):LP (aM m,())=some (fZ m,()):=by
 have h1:=hm.kO;have h2:=hm.ph;have e4:LQ ((0:Int),fp m ())=some (if m.reads.any (kF m)then .inl (true,())else .inr (fp m ())):=by
  unfold LQ;delta u6;refine sM (fun i:Nat=>((i:Int),fp m ())) m.reads (kF m) (fun i x hx q=>?_) (fun i x hx q=>?_) ?_ rfl auh
  .try dsimp only
   unfold CW;have hl:=(rg.1 hx).1;rw[bz (σ:=bO) (lf bS hx)];have q':Bool.not (iQ (Int.ofNat (List.length (bS x).2.1)) m.addr)=false:=q;have e:∀p q:Int,p=q->(aul (p,fp m ()):am B5 Bw)=aul (q,fp m ()):=by rintro _ _ rfl;rfl
   exact ba (map_lt bS hx) (aK (iB bS hx) (aN q' (e _ _ (bP (x:=(i:Int)+1) auc))))
  .try dsimp only
   unfold CW;rw[bz (σ:=bO) (lf bS hx)];have q':Bool.not (iQ (Int.ofNat (List.length (bS x).2.1)) m.addr)=true:=q;exact ba (map_lt bS hx) (aK (iB bS hx) (ba q' rfl))
  .exact aN (oi bS m.reads) rfl
 have e9:LS ((0:Int),fp m ())=some (if m.writes.any (ke m)then .inl (true,())else .inr ()):=by
  unfold LS;delta u6;refine sM (fun i:Nat=>((i:Int),fp m ())) m.writes (ke m) (fun i x hx q=>?_) (fun i x hx q=>?_) ?_ rfl auh
  .try dsimp only
   unfold CX;have hl:=(rg.1 hx).1;rw[bz (σ:=bu) (lf bX hx)];unfold ke at q;rw[ats]at q;have q1:Bool.not (iQ (Int.ofNat (List.length (bX x).2.1)) m.addr)=false:=q.1;have q2:bK false true (Bool.not (iQ (Int.ofNat (List.length (bX x).2.2.1)) m.word))=false:=(ab9 _).trans q.2;have e:∀p q:Int,p=q->(aul (p,fp m ()):am B6 Bz)=aul (q,fp m ()):=by rintro _ _ rfl;rfl
   exact ba (map_lt bX hx) (aK (iB bX hx) (aN q1 (aK (iB bX hx) (aN q2 (e _ _ (bP (x:=(i:Int)+1) auc))))))
  .try dsimp only
   unfold CX;rw[bz (σ:=bu) (lf bX hx)];unfold ke at q;cases q1:((x.addr.length:Int) != m.addr)with|true=>exact ba (map_lt bX hx) (aK (iB bX hx) (ba (show Bool.not (iQ (Int.ofNat (List.length (bX x).2.1)) m.addr)=true from q1) rfl))|false=>rw[q1,Bool.false_or]at q;exact ba (map_lt bX hx) (aK (iB bX hx) (aN (show Bool.not (iQ (Int.ofNat (List.length (bX x).2.1)) m.addr)=false from q1) (aK (iB bX hx) (ba (show bK false true (Bool.not (iQ (Int.ofNat (List.length (bX x).2.2.1)) m.word))=true from(ab9 _).trans q) rfl))))
  .exact aN (oi bX m.writes) rfl
 show Mo LQ LS (aM m)=_;unfold Mo fZ;by_cases c1:m.addr<1
 .rw[fm (.inl c1)];exact(bR (aF c1)).trans rfl
 refine(bC (aJ c1)).trans ?_;by_cases c2:62<m.addr
 .rw[fm (.inr (.inl c2))];exact(bR (show bK false true (iL (62:Int) m.addr)=true from aF c2)).trans rfl
 refine(bC (show bK false true (iL (62:Int) m.addr)=false from aJ c2)).trans ?_;by_cases c3:m.word<1
 .rw[fm (.inr (.inr (.inl c3)))];exact(bR (show bK false true (iL m.word (1:Int))=true from aF c3)).trans rfl
 refine(bC (show bK false true (iL m.word (1:Int))=false from aJ c3)).trans ?_;by_cases c4:64<m.word
 .rw[fm (.inr (.inr (.inr c4)))];exact(bR (show bK false true (iL (64:Int) m.word)=true from aF c4)).trans rfl
 refine(bC (show bK false true (iL (64:Int) m.word)=false from aJ c4)).trans ((bg e4).trans ?_);rw[jC (fun h=>auc),Bool.false_or];cases m.reads.any (kF m)with|true=>rfl|false=>refine(bg e9).trans ?_;cases m.writes.any (ke m)<;>rfl
section
variable{n:aB}(ft:Fit n)
include ft
theorem aj9:V6 (dn n,())=some (ij n,()):=by
 have hm:=ft.af.1;have e4:KR ((0:Int),nt n ())=some (if n.af.any gU then .inl (true,())else .inr (nt n ())):=by
  unfold KR;delta u9;refine sM (fun i:Nat=>((i:Int),nt n ())) n.af gU (fun i x hx q=>?_) (fun i x hx q=>?_) ?_ rfl auh
  .unfold nt
   try dsimp only
   unfold B1;have hl:=(rg.1 hx).1;rw[bz (σ:=ai) (lf aM hx)];unfold gU at q;have q:=asM q;have e:∀p q:Int,p=q->(aul (p,nt n ()):am A8 AB)=aul (q,nt n ()):=by rintro _ _ rfl;rfl
   have q1:iL (4:Int) (Int.ofNat (List.length (x.reads.map bS)))=false:=aJ (by show ¬(4:Int)<((x.reads.map bS).length:Int);rw[aG];omega);have q2:bK false true (iL (4:Int) (Int.ofNat (List.length (x.writes.map bX))))=false:=aJ (by show ¬(4:Int)<((x.writes.map bX).length:Int);rw[aG];omega);exact ba (map_lt aM hx) (aK (iB aM hx) (aN q1 (aK (iB aM hx) (aN q2 (e _ _ (bP (x:=(i:Int)+1) auc))))))
  .unfold nt
   try dsimp only
   unfold B1;rw[bz (σ:=ai) (lf aM hx)];unfold gU at q;have q:=asl q;by_cases c:4<x.reads.length
   .have q1:iL (4:Int) (Int.ofNat (List.length (x.reads.map bS)))=true:=aF (by show(4:Int)<((x.reads.map bS).length:Int);rw[aG];omega);exact ba (map_lt aM hx) (aK (iB aM hx) (ba q1 rfl))
   .have q1:iL (4:Int) (Int.ofNat (List.length (x.reads.map bS)))=false:=aJ (by show ¬(4:Int)<((x.reads.map bS).length:Int);rw[aG];omega);have q2:bK false true (iL (4:Int) (Int.ofNat (List.length (x.writes.map bX))))=true:=aF (by show(4:Int)<((x.writes.map bX).length:Int);rw[aG];omega);exact ba (map_lt aM hx) (aK (iB aM hx) (aN q1 (aK (iB aM hx) (ba q2 rfl))))
  .exact aN (oi aM n.af) rfl
 have h1:=ft.out.1;have h2:=ft.fe.1;have h3:=ft.ga.1;have w1:pu ((Int.ofNat (List.length n.bk))+(Int.ofNat (List.length n.aU)))=((n.bk.length+n.aU.length:Nat):Int):=(bP (x:=(n.bk.length:Int)+(n.aU.length:Int)) auc).trans auc;have w2:pu ((pu ((Int.ofNat (List.length n.bk))+(Int.ofNat (List.length n.aU))))+(Int.ofNat (List.length n.constraints)))=((n.bk.length+n.aU.length+n.constraints.length:Nat):Int):=by rw[w1];exact(bP (x:=((n.bk.length+n.aU.length:Nat):Int)+(n.constraints.length:Int)) auc).trans auc
 show Lf KR (dn n)=_;unfold Lf;have key:∀b:Bool,b=ij n->(some (b,()):Option (TL wb))=some (ij n,()):=by rintro _ rfl;rfl
 have yes:ij n=true->(some (true,()):Option (TL wb))=some (ij n,()):=fun h=>by rw[h];rfl
 have hp:ij n=true↔(n.vars<0\/2000<n.vars\/2000<n.ax.length\/2000<n.ah.length\/2000<n.ag.length\/1000<n.bk.length+n.aU.length+n.constraints.length\/4<n.af.length\/n.af.any gU=true):=by unfold ij;simp only[Bool.or_eq_true,IS,or_assoc]
 by_cases c1:n.vars<0
 .exact(bR (aF c1)).trans (yes (hp.2 auc))
 refine(bC (aJ c1)).trans ?_;by_cases c2:2000<n.vars
 .exact(bR (show bK false true (iL (2000:Int) n.vars)=true from aF c2)).trans (yes (hp.2 auc))
 refine(bC (show bK false true (iL (2000:Int) n.vars)=false from aJ c2)).trans ?_;by_cases c3:1000<n.bk.length+n.aU.length+n.constraints.length
 .exact(bR (show bK false true (iL (1000:Int) (pu ((pu ((Int.ofNat (List.length n.bk))+(Int.ofNat (List.length n.aU))))+(Int.ofNat (List.length n.constraints)))))=true by rw[w2];exact auj)).trans (yes (hp.2 auc))
 refine(bC (show bK false true (iL (1000:Int) (pu ((pu ((Int.ofNat (List.length n.bk))+(Int.ofNat (List.length n.aU))))+(Int.ofNat (List.length n.constraints)))))=false by rw[w2];exact aui)).trans ?_;have lm:(Int.ofNat (List.length (n.af.map aM)))=(n.af.length:Int):=by show((n.af.map aM).length:Int)=_;rw[aG]
 have ll:(Int.ofNat (List.length (n.ah.map aX)))=(n.ah.length:Int):=by show((n.ah.map aX).length:Int)=_;rw[aG]
 have la:(Int.ofNat (List.length (n.ag.map aL)))=(n.ag.length:Int):=by show((n.ag.map aL).length:Int)=_;rw[aG]
 by_cases c4:4<n.af.length
 .exact(bR (show bK false true (iL (4:Int) (Int.ofNat (List.length (n.af.map aM))))=true by rw[lm];exact auj)).trans (yes (hp.2 auc))
 refine(bC (show bK false true (iL (4:Int) (Int.ofNat (List.length (n.af.map aM))))=false by rw[lm];exact aui)).trans ((bg e4).trans ?_);cases c5:n.af.any gU with
 |true=>exact yes (hp.2 (.inr (.inr (.inr (.inr (.inr (.inr (.inr c5))))))))|false=>
  have c5':¬n.af.any gU=true:=by rw[c5];decide
  show br (iL (2000:Int) (Int.ofNat (List.length n.ax))) _ (br (bK false true (iL (2000:Int) (Int.ofNat (List.length (n.ah.map aX))))) _ (some (bK false true (iL (2000:Int) (Int.ofNat (List.length (n.ag.map aL)))),())))=_;rw[ll,la];by_cases c6:2000<n.ax.length
  .exact(bR (aF (show(2000:Int)<(n.ax.length:Int) by omega))).trans (yes (hp.2 auc))
  refine(bC (aJ (show ¬(2000:Int)<(n.ax.length:Int) by omega))).trans ?_;by_cases c7:2000<n.ah.length
  .exact(bR (show bK false true (iL (2000:Int) (n.ah.length:Int))=true from auj)).trans (yes (hp.2 auc))
  refine(bC (show bK false true (iL (2000:Int) (n.ah.length:Int))=false from aui)).trans (key _ ?_);by_cases c8:2000<n.ag.length
  .rw[hp.2 auc];exact auj
  .rw[show bK false true (iL (2000:Int) (n.ag.length:Int))=false from aui];cases q:ij n with
   |false=>rfl|true=>
    rcases hp.1 q with h|h|h|h|h|h|h|h
    .omega
    .omega
    .omega
    .omega
    .omega
    .omega
    .omega
    .exact absurd h c5'
end
theorem mU{x:Int}{n:Nat}(e:x=(n:Int))(h:n<=1000000000):pu x=(n:Int):=by rw[e];exact auk
structure OJ(n:aB):Prop where
 ins:n.ax.length<=4000
 aT:n.ah.length<=4000
 ag:n.ag.length<=4000
 af:n.af.length<=100
 mem:∀m∈n.af,(1<=m.word/\m.word<=64)/\m.reads.length<=100/\∀r∈m.reads,-1099511627776<=r.var/\r.var<=1099511627776
section
variable{n:aB}(K:OJ n)
include K
theorem aoa(A:jp)(hA:A.length<=10000):Vj ((0:Int),nt n (A,()))=some (nt n ((A++n.ah.map (·.var)),())):=by
 have hl:=K.aT;unfold Vj;delta ei;have hL:(n.ah.map aX).length=n.ah.length:=aG _;refine cO (fun k:Nat=>((k:Int),nt n ((A++(n.ah.take k).map (·.var)),()))) n.ah.length (by rw[WP,asr,di];rfl) ?_ ?_ auh
 .intro k hk;have hx:=bA hk;have hx':(n.ah.map aX)[k]?=some (aX n.ah[k]):=by grind
  have g:gt ae (n.ah.map aX) (k:Int)=aX n.ah[k]:=bz (σ:=ae) hx';have e:∀(a b:jp) (p q:Int),a=b->p=q->(aul (p,nt n (a,())):am Ay zZ)=aul (q,nt n (b,())):=by intros;subst_vars;rfl
  have ht:(A++(n.ah.take k).map (·.var))++([(gt ae (n.ah.map aX) (k:Int)).1]:jp)=A++(n.ah.take (k+1)).map (·.var):=by rw[g,Pl.cK hx,cH,<-bM];rfl
  have hroom:=eX (a:=8) (L:=A++(n.ah.take k).map (·.var)) (x:=(gt ae (n.ah.map aX) (k:Int)).1) (by grind) auc;exact ba (aF (show(k:Int)<((n.ah.map aX).length:Int) by omega)) (aK (show an (k:Int) (List.length (n.ah.map aX))=true from aug) (aK hroom (e _ _ _ _ ht (mU (show(k:Int)+1=((k+1:Nat):Int) by omega) auc))))
 .rw[cV];exact aN (aJ (show ¬(n.ah.length:Int)<((n.ah.map aX).length:Int) by omega)) rfl
theorem anb{j:Nat}(hm:n.af[j]?=some m)(A:jp)(hA:A.length<=5000000):Kg ((j:Int),(0:Int),nt n (A,()))=some ((j:Int),nt n ((A++dy m),())):=by
 have hj:=(rg.1 hm).1;have hmm:=d5 hm;obtain⟨⟨m3,m4⟩,m7,m5⟩:=K.mem m hmm;unfold Kg;delta ju;have hL:((n.af.map aM).length:Int)=(n.af.length:Int):=by rw[aG]
 have hxm:(n.af.map aM)[j]?=some (aM m):=by rw[cW,hm];rfl
 have gm:gt ai (n.af.map aM) (j:Int)=aM m:=bz (σ:=ai) hxm;have aS:an (j:Int) (List.length (n.af.map aM))=true:=aug;have hR:(m.reads.map bS).length=m.reads.length:=aG _;refine cO (fun k:Nat=>((j:Int),(k:Int),nt n ((A++(m.reads.take k).flatMap fun r=>cM r.var m.word.toNat),()))) m.reads.length (by rw[WP,NE,di];rfl) ?_ ?_ auh
 .intro k hk;have hx:=bA hk;have hr:=ut hk;have r1:=m5 _ hr;have ed:=N1 m k m.reads[k] hx auc r1;have e:∀(a b:jp) (p q:Int),a=b->p=q->(aul ((j:Int),p,nt n (a,())):am zV zK)=aul ((j:Int),q,nt n (b,())):=by rintro _ _ _ _ rfl rfl;rfl
  have ht:(A++(m.reads.take k).flatMap fun r=>cM r.var m.word.toNat)++cM m.reads[k].var m.word.toNat=A++(m.reads.take (k+1)).flatMap fun r=>cM r.var m.word.toNat:=by rw[Pl.cK hx,BT,<-bM,ast]
  have hd:∀r:fh,(cM r.var m.word.toNat).length<=64:=fun r=>by unfold cM;rw[aG,asi];omega
  have hb:=f9 (fun r:fh=>cM r.var m.word.toNat) 64 (m.reads.take k) fun r _=>hd r;rw[dK]at hb;have hroom:room 8 (List.length ((A++(m.reads.take k).flatMap fun r=>cM r.var m.word.toNat)++cM m.reads[k].var m.word.toNat))=true:=FC (by grind);unfold nt
  try dsimp only
  unfold AX;rw[gm];exact aK aS (ba (aF (show(k:Int)<((m.reads.map bS).length:Int) by omega)) (aK aS (aZ ed (aK hroom (e _ _ _ _ ht (mU (show(k:Int)+1=((k+1:Nat):Int) by omega) auc))))))
 .rw[cV];unfold nt
  try dsimp only
  unfold AX;rw[gm];exact aK aS (aN (aJ (show ¬(m.reads.length:Int)<((m.reads.map bS).length:Int) by omega)) rfl)
theorem aob(A:jp)(hA:A.length<=10000):Vk ((0:Int),nt n (A,()))=some (nt n ((A++n.af.flatMap dy),())):=by
 have hl:=K.af;unfold Vk;delta ei;have hL:((n.af.map aM).length:Int)=(n.af.length:Int):=by rw[aG]
 refine cO (fun k:Nat=>((k:Int),nt n ((A++(n.af.take k).flatMap dy),()))) n.af.length (by rw[WP,NE,di];rfl) ?_ ?_ auh
 .intro k hk;have hx:=bA hk;have hb:=f9 dy 6400 (n.af.take k) fun m hm=>by
   obtain⟨⟨m3,m4⟩,m7,m5⟩:=K.mem m (asf hm);have h2:=f9 (fun r:fh=>cM r.var m.word.toNat) 64 m.reads fun r _=>by unfold cM;grind
   unfold dy;omega
  rw[dK]at hb;have e10:=anb K hx (A++(n.af.take k).flatMap dy) (by rw[bF];omega);have ht:(A++(n.af.take k).flatMap dy)++dy n.af[k]=A++(n.af.take (k+1)).flatMap dy:=by rw[Pl.cK hx,BT,<-bM,ast]
  have e:∀(a b:jp) (p q:Int),a=b->p=q->(aul (p,nt n (a,())):am Az z8)=aul (q,nt n (b,())):=by rintro _ _ _ _ rfl rfl;rfl
  exact ba (aF (show(k:Int)<((n.af.map aM).length:Int) by omega)) (aZ e10 (e _ _ _ _ ht (mU (show(k:Int)+1=((k+1:Nat):Int) by omega) auc)))
 .rw[cV];exact aN (aJ (show ¬(n.af.length:Int)<((n.af.map aM).length:Int) by omega)) rfl
theorem anc(A:jp)(hA:A.length<=5000000):UY ((0:Int),nt n (A,()))=some ((A++n.ag.map (·.var)),()):=by
 have hl:=K.ag;unfold UY;delta ei;have hL:(n.ag.map aL).length=n.ag.length:=aG _;refine cO (fun k:Nat=>((k:Int),nt n ((A++(n.ag.take k).map (·.var)),()))) n.ag.length (by rw[WP,asr,di];rfl) ?_ ?_ auh
 .intro k hk;have hx:=bA hk;have hx':(n.ag.map aL)[k]?=some (aL n.ag[k]):=by grind
  have g:gt ae (n.ag.map aL) (k:Int)=aL n.ag[k]:=bz (σ:=ae) hx';have e:∀(a b:jp) (p q:Int),a=b->p=q->(aul (p,nt n (a,())):am zW zL)=aul (q,nt n (b,())):=by intros;subst_vars;rfl
  have ht:(A++(n.ag.take k).map (·.var))++([(gt ae (n.ag.map aL) (k:Int)).1]:jp)=A++(n.ag.take (k+1)).map (·.var):=by rw[g,Pl.cK hx,cH,<-bM];rfl
  have hroom:=eX (a:=8) (L:=A++(n.ag.take k).map (·.var)) (x:=(gt ae (n.ag.map aL) (k:Int)).1) (by grind) auc;exact ba (aF (show(k:Int)<((n.ag.map aL).length:Int) by omega)) (aK (show an (k:Int) (List.length (n.ag.map aL))=true from aug) (aK hroom (e _ _ _ _ ht (mU (show(k:Int)+1=((k+1:Nat):Int) by omega) auc))))
 .rw[cV];exact aN (aJ (show ¬(n.ag.length:Int)<((n.ag.map aL).length:Int) by omega)) rfl
theorem aas:Ks (dn n,())=some (bp n,()):=by
 have hl:=K.ins;have hl2:=K.aT;have hb:=f9 dy 6400 n.af fun m hm=>by
  obtain⟨⟨m3,m4⟩,m7,m5⟩:=K.mem m hm;have h2:=f9 (fun r:fh=>cM r.var m.word.toNat) 64 m.reads fun r _=>by unfold cM;rw[aG,asi];omega
  unfold dy;omega
 have hl3:=K.af;have hroom:room 8 (List.length (([]:jp)++n.ax))=true:=FC (by rw[PP];omega);exact aK hroom (aZ (aoa K n.ax auc) (aZ (aob K (n.ax++n.ah.map (·.var)) (by rw[bF,aG];omega)) (aZ (anc K (n.ax++n.ah.map (·.var)++n.af.flatMap dy) (by grind)) rfl)))
end
variable{j:Nat}
theorem pQ{L:Nat}(h:L<=1000000000):room 8 L=true:=q9 auc auc
section
variable{n:aB}(ft:Fit n)
include ft
omit ft in
theorem anq(j:Int)(mf:rb m)(A:jp)(hA:A.length<=200000000):Ka (j,(0:Int),nt n (A,fp m ()))=some (j,nt n (A++m.reads.flatMap (·.addr),fp m ())):=by
 have hl:=mf.kO;unfold Ka;delta u16 u4 bV cy;refine cO (fun k:Nat=>(j,(k:Int),nt n (A++(m.reads.take k).flatMap (·.addr),fp m ()))) m.reads.length (by rw[WP,NE,di];rfl) ?_ ?_ auh
 .intro k hk;have hx:=bA hk;have hr:=mf.fq _ (ut hk);have hb:=f9 (fun r:fh=>r.addr) 4000 (m.reads.take k) fun r h=>(mf.fq r (asf h)).1;rw[dK]at hb;have ht:(A++(m.reads.take k).flatMap (·.addr))++m.reads[k].addr=A++(m.reads.take (k+1)).flatMap (·.addr):=by rw[Pl.cK hx,BT,<-bM,ast]
  have e:∀(a b:jp) (p q:Int),a=b->p=q->(aul (j,p,nt n (a,fp m ())):am zN zE)=aul (j,q,nt n (b,fp m ())):=by rintro _ _ _ _ rfl rfl;rfl
  unfold nt
  try dsimp only
  unfold J4;rw[bz (σ:=bO) (lf bS hx)];exact ba (map_lt bS hx) (aK (iB bS hx) (aK (show room 8 (List.length ((A++(m.reads.take k).flatMap (·.addr))++m.reads[k].addr))=true from pQ (by rw[bF,bF];omega)) (e _ _ _ _ ht (mU (show(k:Int)+1=((k+1:Nat):Int) by omega) auc))))
 .rw[cV];exact aN (oi bS m.reads) rfl
omit ft in
theorem anr(j:Int)(mf:rb m)(A:jp)(hA:A.length<=300000000):Kc (j,(0:Int),nt n (A,fp m ()))=some (j,nt n (A++m.writes.flatMap eF,())):=by
 have hl:=mf.ph;unfold Kc;delta u16 u4 bV cy;refine cO (fun k:Nat=>(j,(k:Int),nt n (A++(m.writes.take k).flatMap eF,fp m ()))) m.writes.length (by rw[WP,NE,di];rfl) ?_ ?_ auh
 .intro k hk;have hx:=bA hk;have hr:=mf.gY _ (ut hk);have hb:=f9 eF 8001 (m.writes.take k) fun r h=>by have:=mf.gY r (asf h);unfold eF;rw[dG,bF];omega
  rw[dK]at hb;obtain⟨w,hw⟩:∃w,w=m.writes[k]:=⟨_,rfl⟩;rw[<-hw]at hr hx;obtain⟨P,hP⟩:∃P,P=A++(m.writes.take k).flatMap eF:=⟨_,rfl⟩;have hPl:P.length<=302000000:=by rw[hP,bF];omega
  have ht:((P++[w.on])++w.addr)++w.data=A++(m.writes.take (k+1)).flatMap eF:=by rw[hP,Pl.cK hx,BT,ast];unfold eF;simp only[bM,ask,PP]
  have e:∀(a b:jp) (p q:Int),a=b->p=q->(aul (j,p,nt n (a,fp m ())):am zO zF)=aul (j,q,nt n (b,fp m ())):=by rintro _ _ _ _ rfl rfl;rfl
  rw[<-hP];unfold nt
  try dsimp only
  unfold J5;rw[bz (σ:=bu) (lf bX hx)];have r1:room 8 (List.length (P++[w.on]))=true:=pQ (by rw[bF];simp;omega);have r2:room 8 (List.length ((P++[w.on])++w.addr))=true:=pQ (by rw[bF,bF];simp;omega);have r3:room 8 (List.length (((P++[w.on])++w.addr)++w.data))=true:=pQ (by rw[bF,bF,bF];simp;omega);exact ba (map_lt bX hx) (aK (iB bX hx) (aK r1 (aK r2 (aK r3 (e _ _ _ _ ht (mU (show(k:Int)+1=((k+1:Nat):Int) by omega) auc))))))
 .rw[cV];exact aN (oi bX m.writes) rfl
theorem al9:U4 (dn n,())=some (cL n,()):=by
 have l1:=ft.aT.1;have l2:=ft.out.1;have l3:=ft.fe.1;have l4:=ft.ga.1;have l5:=ft.af.1;have l6:=ft.ag.1;have e3:U5 ((0:Int),nt n ([],()))=some (nt n (n.ah.map (·.next),())):=by
  unfold U5;delta ei;refine cO (fun k:Nat=>((k:Int),nt n ((n.ah.take k).map (·.next),()))) n.ah.length rfl ?_ ?_ auh
  .intro k hk;have hx:=bA hk;have ht:(n.ah.take k).map (·.next)++[n.ah[k].next]=(n.ah.take (k+1)).map (·.next):=by rw[Pl.cK hx,cH];rfl
   have e:∀(a b:jp) (p q:Int),a=b->p=q->(aul (p,nt n (a,())):am z9 zQ)=aul (q,nt n (b,())):=by rintro _ _ _ _ rfl rfl;rfl
   unfold nt
   try dsimp only
   unfold Kj;rw[bz (σ:=ae) (lf aX hx)];exact ba (map_lt aX hx) (aK (iB aX hx) (aK (show room 8 (List.length ((n.ah.take k).map (·.next)++[n.ah[k].next]))=true from pQ (by rw[bF,aG,dK,List.length_singleton];omega)) (e _ _ _ _ ht (mU (show(k:Int)+1=((k+1:Nat):Int) by omega) auc))))
  .rw[cV];exact aN (oi aX n.ah) rfl
 obtain⟨A,hA⟩:∃A,A=((n.ah.map (·.next)++n.bk)++n.aU)++n.constraints:=⟨_,rfl⟩;have hAl:A.length<=16000:=by rw[hA];simp only[bF,aG];omega
 have hmem:∀m∈n.af,(dU m).length<=1300000:=fun m h=>by
  have mf:=ft.af.2 m h;have a:=f9 (fun r:fh=>r.addr) 4000 m.reads fun r h=>(mf.fq r h).1;have b:=f9 eF 8001 m.writes fun r h=>by have:=mf.gY r h;unfold eF;rw[dG,bF];omega
  have:=mf.kO;have:=mf.ph;unfold dU;rw[bF];omega
 have e10:UM ((0:Int),nt n (A,()))=some (nt n (A++n.af.flatMap dU,())):=by
  unfold UM;delta ei;refine cO (fun k:Nat=>((k:Int),nt n (A++(n.af.take k).flatMap dU,()))) n.af.length (by rw[WP,NE,di];rfl) ?_ ?_ auh
  .intro k hk;have hx:=bA hk;have mf:=ft.af.2 _ (ut hk);obtain⟨m,hm⟩:∃m,m=n.af[k]:=⟨_,rfl⟩;rw[<-hm]at hx mf;have hb:=f9 dU 1300000 (n.af.take k) fun r h=>hmem r (asf h);rw[dK]at hb;have ha:=f9 (fun r:fh=>r.addr) 4000 m.reads fun r h=>(mf.fq r h).1;have hrn:=mf.kO;have e14:=anq (n:=n) (k:Int) mf (A++(n.af.take k).flatMap dU) (by rw[bF];omega);have e18:=anr (n:=n) (k:Int) mf ((A++(n.af.take k).flatMap dU)++m.reads.flatMap (·.addr)) (by rw[bF,bF];omega);have ht:((A++(n.af.take k).flatMap dU)++m.reads.flatMap (·.addr))++m.writes.flatMap eF=A++(n.af.take (k+1)).flatMap dU:=by rw[Pl.cK hx,BT,ast];unfold dU;simp only[bM]
   have e:∀(a b:jp) (p q:Int),a=b->p=q->(aul (p,nt n (a,())):am zM zC)=aul (q,nt n (b,())):=by rintro _ _ _ _ rfl rfl;rfl
   unfold nt
   try dsimp only
   unfold J0;rw[bz (σ:=ai) (lf aM hx)];exact ba (map_lt aM hx) (aK (iB aM hx) (aZ e14 (aZ e18 (e _ _ _ _ ht (mU (show(k:Int)+1=((k+1:Nat):Int) by omega) auc)))))
  .rw[cV];exact aN (oi aM n.af) rfl
 obtain⟨B,hB⟩:∃B,B=A++n.af.flatMap dU:=⟨_,rfl⟩;have hBl:B.length<=200000000:=by have hb:=f9 dU 1300000 n.af hmem;rw[hB,bF];omega
 have e25:UN ((0:Int),nt n (B,()))=some (B++n.ag.flatMap fH,()):=by
  unfold UN;delta ei;refine cO (fun k:Nat=>((k:Int),nt n (B++(n.ag.take k).flatMap fH,()))) n.ag.length (by rw[WP,NE,di];rfl) ?_ ?_ auh
  .intro k hk;have hx:=bA hk;have hb:=f9 fH 2 (n.ag.take k) fun r _=>ro 2;rw[dK]at hb;have ht:(B++(n.ag.take k).flatMap fH)++[n.ag[k].a,n.ag[k].b]=B++(n.ag.take (k+1)).flatMap fH:=by rw[Pl.cK hx,BT,<-bM,ast];rfl
   have e:∀(a b:jp) (p q:Int),a=b->p=q->(aul (p,nt n (a,())):am zP zG)=aul (q,nt n (b,())):=by rintro _ _ _ _ rfl rfl;rfl
   have r1:room 8 (List.length ((B++(n.ag.take k).flatMap fH)++[n.ag[k].a,n.ag[k].b]))=true:=pQ (by rw[bF,bF,dG,List.length_singleton];omega);unfold nt
   try dsimp only
   unfold J6;rw[bz (σ:=ae) (lf aL hx)];exact ba (map_lt aL hx) (aK (iB aL hx) (aK (iB aL hx) (aK r1 (e _ _ _ _ ht (mU (show(k:Int)+1=((k+1:Nat):Int) by omega) auc)))))
  .rw[cV];exact aN (oi aL n.ag) rfl
 rw[hA]at e10;rw[hB,hA]at e25;have r1:room 8 (List.length (n.ah.map (·.next)++n.bk))=true:=pQ (by simp only[bF,aG];omega);have r2:room 8 (List.length ((n.ah.map (·.next)++n.bk)++n.aU))=true:=pQ (by simp only[bF,aG];omega);have r3:room 8 (List.length (((n.ah.map (·.next)++n.bk)++n.aU)++n.constraints))=true:=pQ (by simp only[bF,aG];omega);exact aZ e3 (aK r1 (aK r2 (aK r3 (aZ e10 (aZ e25 rfl)))))
end
def tk(m:kw)(L:jp):kw:=L.foldl (fun m v=>m.set v.toNat true) m
theorem aaq:∀(L:jp) (m:kw),(tk m L).length=m.length
 |[],_=>rfl|v::L,m=>(aaq L _).trans (aig ..)
theorem aca:∀(L:jp) (m:kw) (p:Nat),(tk m L).getD p false=true↔m.getD p false=true\/∃v∈L,v.toNat=p/\p<m.length
 |[],m,p=>by unfold tk;simp|v::L,m,p=>by
  have ih:=aca L (m.set v.toNat true) p;show(tk (m.set v.toNat true) L).getD p false=true↔_
  grind
section
variable{n:aB}{V:Nat}(hv:n.vars=(V:Int))(hV:V<=2000)(K:OJ n)
include hv hV K
theorem ajM(hl:(bp n).length<=10000000):Vr (dn n,())=some (dup n.vars [] (bp n),()):=by
 have eD:=aas K;obtain⟨D,hD⟩:∃D,D=bp n:=⟨_,rfl⟩;rw[<-hD]at eD hl |-;obtain⟨m0,hm0⟩:∃m,m=List.replicate (V+1) false:=⟨_,rfl⟩;have hml:∀L,(tk m0 L).length=V+1:=fun L=>by rw[aaq,hm0,fx]
 have hat:∀(L:jp) (p:Nat),p<=V->((tk m0 L).getD p false=true↔∃v∈L,v.toNat=p):=fun L p hp=>by
  rw[aca,hm0,fx];constructor
  .rintro(h|⟨v,h1,h2,_⟩)
   .rw[ff,ati]at h;split at h<;>simp at h
   .exact⟨v,h1,h2⟩
  .rintro⟨v,h1,h2⟩;exact .inr ⟨v,h1,h2,auc⟩
 have hL:=jD (B:=fun d=>Bt d.1 d.2.1 d.2.2.1 d.2.2.2.1 d.2.2.2.2.1 d.2.2.2.2.2.1 d.2.2.2.2.2.2.1 d.2.2.2.2.2.2.2.1 d.2.2.2.2.2.2.2.2.1 d.2.2.2.2.2.2.2.2.2.1 d.2.2.2.2.2.2.2.2.2.2.1)
  (I:=fun d:TL tY.σs=>∃k:Nat,k<=D.length/\d=(D,(k:Int),nt n (tk m0 (D.take k),()))/\dup n.vars [] D=dup n.vars (D.take k) (D.drop k)/\(∀v∈D.take k,1<=v/\v<=(V:Int))/\(D.take k).Nodup)
  (Q:=fun o:Out vW=>(o=.inl (dup n.vars [] D,())/\dup n.vars [] D≠0)\/(o=.inr (nt n (tk m0 D,()))/\dup n.vars [] D=(if(D.length:Int)<n.vars then 7 else 0)/\(∀v∈D,1<=v/\v<=(V:Int))/\D.Nodup))
  (fun d:TL tY.σs=>D.length-Int.toNat d.2.1) ?_ NN (D,(0:Int),nt n (m0,())) ⟨0,auc,rfl,rfl,aue,aue⟩ (bG (by show D.length-Int.toNat (0:Int)<=_;omega))
 .obtain⟨o,e4,q⟩:=hL;have hw:pu (n.vars+1)=((V+1:Nat):Int):=by rw[hv];exact mU auc auc
  have hb:∀z:Int,z=((V+1:Nat):Int)->both (iE (0:Int) z) (both (iE z z) (iE ((Int.ofNat 1)*z) (281474976710656:Int)))=true:=by rintro _ rfl;have a1:iE (0:Int) ((V+1:Nat):Int)=true:=auj;have a2:iE ((V+1:Nat):Int) ((V+1:Nat):Int)=true:=auj;have a3:iE ((Int.ofNat 1)*((V+1:Nat):Int)) (281474976710656:Int)=true:=aF (by show(1:Int)*((V+1:Nat):Int)<=_;omega);rw[a1,a2,a3];rfl
  have e4':∀L:kw,L=m0->ag6 (D,(0:Int),nt n (L,()))=some o:=by rintro _ rfl;exact e4
  have hrep:List.replicate (Int.toNat (pu (n.vars+(1:Int)))) (Sh.zero .bool)=m0:=by rw[hw,hm0];rfl
  rcases q with⟨rfl,q⟩|⟨rfl,q1,q2,q3⟩
  .exact(bg eD).trans ((aW (hb _ hw)).trans ((bg (e4' _ hrep)).trans rfl))
  .have hnot:∀v:Nat,1<=v->v<=V->((tk m0 D).getD v false=true↔(v:Int)∈D):=fun v v1 v2=>by
    rw[hat D v v2];constructor
    .rintro⟨u,h1,h2⟩;have:=q2 u h1;rw[show(v:Int)=u by omega];exact h1
    .exact fun h=>⟨_,h,aue⟩
   have e12:U9 ((1:Int),nt n (tk m0 D,()))=some (if(List.range V).any (fun i=>!(tk m0 D).getD (i+1) false)then .inl ((7:Int),())else .inr ()):=by
    unfold U9;delta ei;refine sM (fun i:Nat=>(((i+1:Nat):Int),nt n (tk m0 D,()))) (List.range V) (fun i=>!(tk m0 D).getD (i+1) false) (fun i x hx q=>?_) (fun i x hx q=>?_) ?_ rfl (bG (by rw[asi];omega))
    .obtain⟨hi,rfl⟩:=rg.1 hx;rw[asi]at hi;rw[List.getElem_range]at q;have ek:pu (((i+1:Nat):Int)+1)=((i+1+1:Nat):Int):=mU auc auc;have e:∀p q:Int,p=q->(aul (p,nt n (tk m0 D,())):am Ae zS)=aul (q,nt n (tk m0 D,())):=by rintro _ _ rfl;rfl
     unfold nt
     try dsimp only
     unfold vY;exact ba (aF (by rw[hv];omega)) (aK (aP ⟨auc,by rw[hml];omega⟩) (aN (show Bool.not (gt .bool (tk m0 D) ((i+1:Nat):Int))=false from q) (e _ _ ek)))
    .obtain⟨hi,rfl⟩:=rg.1 hx;rw[asi]at hi;rw[List.getElem_range]at q;unfold nt
     try dsimp only
     unfold vY;exact ba (aF (by rw[hv];omega)) (aK (aP ⟨auc,by rw[hml];omega⟩) (ba (show Bool.not (gt .bool (tk m0 D) ((i+1:Nat):Int))=true from q) rfl))
    .rw[asi];unfold nt
     try dsimp only
     unfold vY;exact aN (aJ (by rw[hv];omega)) rfl
   have hany:(List.range V).any (fun i=>!(tk m0 D).getD (i+1) false)=decide (D.length<V):=by
    rw[atR,asQ,decide_eq_true_iff];constructor
    .rintro⟨i,hi,h⟩;have hi:=act.1 hi;rcases adc D.length V with c|c
     .exact c
     .have:=(sD V D q3 q2).2 c (i+1) auc auc;rw[(hnot (i+1) auc auc).2 this]at h;cases h
    .intro c;refine Classical.byContradiction fun h=>?_;have:=TZ V (D.map Int.toNat) fun j a b=>by
      have:(tk m0 D).getD j false=true:=by cases r:(tk m0 D).getD j false with|true=>rfl|false=>exact absurd ⟨j-1,act.2 auc,by rw[show j-1+1=j by omega,r];rfl⟩ h
      exact rt.2 ⟨(j:Int),(hnot j a b).1 this,aue⟩
     rw[aG]at this;omega
   rw[hany]at e12;refine(bg eD).trans ((aW (hb _ hw)).trans ((bg (e4' _ hrep)).trans ((bg e12).trans ?_)));rw[q1,hv];by_cases c:D.length<V
   .rw[fm c,IO (show(D.length:Int)<(V:Int) by omega)];rfl
   .rw[jC c,Fr (show ¬(D.length:Int)<(V:Int) by omega)];rfl
 .rintro d ⟨k,k1,rfl,k2,k3,k4⟩;rcases adc k D.length with hk|hk
  .have hx:=bA hk;obtain⟨v,hvv⟩:∃v,v=D[k]:=⟨_,rfl⟩;rw[<-hvv]at hx;have aS:an (k:Int) D.length=true:=aug;have h0:iL (k:Int) (Int.ofNat D.length)=true:=aF (show(k:Int)<(D.length:Int) by omega);have g:gt .I D (k:Int)=v:=bz (σ:=.I) hx;unfold nt
   try dsimp only
   unfold Bt;rw[g];by_cases c1:v<1
   .have hd:=adA (V:=n.vars) hx (.inl c1);rw[<-k2]at hd;exact .inl ⟨_,ba h0 (aK aS (ba (aF c1) rfl)),.inl ⟨by rw[hd],by rw[hd];decide⟩⟩
   .by_cases c2:n.vars<v
    .have hd:=adA (V:=n.vars) hx (.inr c2);rw[<-k2]at hd;exact .inl ⟨_,ba h0 (aK aS (aN (aJ c1) (aK aS (ba (show bK false true (iL n.vars v)=true from aF c2) rfl)))),.inl ⟨by rw[hd],by rw[hd];decide⟩⟩
    .have f2:bK false true (iL n.vars v)=false:=aJ c2;have hin2:an v (List.length (tk m0 (D.take k)))=true:=aP ⟨auc,by rw[hml];omega⟩;have hg:=hat (D.take k) v.toNat auc;cases hs:(tk m0 (D.take k)).getD v.toNat false with
     |true=>obtain⟨u,u1,u2⟩:=hg.1 hs;have:=k3 u u1;have hd:=ap8 (V:=n.vars) hx auc auc (by rw[List.contains_iff_mem,show v=u by omega];exact u1);rw[<-k2]at hd;exact .inl ⟨_,ba h0 (aK aS (aN (aJ c1) (aK aS (aN f2 (aK aS (aK hin2 (ba (show gt .bool (tk m0 (D.take k)) v=true from hs) rfl))))))),.inl ⟨by rw[hd],by rw[hd];decide⟩⟩
     |false=>
      have hnm:v∉D.take k:=fun h=>by rw[hg.2 ⟨v,h,rfl⟩]at hs;cases hs
      have hd:=akO (V:=n.vars) hx auc auc (by simpa using hnm);refine .inr ⟨(D,((k+1:Nat):Int),nt n (tk m0 (D.take (k+1)),())),?_,⟨k+1,auc,rfl,by rw[k2,hd],?_,?_⟩,by show D.length-Int.toNat ((k+1:Nat):Int)<D.length-Int.toNat (k:Int);omega⟩
      .have e:∀(p q:Int) (L M:kw),p=q->L=M->(aul (D,p,nt n (L,())):am tY vW)=aul (D,q,nt n (M,())):=by rintro _ _ _ _ rfl rfl;rfl
       exact ba h0 (aK aS (aN (aJ c1) (aK aS (aN f2 (aK aS (aK hin2 (aN (show gt .bool (tk m0 (D.take k)) v=false from hs) (aK aS (aK hin2 (e _ _ _ _ (mU (show(k:Int)+1=((k+1:Nat):Int) by omega) auc) (by rw[Pl.cK hx];unfold tk;rw[aso];rfl)))))))))))
      .intro u hu;rw[Pl.cK hx,qr,GE]at hu;rcases hu with hu|rfl
       .exact k3 u hu
       .omega
      .rw[Pl.cK hx,rx];exact⟨k4,aue,fun a ha b hb e=>by rw[GE]at hb;subst hb;subst e;exact hnm ha⟩
  .obtain rfl:k=D.length:=auc
   have hd:=alV (V:=n.vars) (l:=D) (ro _);rw[<-k2]at hd;rw[cV]at k3 k4 |-;exact .inl ⟨.inr (nt n (tk m0 D,())),aN (aJ (show ¬(D.length:Int)<(D.length:Int) by omega)) rfl,.inr ⟨rfl,hd,k3,k4⟩⟩
end
theorem aaz{V:Int}(h:0<=l):(2*V+1<l)=(V<l / 2):=by grind
theorem aan{n:aB}(ft:Fit n):Zad (dn n,())=some (da n,()):=by
 have el:=aj9 ft;have hmn:=ft.af.1;have hln:=ft.aT.1;show LJ U4 Vr LP V6 Lb Lc KP (dn n)=_;unfold LJ;have key:∀z:Int,z=da n->(some (z,()):Option (TL Cr))=some (da n,()):=by rintro _ rfl;rfl
 refine(bg el).trans ?_;cases c1:ij n with
 |true=>exact key 10 (by unfold da;rw[c1];rfl)|false=>
  have hlim:(0<=n.vars/\n.vars<=2000):=by unfold ij at c1;rw[ats]at c1;have:=asM c1.1;omega
  obtain⟨V,hv⟩:=By hlim.1;have hv:n.vars=(V:Int):=hv;have e4:Lb ((0:Int),nt n ())=some (if n.af.any fZ then .inl ((9:Int),())else .inr (nt n ())):=by
   unfold Lb;delta u9;refine sM (fun i:Nat=>((i:Int),nt n ())) n.af fZ (fun i x hx q=>?_) (fun i x hx q=>?_) ?_ rfl auh
   .have hl:=(rg.1 hx).1;have ew:=aaQ (ft.af.2 x (d5 hx));rw[q]at ew;have e:∀p q:Int,p=q->(aul (p,nt n ()):am Bq A5)=aul (q,nt n ()):=by rintro _ _ rfl;rfl
    unfold nt
    try dsimp only
    unfold Cp;rw[bz (σ:=ai) (lf aM hx)];exact ba (map_lt aM hx) (aK (iB aM hx) (aZ ew (aN rfl (e _ _ (bP (x:=(i:Int)+1) auc)))))
   .have ew:=aaQ (ft.af.2 x (d5 hx));rw[q]at ew;unfold nt
    try dsimp only
    unfold Cp;rw[bz (σ:=ai) (lf aM hx)];exact ba (map_lt aM hx) (aK (iB aM hx) (aZ ew (ba rfl rfl)))
   .exact aN (oi aM n.af) rfl
  refine(bC rfl).trans ((bg e4).trans ?_);cases c2:n.af.any fZ with
  |true=>exact key 9 (by unfold da;rw[c1,c2];rfl)|false=>
   have e9:Lc ((0:Int),nt n ())=some (if n.ah.any jc then .inl ((1:Int),())else .inr (nt n ())):=by
    unfold Lc;delta u9;refine sM (fun i:Nat=>((i:Int),nt n ())) n.ah jc (fun i x hx q=>?_) (fun i x hx q=>?_) ?_ rfl auh
    .have hl:=(rg.1 hx).1;have e:∀p q:Int,p=q->(aul (p,nt n ()):am Br A7)=aul (q,nt n ()):=by rintro _ _ rfl;rfl
     have q:=asM q;unfold nt
     try dsimp only
     unfold Cq;rw[bz (σ:=ae) (lf aX hx)];exact ba (map_lt aX hx) (aK (iB aX hx) (aN (show iL x.init (0:Int)=false from aui) (aK (iB aX hx) (aN (show bK false true (iL (2:Int) x.init)=false from aui) (e _ _ (bP (x:=(i:Int)+1) auc))))))
    .have q:=asl q;unfold nt
     try dsimp only
     unfold Cq;rw[bz (σ:=ae) (lf aX hx)];by_cases c:x.init<0
     .exact ba (map_lt aX hx) (aK (iB aX hx) (ba (show iL x.init (0:Int)=true from aF c) rfl))
     .exact ba (map_lt aX hx) (aK (iB aX hx) (aN (show iL x.init (0:Int)=false from aJ c) (aK (iB aX hx) (ba (show bK false true (iL (2:Int) x.init)=true from auj) rfl))))
    .exact aN (oi aX n.ah) rfl
   refine(bg e9).trans ?_;cases c3:n.ah.any jc with
   |true=>exact key 1 (by unfold da;rw[c1,c2,c3];rfl)|false=>
    have hwd:∀m∈n.af,1<=m.word/\m.word<=64:=fun m hm=>by have:=List.any_eq_false.1 c2 m hm;unfold fZ at this;simp only[Bool.or_eq_true,IS,not_or]at this;omega
    have K:OJ n:=⟨ft.ins.1,ft.aT.1,ft.ag.1,ft.af.1,fun m hm=>⟨hwd m hm,(ft.af.2 m hm).kO,fun r hr=>⟨((ft.af.2 m hm).fq r hr).2.1,((ft.af.2 m hm).fq r hr).2.2.1⟩⟩⟩;have hDl:(bp n).length<=10000000:=by
     have hb:=f9 dy 6400 n.af fun m hm=>by
      obtain⟨⟨m3,m4⟩,m7,m5⟩:=K.mem m hm;have h2:=f9 (fun r:fh=>cM r.var m.word.toNat) 64 m.reads fun r _=>by unfold cM;rw[aG,asi];omega
      unfold dy;omega
     have:=K.ins;have:=K.ag;unfold bp;simp only[bF,aG];omega
    have ed:=ajM hv auc K hDl;have hsF:da n=if dup n.vars [] (bp n)≠0 then dup n.vars [] (bp n)else if(cL n).any (gi n.vars)then 5 else 0:=by unfold da;rw[c1,c2,c3];rfl
    refine(bg ed).trans ?_;by_cases c4:dup n.vars [] (bp n)=0
    .rw[Fr (fun h=>h c4)]at hsF;have eL:=al9 ft;have hll:(cL n).length<=1000000000:=by
      have hmem:=f9 dU 1300000 n.af fun m h=>by
       have mf:=ft.af.2 m h;have a:=f9 (fun r:fh=>r.addr) 4000 m.reads fun r h=>(mf.fq r h).1;have b:=f9 eF 8001 m.writes fun r h=>by have:=mf.gY r h;unfold eF;rw[dG,bF];omega
       have:=mf.kO;have:=mf.ph;unfold dU;rw[bF];omega
      have ha:=f9 fH 2 n.ag fun r _=>ro 2;have:=ft.out.1;have:=ft.fe.1;have:=ft.ga.1;have:=ft.ag.1;unfold cL;simp only[bF,aG]at ha |-;omega
     obtain⟨L,hL⟩:∃L,L=cL n:=⟨_,rfl⟩;rw[<-hL]at eL hll hsF;have e18:KP (L,(0:Int),nt n ())=some (if L.any (gi n.vars)then .inl ((5:Int),())else .inr ()):=by
      have hw:pu ((pu ((2:Int)*n.vars))+(1:Int))=2*n.vars+1:=by rw[bP (x:=2*n.vars) auc];exact auk
      unfold KP;delta ei;refine sM (fun i:Nat=>(L,(i:Int),nt n ())) L (gi n.vars) (fun i x hx q=>?_) (fun i x hx q=>?_) ?_ rfl auh
      .have hl:=(rg.1 hx).1;have q:=asM q;have e:∀p q:Int,p=q->(aul (L,p,nt n ()):am A4 AA)=aul (L,q,nt n ()):=by rintro _ _ rfl;rfl
       have aS:an (i:Int) L.length=true:=aug;unfold nt
       try dsimp only
       unfold BZ;rw[bz (σ:=.I) hx,hw];exact ba (aF (show(i:Int)<(L.length:Int) by omega)) (aK aS (aN aui (aK aS (aN (show bK false true (iL (2*n.vars+1) x)=false from aJ (by rw[aaz auc];omega)) (e _ _ (bP (x:=(i:Int)+1) auc))))))
      .have hl:=(rg.1 hx).1;have q:=asl q;have aS:an (i:Int) L.length=true:=aug;unfold nt
       try dsimp only
       unfold BZ;rw[bz (σ:=.I) hx,hw];by_cases c:x<0
       .exact ba (aF (show(i:Int)<(L.length:Int) by omega)) (aK aS (ba (aF c) rfl))
       .exact ba (aF (show(i:Int)<(L.length:Int) by omega)) (aK aS (aN (aJ c) (aK aS (ba (show bK false true (iL (2*n.vars+1) x)=true from aF (by rw[aaz auc];omega)) rfl))))
      .exact aN (aJ (show ¬(L.length:Int)<(L.length:Int) by omega)) rfl
     refine(bC (show Bool.not (iQ (dup n.vars [] (bp n)) (0:Int))=false by rw[c4];rfl)).trans ((bg eL).trans ((bg e18).trans ?_));cases c5:L.any (gi n.vars)with|true=>exact key 5 (by rw[hsF,c5];rfl)|false=>exact key 0 (by rw[hsF,c5];rfl)
    .exact(bR (sZ (aJ c4))).trans (key _ (by rw[hsF,IO c4]))
def A6(n:aB)(k:Nat):List (cU×cg):=(kT k).zip ((n.ag.take k).map kS)
def M6(n:aB)(k:Nat):List (cU×cg):=(iC 0 (n.af.take k)).zip ((n.af.take k).flatMap iY)
def R6(j:Nat)(M:cC)(r:Nat):List (cU×cg):=(nm j r).zip ((M.reads.take r).map (lK M.word))
def n6(n:aB):List (cU×cg):=A6 n n.ag.length++M6 n n.af.length
variable{k:Nat}
theorem alL{n:aB}{a:dM}(h:n.ag[k]?=some a):A6 n (k+1)=A6 n k++[(⟨false,0,k⟩,kS a)]:=by unfold A6;rw[acP,cK h,cH,List.zip_append (by rw[vH,aG,dK];have:=jN h;omega)];rfl
theorem ac5{n:aB}(h:k<=n.ag.length):(A6 n k).length=k:=by unfold A6;rw[List.length_zip,vH,aG,dK];omega
variable{M:cC}
theorem alO{r:fh}(h:M.reads[k]?=some r):R6 j M (k+1)=R6 j M k++[(⟨true,j,k⟩,lK M.word r)]:=by unfold R6;rw[adh,cK h,cH,List.zip_append (by rw[T4,aG,dK];have:=jN h;omega)];rfl
theorem aqe(h:k<=M.reads.length):(R6 j M k).length=k:=by unfold R6;rw[List.length_zip,T4,aG,dK];omega
theorem alN{n:aB}(h:n.af[k]?=some M):M6 n (k+1)=M6 n k++R6 k M M.reads.length:=by unfold M6 R6;rw[cK h,T6,BT,List.zip_append (by rw[vF])];have:=jN h;rw[dK,asO auc,asz,cV];simp only[ww,NE,di];rfl
theorem anA(n:aB)(hA:n.ag.length<=2000):Zeg ((0:Int),nt n ([],()))=some (nt n ((A6 n n.ag.length).map bB,())):=by
 unfold Zeg;delta ei;refine cO (fun k:Nat=>((k:Int),nt n ((A6 n k).map bB,()))) n.ag.length rfl ?_ ?_ auh
 .intro k hk;have ha:=bA hk;have ha':(n.ag.map aL)[k]?=some (aL n.ag[k]):=by grind
  unfold nt
  try dsimp only
  unfold Jb;refine ba (aF (show(k:Int)<(((n.ag.map aL).length:Nat):Int) by rw[aG];omega)) (aK (aP ⟨auc,by grind⟩) ?_);rw[bz ha'];refine aK (eX (L:=(A6 n k).map bB) (by rw[aG,ac5 auc];omega) auf) ?_;rw[bP (x:=(k:Int)+1) auc,alL ha,List.map_append (l₁:=A6 n k)];rfl
 .unfold nt
  try dsimp only
  unfold Jb;refine aN (aJ (show ¬(n.ag.length:Int)<(((n.ag.map aL).length:Nat):Int) by rw[aG];omega)) rfl
theorem amm{n:aB}(hM:n.af[j]?=some M)(hw:0<=M.word/\M.word<=4000)(hR:M.reads.length<=4)(hrv:∀r∈M.reads,-1099511627776<=r.var/\r.var<=1099511627776)(hj:j<=4)(pre:List (cU×cg))(hp:pre.length<=3000) :
  SM ((j:Int),(0:Int),nt n (pre.map bB,()))=some ((j:Int),nt n ((pre++R6 j M M.reads.length).map bB,())):=by
 have hM':(n.af.map aM)[j]?=some (aM M):=by grind
 have hjl:=jN hM';unfold SM;delta ju;refine cO (fun k:Nat=>((j:Int),(k:Int),nt n ((pre++R6 j M k).map bB,()))) M.reads.length (by rw[show R6 j M 0=[]from rfl,di];rfl) ?_ ?_ auh
 .intro k hk;have hr:=bA hk;have hr':(M.reads.map bS)[k]?=some (bS M.reads[k]):=by rw[cW,hr];rfl
  have e1:=N1 M k _ hr hw (hrv _ (ut hk));unfold nt
  try dsimp only
  unfold I5;rw[aW aug,bz hM',show(aM M).2.2.2.1=M.reads.map bS from rfl];refine ba (aF (show(k:Int)<(((M.reads.map bS).length:Nat):Int) by rw[aG];omega)) (aK aug (aK (aP ⟨auc,by rw[aG];omega⟩) (aK aug ?_)));rw[bz hr'];refine(bg e1).trans (aK (eX (L:=(pre++R6 j M k).map bB) (by rw[aG,bF,aqe auc];omega) auf) ?_);rw[bP (x:=(k:Int)+1) auc,alO hr,<-bM,List.map_append (l₁:=pre++R6 j M k)];rfl
 .unfold nt
  try dsimp only
  unfold I5;rw[aW aug,bz hM',show(aM M).2.2.2.1=M.reads.map bS from rfl];exact aN (aJ (show ¬(M.reads.length:Int)<(((M.reads.map bS).length:Nat):Int) by rw[aG];omega)) rfl
theorem aqf(n:aB)(k:Nat):(M6 n k).length=((n.af.take k).flatMap iY).length:=by unfold M6;rw[List.length_zip,vF];omega
theorem rm(n:aB):(n6 n).map (fun x:cU×cg=>x.2)=dt n:=by
 unfold n6 A6 M6 dt;rw[cH,cV,cV];congr 1
 .exact List.map_snd_zip (by rw[vH,aG];omega)
 .exact List.map_snd_zip (by rw[vF];omega)
theorem sY(n:aB):(n6 n).map (fun x:cU×cg=>x.2.nd)=bh n:=by unfold bh;rw[<-rm,IR];rfl
theorem xA{n:aB}{V:Nat}(hs:cA n V):N6 (n6 n) V:=by
 have hm:∀x∈n6 n,x.2∈dt n:=fun x hx=>by rw[<-rm];exact AT hx
 refine⟨hs.v2,?_,fun x hx=>⟨?_,fun v hv=>?_⟩,fun x hx=>⟨?_,fun l hl=>?_⟩⟩
 .have h:=zk hs;rw[<-sY,aG]at h;exact h
 .have:=(vN hs (hm x hx)).1;omega
 .have:=hs.mI (hm x hx) hv;omega
 .have:=(vN hs (hm x hx)).2;omega
 .have:=hs.uT (hm x hx) hl;omega
theorem RO{n:aB}{V:Nat}(hs:cA n V)(ft:Fit n):Sz (dn n,())=some ((n6 n).map bB,()):=by
 have hA:=hs.lens.2.2.1;have hMl:=hs.lens.2.2.2.2;have e3:=anA n hA;have hlen:∀k,k<=n.af.length->(A6 n n.ag.length++M6 n k).length<=3000:=by
  intro k hk;rw[bF,ac5 (ro _),aqf];have:=pU iY (n.af.take k) 4 (fun M hM=>by unfold iY;rw[aG];exact(hs.af M (asf hM)).2.2.2.2.2.2.1)
  grind
 have e8:Zef ((0:Int),nt n ((A6 n n.ag.length).map bB,()))=some ((n6 n).map bB,()):=by
  unfold Zef;delta ei;refine cO (fun k:Nat=>((k:Int),nt n ((A6 n n.ag.length++M6 n k).map bB,()))) n.af.length (by rw[show M6 n 0=[]from rfl,di];rfl) ?_ ?_ auh
  .intro k hk;have hM:=bA hk;have hm:=hs.af _ (ut hk);have hfit:=ft.af.2 _ (ut hk);have e11:=amm hM ⟨auc,auc⟩ hm.2.2.2.2.2.2.1 (fun r hr=>⟨(hfit.fq r hr).2.1,(hfit.fq r hr).2.2.1⟩) auc (A6 n n.ag.length++M6 n k) (hlen k auc);unfold nt
   try dsimp only
   unfold Ja;refine ba (aF (show(k:Int)<(((n.af.map aM).length:Nat):Int) by rw[aG];omega)) ((bg e11).trans ?_);have e:∀(p q:Int) (s s':List bT.T),p=q->s=s'->(aul (p,nt n (s,())):am IP IJ)=aul (q,nt n (s',())):=by rintro _ _ _ _ rfl rfl;rfl
   exact e _ _ _ _ (bP (x:=(k:Int)+1) auc) (by rw[alN hM,bM]<;>rfl)
  .unfold nt
   try dsimp only
   unfold Ja;exact aN (aJ (show ¬(n.af.length:Int)<(((n.af.map aM).length:Nat):Int) by rw[aG];omega)) rfl
 exact aZ e3 (aZ e8 rfl)
theorem aee{n:aB}{V:Nat}(hs:cA n V)(ft:Fit n)(h0:da n=0) :
  Zfg (dn n,())=some (if dO (bh n) V then(jt (bh n) ((n6 n).length+1) (kI (bh n) V),true,())else([],false,())):=by
 have hV2:=hs.v2;have h6:=xA hs;have es:=aan ft;have eN:=RO hs ft;have hw:pu (n.vars+1)=((V+1:Nat):Int):=by rw[hs.vars,auk];omega
 have e6:=aoh h6 (List.replicate (V+1) 0) aue;rw[sY]at e6;have hout:dT (List.replicate (V+1) 0) ((bh n).flatMap (·.to)) (-1)=kI (bh n) V:=rfl;rw[hout]at e6;have hol:(kI (bh n) V).length=V+1:=by unfold kI;rw[lT];simp
 have hob:∀u,aT (kI (bh n) V) u<=0:=by
  unfold kI;refine Uf auc _ (fun u=>?_);unfold aT
  grind
 have e14:=ank h6 (kI (bh n) V) hol hob;rw[sY]at e14;have hNl:(n6 n).length=(bh n).length:=by rw[<-sY,aG]
 have ht:=ao5 hs.apart hs.aS hs.d8;rw[<-hNl]at ht;have hle:=Ur (bh n) (jt (bh n) (n6 n).length (kI (bh n) V));show Tc Sy Sz Zad SW IV SU IQ IC (dn n)=_;unfold Tc;refine(bg es).trans (aN (by rw[h0];rfl) ?_);have hw':pu (pm (dn n).1 (1:Int))=((V+1:Nat):Int):=hw;rw[hw'];refine aK (by show both (decide _) (both (decide _) (decide _))=true;rw[fm auc,fm auc,fm (by show(8:Int)*_<=_;omega)];rfl) ((bg eN).trans ((bg e6).trans ((bg e14).trans ?_)));by_cases ha:dO (bh n) V=true
 .have hz:=ht.2 ha;rw[IO ha];refine aN aui rfl
 .have hz:jB (bh n) (jt (bh n) (n6 n).length (kI (bh n) V))≠0:=fun h=>ha (ht.1 h);rw[Fr ha];refine ba auj rfl
theorem Zxe{n:aB}(ft:Fit n):ID (dn n,())=some (gV n,()):=by
 have es:=aan ft;by_cases h0:da n=0
 .obtain⟨V,hs⟩:=uS h0;have hV:n.vars.toNat=V:=by rw[hs.vars];rfl
  have eL:=aee hs ft h0;unfold gV;rw[h0,hV,Fr aue];by_cases ha:dO (bh n) V=true
  .rw[IO ha]at eL;rw[IO ha];exact aZ es (aN (by rw[h0];rfl) (aZ eL (aN rfl rfl)))
  .rw[Fr ha]at eL;rw[Fr ha];exact aZ es (aN (by rw[h0];rfl) (aZ eL (ba rfl rfl)))
 .unfold gV;rw[IO h0];exact aZ es (ba (by simp[h0]) rfl)
