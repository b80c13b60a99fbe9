import Derived.Test.YtbbhihkocghhaaaKNb
import Derived.Test.YtbbhihkocghhaaaKNd
set_option linter.all false
section
namespace Go.Proofs.Ytbbhihkocghhaaa.Pl
structure bt where
 rd:Bool
 mem:Nat
 pos:Nat
structure bn where
 to:io
 ax:io
def lg(a:fe):bn:=⟨[a.var],[a.a,a.b]⟩
def kZ(word:Int)(r:fQ):bn:=⟨cA r.var word.toNat,r.addr⟩
def ik(m:cP):List bn:=m.reads.map (kZ m.word)
def ei(n:ba):List bn:=n.ai.map lg++n.aa.flatMap ik
def gw(k:Nat)(m:cP):List bt:=(List.range m.reads.length).map fun i=>⟨true,k,i⟩
def gr(k:Nat):List cP->List bt
 |[]=>[]|m::l=>gw k m++gr (k+1) l
def db(n:ba):List bt:=(List.range n.ai.length).map (fun i=>⟨false,0,i⟩)++gr 0 n.aa
def bt.is(n:ba)(x:bt)(i:bn):Prop:=(x.rd=false/\∃a,n.ai[x.pos]?=some a/\i=lg a)\/(x.rd=true/\∃m r,n.aa[x.mem]?=some m/\m.reads[x.pos]?=some r/\i=kZ m.word r)
theorem Ta(n:List cP):∀(l:List cP) (k:Nat),(∀j,l[j]?=n[k+j]?)->∀(i:Nat) (x:bt),(gr k l)[i]?=some x->∃(m:cP) (r:fQ),n[x.mem]?=some m/\m.reads[x.pos]?=some r/\(l.flatMap ik)[i]?=some (kZ m.word r)/\x.rd=true:=by
 intro l
 induction l with
 |nil=>intro k _ i x h;simp[gr]at h|cons m l ih=>
  intro k hk i x h;rw[gr]at h;rw[GT];have hl1:(gw k m).length=m.reads.length:=by simp[gw]
  have hl2:(ik m).length=m.reads.length:=by simp[ik]
  by_cases hi:i<m.reads.length
  .rw[Fd acs]at h;rw[Fd acs];unfold gw at h;rw[dx,ace hi]at h;injection h with h;subst h;have:=hk 0;rw[aaW]at this;refine⟨m,m.reads[i],by rw[<-this];rfl,bF hi,?_,rfl⟩;unfold ik;rw[dx,bF hi];rfl
  .rw[IR acs]at h;rw[IR acs];rw[hl1]at h;rw[hl2];exact ih (k+1) (fun j=>by have:=hk (j+1);grind) _ x h
theorem qk:∀(l:List cP) (k:Nat),(gr k l).length=(l.flatMap ik).length:=by
 intro l
 induction l with|nil=>intro k;rfl|cons m l ih=>intro k;rw[gr,GT,aP,aP,ih];simp[gw,ik]
theorem Qw(n:ba):(db n).length=(ei n).length:=by unfold db ei;simp only[aP,qk];simp
variable{i:Nat}
theorem B9(n:ba){x:bt}(h:(db n)[i]?=some x):∃y,(ei n)[i]?=some y/\x.is n y:=by
 unfold db at h;unfold ei;have hl1:((List.range n.ai.length).map (fun i=>(⟨false,0,i⟩:bt))).length=n.ai.length:=acv
 have hl2:(n.ai.map lg).length=n.ai.length:=acv
 by_cases hi:i<n.ai.length
 .rw[Fd acs]at h;rw[Fd acs];rw[dx,ace hi]at h;injection h with h;subst h;rw[dx,bF hi];exact⟨_,rfl,.inl ⟨rfl,_,bF hi,rfl⟩⟩
 .rw[IR acs]at h;rw[IR acs];rw[hl1]at h;rw[hl2];obtain⟨m,r,h1,h2,h3,h4⟩:=Ta n.aa n.aa 0 (fun j=>acv) _ x h;exact⟨_,h3,.inr ⟨h4,m,r,h1,h2,rfl⟩⟩
def bn.nd(x:bn):Nd:=⟨x.ax.map fun l=>(l / 2).toNat,x.to.map Int.toNat⟩
def aZ(n:ba):List Nd:=(ei n).map bn.nd
theorem Xw{V:Int}:∀(l pre:io),pre.Nodup->(∀x∈pre,1<=x/\x<=V)->dup V pre l=0->(pre++l).Nodup/\∀x∈pre++l,1<=x/\x<=V:=by
 intro l
 induction l with
 |nil=>intro pre h1 h2 _;simpa using⟨h1,h2⟩|cons v l ih=>
  intro pre h1 h2 h;rw[dup]at h;by_cases ha:v<1\/V<v
  .rw[ut ha]at h;omega
  .rw[qr ha]at h;by_cases hc:pre.contains v=true
   .rw[ut hc]at h;omega
   .rw[qr hc]at h;have hn:v∉pre:=by simpa using hc
    have:=ih (pre++[v]) (by
     rw[abM];exact⟨h1,acv,fun a ha' b hb=>by simp at hb;subst hb;rintro rfl;exact hn ha'⟩) (fun x hx=>by
     rcases AC.1 hx with hx|hx
     .exact h2 x hx
     .simp at hx;subst hx;omega) h
    simpa using this
structure cZ(n:ba)(V:Nat):Prop where
 vars:n.vars=(V:Int)
 v2:V<=2000
 nodup:(cL n).Nodup
 Rm:∀x∈cL n,1<=x/\x<=(V:Int)
 lits:∀l∈dJ n,0<=l/\l / 2<=(V:Int)
 aa:∀m∈n.aa,1<=m.addr/\m.addr<=62/\1<=m.word/\m.word<=64/\(∀r∈m.reads,(r.addr.length:Int)=m.addr)/\(∀x∈m.writes,(x.addr.length:Int)=m.addr/\(x.data.length:Int)=m.word)/\m.reads.length<=4/\m.writes.length<=4
 init:∀l∈n.az,0<=l.init/\l.init<=2
 lens:n.bk.length<=2000/\n.az.length<=2000/\n.ai.length<=2000/\n.bL.length+n.bP.length+n.constraints.length<=1000/\n.aa.length<=4
variable{α:Type}
theorem any_false{p:α->Bool}{l:List α}(h:¬l.any p=true):∀x∈l,p x=false:=by grind
theorem Cd{n:ba}(h:eh n=0):∃V,cZ n V:=by
 unfold eh at h;by_cases h1:gD n=true
 .rw[ut h1]at h;omega
 rw[qr h1]at h;by_cases h2:n.aa.any fS=true
 .rw[ut h2]at h;omega
 rw[qr h2]at h;by_cases h3:n.az.any jb=true
 .rw[ut h3]at h;omega
 rw[qr h3]at h;by_cases h4:dup n.vars [] (cL n)≠0
 .rw[ut h4]at h;exact absurd h h4
 rw[qr h4]at h;by_cases h5:(dJ n).any (j8 n.vars)=true
 .rw[ut h5]at h;omega
 unfold gD at h1;rw[Bool.or_eq_true,not_or]at h1;obtain⟨h1a,h1b⟩:=h1;have h1a':¬(n.vars<0\/2000<n.vars\/2000<n.bk.length\/2000<n.az.length\/2000<n.ai.length\/1000<n.bL.length+n.bP.length+n.constraints.length\/4<n.aa.length):=by simpa using h1a
 obtain⟨V,hV⟩:=AI (show 0<=n.vars by omega);obtain⟨d1,d2⟩:=Xw (V:=n.vars) (cL n) [] acv acv acs;simp only[LT]at d1 d2;refine⟨V,hV,acs,d1,fun x hx=>hV▸d2 x hx,fun l hl=>?_,fun m hm=>?_,fun l hl=>?_,⟨acs,acs,acs,acs,acs⟩⟩
 .have:=any_false h5 l hl;unfold j8 at this;have:¬(l<0\/n.vars<l / 2):=by simpa using this
  omega
 .have hw:=any_false h2 m hm;have hp:=any_false h1b m hm;unfold gF at hp;have hp:¬(4<m.reads.length\/4<m.writes.length):=by simpa using hp
  unfold fS at hw;rw[abH,abH]at hw;obtain⟨⟨w1,w2⟩,w3⟩:=hw;have w1:¬(m.addr<1\/62<m.addr\/m.word<1\/64<m.word):=by simpa using w1
  refine⟨acs,acs,acs,acs,fun r hr=>?_,fun x hx=>?_,acs,acs⟩
  .have:=any_false (p:=jX m) (by rw[w2];simp) r hr;unfold jX at this;simpa using this
  .have:=any_false (p:=jE m) (by rw[w3];simp) x hx;unfold jE at this
   grind
 .have:=any_false h3 l hl;unfold jb at this;have:¬(l.init<0\/2<l.init):=by simpa using this
  omega
theorem KF(n:ba):(ei n).flatMap bn.to=n.ai.map (·.var)++n.aa.flatMap fv:=by
 unfold ei;rw[IO];congr 1
 .induction n.ai with|nil=>rfl|cons a l ih=>rw[Pi,GT,ih];rfl
 .rw[List.flatMap_assoc];congr 1;funext m;unfold ik fv;rw[abe];rfl
theorem Wl{f:α->io}:∀{l:List α},(l.flatMap f).Nodup->∀{i j:Nat}{x y:α}{v:Int},l[i]?=some x->l[j]?=some y->v∈f x->v∈f y->i=j:=by
 intro l
 induction l with
 |nil=>intro _ i j x y v h;simp at h|cons a l ih=>
  intro hn i j x y v hi hj hx hy;rw[GT,abM]at hn
  grind
section
variable{n:ba}{V:Nat}
theorem cZ.Ux(s:cZ n V):((ei n).flatMap bn.to).Nodup:=by
 rw[KF];have:=s.nodup;unfold cL at this
 grind
theorem cZ.m9(s:cZ n V){x:bn}(hx:x∈ei n){v:Int}(hv:v∈x.to):1<=v/\v<=(V:Int):=by
 have:v∈(ei n).flatMap bn.to:=Or.2 ⟨x,hx,hv⟩;rw[KF]at this;refine s.Rm v ?_;unfold cL
 grind
theorem cZ.Cm(s:cZ n V){x:bn}(hx:x∈ei n){l:Int}(hl:l∈x.ax):0<=l/\l / 2<=(V:Int):=by
 refine s.lits l ?_;unfold ei at hx;unfold dJ;rcases AC.1 hx with hx|hx
 .obtain⟨a,ha,rfl⟩:=IN.1 hx;have:l∈n.ai.flatMap ig:=Or.2 ⟨a,ha,hl⟩;simp[this]
 .obtain⟨m,hm,hx⟩:=Or.1 hx;obtain⟨r,hr,rfl⟩:=IN.1 hx;have:l∈n.aa.flatMap fC:=Or.2 ⟨m,hm,by unfold fC;exact AC.2 (.inl (Or.2 ⟨r,hr,hl⟩))⟩;simp[this]
theorem cZ.E9(s:cZ n V){x:bn}(hx:x∈ei n):x.to≠[]:=by
 unfold ei at hx;rcases AC.1 hx with hx|hx
 .obtain⟨a,ha,rfl⟩:=IN.1 hx;simp[lg]
 .obtain⟨m,hm,hx⟩:=Or.1 hx;obtain⟨r,hr,rfl⟩:=IN.1 hx;have:=(s.aa m hm).2.2.1;unfold kZ cA;simp;omega
theorem Cg:(aZ n)[i]?=((ei n)[i]?).map bn.nd:=by unfold aZ;rw[dx]
theorem Me{x:Nd}(h:x∈aZ n):∃y∈ei n,x=y.nd:=by
 unfold aZ at h
 grind
theorem cZ.apart(s:cZ n V):dW (aZ n):=by
 intro i j x y v hi hj hx hy;rw[Cg]at hi hj;obtain⟨x',hi',rfl⟩:=Option.map_eq_some_iff.1 hi;obtain⟨y',hj',rfl⟩:=Option.map_eq_some_iff.1 hj;obtain⟨a,ha,e1⟩:=IN.1 hx;obtain⟨b,hb,e2⟩:=IN.1 hy;have r1:=s.m9 (d8 hi') ha;have r2:=s.m9 (d8 hj') hb;have:a=b:=acs
 subst this;exact Wl s.Ux hi' hj' ha hb
theorem cZ.aR(s:cZ n V):∀x∈aZ n,∀u∈x.ax,u<=V:=by intro x hx u hu;obtain⟨y,hy,rfl⟩:=Me hx;obtain⟨l,hl,rfl⟩:=IN.1 hu;have:=s.Cm hy hl;omega
theorem cZ.jn(s:cZ n V):∀x∈aZ n,x.to≠[]/\∀v∈x.to,v<=V:=by intro x hx;obtain⟨y,hy,rfl⟩:=Me hx;refine⟨by have:=s.E9 hy;unfold bn.nd;simpa using this,fun v hv=>?_⟩;obtain⟨l,hl,rfl⟩:=IN.1 hv;have:=s.m9 hy hl;omega
end
variable{x:Nd}
def iA(n:ba):Int:=if eh n≠0 then eh n else if fF (aZ n) n.vars.toNat then 0 else 8
def zc(p:Nat->Bool):Nat->Nat
 |0=>0|k+1=>(if p k then 1 else 0)+zc p k
variable{p:Nat->Bool}{q:Nat->Bool}
theorem Kr:∀k,(∀v,v<k->p v=true->q v=true)->zc p k<=zc q k:=by
 intro k
 induction k with
 |zero=>intro _;exact ol _|succ k ih=>
  intro h;have h1:=ih fun v hv=>h v acs;have h2:=h k acs;simp only[zc]
  grind
variable{v:Nat}
theorem Wi:∀k,v<k->q v=true->p v=false->(∀v,v<k->p v=true->q v=true)->zc p k<zc q k:=by
 intro k
 induction k with
 |zero=>intro h;omega|succ k ih=>
  intro hv hq hp h;simp only[zc];by_cases e:v=k
  .subst e;have h1:=Kr (p:=p) (q:=q) v fun v hv=>h v acs;rw[hq,hp];simp;omega
  grind
def fresh(V:Nat)(m:io):Nat:=zc (fun v=>aw m v == 0) (V+1)
section
variable{N:List Nd}{V:Nat}{m lv m' lv' m'' lv'':io}
structure VI(N:List Nd)(V:Nat)(m lv:io):Prop where
 ml:m.length=V+1
 ll:lv.length=V+1
 kd:∀v,v<=V->aw m v=0\/aw m v=1\/aw m v=2
 sB:∀x∈N,∀u∈x.to,∀v∈x.to,aw m u=aw m v
 free:∀v,v<=V->(∀x∈N,v∉x.to)->aw m v=0/\aw lv v=0
 done:∀v,v<=V->aw m v=2->∃k:Nat,aw lv v=(k:Int)/\cw N v k
structure Ext(V:Nat)(m lv m' lv':io):Prop where
 a:∀u,u<=V->aw m u=1->aw m' u=1
 b:∀u,u<=V->aw m' u=1->aw m u=1
 c:∀u,u<=V->aw m u=2->aw m' u=2/\aw lv' u=aw lv u
theorem Ext.refl:Ext V m lv m lv:=⟨fun _ _ h=>h,fun _ _ h=>h,fun _ _ h=>⟨h,rfl⟩⟩
theorem Ext.trans(h:Ext V m lv m' lv')(k:Ext V m' lv' m'' lv''):Ext V m lv m'' lv'':=⟨fun u hu h1=>k.a u hu (h.a u hu h1),fun u hu h1=>h.b u hu (k.b u hu h1),fun u hu h1=>⟨(k.c u hu (h.c u hu h1).1).1,by rw[(k.c u hu (h.c u hu h1).1).2,(h.c u hu h1).2]⟩⟩
def tl(N:List Nd)(m:io)(u:Nat):Prop:=aw m u=2\/∀x∈N,u∉x.to
theorem BJ(i:VI N V m lv)(i':VI N V m' lv')(h:Ext V m lv m' lv'){u:Nat}(hu:u<=V)(t:tl N m u):tl N m' u/\aw lv' u=aw lv u:=by
 rcases t with t|t
 .exact⟨.inl (h.c u hu t).1,(h.c u hu t).2⟩
 .exact⟨.inr t,by rw[(i.free u hu t).2,(i'.free u hu t).2]⟩
theorem vP(i:VI N V m lv){u:Nat}(hu:u<=V)(t:tl N m u):∃k:Nat,aw lv u=(k:Int)/\cw N u k:=by
 rcases t with t|t
 .exact i.done u hu t
 .exact⟨0,by rw[(i.free u hu t).2];rfl,.free u t⟩
theorem X0(i:VI N V m lv)(i':VI N V m' lv')(h:Ext V m lv m' lv'):fresh V m'<=fresh V m:=by
 refine Kr _ fun v hv hz=>?_;have hv:v<=V:=acs
 have hz:aw m' v=0:=by grind
 rcases i.kd v hv with h0|h0|h0
 .simpa using h0
 .have:=h.a v hv h0;omega
 .have:=(h.c v hv h0).1;omega
theorem VI.under(ap:dW N)(i:VI N V m lv)(hx:x∈N)(jn:∀v∈x.to,v<=V)(hv:v∈x.to)(h0:aw m v=0):VI N V (cg m x.to 1) lv:=by
 refine⟨by rw[jK,i.ml],i.ll,fun u hu=>?_,fun y hy a ha b hb=>?_,fun u hu hf=>?_,fun u hu h2=>?_⟩
 .rw[dO];split
  .exact .inr (.inl rfl)
  .exact i.kd u hu
 .rw[dO,dO];by_cases e:y=x
  .subst e;rw[ut ⟨ha,by rw[i.ml];have:=jn a ha;omega⟩,ut ⟨hb,by rw[i.ml];have:=jn b hb;omega⟩]
  .rw[qr fun h=>e (ap.same hy hx ha h.1),qr fun h=>e (ap.same hy hx hb h.1)];exact i.sB y hy a ha b hb
 .rw[dO,qr fun h=>hf x hx h.1];exact i.free u hu hf
 .rw[dO]at h2;split at h2
  .omega
  .exact i.done u hu h2
theorem WX(i:VI N V m lv)(hx:x∈N)(hv:v∈x.to)(hV:v<=V)(h0:aw m v=0):fresh V (cg m x.to 1)<fresh V m:=by
 refine Wi (v:=v) _ acs (by grind) ?_ fun u hu hz=>?_
 .rw[dO,ut ⟨hv,by rw[i.ml];omega⟩];rfl
 .have hz:aw (cg m x.to 1) u=0:=by grind
  rw[dO]at hz
  grind
theorem VI.close(ap:dW N)(i0:VI N V m lv)(hx:x∈N)(jn:∀v∈x.to,v<=V)(aR:∀u∈x.ax,u<=V)(hv:v∈x.to)(h0:aw m v=0)
  (i:VI N V m' lv') (h:Ext V (cg m x.to 1) lv m' lv') (ht:∀u∈x.ax,tl N m' u) {L:Int}(hL:L=((mx (x.ax.map fun u=>(aw lv' u).toNat):Nat):Int)) :
  VI N V (cg m' x.to 2) (cg lv' x.to (L+1))/\Ext V m lv (cg m' x.to 2) (cg lv' x.to (L+1))/\tl N (cg m' x.to 2) v:=by
 have hml:=i.ml;have hll:=i.ll;have hlev:∀u∈x.ax,cw N u (aw lv' u).toNat:=fun u hu=>by obtain⟨k,h1,h2⟩:=vP i (aR u hu) (ht u hu);rw[h1];simpa using h2
 have hm0:∀u∈x.to,aw m u=0:=fun u hu=>by rw[i0.sB x hx u hu v hv,h0]
 refine⟨⟨by rw[jK,hml],by rw[jK,hll],fun u hu=>?_,fun y hy a ha b hb=>?_,fun u hu hf=>?_,fun u hu h2=>?_⟩,⟨fun u hu h1=>?_,fun u hu h1=>?_,fun u hu h2=>?_⟩,?_⟩
 .rw[dO];split
  .exact .inr (.inr rfl)
  .exact i.kd u hu
 .rw[dO,dO];by_cases e:y=x
  .subst e
   grind
  .rw[qr fun h=>e (ap.same hy hx ha h.1),qr fun h=>e (ap.same hy hx hb h.1)];exact i.sB y hy a ha b hb
 .rw[dO,qr fun h=>hf x hx h.1,dO,qr fun h=>hf x hx h.1];exact i.free u hu hf
 .by_cases hux:u∈x.to
  .refine⟨mx (x.ax.map fun u=>(aw lv' u).toNat)+1,?_,.node x u _ hx hux hlev⟩;rw[dO,ut ⟨hux,by rw[hll];omega⟩,hL];rfl
  .rw[dO,qr fun h=>hux h.1]at h2;rw[dO,qr fun h=>hux h.1];exact i.done u hu h2
 .have hux:u∉x.to:=fun hux=>by have:=hm0 u hux;omega
  rw[dO,qr fun h=>hux h.1];refine h.a u hu ?_;rw[dO,qr fun h=>hux h.1];exact h1
 .rw[dO]at h1;split at h1
  .omega
  .rename_i hn;have hux:u∉x.to:=fun hux=>hn ⟨hux,by rw[hml];omega⟩;have:=h.b u hu h1
   rwa [dO,qr fun h=>hux h.1]at this
 .have hux:u∉x.to:=fun hux=>by have:=hm0 u hux;omega
  have:=h.c u hu (by rw[dO,qr fun h=>hux h.1];exact h2);rw[dO,qr fun h=>hux h.1,dO,qr fun h=>hux h.1];exact this
 .refine .inl ?_;rw[dO,ut ⟨hv,by grind⟩]
theorem Yf(hx:x∈N){l:Nat}(hv:v∈x.to)(hl:l∈x.ax)(hd:∀u,u<=V->aw m u=1->kb N u v):∀u,u<=V->aw (cg m x.to 1) u=1->kb N u l:=by
 intro u hu h;rw[dO]at h;split at h
 .rename_i hc;exact .one x u l hx hc.1 hl
 .exact .more x u v l (hd u hu h) hx hv hl
theorem vi0:VI N V (List.replicate (V+1) 0) (List.replicate (V+1) 0):=by
 have hz:∀v,aw (List.replicate (V+1) 0) v=0:=fun v=>by
  unfold aw
  grind
 exact⟨acv,acv,fun v _=>.inl (hz v),fun x _ u _ v _=>by rw[hz,hz],fun v _ _=>⟨hz v,hz v⟩,fun v _ h=>by grind⟩
def eE(N:List Nd)(V:Nat):Nat->io
 |0=>List.replicate (V+1) 0|k+1=>match N[k]? with|some x=>cg (eE N V k) x.to ((k:Int)+1)|none=>eE N V k
theorem za(N:List Nd)(V:Nat):∀k,(eE N V k).length=V+1:=by
 intro k
 induction k with|zero=>simp[eE]|succ k ih=>rw[eE];cases N[k]?<;>simp[jK,ih]
theorem Lu{k:Nat}(h:N[k]?=some x):eE N V (k+1)=cg (eE N V k) x.to ((k:Int)+1):=by rw[eE,h]
theorem Vj(ap:dW N)(jn:∀x∈N,∀v∈x.to,v<=V):∀k v,v<=V->(aw (eE N V k) v=0/\∀i x,i<k->N[i]?=some x->v∉x.to)\/∃i x,i<k/\N[i]?=some x/\v∈x.to/\aw (eE N V k) v=(i:Int)+1:=by
 intro k
 induction k with
 |zero=>
  intro v _;left;refine⟨?_,fun i x h=>acs⟩;unfold eE aw
  grind
 |succ k ih=>
  intro v hv;cases hk:N[k]? with
  |none=>
   rw[eE,hk]
   grind
  |some y=>
   rw[Lu hk,dO];by_cases hvy:v∈y.to
   .rw[ut ⟨hvy,by rw[za];omega⟩]
    grind
   grind
theorem VX(ap:dW N)(jn:∀x∈N,∀v∈x.to,v<=V)(hv:v<=V):(aw (eE N V N.length) v=0/\∀x∈N,v∉x.to)\/∃(i:Nat) (x:Nd),N[i]?=some x/\v∈x.to/\aw (eE N V N.length) v=(i:Int)+1:=by
 rcases Vj ap jn N.length v hv with⟨h1,h2⟩|⟨i,x,h1,h2,h3,h4⟩
 .left;refine⟨h1,fun x hx=>?_⟩;obtain⟨i,hi,rfl⟩:=List.getElem_of_mem hx
  simp_all
 grind
theorem Wr{l:jp}{k u:Nat}{f:Nat->Nat}(h:l[k]?=some u):mx ((l.take (k+1)).map f)=max (mx ((l.take k).map f)) (f u):=by rw[dn h,dN];exact Uh _ _
end
end Go.Proofs.Ytbbhihkocghhaaa.Pl
end
section
namespace Go.Proofs.Ytbbhihkocghhaaa.V
open Go Go.RowKit Go.Proofs.Ytbbhihkocghhaaa.Pl
theorem Q7(v:Int)(k:Nat):cA v (k+1)=cA v k++[v+(k:Int)]:=by unfold cA;rw[aby,dN];rfl
theorem yX(v:Int)(k:Nat):(cA v k).length=k:=by simp[cA]
theorem BO(m:cP)(i:Nat)(r:fQ)(hr:m.reads[i]?=some r)(hw:0<=m.word/\m.word<=4000)(hv:-1099511627776<=r.var/\r.var<=1099511627776) :
  Gv (aM m,(i:Int),())=some (cA r.var m.word.toNat,()):=by
 obtain⟨W,hW⟩:=AI hw.1;have hi:=iu hr;have hr':(m.reads.map cp)[i]?=some (cp r):=by rw[dx,hr];rfl
 have hL:Gs ((i:Int),m.word,(0:Int),m.addr,m.word,m.any,m.reads.map cp,m.writes.map cS,[],())=some (cA r.var m.word.toNat,()):=by
  unfold Gs;delta u9;rw[hW,Fr];refine qH (fun k:Nat=>((i:Int),(W:Int),(k:Int),m.addr,(W:Int),m.any,m.reads.map cp,m.writes.map cS,cA r.var k,())) W ?_ ?_ NN acx
  .intro k hk
   try dsimp only
   unfold yZ;rw[dY acA,df (bm ⟨acs,by rw[aT];omega⟩),df (pM (by simp[yX];omega) (by simp[yX];omega)),bG hr',show(cp r).1=r.var from rfl];rw[cD (x:=r.var+(k:Int)) acs,cD (x:=(k:Int)+1) acs,Q7];rfl
  .try dsimp only
   unfold yZ;rw[cV acz];rfl
 show GK Gs (aM m) (i:Int)=_;unfold GK;rw[cV acz,E5,cV (aq (by show ¬((m.reads.map cp).length:Int)<=(i:Int);rw[aT];omega))];exact(cu hL).trans rfl
def dX(x:bt):af.T:=(x.rd,(x.mem:Int),(x.pos:Int),())
abbrev WT:=Int×io×List ag.T×io×io×io×List aj.T×List ag.T×io×List af.T×io×io×Unit
def kr(n:ba)(of:io)(nd:List bt)(m lv:io):WT:=(n.vars,n.bk,n.az.map cG,n.bL,n.bP,n.constraints,n.aa.map aM,n.ai.map cF,of,nd.map dX,m,lv,())
variable{nd:List bt}{m:io}{lv:io}{of:io}{n:ba}{x:bt}{i:bn}
theorem T3(h:x.is n i):PY (x.rd,(x.mem:Int),(x.pos:Int),kr n of nd m lv)=some (i.ax,kr n of nd m lv):=by
 show Gg x.rd (x.mem:Int) (x.pos:Int) n.vars n.bk (n.az.map cG) n.bL n.bP n.constraints (n.aa.map aM) (n.ai.map cF) of (nd.map dX) m lv=_;unfold Gg;rcases h with⟨h,a,ha,rfl⟩|⟨h,M,r,hM,hr,rfl⟩
 .have ha':(n.ai.map cF)[x.pos]?=some (cF a):=by grind
  have hl:=iu ha';rw[h,cV rfl,df acy,bG ha'];rfl
 .have hM':(n.aa.map aM)[x.mem]?=some (aM M):=by grind
  have hr':(M.reads.map cp)[x.pos]?=some (cp r):=by rw[dx,hr];rfl
  have hl:=iu hM';have hl2:=iu hr';rw[h,dY rfl,df acy,bG hM',show(aM M).2.2.2.1=M.reads.map cp from rfl,df acy,bG hr'];rfl
theorem Ko(h:x.is n i)(ft:Fit n)(hw:∀M∈n.aa,0<=M.word) :
  sW (x.rd,(x.mem:Int),(x.pos:Int),kr n of nd m lv)=some (i.to,kr n of nd m lv):=by
 show tg Gv x.rd (x.mem:Int) (x.pos:Int) n.vars n.bk (n.az.map cG) n.bL n.bP n.constraints (n.aa.map aM) (n.ai.map cF) of (nd.map dX) m lv=_;unfold tg;rcases h with⟨h,a,ha,rfl⟩|⟨h,M,r,hM,hr,rfl⟩
 .have ha':(n.ai.map cF)[x.pos]?=some (cF a):=by rw[dx,ha];rfl
  have hl:=iu ha';rw[h,cV rfl,df acy,bG ha'];rfl
 .have hM':(n.aa.map aM)[x.mem]?=some (aM M):=by rw[dx,hM];rfl
  have hl:=iu hM';have hmem:=d8 hM;have hf:=ft.aa.2 M hmem;have hr2:=hf.gG r (d8 hr);rw[h,dY rfl,df acy,bG hM'];exact(cu (BO M x.pos r hr ⟨hw M hmem,hf.word.2⟩ ⟨hr2.2.1,hr2.2.2.1⟩)).trans rfl
theorem Mh{V:Nat}(a:Int)(vs:io)(hln:vs.length<=100000)(hvs:∀v∈vs,0<=v/\v<=(V:Int))(hm:m.length=V+1) :
  PX (a,vs,kr n of nd m lv)=some (vs,kr n of nd (cg m (vs.map Int.toNat) a) lv):=by
 have hL:FI (a,vs,(vs.length:Int),(0:Int),vs,kr n of nd m lv)=some (vs,kr n of nd (cg m (vs.map Int.toNat) a) lv):=by
  unfold FI;delta uf u5 dI dU;refine qH (fun k:Nat=>(a,vs,(vs.length:Int),(k:Int),vs,kr n of nd (cg m ((vs.take k).map Int.toNat) a) lv)) vs.length ?_ ?_ NN acx
  .intro k hk;unfold kr
   try dsimp only
   unfold yA;have hv:=bF hk;obtain⟨h0,h1⟩:=hvs _ (AT hk);obtain⟨v,hv2⟩:=AI h0;rw[hv2]at hv h1;rw[dY acA,df acy,bG (σ:=.I) hv,df (bm ⟨acs,by rw[jK,hm];omega⟩),cD (x:=(k:Int)+1) acs];rw[dn hv,dN,Pi,abT,tp];rfl
  .unfold kr
   try dsimp only
   unfold yA;rw[cV acz,fl];rfl
 show FV FI a vs n.vars n.bk (n.az.map cG) n.bL n.bP n.constraints (n.aa.map aM) (n.ai.map cF) of (nd.map dX) m lv=_;unfold FV;exact(cu hL).trans rfl
end Go.Proofs.Ytbbhihkocghhaaa.V
end
section
namespace Go.Proofs.Ytbbhihkocghhaaa.Pl
theorem rO{l:io}{v:Nat}(h:v<l.length):l[v]?=some (aw l v):=by unfold aw;grind
variable{n:ba}{V:Nat}{y:bn}
theorem TZ(hs:cZ n V)(hy:y∈ei n){k:Nat}{l:Int}(h:y.ax[k]?=some l):∃u:Nat,l / 2=(u:Int)/\u<=V/\y.nd.ax[k]?=some u/\0<=l/\l<=2*V+1:=by
 have:=hs.Cm hy (d8 h);refine⟨(l / 2).toNat,acs,acs,?_,acs,acs⟩;unfold bn.nd
 grind
theorem zj(hs:cZ n V)(hy:y∈ei n):y.to.length<=64/\y.ax.length<=62:=by
 unfold ei at hy;rcases AC.1 hy with hy|hy
 .obtain⟨a,ha,rfl⟩:=IN.1 hy;simp[lg]
 .obtain⟨m,hm,hy⟩:=Or.1 hy;obtain⟨r,hr,rfl⟩:=IN.1 hy;have h1:=hs.aa m hm;have h2:=h1.2.2.2.2.1 r hr;unfold kZ cA;simp;omega
variable{N:List Nd}{m:io}{lv:io}{l:jp}
theorem Ug{m' lv':io}(i:VI N V m lv)(i':VI N V m' lv')(h:Ext V m lv m' lv')(hl:∀u∈l,u<=V)(ht:∀u∈l,tl N m u) :
  mx (l.map fun u=>(aw lv' u).toNat)=mx (l.map fun u=>(aw lv u).toNat):=by
 rw[Qo fun u hu=>by rw[(BJ i i' h (hl u hu) (ht u hu)).2]]
theorem Va(ap:dW N)(i:VI N V m lv)(hl:∀u∈l,u<=V)(ht:∀u∈l,tl N m u):mx (l.map fun u=>(aw lv u).toNat)<=N.length:=by refine Kg fun z hz=>?_;obtain⟨u,hu,rfl⟩:=IN.1 hz;obtain⟨k,h1,h2⟩:=vP i (hl u hu) (ht u hu);rw[h1];have:=h2.le ap;simpa using this
theorem Bt{α β:Type}(f:α->List β):∀(l:List α) (k:Nat),(∀x∈l,(f x).length<=k)->(l.flatMap f).length<=l.length*k:=by
 intro l k
 induction l with
 |nil=>intro _;simp|cons x l ih=>
  intro h;rw[GT,aP,cq,Nat.succ_mul]
  grind
theorem tN(hs:cZ n V):(aZ n).length<=3000:=by unfold aZ ei;rw[aT,aP,aT];have h1:=hs.lens;have h2:=Bt ik n.aa 4 (fun m hm=>by unfold ik;rw[aT];exact(hs.aa m hm).2.2.2.2.2.2.1);omega
end Go.Proofs.Ytbbhihkocghhaaa.Pl
end
section
namespace Go.Proofs.Ytbbhihkocghhaaa.V
open Go Go.RowKit Go.Proofs.Ytbbhihkocghhaaa.Pl
theorem WR(l:Int):yK (l,())=some (l / 2,()):=by show GL l=_;unfold GL;rw[Int.fdiv_eq_ediv_of_nonneg _ acw];rfl
variable{l:Int}
theorem QF{q:Int}(h:l / 2=q):yK (l,())=some (q,()):=by rw[WR,h]
def Wj(n:ba)(V:Nat)(m lv:io)(v:Nat)(b:Bool)(m' lv':io):Prop:=(b=true/\VI (aZ n) V m' lv'/\Ext V m lv m' lv'/\tl (aZ n) m' v)\/(b=false/\∃u,u<=V/\∀k,¬cw (aZ n) u k)
def wk(n:ba)(V:Nat)(m lv:io):WT:=kr n (eE (aZ n) V (aZ n).length) (db n) m lv
abbrev WV:=Int×io×List ag.T×io×io×io×List aj.T×List ag.T×io×List af.T×io×io×io×Unit
def wv(n:ba)(V:Nat)(m lv vs:io):WV:=(n.vars,n.bk,n.az.map cG,n.bL,n.bP,n.constraints,n.aa.map aM,n.ai.map cF,eE (aZ n) V (aZ n).length,(db n).map dX,m,lv,vs,())
theorem Vf{n:ba}{V:Nat}{F:be Fh xW}(L:Nat)(hL:L<=3000)(m lv vs:io)(hln:vs.length<=100000)(hvs:∀v∈vs,0<=v/\v<=(V:Int))(hm:lv.length=V+1) :
  FK F ((L:Int),vs,(vs.length:Int),(0:Int),wv n V m lv vs)=some (wv n V m (cg lv (vs.map Int.toNat) ((L:Int)+1)) vs):=by
 unfold FK;refine qH (fun k:Nat=>((L:Int),vs,(vs.length:Int),(k:Int),wv n V m (cg lv ((vs.take k).map Int.toNat) ((L:Int)+1)) vs)) vs.length ?_ ?_ NN acx
 .intro k hk;unfold wv
  try dsimp only
  unfold yE;have hv:=bF hk;obtain⟨h0,h1⟩:=hvs _ (AT hk);obtain⟨v,hv2⟩:=AI h0;rw[hv2]at hv h1;rw[dY acA,df acy,bG (σ:=.I) hv,df (bm ⟨acs,by rw[jK,hm];omega⟩),cD (x:=(k:Int)+1) acs,cD (x:=(L:Int)+1) acs];rw[dn hv,dN,Pi,abT,tp];rfl
 .unfold wv
  try dsimp only
  unfold yE;rw[cV acz,fl];rfl
theorem TC{n:ba}{V:Nat}(hs:cZ n V)(ft:Fit n):∀(F:Nat) (m lv:io) (v:Nat),VI (aZ n) V m lv->(∀u,u<=V->aw m u=1->kb (aZ n) u v)->v<=V->fresh V m<F ->
  ∃b m' lv',qg F ((v:Int),wk n V m lv)=some (b,wk n V m' lv')/\Wj n V m lv v b m' lv':=by
 intro F
 induction F with
 |zero=>intro m lv v _ _ _ h;omega|succ F ih=>
  intro m lv v hI hD hv hF;have hV2:=hs.v2;have hnl:=tN hs;have hmw:∀M∈n.aa,0<=M.word:=fun M hM=>by have:=hs.aa M hM;omega
  obtain⟨of,hof⟩:∃of,of=eE (aZ n) V (aZ n).length:=⟨_,rfl⟩;have hofl:of.length=V+1:=by rw[hof];exact za _ _ _
  have hofv:of[v]?=some (aw of v):=rO acs;have hmv:m[v]?=some (aw m v):=rO (by rw[hI.ml];omega);show ∃b m' lv',Gd yK (qg F) PY PX sW (FL (qg F)) (FK (qg F)) (v:Int) n.vars n.bk (n.az.map cG) n.bL n.bP n.constraints (n.aa.map aM) (n.ai.map cF) (eE (aZ n) V (aZ n).length) ((db n).map dX) m lv=_/\_;rw[<-hof];unfold Gd;rw[df acy,bG (σ:=.I) hofv];rcases VX hs.apart (fun x hx=>(hs.jn x hx).2) hv with⟨h1,h2⟩|⟨i,x,h1,h2,h3⟩
  .rw[<-hof]at h1;rw[h1,dY (au rfl)];exact⟨true,m,lv,by rw[hof];rfl,.inl ⟨rfl,hI,Ext.refl,.inr h2⟩⟩
  rw[<-hof]at h3;rw[h3,cV acz,df (bm ⟨acs,by rw[hI.ml];omega⟩),E5,bG (σ:=.int .u8) hmv];rcases hI.kd v hv with hk|hk|hk
  .-- its node's literals
   subst hof;have hil:=iu h1;have hnl2:(db n).length=(aZ n).length:=by rw[Qw];unfold aZ;rw[aT]
   obtain⟨xd,hxd⟩:∃xd,(db n)[i]?=some xd:=⟨_,bF acs⟩;obtain⟨y,hy1,hy2⟩:=B9 n hxd;have hxy:x=y.nd:=by rw[Cg,hy1]at h1;simpa using h1.symm
   subst hxy;have hy:=d8 hy1;have hx:=d8 h1;have hxd':((db n).map dX)[i]?=some (dX xd):=by rw[dx,hxd];rfl
   have hvs:∀u∈y.to,0<=u/\u<=(V:Int):=fun u hu=>by have:=hs.m9 hy hu;omega
   have hlens:=zj hs hy;have hfr:∀u∈y.nd.ax,u<=V:=fun u hu=>hs.aR _ hx u hu;have hI5:=hI.under hs.apart hx (fun u hu=>(hs.jn _ hx).2 u hu) h2 hk;rw[hk,cV acz,df (bm ⟨acs,by rw[hI.ml];omega⟩),cV acz,df acy];rw[show((i:Int)+1-1)=(i:Int) by omega,cD (x:=(i:Int)) acs,df (bm ⟨acs,by rw[aT];omega⟩),bG hxd'];have e1:=Ko (of:=eE (aZ n) V (aZ n).length) (m:=m) (lv:=lv) (nd:=db n) hy2 ft hmw;have e2:=Mh (n:=n) (of:=eE (aZ n) V (aZ n).length) (nd:=db n) (lv:=lv) 1 y.to acs hvs hI.ml;have e3:=T3 (n:=n) (of:=eE (aZ n) V (aZ n).length) (nd:=db n) (m:=cg m (y.to.map Int.toNat) 1) (lv:=lv) hy2;have hL11:∃o,FL (qg F) ((0:Int),y.ax,(y.ax.length:Int),(0:Int),wv n V (cg m y.nd.to 1) lv y.to)=some o /\
     ((∃m' lv',o=.inl (false,wk n V m' lv')/\∃u,u<=V/\∀k,¬cw (aZ n) u k) \/
      ∃(m' lv':io) (L:Nat),o=.inr ((L:Int),wv n V m' lv' y.to)/\VI (aZ n) V m' lv'/\Ext V (cg m y.nd.to 1) lv m' lv'/\(∀u∈y.nd.ax,tl (aZ n) m' u)/\L=mx (y.nd.ax.map fun u=>(aw lv' u).toNat)):=by
    unfold FL;refine k9 (fun d=>∃(k:Nat) (m' lv':io) (L:Nat),k<=y.ax.length/\d=((L:Int),y.ax,(y.ax.length:Int),(k:Int),wv n V m' lv' y.to)/\VI (aZ n) V m' lv'/\Ext V (cg m y.nd.to 1) lv m' lv' /\
     (∀u∈y.nd.ax.take k,tl (aZ n) m' u)/\L=mx ((y.nd.ax.take k).map fun u=>(aw lv' u).toNat)) _ (fun d=>y.ax.length-d.2.2.2.1.toNat) ?_ NN _ ⟨0,_,lv,0,Fn _,rfl,hI5,Ext.refl,acv,rfl⟩ (cf (by have:=hlens.2;omega))
    rintro d ⟨k,m',lv',L,hk',rfl,hI',hE',hT',hL⟩;unfold wv
    try dsimp only
    unfold Gn;by_cases hlt:k<y.ax.length
    .have hl:=bF hlt;obtain⟨u,hu1,hu2,hu3,hl0,hl1⟩:=TZ hs hy hl;have hlt2:fresh V m'<F:=by have h1:=X0 hI5 hI' hE';have h2:=WX hI hx h2 hv hk;omega
     have hdep:∀t,t<=V->aw m' t=1->kb (aZ n) t u:=fun t ht h=>Yf hx h2 (d8 hu3) hD t ht (hE'.b t ht h);obtain⟨b,m2,lv2,g1,g2⟩:=ih m' lv' u hI' hdep hu2 hlt2;rw[dY acA,df acy,bG (σ:=.I) hl];rcases g2 with⟨rfl,gI,gE,gT⟩|⟨rfl,u',hu',hno⟩
     .right;obtain⟨kk,hk1,hk2⟩:=vP gI hu2 gT;have hkl:=pp (hk2.le hs.apart) hnl;have hlu:lv2[u]?=some (kk:Int):=by rw[<-hk1];exact rO (by rw[gI.ll];omega)
      have hT:∀u'∈y.nd.ax.take (k+1),tl (aZ n) m2 u':=fun u' h'=>by
       rw[dn hu3]at h';rcases AC.1 h' with h'|h'
       .exact(BJ hI' gI gE (hfr u' (aaS h')) (hT' u' h')).1
       .simp at h';subst h';exact gT
      have hmx:mx ((y.nd.ax.take (k+1)).map fun u=>(aw lv2 u).toNat)=max L kk:=by rw[Wr hu3,Ug hI' gI gE (fun u hu=>hfr u (aaS hu)) hT',<-hL,hk1,Fr]
      refine⟨((max L kk:Nat),y.ax,(y.ax.length:Int),((k+1:Nat):Int),wv n V m2 lv2 y.to),?_,⟨k+1,m2,lv2,max L kk,acs,rfl,gI,hE'.trans gE,hT,hmx.symm⟩,?_⟩
      .refine(cu (QF hu1)).trans ((cu g1).trans ?_);refine(cV rfl).trans ((df (bm ⟨acs,by show(u:Int)<((List.length lv2:Nat):Int);rw[gI.ll];omega⟩)).trans ?_);have hsel:j9 (@decide _ (Int.decLt (L:Int) (gt .I lv2 (u:Int)))) (gt .I lv2 (u:Int)) (L:Int)=((max L kk:Nat):Int):=by
        rw[bG (σ:=.I) hlu];unfold j9;split
        .rename_i q;have q:=WF q;have:max L kk=kk:=acs
         rw[this]
        .rename_i q;have q:=abc q;have:max L kk=L:=acs
         rw[this]
       have e:∀a b a' b':Int,a=a'->b=b'->(acB (a,y.ax,(y.ax.length:Int),b,wv n V m2 lv2 y.to):am yp yl)=acB (a',y.ax,(y.ax.length:Int),b',wv n V m2 lv2 y.to):=by rintro _ _ _ _ rfl rfl;rfl
       exact e _ _ _ _ hsel (cD (x:=(k:Int)+1) acs)
      .show y.ax.length-((k+1:Nat):Int).toNat<y.ax.length-(k:Int).toNat;omega
     .left;refine⟨_,(cu (QF hu1)).trans ((cu g1).trans ?_),.inl ⟨m2,lv2,rfl,u',hu',hno⟩⟩;exact(dY rfl).trans rfl
    .left;have hlen:y.nd.ax.length<=k:=by unfold bn.nd;rw[aT];omega
     rw[By hlen]at hT' hL;rw[cV acz];exact⟨_,rfl,.inr ⟨m',lv',L,rfl,hI',hE',hT',hL⟩⟩
   obtain⟨o,ho,hcase⟩:=hL11;rcases hcase with⟨m',lv',rfl,u',hu',hno⟩|⟨m',lv',L,rfl,hI',hE',hT',hL⟩
   .refine⟨false,m',lv',?_,.inr ⟨rfl,u',hu',hno⟩⟩;refine(cu e1).trans ((cu e2).trans ((cu e3).trans ((cu ho).trans ?_)));rfl
   .have hmxl:L<=3000:=by rw[hL];exact pp (Va hs.apart hI' hfr hT') hnl
    have c:=hI.close hs.apart hx (fun u hu=>(hs.jn _ hx).2 u hu) hfr h2 hk hI' hE' hT' (L:=(L:Int)) (by rw[hL]);have e5:=Vf (n:=n) (V:=V) (F:=qg F) L hmxl m' lv' y.to acs hvs hI'.ll;have e6:=Mh (n:=n) (of:=eE (aZ n) V (aZ n).length) (nd:=db n) (lv:=cg lv' (y.to.map Int.toNat) ((L:Int)+1)) 2 y.to acs hvs hI'.ml;refine⟨true,cg m' y.nd.to 2,cg lv' y.nd.to ((L:Int)+1),?_,.inl ⟨rfl,c.1,c.2.1,c.2.2⟩⟩;refine(cu e1).trans ((cu e2).trans ((cu e3).trans ((cu ho).trans ((cu e5).trans ?_))));exact(cu e6).trans rfl
  .rw[hk,cV acz,df (bm ⟨acs,by rw[hI.ml];omega⟩),dY (au rfl)];exact⟨false,m,lv,by rw[hof];rfl,.inr ⟨rfl,v,hv,fun k=>kb.none hs.apart (hD v hv hk) k⟩⟩
  .rw[hk,dY (au rfl)];exact⟨true,m,lv,by rw[hof];rfl,.inl ⟨rfl,hI,Ext.refl,.inl hk⟩⟩
theorem Jk(m:cP)(i:Nat)(r:fQ)(hr:m.reads[i]?=some r)(hw:0<=m.word/\m.word<=4000)(hv:-1099511627776<=r.var/\r.var<=1099511627776) :
  Fp (aM m,(i:Int),())=some (cA r.var m.word.toNat,()):=by
 obtain⟨W,hW⟩:=AI hw.1;have hi:=iu hr;have hr':(m.reads.map cp)[i]?=some (cp r):=by rw[dx,hr];rfl
 have hL:FP ((i:Int),(0:Int),m.addr,m.word,m.any,m.reads.map cp,m.writes.map cS,[],())=some (cA r.var m.word.toNat,()):=by
  unfold FP;delta u8;rw[hW,Fr];refine qH (fun k:Nat=>((i:Int),(k:Int),m.addr,(W:Int),m.any,m.reads.map cp,m.writes.map cS,cA r.var k,())) W ?_ ?_ NN acx
  .intro k hk
   try dsimp only
   unfold yH;rw[dY acA,df (bm ⟨acs,by rw[aT];omega⟩),df (pM (by simp[yX];omega) (by simp[yX];omega)),bG hr',show(cp r).1=r.var from rfl];rw[cD (x:=r.var+(k:Int)) acs,cD (x:=(k:Int)+1) acs,Q7];rfl
  .try dsimp only
   unfold yH;rw[cV acz];rfl
 show Ge FP (aM m) (i:Int)=_;unfold Ge;rw[cV acz,E5,cV (aq (by show ¬((m.reads.map cp).length:Int)<=(i:Int);rw[aT];omega))];exact(cu hL).trans rfl
theorem UF(h:0<=l/\l<=1000000){u:Nat}(hu:l / 2=(u:Int)):s9 (l,())=some ((u:Int),()):=by show Gm l=_;unfold Gm;rw[Int.tdiv_eq_ediv_of_nonneg h.1,hu,cD acs];rfl
def kP(L:io)(i:Int):Int:=gt .I L i
variable{i:Nat}
theorem rK{L:io}{x:Int}(h:L[i]?=some x):kP L (i:Int)=x:=bG (σ:=.I) h
def ct(x:bt×bn):cO.T:=(x.1.rd,(x.1.mem:Int),(x.1.pos:Int),x.2.ax,x.2.to,())
variable{B:Int}
theorem S5{V:Nat}(x:bt×bn)(out:io)(hB:∀u,u<=V->aw out u<=B)(hB0:0<=B/\B<=1000000000000)(hl:out.length=V+1)(hV:V<=2000)
  (hf:∀l∈x.2.ax,0<=l/\l<=2*(V:Int)+1) (hfl:x.2.ax.length<=100000):Fk (ct x,out,())=some (dZ out x.2.nd.ax 0,()):=by
 have hfr:∀k,x.2.nd.ax.drop k=(x.2.ax.drop k).map fun l=>(l / 2).toNat:=fun k=>by unfold bn.nd;rw[List.map_drop]
 have hL:=k9 (B:=fun d=>Gq s9 d.1 d.2.1 d.2.2.1 d.2.2.2.1 d.2.2.2.2.1 d.2.2.2.2.2.1 d.2.2.2.2.2.2.1 d.2.2.2.2.2.2.2.1)
  (I:=fun d:TL sZ.σs=>∃(k:Nat) (n:Int),d=(out,n,(k:Int),ct x)/\k<=x.2.ax.length/\0<=n/\n<=B/\dZ out (x.2.nd.ax.drop k) n=dZ out x.2.nd.ax 0)
  (Q:=fun o:Out sY=>(o=.inl ((-1:Int),())/\dZ out x.2.nd.ax 0 = -1)\/∃n:Int,o=.inr (n,())/\n<=B/\0<=n/\dZ out x.2.nd.ax 0=n+1)
  (μ:=fun d=>x.2.ax.length-d.2.2.1.toNat) ?_ NN (out,(0:Int),(0:Int),ct x) ⟨0,0,rfl,acs,acs,hB0.1,by rw[List.drop_zero]⟩ (cf (by show _-_<=_;omega))
 .obtain⟨o,ho,hcase⟩:=hL;have ho':Zfs (out,(0:Int),(0:Int),ct x)=some o:=ho;rcases hcase with⟨rfl,h⟩|⟨n,rfl,hn,hn0,h⟩
  .rw[h];exact aO ho' rfl
  .rw[h];have e:∀a b:Int,a=b->(some (a,()):Option (Int×Unit))=some (b,()):=by rintro _ _ rfl;rfl
   exact aO ho' (e _ _ (cD (x:=n+1) acs))
 .rintro _ ⟨k,n,rfl,hk,h0,hn,hr⟩;by_cases hlt:k<x.2.ax.length
  .have hg:=bF hlt;obtain⟨a1,a2⟩:=hf _ (AT hlt);obtain⟨u,hu⟩:=AI (show 0<=x.2.ax[k] / 2 by omega);have huV:u<=V:=acs
   have hlu:out[u]?=some (aw out u):=by unfold aw;rw[gC,bF acs];rfl
   have e1:=UF (l:=x.2.ax[k]) ⟨a1,acs⟩ hu;have hdrop:x.2.nd.ax.drop k=u::x.2.nd.ax.drop (k+1):=by rw[hfr,hfr,aaP hlt,Pi,hu];rfl
   rw[hdrop,dZ]at hr;by_cases hneg:aw out u<0
   .left;rw[ut hneg]at hr;refine⟨.inl ((-1:Int),()),?_,.inl ⟨rfl,hr.symm⟩⟩;refine aA (au (show(k:Int)<((x.2.ax.length:Nat):Int) by omega)) (an (bm ⟨show(0:Int)<=(k:Int) by omega,by show(k:Int)<((x.2.ax.length:Nat):Int);omega⟩) ?_);refine(cu (show s9 (gt .I x.2.ax (k:Int),())=some ((u:Int),()) by rw[bG (σ:=.I) hg];exact e1)).trans ?_;refine an (bm ⟨show(0:Int)<=(u:Int) by omega,by rw[hl];show(u:Int)<_;omega⟩) (aA (au (show kP out (u:Int)<(0:Int) by rw[rK hlu];exact hneg)) rfl)
   .right;rw[qr hneg]at hr;have hBu:=hB u huV;refine⟨(out,(max n (aw out u):Int),((k+1:Nat):Int),ct x),?_,⟨k+1,max n (aw out u),rfl,acs,acs,acs,hr⟩,?_⟩
    .refine aA (au (show(k:Int)<((x.2.ax.length:Nat):Int) by omega)) (an (bm ⟨show(0:Int)<=(k:Int) by omega,by show(k:Int)<((x.2.ax.length:Nat):Int);omega⟩) ?_);refine(cu (show s9 (gt .I x.2.ax (k:Int),())=some ((u:Int),()) by rw[bG (σ:=.I) hg];exact e1)).trans ?_;refine an (bm ⟨show(0:Int)<=(u:Int) by omega,by rw[hl];show(u:Int)<_;omega⟩) (ao (aq (show ¬kP out (u:Int)<(0:Int) by rw[rK hlu];exact hneg)) ?_);have e:∀a b a' b':Int,a=a'->b=b'->(acB (out,a,b,ct x):am sZ sY)=acB (out,a',b',ct x):=by rintro _ _ _ _ rfl rfl;rfl
     refine e _ _ _ _ ?_ (cD (x:=(k:Int)+1) acs);show j9 (decide (n<kP out (u:Int))) (kP out (u:Int)) n=_;rw[rK hlu];unfold j9;split
     .rename_i q;have q:=WF q;show aw out u=_;omega
     .rename_i q;have q:=abc q;show n=_;have q:¬n<aw out u:=q;omega
    .show x.2.ax.length-((k+1:Nat):Int).toNat<x.2.ax.length-(k:Int).toNat;omega
  .left;have hnil:x.2.nd.ax.drop k=[]:=by rw[hfr,aaU acs];rfl
   rw[hnil,dZ]at hr;exact⟨.inr (n,()),ao (aq (show ¬(k:Int)<((x.2.ax.length:Nat):Int) by omega)) rfl,.inr ⟨n,rfl,hn,h0,hr.symm⟩⟩
theorem Xe(l:io)(vs ws:jp)(x:Int):cg l (vs++ws) x=cg (cg l vs x) ws x:=by simp[cg,abX]
theorem Hl{x B:Int}(hx:x<=B):∀(vs:jp) {l:io},(∀u,aw l u<=B)->∀u,aw (cg l vs x) u<=B
 |[],l,h,u=>h u|v::vs,l,h,u=>by
  have:cg l (v::vs) x=cg (l.set v x) vs x:=rfl;rw[this];refine Hl hx vs (fun u=>?_) u;rw[Ml]
  grind
theorem QW{out:io}{B:Int}(hB:∀u,aw out u<=B):∀(us:jp) (n:Int),n<=B->0<=B->dZ out us n<=B+1
 |[],n,h,h0=>by rw[dZ];omega|u::us,n,h,h0=>by
  rw[dZ];split
  .omega
  .exact QW hB us _ (by grind) h0
structure N6(N:List (bt×bn))(V:Nat):Prop where
 v2:V<=2000
 len:N.length<=3000
 to:∀x∈N,x.2.to.length<=100000/\∀v∈x.2.to,0<=v/\v<=(V:Int)
 ax:∀x∈N,x.2.ax.length<=100000/\∀l∈x.2.ax,0<=l/\l<=2*(V:Int)+1
variable{N:List (bt×bn)}
theorem VS{V:Nat}(h6:N6 N V){x:bt×bn}(hx:N[i]?=some x)(out:io)(hl:out.length=V+1) :
  yv (N.map ct,(i:Int),(0:Int),out,())=some (N.map ct,(i:Int),cg out x.2.nd.to (-1),()):=by
 have hx':(N.map ct)[i]?=some (ct x):=by grind
 have hi:=iu hx';obtain⟨h1,h2⟩:=h6.to x (d8 hx);unfold yv;delta u4;refine ez (fun k:Nat=>(N.map ct,(i:Int),(k:Int),cg out ((x.2.to.take k).map Int.toNat) (-1),())) x.2.to.length rfl ?_ ?_ acx
 .intro k hk;have hv:=bF hk;obtain⟨v0,v1⟩:=h2 _ (AT hk);obtain⟨v,hv2⟩:=AI v0;rw[hv2]at hv v1
  try dsimp only
  unfold yC;rw[df acy,bG hx'];refine aA (au (show(k:Int)<((x.2.to.length:Nat):Int) by omega)) (an acy (an (bm ⟨show(0:Int)<=(k:Int) by omega,show(k:Int)<((x.2.to.length:Nat):Int) by omega⟩) ?_));have hg:kP x.2.to (k:Int)=(v:Int):=rK hv;refine an (show al (kP x.2.to (k:Int)) (List.length (cg out ((x.2.to.take k).map Int.toNat) (-1)))=true by rw[hg];exact bm ⟨acs,by rw[jK,hl];omega⟩) ?_;have e:∀(a a':Int) (b b':io),a=a'->b=b'->(acB (N.map ct,(i:Int),a,b,()):am ye ya)=acB (N.map ct,(i:Int),a',b',()):=by rintro _ _ _ _ rfl rfl;rfl
  refine e _ _ _ _ (cD (x:=(k:Int)+1) acs) ?_;rw[dn hv,dN,Pi,abT,tp];show List.set (cg out ((x.2.to.take k).map Int.toNat) (-1)) (kP x.2.to (k:Int)).toNat (-1)=_;rw[hg]
 .try dsimp only
  unfold yC;rw[df acy,bG hx'];refine ao (aq (show ¬((x.2.to.length:Nat):Int)<((x.2.to.length:Nat):Int) by omega)) ?_;rw[fl];rfl
theorem JS{V:Nat}(h6:N6 N V){x:bt×bn}(hx:N[i]?=some x)(a b c:Int)(out:io)(hl:out.length=V+1) :
  yh (N.map ct,a,b,(i:Int),c,(0:Int),out,())=some (N.map ct,a,b,(i:Int),cg out x.2.nd.to c,()):=by
 have hx':(N.map ct)[i]?=some (ct x):=by grind
 have hi:=iu hx';obtain⟨h1,h2⟩:=h6.to x (d8 hx);unfold yh;delta u7;refine ez (fun k:Nat=>(N.map ct,a,b,(i:Int),c,(k:Int),cg out ((x.2.to.take k).map Int.toNat) c,())) x.2.to.length rfl ?_ ?_ acx
 .intro k hk;have hv:=bF hk;obtain⟨v0,v1⟩:=h2 _ (AT hk);obtain⟨v,hv2⟩:=AI v0;rw[hv2]at hv v1
  try dsimp only
  unfold yx;rw[df acy,bG hx'];refine aA (au (show(k:Int)<((x.2.to.length:Nat):Int) by omega)) (an acy (an (bm ⟨show(0:Int)<=(k:Int) by omega,show(k:Int)<((x.2.to.length:Nat):Int) by omega⟩) ?_));have hg:kP x.2.to (k:Int)=(v:Int):=rK hv;refine an (show al (kP x.2.to (k:Int)) (List.length (cg out ((x.2.to.take k).map Int.toNat) c))=true by rw[hg];exact bm ⟨acs,by rw[jK,hl];omega⟩) ?_;have e:∀(p p':Int) (q q':io),p=p'->q=q'->(acB (N.map ct,a,b,(i:Int),c,p,q,()):am xZ xY)=acB (N.map ct,a,b,(i:Int),c,p',q',()):=by rintro _ _ _ _ rfl rfl;rfl
  refine e _ _ _ _ (cD (x:=(k:Int)+1) acs) ?_;rw[dn hv,dN,Pi,abT,tp];show List.set (cg out ((x.2.to.take k).map Int.toNat) c) (kP x.2.to (k:Int)).toNat c=_;rw[hg]
 .try dsimp only
  unfold yx;rw[df acy,bG hx'];refine ao (aq (show ¬((x.2.to.length:Nat):Int)<((x.2.to.length:Nat):Int) by omega)) ?_;rw[fl];rfl
theorem VR{V:Nat}(h6:N6 N V)(out:io)(hl:out.length=V+1) :
  FJ (N.map ct,(0:Int),out,())=some (N.map ct,cg out ((N.map (·.2.nd)).flatMap (·.to)) (-1),()):=by
 have hn:=h6.len;unfold FJ;delta u3;refine ez (fun i:Nat=>(N.map ct,(i:Int),cg out (((N.take i).map (·.2.nd)).flatMap (·.to)) (-1),())) N.length rfl ?_ ?_ acx
 .intro i hi;have hx:=bF hi
  try dsimp only
  unfold yD;refine aA (au (show(i:Int)<(((N.map ct).length:Nat):Int) by rw[aT];omega)) ((cu (VS h6 hx _ (by rw[jK,hl]))).trans ?_);have e:∀(p p':Int) (q q':io),p=p'->q=q'->(acB (N.map ct,p,q,()):am yn yj)=acB (N.map ct,p',q',()):=by intros;subst_vars;rfl
  refine e _ _ _ _ (cD (x:=(i:Int)+1) acs) ?_;rw[dn hx,dN,IO,Xe];simp
 .try dsimp only
  unfold yD;refine ao (aq (show ¬((N.length:Nat):Int)<(((N.map ct).length:Nat):Int) by rw[aT];omega)) ?_;rw[fl];rfl
theorem WN(M:List Nd)(x:Nd)(out:io):iB (M++[x]) out=gK (iB M out) x:=by unfold iB;rw[abX];rfl
theorem Gx:∀(M:List Nd) (out:io),(iB M out).length=out.length
 |[],out=>rfl|x::M,out=>by show(iB M (gK out x)).length=_;rw[Gx M,Qr]
theorem QX(x:Nd):∀(M:List Nd) (out:io),gp (M++[x]) out=gp M out+(if dZ (iB M out) x.ax 0<0 then 1 else 0)
 |[],out=>by show(if dZ out x.ax 0<0 then 1 else 0)+0=0+_;rw[acg];rfl
 |y::M,out=>by show(if dZ out y.ax 0<0 then 1 else 0)+gp (M++[x]) (gK out y)=_;rw[QX x M (gK out y)];show _=(if dZ out y.ax 0<0 then 1 else 0)+gp M (gK out y)+_;rw[aaZ];rfl
theorem HQ:∀(M:List Nd) (out:io),gp M out<=M.length
 |[],out=>ol _|y::M,out=>by have:=HQ M (gK out y);show(if dZ out y.ax 0<0 then 1 else 0)+gp M (gK out y)<=M.length+1;split<;>omega
theorem GQ:∀(M:List Nd) {out:io}{B:Int},0<=B->(∀u,aw out u<=B)->∀u,aw (iB M out) u<=B+(M.length:Int)
 |[],out,B,h0,h,u=>by have:=h u;show aw out u<=B+((0:Nat):Int);omega|y::M,out,B,h0,h,u=>by have h1:∀u,aw (gK out y) u<=B+1:=Hl (QW h y.ax 0 h0 h0) y.to (fun u=>by grind);have:=GQ M (out:=gK out y) (B:=B+1) acs h1 u;show aw (iB M (gK out y)) u<=B+((M.length+1:Nat):Int);omega
theorem U8{V:Nat}(h6:N6 N V)(r:Int)(out:io)(hl:out.length=V+1)(hB:∀u,aw out u<=B)(hB0:0<=B/\B<=900000000000) :
  yr (N.map ct,(0:Int),r,(0:Int),out,())=some (N.map ct,(gp (N.map (·.2.nd)) out:Int),r,iB (N.map (·.2.nd)) out,()):=by
 have hn:=h6.len;unfold yr;delta u5;refine ez (fun i:Nat=>(N.map ct,(gp ((N.take i).map (·.2.nd)) out:Int),r,(i:Int),iB ((N.take i).map (·.2.nd)) out,())) N.length rfl ?_ ?_ acx
 .intro i hi;have hx:=bF hi;have hx':(N.map ct)[i]?=some (ct N[i]):=by rw[dx,hx];rfl
  obtain⟨f1,f2⟩:=h6.ax _ (AT hi);have hlen:((N.take i).map (fun x:bt×bn=>x.2.nd)).length<=3000:=by grind
  have hle:=HQ ((N.take i).map (fun x:bt×bn=>x.2.nd)) out;have hb:=GQ ((N.take i).map (fun x:bt×bn=>x.2.nd)) hB0.1 hB;have hrl:(iB ((N.take i).map (fun x:bt×bn=>x.2.nd)) out).length=V+1:=by rw[Gx,hl]
  have e1:=S5 (V:=V) (B:=B+(((N.take i).map (fun x:bt×bn=>x.2.nd)).length:Int)) N[i] _ (fun u _=>hb u) ⟨acs,acs⟩ hrl h6.v2 f2 f1
  try dsimp only
  unfold yy;refine aA (au (show(i:Int)<(((N.map ct).length:Nat):Int) by rw[aT];omega)) (an (bm ⟨acs,by rw[aT];omega⟩) ?_);rw[bG hx'];refine(cu e1).trans ?_;have e:∀(p p' q q':Int) (s s':io),p=p'->q=q'->s=s'->(acB (N.map ct,p,r,q,s,()):am yb x9)=acB (N.map ct,p',r,q',s',()):=by rintro _ _ _ _ _ _ rfl rfl rfl;rfl
  have hs:iB ((N.take (i+1)).map (fun x:bt×bn=>x.2.nd)) out=cg (iB ((N.take i).map (fun x:bt×bn=>x.2.nd)) out) N[i].2.nd.to (dZ (iB ((N.take i).map (fun x:bt×bn=>x.2.nd)) out) N[i].2.nd.ax 0):=by rw[dn hx,dN];exact WN _ _ _
  have hc:gp ((N.take (i+1)).map (fun x:bt×bn=>x.2.nd)) out=gp ((N.take i).map (fun x:bt×bn=>x.2.nd)) out+(if dZ (iB ((N.take i).map (fun x:bt×bn=>x.2.nd)) out) N[i].2.nd.ax 0<0 then 1 else 0):=by rw[dn hx,dN];exact QX _ _ _
  rw[hs,hc];by_cases hneg:dZ (iB ((N.take i).map (fun x:bt×bn=>x.2.nd)) out) N[i].2.nd.ax 0<0
  .rw[ut hneg];refine aA (au hneg) ((cu (JS h6 hx _ r _ _ hrl)).trans ?_);exact e _ _ _ _ _ _ ((cD (x:=((gp ((N.take i).map (fun x:bt×bn=>x.2.nd)) out:Nat):Int)+1) acs).trans acs) (cD (x:=(i:Int)+1) acs) rfl
  .rw[qr hneg];refine ao (aq hneg) ((cu (JS h6 hx _ r _ _ hrl)).trans ?_);exact e _ _ _ _ _ _ rfl (cD (x:=(i:Int)+1) acs) rfl
 .try dsimp only
  unfold yy;refine ao (aq (show ¬((N.length:Nat):Int)<(((N.map ct).length:Nat):Int) by rw[aT];omega)) ?_;rw[fl];rfl
theorem QN(M:List Nd)(out:io):∀r,(iw M r out).length=out.length
 |0=>rfl|r+1=>by rw[iw,Gx,QN M out r]
theorem Qs(M:List Nd){out:io}(h:∀u,aw out u<=0):∀r u,aw (iw M r out) u<=(r:Int)*(M.length:Int)
 |0,u=>by have:=h u;show aw out u<=((0:Nat):Int)*_;omega|r+1,u=>by
  have h1:=GQ M (out:=iw M r out) (B:=(r:Int)*(M.length:Int)) (Int.mul_nonneg acs acs) (Qs M h r) u;rw[iw]
  grind
theorem U7{V:Nat}(h6:N6 N V)(out:io)(hl:out.length=V+1)(hB:∀u,aw out u<=0) :
  FH (N.map ct,(0:Int),(0:Int),out,())=some ((gp (N.map (fun x:bt×bn=>x.2.nd)) (iw (N.map (fun x:bt×bn=>x.2.nd)) N.length out):Int),iw (N.map (fun x:bt×bn=>x.2.nd)) (N.length+1) out,()):=by
 have hn:=h6.len;unfold FH;delta u4;refine ez (fun r:Nat=>(N.map ct,(match r with|0=>(0:Int)|r+1=>(gp (N.map (fun x:bt×bn=>x.2.nd)) (iw (N.map (fun x:bt×bn=>x.2.nd)) r out):Int)),(r:Int),iw (N.map (fun x:bt×bn=>x.2.nd)) r out,())) (N.length+1) rfl ?_ ?_ acx
 .intro r hr;have hb:=Qs (N.map (fun x:bt×bn=>x.2.nd)) hB r;have hm:(r:Int)*((N.map (fun x:bt×bn=>x.2.nd)).length:Int)<=3000*3000:=by rw[aT];exact Int.mul_le_mul acs acs acs acs
  have h0:0<=(r:Int)*((N.map (fun x:bt×bn=>x.2.nd)).length:Int):=Int.mul_nonneg acs acs;have e1:=U8 h6 (r:Int) (iw (N.map (fun x:bt×bn=>x.2.nd)) r out) (by rw[QN,hl]) hb ⟨h0,acs⟩
  try dsimp only
  unfold yz;refine aA (au (show(r:Int)<=(((N.map ct).length:Nat):Int) by rw[aT];omega)) ((cu e1).trans ?_);have e:∀(p q q':Int) (s:io),q=q'->(acB (N.map ct,p,q,s,()):am yk yi)=acB (N.map ct,p,q',s,()):=by intros;subst_vars;rfl
  exact e _ _ _ _ (cD (x:=(r:Int)+1) acs)
 .try dsimp only
  unfold yz;refine ao (aq (show ¬((N.length+1:Nat):Int)<=(((N.map ct).length:Nat):Int) by rw[aT];omega)) ?_;rfl
def nt{α:Type}(n:ba)(r:α):Int×io×List ag.T×io×io×io×List aj.T×List ag.T×α:=(n.vars,n.bk,n.az.map cG,n.bL,n.bP,n.constraints,n.aa.map aM,n.ai.map cF,r)
abbrev W4:=io×List af.T×io×io×Unit
def w4(of:io)(nd:List bt)(m lv:io):W4:=(of,nd.map dX,m,lv,())
def iZ(k:Nat):List bt:=(List.range k).map fun i=>⟨false,0,i⟩
theorem KG(k:Nat):iZ (k+1)=iZ k++[⟨false,0,k⟩]:=by unfold iZ;rw[aby,dN];rfl
theorem qo(k:Nat):(iZ k).length=k:=by simp[iZ]
theorem Wg(n:ba)(of m lv:io)(hA:n.ai.length<=2000):yN ((n.ai.length:Int),(0:Int),nt n (nt n (w4 of [] m lv)))=some (nt n (nt n (w4 of (iZ n.ai.length) m lv))):=by
 unfold yN;delta qR dB dI dU;refine qH (fun k:Nat=>((n.ai.length:Int),(k:Int),nt n (nt n (w4 of (iZ k) m lv)))) n.ai.length ?_ ?_ NN acx
 .intro k hk;unfold nt w4
  try dsimp only
  unfold yU;refine aA acA (an (qx (L:=(iZ k).map dX) (by rw[aT,qo];omega) acw) ?_);rw[cD (x:=(k:Int)+1) acs,KG,dN];rfl
 .unfold nt w4
  try dsimp only
  unfold yU;rw[cV acz];rfl
def ko(j k:Nat):List bt:=(List.range k).map fun i=>⟨true,j,i⟩
theorem Lm(j k:Nat):ko j (k+1)=ko j k++[⟨true,j,k⟩]:=by unfold ko;rw[aby,dN];rfl
theorem G0(j k:Nat):(ko j k).length=k:=by simp[ko]
theorem Vx(n:ba)(of m lv:io)(j M R:Nat)(pre:List bt)(hj:j<=4)(hM:M<=4)(hR:R<=4)(hp:pre.length<=3000) :
  yJ ((j:Int),(M:Int),(j:Int),(R:Int),(0:Int),nt n (nt n (w4 of pre m lv)))=some ((M:Int),(j:Int),nt n (nt n (w4 of (pre++ko j R) m lv))):=by
 unfold yJ;delta ue u1 dI dU;refine ez (fun k:Nat=>((j:Int),(M:Int),(j:Int),(R:Int),(k:Int),nt n (nt n (w4 (of) (pre++ko j k) m lv)))) R (by rw[show ko j 0=[]from rfl,dE];rfl) ?_ ?_ acx
 .intro k hk;unfold nt w4
  try dsimp only
  unfold yR;refine aA acA (an (qx (L:=(pre++ko j k).map dX) (by rw[aT,aP,G0];omega) acw) ?_);rw[cD (x:=(k:Int)+1) acs,Lm,<-bJ,List.map_append (l₁:=pre++ko j k)];rfl
 .unfold nt w4
  try dsimp only
  unfold yR;rw[cV acz];rfl
theorem G5(k:Nat):∀(l:List cP) (m:cP),gr k (l++[m])=gr k l++Pl.gw (k+l.length) m
 |[],m=>by simp[gr]|x::l,m=>by rw[PP,gr,gr,G5 (k+1) l m,bJ,cq,show k+1+l.length=k+(l.length+1) by omega]
theorem Wh(n:ba)(of m lv:io)(hA:n.ai.length<=2000)(hM:n.aa.length<=4)(hR:∀M∈n.aa,M.reads.length<=4) :
  yM ((n.aa.length:Int),(0:Int),nt n (nt n (w4 of (iZ n.ai.length) m lv)))=some (nt n (w4 of (db n) m lv)):=by
 have hlen:∀k,k<=n.aa.length->(iZ n.ai.length++gr 0 (n.aa.take k)).length<=3000:=by
  intro k hk;rw[aP,qo,qk];have:=Bt ik (n.aa.take k) 4 (fun M hM=>by unfold ik;rw[aT];exact hR M (aaS hM));have h2:(n.aa.take k).length<=4:=by rw[ep];omega
  omega
 unfold yM;delta qR dB dI dU;refine ez (fun k:Nat=>((n.aa.length:Int),(k:Int),nt n (nt n (w4 of (iZ n.ai.length++gr 0 (n.aa.take k)) m lv)))) n.aa.length (by rw[aaQ,show gr 0 []=[]from rfl,dE];rfl) ?_ ?_ acx
 .intro k hk;have hMk:=bF hk;have hMk':(n.aa.map aM)[k]?=some (aM n.aa[k]):=by rw[dx,hMk];rfl
  have hrk:=hR _ (AT hk);unfold nt w4
  try dsimp only
  unfold yT;rw[dY acA,df (bm ⟨acs,by rw[aT];omega⟩),bG hMk'];have e:=Vx n of m lv k n.aa.length n.aa[k].reads.length _ acs hM hrk (hlen k acs);have hl:List.length (aM n.aa[k]).2.2.2.1=n.aa[k].reads.length:=aT _;rw[hl];refine(cu e).trans ?_;have e2:iZ n.ai.length++gr 0 (n.aa.take (k+1))=iZ n.ai.length++gr 0 (n.aa.take k)++ko k n.aa[k].reads.length:=by rw[dn hMk,G5,bJ,ep,acj acs,acg];rfl
  rw[e2];have hw:=cD (x:=(k:Int)+1) acs;show some (Sum.inl (_,mt ((k:Int)+1),_))=_;rw[hw];rfl
 .unfold nt w4
  try dsimp only
  unfold yT;rw[cV acz,fl];rfl
theorem Vz(n:ba)(V:Nat)(of m lv vs:io)(nd:List bt)(a b:Int)(k:Nat)(hk:k<=3000)(hln:vs.length<=100000)(hvs:∀v∈vs,0<=v/\v<=(V:Int))(hof:of.length=V+1) :
  yI ((k:Int),a,b,vs,(vs.length:Int),(0:Int),nt n (w4 of nd m lv))=some (a,b,nt n (w4 (cg of (vs.map Int.toNat) ((k:Int)+1)) nd m lv)):=by
 unfold yI;delta zL u6 dI dU;refine ez (fun j:Nat=>((k:Int),a,b,vs,(vs.length:Int),(j:Int),nt n (w4 (cg of ((vs.take j).map Int.toNat) ((k:Int)+1)) nd m lv))) vs.length rfl ?_ ?_ acx
 .intro j hj;have hv:=bF hj;obtain⟨h0,h1⟩:=hvs _ (AT hj);obtain⟨v,hv2⟩:=AI h0;rw[hv2]at hv h1;unfold nt w4
  try dsimp only
  unfold yP;rw[dY acA,df acy,bG (σ:=.I) hv,df (bm ⟨acs,by rw[jK,hof];omega⟩),cD (x:=(j:Int)+1) acs,cD (x:=(k:Int)+1) acs];rw[dn hv,dN,Pi,abT,tp];rfl
 .unfold nt w4
  try dsimp only
  unfold yP;rw[cV acz,fl];rfl
theorem Vy{n:ba}{V:Nat}(hs:cZ n V)(ft:Fit n)(m lv:io):yL (((db n).length:Int),(0:Int),nt n (w4 (List.replicate (V+1) 0) (db n) m lv))=some (wk n V m lv):=by
 have hnl:=tN hs;have hV2:=hs.v2;have hnl2:(db n).length=(aZ n).length:=by rw[Qw];unfold aZ;rw[aT]
 have hmw:∀M∈n.aa,0<=M.word:=fun M hM=>by have:=hs.aa M hM;omega
 unfold yL;delta kp u2 dI dU;refine ez (fun k:Nat=>(((db n).length:Int),(k:Int),nt n (w4 (eE (aZ n) V k) (db n) m lv))) (db n).length rfl ?_ ?_ acx
 .intro k hk;have hxd:=bF hk;obtain⟨y,hy1,hy2⟩:=B9 n hxd;have hy:=d8 hy1;have hx:(aZ n)[k]?=some y.nd:=by rw[Cg,hy1];rfl
  have hxd':((db n).map dX)[k]?=some (dX (db n)[k]):=by rw[dx,hxd];rfl
  have hvs:∀u∈y.to,0<=u/\u<=(V:Int):=fun u hu=>by have:=hs.m9 hy hu;omega
  have hlens:=zj hs hy;have e1:=Ko (of:=eE (aZ n) V k) (m:=m) (lv:=lv) (nd:=db n) hy2 ft hmw;have e2:=Vz n V (eE (aZ n) V k) m lv y.to (db n) ((db n).length:Int) (k:Int) k acs acs hvs (za _ _ _);unfold nt w4
  try dsimp only
  unfold yQ;refine aA acA (an (bm ⟨acs,by rw[aT];omega⟩) ?_);rw[bG hxd'];refine aO e1 (aO e2 ?_);rw[Lu hx];have hw:=cD (x:=(k:Int)+1) acs;show some (Sum.inl (_,mt ((k:Int)+1),_))=_;rw[hw];rfl
 .unfold nt w4
  try dsimp only
  unfold yQ;rw[cV acz,hnl2];rfl
theorem Pg{n:ba}{V:Nat}(hs:cZ n V)(ft:Fit n):Zo9 (nt n ())=some (wk n V (List.replicate (V+1) 0) (List.replicate (V+1) 0)):=by
 have hV2:=hs.v2;have hvars:=hs.vars;have e3:=Wg n (List.replicate (V+1) 0) (List.replicate (V+1) 0) (List.replicate (V+1) 0) hs.lens.2.2.1;have e8:=Wh n (List.replicate (V+1) 0) (List.replicate (V+1) 0) (List.replicate (V+1) 0) hs.lens.2.2.1 hs.lens.2.2.2.2 (fun M hM=>(hs.aa M hM).2.2.2.2.2.2.1);have e17:=Vy hs ft (List.replicate (V+1) 0) (List.replicate (V+1) 0);have hw:mt (n.vars+1)=((V+1:Nat):Int):=by rw[hvars,cD acs];omega
 show Gw sW yN yM yJ yL yI n.vars n.bk (n.az.map cG) n.bL n.bP n.constraints (n.aa.map aM) (n.ai.map cF)=_;unfold Gw;rw[hw];have hc:∀k:Int,0<=k->k<=8->both (decide ((0:Int)<=((V+1:Nat):Int))) (both (decide (((V+1:Nat):Int)<=((V+1:Nat):Int))) (decide (k*((V+1:Nat):Int)<=281474976710656)))=true:=by intro k h0 h8;rw[gO acs,gO acs,gO (by have:k*((V+1:Nat):Int)<=8*((V+1:Nat):Int):=Int.mul_le_mul_of_nonneg_right h8 acs;omega)];rfl
 have e3':yN (((List.map cF n.ai).length:Int),(0:Int),nt n (nt n (w4 (List.replicate (V+1) 0) [] (List.replicate (V+1) 0) (List.replicate (V+1) 0))))=some (nt n (nt n (w4 (List.replicate (V+1) 0) (iZ n.ai.length) (List.replicate (V+1) 0) (List.replicate (V+1) 0)))):=by rw[aT];exact e3
 have e8':yM (((List.map aM n.aa).length:Int),(0:Int),nt n (nt n (w4 (List.replicate (V+1) 0) (iZ n.ai.length) (List.replicate (V+1) 0) (List.replicate (V+1) 0))))=some (nt n (w4 (List.replicate (V+1) 0) (db n) (List.replicate (V+1) 0) (List.replicate (V+1) 0))):=by rw[aT];exact e8
 have e17':yL (((List.map dX (db n)).length:Int),(0:Int),nt n (w4 (List.replicate (V+1) 0) (db n) (List.replicate (V+1) 0) (List.replicate (V+1) 0)))=some (wk n V (List.replicate (V+1) 0) (List.replicate (V+1) 0)):=by grind
 exact an (hc 8 acw acw) (an (hc 1 acw acw) (an (hc 8 acw acw) (aO e3' (aO e8' (aO e17' rfl)))))
theorem SW{V:Nat}{m:io}(h:V<=2000):fresh V m<NN:=by
 have z:∀(p:Nat->Bool) k,zc p k<=k:=by
  intro p k
  induction k with|zero=>exact ol _|succ k ih=>rw[zc];split<;>omega
 have:fresh V m<=V+1:=z _ _;exact acx
theorem JB{n:ba}{V:Nat}(hs:cZ n V)(ft:Fit n) :
  ∃m lv,Zhj (wk n V (List.replicate (V+1) 0) (List.replicate (V+1) 0))=some (fF (aZ n) V,wk n V m lv) /\
   (fF (aZ n) V=true->lv.length=V+1/\∀v,v<=V->∃k:Nat,aw lv v=(k:Int)/\cw (aZ n) v k):=by
 have hV2:=hs.v2;have hL:=k9 (B:=fun d=>Gr FE d.1 d.2.1 d.2.2.1 d.2.2.2.1 d.2.2.2.2.1 d.2.2.2.2.2.1 d.2.2.2.2.2.2.1 d.2.2.2.2.2.2.2.1 d.2.2.2.2.2.2.2.2.1 d.2.2.2.2.2.2.2.2.2.1 d.2.2.2.2.2.2.2.2.2.2.1 d.2.2.2.2.2.2.2.2.2.2.2.1 d.2.2.2.2.2.2.2.2.2.2.2.2.1 d.2.2.2.2.2.2.2.2.2.2.2.2.2.1)
  (I:=fun d:Int×Int×WT=>∃(k:Nat) (m lv:io),d=(((V+1:Nat):Int),(k:Int),wk n V m lv)/\k<=V+1/\VI (aZ n) V m lv/\(∀u,u<=V->aw m u≠1)/\(∀u,u<k->tl (aZ n) m u))
  (Q:=fun o:Out yw=>(∃m lv,o=.inl (false,wk n V m lv)/\∃u,u<=V/\∀k,¬cw (aZ n) u k)\/(∃m lv,o=.inr (wk n V m lv)/\VI (aZ n) V m lv/\∀u,u<V+1->tl (aZ n) m u))
  (μ:=fun d=>V+1-d.2.1.toNat) ?_ NN (((V+1:Nat):Int),(0:Int),wk n V (List.replicate (V+1) 0) (List.replicate (V+1) 0)) ⟨0,_,_,rfl,acs,vi0,fun u hu=>by unfold aw;rw[gC,abO];split<;>simp,fun u h=>acs⟩ acx
 .obtain⟨o,ho,hcase⟩:=hL;have hlen:((List.length (eE (aZ n) V (aZ n).length):Nat):Int)=((V+1:Nat):Int):=by rw[za]
  have ho':Zhi (((List.length (eE (aZ n) V (aZ n).length):Nat):Int),(0:Int),wk n V (List.replicate (V+1) 0) (List.replicate (V+1) 0))=some o:=by rw[hlen];exact ho
  rcases hcase with⟨m,lv,rfl,u,hu,hno⟩|⟨m,lv,rfl,hI,hT⟩
  .have hf:fF (aZ n) V=false:=by
    cases h:fF (aZ n) V
    .rfl
    .obtain⟨kk,hkk⟩:=(vN hs.apart V).1 h u hu;exact absurd hkk (hno kk)
   rw[hf];exact⟨m,lv,aO ho' rfl,fun h=>by cases h⟩
  .have hl:∀v,v<=V->∃k:Nat,aw lv v=(k:Int)/\cw (aZ n) v k:=fun v hv=>vP hI hv (hT v acs);have ht:fF (aZ n) V=true:=(vN hs.apart V).2 fun v hv=>by obtain⟨k,_,h⟩:=hl v hv;exact⟨k,h⟩
   rw[ht];exact⟨m,lv,aO ho' rfl,fun _=>⟨hI.ll,hl⟩⟩
 .rintro _ ⟨k,m,lv,rfl,hk,hI,hU,hT⟩;by_cases hlt:k<V+1
  .obtain⟨b,m2,lv2,e,hp⟩:=TC hs ft NN m lv k hI (fun u hu h=>absurd h (hU u hu)) acs (SW hV2);have e':FE ((k:Int),wk n V m lv)=some (b,wk n V m2 lv2):=e;rcases hp with⟨rfl,hI7,hE7,ht7⟩|⟨rfl,u',hu',hno⟩
   .right;refine⟨_,aA (au (show(k:Int)<((V+1:Nat):Int) by omega)) (aO e' (ao rfl rfl)),⟨k+1,m2,lv2,?_,acs,hI7,fun u hu h=>hU u hu (hE7.b u hu h),fun u hu=>?_⟩,?_⟩
    .have e2:∀a a':Int,a=a'->(((V+1:Nat):Int),a,wk n V m2 lv2)=(((V+1:Nat):Int),a',wk n V m2 lv2):=by rintro _ _ rfl;rfl
     exact e2 _ _ (cD (x:=(k:Int)+1) acs)
    .by_cases e:u=k
     .subst e;exact ht7
     .exact(BJ hI hI7 hE7 acs (hT u acs)).1
    .show V+1-(mt ((k:Int)+1)).toNat<V+1-(k:Int).toNat;rw[cD (x:=(k:Int)+1) acs];omega
   .left;exact⟨_,aA (au (show(k:Int)<((V+1:Nat):Int) by omega)) (aO e' (aA rfl rfl)),.inl ⟨m2,lv2,rfl,u',hu',hno⟩⟩
  .left;exact⟨_,ao (aq (show ¬(k:Int)<((V+1:Nat):Int) by omega)) rfl,.inr ⟨m,lv,rfl,hI,fun u hu=>hT u acs⟩⟩
theorem Zq6{n:ba}(ft:Fit n):Zfn (cx n,())=some (iA n,()):=by
 have es:nF (cx n,())=some (eh n,()):=by unfold nF;rw[show kC ((cx n,()):TL [bB]).1=n from nX n,Lf ft];rfl
 by_cases h0:eh n=0
 .obtain⟨V,hs⟩:=Cd h0;have hV:n.vars.toNat=V:=by rw[hs.vars];rfl
  obtain⟨m,lv,ea,_⟩:=JB hs ft;have ew:=Pg hs ft;cases hc:fF (aZ n) V
  .have et:ti (nt n ())=acB ((8:Int),()):=by refine aO es (ao (by rw[h0];rfl) (aO ew (aO ea (aA (by rw[hc];rfl) rfl))))
   refine(aO et rfl).trans ?_;unfold iA;rw[h0,hV,hc];rfl
  .have et:ti (nt n ())=acC ((0:Int),wk n V m lv):=by refine aO es (ao (by rw[h0];rfl) (aO ew (aO ea (ao (by rw[hc];rfl) rfl))))
   refine(aO et rfl).trans ?_;unfold iA;rw[h0,hV,hc];rfl
 .have et:ti (nt n ())=acB (eh n,()):=by refine aO es (aA (by simp[h0]) rfl)
  refine(aO et rfl).trans ?_;unfold iA;rw[ut h0];rfl
set_option maxRecDepth 10000
variable{α:Type}
theorem oc{D O:Type}{B:D->Option (D⊕O)}(f:Nat->D)(L:List α)(q:α->Bool){bad good:O}(hs:∀i x,L[i]?=some x->q x=false->B (f i)=acB (f (i+1)))(hf:∀i x,L[i]?=some x->q x=true->B (f i)=acC bad)
  (he:B (f L.length)=acC good) {d:D}(hd:d=f 0) {N:Nat}(hN:L.length<N):bh B N d=some (if L.any q then bad else good):=by
 subst hd;have main:∀k i,i+k=L.length->∀N,k<N->bh B N (f i)=some (if(L.drop i).any q then bad else good):=by
  intro k
  induction k with
  |zero=>intro i hi N hN;obtain⟨N,rfl⟩:∃M,N=M+1:=⟨N-1,acs⟩;rw[aaU acs,show i=L.length by omega];simp only[bh,he,List.any_nil,GE,abu]
  |succ k ih=>
   intro i hi N hN;obtain⟨N,rfl⟩:∃M,N=M+1:=⟨N-1,acs⟩;have hx:=bF (show i<L.length by omega);rw[aaP (show i<L.length by omega),List.any_cons];cases hq:q L[i]with
   |true=>simp only[bh,hf i _ hx hq,Bool.true_or,abE]|false=>
    simp only[bh,hs i _ hx hq,acp]
    grind
 grind
theorem Kk{L:Nat}(h:L<=10000000):room 8 L=true:=pM acs acs
abbrev iG{α:Type}(m:cP)(r:α):=(m.addr,m.word,m.any,m.reads.map cp,m.writes.map cS,r)
variable{L:List α}{x:α}{β:Type}
theorem i9(f:α->β)(h:L[i]?=some x):(L.map f)[i]?=some (f x):=by grind
theorem fb(f:α->β)(h:L[i]?=some x):al (i:Int) (List.length (L.map f))=true:=bm ⟨acs,by grind⟩
theorem map_lt(f:α->β)(h:L[i]?=some x):iL (i:Int) (Int.ofNat (List.length (L.map f)))=true:=by grind
theorem kV(f:α->β)(L:List α):iL (L.length:Int) (Int.ofNat (List.length (L.map f)))=false:=by grind
theorem Kl(b:Bool):bw false true b=b:=by cases b<;>rfl
variable{m:cP}
theorem Jq(hm:oA m):Ax (aM m,())=some (fS m,()):=by
 have h1:=hm.kR;have h2:=hm.n8;have e4:Ay ((0:Int),iG m ())=some (if m.reads.any (jX m)then .inl (true,())else .inr (iG m ())):=by
  unfold Ay;delta u6;refine oc (fun i:Nat=>((i:Int),iG m ())) m.reads (jX m) (fun i x hx q=>?_) (fun i x hx q=>?_) ?_ rfl acx
  .try dsimp only
   unfold uZ;have hl:=(wn.1 hx).1;rw[bG (σ:=bK) (i9 cp hx)];have q':Bool.not (iQ (Int.ofNat (List.length (cp x).2.1)) m.addr)=false:=q;have e:∀p q:Int,p=q->(acB (p,iG m ()):am uU uQ)=acB (q,iG m ()):=by rintro _ _ rfl;rfl
   exact aA (map_lt cp hx) (an (fb cp hx) (ao q' (e _ _ (cD (x:=(i:Int)+1) acs))))
  .try dsimp only
   unfold uZ;rw[bG (σ:=bK) (i9 cp hx)];have q':Bool.not (iQ (Int.ofNat (List.length (cp x).2.1)) m.addr)=true:=q;exact aA (map_lt cp hx) (an (fb cp hx) (aA q' rfl))
  .exact ao (kV cp m.reads) rfl
 have e9:Az ((0:Int),iG m ())=some (if m.writes.any (jE m)then .inl (true,())else .inr ()):=by
  unfold Az;delta u6;refine oc (fun i:Nat=>((i:Int),iG m ())) m.writes (jE m) (fun i x hx q=>?_) (fun i x hx q=>?_) ?_ rfl acx
  .try dsimp only
   unfold va;have hl:=(wn.1 hx).1;rw[bG (σ:=bj) (i9 cS hx)];unfold jE at q;rw[abH]at q;have q1:Bool.not (iQ (Int.ofNat (List.length (cS x).2.1)) m.addr)=false:=q.1;have q2:bw false true (Bool.not (iQ (Int.ofNat (List.length (cS x).2.2.1)) m.word))=false:=(Kl _).trans q.2;have e:∀p q:Int,p=q->(acB (p,iG m ()):am uV uR)=acB (q,iG m ()):=by rintro _ _ rfl;rfl
   exact aA (map_lt cS hx) (an (fb cS hx) (ao q1 (an (fb cS hx) (ao q2 (e _ _ (cD (x:=(i:Int)+1) acs))))))
  .try dsimp only
   unfold va;rw[bG (σ:=bj) (i9 cS hx)];unfold jE at q;cases q1:((x.addr.length:Int) != m.addr)with|true=>exact aA (map_lt cS hx) (an (fb cS hx) (aA (show Bool.not (iQ (Int.ofNat (List.length (cS x).2.1)) m.addr)=true from q1) rfl))|false=>rw[q1,acp]at q;exact aA (map_lt cS hx) (an (fb cS hx) (ao (show Bool.not (iQ (Int.ofNat (List.length (cS x).2.1)) m.addr)=false from q1) (an (fb cS hx) (aA (show bw false true (Bool.not (iQ (Int.ofNat (List.length (cS x).2.2.1)) m.word))=true from(Kl _).trans q) rfl))))
  .exact ao (kV cS m.writes) rfl
 show AB Ay Az (aM m)=_;unfold AB fS;by_cases c1:m.addr<1
 .rw[gO (.inl c1)];exact(dY (au c1)).trans rfl
 refine(cV (aq c1)).trans ?_;by_cases c2:62<m.addr
 .rw[gO (.inr (.inl c2))];exact(dY (show bw false true (iL (62:Int) m.addr)=true from au c2)).trans rfl
 refine(cV (show bw false true (iL (62:Int) m.addr)=false from aq c2)).trans ?_;by_cases c3:m.word<1
 .rw[gO (.inr (.inr (.inl c3)))];exact(dY (show bw false true (iL m.word (1:Int))=true from au c3)).trans rfl
 refine(cV (show bw false true (iL m.word (1:Int))=false from aq c3)).trans ?_;by_cases c4:64<m.word
 .rw[gO (.inr (.inr (.inr c4)))];exact(dY (show bw false true (iL (64:Int) m.word)=true from au c4)).trans rfl
 refine(cV (show bw false true (iL (64:Int) m.word)=false from aq c4)).trans ((cu e4).trans ?_);rw[iK (fun h=>acs),acp];cases m.reads.any (jX m)with|true=>rfl|false=>refine(cu e9).trans ?_;cases m.writes.any (jE m)<;>rfl
section
variable{n:ba}(ft:Fit n)
include ft
theorem Su:IY (cx n,())=some (gD n,()):=by
 have hm:=ft.aa.1;have e4:Ak ((0:Int),nt n ())=some (if n.aa.any gF then .inl (true,())else .inr (nt n ())):=by
  unfold Ak;delta u9;refine oc (fun i:Nat=>((i:Int),nt n ())) n.aa gF (fun i x hx q=>?_) (fun i x hx q=>?_) ?_ rfl acx
  .unfold nt
   try dsimp only
   unfold uT;have hl:=(wn.1 hx).1;rw[bG (σ:=aj) (i9 aM hx)];unfold gF at q;have q:=abc q;have e:∀p q:Int,p=q->(acB (p,nt n ()):am uM uG)=acB (q,nt n ()):=by rintro _ _ rfl;rfl
   have q1:iL (4:Int) (Int.ofNat (List.length (x.reads.map cp)))=false:=aq (by show ¬(4:Int)<((x.reads.map cp).length:Int);rw[aT];omega);have q2:bw false true (iL (4:Int) (Int.ofNat (List.length (x.writes.map cS))))=false:=aq (by show ¬(4:Int)<((x.writes.map cS).length:Int);rw[aT];omega);exact aA (map_lt aM hx) (an (fb aM hx) (ao q1 (an (fb aM hx) (ao q2 (e _ _ (cD (x:=(i:Int)+1) acs))))))
  .unfold nt
   try dsimp only
   unfold uT;rw[bG (σ:=aj) (i9 aM hx)];unfold gF at q;have q:=WF q;by_cases c:4<x.reads.length
   .have q1:iL (4:Int) (Int.ofNat (List.length (x.reads.map cp)))=true:=au (by show(4:Int)<((x.reads.map cp).length:Int);rw[aT];omega);exact aA (map_lt aM hx) (an (fb aM hx) (aA q1 rfl))
   .have q1:iL (4:Int) (Int.ofNat (List.length (x.reads.map cp)))=false:=aq (by show ¬(4:Int)<((x.reads.map cp).length:Int);rw[aT];omega);have q2:bw false true (iL (4:Int) (Int.ofNat (List.length (x.writes.map cS))))=true:=au (by show(4:Int)<((x.writes.map cS).length:Int);rw[aT];omega);exact aA (map_lt aM hx) (an (fb aM hx) (ao q1 (an (fb aM hx) (aA q2 rfl))))
  .exact ao (kV aM n.aa) rfl
 have h1:=ft.out.1;have h2:=ft.bad.1;have h3:=ft.kO.1;have w1:mt ((Int.ofNat (List.length n.bL))+(Int.ofNat (List.length n.bP)))=((n.bL.length+n.bP.length:Nat):Int):=(cD (x:=(n.bL.length:Int)+(n.bP.length:Int)) acs).trans acs;have w2:mt ((mt ((Int.ofNat (List.length n.bL))+(Int.ofNat (List.length n.bP))))+(Int.ofNat (List.length n.constraints)))=((n.bL.length+n.bP.length+n.constraints.length:Nat):Int):=by rw[w1];exact(cD (x:=((n.bL.length+n.bP.length:Nat):Int)+(n.constraints.length:Int)) acs).trans acs
 show Au Ak (cx n)=_;unfold Au;have key:∀b:Bool,b=gD n->(some (b,()):Option (TL qU))=some (gD n,()):=by rintro _ rfl;rfl
 have yes:gD n=true->(some (true,()):Option (TL qU))=some (gD n,()):=fun h=>by rw[h];rfl
 have hp:gD n=true↔(n.vars<0\/2000<n.vars\/2000<n.bk.length\/2000<n.az.length\/2000<n.ai.length\/1000<n.bL.length+n.bP.length+n.constraints.length\/4<n.aa.length\/n.aa.any gF=true):=by unfold gD;simp only[Bool.or_eq_true,FS,or_assoc]
 by_cases c1:n.vars<0
 .exact(dY (au c1)).trans (yes (hp.2 acs))
 refine(cV (aq c1)).trans ?_;by_cases c2:2000<n.vars
 .exact(dY (show bw false true (iL (2000:Int) n.vars)=true from au c2)).trans (yes (hp.2 acs))
 refine(cV (show bw false true (iL (2000:Int) n.vars)=false from aq c2)).trans ?_;by_cases c3:1000<n.bL.length+n.bP.length+n.constraints.length
 .exact(dY (show bw false true (iL (1000:Int) (mt ((mt ((Int.ofNat (List.length n.bL))+(Int.ofNat (List.length n.bP))))+(Int.ofNat (List.length n.constraints)))))=true by rw[w2];exact acA)).trans (yes (hp.2 acs))
 refine(cV (show bw false true (iL (1000:Int) (mt ((mt ((Int.ofNat (List.length n.bL))+(Int.ofNat (List.length n.bP))))+(Int.ofNat (List.length n.constraints)))))=false by rw[w2];exact acz)).trans ?_;have lm:(Int.ofNat (List.length (n.aa.map aM)))=(n.aa.length:Int):=by show((n.aa.map aM).length:Int)=_;rw[aT]
 have ll:(Int.ofNat (List.length (n.az.map cG)))=(n.az.length:Int):=by show((n.az.map cG).length:Int)=_;rw[aT]
 have la:(Int.ofNat (List.length (n.ai.map cF)))=(n.ai.length:Int):=by show((n.ai.map cF).length:Int)=_;rw[aT]
 by_cases c4:4<n.aa.length
 .exact(dY (show bw false true (iL (4:Int) (Int.ofNat (List.length (n.aa.map aM))))=true by rw[lm];exact acA)).trans (yes (hp.2 acs))
 refine(cV (show bw false true (iL (4:Int) (Int.ofNat (List.length (n.aa.map aM))))=false by rw[lm];exact acz)).trans ((cu e4).trans ?_);cases c5:n.aa.any gF with
 |true=>exact yes (hp.2 (.inr (.inr (.inr (.inr (.inr (.inr (.inr c5))))))))|false=>
  have c5':¬n.aa.any gF=true:=by rw[c5];decide
  show br (iL (2000:Int) (Int.ofNat (List.length n.bk))) _ (br (bw false true (iL (2000:Int) (Int.ofNat (List.length (n.az.map cG))))) _ (some (bw false true (iL (2000:Int) (Int.ofNat (List.length (n.ai.map cF)))),())))=_;rw[ll,la];by_cases c6:2000<n.bk.length
  .exact(dY (au (show(2000:Int)<(n.bk.length:Int) by omega))).trans (yes (hp.2 acs))
  refine(cV (aq (show ¬(2000:Int)<(n.bk.length:Int) by omega))).trans ?_;by_cases c7:2000<n.az.length
  .exact(dY (show bw false true (iL (2000:Int) (n.az.length:Int))=true from acA)).trans (yes (hp.2 acs))
  refine(cV (show bw false true (iL (2000:Int) (n.az.length:Int))=false from acz)).trans (key _ ?_);by_cases c8:2000<n.ai.length
  .rw[hp.2 acs];exact acA
  .rw[show bw false true (iL (2000:Int) (n.ai.length:Int))=false from acz];cases q:gD n with
   |false=>rfl|true=>
    rcases hp.1 q with h|h|h|h|h|h|h|h
    .omega
    .omega
    .omega
    .omega
    .omega
    .omega
    .omega
    .exact absurd h c5'
end
theorem j6{x:Int}{n:Nat}(e:x=(n:Int))(h:n<=1000000000):mt x=(n:Int):=by rw[e];exact cD acs
structure AW(n:ba):Prop where
 ins:n.bk.length<=4000
 aw:n.az.length<=4000
 ai:n.ai.length<=4000
 aa:n.aa.length<=100
 mem:∀m∈n.aa,(1<=m.word/\m.word<=64)/\m.reads.length<=100/\∀r∈m.reads,-1099511627776<=r.var/\r.var<=1099511627776
section
variable{n:ba}(K:AW n)
include K
theorem VJ(A:io)(hA:A.length<=10000):IB ((0:Int),nt n (A,()))=some (nt n ((A++n.az.map (·.var)),())):=by
 have hl:=K.aw;unfold IB;delta dB;have hL:(n.az.map cG).length=n.az.length:=aT _;refine ez (fun k:Nat=>((k:Int),nt n ((A++(n.az.take k).map (·.var)),()))) n.az.length (by rw[aaQ,abT,dE];rfl) ?_ ?_ acx
 .intro k hk;have hx:=bF hk;have hx':(n.az.map cG)[k]?=some (cG n.az[k]):=by grind
  have g:gt ag (n.az.map cG) (k:Int)=cG n.az[k]:=bG (σ:=ag) hx';have e:∀(a b:io) (p q:Int),a=b->p=q->(acB (p,nt n (a,())):am uD uz)=acB (q,nt n (b,())):=by intros;subst_vars;rfl
  have ht:(A++(n.az.take k).map (·.var))++([(gt ag (n.az.map cG) (k:Int)).1]:io)=A++(n.az.take (k+1)).map (·.var):=by rw[g,Pl.dn hx,dN,<-bJ];rfl
  have hroom:=qx (a:=8) (L:=A++(n.az.take k).map (·.var)) (x:=(gt ag (n.az.map cG) (k:Int)).1) (by grind) acs;exact aA (au (show(k:Int)<((n.az.map cG).length:Int) by omega)) (an (show al (k:Int) (List.length (n.az.map cG))=true from acy) (an hroom (e _ _ _ _ ht (j6 (show(k:Int)+1=((k+1:Nat):Int) by omega) acs))))
 .rw[fl];exact ao (aq (show ¬(n.az.length:Int)<((n.az.map cG).length:Int) by omega)) rfl
theorem UN{j:Nat}(hm:n.aa[j]?=some m)(A:io)(hA:A.length<=5000000):z6 ((j:Int),(0:Int),nt n (A,()))=some ((j:Int),nt n ((A++fv m),())):=by
 have hj:=(wn.1 hm).1;have hmm:=d8 hm;obtain⟨⟨m3,m4⟩,m7,m5⟩:=K.mem m hmm;unfold z6;delta kT;have hL:((n.aa.map aM).length:Int)=(n.aa.length:Int):=by rw[aT]
 have hxm:(n.aa.map aM)[j]?=some (aM m):=by rw[dx,hm];rfl
 have gm:gt aj (n.aa.map aM) (j:Int)=aM m:=bG (σ:=aj) hxm;have aR:al (j:Int) (List.length (n.aa.map aM))=true:=acy;have hR:(m.reads.map cp).length=m.reads.length:=aT _;refine ez (fun k:Nat=>((j:Int),(k:Int),nt n ((A++(m.reads.take k).flatMap fun r=>cA r.var m.word.toNat),()))) m.reads.length (by rw[aaQ,abm,dE];rfl) ?_ ?_ acx
 .intro k hk;have hx:=bF hk;have hr:=AT hk;have r1:=m5 _ hr;have ed:=Jk m k m.reads[k] hx acs r1;have e:∀(a b:io) (p q:Int),a=b->p=q->(acB ((j:Int),p,nt n (a,())):am ux uk)=acB ((j:Int),q,nt n (b,())):=by rintro _ _ _ _ rfl rfl;rfl
  have ht:(A++(m.reads.take k).flatMap fun r=>cA r.var m.word.toNat)++cA m.reads[k].var m.word.toNat=A++(m.reads.take (k+1)).flatMap fun r=>cA r.var m.word.toNat:=by rw[Pl.dn hx,IO,<-bJ,abd]
  have hd:∀r:fQ,(cA r.var m.word.toNat).length<=64:=fun r=>by unfold cA;rw[aT,abv];omega
  have hb:=eY (fun r:fQ=>cA r.var m.word.toNat) 64 (m.reads.take k) fun r _=>hd r;rw[ep]at hb;have hroom:room 8 (List.length ((A++(m.reads.take k).flatMap fun r=>cA r.var m.word.toNat)++cA m.reads[k].var m.word.toNat))=true:=Kk (by grind);unfold nt
  try dsimp only
  unfold uH;rw[gm];exact an aR (aA (au (show(k:Int)<((m.reads.map cp).length:Int) by omega)) (an aR (aO ed (an hroom (e _ _ _ _ ht (j6 (show(k:Int)+1=((k+1:Nat):Int) by omega) acs))))))
 .rw[fl];unfold nt
  try dsimp only
  unfold uH;rw[gm];exact an aR (ao (aq (show ¬(m.reads.length:Int)<((m.reads.map cp).length:Int) by omega)) rfl)
theorem VK(A:io)(hA:A.length<=10000):IC ((0:Int),nt n (A,()))=some (nt n ((A++n.aa.flatMap fv),())):=by
 have hl:=K.aa;unfold IC;delta dB;have hL:((n.aa.map aM).length:Int)=(n.aa.length:Int):=by rw[aT]
 refine ez (fun k:Nat=>((k:Int),nt n ((A++(n.aa.take k).flatMap fv),()))) n.aa.length (by rw[aaQ,abm,dE];rfl) ?_ ?_ acx
 .intro k hk;have hx:=bF hk;have hb:=eY fv 6400 (n.aa.take k) fun m hm=>by
   obtain⟨⟨m3,m4⟩,m7,m5⟩:=K.mem m (aaS hm);have h2:=eY (fun r:fQ=>cA r.var m.word.toNat) 64 m.reads fun r _=>by unfold cA;grind
   unfold fv;omega
  rw[ep]at hb;have e10:=UN K hx (A++(n.aa.take k).flatMap fv) (by rw[aP];omega);have ht:(A++(n.aa.take k).flatMap fv)++fv n.aa[k]=A++(n.aa.take (k+1)).flatMap fv:=by rw[Pl.dn hx,IO,<-bJ,abd]
  have e:∀(a b:io) (p q:Int),a=b->p=q->(acB (p,nt n (a,())):am uE uA)=acB (q,nt n (b,())):=by rintro _ _ _ _ rfl rfl;rfl
  exact aA (au (show(k:Int)<((n.aa.map aM).length:Int) by omega)) (aO e10 (e _ _ _ _ ht (j6 (show(k:Int)+1=((k+1:Nat):Int) by omega) acs)))
 .rw[fl];exact ao (aq (show ¬(n.aa.length:Int)<((n.aa.map aM).length:Int) by omega)) rfl
theorem UO(A:io)(hA:A.length<=5000000):Im ((0:Int),nt n (A,()))=some ((A++n.ai.map (·.var)),()):=by
 have hl:=K.ai;unfold Im;delta dB;have hL:(n.ai.map cF).length=n.ai.length:=aT _;refine ez (fun k:Nat=>((k:Int),nt n ((A++(n.ai.take k).map (·.var)),()))) n.ai.length (by rw[aaQ,abT,dE];rfl) ?_ ?_ acx
 .intro k hk;have hx:=bF hk;have hx':(n.ai.map cF)[k]?=some (cF n.ai[k]):=by grind
  have g:gt ag (n.ai.map cF) (k:Int)=cF n.ai[k]:=bG (σ:=ag) hx';have e:∀(a b:io) (p q:Int),a=b->p=q->(acB (p,nt n (a,())):am uy um)=acB (q,nt n (b,())):=by intros;subst_vars;rfl
  have ht:(A++(n.ai.take k).map (·.var))++([(gt ag (n.ai.map cF) (k:Int)).1]:io)=A++(n.ai.take (k+1)).map (·.var):=by rw[g,Pl.dn hx,dN,<-bJ];rfl
  have hroom:=qx (a:=8) (L:=A++(n.ai.take k).map (·.var)) (x:=(gt ag (n.ai.map cF) (k:Int)).1) (by grind) acs;exact aA (au (show(k:Int)<((n.ai.map cF).length:Int) by omega)) (an (show al (k:Int) (List.length (n.ai.map cF))=true from acy) (an hroom (e _ _ _ _ ht (j6 (show(k:Int)+1=((k+1:Nat):Int) by omega) acs))))
 .rw[fl];exact ao (aq (show ¬(n.ai.length:Int)<((n.ai.map cF).length:Int) by omega)) rfl
theorem SO:Ry (cx n,())=some (cL n,()):=by
 have hl:=K.ins;have hl2:=K.aw;have hb:=eY fv 6400 n.aa fun m hm=>by
  obtain⟨⟨m3,m4⟩,m7,m5⟩:=K.mem m hm;have h2:=eY (fun r:fQ=>cA r.var m.word.toNat) 64 m.reads fun r _=>by unfold cA;rw[aT,abv];omega
  unfold fv;omega
 have hl3:=K.aa;have hroom:room 8 (List.length (([]:io)++n.bk))=true:=Kk (by rw[LT];omega);exact an hroom (aO (VJ K n.bk acs) (aO (VK K (n.bk++n.az.map (·.var)) (by rw[aP,aT];omega)) (aO (UO K (n.bk++n.az.map (·.var)++n.aa.flatMap fv) (by grind)) rfl)))
end
variable{j:Nat}
theorem mc{L:Nat}(h:L<=1000000000):room 8 L=true:=pM acs acs
section
variable{n:ba}(ft:Fit n)
include ft
omit ft in
theorem Vd(j:Int)(mf:oA m)(A:io)(hA:A.length<=200000000):zW (j,(0:Int),nt n (A,iG m ()))=some (j,nt n (A++m.reads.flatMap (·.addr),iG m ())):=by
 have hl:=mf.kR;unfold zW;delta u16 u4 dI dU;refine ez (fun k:Nat=>(j,(k:Int),nt n (A++(m.reads.take k).flatMap (·.addr),iG m ()))) m.reads.length (by rw[aaQ,abm,dE];rfl) ?_ ?_ acx
 .intro k hk;have hx:=bF hk;have hr:=mf.gG _ (AT hk);have hb:=eY (fun r:fQ=>r.addr) 4000 (m.reads.take k) fun r h=>(mf.gG r (aaS h)).1;rw[ep]at hb;have ht:(A++(m.reads.take k).flatMap (·.addr))++m.reads[k].addr=A++(m.reads.take (k+1)).flatMap (·.addr):=by rw[Pl.dn hx,IO,<-bJ,abd]
  have e:∀(a b:io) (p q:Int),a=b->p=q->(acB (j,p,nt n (a,iG m ())):am uq uh)=acB (j,q,nt n (b,iG m ())):=by rintro _ _ _ _ rfl rfl;rfl
  unfold nt
  try dsimp only
  unfold zP;rw[bG (σ:=bK) (i9 cp hx)];exact aA (map_lt cp hx) (an (fb cp hx) (an (show room 8 (List.length ((A++(m.reads.take k).flatMap (·.addr))++m.reads[k].addr))=true from mc (by rw[aP,aP];omega)) (e _ _ _ _ ht (j6 (show(k:Int)+1=((k+1:Nat):Int) by omega) acs))))
 .rw[fl];exact ao (kV cp m.reads) rfl
omit ft in
theorem Ve(j:Int)(mf:oA m)(A:io)(hA:A.length<=300000000):zX (j,(0:Int),nt n (A,iG m ()))=some (j,nt n (A++m.writes.flatMap iW,())):=by
 have hl:=mf.n8;unfold zX;delta u16 u4 dI dU;refine ez (fun k:Nat=>(j,(k:Int),nt n (A++(m.writes.take k).flatMap iW,iG m ()))) m.writes.length (by rw[aaQ,abm,dE];rfl) ?_ ?_ acx
 .intro k hk;have hx:=bF hk;have hr:=mf.kU _ (AT hk);have hb:=eY iW 8001 (m.writes.take k) fun r h=>by have:=mf.kU r (aaS h);unfold iW;rw[cq,aP];omega
  rw[ep]at hb;obtain⟨w,hw⟩:∃w,w=m.writes[k]:=⟨_,rfl⟩;rw[<-hw]at hr hx;obtain⟨P,hP⟩:∃P,P=A++(m.writes.take k).flatMap iW:=⟨_,rfl⟩;have hPl:P.length<=302000000:=by rw[hP,aP];omega
  have ht:((P++[w.on])++w.addr)++w.data=A++(m.writes.take (k+1)).flatMap iW:=by rw[hP,Pl.dn hx,IO,abd];unfold iW;simp only[bJ,PP,LT]
  have e:∀(a b:io) (p q:Int),a=b->p=q->(acB (j,p,nt n (a,iG m ())):am ur ui)=acB (j,q,nt n (b,iG m ())):=by rintro _ _ _ _ rfl rfl;rfl
  rw[<-hP];unfold nt
  try dsimp only
  unfold zQ;rw[bG (σ:=bj) (i9 cS hx)];have r1:room 8 (List.length (P++[w.on]))=true:=mc (by rw[aP];simp;omega);have r2:room 8 (List.length ((P++[w.on])++w.addr))=true:=mc (by rw[aP,aP];simp;omega);have r3:room 8 (List.length (((P++[w.on])++w.addr)++w.data))=true:=mc (by rw[aP,aP,aP];simp;omega);exact aA (map_lt cS hx) (an (fb cS hx) (an r1 (an r2 (an r3 (e _ _ _ _ ht (j6 (show(k:Int)+1=((k+1:Nat):Int) by omega) acs))))))
 .rw[fl];exact ao (kV cS m.writes) rfl
theorem Uc:Ir (cx n,())=some (dJ n,()):=by
 have l1:=ft.aw.1;have l2:=ft.out.1;have l3:=ft.bad.1;have l4:=ft.kO.1;have l5:=ft.aa.1;have l6:=ft.ai.1;have e3:Is ((0:Int),nt n ([],()))=some (nt n (n.az.map (·.next),())):=by
  unfold Is;delta dB;refine ez (fun k:Nat=>((k:Int),nt n ((n.az.take k).map (·.next),()))) n.az.length rfl ?_ ?_ acx
  .intro k hk;have hx:=bF hk;have ht:(n.az.take k).map (·.next)++[n.az[k].next]=(n.az.take (k+1)).map (·.next):=by rw[Pl.dn hx,dN];rfl
   have e:∀(a b:io) (p q:Int),a=b->p=q->(acB (p,nt n (a,())):am uB uv)=acB (q,nt n (b,())):=by rintro _ _ _ _ rfl rfl;rfl
   unfold nt
   try dsimp only
   unfold z8;rw[bG (σ:=ag) (i9 cG hx)];exact aA (map_lt cG hx) (an (fb cG hx) (an (show room 8 (List.length ((n.az.take k).map (·.next)++[n.az[k].next]))=true from mc (by rw[aP,aT,ep,List.length_singleton];omega)) (e _ _ _ _ ht (j6 (show(k:Int)+1=((k+1:Nat):Int) by omega) acs))))
  .rw[fl];exact ao (kV cG n.az) rfl
 obtain⟨A,hA⟩:∃A,A=((n.az.map (·.next)++n.bL)++n.bP)++n.constraints:=⟨_,rfl⟩;have hAl:A.length<=16000:=by rw[hA];simp only[aP,aT];omega
 have hmem:∀m∈n.aa,(fC m).length<=1300000:=fun m h=>by
  have mf:=ft.aa.2 m h;have a:=eY (fun r:fQ=>r.addr) 4000 m.reads fun r h=>(mf.gG r h).1;have b:=eY iW 8001 m.writes fun r h=>by have:=mf.kU r h;unfold iW;rw[cq,aP];omega
  have:=mf.kR;have:=mf.n8;unfold fC;rw[aP];omega
 have e10:Ic ((0:Int),nt n (A,()))=some (nt n (A++n.aa.flatMap fC,())):=by
  unfold Ic;delta dB;refine ez (fun k:Nat=>((k:Int),nt n (A++(n.aa.take k).flatMap fC,()))) n.aa.length (by rw[aaQ,abm,dE];rfl) ?_ ?_ acx
  .intro k hk;have hx:=bF hk;have mf:=ft.aa.2 _ (AT hk);obtain⟨m,hm⟩:∃m,m=n.aa[k]:=⟨_,rfl⟩;rw[<-hm]at hx mf;have hb:=eY fC 1300000 (n.aa.take k) fun r h=>hmem r (aaS h);rw[ep]at hb;have ha:=eY (fun r:fQ=>r.addr) 4000 m.reads fun r h=>(mf.gG r h).1;have hrn:=mf.kR;have e14:=Vd (n:=n) (k:Int) mf (A++(n.aa.take k).flatMap fC) (by rw[aP];omega);have e18:=Ve (n:=n) (k:Int) mf ((A++(n.aa.take k).flatMap fC)++m.reads.flatMap (·.addr)) (by rw[aP,aP];omega);have ht:((A++(n.aa.take k).flatMap fC)++m.reads.flatMap (·.addr))++m.writes.flatMap iW=A++(n.aa.take (k+1)).flatMap fC:=by rw[Pl.dn hx,IO,abd];unfold fC;simp only[bJ]
   have e:∀(a b:io) (p q:Int),a=b->p=q->(acB (p,nt n (a,())):am uo ug)=acB (q,nt n (b,())):=by rintro _ _ _ _ rfl rfl;rfl
   unfold nt
   try dsimp only
   unfold zO;rw[bG (σ:=aj) (i9 aM hx)];exact aA (map_lt aM hx) (an (fb aM hx) (aO e14 (aO e18 (e _ _ _ _ ht (j6 (show(k:Int)+1=((k+1:Nat):Int) by omega) acs)))))
  .rw[fl];exact ao (kV aM n.aa) rfl
 obtain⟨B,hB⟩:∃B,B=A++n.aa.flatMap fC:=⟨_,rfl⟩;have hBl:B.length<=200000000:=by have hb:=eY fC 1300000 n.aa hmem;rw[hB,aP];omega
 have e25:Ie ((0:Int),nt n (B,()))=some (B++n.ai.flatMap ig,()):=by
  unfold Ie;delta dB;refine ez (fun k:Nat=>((k:Int),nt n (B++(n.ai.take k).flatMap ig,()))) n.ai.length (by rw[aaQ,abm,dE];rfl) ?_ ?_ acx
  .intro k hk;have hx:=bF hk;have hb:=eY ig 2 (n.ai.take k) fun r _=>ol 2;rw[ep]at hb;have ht:(B++(n.ai.take k).flatMap ig)++[n.ai[k].a,n.ai[k].b]=B++(n.ai.take (k+1)).flatMap ig:=by rw[Pl.dn hx,IO,<-bJ,abd];rfl
   have e:∀(a b:io) (p q:Int),a=b->p=q->(acB (p,nt n (a,())):am uu uj)=acB (q,nt n (b,())):=by rintro _ _ _ _ rfl rfl;rfl
   have r1:room 8 (List.length ((B++(n.ai.take k).flatMap ig)++[n.ai[k].a,n.ai[k].b]))=true:=mc (by rw[aP,aP,cq,List.length_singleton];omega);unfold nt
   try dsimp only
   unfold zS;rw[bG (σ:=ag) (i9 cF hx)];exact aA (map_lt cF hx) (an (fb cF hx) (an (fb cF hx) (an r1 (e _ _ _ _ ht (j6 (show(k:Int)+1=((k+1:Nat):Int) by omega) acs)))))
  .rw[fl];exact ao (kV cF n.ai) rfl
 rw[hA]at e10;rw[hB,hA]at e25;have r1:room 8 (List.length (n.az.map (·.next)++n.bL))=true:=mc (by simp only[aP,aT];omega);have r2:room 8 (List.length ((n.az.map (·.next)++n.bL)++n.bP))=true:=mc (by simp only[aP,aT];omega);have r3:room 8 (List.length (((n.az.map (·.next)++n.bL)++n.bP)++n.constraints))=true:=mc (by simp only[aP,aT];omega);exact aO e3 (an r1 (an r2 (an r3 (aO e10 (aO e25 rfl)))))
end
def tk(m:ip)(L:io):ip:=L.foldl (fun m v=>m.set v.toNat true) m
theorem Jj:∀(L:io) (m:ip),(tk m L).length=m.length
 |[],_=>rfl|v::L,m=>(Jj L _).trans (abU ..)
theorem Km:∀(L:io) (m:ip) (p:Nat),(tk m L).getD p false=true↔m.getD p false=true\/∃v∈L,v.toNat=p/\p<m.length
 |[],m,p=>by unfold tk;simp|v::L,m,p=>by
  have ih:=Km L (m.set v.toNat true) p;show(tk (m.set v.toNat true) L).getD p false=true↔_
  grind
section
variable{n:ba}{V:Nat}(hv:n.vars=(V:Int))(hV:V<=2000)(K:AW n)
include hv hV K
theorem Sf(hl:(cL n).length<=10000000):IJ (cx n,())=some (dup n.vars [] (cL n),()):=by
 have eD:=SO K;obtain⟨D,hD⟩:∃D,D=cL n:=⟨_,rfl⟩;rw[<-hD]at eD hl |-;obtain⟨m0,hm0⟩:∃m,m=List.replicate (V+1) false:=⟨_,rfl⟩;have hml:∀L,(tk m0 L).length=V+1:=fun L=>by rw[Jj,hm0,List.length_replicate]
 have hat:∀(L:io) (p:Nat),p<=V->((tk m0 L).getD p false=true↔∃v∈L,v.toNat=p):=fun L p hp=>by
  rw[Km,hm0,List.length_replicate];constructor
  .rintro(h|⟨v,h1,h2,_⟩)
   .rw[gC,abO]at h;split at h<;>simp at h
   .exact⟨v,h1,h2⟩
  .rintro⟨v,h1,h2⟩;exact .inr ⟨v,h1,h2,acs⟩
 have hL:=k9 (B:=fun d=>uP d.1 d.2.1 d.2.2.1 d.2.2.2.1 d.2.2.2.2.1 d.2.2.2.2.2.1 d.2.2.2.2.2.2.1 d.2.2.2.2.2.2.2.1 d.2.2.2.2.2.2.2.2.1 d.2.2.2.2.2.2.2.2.2.1 d.2.2.2.2.2.2.2.2.2.2.1)
  (I:=fun d:TL pt.σs=>∃k:Nat,k<=D.length/\d=(D,(k:Int),nt n (tk m0 (D.take k),()))/\dup n.vars [] D=dup n.vars (D.take k) (D.drop k)/\(∀v∈D.take k,1<=v/\v<=(V:Int))/\(D.take k).Nodup)
  (Q:=fun o:Out qS=>(o=.inl (dup n.vars [] D,())/\dup n.vars [] D≠0)\/(o=.inr (nt n (tk m0 D,()))/\dup n.vars [] D=(if(D.length:Int)<n.vars then 7 else 0)/\(∀v∈D,1<=v/\v<=(V:Int))/\D.Nodup))
  (fun d:TL pt.σs=>D.length-Int.toNat d.2.1) ?_ NN (D,(0:Int),nt n (m0,())) ⟨0,acs,rfl,rfl,acv,acv⟩ (cf (by show D.length-Int.toNat (0:Int)<=_;omega))
 .obtain⟨o,e4,q⟩:=hL;have hw:mt (n.vars+1)=((V+1:Nat):Int):=by rw[hv];exact j6 acs acs
  have hb:∀z:Int,z=((V+1:Nat):Int)->both (iE (0:Int) z) (both (iE z z) (iE ((Int.ofNat 1)*z) (281474976710656:Int)))=true:=by rintro _ rfl;have a1:iE (0:Int) ((V+1:Nat):Int)=true:=acA;have a2:iE ((V+1:Nat):Int) ((V+1:Nat):Int)=true:=acA;have a3:iE ((Int.ofNat 1)*((V+1:Nat):Int)) (281474976710656:Int)=true:=au (by show(1:Int)*((V+1:Nat):Int)<=_;omega);rw[a1,a2,a3];rfl
  have e4':∀L:ip,L=m0->RH (D,(0:Int),nt n (L,()))=some o:=by rintro _ rfl;exact e4
  have hrep:List.replicate (Int.toNat (mt (n.vars+(1:Int)))) (Sh.zero .bool)=m0:=by rw[hw,hm0];rfl
  rcases q with⟨rfl,q⟩|⟨rfl,q1,q2,q3⟩
  .exact(cu eD).trans ((df (hb _ hw)).trans ((cu (e4' _ hrep)).trans rfl))
  .have hnot:∀v:Nat,1<=v->v<=V->((tk m0 D).getD v false=true↔(v:Int)∈D):=fun v v1 v2=>by
    rw[hat D v v2];constructor
    .rintro⟨u,h1,h2⟩;have:=q2 u h1;rw[show(v:Int)=u by omega];exact h1
    .exact fun h=>⟨_,h,acv⟩
   have e12:Iw ((1:Int),nt n (tk m0 D,()))=some (if(List.range V).any (fun i=>!(tk m0 D).getD (i+1) false)then .inl ((7:Int),())else .inr ()):=by
    unfold Iw;delta dB;refine oc (fun i:Nat=>(((i+1:Nat):Int),nt n (tk m0 D,()))) (List.range V) (fun i=>!(tk m0 D).getD (i+1) false) (fun i x hx q=>?_) (fun i x hx q=>?_) ?_ rfl (cf (by rw[abv];omega))
    .obtain⟨hi,rfl⟩:=wn.1 hx;rw[abv]at hi;rw[List.getElem_range]at q;have ek:mt (((i+1:Nat):Int)+1)=((i+1+1:Nat):Int):=j6 acs acs;have e:∀p q:Int,p=q->(acB (p,nt n (tk m0 D,())):am uC uw)=acB (q,nt n (tk m0 D,())):=by rintro _ _ rfl;rfl
     unfold nt
     try dsimp only
     unfold qT;exact aA (au (by rw[hv];omega)) (an (bm ⟨acs,by rw[hml];omega⟩) (ao (show Bool.not (gt .bool (tk m0 D) ((i+1:Nat):Int))=false from q) (e _ _ ek)))
    .obtain⟨hi,rfl⟩:=wn.1 hx;rw[abv]at hi;rw[List.getElem_range]at q;unfold nt
     try dsimp only
     unfold qT;exact aA (au (by rw[hv];omega)) (an (bm ⟨acs,by rw[hml];omega⟩) (aA (show Bool.not (gt .bool (tk m0 D) ((i+1:Nat):Int))=true from q) rfl))
    .rw[abv];unfold nt
     try dsimp only
     unfold qT;exact ao (aq (by rw[hv];omega)) rfl
   have hany:(List.range V).any (fun i=>!(tk m0 D).getD (i+1) false)=decide (D.length<V):=by
    rw[Bool.eq_iff_iff,abf,decide_eq_true_iff];constructor
    .rintro⟨i,hi,h⟩;have hi:=List.mem_range.1 hi;rcases rt D.length V with c|c
     .exact c
     .have:=(SM V D q3 q2).2 c (i+1) acs acs;rw[(hnot (i+1) acs acs).2 this]at h;cases h
    .intro c;refine Classical.byContradiction fun h=>?_;have:=Qp V (D.map Int.toNat) fun j a b=>by
      have:(tk m0 D).getD j false=true:=by cases r:(tk m0 D).getD j false with|true=>rfl|false=>exact absurd ⟨j-1,List.mem_range.2 acs,by rw[show j-1+1=j by omega,r];rfl⟩ h
      exact IN.2 ⟨(j:Int),(hnot j a b).1 this,acv⟩
     rw[aT]at this;omega
   rw[hany]at e12;refine(cu eD).trans ((df (hb _ hw)).trans ((cu (e4' _ hrep)).trans ((cu e12).trans ?_)));rw[q1,hv];by_cases c:D.length<V
   .rw[gO c,ut (show(D.length:Int)<(V:Int) by omega)];rfl
   .rw[iK c,qr (show ¬(D.length:Int)<(V:Int) by omega)];rfl
 .rintro d ⟨k,k1,rfl,k2,k3,k4⟩;rcases rt k D.length with hk|hk
  .have hx:=bF hk;obtain⟨v,hvv⟩:∃v,v=D[k]:=⟨_,rfl⟩;rw[<-hvv]at hx;have aR:al (k:Int) D.length=true:=acy;have h0:iL (k:Int) (Int.ofNat D.length)=true:=au (show(k:Int)<(D.length:Int) by omega);have g:gt .I D (k:Int)=v:=bG (σ:=.I) hx;unfold nt
   try dsimp only
   unfold uP;rw[g];by_cases c1:v<1
   .have hd:=LQ (V:=n.vars) hx (.inl c1);rw[<-k2]at hd;exact .inl ⟨_,aA h0 (an aR (aA (au c1) rfl)),.inl ⟨by rw[hd],by rw[hd];decide⟩⟩
   .by_cases c2:n.vars<v
    .have hd:=LQ (V:=n.vars) hx (.inr c2);rw[<-k2]at hd;exact .inl ⟨_,aA h0 (an aR (ao (aq c1) (an aR (aA (show bw false true (iL n.vars v)=true from au c2) rfl)))),.inl ⟨by rw[hd],by rw[hd];decide⟩⟩
    .have f2:bw false true (iL n.vars v)=false:=aq c2;have hin2:al v (List.length (tk m0 (D.take k)))=true:=bm ⟨acs,by rw[hml];omega⟩;have hg:=hat (D.take k) v.toNat acs;cases hs:(tk m0 (D.take k)).getD v.toNat false with
     |true=>obtain⟨u,u1,u2⟩:=hg.1 hs;have:=k3 u u1;have hd:=Ye (V:=n.vars) hx acs acs (by rw[List.contains_iff_mem,show v=u by omega];exact u1);rw[<-k2]at hd;exact .inl ⟨_,aA h0 (an aR (ao (aq c1) (an aR (ao f2 (an aR (an hin2 (aA (show gt .bool (tk m0 (D.take k)) v=true from hs) rfl))))))),.inl ⟨by rw[hd],by rw[hd];decide⟩⟩
     |false=>
      have hnm:v∉D.take k:=fun h=>by rw[hg.2 ⟨v,h,rfl⟩]at hs;cases hs
      have hd:=SQ (V:=n.vars) hx acs acs (by simpa using hnm);refine .inr ⟨(D,((k+1:Nat):Int),nt n (tk m0 (D.take (k+1)),())),?_,⟨k+1,acs,rfl,by rw[k2,hd],?_,?_⟩,by show D.length-Int.toNat ((k+1:Nat):Int)<D.length-Int.toNat (k:Int);omega⟩
      .have e:∀(p q:Int) (L M:ip),p=q->L=M->(acB (D,p,nt n (L,())):am pt qS)=acB (D,q,nt n (M,())):=by rintro _ _ _ _ rfl rfl;rfl
       exact aA h0 (an aR (ao (aq c1) (an aR (ao f2 (an aR (an hin2 (ao (show gt .bool (tk m0 (D.take k)) v=false from hs) (an aR (an hin2 (e _ _ _ _ (j6 (show(k:Int)+1=((k+1:Nat):Int) by omega) acs) (by rw[Pl.dn hx];unfold tk;rw[abX];rfl)))))))))))
      .intro u hu;rw[Pl.dn hx,AC,abS]at hu;rcases hu with hu|rfl
       .exact k3 u hu
       .omega
      .rw[Pl.dn hx,abM];exact⟨k4,acv,fun a ha b hb e=>by rw[abS]at hb;subst hb;subst e;exact hnm ha⟩
  .obtain rfl:k=D.length:=acs
   have hd:=TP (V:=n.vars) (l:=D) (ol _);rw[<-k2]at hd;rw[fl]at k3 k4 |-;exact .inl ⟨.inr (nt n (tk m0 D,())),ao (aq (show ¬(D.length:Int)<(D.length:Int) by omega)) rfl,.inr ⟨rfl,hd,k3,k4⟩⟩
end
theorem Jn{V:Int}(h:0<=l):(2*V+1<l)=(V<l / 2):=by grind
theorem Ji{n:ba}(ft:Fit n):PT (cx n,())=some (eh n,()):=by
 have el:=Su ft;have hmn:=ft.aa.1;have hln:=ft.aw.1;show Aw Ir IJ Ax IY Aq Ar Ah (cx n)=_;unfold Aw;have key:∀z:Int,z=eh n->(some (z,()):Option (TL uY))=some (eh n,()):=by rintro _ rfl;rfl
 refine(cu el).trans ?_;cases c1:gD n with
 |true=>exact key 10 (by unfold eh;rw[c1];rfl)|false=>
  have hlim:(0<=n.vars/\n.vars<=2000):=by unfold gD at c1;rw[abH]at c1;have:=abc c1.1;omega
  obtain⟨V,hv⟩:=AI hlim.1;have hv:n.vars=(V:Int):=hv;have e4:Aq ((0:Int),nt n ())=some (if n.aa.any fS then .inl ((9:Int),())else .inr (nt n ())):=by
   unfold Aq;delta u9;refine oc (fun i:Nat=>((i:Int),nt n ())) n.aa fS (fun i x hx q=>?_) (fun i x hx q=>?_) ?_ rfl acx
   .have hl:=(wn.1 hx).1;have ew:=Jq (ft.aa.2 x (d8 hx));rw[q]at ew;have e:∀p q:Int,p=q->(acB (p,nt n ()):am uN uK)=acB (q,nt n ()):=by rintro _ _ rfl;rfl
    unfold nt
    try dsimp only
    unfold uW;rw[bG (σ:=aj) (i9 aM hx)];exact aA (map_lt aM hx) (an (fb aM hx) (aO ew (ao rfl (e _ _ (cD (x:=(i:Int)+1) acs)))))
   .have ew:=Jq (ft.aa.2 x (d8 hx));rw[q]at ew;unfold nt
    try dsimp only
    unfold uW;rw[bG (σ:=aj) (i9 aM hx)];exact aA (map_lt aM hx) (an (fb aM hx) (aO ew (aA rfl rfl)))
   .exact ao (kV aM n.aa) rfl
  refine(cV rfl).trans ((cu e4).trans ?_);cases c2:n.aa.any fS with
  |true=>exact key 9 (by unfold eh;rw[c1,c2];rfl)|false=>
   have e9:Ar ((0:Int),nt n ())=some (if n.az.any jb then .inl ((1:Int),())else .inr (nt n ())):=by
    unfold Ar;delta u9;refine oc (fun i:Nat=>((i:Int),nt n ())) n.az jb (fun i x hx q=>?_) (fun i x hx q=>?_) ?_ rfl acx
    .have hl:=(wn.1 hx).1;have e:∀p q:Int,p=q->(acB (p,nt n ()):am uO uL)=acB (q,nt n ()):=by rintro _ _ rfl;rfl
     have q:=abc q;unfold nt
     try dsimp only
     unfold uX;rw[bG (σ:=ag) (i9 cG hx)];exact aA (map_lt cG hx) (an (fb cG hx) (ao (show iL x.init (0:Int)=false from acz) (an (fb cG hx) (ao (show bw false true (iL (2:Int) x.init)=false from acz) (e _ _ (cD (x:=(i:Int)+1) acs))))))
    .have q:=WF q;unfold nt
     try dsimp only
     unfold uX;rw[bG (σ:=ag) (i9 cG hx)];by_cases c:x.init<0
     .exact aA (map_lt cG hx) (an (fb cG hx) (aA (show iL x.init (0:Int)=true from au c) rfl))
     .exact aA (map_lt cG hx) (an (fb cG hx) (ao (show iL x.init (0:Int)=false from aq c) (an (fb cG hx) (aA (show bw false true (iL (2:Int) x.init)=true from acA) rfl))))
    .exact ao (kV cG n.az) rfl
   refine(cu e9).trans ?_;cases c3:n.az.any jb with
   |true=>exact key 1 (by unfold eh;rw[c1,c2,c3];rfl)|false=>
    have hwd:∀m∈n.aa,1<=m.word/\m.word<=64:=fun m hm=>by have:=acl.1 c2 m hm;unfold fS at this;simp only[Bool.or_eq_true,FS,not_or]at this;omega
    have K:AW n:=⟨ft.ins.1,ft.aw.1,ft.ai.1,ft.aa.1,fun m hm=>⟨hwd m hm,(ft.aa.2 m hm).kR,fun r hr=>⟨((ft.aa.2 m hm).gG r hr).2.1,((ft.aa.2 m hm).gG r hr).2.2.1⟩⟩⟩;have hDl:(cL n).length<=10000000:=by
     have hb:=eY fv 6400 n.aa fun m hm=>by
      obtain⟨⟨m3,m4⟩,m7,m5⟩:=K.mem m hm;have h2:=eY (fun r:fQ=>cA r.var m.word.toNat) 64 m.reads fun r _=>by unfold cA;rw[aT,abv];omega
      unfold fv;omega
     have:=K.ins;have:=K.ai;unfold cL;simp only[aP,aT];omega
    have ed:=Sf hv acs K hDl;have hsF:eh n=if dup n.vars [] (cL n)≠0 then dup n.vars [] (cL n)else if(dJ n).any (j8 n.vars)then 5 else 0:=by unfold eh;rw[c1,c2,c3];rfl
    refine(cu ed).trans ?_;by_cases c4:dup n.vars [] (cL n)=0
    .rw[qr (fun h=>h c4)]at hsF;have eL:=Uc ft;have hll:(dJ n).length<=1000000000:=by
      have hmem:=eY fC 1300000 n.aa fun m h=>by
       have mf:=ft.aa.2 m h;have a:=eY (fun r:fQ=>r.addr) 4000 m.reads fun r h=>(mf.gG r h).1;have b:=eY iW 8001 m.writes fun r h=>by have:=mf.kU r h;unfold iW;rw[cq,aP];omega
       have:=mf.kR;have:=mf.n8;unfold fC;rw[aP];omega
      have ha:=eY ig 2 n.ai fun r _=>ol 2;have:=ft.out.1;have:=ft.bad.1;have:=ft.kO.1;have:=ft.ai.1;unfold dJ;simp only[aP,aT]at ha |-;omega
     obtain⟨L,hL⟩:∃L,L=dJ n:=⟨_,rfl⟩;rw[<-hL]at eL hll hsF;have e18:Ah (L,(0:Int),nt n ())=some (if L.any (j8 n.vars)then .inl ((5:Int),())else .inr ()):=by
      have hw:mt ((mt ((2:Int)*n.vars))+(1:Int))=2*n.vars+1:=by rw[cD (x:=2*n.vars) acs];exact cD acs
      unfold Ah;delta dB;refine oc (fun i:Nat=>(L,(i:Int),nt n ())) L (j8 n.vars) (fun i x hx q=>?_) (fun i x hx q=>?_) ?_ rfl acx
      .have hl:=(wn.1 hx).1;have q:=abc q;have e:∀p q:Int,p=q->(acB (L,p,nt n ()):am uJ uF)=acB (L,q,nt n ()):=by rintro _ _ rfl;rfl
       have aR:al (i:Int) L.length=true:=acy;unfold nt
       try dsimp only
       unfold uS;rw[bG (σ:=.I) hx,hw];exact aA (au (show(i:Int)<(L.length:Int) by omega)) (an aR (ao acz (an aR (ao (show bw false true (iL (2*n.vars+1) x)=false from aq (by rw[Jn acs];omega)) (e _ _ (cD (x:=(i:Int)+1) acs))))))
      .have hl:=(wn.1 hx).1;have q:=WF q;have aR:al (i:Int) L.length=true:=acy;unfold nt
       try dsimp only
       unfold uS;rw[bG (σ:=.I) hx,hw];by_cases c:x<0
       .exact aA (au (show(i:Int)<(L.length:Int) by omega)) (an aR (aA (au c) rfl))
       .exact aA (au (show(i:Int)<(L.length:Int) by omega)) (an aR (ao (aq c) (an aR (aA (show bw false true (iL (2*n.vars+1) x)=true from au (by rw[Jn acs];omega)) rfl))))
      .exact ao (aq (show ¬(L.length:Int)<(L.length:Int) by omega)) rfl
     refine(cV (show Bool.not (iQ (dup n.vars [] (cL n)) (0:Int))=false by rw[c4];rfl)).trans ((cu eL).trans ((cu e18).trans ?_));cases c5:L.any (j8 n.vars)with|true=>exact key 5 (by rw[hsF,c5];rfl)|false=>exact key 0 (by rw[hsF,c5];rfl)
    .exact(dY (rj (aq c4))).trans (key _ (by rw[hsF,ut c4]))
def A6(n:ba)(k:Nat):List (bt×bn):=(iZ k).zip ((n.ai.take k).map lg)
def M6(n:ba)(k:Nat):List (bt×bn):=(gr 0 (n.aa.take k)).zip ((n.aa.take k).flatMap ik)
def R6(j:Nat)(M:cP)(r:Nat):List (bt×bn):=(ko j r).zip ((M.reads.take r).map (kZ M.word))
def n6(n:ba):List (bt×bn):=A6 n n.ai.length++M6 n n.aa.length
variable{k:Nat}
theorem TG{n:ba}{a:fe}(h:n.ai[k]?=some a):A6 n (k+1)=A6 n k++[(⟨false,0,k⟩,lg a)]:=by unfold A6;rw[KG,dn h,dN,List.zip_append (by rw[qo,aT,ep];have:=iu h;omega)];rfl
theorem K8{n:ba}(h:k<=n.ai.length):(A6 n k).length=k:=by unfold A6;rw[List.length_zip,qo,aT,ep];omega
variable{M:cP}
theorem TI{r:fQ}(h:M.reads[k]?=some r):R6 j M (k+1)=R6 j M k++[(⟨true,j,k⟩,kZ M.word r)]:=by unfold R6;rw[Lm,dn h,dN,List.zip_append (by rw[G0,aT,ep];have:=iu h;omega)];rfl
theorem Yk(h:k<=M.reads.length):(R6 j M k).length=k:=by unfold R6;rw[List.length_zip,G0,aT,ep];omega
theorem TH{n:ba}(h:n.aa[k]?=some M):M6 n (k+1)=M6 n k++R6 k M M.reads.length:=by unfold M6 R6;rw[dn h,G5,IO,List.zip_append (by rw[qk])];have:=iu h;rw[ep,acj acs,acg,fl];simp only[GT,abm,dE];rfl
theorem Vi(n:ba)(hA:n.ai.length<=2000):P3 ((0:Int),nt n ([],()))=some (nt n ((A6 n n.ai.length).map ct,())):=by
 unfold P3;delta dB;refine ez (fun k:Nat=>((k:Int),nt n ((A6 n k).map ct,()))) n.ai.length rfl ?_ ?_ acx
 .intro k hk;have ha:=bF hk;have ha':(n.ai.map cF)[k]?=some (cF n.ai[k]):=by grind
  unfold nt
  try dsimp only
  unfold yG;refine aA (au (show(k:Int)<(((n.ai.map cF).length:Nat):Int) by rw[aT];omega)) (an (bm ⟨acs,by grind⟩) ?_);rw[bG ha'];refine an (qx (L:=(A6 n k).map ct) (by rw[aT,K8 acs];omega) acw) ?_;rw[cD (x:=(k:Int)+1) acs,TG ha,List.map_append (l₁:=A6 n k)];rfl
 .unfold nt
  try dsimp only
  unfold yG;refine ao (aq (show ¬(n.ai.length:Int)<(((n.ai.map cF).length:Nat):Int) by rw[aT];omega)) rfl
theorem Ul{n:ba}(hM:n.aa[j]?=some M)(hw:0<=M.word/\M.word<=4000)(hR:M.reads.length<=4)(hrv:∀r∈M.reads,-1099511627776<=r.var/\r.var<=1099511627776)(hj:j<=4)(pre:List (bt×bn))(hp:pre.length<=3000) :
  Fy ((j:Int),(0:Int),nt n (pre.map ct,()))=some ((j:Int),nt n ((pre++R6 j M M.reads.length).map ct,())):=by
 have hM':(n.aa.map aM)[j]?=some (aM M):=by grind
 have hjl:=iu hM';unfold Fy;delta kT;refine ez (fun k:Nat=>((j:Int),(k:Int),nt n ((pre++R6 j M k).map ct,()))) M.reads.length (by rw[show R6 j M 0=[]from rfl,dE];rfl) ?_ ?_ acx
 .intro k hk;have hr:=bF hk;have hr':(M.reads.map cp)[k]?=some (cp M.reads[k]):=by rw[dx,hr];rfl
  have e1:=Jk M k _ hr hw (hrv _ (AT hk));unfold nt
  try dsimp only
  unfold yB;rw[df acy,bG hM',show(aM M).2.2.2.1=M.reads.map cp from rfl];refine aA (au (show(k:Int)<(((M.reads.map cp).length:Nat):Int) by rw[aT];omega)) (an acy (an (bm ⟨acs,by rw[aT];omega⟩) (an acy ?_)));rw[bG hr'];refine(cu e1).trans (an (qx (L:=(pre++R6 j M k).map ct) (by rw[aT,aP,Yk acs];omega) acw) ?_);rw[cD (x:=(k:Int)+1) acs,TI hr,<-bJ,List.map_append (l₁:=pre++R6 j M k)];rfl
 .unfold nt
  try dsimp only
  unfold yB;rw[df acy,bG hM',show(aM M).2.2.2.1=M.reads.map cp from rfl];exact ao (aq (show ¬(M.reads.length:Int)<(((M.reads.map cp).length:Nat):Int) by rw[aT];omega)) rfl
theorem Yl(n:ba)(k:Nat):(M6 n k).length=((n.aa.take k).flatMap ik).length:=by unfold M6;rw[List.length_zip,qk];omega
theorem pT(n:ba):(n6 n).map (fun x:bt×bn=>x.2)=ei n:=by
 unfold n6 A6 M6 ei;rw[dN,fl,fl];congr 1
 .exact List.map_snd_zip (by rw[qo,aT];omega)
 .exact List.map_snd_zip (by rw[qk];omega)
theorem pI(n:ba):(n6 n).map (fun x:bt×bn=>x.2.nd)=aZ n:=by unfold aZ;rw[<-pT,abN];rfl
theorem Bk{n:ba}{V:Nat}(hs:cZ n V):N6 (n6 n) V:=by
 have hm:∀x∈n6 n,x.2∈ei n:=fun x hx=>by rw[<-pT];exact UV hx
 refine⟨hs.v2,?_,fun x hx=>⟨?_,fun v hv=>?_⟩,fun x hx=>⟨?_,fun l hl=>?_⟩⟩
 .have h:=tN hs;rw[<-pI,aT]at h;exact h
 .have:=(zj hs (hm x hx)).1;omega
 .have:=hs.m9 (hm x hx) hv;omega
 .have:=(zj hs (hm x hx)).2;omega
 .have:=hs.Cm (hm x hx) hl;omega
theorem aat{n:ba}{V:Nat}(hs:cZ n V)(ft:Fit n):PU (cx n,())=some ((n6 n).map ct,()):=by
 have hA:=hs.lens.2.2.1;have hMl:=hs.lens.2.2.2.2;have e3:=Vi n hA;have hlen:∀k,k<=n.aa.length->(A6 n n.ai.length++M6 n k).length<=3000:=by
  intro k hk;rw[aP,K8 (ol _),Yl];have:=Bt ik (n.aa.take k) 4 (fun M hM=>by unfold ik;rw[aT];exact(hs.aa M (aaS hM)).2.2.2.2.2.2.1)
  grind
 have e8:P0 ((0:Int),nt n ((A6 n n.ai.length).map ct,()))=some ((n6 n).map ct,()):=by
  unfold P0;delta dB;refine ez (fun k:Nat=>((k:Int),nt n ((A6 n n.ai.length++M6 n k).map ct,()))) n.aa.length (by rw[show M6 n 0=[]from rfl,dE];rfl) ?_ ?_ acx
  .intro k hk;have hM:=bF hk;have hm:=hs.aa _ (AT hk);have hfit:=ft.aa.2 _ (AT hk);have e11:=Ul hM ⟨acs,acs⟩ hm.2.2.2.2.2.2.1 (fun r hr=>⟨(hfit.gG r hr).2.1,(hfit.gG r hr).2.2.1⟩) acs (A6 n n.ai.length++M6 n k) (hlen k acs);unfold nt
   try dsimp only
   unfold yF;refine aA (au (show(k:Int)<(((n.aa.map aM).length:Nat):Int) by rw[aT];omega)) ((cu e11).trans ?_);have e:∀(p q:Int) (s s':List cO.T),p=q->s=s'->(acB (p,nt n (s,())):am yq ym)=acB (q,nt n (s',())):=by rintro _ _ _ _ rfl rfl;rfl
   exact e _ _ _ _ (cD (x:=(k:Int)+1) acs) (by rw[TH hM,bJ]<;>rfl)
  .unfold nt
   try dsimp only
   unfold yF;exact ao (aq (show ¬(n.aa.length:Int)<(((n.aa.map aM).length:Nat):Int) by rw[aT];omega)) rfl
 exact aO e3 (aO e8 rfl)
theorem Ym{n:ba}{V:Nat}(hs:cZ n V)(ft:Fit n)(h0:eh n=0) :
  Zfg (cx n,())=some (if fF (aZ n) V then(iw (aZ n) ((n6 n).length+1) (i3 (aZ n) V),true,())else([],false,())):=by
 have hV2:=hs.v2;have h6:=Bk hs;have es:=Ji ft;have eN:=aat hs ft;have hw:mt (n.vars+1)=((V+1:Nat):Int):=by rw[hs.vars,cD acs];omega
 have e6:=VR h6 (List.replicate (V+1) 0) acv;rw[pI]at e6;have hout:cg (List.replicate (V+1) 0) ((aZ n).flatMap (·.to)) (-1)=i3 (aZ n) V:=rfl;rw[hout]at e6;have hol:(i3 (aZ n) V).length=V+1:=by unfold i3;rw[jK];simp
 have hob:∀u,aw (i3 (aZ n) V) u<=0:=by
  unfold i3;refine Hl acs _ (fun u=>?_);unfold aw
  grind
 have e14:=U7 h6 (i3 (aZ n) V) hol hob;rw[pI]at e14;have hNl:(n6 n).length=(aZ n).length:=by rw[<-pI,aT]
 have ht:=WM hs.apart hs.aR hs.jn;rw[<-hNl]at ht;have hle:=HQ (aZ n) (iw (aZ n) (n6 n).length (i3 (aZ n) V));show FZ Fk PU PT FJ yv FH yr yh (cx n)=_;unfold FZ;refine(cu es).trans (ao (by rw[h0];rfl) ?_);have hw':mt (lw (cx n).1 (1:Int))=((V+1:Nat):Int):=hw;rw[hw'];refine an (by show both (decide _) (both (decide _) (decide _))=true;rw[gO acs,gO acs,gO (by show(8:Int)*_<=_;omega)];rfl) ((cu eN).trans ((cu e6).trans ((cu e14).trans ?_)));by_cases ha:fF (aZ n) V=true
 .have hz:=ht.2 ha;rw[ut ha];refine ao acz rfl
 .have hz:gp (aZ n) (iw (aZ n) (n6 n).length (i3 (aZ n) V))≠0:=fun h=>ha (ht.1 h);rw[qr ha];refine aA acA rfl
theorem Zxe{n:ba}(ft:Fit n):Zb7 (cx n,())=some (iA n,()):=by
 have es:=Ji ft;by_cases h0:eh n=0
 .obtain⟨V,hs⟩:=Cd h0;have hV:n.vars.toNat=V:=by rw[hs.vars];rfl
  have eL:=Ym hs ft h0;unfold iA;rw[h0,hV,qr acv];by_cases ha:fF (aZ n) V=true
  .rw[ut ha]at eL;rw[ut ha];exact aO es (ao (by rw[h0];rfl) (aO eL (ao rfl rfl)))
  .rw[qr ha]at eL;rw[qr ha];exact aO es (ao (by rw[h0];rfl) (aO eL (aA rfl rfl)))
 .unfold iA;rw[ut h0];exact aO es (aA (by simp[h0]) rfl)
