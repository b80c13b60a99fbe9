import Derived.Test.YtkcpdpplobhpaaaGreatWNd
set_option linter.unusedVariables false
set_option linter.unusedSimpArgs false
set_option linter.unnecessarySimpa false
section
namespace Go.Proofs.YtkcpdpplobhpaaaGreat.Pl
structure bE where
 rd:Bool
 mem:Nat
 pos:Nat
structure bq where
 to:List Int
 aQ:List Int
def ij(a:fw):bq:=⟨[a.var],[a.a,a.b]⟩
def oI(word:Int)(r:jb):bq:=⟨bU r.var word.toNat,r.addr⟩
def km(m:aV):List bq:=m.reads.map (oI m.word)
def fm(n:aB):List bq:=n.aC.map ij++n.aa.flatMap km
def jm(k:Nat)(m:aV):List bE:=(List.range m.reads.length).map fun i=>⟨true,k,i⟩
def jE(k:Nat):List aV->List bE
 |[]=>[]|m::l=>jm k m++jE (k+1) l
def fc(n:aB):List bE:=(List.range n.aC.length).map (fun i=>⟨false,0,i⟩)++jE 0 n.aa
def bE.is(n:aB)(x:bE)(i:bq):Prop:=(x.rd=false/\∃a,n.aC[x.pos]?=some a/\i=ij a)\/(x.rd=true/\∃m r,n.aa[x.mem]?=some m/\m.reads[x.pos]?=some r/\i=oI m.word r)
theorem afD(n:List aV):∀(l:List aV) (k:Nat),(∀j,l[j]?=n[k+j]?)->∀(i:Nat) (x:bE),(jE k l)[i]?=some x->∃(m:aV) (r:jb),n[x.mem]?=some m/\m.reads[x.pos]?=some r/\(l.flatMap km)[i]?=some (oI m.word r)/\x.rd=true:=by
 intro l
 induction l with
 |nil=>intro k _ i x h;simp[jE]at h|cons m l ih=>
  intro k hk i x h;rw[jE]at h;rw[List.flatMap_cons];have hl1:(jm k m).length=m.reads.length:=by simp[jm]
  have hl2:(km m).length=m.reads.length:=by simp[km]
  by_cases hi:i<m.reads.length
  .rw[List.getElem?_append_left (by omega)]at h;rw[List.getElem?_append_left (by omega)];unfold jm at h;rw[bT,List.getElem?_range hi]at h;injection h with h;subst h;have:=hk 0;rw[Nat.add_zero]at this;refine⟨m,m.reads[i],by rw[<-this];rfl,aN hi,?_,rfl⟩;unfold km;rw[bT,aN hi];rfl
  .rw[List.getElem?_append_right (by omega)]at h;rw[List.getElem?_append_right (by omega)];rw[hl1]at h;rw[hl2];exact ih (k+1) (fun j=>by have:=hk (j+1);rw[show k+1+j=k+(j+1) by omega,<-this];rfl) _ x h
theorem tX:∀(l:List aV) (k:Nat),(jE k l).length=(l.flatMap km).length:=by
 intro l
 induction l with|nil=>intro k;rfl|cons m l ih=>intro k;rw[jE,List.flatMap_cons,aU,aU,ih];simp[jm,km]
theorem Zuw(n:aB):(fc n).length=(fm n).length:=by unfold fc fm;simp only[aU,tX];simp
theorem Kc(n:aB){i:Nat}{x:bE}(h:(fc n)[i]?=some x):∃y,(fm n)[i]?=some y/\x.is n y:=by
 unfold fc at h;unfold fm;have hl1:((List.range n.aC.length).map (fun i=>(⟨false,0,i⟩:bE))).length=n.aC.length:=by simp
 have hl2:(n.aC.map ij).length=n.aC.length:=by simp
 by_cases hi:i<n.aC.length
 .rw[List.getElem?_append_left (by omega)]at h;rw[List.getElem?_append_left (by omega)];rw[bT,List.getElem?_range hi]at h;injection h with h;subst h;rw[bT,aN hi];exact⟨_,rfl,.inl ⟨rfl,_,aN hi,rfl⟩⟩
 .rw[List.getElem?_append_right (by omega)]at h;rw[List.getElem?_append_right (by omega)];rw[hl1]at h;rw[hl2];obtain⟨m,r,h1,h2,h3,h4⟩:=afD n.aa n.aa 0 (fun j=>by simp) _ x h;exact⟨_,h3,.inr ⟨h4,m,r,h1,h2,rfl⟩⟩
def bq.nd(x:bq):Nd:=⟨x.aQ.map fun l=>(l / 2).toNat,x.to.map Int.toNat⟩
def aR(n:aB):List Nd:=(fm n).map bq.nd
theorem ajM{V:Int}:∀(l pre:List Int),pre.Nodup->(∀x∈pre,1<=x/\x<=V)->dup V pre l=0->(pre++l).Nodup/\∀x∈pre++l,1<=x/\x<=V:=by
 intro l
 induction l with
 |nil=>intro pre h1 h2 _;simpa using⟨h1,h2⟩|cons v l ih=>
  intro pre h1 h2 h;rw[dup]at h;by_cases ha:v<1\/V<v
  .rw[if_pos ha]at h;omega
  .rw[if_neg ha]at h;by_cases hc:pre.contains v=true
   .rw[if_pos hc]at h;omega
   .rw[if_neg hc]at h;have hn:v∉pre:=by simpa using hc
    have:=ih (pre++[v]) (by
     rw[List.nodup_append];exact⟨h1,by simp,fun a ha' b hb=>by simp at hb;subst hb;rintro rfl;exact hn ha'⟩) (fun x hx=>by
     rcases List.mem_append.1 hx with hx|hx
     .exact h2 x hx
     .simp at hx;subst hx;omega) h
    simpa using this
structure cr(n:aB)(V:Nat):Prop where
 vars:n.vars=(V:Int)
 v2:V<=2000
 nodup:(bX n).Nodup
 jB:∀x∈bX n,1<=x/\x<=(V:Int)
 lits:∀l∈cD n,0<=l/\l / 2<=(V:Int)
 aa:∀m∈n.aa,1<=m.addr/\m.addr<=62/\1<=m.word/\m.word<=64/\(∀r∈m.reads,(r.addr.length:Int)=m.addr)/\(∀x∈m.writes,(x.addr.length:Int)=m.addr/\(x.data.length:Int)=m.word)/\m.reads.length<=4/\m.writes.length<=4
 init:∀l∈n.aj,0<=l.init/\l.init<=2
 lens:n.aL.length<=2000/\n.aj.length<=2000/\n.aC.length<=2000/\n.bz.length+n.bc.length+n.constraints.length<=1000/\n.aa.length<=4
theorem any_false{α:Type}{p:α->Bool}{l:List α}(h:¬l.any p=true):∀x∈l,p x=false:=by
 intro x hx;cases hp:p x
 .rfl
 .exact absurd (List.any_eq_true.2 ⟨x,hx,hp⟩) h
theorem qK{n:aB}(h:dv n=0):∃V,cr n V:=by
 unfold dv at h;by_cases h1:jP n=true
 .rw[if_pos h1]at h;omega
 rw[if_neg h1]at h;by_cases h2:n.aa.any ga=true
 .rw[if_pos h2]at h;omega
 rw[if_neg h2]at h;by_cases h3:n.aj.any iO=true
 .rw[if_pos h3]at h;omega
 rw[if_neg h3]at h;by_cases h4:dup n.vars [] (bX n)≠0
 .rw[if_pos h4]at h;exact absurd h h4
 rw[if_neg h4]at h;by_cases h5:(cD n).any (kO n.vars)=true
 .rw[if_pos h5]at h;omega
 unfold jP at h1;rw[Bool.or_eq_true,not_or]at h1;obtain⟨h1a,h1b⟩:=h1;have h1a':¬(n.vars<0\/2000<n.vars\/2000<n.aL.length\/2000<n.aj.length\/2000<n.aC.length\/1000<n.bz.length+n.bc.length+n.constraints.length\/4<n.aa.length):=by simpa using h1a
 obtain⟨V,hV⟩:=ie (show 0<=n.vars by omega);obtain⟨d1,d2⟩:=ajM (V:=n.vars) (bX n) [] (by simp) (by simp) (by omega);simp only[List.nil_append]at d1 d2;refine⟨V,hV,by omega,d1,fun x hx=>hV▸d2 x hx,fun l hl=>?_,fun m hm=>?_,fun l hl=>?_,⟨by omega,by omega,by omega,by omega,by omega⟩⟩
 .have:=any_false h5 l hl;unfold kO at this;have:¬(l<0\/n.vars<l / 2):=by simpa using this
  omega
 .have hw:=any_false h2 m hm;have hp:=any_false h1b m hm;unfold iI at hp;have hp:¬(4<m.reads.length\/4<m.writes.length):=by simpa using hp
  unfold ga at hw;rw[Bool.or_eq_false_iff,Bool.or_eq_false_iff]at hw;obtain⟨⟨w1,w2⟩,w3⟩:=hw;have w1:¬(m.addr<1\/62<m.addr\/m.word<1\/64<m.word):=by simpa using w1
  refine⟨by omega,by omega,by omega,by omega,fun r hr=>?_,fun x hx=>?_,by omega,by omega⟩
  .have:=any_false (p:=lG m) (by rw[w2];simp) r hr;unfold lG at this;simpa using this
  .have:=any_false (p:=kH m) (by rw[w3];simp) x hx;unfold kH at this;rw[Bool.or_eq_false_iff]at this;exact⟨by simpa using this.1,by simpa using this.2⟩
 .have:=any_false h3 l hl;unfold iO at this;have:¬(l.init<0\/2<l.init):=by simpa using this
  omega
theorem Bg(n:aB):(fm n).flatMap bq.to=n.aC.map (·.var)++n.aa.flatMap iJ:=by
 unfold fm;rw[List.flatMap_append];congr 1
 .induction n.aC with|nil=>rfl|cons a l ih=>rw[List.map_cons,List.flatMap_cons,ih];rfl
 .rw[List.flatMap_assoc];congr 1;funext m;unfold km iJ;rw[List.flatMap_map];rfl
theorem aiO{α:Type}{f:α->List Int}:∀{l:List α},(l.flatMap f).Nodup->∀{i j:Nat}{x y:α}{v:Int},l[i]?=some x->l[j]?=some y->v∈f x->v∈f y->i=j:=by
 intro l
 induction l with
 |nil=>intro _ i j x y v h;simp at h|cons a l ih=>
  intro hn i j x y v hi hj hx hy;rw[List.flatMap_cons,List.nodup_append]at hn;obtain⟨h1,h2,h3⟩:=hn;cases i with
  |zero=>cases j with|zero=>rfl|succ j=>simp at hi hj;subst hi;exact absurd rfl (h3 v hx v (List.mem_flatMap.2 ⟨y,dc hj,hy⟩))
  |succ i=>cases j with|zero=>simp at hi hj;subst hj;exact absurd rfl (h3 v hy v (List.mem_flatMap.2 ⟨x,dc hi,hx⟩))|succ j=>simp at hi hj;rw[ih h2 hi hj hx hy]
section
variable{n:aB}{V:Nat}
theorem cr.ag9(s:cr n V):((fm n).flatMap bq.to).Nodup:=by rw[Bg];have:=s.nodup;unfold bX at this;rw[cz,List.nodup_append]at this;have:=this.2.1;rw[List.nodup_append]at this |-;exact⟨this.2.1,this.1,fun a ha b hb e=>this.2.2 b hb a ha e.symm⟩
theorem cr.lF(s:cr n V){x:bq}(hx:x∈fm n){v:Int}(hv:v∈x.to):1<=v/\v<=(V:Int):=by have:v∈(fm n).flatMap bq.to:=List.mem_flatMap.2 ⟨x,hx,hv⟩;rw[Bg]at this;refine s.jB v ?_;unfold bX;rcases List.mem_append.1 this with h|h<;>simp[h]
theorem cr.Br(s:cr n V){x:bq}(hx:x∈fm n){l:Int}(hl:l∈x.aQ):0<=l/\l / 2<=(V:Int):=by
 refine s.lits l ?_;unfold fm at hx;unfold cD;rcases List.mem_append.1 hx with hx|hx
 .obtain⟨a,ha,rfl⟩:=List.mem_map.1 hx;have:l∈n.aC.flatMap kj:=List.mem_flatMap.2 ⟨a,ha,hl⟩;simp[this]
 .obtain⟨m,hm,hx⟩:=List.mem_flatMap.1 hx;obtain⟨r,hr,rfl⟩:=List.mem_map.1 hx;have:l∈n.aa.flatMap kP:=List.mem_flatMap.2 ⟨m,hm,by unfold kP;exact List.mem_append.2 (.inl (List.mem_flatMap.2 ⟨r,hr,hl⟩))⟩;simp[this]
theorem cr.DM(s:cr n V){x:bq}(hx:x∈fm n):x.to≠[]:=by
 unfold fm at hx;rcases List.mem_append.1 hx with hx|hx
 .obtain⟨a,ha,rfl⟩:=List.mem_map.1 hx;simp[ij]
 .obtain⟨m,hm,hx⟩:=List.mem_flatMap.1 hx;obtain⟨r,hr,rfl⟩:=List.mem_map.1 hx;have:=(s.aa m hm).2.2.1;unfold oI bU;simp;omega
theorem Ki{i:Nat}:(aR n)[i]?=((fm n)[i]?).map bq.nd:=by unfold aR;rw[bT]
theorem vW{x:Nd}(h:x∈aR n):∃y∈fm n,x=y.nd:=by unfold aR at h;obtain⟨y,h1,h2⟩:=List.mem_map.1 h;exact⟨y,h1,h2.symm⟩
theorem cr.apart(s:cr n V):fP (aR n):=by
 intro i j x y v hi hj hx hy;rw[Ki]at hi hj;obtain⟨x',hi',rfl⟩:=Option.map_eq_some_iff.1 hi;obtain⟨y',hj',rfl⟩:=Option.map_eq_some_iff.1 hj;obtain⟨a,ha,e1⟩:=List.mem_map.1 hx;obtain⟨b,hb,e2⟩:=List.mem_map.1 hy;have r1:=s.lF (dc hi') ha;have r2:=s.lF (dc hj') hb;have:a=b:=by omega
 subst this;exact aiO s.ag9 hi' hj' ha hb
theorem cr.aY(s:cr n V):∀x∈aR n,∀u∈x.aQ,u<=V:=by intro x hx u hu;obtain⟨y,hy,rfl⟩:=vW hx;obtain⟨l,hl,rfl⟩:=List.mem_map.1 hu;have:=s.Br hy hl;omega
theorem cr.gr(s:cr n V):∀x∈aR n,x.to≠[]/\∀v∈x.to,v<=V:=by intro x hx;obtain⟨y,hy,rfl⟩:=vW hx;refine⟨by have:=s.DM hy;unfold bq.nd;simpa using this,fun v hv=>?_⟩;obtain⟨l,hl,rfl⟩:=List.mem_map.1 hv;have:=s.lF hy hl;omega
end
def dF(n:aB):Int:=if dv n≠0 then dv n else if eO (aR n) n.vars.toNat then 0 else 8
def zc(p:Nat->Bool):Nat->Nat
 |0=>0|k+1=>(if p k then 1 else 0)+zc p k
theorem VV{p q:Nat->Bool}:∀k,(∀v,v<k->p v=true->q v=true)->zc p k<=zc q k:=by
 intro k
 induction k with
 |zero=>intro _;exact aS _|succ k ih=>
  intro h;have h1:=ih fun v hv=>h v (by omega);have h2:=h k (by omega);simp only[zc];cases hp:p k
  .simp;omega
  .rw[h2 hp];simp;omega
theorem aiK{p q:Nat->Bool}{v:Nat}:∀k,v<k->q v=true->p v=false->(∀v,v<k->p v=true->q v=true)->zc p k<zc q k:=by
 intro k
 induction k with
 |zero=>intro h;omega|succ k ih=>
  intro hv hq hp h;simp only[zc];by_cases e:v=k
  .subst e;have h1:=VV (p:=p) (q:=q) v fun v hv=>h v (by omega);rw[hq,hp];simp;omega
  .have h1:=ih (by omega) hq hp fun v hv=>h v (by omega);have h2:=h k (by omega);cases hp:p k
   .simp;omega
   .rw[h2 hp];simp;omega
def fresh(V:Nat)(m:List Int):Nat:=zc (fun v=>aE m v == 0) (V+1)
section
variable{N:List Nd}{V:Nat}{m lv m' lv' m'' lv'':List Int}
structure VI(N:List Nd)(V:Nat)(m lv:List Int):Prop where
 ml:m.length=V+1
 ll:lv.length=V+1
 kd:∀v,v<=V->aE m v=0\/aE m v=1\/aE m v=2
 tC:∀x∈N,∀u∈x.to,∀v∈x.to,aE m u=aE m v
 free:∀v,v<=V->(∀x∈N,v∉x.to)->aE m v=0/\aE lv v=0
 done:∀v,v<=V->aE m v=2->∃k:Nat,aE lv v=(k:Int)/\df N v k
structure Ext(V:Nat)(m lv m' lv':List Int):Prop where
 a:∀u,u<=V->aE m u=1->aE m' u=1
 b:∀u,u<=V->aE m' u=1->aE m u=1
 c:∀u,u<=V->aE m u=2->aE m' u=2/\aE lv' u=aE lv u
theorem Ext.refl:Ext V m lv m lv:=⟨fun _ _ h=>h,fun _ _ h=>h,fun _ _ h=>⟨h,rfl⟩⟩
theorem Ext.trans(h:Ext V m lv m' lv')(k:Ext V m' lv' m'' lv''):Ext V m lv m'' lv'':=⟨fun u hu h1=>k.a u hu (h.a u hu h1),fun u hu h1=>h.b u hu (k.b u hu h1),fun u hu h1=>⟨(k.c u hu (h.c u hu h1).1).1,by rw[(k.c u hu (h.c u hu h1).1).2,(h.c u hu h1).2]⟩⟩
def tl(N:List Nd)(m:List Int)(u:Nat):Prop:=aE m u=2\/∀x∈N,u∉x.to
theorem JY(i:VI N V m lv)(i':VI N V m' lv')(h:Ext V m lv m' lv'){u:Nat}(hu:u<=V)(t:tl N m u):tl N m' u/\aE lv' u=aE lv u:=by
 rcases t with t|t
 .exact⟨.inl (h.c u hu t).1,(h.c u hu t).2⟩
 .exact⟨.inr t,by rw[(i.free u hu t).2,(i'.free u hu t).2]⟩
theorem Bj(i:VI N V m lv){u:Nat}(hu:u<=V)(t:tl N m u):∃k:Nat,aE lv u=(k:Int)/\df N u k:=by
 rcases t with t|t
 .exact i.done u hu t
 .exact⟨0,by rw[(i.free u hu t).2];rfl,.free u t⟩
theorem aj6(i:VI N V m lv)(i':VI N V m' lv')(h:Ext V m lv m' lv'):fresh V m'<=fresh V m:=by
 refine VV _ fun v hv hz=>?_;have hv:v<=V:=by omega
 have hz:aE m' v=0:=by simpa using hz
 rcases i.kd v hv with h0|h0|h0
 .simpa using h0
 .have:=h.a v hv h0;omega
 .have:=(h.c v hv h0).1;omega
theorem VI.under(ap:fP N)(i:VI N V m lv){x:Nd}(hx:x∈N)(gr:∀v∈x.to,v<=V){v:Nat}(hv:v∈x.to)(h0:aE m v=0):VI N V (dg m x.to 1) lv:=by
 refine⟨by rw[lQ,i.ml],i.ll,fun u hu=>?_,fun y hy a ha b hb=>?_,fun u hu hf=>?_,fun u hu h2=>?_⟩
 .rw[fH];split
  .exact .inr (.inl rfl)
  .exact i.kd u hu
 .rw[fH,fH];by_cases e:y=x
  .subst e;rw[if_pos ⟨ha,by rw[i.ml];have:=gr a ha;omega⟩,if_pos ⟨hb,by rw[i.ml];have:=gr b hb;omega⟩]
  .rw[if_neg fun h=>e (ap.same hy hx ha h.1),if_neg fun h=>e (ap.same hy hx hb h.1)];exact i.tC y hy a ha b hb
 .rw[fH,if_neg fun h=>hf x hx h.1];exact i.free u hu hf
 .rw[fH]at h2;split at h2
  .omega
  .exact i.done u hu h2
theorem ajk(i:VI N V m lv){x:Nd}(hx:x∈N){v:Nat}(hv:v∈x.to)(hV:v<=V)(h0:aE m v=0):fresh V (dg m x.to 1)<fresh V m:=by
 refine aiK (v:=v) _ (by omega) (by simpa using h0) ?_ fun u hu hz=>?_
 .rw[fH,if_pos ⟨hv,by rw[i.ml];omega⟩];rfl
 .have hz:aE (dg m x.to 1) u=0:=by simpa using hz
  rw[fH]at hz;split at hz
  .omega
  .simpa using hz
theorem VI.close(ap:fP N)(i0:VI N V m lv){x:Nd}(hx:x∈N)(gr:∀v∈x.to,v<=V)(aY:∀u∈x.aQ,u<=V){v:Nat}(hv:v∈x.to)(h0:aE m v=0)
  (i:VI N V m' lv') (h:Ext V (dg m x.to 1) lv m' lv') (ht:∀u∈x.aQ,tl N m' u) {L:Int}(hL:L=((mx (x.aQ.map fun u=>(aE lv' u).toNat):Nat):Int)) :
  VI N V (dg m' x.to 2) (dg lv' x.to (L+1))/\Ext V m lv (dg m' x.to 2) (dg lv' x.to (L+1))/\tl N (dg m' x.to 2) v:=by
 have hml:=i.ml;have hll:=i.ll;have hlev:∀u∈x.aQ,df N u (aE lv' u).toNat:=fun u hu=>by obtain⟨k,h1,h2⟩:=Bj i (aY u hu) (ht u hu);rw[h1];simpa using h2
 have hm0:∀u∈x.to,aE m u=0:=fun u hu=>by rw[i0.tC x hx u hu v hv,h0]
 refine⟨⟨by rw[lQ,hml],by rw[lQ,hll],fun u hu=>?_,fun y hy a ha b hb=>?_,fun u hu hf=>?_,fun u hu h2=>?_⟩,⟨fun u hu h1=>?_,fun u hu h1=>?_,fun u hu h2=>?_⟩,?_⟩
 .rw[fH];split
  .exact .inr (.inr rfl)
  .exact i.kd u hu
 .rw[fH,fH];by_cases e:y=x
  .subst e;rw[if_pos ⟨ha,by rw[hml];have:=gr a ha;omega⟩,if_pos ⟨hb,by rw[hml];have:=gr b hb;omega⟩]
  .rw[if_neg fun h=>e (ap.same hy hx ha h.1),if_neg fun h=>e (ap.same hy hx hb h.1)];exact i.tC y hy a ha b hb
 .rw[fH,if_neg fun h=>hf x hx h.1,fH,if_neg fun h=>hf x hx h.1];exact i.free u hu hf
 .by_cases hux:u∈x.to
  .refine⟨mx (x.aQ.map fun u=>(aE lv' u).toNat)+1,?_,.node x u _ hx hux hlev⟩;rw[fH,if_pos ⟨hux,by rw[hll];omega⟩,hL];rfl
  .rw[fH,if_neg fun h=>hux h.1]at h2;rw[fH,if_neg fun h=>hux h.1];exact i.done u hu h2
 .have hux:u∉x.to:=fun hux=>by have:=hm0 u hux;omega
  rw[fH,if_neg fun h=>hux h.1];refine h.a u hu ?_;rw[fH,if_neg fun h=>hux h.1];exact h1
 .rw[fH]at h1;split at h1
  .omega
  .rename_i hn;have hux:u∉x.to:=fun hux=>hn ⟨hux,by rw[hml];omega⟩;have:=h.b u hu h1
   rwa [fH,if_neg fun h=>hux h.1]at this
 .have hux:u∉x.to:=fun hux=>by have:=hm0 u hux;omega
  have:=h.c u hu (by rw[fH,if_neg fun h=>hux h.1];exact h2);rw[fH,if_neg fun h=>hux h.1,fH,if_neg fun h=>hux h.1];exact this
 .refine .inl ?_;rw[fH,if_pos ⟨hv,by rw[hml];have:=gr v hv;omega⟩]
theorem ake{x:Nd}(hx:x∈N){v l:Nat}(hv:v∈x.to)(hl:l∈x.aQ)(hd:∀u,u<=V->aE m u=1->mv N u v):∀u,u<=V->aE (dg m x.to 1) u=1->mv N u l:=by
 intro u hu h;rw[fH]at h;split at h
 .rename_i hc;exact .one x u l hx hc.1 hl
 .exact .more x u v l (hd u hu h) hx hv hl
theorem vi0:VI N V (List.replicate (V+1) 0) (List.replicate (V+1) 0):=by
 have hz:∀v,aE (List.replicate (V+1) 0) v=0:=fun v=>by unfold aE;rw[bM,List.getElem?_replicate];split<;>rfl
 exact⟨by simp,by simp,fun v _=>.inl (hz v),fun x _ u _ v _=>by rw[hz,hz],fun v _ _=>⟨hz v,hz v⟩,fun v _ h=>by rw[hz]at h;omega⟩
def fY(N:List Nd)(V:Nat):Nat->List Int
 |0=>List.replicate (V+1) 0|k+1=>match N[k]? with|some x=>dg (fY N V k) x.to ((k:Int)+1)|none=>fY N V k
theorem FC(N:List Nd)(V:Nat):∀k,(fY N V k).length=V+1:=by
 intro k
 induction k with|zero=>simp[fY]|succ k ih=>rw[fY];cases N[k]?<;>simp[lQ,ih]
theorem WW{k:Nat}{x:Nd}(h:N[k]?=some x):fY N V (k+1)=dg (fY N V k) x.to ((k:Int)+1):=by rw[fY,h]
theorem ahJ(ap:fP N)(gr:∀x∈N,∀v∈x.to,v<=V):∀k v,v<=V->(aE (fY N V k) v=0/\∀i x,i<k->N[i]?=some x->v∉x.to)\/∃i x,i<k/\N[i]?=some x/\v∈x.to/\aE (fY N V k) v=(i:Int)+1:=by
 intro k
 induction k with
 |zero=>intro v _;left;refine⟨?_,fun i x h=>by omega⟩;unfold fY aE;rw[bM,List.getElem?_replicate];split<;>rfl|succ k ih=>
  intro v hv;cases hk:N[k]? with
  |none=>
   rw[fY,hk];rcases ih v hv with⟨h1,h2⟩|⟨i,x,h1,h2,h3,h4⟩
   .left;refine⟨h1,fun i x hi hx=>?_⟩;by_cases e:i=k
    .subst e;rw[hk]at hx;cases hx
    .exact h2 i x (by omega) hx
   .exact .inr ⟨i,x,by omega,h2,h3,h4⟩
  |some y=>
   rw[WW hk,fH];by_cases hvy:v∈y.to
   .rw[if_pos ⟨hvy,by rw[FC];omega⟩];exact .inr ⟨k,y,by omega,hk,hvy,rfl⟩
   .rw[if_neg fun h=>hvy h.1];rcases ih v hv with⟨h1,h2⟩|⟨i,x,h1,h2,h3,h4⟩
    .left;refine⟨h1,fun i x hi hx=>?_⟩;by_cases e:i=k
     .subst e;rw[hk]at hx;injection hx with hx;subst hx;exact hvy
     .exact h2 i x (by omega) hx
    .exact .inr ⟨i,x,by omega,h2,h3,h4⟩
theorem air(ap:fP N)(gr:∀x∈N,∀v∈x.to,v<=V){v:Nat}(hv:v<=V):(aE (fY N V N.length) v=0/\∀x∈N,v∉x.to)\/∃(i:Nat) (x:Nd),N[i]?=some x/\v∈x.to/\aE (fY N V N.length) v=(i:Int)+1:=by
 rcases ahJ ap gr N.length v hv with⟨h1,h2⟩|⟨i,x,h1,h2,h3,h4⟩
 .left;refine⟨h1,fun x hx=>?_⟩;obtain⟨i,hi,rfl⟩:=List.getElem_of_mem hx;exact h2 i _ hi (aN hi)
 .exact .inr ⟨i,x,h2,h3,h4⟩
theorem aiW{l:List Nat}{k u:Nat}{f:Nat->Nat}(h:l[k]?=some u):mx ((l.take (k+1)).map f)=max (mx ((l.take k).map f)) (f u):=by rw[dy h,eJ];exact agP _ _
end
end Go.Proofs.YtkcpdpplobhpaaaGreat.Pl
end
section
namespace Go.Proofs.YtkcpdpplobhpaaaGreat.V
open Go Go.RowKit Go.Proofs.YtkcpdpplobhpaaaGreat.Pl
theorem Zz0(v:Int)(k:Nat):bU v (k+1)=bU v k++[v+(k:Int)]:=by unfold bU;rw[List.range_succ,eJ];rfl
theorem nZ(v:Int)(k:Nat):(bU v k).length=k:=by simp[bU]
theorem J3(m:aV)(i:Nat)(r:jb)(hr:m.reads[i]?=some r)(hw:0<=m.word/\m.word<=4000)(hv:-1099511627776<=r.var/\r.var<=1099511627776) :
  xV (af m,((i:Int),()))=some (bU r.var m.word.toNat,()):=by
 obtain⟨W,hW⟩:=ie hw.1;have hi:=dz hr;have hr':(m.reads.map bW)[i]?=some (bW r):=by rw[bT,hr];rfl
 have hL:PU ((i:Int),(m.word,((0:Int),(m.addr,(m.word,(m.any,(m.reads.map bW,(m.writes.map bH,([],())))))))))=some (bU r.var m.word.toNat,()):=by
  unfold PU;delta u9;rw[hW,eD];refine ur (fun k:Nat=>((i:Int),((W:Int),((k:Int),(m.addr,((W:Int),(m.any,(m.reads.map bW,(m.writes.map bH,(bU r.var k,())))))))))) W ?_ ?_ NN (bL (by omega))
  .intro k hk
   try dsimp only
   unfold FA;rw[je (ar (by omega)),fe (aK ⟨by omega,by rw[aI];omega⟩),fe (l9 (by simp[nZ];omega) (by simp[nZ];omega)),bF hr',show(bW r).1=r.var from rfl];rw[cf (x:=r.var+(k:Int)) (by omega),cf (x:=(k:Int)+1) (by omega),Zz0];rfl
  .try dsimp only
   unfold FA;rw[gd (au (by omega))];rfl
 show Qk PU (af m) (i:Int)=_;unfold Qk;rw[gd (au (by omega)),Oq,gd (au (by simp only[af,aI,Int.ofNat_eq_natCast];omega))];exact(cL hL).trans rfl
def dM(x:bE):aq.T:=(x.rd,((x.mem:Int),((x.pos:Int),())))
abbrev WT:=Int×List Int×List ae.T×List Int×List Int×List Int×List ab.T×List ae.T×List Int×List aq.T×List Int×List Int×Unit
def mQ(n:aB)(of:List Int)(nd:List bE)(m lv:List Int):WT:=(n.vars,(n.aL,(n.aj.map bf,(n.bz,(n.bc,(n.constraints,(n.aa.map af,(n.aC.map cG,(of,(nd.map dM,(m,(lv,()))))))))))))
theorem agv{n:aB}{of m lv:List Int}{nd:List bE}{x:bE}{i:bq}(h:x.is n i):Zck (x.rd,((x.mem:Int),((x.pos:Int),mQ n of nd m lv)))=some (i.aQ,mQ n of nd m lv):=by
 show PC x.rd (x.mem:Int) (x.pos:Int) n.vars n.aL (n.aj.map bf) n.bz n.bc n.constraints (n.aa.map af) (n.aC.map cG) of (nd.map dM) m lv=_;unfold PC;rcases h with⟨h,a,ha,rfl⟩|⟨h,M,r,hM,hr,rfl⟩
 .have ha':(n.aC.map cG)[x.pos]?=some (cG a):=by rw[bT,ha];rfl
  have hl:=dz ha';rw[h,gd rfl,fe (aK ⟨by omega,by omega⟩),bF ha'];rfl
 .have hM':(n.aa.map af)[x.mem]?=some (af M):=by rw[bT,hM];rfl
  have hr':(M.reads.map bW)[x.pos]?=some (bW r):=by rw[bT,hr];rfl
  have hl:=dz hM';have hl2:=dz hr';rw[h,je rfl,fe (aK ⟨by omega,by omega⟩),bF hM',show(af M).2.2.2.1=M.reads.map bW from rfl,fe (aK ⟨by omega,by omega⟩),bF hr'];rfl
theorem VP{n:aB}{of m lv:List Int}{nd:List bE}{x:bE}{i:bq}(h:x.is n i)(ft:Fit n)(hw:∀M∈n.aa,0<=M.word) :
  xz (x.rd,((x.mem:Int),((x.pos:Int),mQ n of nd m lv)))=some (i.to,mQ n of nd m lv):=by
 show xM xV x.rd (x.mem:Int) (x.pos:Int) n.vars n.aL (n.aj.map bf) n.bz n.bc n.constraints (n.aa.map af) (n.aC.map cG) of (nd.map dM) m lv=_;unfold xM;rcases h with⟨h,a,ha,rfl⟩|⟨h,M,r,hM,hr,rfl⟩
 .have ha':(n.aC.map cG)[x.pos]?=some (cG a):=by rw[bT,ha];rfl
  have hl:=dz ha';rw[h,gd rfl,fe (aK ⟨by omega,by omega⟩),bF ha'];rfl
 .have hM':(n.aa.map af)[x.mem]?=some (af M):=by rw[bT,hM];rfl
  have hl:=dz hM';have hmem:=dc hM;have hf:=ft.aa.2 M hmem;have hr2:=hf.ks r (dc hr);rw[h,je rfl,fe (aK ⟨by omega,by omega⟩),bF hM'];exact(cL (J3 M x.pos r hr ⟨hw M hmem,hf.word.2⟩ ⟨hr2.2.1,hr2.2.2.1⟩)).trans rfl
theorem Xz{n:aB}{of m lv:List Int}{nd:List bE}{V:Nat}(a:Int)(vs:List Int)(hln:vs.length<=100000)(hvs:∀v∈vs,0<=v/\v<=(V:Int))(hm:m.length=V+1) :
  Zbg (a,(vs,mQ n of nd m lv))=some (vs,mQ n of nd (dg m (vs.map Int.toNat) a) lv):=by
 have hL:O0 (a,(vs,((vs.length:Int),((0:Int),(vs,mQ n of nd m lv)))))=some (vs,mQ n of nd (dg m (vs.map Int.toNat) a) lv):=by
  unfold O0;delta ka;refine ur (fun k:Nat=>(a,(vs,((vs.length:Int),((k:Int),(vs,mQ n of nd (dg m ((vs.take k).map Int.toNat) a) lv)))))) vs.length ?_ ?_ NN (bL (by omega))
  .intro k hk;unfold mQ
   try dsimp only
   unfold EP;have hv:=aN hk;obtain⟨h0,h1⟩:=hvs _ (dk hk);obtain⟨v,hv2⟩:=ie h0;rw[hv2]at hv h1;rw[je (ar (by omega)),fe (aK ⟨by omega,by omega⟩),bF (σ:=.int .i64) hv,fe (aK ⟨by omega,by rw[lQ,hm];omega⟩),cf (x:=(k:Int)+1) (by omega)];rw[dy hv,eJ,List.map_cons,List.map_nil,xU];rfl
  .unfold mQ
   try dsimp only
   unfold EP;rw[gd (au (by omega)),dS];rfl
 show Pe O0 a vs n.vars n.aL (n.aj.map bf) n.bz n.bc n.constraints (n.aa.map af) (n.aC.map cG) of (nd.map dM) m lv=_;unfold Pe;exact(cL hL).trans rfl
end Go.Proofs.YtkcpdpplobhpaaaGreat.V
end
section
namespace Go.Proofs.YtkcpdpplobhpaaaGreat.Pl
theorem vV{l:List Int}{v:Nat}(h:v<l.length):l[v]?=some (aE l v):=by unfold aE;rw[bM,aN h];rfl
theorem agu{n:aB}{V:Nat}(hs:cr n V){y:bq}(hy:y∈fm n){k:Nat}{l:Int}(h:y.aQ[k]?=some l):∃u:Nat,l / 2=(u:Int)/\u<=V/\y.nd.aQ[k]?=some u/\0<=l/\l<=2*V+1:=by have:=hs.Br hy (dc h);refine⟨(l / 2).toNat,by omega,by omega,?_,by omega,by omega⟩;unfold bq.nd;rw[bT,h];rfl
theorem FH{n:aB}{V:Nat}(hs:cr n V){y:bq}(hy:y∈fm n):y.to.length<=64/\y.aQ.length<=62:=by
 unfold fm at hy;rcases List.mem_append.1 hy with hy|hy
 .obtain⟨a,ha,rfl⟩:=List.mem_map.1 hy;simp[ij]
 .obtain⟨m,hm,hy⟩:=List.mem_flatMap.1 hy;obtain⟨r,hr,rfl⟩:=List.mem_map.1 hy;have h1:=hs.aa m hm;have h2:=h1.2.2.2.2.1 r hr;unfold oI bU;simp;omega
theorem agO{N:List Nd}{V:Nat}{m lv m' lv':List Int}(i:VI N V m lv)(i':VI N V m' lv')(h:Ext V m lv m' lv'){l:List Nat}(hl:∀u∈l,u<=V)(ht:∀u∈l,tl N m u) :
  mx (l.map fun u=>(aE lv' u).toNat)=mx (l.map fun u=>(aE lv u).toNat):=by
 rw[Zti fun u hu=>by rw[(JY i i' h (hl u hu) (ht u hu)).2]]
theorem ahz{N:List Nd}(ap:fP N){V:Nat}{m lv:List Int}(i:VI N V m lv){l:List Nat}(hl:∀u∈l,u<=V)(ht:∀u∈l,tl N m u):mx (l.map fun u=>(aE lv u).toNat)<=N.length:=by refine VF fun z hz=>?_;obtain⟨u,hu,rfl⟩:=List.mem_map.1 hz;obtain⟨k,h1,h2⟩:=Bj i (hl u hu) (ht u hu);rw[h1];have:=h2.le ap;simpa using this
theorem Bd{α β:Type}(f:α->List β):∀(l:List α) (k:Nat),(∀x∈l,(f x).length<=k)->(l.flatMap f).length<=l.length*k:=by
 intro l k
 induction l with|nil=>intro _;simp|cons x l ih=>intro h;rw[List.flatMap_cons,aU,cp,Nat.succ_mul];have h1:=ih fun y hy=>h y (by simp[hy]);have h2:=h x (by simp);omega
theorem QH{n:aB}{V:Nat}(hs:cr n V):(aR n).length<=3000:=by unfold aR fm;rw[aI,aU,aI];have h1:=hs.lens;have h2:=Bd km n.aa 4 (fun m hm=>by unfold km;rw[aI];exact(hs.aa m hm).2.2.2.2.2.2.1);omega
end Go.Proofs.YtkcpdpplobhpaaaGreat.Pl
end
section
namespace Go.Proofs.YtkcpdpplobhpaaaGreat.V
open Go Go.RowKit Go.Proofs.YtkcpdpplobhpaaaGreat.Pl
theorem WG(l:Int):oW (l,())=some (l / 2,()):=by show Ql l=_;unfold Ql;rw[Int.fdiv_eq_ediv_of_nonneg _ (by decide)];rfl
theorem FX{l q:Int}(h:l / 2=q):oW (l,())=some (q,()):=by rw[WG,h]
def aiM(n:aB)(V:Nat)(m lv:List Int)(v:Nat)(b:Bool)(m' lv':List Int):Prop:=(b=true/\VI (aR n) V m' lv'/\Ext V m lv m' lv'/\tl (aR n) m' v)\/(b=false/\∃u,u<=V/\∀k,¬df (aR n) u k)
def wk(n:aB)(V:Nat)(m lv:List Int):WT:=mQ n (fY (aR n) V (aR n).length) (fc n) m lv
abbrev WV:=Int×List Int×List ae.T×List Int×List Int×List Int×List ab.T×List ae.T×List Int×List aq.T×List Int×List Int×List Int×Unit
def wv(n:aB)(V:Nat)(m lv vs:List Int):WV:=(n.vars,(n.aL,(n.aj.map bf,(n.bz,(n.bc,(n.constraints,(n.aa.map af,(n.aC.map cG,(fY (aR n) V (aR n).length,((fc n).map dM,(m,(lv,(vs,())))))))))))))
theorem ahD{n:aB}{V:Nat}{F:TL OA.σs->Option (Out DZ)}(L:Nat)(hL:L<=3000)(m lv vs:List Int)(hln:vs.length<=100000)(hvs:∀v∈vs,0<=v/\v<=(V:Int))(hm:lv.length=V+1) :
  O2 F ((L:Int),(vs,((vs.length:Int),((0:Int),wv n V m lv vs))))=some (wv n V m (dg lv (vs.map Int.toNat) ((L:Int)+1)) vs):=by
 unfold O2;refine ur (fun k:Nat=>((L:Int),(vs,((vs.length:Int),((k:Int),wv n V m (dg lv ((vs.take k).map Int.toNat) ((L:Int)+1)) vs))))) vs.length ?_ ?_ NN (bL (by omega))
 .intro k hk;unfold wv
  try dsimp only
  unfold EV;have hv:=aN hk;obtain⟨h0,h1⟩:=hvs _ (dk hk);obtain⟨v,hv2⟩:=ie h0;rw[hv2]at hv h1;rw[je (ar (by omega)),fe (aK ⟨by omega,by omega⟩),bF (σ:=.int .i64) hv,fe (aK ⟨by omega,by rw[lQ,hm];omega⟩),cf (x:=(k:Int)+1) (by omega),cf (x:=(L:Int)+1) (by omega)];rw[dy hv,eJ,List.map_cons,List.map_nil,xU];rfl
 .unfold wv
  try dsimp only
  unfold EV;rw[gd (au (by omega)),dS];rfl
theorem af4{n:aB}{V:Nat}(hs:cr n V)(ft:Fit n):∀(F:Nat) (m lv:List Int) (v:Nat),VI (aR n) V m lv->(∀u,u<=V->aE m u=1->mv (aR n) u v)->v<=V->fresh V m<F ->
  ∃b m' lv',tN F ((v:Int),wk n V m lv)=some (b,wk n V m' lv')/\aiM n V m lv v b m' lv':=by
 intro F
 induction F with
 |zero=>intro m lv v _ _ _ h;omega|succ F ih=>
  intro m lv v hI hD hv hF;have hV2:=hs.v2;have hnl:=QH hs;have hmw:∀M∈n.aa,0<=M.word:=fun M hM=>by have:=hs.aa M hM;omega
  obtain⟨of,hof⟩:∃of,of=fY (aR n) V (aR n).length:=⟨_,rfl⟩;have hofl:of.length=V+1:=by rw[hof];exact FC _ _ _
  have hofv:of[v]?=some (aE of v):=vV (by omega);have hmv:m[v]?=some (aE m v):=vV (by rw[hI.ml];omega);show ∃b m' lv',Pz oW (tN F) Zck Zbg xz (O3 (tN F)) (O2 (tN F)) (v:Int) n.vars n.aL (n.aj.map bf) n.bz n.bc n.constraints (n.aa.map af) (n.aC.map cG) (fY (aR n) V (aR n).length) ((fc n).map dM) m lv=_/\_;rw[<-hof];unfold Pz;rw[fe (aK ⟨by omega,by omega⟩),bF (σ:=.int .i64) hofv];rcases air hs.apart (fun x hx=>(hs.gr x hx).2) hv with⟨h1,h2⟩|⟨i,x,h1,h2,h3⟩
  .rw[<-hof]at h1;rw[h1,je (ar rfl)];exact⟨true,m,lv,by rw[hof];rfl,.inl ⟨rfl,hI,Ext.refl,.inr h2⟩⟩
  rw[<-hof]at h3;rw[h3,gd (au (by omega)),fe (aK ⟨by omega,by rw[hI.ml];omega⟩),Oq,bF (σ:=.int .u8) hmv];rcases hI.kd v hv with hk|hk|hk
  .-- its node's literals
   subst hof;have hil:=dz h1;have hnl2:(fc n).length=(aR n).length:=by rw[Zuw];unfold aR;rw[aI]
   obtain⟨xd,hxd⟩:∃xd,(fc n)[i]?=some xd:=⟨_,aN (by omega)⟩;obtain⟨y,hy1,hy2⟩:=Kc n hxd;have hxy:x=y.nd:=by rw[Ki,hy1]at h1;simpa using h1.symm
   subst hxy;have hy:=dc hy1;have hx:=dc h1;have hxd':((fc n).map dM)[i]?=some (dM xd):=by rw[bT,hxd];rfl
   have hvs:∀u∈y.to,0<=u/\u<=(V:Int):=fun u hu=>by have:=hs.lF hy hu;omega
   have hlens:=FH hs hy;have hfr:∀u∈y.nd.aQ,u<=V:=fun u hu=>hs.aY _ hx u hu;have hI5:=hI.under hs.apart hx (fun u hu=>(hs.gr _ hx).2 u hu) h2 hk;rw[hk,gd (au (by omega)),fe (aK ⟨by omega,by rw[hI.ml];omega⟩),gd (au (by omega)),fe (aK ⟨by omega,by omega⟩)];rw[show((i:Int)+1-1)=(i:Int) by omega,cf (x:=(i:Int)) (by omega),fe (aK ⟨by omega,by rw[aI];omega⟩),bF hxd'];have e1:=VP (of:=fY (aR n) V (aR n).length) (m:=m) (lv:=lv) (nd:=fc n) hy2 ft hmw;have e2:=Xz (n:=n) (of:=fY (aR n) V (aR n).length) (nd:=fc n) (lv:=lv) 1 y.to (by omega) hvs hI.ml;have e3:=agv (n:=n) (of:=fY (aR n) V (aR n).length) (nd:=fc n) (m:=dg m (y.to.map Int.toNat) 1) (lv:=lv) hy2;have hL11:∃o,O3 (tN F) ((0:Int),(y.aQ,((y.aQ.length:Int),((0:Int),wv n V (dg m y.nd.to 1) lv y.to))))=some o /\
     ((∃m' lv',o=.inl (false,wk n V m' lv')/\∃u,u<=V/\∀k,¬df (aR n) u k) \/
      ∃(m' lv':List Int) (L:Nat),o=.inr ((L:Int),wv n V m' lv' y.to)/\VI (aR n) V m' lv'/\Ext V (dg m y.nd.to 1) lv m' lv'/\(∀u∈y.nd.aQ,tl (aR n) m' u)/\L=mx (y.nd.aQ.map fun u=>(aE lv' u).toNat)):=by
    unfold O3;refine mW (fun d=>∃(k:Nat) (m' lv':List Int) (L:Nat),k<=y.aQ.length/\d=((L:Int),(y.aQ,((y.aQ.length:Int),((k:Int),wv n V m' lv' y.to))))/\VI (aR n) V m' lv'/\Ext V (dg m y.nd.to 1) lv m' lv' /\
     (∀u∈y.nd.aQ.take k,tl (aR n) m' u)/\L=mx ((y.nd.aQ.take k).map fun u=>(aE lv' u).toNat)) _ (fun d=>y.aQ.length-d.2.2.2.1.toNat) ?_ NN _ ⟨0,_,lv,0,dq _,rfl,hI5,Ext.refl,by simp,rfl⟩ (bL (by have:=hlens.2;omega))
    rintro d ⟨k,m',lv',L,hk',rfl,hI',hE',hT',hL⟩;unfold wv
    try dsimp only
    unfold PK;by_cases hlt:k<y.aQ.length
    .have hl:=aN hlt;obtain⟨u,hu1,hu2,hu3,hl0,hl1⟩:=agu hs hy hl;have hlt2:fresh V m'<F:=by have h1:=aj6 hI5 hI' hE';have h2:=ajk hI hx h2 hv hk;omega
     have hdep:∀t,t<=V->aE m' t=1->mv (aR n) t u:=fun t ht h=>ake hx h2 (dc hu3) hD t ht (hE'.b t ht h);obtain⟨b,m2,lv2,g1,g2⟩:=ih m' lv' u hI' hdep hu2 hlt2;rw[je (ar (by omega)),fe (aK ⟨by omega,by omega⟩),bF (σ:=.int .i64) hl];rcases g2 with⟨rfl,gI,gE,gT⟩|⟨rfl,u',hu',hno⟩
     .right;obtain⟨kk,hk1,hk2⟩:=Bj gI hu2 gT;have hkl:=dK (hk2.le hs.apart) hnl;have hlu:lv2[u]?=some (kk:Int):=by rw[<-hk1];exact vV (by rw[gI.ll];omega)
      have hT:∀u'∈y.nd.aQ.take (k+1),tl (aR n) m2 u':=fun u' h'=>by
       rw[dy hu3]at h';rcases List.mem_append.1 h' with h'|h'
       .exact(JY hI' gI gE (hfr u' (List.mem_of_mem_take h')) (hT' u' h')).1
       .simp at h';subst h';exact gT
      have hmx:mx ((y.nd.aQ.take (k+1)).map fun u=>(aE lv2 u).toNat)=max L kk:=by rw[aiW hu3,agO hI' gI gE (fun u hu=>hfr u (List.mem_of_mem_take hu)) hT',<-hL,hk1,eD]
      refine⟨((max L kk:Nat),(y.aQ,((y.aQ.length:Int),(((k+1:Nat):Int),wv n V m2 lv2 y.to)))),?_,⟨k+1,m2,lv2,max L kk,by omega,rfl,gI,hE'.trans gE,hT,hmx.symm⟩,?_⟩
      .refine(cL (FX hu1)).trans ((cL g1).trans ?_);refine(gd rfl).trans ((fe (aK ⟨by omega,by show(u:Int)<((List.length lv2:Nat):Int);rw[gI.ll];omega⟩)).trans ?_);have hsel:du (@decide _ (Int.decLt (L:Int) (gt (.int .i64) lv2 (u:Int)))) (gt (.int .i64) lv2 (u:Int)) (L:Int)=((max L kk:Nat):Int):=by
        rw[bF (σ:=.int .i64) hlu];unfold du;split
        .rename_i q;have q:=of_decide_eq_true q;have:max L kk=kk:=by omega
         rw[this]
        .rename_i q;have q:=of_decide_eq_false q;have:max L kk=L:=by omega
         rw[this]
       have e:∀a b a' b':Int,a=a'->b=b'->(some (.inl (a,(y.aQ,((y.aQ.length:Int),(b,wv n V m2 lv2 y.to))))):Option (TL Er.σs⊕Out Ei))=some (.inl (a',(y.aQ,((y.aQ.length:Int),(b',wv n V m2 lv2 y.to))))):=by rintro _ _ _ _ rfl rfl;rfl
       exact e _ _ _ _ hsel (cf (x:=(k:Int)+1) (by omega))
      .show y.aQ.length-((k+1:Nat):Int).toNat<y.aQ.length-(k:Int).toNat;omega
     .left;refine⟨_,(cL (FX hu1)).trans ((cL g1).trans ?_),.inl ⟨m2,lv2,rfl,u',hu',hno⟩⟩;exact(je rfl).trans rfl
    .left;have hlen:y.nd.aQ.length<=k:=by unfold bq.nd;rw[aI];omega
     rw[fR hlen]at hT' hL;rw[gd (au (by omega))];exact⟨_,rfl,.inr ⟨m',lv',L,rfl,hI',hE',hT',hL⟩⟩
   obtain⟨o,ho,hcase⟩:=hL11;rcases hcase with⟨m',lv',rfl,u',hu',hno⟩|⟨m',lv',L,rfl,hI',hE',hT',hL⟩
   .refine⟨false,m',lv',?_,.inr ⟨rfl,u',hu',hno⟩⟩;refine(cL e1).trans ((cL e2).trans ((cL e3).trans ((cL ho).trans ?_)));rfl
   .have hmxl:L<=3000:=by rw[hL];exact dK (ahz hs.apart hI' hfr hT') hnl
    have c:=hI.close hs.apart hx (fun u hu=>(hs.gr _ hx).2 u hu) hfr h2 hk hI' hE' hT' (L:=(L:Int)) (by rw[hL]);have e5:=ahD (n:=n) (V:=V) (F:=tN F) L hmxl m' lv' y.to (by omega) hvs hI'.ll;have e6:=Xz (n:=n) (of:=fY (aR n) V (aR n).length) (nd:=fc n) (lv:=dg lv' (y.to.map Int.toNat) ((L:Int)+1)) 2 y.to (by omega) hvs hI'.ml;refine⟨true,dg m' y.nd.to 2,dg lv' y.nd.to ((L:Int)+1),?_,.inl ⟨rfl,c.1,c.2.1,c.2.2⟩⟩;refine(cL e1).trans ((cL e2).trans ((cL e3).trans ((cL ho).trans ((cL e5).trans ?_))));exact(cL e6).trans rfl
  .rw[hk,gd (au (by omega)),fe (aK ⟨by omega,by rw[hI.ml];omega⟩),je (ar rfl)];exact⟨false,m,lv,by rw[hof];rfl,.inr ⟨rfl,v,hv,fun k=>mv.none hs.apart (hD v hv hk) k⟩⟩
  .rw[hk,je (ar rfl)];exact⟨true,m,lv,by rw[hof];rfl,.inl ⟨rfl,hI,Ext.refl,.inl hk⟩⟩
theorem ae3(m:aV)(i:Nat)(r:jb)(hr:m.reads[i]?=some r)(hw:0<=m.word/\m.word<=4000)(hv:-1099511627776<=r.var/\r.var<=1099511627776) :
  Zbo (af m,((i:Int),()))=some (bU r.var m.word.toNat,()):=by
 obtain⟨W,hW⟩:=ie hw.1;have hi:=dz hr;have hr':(m.reads.map bW)[i]?=some (bW r):=by rw[bT,hr];rfl
 have hL:O8 ((i:Int),((0:Int),(m.addr,(m.word,(m.any,(m.reads.map bW,(m.writes.map bH,([],()))))))))=some (bU r.var m.word.toNat,()):=by
  unfold O8;delta u8;rw[hW,eD];refine ur (fun k:Nat=>((i:Int),((k:Int),(m.addr,((W:Int),(m.any,(m.reads.map bW,(m.writes.map bH,(bU r.var k,()))))))))) W ?_ ?_ NN (bL (by omega))
  .intro k hk
   try dsimp only
   unfold Fb;rw[je (ar (by omega)),fe (aK ⟨by omega,by rw[aI];omega⟩),fe (l9 (by simp[nZ];omega) (by simp[nZ];omega)),bF hr',show(bW r).1=r.var from rfl];rw[cf (x:=r.var+(k:Int)) (by omega),cf (x:=(k:Int)+1) (by omega),Zz0];rfl
  .try dsimp only
   unfold Fb;rw[gd (au (by omega))];rfl
 show PA O8 (af m) (i:Int)=_;unfold PA;rw[gd (au (by omega)),Oq,gd (au (by simp only[af,aI,Int.ofNat_eq_natCast];omega))];exact(cL hL).trans rfl
theorem ahh{l:Int}(h:0<=l/\l<=1000000){u:Nat}(hu:l / 2=(u:Int)):xC (l,())=some ((u:Int),()):=by show PJ l=_;unfold PJ;rw[Int.tdiv_eq_ediv_of_nonneg h.1,hu,cf (by omega)];rfl
def nC(L:List Int)(i:Int):Int:=gt (.int .i64) L i
theorem vT{L:List Int}{i:Nat}{x:Int}(h:L[i]?=some x):nC L (i:Int)=x:=bF (σ:=.int .i64) h
def dj(x:bE×bq):dU.T:=(x.1.rd,((x.1.mem:Int),((x.1.pos:Int),(x.2.aQ,(x.2.to,())))))
theorem afx{V:Nat}{B:Int}(x:bE×bq)(out:List Int)(hB:∀u,u<=V->aE out u<=B)(hB0:0<=B/\B<=1000000000000)(hl:out.length=V+1)(hV:V<=2000)
  (hf:∀l∈x.2.aQ,0<=l/\l<=2*(V:Int)+1) (hfl:x.2.aQ.length<=100000):OD (dj x,(out,()))=some (fS out x.2.nd.aQ 0,()):=by
 have hfr:∀k,x.2.nd.aQ.drop k=(x.2.aQ.drop k).map fun l=>(l / 2).toNat:=fun k=>by unfold bq.nd;rw[List.map_drop]
 have hL:=mW (B:=fun d=>PO xC d.1 d.2.1 d.2.2.1 d.2.2.2.1 d.2.2.2.2.1 d.2.2.2.2.2.1 d.2.2.2.2.2.2.1 d.2.2.2.2.2.2.2.1)
  (I:=fun d:TL xB.σs=>∃(k:Nat) (n:Int),d=(out,(n,((k:Int),dj x)))/\k<=x.2.aQ.length/\0<=n/\n<=B/\fS out (x.2.nd.aQ.drop k) n=fS out x.2.nd.aQ 0)
  (Q:=fun o:Out xA=>(o=.inl ((-1:Int),())/\fS out x.2.nd.aQ 0 = -1)\/∃n:Int,o=.inr (n,())/\n<=B/\0<=n/\fS out x.2.nd.aQ 0=n+1)
  (μ:=fun d=>x.2.aQ.length-d.2.2.1.toNat) ?_ NN (out,((0:Int),((0:Int),dj x))) ⟨0,0,rfl,by omega,by omega,hB0.1,by rw[List.drop_zero]⟩ (bL (by show _-_<=_;omega))
 .obtain⟨o,ho,hcase⟩:=hL;have ho':Zfs (out,((0:Int),((0:Int),dj x)))=some o:=ho;rcases hcase with⟨rfl,h⟩|⟨n,rfl,hn,hn0,h⟩
  .rw[h];exact ah ho' rfl
  .rw[h];have e:∀a b:Int,a=b->(some (a,()):Option (Int×Unit))=some (b,()):=by rintro _ _ rfl;rfl
   exact ah ho' (e _ _ (cf (x:=n+1) (by omega)))
 .rintro _ ⟨k,n,rfl,hk,h0,hn,hr⟩;by_cases hlt:k<x.2.aQ.length
  .have hg:=aN hlt;obtain⟨a1,a2⟩:=hf _ (dk hlt);obtain⟨u,hu⟩:=ie (show 0<=x.2.aQ[k] / 2 by omega);have huV:u<=V:=by omega
   have hlu:out[u]?=some (aE out u):=by unfold aE;rw[bM,aN (by omega)];rfl
   have e1:=ahh (l:=x.2.aQ[k]) ⟨a1,by omega⟩ hu;have hdrop:x.2.nd.aQ.drop k=u::x.2.nd.aQ.drop (k+1):=by rw[hfr,hfr,List.drop_eq_getElem_cons hlt,List.map_cons,hu];rfl
   rw[hdrop,fS]at hr;by_cases hneg:aE out u<0
   .left;rw[if_pos hneg]at hr;refine⟨.inl ((-1:Int),()),?_,.inl ⟨rfl,hr.symm⟩⟩;refine ax (ar (show(k:Int)<((x.2.aQ.length:Nat):Int) by omega)) (ak (aK ⟨show(0:Int)<=(k:Int) by omega,by show(k:Int)<((x.2.aQ.length:Nat):Int);omega⟩) ?_);refine(cL (show xC (gt (.int .i64) x.2.aQ (k:Int),())=some ((u:Int),()) by rw[bF (σ:=.int .i64) hg];exact e1)).trans ?_;refine ak (aK ⟨show(0:Int)<=(u:Int) by omega,by rw[hl];show(u:Int)<_;omega⟩) (ax (ar (show nC out (u:Int)<(0:Int) by rw[vT hlu];exact hneg)) rfl)
   .right;rw[if_neg hneg]at hr;have hBu:=hB u huV;refine⟨(out,((max n (aE out u):Int),(((k+1:Nat):Int),dj x))),?_,⟨k+1,max n (aE out u),rfl,by omega,by omega,by omega,hr⟩,?_⟩
    .refine ax (ar (show(k:Int)<((x.2.aQ.length:Nat):Int) by omega)) (ak (aK ⟨show(0:Int)<=(k:Int) by omega,by show(k:Int)<((x.2.aQ.length:Nat):Int);omega⟩) ?_);refine(cL (show xC (gt (.int .i64) x.2.aQ (k:Int),())=some ((u:Int),()) by rw[bF (σ:=.int .i64) hg];exact e1)).trans ?_;refine ak (aK ⟨show(0:Int)<=(u:Int) by omega,by rw[hl];show(u:Int)<_;omega⟩) (ag (au (show ¬nC out (u:Int)<(0:Int) by rw[vT hlu];exact hneg)) ?_);have e:∀a b a' b':Int,a=a'->b=b'->(some (.inl (out,(a,(b,dj x)))):Option (TL xB.σs⊕Out xA))=some (.inl (out,(a',(b',dj x)))):=by rintro _ _ _ _ rfl rfl;rfl
     refine e _ _ _ _ ?_ (cf (x:=(k:Int)+1) (by omega));show du (decide (n<nC out (u:Int))) (nC out (u:Int)) n=_;rw[vT hlu];unfold du;split
     .rename_i q;have q:=of_decide_eq_true q;show aE out u=_;omega
     .rename_i q;have q:=of_decide_eq_false q;show n=_;have q:¬n<aE out u:=q;omega
    .show x.2.aQ.length-((k+1:Nat):Int).toNat<x.2.aQ.length-(k:Int).toNat;omega
  .left;have hnil:x.2.nd.aQ.drop k=[]:=by rw[hfr,List.drop_eq_nil_of_le (by omega)];rfl
   rw[hnil,fS]at hr;exact⟨.inr (n,()),ag (au (show ¬(k:Int)<((x.2.aQ.length:Nat):Int) by omega)) rfl,.inr ⟨n,rfl,hn,h0,hr.symm⟩⟩
theorem ajv(l:List Int)(vs ws:List Nat)(x:Int):dg l (vs++ws) x=dg (dg l vs x) ws x:=by simp[dg,List.foldl_append]
theorem QJ{l:List Int}{x B:Int}(hx:x<=B):∀(vs:List Nat) {l:List Int},(∀u,aE l u<=B)->∀u,aE (dg l vs x) u<=B
 |[],l,h,u=>h u|v::vs,l,h,u=>by
  have:dg l (v::vs) x=dg (l.set v x) vs x:=rfl;rw[this];refine QJ (l:=l) hx vs (fun u=>?_) u;rw[XD];split
  .exact hx
  .exact h u
theorem Zyk{out:List Int}{B:Int}(hB:∀u,aE out u<=B):∀(us:List Nat) (n:Int),n<=B->0<=B->fS out us n<=B+1
 |[],n,h,h0=>by rw[fS];omega|u::us,n,h,h0=>by
  rw[fS];split
  .omega
  .exact Zyk hB us _ (by have:=hB u;omega) h0
structure N6(N:List (bE×bq))(V:Nat):Prop where
 v2:V<=2000
 len:N.length<=3000
 to:∀x∈N,x.2.to.length<=100000/\∀v∈x.2.to,0<=v/\v<=(V:Int)
 aQ:∀x∈N,x.2.aQ.length<=100000/\∀l∈x.2.aQ,0<=l/\l<=2*(V:Int)+1
theorem ain{N:List (bE×bq)}{V:Nat}(h6:N6 N V){i:Nat}{x:bE×bq}(hx:N[i]?=some x)(out:List Int)(hl:out.length=V+1) :
  EI (N.map dj,((i:Int),((0:Int),(out,()))))=some (N.map dj,((i:Int),(dg out x.2.nd.to (-1),()))):=by
 have hx':(N.map dj)[i]?=some (dj x):=by rw[bT,hx];rfl
 have hi:=dz hx';obtain⟨h1,h2⟩:=h6.to x (dc hx);unfold EI;delta u4;refine dn (fun k:Nat=>(N.map dj,((i:Int),((k:Int),(dg out ((x.2.to.take k).map Int.toNat) (-1),()))))) x.2.to.length rfl ?_ ?_ (bL (by omega))
 .intro k hk;have hv:=aN hk;obtain⟨v0,v1⟩:=h2 _ (dk hk);obtain⟨v,hv2⟩:=ie v0;rw[hv2]at hv v1
  try dsimp only
  unfold ET;rw[fe (aK ⟨by omega,by omega⟩),bF hx'];refine ax (ar (show(k:Int)<((x.2.to.length:Nat):Int) by omega)) (ak (aK ⟨by omega,by omega⟩) (ak (aK ⟨show(0:Int)<=(k:Int) by omega,show(k:Int)<((x.2.to.length:Nat):Int) by omega⟩) ?_));have hg:nC x.2.to (k:Int)=(v:Int):=vT hv;refine ak (show av (nC x.2.to (k:Int)) (List.length (dg out ((x.2.to.take k).map Int.toNat) (-1)))=true by rw[hg];exact aK ⟨by omega,by rw[lQ,hl];omega⟩) ?_;have e:∀(a a':Int) (b b':List Int),a=a'->b=b'->(some (.inl (N.map dj,((i:Int),(a,(b,()))))):Option (TL Ea.σs⊕Out D6))=some (.inl (N.map dj,((i:Int),(a',(b',()))))):=by rintro _ _ _ _ rfl rfl;rfl
  refine e _ _ _ _ (cf (x:=(k:Int)+1) (by omega)) ?_;rw[dy hv,eJ,List.map_cons,List.map_nil,xU];show List.set (dg out ((x.2.to.take k).map Int.toNat) (-1)) (nC x.2.to (k:Int)).toNat (-1)=_;rw[hg]
 .try dsimp only
  unfold ET;rw[fe (aK ⟨by omega,by omega⟩),bF hx'];refine ag (au (show ¬((x.2.to.length:Nat):Int)<((x.2.to.length:Nat):Int) by omega)) ?_;rw[dS];rfl
theorem U0{N:List (bE×bq)}{V:Nat}(h6:N6 N V){i:Nat}{x:bE×bq}(hx:N[i]?=some x)(a b c:Int)(out:List Int)(hl:out.length=V+1) :
  Ee (N.map dj,(a,(b,((i:Int),(c,((0:Int),(out,())))))))=some (N.map dj,(a,(b,((i:Int),(dg out x.2.nd.to c,()))))):=by
 have hx':(N.map dj)[i]?=some (dj x):=by rw[bT,hx];rfl
 have hi:=dz hx';obtain⟨h1,h2⟩:=h6.to x (dc hx);unfold Ee;delta u7;refine dn (fun k:Nat=>(N.map dj,(a,(b,((i:Int),(c,((k:Int),(dg out ((x.2.to.take k).map Int.toNat) c,())))))))) x.2.to.length rfl ?_ ?_ (bL (by omega))
 .intro k hk;have hv:=aN hk;obtain⟨v0,v1⟩:=h2 _ (dk hk);obtain⟨v,hv2⟩:=ie v0;rw[hv2]at hv v1
  try dsimp only
  unfold EL;rw[fe (aK ⟨by omega,by omega⟩),bF hx'];refine ax (ar (show(k:Int)<((x.2.to.length:Nat):Int) by omega)) (ak (aK ⟨by omega,by omega⟩) (ak (aK ⟨show(0:Int)<=(k:Int) by omega,show(k:Int)<((x.2.to.length:Nat):Int) by omega⟩) ?_));have hg:nC x.2.to (k:Int)=(v:Int):=vT hv;refine ak (show av (nC x.2.to (k:Int)) (List.length (dg out ((x.2.to.take k).map Int.toNat) c))=true by rw[hg];exact aK ⟨by omega,by rw[lQ,hl];omega⟩) ?_;have e:∀(p p':Int) (q q':List Int),p=p'->q=q'->(some (.inl (N.map dj,(a,(b,((i:Int),(c,(p,(q,())))))))):Option (TL D4.σs⊕Out D3))=some (.inl (N.map dj,(a,(b,((i:Int),(c,(p',(q',())))))))):=by rintro _ _ _ _ rfl rfl;rfl
  refine e _ _ _ _ (cf (x:=(k:Int)+1) (by omega)) ?_;rw[dy hv,eJ,List.map_cons,List.map_nil,xU];show List.set (dg out ((x.2.to.take k).map Int.toNat) c) (nC x.2.to (k:Int)).toNat c=_;rw[hg]
 .try dsimp only
  unfold EL;rw[fe (aK ⟨by omega,by omega⟩),bF hx'];refine ag (au (show ¬((x.2.to.length:Nat):Int)<((x.2.to.length:Nat):Int) by omega)) ?_;rw[dS];rfl
theorem aim{N:List (bE×bq)}{V:Nat}(h6:N6 N V)(out:List Int)(hl:out.length=V+1) :
  O1 (N.map dj,((0:Int),(out,())))=some (N.map dj,(dg out ((N.map (·.2.nd)).flatMap (·.to)) (-1),())):=by
 have hn:=h6.len;unfold O1;delta u3;refine dn (fun i:Nat=>(N.map dj,((i:Int),(dg out (((N.take i).map (·.2.nd)).flatMap (·.to)) (-1),())))) N.length rfl ?_ ?_ (bL (by omega))
 .intro i hi;have hx:=aN hi
  try dsimp only
  unfold EU;refine ax (ar (show(i:Int)<(((N.map dj).length:Nat):Int) by rw[aI];omega)) ((cL (ain h6 hx _ (by rw[lQ,hl]))).trans ?_);have e:∀(p p':Int) (q q':List Int),p=p'->q=q'->(some (.inl (N.map dj,(p,(q,())))):Option (TL El.σs⊕Out Eg))=some (.inl (N.map dj,(p',(q',())))):=by rintro _ _ _ _ rfl rfl;rfl
  refine e _ _ _ _ (cf (x:=(i:Int)+1) (by omega)) ?_;rw[dy hx,eJ,List.flatMap_append,ajv];simp
 .try dsimp only
  unfold EU;refine ag (au (show ¬((N.length:Nat):Int)<(((N.map dj).length:Nat):Int) by rw[aI];omega)) ?_;rw[dS];rfl
theorem ajc(M:List Nd)(x:Nd)(out:List Int):jQ (M++[x]) out=jn (jQ M out) x:=by unfold jQ;rw[List.foldl_append];rfl
theorem P8:∀(M:List Nd) (out:List Int),(jQ M out).length=out.length
 |[],out=>rfl|x::M,out=>by show(jQ M (jn out x)).length=_;rw[P8 M,Zun]
theorem Zyn(x:Nd):∀(M:List Nd) (out:List Int),iA (M++[x]) out=iA M out+(if fS (jQ M out) x.aQ 0<0 then 1 else 0)
 |[],out=>by show(if fS out x.aQ 0<0 then 1 else 0)+0=0+_;rw[Nat.zero_add];rfl
 |y::M,out=>by show(if fS out y.aQ 0<0 then 1 else 0)+iA (M++[x]) (jn out y)=_;rw[Zyn x M (jn out y)];show _=(if fS out y.aQ 0<0 then 1 else 0)+iA M (jn out y)+_;rw[Nat.add_assoc];rfl
theorem QX:∀(M:List Nd) (out:List Int),iA M out<=M.length
 |[],out=>aS _|y::M,out=>by have:=QX M (jn out y);show(if fS out y.aQ 0<0 then 1 else 0)+iA M (jn out y)<=M.length+1;split<;>omega
theorem Qo:∀(M:List Nd) {out:List Int}{B:Int},0<=B->(∀u,aE out u<=B)->∀u,aE (jQ M out) u<=B+(M.length:Int)
 |[],out,B,h0,h,u=>by have:=h u;show aE out u<=B+((0:Nat):Int);omega|y::M,out,B,h0,h,u=>by have h1:∀u,aE (jn out y) u<=B+1:=QJ (l:=out) (Zyk h y.aQ 0 h0 h0) y.to (fun u=>by have:=h u;omega);have:=Qo M (out:=jn out y) (B:=B+1) (by omega) h1 u;show aE (jQ M (jn out y)) u<=B+((M.length+1:Nat):Int);omega
theorem ahv{N:List (bE×bq)}{V:Nat}(h6:N6 N V){B:Int}(r:Int)(out:List Int)(hl:out.length=V+1)(hB:∀u,aE out u<=B)(hB0:0<=B/\B<=900000000000) :
  EA (N.map dj,((0:Int),(r,((0:Int),(out,())))))=some (N.map dj,((iA (N.map (·.2.nd)) out:Int),(r,(jQ (N.map (·.2.nd)) out,())))):=by
 have hn:=h6.len;unfold EA;delta u5;refine dn (fun i:Nat=>(N.map dj,((iA ((N.take i).map (·.2.nd)) out:Int),(r,((i:Int),(jQ ((N.take i).map (·.2.nd)) out,())))))) N.length rfl ?_ ?_ (bL (by omega))
 .intro i hi;have hx:=aN hi;have hx':(N.map dj)[i]?=some (dj N[i]):=by rw[bT,hx];rfl
  obtain⟨f1,f2⟩:=h6.aQ _ (dk hi);have hlen:((N.take i).map (fun x:bE×bq=>x.2.nd)).length<=3000:=by rw[aI,dx];omega
  have hle:=QX ((N.take i).map (fun x:bE×bq=>x.2.nd)) out;have hb:=Qo ((N.take i).map (fun x:bE×bq=>x.2.nd)) hB0.1 hB;have hrl:(jQ ((N.take i).map (fun x:bE×bq=>x.2.nd)) out).length=V+1:=by rw[P8,hl]
  have e1:=afx (V:=V) (B:=B+(((N.take i).map (fun x:bE×bq=>x.2.nd)).length:Int)) N[i] _ (fun u _=>hb u) ⟨by omega,by omega⟩ hrl h6.v2 f2 f1
  try dsimp only
  unfold EM;refine ax (ar (show(i:Int)<(((N.map dj).length:Nat):Int) by rw[aI];omega)) (ak (aK ⟨by omega,by rw[aI];omega⟩) ?_);rw[bF hx'];refine(cL e1).trans ?_;have e:∀(p p' q q':Int) (s s':List Int),p=p'->q=q'->s=s'->(some (.inl (N.map dj,(p,(r,(q,(s,())))))):Option (TL D7.σs⊕Out D5))=some (.inl (N.map dj,(p',(r,(q',(s',())))))):=by rintro _ _ _ _ _ _ rfl rfl rfl;rfl
  have hs:jQ ((N.take (i+1)).map (fun x:bE×bq=>x.2.nd)) out=dg (jQ ((N.take i).map (fun x:bE×bq=>x.2.nd)) out) N[i].2.nd.to (fS (jQ ((N.take i).map (fun x:bE×bq=>x.2.nd)) out) N[i].2.nd.aQ 0):=by rw[dy hx,eJ];exact ajc _ _ _
  have hc:iA ((N.take (i+1)).map (fun x:bE×bq=>x.2.nd)) out=iA ((N.take i).map (fun x:bE×bq=>x.2.nd)) out+(if fS (jQ ((N.take i).map (fun x:bE×bq=>x.2.nd)) out) N[i].2.nd.aQ 0<0 then 1 else 0):=by rw[dy hx,eJ];exact Zyn _ _ _
  rw[hs,hc];by_cases hneg:fS (jQ ((N.take i).map (fun x:bE×bq=>x.2.nd)) out) N[i].2.nd.aQ 0<0
  .rw[if_pos hneg];refine ax (ar hneg) ((cL (U0 h6 hx _ r _ _ hrl)).trans ?_);exact e _ _ _ _ _ _ ((cf (x:=((iA ((N.take i).map (fun x:bE×bq=>x.2.nd)) out:Nat):Int)+1) (by omega)).trans (by omega)) (cf (x:=(i:Int)+1) (by omega)) rfl
  .rw[if_neg hneg];refine ag (au hneg) ((cL (U0 h6 hx _ r _ _ hrl)).trans ?_);exact e _ _ _ _ _ _ rfl (cf (x:=(i:Int)+1) (by omega)) rfl
 .try dsimp only
  unfold EM;refine ag (au (show ¬((N.length:Nat):Int)<(((N.map dj).length:Nat):Int) by rw[aI];omega)) ?_;rw[dS];rfl
theorem Zy8(M:List Nd)(out:List Int):∀r,(ji M r out).length=out.length
 |0=>rfl|r+1=>by rw[ji,P8,Zy8 M out r]
theorem Zuq(M:List Nd){out:List Int}(h:∀u,aE out u<=0):∀r u,aE (ji M r out) u<=(r:Int)*(M.length:Int)
 |0,u=>by have:=h u;show aE out u<=((0:Nat):Int)*_;omega|r+1,u=>by
  have h1:=Qo M (out:=ji M r out) (B:=(r:Int)*(M.length:Int)) (Int.mul_nonneg (by omega) (by omega)) (Zuq M h r) u;rw[ji];have:((r+1:Nat):Int)*(M.length:Int)=(r:Int)*(M.length:Int)+(M.length:Int):=by rw[Int.natCast_add,Int.add_mul];simp
  omega
theorem ahu{N:List (bE×bq)}{V:Nat}(h6:N6 N V)(out:List Int)(hl:out.length=V+1)(hB:∀u,aE out u<=0) :
  OZ (N.map dj,((0:Int),((0:Int),(out,()))))=some ((iA (N.map (fun x:bE×bq=>x.2.nd)) (ji (N.map (fun x:bE×bq=>x.2.nd)) N.length out):Int),(ji (N.map (fun x:bE×bq=>x.2.nd)) (N.length+1) out,())):=by
 have hn:=h6.len;unfold OZ;delta u4;refine dn (fun r:Nat=>(N.map dj,((match r with|0=>(0:Int)|r+1=>(iA (N.map (fun x:bE×bq=>x.2.nd)) (ji (N.map (fun x:bE×bq=>x.2.nd)) r out):Int)),((r:Int),(ji (N.map (fun x:bE×bq=>x.2.nd)) r out,()))))) (N.length+1) rfl ?_ ?_ (bL (by omega))
 .intro r hr;have hb:=Zuq (N.map (fun x:bE×bq=>x.2.nd)) hB r;have hm:(r:Int)*((N.map (fun x:bE×bq=>x.2.nd)).length:Int)<=3000*3000:=by rw[aI];exact Int.mul_le_mul (by omega) (by omega) (by omega) (by omega)
  have h0:0<=(r:Int)*((N.map (fun x:bE×bq=>x.2.nd)).length:Int):=Int.mul_nonneg (by omega) (by omega);have e1:=ahv h6 (r:Int) (ji (N.map (fun x:bE×bq=>x.2.nd)) r out) (by rw[Zy8,hl]) hb ⟨h0,by omega⟩
  try dsimp only
  unfold EO;refine ax (ar (show(r:Int)<=(((N.map dj).length:Nat):Int) by rw[aI];omega)) ((cL e1).trans ?_);have e:∀(p q q':Int) (s:List Int),q=q'->(some (.inl (N.map dj,(p,(q,(s,()))))):Option (TL Eh.σs⊕Out Ef))=some (.inl (N.map dj,(p,(q',(s,()))))):=by rintro _ _ _ _ rfl;rfl
  exact e _ _ _ _ (cf (x:=(r:Int)+1) (by omega))
 .try dsimp only
  unfold EO;refine ag (au (show ¬((N.length+1:Nat):Int)<=(((N.map dj).length:Nat):Int) by rw[aI];omega)) ?_;rfl
def nt{α:Type}(n:aB)(r:α):Int×List Int×List ae.T×List Int×List Int×List Int×List ab.T×List ae.T×α:=(n.vars,(n.aL,(n.aj.map bf,(n.bz,(n.bc,(n.constraints,(n.aa.map af,(n.aC.map cG,r))))))))
abbrev W4:=List Int×List aq.T×List Int×List Int×Unit
def w4(of:List Int)(nd:List bE)(m lv:List Int):W4:=(of,(nd.map dM,(m,(lv,()))))
def j4(k:Nat):List bE:=(List.range k).map fun i=>⟨false,0,i⟩
theorem Wf(k:Nat):j4 (k+1)=j4 k++[⟨false,0,k⟩]:=by unfold j4;rw[List.range_succ,eJ];rfl
theorem tZ(k:Nat):(j4 k).length=k:=by simp[j4]
theorem aiG(n:aB)(of m lv:List Int)(hA:n.aC.length<=2000):Fl ((n.aC.length:Int),((0:Int),nt n (nt n (w4 of [] m lv))))=some (nt n (nt n (w4 of (j4 n.aC.length) m lv))):=by
 unfold Fl;delta pf;refine ur (fun k:Nat=>((n.aC.length:Int),((k:Int),nt n (nt n (w4 of (j4 k) m lv))))) n.aC.length ?_ ?_ NN (bL (by omega))
 .intro k hk;unfold nt w4
  try dsimp only
  unfold Fu;refine ax (ar (by omega)) (ak (qd (L:=(j4 k).map dM) (by rw[aI,tZ];omega) (by decide)) ?_);rw[cf (x:=(k:Int)+1) (by omega),Wf,eJ];rfl
 .unfold nt w4
  try dsimp only
  unfold Fu;rw[gd (au (by omega))];rfl
def mN(j k:Nat):List bE:=(List.range k).map fun i=>⟨true,j,i⟩
theorem WR(j k:Nat):mN j (k+1)=mN j k++[⟨true,j,k⟩]:=by unfold mN;rw[List.range_succ,eJ];rfl
theorem Qx(j k:Nat):(mN j k).length=k:=by simp[mN]
theorem ahX(n:aB)(of m lv:List Int)(j M R:Nat)(pre:List bE)(hj:j<=4)(hM:M<=4)(hR:R<=4)(hp:pre.length<=3000) :
  Fe ((j:Int),((M:Int),((j:Int),((R:Int),((0:Int),nt n (nt n (w4 of pre m lv)))))))=some ((M:Int),((j:Int),nt n (nt n (w4 of (pre++mN j R) m lv)))):=by
 unfold Fe;refine dn (fun k:Nat=>((j:Int),((M:Int),((j:Int),((R:Int),((k:Int),nt n (nt n (w4 (of) (pre++mN j k) m lv)))))))) R (by rw[show mN j 0=[]from rfl,dB];rfl) ?_ ?_ (bL (by omega))
 .intro k hk;unfold nt w4
  try dsimp only
  unfold Fs;refine ax (ar (by omega)) (ak (qd (L:=(pre++mN j k).map dM) (by rw[aI,aU,Qx];omega) (by decide)) ?_);rw[cf (x:=(k:Int)+1) (by omega),WR,<-cz,List.map_append (l₁:=pre++mN j k)];rfl
 .unfold nt w4
  try dsimp only
  unfold Fs;rw[gd (au (by omega))];rfl
theorem Qz(k:Nat):∀(l:List aV) (m:aV),jE k (l++[m])=jE k l++Pl.jm (k+l.length) m
 |[],m=>by simp[jE]|x::l,m=>by rw[List.cons_append,jE,jE,Qz (k+1) l m,cz,cp,show k+1+l.length=k+(l.length+1) by omega]
theorem aiH(n:aB)(of m lv:List Int)(hA:n.aC.length<=2000)(hM:n.aa.length<=4)(hR:∀M∈n.aa,M.reads.length<=4) :
  Fk ((n.aa.length:Int),((0:Int),nt n (nt n (w4 of (j4 n.aC.length) m lv))))=some (nt n (w4 of (fc n) m lv)):=by
 have hlen:∀k,k<=n.aa.length->(j4 n.aC.length++jE 0 (n.aa.take k)).length<=3000:=by
  intro k hk;rw[aU,tZ,tX];have:=Bd km (n.aa.take k) 4 (fun M hM=>by unfold km;rw[aI];exact hR M (List.mem_of_mem_take hM));have h2:(n.aa.take k).length<=4:=by rw[dx];omega
  omega
 unfold Fk;delta pf;refine dn (fun k:Nat=>((n.aa.length:Int),((k:Int),nt n (nt n (w4 of (j4 n.aC.length++jE 0 (n.aa.take k)) m lv))))) n.aa.length (by rw[List.take_zero,show jE 0 []=[]from rfl,dB];rfl) ?_ ?_ (bL (by omega))
 .intro k hk;have hMk:=aN hk;have hMk':(n.aa.map af)[k]?=some (af n.aa[k]):=by rw[bT,hMk];rfl
  have hrk:=hR _ (dk hk);unfold nt w4
  try dsimp only
  unfold Ft;rw[je (ar (by omega)),fe (aK ⟨by omega,by rw[aI];omega⟩),bF hMk'];have e:=ahX n of m lv k n.aa.length n.aa[k].reads.length _ (by omega) hM hrk (hlen k (by omega));have hl:List.length (af n.aa[k]).2.2.2.1=n.aa[k].reads.length:=aI _;rw[hl];refine(cL e).trans ?_;have e2:j4 n.aC.length++jE 0 (n.aa.take (k+1))=j4 n.aC.length++jE 0 (n.aa.take k)++mN k n.aa[k].reads.length:=by rw[dy hMk,Qz,cz,dx,Nat.min_eq_left (by omega),Nat.zero_add];rfl
  rw[e2];have hw:=cf (x:=(k:Int)+1) (by omega);show some (Sum.inl (_,(IntKind.wrap (.i64:IntKind) ((k:Int)+1),_)))=_;rw[hw];rfl
 .unfold nt w4
  try dsimp only
  unfold Ft;rw[gd (au (by omega)),dS];rfl
theorem ahZ(n:aB)(V:Nat)(of m lv vs:List Int)(nd:List bE)(a b:Int)(k:Nat)(hk:k<=3000)(hln:vs.length<=100000)(hvs:∀v∈vs,0<=v/\v<=(V:Int))(hof:of.length=V+1) :
  Fc ((k:Int),(a,(b,(vs,((vs.length:Int),((0:Int),nt n (w4 of nd m lv)))))))=some (a,(b,nt n (w4 (dg of (vs.map Int.toNat) ((k:Int)+1)) nd m lv))):=by
 unfold Fc;delta Gi;refine dn (fun j:Nat=>((k:Int),(a,(b,(vs,((vs.length:Int),((j:Int),nt n (w4 (dg of ((vs.take j).map Int.toNat) ((k:Int)+1)) nd m lv)))))))) vs.length rfl ?_ ?_ (bL (by omega))
 .intro j hj;have hv:=aN hj;obtain⟨h0,h1⟩:=hvs _ (dk hj);obtain⟨v,hv2⟩:=ie h0;rw[hv2]at hv h1;unfold nt w4
  try dsimp only
  unfold Fp;rw[je (ar (by omega)),fe (aK ⟨by omega,by omega⟩),bF (σ:=.int .i64) hv,fe (aK ⟨by omega,by rw[lQ,hof];omega⟩),cf (x:=(j:Int)+1) (by omega),cf (x:=(k:Int)+1) (by omega)];rw[dy hv,eJ,List.map_cons,List.map_nil,xU];rfl
 .unfold nt w4
  try dsimp only
  unfold Fp;rw[gd (au (by omega)),dS];rfl
theorem ahY{n:aB}{V:Nat}(hs:cr n V)(ft:Fit n)(m lv:List Int):Fj (((fc n).length:Int),((0:Int),nt n (w4 (List.replicate (V+1) 0) (fc n) m lv)))=some (wk n V m lv):=by
 have hnl:=QH hs;have hV2:=hs.v2;have hnl2:(fc n).length=(aR n).length:=by rw[Zuw];unfold aR;rw[aI]
 have hmw:∀M∈n.aa,0<=M.word:=fun M hM=>by have:=hs.aa M hM;omega
 unfold Fj;delta i7;refine dn (fun k:Nat=>(((fc n).length:Int),((k:Int),nt n (w4 (fY (aR n) V k) (fc n) m lv)))) (fc n).length rfl ?_ ?_ (bL (by omega))
 .intro k hk;have hxd:=aN hk;obtain⟨y,hy1,hy2⟩:=Kc n hxd;have hy:=dc hy1;have hx:(aR n)[k]?=some y.nd:=by rw[Ki,hy1];rfl
  have hxd':((fc n).map dM)[k]?=some (dM (fc n)[k]):=by rw[bT,hxd];rfl
  have hvs:∀u∈y.to,0<=u/\u<=(V:Int):=fun u hu=>by have:=hs.lF hy hu;omega
  have hlens:=FH hs hy;have e1:=VP (of:=fY (aR n) V k) (m:=m) (lv:=lv) (nd:=fc n) hy2 ft hmw;have e2:=ahZ n V (fY (aR n) V k) m lv y.to (fc n) ((fc n).length:Int) (k:Int) k (by omega) (by omega) hvs (FC _ _ _);unfold nt w4
  try dsimp only
  unfold Fq;refine ax (ar (by omega)) (ak (aK ⟨by omega,by rw[aI];omega⟩) ?_);rw[bF hxd'];refine ah e1 (ah e2 ?_);rw[WW hx];have hw:=cf (x:=(k:Int)+1) (by omega);show some (Sum.inl (_,(IntKind.wrap (.i64:IntKind) ((k:Int)+1),_)))=_;rw[hw];rfl
 .unfold nt w4
  try dsimp only
  unfold Fq;rw[gd (au (by omega)),hnl2];rfl
theorem abq{n:aB}{V:Nat}(hs:cr n V)(ft:Fit n):Zo9 (nt n ())=some (wk n V (List.replicate (V+1) 0) (List.replicate (V+1) 0)):=by
 have hV2:=hs.v2;have hvars:=hs.vars;have e3:=aiG n (List.replicate (V+1) 0) (List.replicate (V+1) 0) (List.replicate (V+1) 0) hs.lens.2.2.1;have e8:=aiH n (List.replicate (V+1) 0) (List.replicate (V+1) 0) (List.replicate (V+1) 0) hs.lens.2.2.1 hs.lens.2.2.2.2 (fun M hM=>(hs.aa M hM).2.2.2.2.2.2.1);have e17:=ahY hs ft (List.replicate (V+1) 0) (List.replicate (V+1) 0);have hw:IntKind.wrap (.i64:IntKind) (n.vars+1)=((V+1:Nat):Int):=by rw[hvars,cf (by omega)];omega
 show P6 xz Fl Fk Fe Fj Fc n.vars n.aL (n.aj.map bf) n.bz n.bc n.constraints (n.aa.map af) (n.aC.map cG)=_;unfold P6;rw[hw];have hc:∀k:Int,0<=k->k<=8->both (decide ((0:Int)<=((V+1:Nat):Int))) (both (decide (((V+1:Nat):Int)<=((V+1:Nat):Int))) (decide (k*((V+1:Nat):Int)<=281474976710656)))=true:=by intro k h0 h8;rw[bG (by omega),bG (by omega),bG (by have:k*((V+1:Nat):Int)<=8*((V+1:Nat):Int):=Int.mul_le_mul_of_nonneg_right h8 (by omega);omega)];rfl
 have e3':Fl (((List.map cG n.aC).length:Int),((0:Int),nt n (nt n (w4 (List.replicate (V+1) 0) [] (List.replicate (V+1) 0) (List.replicate (V+1) 0)))))=some (nt n (nt n (w4 (List.replicate (V+1) 0) (j4 n.aC.length) (List.replicate (V+1) 0) (List.replicate (V+1) 0)))):=by rw[aI];exact e3
 have e8':Fk (((List.map af n.aa).length:Int),((0:Int),nt n (nt n (w4 (List.replicate (V+1) 0) (j4 n.aC.length) (List.replicate (V+1) 0) (List.replicate (V+1) 0)))))=some (nt n (w4 (List.replicate (V+1) 0) (fc n) (List.replicate (V+1) 0) (List.replicate (V+1) 0))):=by rw[aI];exact e8
 have e17':Fj (((List.map dM (fc n)).length:Int),((0:Int),nt n (w4 (List.replicate (V+1) 0) (fc n) (List.replicate (V+1) 0) (List.replicate (V+1) 0))))=some (wk n V (List.replicate (V+1) 0) (List.replicate (V+1) 0)):=by rw[aI];exact e17
 exact ak (hc 8 (by decide) (by decide)) (ak (hc 1 (by decide) (by decide)) (ak (hc 8 (by decide) (by decide)) (ah e3' (ah e8' (ah e17' rfl)))))
theorem afh{V:Nat}{m:List Int}(h:V<=2000):fresh V m<NN:=by
 have z:∀(p:Nat->Bool) k,zc p k<=k:=by
  intro p k
  induction k with|zero=>exact aS _|succ k ih=>rw[zc];split<;>omega
 have:fresh V m<=V+1:=z _ _;exact bL (by omega)
theorem UO{n:aB}{V:Nat}(hs:cr n V)(ft:Fit n) :
  ∃m lv,Zhj (wk n V (List.replicate (V+1) 0) (List.replicate (V+1) 0))=some (eO (aR n) V,wk n V m lv) /\
   (eO (aR n) V=true->lv.length=V+1/\∀v,v<=V->∃k:Nat,aE lv v=(k:Int)/\df (aR n) v k):=by
 have hV2:=hs.v2;have hL:=mW (B:=fun d=>PQ OW d.1 d.2.1 d.2.2.1 d.2.2.2.1 d.2.2.2.2.1 d.2.2.2.2.2.1 d.2.2.2.2.2.2.1 d.2.2.2.2.2.2.2.1 d.2.2.2.2.2.2.2.2.1 d.2.2.2.2.2.2.2.2.2.1 d.2.2.2.2.2.2.2.2.2.2.1 d.2.2.2.2.2.2.2.2.2.2.2.1 d.2.2.2.2.2.2.2.2.2.2.2.2.1 d.2.2.2.2.2.2.2.2.2.2.2.2.2.1)
  (I:=fun d:Int×Int×WT=>∃(k:Nat) (m lv:List Int),d=(((V+1:Nat):Int),((k:Int),wk n V m lv))/\k<=V+1/\VI (aR n) V m lv/\(∀u,u<=V->aE m u≠1)/\(∀u,u<k->tl (aR n) m u))
  (Q:=fun o:Out EJ=>(∃m lv,o=.inl (false,wk n V m lv)/\∃u,u<=V/\∀k,¬df (aR n) u k)\/(∃m lv,o=.inr (wk n V m lv)/\VI (aR n) V m lv/\∀u,u<V+1->tl (aR n) m u))
  (μ:=fun d=>V+1-d.2.1.toNat) ?_ NN (((V+1:Nat):Int),((0:Int),wk n V (List.replicate (V+1) 0) (List.replicate (V+1) 0))) ⟨0,_,_,rfl,by omega,vi0,fun u hu=>by unfold aE;rw[bM,List.getElem?_replicate];split<;>simp,fun u h=>by omega⟩ (bL (by omega))
 .obtain⟨o,ho,hcase⟩:=hL;have hlen:((List.length (fY (aR n) V (aR n).length):Nat):Int)=((V+1:Nat):Int):=by rw[FC]
  have ho':Zhi (((List.length (fY (aR n) V (aR n).length):Nat):Int),((0:Int),wk n V (List.replicate (V+1) 0) (List.replicate (V+1) 0)))=some o:=by rw[hlen];exact ho
  rcases hcase with⟨m,lv,rfl,u,hu,hno⟩|⟨m,lv,rfl,hI,hT⟩
  .have hf:eO (aR n) V=false:=by
    cases h:eO (aR n) V
    .rfl
    .obtain⟨kk,hkk⟩:=(qJ hs.apart V).1 h u hu;exact absurd hkk (hno kk)
   rw[hf];exact⟨m,lv,ah ho' rfl,fun h=>by cases h⟩
  .have hl:∀v,v<=V->∃k:Nat,aE lv v=(k:Int)/\df (aR n) v k:=fun v hv=>Bj hI hv (hT v (by omega));have ht:eO (aR n) V=true:=(qJ hs.apart V).2 fun v hv=>by obtain⟨k,_,h⟩:=hl v hv;exact⟨k,h⟩
   rw[ht];exact⟨m,lv,ah ho' rfl,fun _=>⟨hI.ll,hl⟩⟩
 .rintro _ ⟨k,m,lv,rfl,hk,hI,hU,hT⟩;by_cases hlt:k<V+1
  .obtain⟨b,m2,lv2,e,hp⟩:=af4 hs ft NN m lv k hI (fun u hu h=>absurd h (hU u hu)) (by omega) (afh hV2);have e':OW ((k:Int),wk n V m lv)=some (b,wk n V m2 lv2):=e;rcases hp with⟨rfl,hI7,hE7,ht7⟩|⟨rfl,u',hu',hno⟩
   .right;refine⟨_,ax (ar (show(k:Int)<((V+1:Nat):Int) by omega)) (ah e' (ag rfl rfl)),⟨k+1,m2,lv2,?_,by omega,hI7,fun u hu h=>hU u hu (hE7.b u hu h),fun u hu=>?_⟩,?_⟩
    .have e2:∀a a':Int,a=a'->(((V+1:Nat):Int),(a,wk n V m2 lv2))=(((V+1:Nat):Int),(a',wk n V m2 lv2)):=by rintro _ _ rfl;rfl
     exact e2 _ _ (cf (x:=(k:Int)+1) (by omega))
    .by_cases e:u=k
     .subst e;exact ht7
     .exact(JY hI hI7 hE7 (by omega) (hT u (by omega))).1
    .show V+1-(IntKind.wrap (.i64:IntKind) ((k:Int)+1)).toNat<V+1-(k:Int).toNat;rw[cf (x:=(k:Int)+1) (by omega)];omega
   .left;exact⟨_,ax (ar (show(k:Int)<((V+1:Nat):Int) by omega)) (ah e' (ax rfl rfl)),.inl ⟨m2,lv2,rfl,u',hu',hno⟩⟩
  .left;exact⟨_,ag (au (show ¬(k:Int)<((V+1:Nat):Int) by omega)) rfl,.inr ⟨m,lv,rfl,hI,fun u hu=>hT u (by omega)⟩⟩
theorem xZ{n:aB}(ft:Fit n):Zfn (cH n,())=some (dF n,()):=by
 have es:mC (cH n,())=some (dv n,()):=by unfold mC;rw[show js ((cH n,()):TL [ca]).1=n from o9 n,Bi ft];rfl
 by_cases h0:dv n=0
 .obtain⟨V,hs⟩:=qK h0;have hV:n.vars.toNat=V:=by rw[hs.vars];rfl
  obtain⟨m,lv,ea,_⟩:=UO hs ft;have ew:=abq hs ft;cases hc:eO (aR n) V
  .have et:xN (nt n ())=some (.inl ((8:Int),())):=by refine ah es (ag (by rw[h0];rfl) (ah ew (ah ea (ax (by rw[hc];rfl) rfl))))
   refine(ah et rfl).trans ?_;unfold dF;rw[h0,hV,hc];rfl
  .have et:xN (nt n ())=some (.inr ((0:Int),wk n V m lv)):=by refine ah es (ag (by rw[h0];rfl) (ah ew (ah ea (ag (by rw[hc];rfl) rfl))))
   refine(ah et rfl).trans ?_;unfold dF;rw[h0,hV,hc];rfl
 .have et:xN (nt n ())=some (.inl (dv n,())):=by refine ah es (ax (by simp[h0]) rfl)
  refine(ah et rfl).trans ?_;unfold dF;rw[if_pos h0];rfl
def A6(n:aB)(k:Nat):List (bE×bq):=(j4 k).zip ((n.aC.take k).map ij)
def M6(n:aB)(k:Nat):List (bE×bq):=(jE 0 (n.aa.take k)).zip ((n.aa.take k).flatMap km)
def R6(j:Nat)(M:aV)(r:Nat):List (bE×bq):=(mN j r).zip ((M.reads.take r).map (oI M.word))
def n6(n:aB):List (bE×bq):=A6 n n.aC.length++M6 n n.aa.length
theorem af9{n:aB}{k:Nat}{a:fw}(h:n.aC[k]?=some a):A6 n (k+1)=A6 n k++[(⟨false,0,k⟩,ij a)]:=by unfold A6;rw[Wf,dy h,eJ,List.zip_append (by rw[tZ,aI,dx];have:=dz h;omega)];rfl
theorem WB{n:aB}{k:Nat}(h:k<=n.aC.length):(A6 n k).length=k:=by unfold A6;rw[List.length_zip,tZ,aI,dx];omega
theorem agb{j:Nat}{M:aV}{k:Nat}{r:jb}(h:M.reads[k]?=some r):R6 j M (k+1)=R6 j M k++[(⟨true,j,k⟩,oI M.word r)]:=by unfold R6;rw[WR,dy h,eJ,List.zip_append (by rw[Qx,aI,dx];have:=dz h;omega)];rfl
theorem akj{j:Nat}{M:aV}{k:Nat}(h:k<=M.reads.length):(R6 j M k).length=k:=by unfold R6;rw[List.length_zip,Qx,aI,dx];omega
theorem aga{n:aB}{k:Nat}{M:aV}(h:n.aa[k]?=some M):M6 n (k+1)=M6 n k++R6 k M M.reads.length:=by unfold M6 R6;rw[dy h,Qz,List.flatMap_append,List.zip_append (by rw[tX])];have:=dz h;rw[dx,Nat.min_eq_left (by omega),Nat.zero_add,dS];simp only[List.flatMap_cons,List.flatMap_nil,dB];rfl
theorem ahI(n:aB)(hA:n.aC.length<=2000):Zeg ((0:Int),nt n ([],()))=some (nt n ((A6 n n.aC.length).map dj,())):=by
 unfold Zeg;delta kU;refine dn (fun k:Nat=>((k:Int),nt n ((A6 n k).map dj,()))) n.aC.length rfl ?_ ?_ (bL (by omega))
 .intro k hk;have ha:=aN hk;have ha':(n.aC.map cG)[k]?=some (cG n.aC[k]):=by rw[bT,ha];rfl
  unfold nt
  try dsimp only
  unfold EX;refine ax (ar (show(k:Int)<(((n.aC.map cG).length:Nat):Int) by rw[aI];omega)) (ak (aK ⟨by omega,by rw[aI];omega⟩) ?_);rw[bF ha'];refine ak (qd (L:=(A6 n k).map dj) (by rw[aI,WB (by omega)];omega) (by decide)) ?_;rw[cf (x:=(k:Int)+1) (by omega),af9 ha,List.map_append (l₁:=A6 n k)];rfl
 .unfold nt
  try dsimp only
  unfold EX;refine ag (au (show ¬(n.aC.length:Int)<(((n.aC.map cG).length:Nat):Int) by rw[aI];omega)) rfl
theorem agS{n:aB}{j:Nat}{M:aV}(hM:n.aa[j]?=some M)(hw:0<=M.word/\M.word<=4000)(hR:M.reads.length<=4)(hrv:∀r∈M.reads,-1099511627776<=r.var/\r.var<=1099511627776)(hj:j<=4)(pre:List (bE×bq))(hp:pre.length<=3000) :
  OS ((j:Int),((0:Int),nt n (pre.map dj,())))=some ((j:Int),nt n ((pre++R6 j M M.reads.length).map dj,())):=by
 have hM':(n.aa.map af)[j]?=some (af M):=by rw[bT,hM];rfl
 have hjl:=dz hM';unfold OS;delta kV;refine dn (fun k:Nat=>((j:Int),((k:Int),nt n ((pre++R6 j M k).map dj,())))) M.reads.length (by rw[show R6 j M 0=[]from rfl,dB];rfl) ?_ ?_ (bL (by omega))
 .intro k hk;have hr:=aN hk;have hr':(M.reads.map bW)[k]?=some (bW M.reads[k]):=by rw[bT,hr];rfl
  have e1:=ae3 M k _ hr hw (hrv _ (dk hk));unfold nt
  try dsimp only
  unfold ES;rw[fe (aK ⟨by omega,by omega⟩),bF hM',show(af M).2.2.2.1=M.reads.map bW from rfl];refine ax (ar (show(k:Int)<(((M.reads.map bW).length:Nat):Int) by rw[aI];omega)) (ak (aK ⟨by omega,by omega⟩) (ak (aK ⟨by omega,by rw[aI];omega⟩) (ak (aK ⟨by omega,by omega⟩) ?_)));rw[bF hr'];refine(cL e1).trans (ak (qd (L:=(pre++R6 j M k).map dj) (by rw[aI,aU,akj (by omega)];omega) (by decide)) ?_);rw[cf (x:=(k:Int)+1) (by omega),agb hr,<-cz,List.map_append (l₁:=pre++R6 j M k)];rfl
 .unfold nt
  try dsimp only
  unfold ES;rw[fe (aK ⟨by omega,by omega⟩),bF hM',show(af M).2.2.2.1=M.reads.map bW from rfl];exact ag (au (show ¬(M.reads.length:Int)<(((M.reads.map bW).length:Nat):Int) by rw[aI];omega)) rfl
theorem akk(n:aB)(k:Nat):(M6 n k).length=((n.aa.take k).flatMap km).length:=by unfold M6;rw[List.length_zip,tX];omega
theorem pG(n:aB):(n6 n).map (fun x:bE×bq=>x.2)=fm n:=by
 unfold n6 A6 M6 fm;rw[eJ,dS,dS];congr 1
 .exact List.map_snd_zip (by rw[tZ,aI];omega)
 .exact List.map_snd_zip (by rw[tX];omega)
theorem px(n:aB):(n6 n).map (fun x:bE×bq=>x.2.nd)=aR n:=by unfold aR;rw[<-pG,List.map_map];rfl
theorem AR{n:aB}{V:Nat}(hs:cr n V):N6 (n6 n) V:=by
 have hm:∀x∈n6 n,x.2∈fm n:=fun x hx=>by rw[<-pG];exact List.mem_map_of_mem hx
 refine⟨hs.v2,?_,fun x hx=>⟨?_,fun v hv=>?_⟩,fun x hx=>⟨?_,fun l hl=>?_⟩⟩
 .have h:=QH hs;rw[<-px,aI]at h;exact h
 .have:=(FH hs (hm x hx)).1;omega
 .have:=hs.lF (hm x hx) hv;omega
 .have:=(FH hs (hm x hx)).2;omega
 .have:=hs.Br (hm x hx) hl;omega
theorem anx{n:aB}{V:Nat}(hs:cr n V)(ft:Fit n):Zam (cH n,())=some ((n6 n).map dj,()):=by
 have hA:=hs.lens.2.2.1;have hMl:=hs.lens.2.2.2.2;have e3:=ahI n hA;have hlen:∀k,k<=n.aa.length->(A6 n n.aC.length++M6 n k).length<=3000:=by
  intro k hk;rw[aU,WB (aS _),akk];have:=Bd km (n.aa.take k) 4 (fun M hM=>by unfold km;rw[aI];exact(hs.aa M (List.mem_of_mem_take hM)).2.2.2.2.2.2.1);have h2:(n.aa.take k).length<=4:=by rw[dx];omega
  omega
 have e8:Zef ((0:Int),nt n ((A6 n n.aC.length).map dj,()))=some ((n6 n).map dj,()):=by
  unfold Zef;delta kU;refine dn (fun k:Nat=>((k:Int),nt n ((A6 n n.aC.length++M6 n k).map dj,()))) n.aa.length (by rw[show M6 n 0=[]from rfl,dB];rfl) ?_ ?_ (bL (by omega))
  .intro k hk;have hM:=aN hk;have hm:=hs.aa _ (dk hk);have hfit:=ft.aa.2 _ (dk hk);have e11:=agS hM ⟨by omega,by omega⟩ hm.2.2.2.2.2.2.1 (fun r hr=>⟨(hfit.ks r hr).2.1,(hfit.ks r hr).2.2.1⟩) (by omega) (A6 n n.aC.length++M6 n k) (hlen k (by omega));unfold nt
   try dsimp only
   unfold EW;refine ax (ar (show(k:Int)<(((n.aa.map af).length:Nat):Int) by rw[aI];omega)) ((cL e11).trans ?_);have e:∀(p q:Int) (s s':List dU.T),p=q->s=s'->(some (.inl (p,nt n (s,()))):Option (TL Ez.σs⊕Out Ek))=some (.inl (q,nt n (s',()))):=by rintro _ _ _ _ rfl rfl;rfl
   exact e _ _ _ _ (cf (x:=(k:Int)+1) (by omega)) (by rw[aga hM,cz]<;>rfl)
  .unfold nt
   try dsimp only
   unfold EW;exact ag (au (show ¬(n.aa.length:Int)<(((n.aa.map af).length:Nat):Int) by rw[aI];omega)) rfl
 exact ah e3 (ah e8 rfl)
theorem akl{n:aB}{V:Nat}(hs:cr n V)(ft:Fit n)(h0:dv n=0) :
  Zfg (cH n,())=some (if eO (aR n) V then(ji (aR n) ((n6 n).length+1) (jt (aR n) V),(true,()))else([],(false,()))):=by
 have hV2:=hs.v2;have h6:=AR hs;have es:tM (cH n,())=some (dv n,()):=by unfold tM mC;rw[show js ((cH n,()):TL [ca]).1=n from o9 n,Bi ft];rfl
 have eN:=anx hs ft;have hw:IntKind.wrap (.i64:IntKind) (n.vars+1)=((V+1:Nat):Int):=by rw[hs.vars,cf (by omega)];omega
 have e6:=aim h6 (List.replicate (V+1) 0) (by simp);rw[px]at e6;have hout:dg (List.replicate (V+1) 0) ((aR n).flatMap (·.to)) (-1)=jt (aR n) V:=rfl;rw[hout]at e6;have hol:(jt (aR n) V).length=V+1:=by unfold jt;rw[lQ];simp
 have hob:∀u,aE (jt (aR n) V) u<=0:=by unfold jt;refine QJ (l:=List.replicate (V+1) 0) (by omega) _ (fun u=>?_);unfold aE;rw[bM,List.getElem?_replicate];split<;>simp
 have e14:=ahu h6 (jt (aR n) V) hol hob;rw[px]at e14;have hNl:(n6 n).length=(aR n).length:=by rw[<-px,aI]
 have ht:=ajb hs.apart hs.aY hs.gr;rw[<-hNl]at ht;have hle:=QX (aR n) (ji (aR n) (n6 n).length (jt (aR n) V));show Pk OD Zam tM O1 EI OZ EA Ee (cH n)=_;unfold Pk;refine(cL es).trans (ag (by rw[h0];rfl) ?_);have hw':IntKind.wrap (.i64:IntKind) (@HAdd.hAdd Int Int Int _ (cH n).1 (1:Int))=((V+1:Nat):Int):=hw;rw[hw'];refine ak (by show both (decide _) (both (decide _) (decide _))=true;rw[bG (by omega),bG (by omega),bG (by show(8:Int)*_<=_;omega)];rfl) ((cL eN).trans ((cL e6).trans ((cL e14).trans ?_)));by_cases ha:eO (aR n) V=true
 .have hz:=ht.2 ha;rw[if_pos ha];refine ag (au (by show ¬(0:Int)<((iA (aR n) (ji (aR n) (n6 n).length (jt (aR n) V)):Nat):Int);rw[hz];omega)) rfl
 .have hz:iA (aR n) (ji (aR n) (n6 n).length (jt (aR n) V))≠0:=fun h=>ha (ht.1 h);rw[if_neg ha];refine ax (ar (by show(0:Int)<((iA (aR n) (ji (aR n) (n6 n).length (jt (aR n) V)):Nat):Int);omega)) rfl
theorem QQ{n:aB}(ft:Fit n):Zb7 (cH n,())=some (dF n,()):=by
 have es:tM (cH n,())=some (dv n,()):=by unfold tM mC;rw[show js ((cH n,()):TL [ca]).1=n from o9 n,Bi ft];rfl
 by_cases h0:dv n=0
 .obtain⟨V,hs⟩:=qK h0;have hV:n.vars.toNat=V:=by rw[hs.vars];rfl
  have eL:=akl hs ft h0;unfold dF;rw[h0,hV,if_neg (by simp)];by_cases ha:eO (aR n) V=true
  .rw[if_pos ha]at eL;rw[if_pos ha];exact ah es (ag (by rw[h0];rfl) (ah eL (ag rfl rfl)))
  .rw[if_neg ha]at eL;rw[if_neg ha];exact ah es (ag (by rw[h0];rfl) (ah eL (ax rfl rfl)))
 .unfold dF;rw[if_pos h0];exact ah es (ax (by simp[h0]) rfl)
