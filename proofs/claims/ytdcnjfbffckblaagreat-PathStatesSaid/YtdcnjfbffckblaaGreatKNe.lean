import Derived.Test.YtdcnjfbffckblaaGreatKNd
set_option linter.unusedVariables false
set_option linter.unusedSimpArgs false
set_option linter.unnecessarySimpa false
section
namespace Go.Proofs.YtdcnjfbffckblaaGreat.Pl
structure bq where
 rd:Bool
 mem:Nat
 pos:Nat
structure bl where
 to:List Int
 aF:List Int
def nj(a:ey):bl:=⟨[a.var],[a.a,a.b]⟩
def mT(word:Int)(r:iu):bl:=⟨cu r.var word.toNat,r.addr⟩
def gD(m:cr):List bl:=m.reads.map (mT m.word)
def eh(n:aG):List bl:=n.aw.map nj++n.aa.flatMap gD
def fA(k:Nat)(m:cr):List bq:=(List.range m.reads.length).map fun i=>⟨true,k,i⟩
def fP(k:Nat):List cr->List bq
 |[]=>[]|m::l=>fA k m++fP (k+1) l
def dp(n:aG):List bq:=(List.range n.aw.length).map (fun i=>⟨false,0,i⟩)++fP 0 n.aa
def bq.is(n:aG)(x:bq)(i:bl):Prop:=(x.rd=false/\∃a,n.aw[x.pos]?=some a/\i=nj a)\/(x.rd=true/\∃m r,n.aa[x.mem]?=some m/\m.reads[x.pos]?=some r/\i=mT m.word r)
theorem Td(n:List cr):∀(l:List cr) (k:Nat),(∀j,l[j]?=n[k+j]?)->∀(i:Nat) (x:bq),(fP k l)[i]?=some x->∃(m:cr) (r:iu),n[x.mem]?=some m/\m.reads[x.pos]?=some r/\(l.flatMap gD)[i]?=some (mT m.word r)/\x.rd=true:=by
 intro l
 induction l with
 |nil=>intro k _ i x h;simp[fP]at h|cons m l ih=>
  intro k hk i x h;rw[fP]at h;rw[List.flatMap_cons];have hl1:(fA k m).length=m.reads.length:=by simp[fA]
  have hl2:(gD m).length=m.reads.length:=by simp[gD]
  by_cases hi:i<m.reads.length
  .rw[List.getElem?_append_left (by omega)]at h;rw[List.getElem?_append_left (by omega)];unfold fA at h;rw[bT,List.getElem?_range hi]at h;injection h with h;subst h;have:=hk 0;rw[Nat.add_zero]at this;refine⟨m,m.reads[i],by rw[<-this];rfl,bu hi,?_,rfl⟩;unfold gD;rw[bT,bu hi];rfl
  .rw[List.getElem?_append_right (by omega)]at h;rw[List.getElem?_append_right (by omega)];rw[hl1]at h;rw[hl2];exact ih (k+1) (fun j=>by have:=hk (j+1);rw[show k+1+j=k+(j+1) by omega,<-this];rfl) _ x h
theorem pc:∀(l:List cr) (k:Nat),(fP k l).length=(l.flatMap gD).length:=by
 intro l
 induction l with|nil=>intro k;rfl|cons m l ih=>intro k;rw[fP,List.flatMap_cons,bA,bA,ih];simp[fA,gD]
theorem QE(n:aG):(dp n).length=(eh n).length:=by unfold dp eh;simp only[bA,pc];simp
theorem Bh(n:aG){i:Nat}{x:bq}(h:(dp n)[i]?=some x):∃y,(eh n)[i]?=some y/\x.is n y:=by
 unfold dp at h;unfold eh;have hl1:((List.range n.aw.length).map (fun i=>(⟨false,0,i⟩:bq))).length=n.aw.length:=by simp
 have hl2:(n.aw.map nj).length=n.aw.length:=by simp
 by_cases hi:i<n.aw.length
 .rw[List.getElem?_append_left (by omega)]at h;rw[List.getElem?_append_left (by omega)];rw[bT,List.getElem?_range hi]at h;injection h with h;subst h;rw[bT,bu hi];exact⟨_,rfl,.inl ⟨rfl,_,bu hi,rfl⟩⟩
 .rw[List.getElem?_append_right (by omega)]at h;rw[List.getElem?_append_right (by omega)];rw[hl1]at h;rw[hl2];obtain⟨m,r,h1,h2,h3,h4⟩:=Td n.aa n.aa 0 (fun j=>by simp) _ x h;exact⟨_,h3,.inr ⟨h4,m,r,h1,h2,rfl⟩⟩
def bl.nd(x:bl):Nd:=⟨x.aF.map fun l=>(l / 2).toNat,x.to.map Int.toNat⟩
def bb(n:aG):List Nd:=(eh n).map bl.nd
theorem W8{V:Int}:∀(l pre:List Int),pre.Nodup->(∀x∈pre,1<=x/\x<=V)->dup V pre l=0->(pre++l).Nodup/\∀x∈pre++l,1<=x/\x<=V:=by
 intro l
 induction l with
 |nil=>intro pre h1 h2 _;simpa using⟨h1,h2⟩|cons v l ih=>
  intro pre h1 h2 h;rw[dup]at h;by_cases ha:v<1\/V<v
  .rw[if_pos ha]at h;omega
  .rw[if_neg ha]at h;by_cases hc:pre.contains v=true
   .rw[if_pos hc]at h;omega
   .rw[if_neg hc]at h;have hn:v∉pre:=by simpa using hc
    have:=ih (pre++[v]) (by
     rw[List.nodup_append];exact⟨h1,by simp,fun a ha' b hb=>by simp at hb;subst hb;rintro rfl;exact hn ha'⟩) (fun x hx=>by
     rcases List.mem_append.1 hx with hx|hx
     .exact h2 x hx
     .simp at hx;subst hx;omega) h
    simpa using this
structure cL(n:aG)(V:Nat):Prop where
 vars:n.vars=(V:Int)
 v2:V<=2000
 nodup:(bV n).Nodup
 jN:∀x∈bV n,1<=x/\x<=(V:Int)
 lits:∀l∈cW n,0<=l/\l / 2<=(V:Int)
 aa:∀m∈n.aa,1<=m.addr/\m.addr<=62/\1<=m.word/\m.word<=64/\(∀r∈m.reads,(r.addr.length:Int)=m.addr)/\(∀x∈m.writes,(x.addr.length:Int)=m.addr/\(x.data.length:Int)=m.word)/\m.reads.length<=4/\m.writes.length<=4
 init:∀l∈n.af,0<=l.init/\l.init<=2
 lens:n.aU.length<=2000/\n.af.length<=2000/\n.aw.length<=2000/\n.bB.length+n.bC.length+n.constraints.length<=1000/\n.aa.length<=4
theorem any_false{α:Type}{p:α->Bool}{l:List α}(h:¬l.any p=true):∀x∈l,p x=false:=by
 intro x hx;cases hp:p x
 .rfl
 .exact absurd (List.any_eq_true.2 ⟨x,hx,hp⟩) h
theorem Bk{n:aG}(h:ed n=0):∃V,cL n V:=by
 unfold ed at h;by_cases h1:hG n=true
 .rw[if_pos h1]at h;omega
 rw[if_neg h1]at h;by_cases h2:n.aa.any eu=true
 .rw[if_pos h2]at h;omega
 rw[if_neg h2]at h;by_cases h3:n.af.any fO=true
 .rw[if_pos h3]at h;omega
 rw[if_neg h3]at h;by_cases h4:dup n.vars [] (bV n)≠0
 .rw[if_pos h4]at h;exact absurd h h4
 rw[if_neg h4]at h;by_cases h5:(cW n).any (iD n.vars)=true
 .rw[if_pos h5]at h;omega
 unfold hG at h1;rw[Bool.or_eq_true,not_or]at h1;obtain⟨h1a,h1b⟩:=h1;have h1a':¬(n.vars<0\/2000<n.vars\/2000<n.aU.length\/2000<n.af.length\/2000<n.aw.length\/1000<n.bB.length+n.bC.length+n.constraints.length\/4<n.aa.length):=by simpa using h1a
 obtain⟨V,hV⟩:=Int.eq_ofNat_of_zero_le (show 0<=n.vars by omega);obtain⟨d1,d2⟩:=W8 (V:=n.vars) (bV n) [] (by simp) (by simp) (by omega);simp only[List.nil_append]at d1 d2;refine⟨V,hV,by omega,d1,fun x hx=>hV▸d2 x hx,fun l hl=>?_,fun m hm=>?_,fun l hl=>?_,⟨by omega,by omega,by omega,by omega,by omega⟩⟩
 .have:=any_false h5 l hl;unfold iD at this;have:¬(l<0\/n.vars<l / 2):=by simpa using this
  omega
 .have hw:=any_false h2 m hm;have hp:=any_false h1b m hm;unfold fu at hp;have hp:¬(4<m.reads.length\/4<m.writes.length):=by simpa using hp
  unfold eu at hw;rw[Bool.or_eq_false_iff,Bool.or_eq_false_iff]at hw;obtain⟨⟨w1,w2⟩,w3⟩:=hw;have w1:¬(m.addr<1\/62<m.addr\/m.word<1\/64<m.word):=by simpa using w1
  refine⟨by omega,by omega,by omega,by omega,fun r hr=>?_,fun x hx=>?_,by omega,by omega⟩
  .have:=any_false (p:=jr m) (by rw[w2];simp) r hr;unfold jr at this;simpa using this
  .have:=any_false (p:=iz m) (by rw[w3];simp) x hx;unfold iz at this;rw[Bool.or_eq_false_iff]at this;exact⟨by simpa using this.1,by simpa using this.2⟩
 .have:=any_false h3 l hl;unfold fO at this;have:¬(l.init<0\/2<l.init):=by simpa using this
  omega
theorem JV(n:aG):(eh n).flatMap bl.to=n.aw.map (·.var)++n.aa.flatMap jJ:=by
 unfold eh;rw[List.flatMap_append];congr 1
 .induction n.aw with|nil=>rfl|cons a l ih=>rw[List.map_cons,List.flatMap_cons,ih];rfl
 .rw[List.flatMap_assoc];congr 1;funext m;unfold gD jJ;rw[List.flatMap_map];rfl
theorem VR{α:Type}{f:α->List Int}:∀{l:List α},(l.flatMap f).Nodup->∀{i j:Nat}{x y:α}{v:Int},l[i]?=some x->l[j]?=some y->v∈f x->v∈f y->i=j:=by
 intro l
 induction l with
 |nil=>intro _ i j x y v h;simp at h|cons a l ih=>
  intro hn i j x y v hi hj hx hy;rw[List.flatMap_cons,List.nodup_append]at hn;obtain⟨h1,h2,h3⟩:=hn;cases i with
  |zero=>cases j with|zero=>rfl|succ j=>simp at hi hj;subst hi;exact absurd rfl (h3 v hx v (List.mem_flatMap.2 ⟨y,cK hj,hy⟩))
  |succ i=>cases j with|zero=>simp at hi hj;subst hj;exact absurd rfl (h3 v hy v (List.mem_flatMap.2 ⟨x,cK hi,hx⟩))|succ j=>simp at hi hj;rw[ih h2 hi hj hx hy]
section
variable{n:aG}{V:Nat}
theorem cL.Uj(s:cL n V):((eh n).flatMap bl.to).Nodup:=by rw[JV];have:=s.nodup;unfold bV at this;rw[dn,List.nodup_append]at this;have:=this.2.1;rw[List.nodup_append]at this |-;exact⟨this.2.1,this.1,fun a ha b hb e=>this.2.2 b hb a ha e.symm⟩
theorem cL.lN(s:cL n V){x:bl}(hx:x∈eh n){v:Int}(hv:v∈x.to):1<=v/\v<=(V:Int):=by have:v∈(eh n).flatMap bl.to:=List.mem_flatMap.2 ⟨x,hx,hv⟩;rw[JV]at this;refine s.jN v ?_;unfold bV;rcases List.mem_append.1 this with h|h<;>simp[h]
theorem cL.Bv(s:cL n V){x:bl}(hx:x∈eh n){l:Int}(hl:l∈x.aF):0<=l/\l / 2<=(V:Int):=by
 refine s.lits l ?_;unfold eh at hx;unfold cW;rcases List.mem_append.1 hx with hx|hx
 .obtain⟨a,ha,rfl⟩:=List.mem_map.1 hx;have:l∈n.aw.flatMap jt:=List.mem_flatMap.2 ⟨a,ha,hl⟩;simp[this]
 .obtain⟨m,hm,hx⟩:=List.mem_flatMap.1 hx;obtain⟨r,hr,rfl⟩:=List.mem_map.1 hx;have:l∈n.aa.flatMap jY:=List.mem_flatMap.2 ⟨m,hm,by unfold jY;exact List.mem_append.2 (.inl (List.mem_flatMap.2 ⟨r,hr,hl⟩))⟩;simp[this]
theorem cL.Er(s:cL n V){x:bl}(hx:x∈eh n):x.to≠[]:=by
 unfold eh at hx;rcases List.mem_append.1 hx with hx|hx
 .obtain⟨a,ha,rfl⟩:=List.mem_map.1 hx;simp[nj]
 .obtain⟨m,hm,hx⟩:=List.mem_flatMap.1 hx;obtain⟨r,hr,rfl⟩:=List.mem_map.1 hx;have:=(s.aa m hm).2.2.1;unfold mT cu;simp;omega
theorem Bo{i:Nat}:(bb n)[i]?=((eh n)[i]?).map bl.nd:=by unfold bb;rw[bT]
theorem Ls{x:Nd}(h:x∈bb n):∃y∈eh n,x=y.nd:=by unfold bb at h;obtain⟨y,h1,h2⟩:=List.mem_map.1 h;exact⟨y,h1,h2.symm⟩
theorem cL.apart(s:cL n V):dL (bb n):=by
 intro i j x y v hi hj hx hy;rw[Bo]at hi hj;obtain⟨x',hi',rfl⟩:=Option.map_eq_some_iff.1 hi;obtain⟨y',hj',rfl⟩:=Option.map_eq_some_iff.1 hj;obtain⟨a,ha,e1⟩:=List.mem_map.1 hx;obtain⟨b,hb,e2⟩:=List.mem_map.1 hy;have r1:=s.lN (cK hi') ha;have r2:=s.lN (cK hj') hb;have:a=b:=by omega
 subst this;exact VR s.Uj hi' hj' ha hb
theorem cL.ba(s:cL n V):∀x∈bb n,∀u∈x.aF,u<=V:=by intro x hx u hu;obtain⟨y,hy,rfl⟩:=Ls hx;obtain⟨l,hl,rfl⟩:=List.mem_map.1 hu;have:=s.Bv hy hl;omega
theorem cL.dT(s:cL n V):∀x∈bb n,x.to≠[]/\∀v∈x.to,v<=V:=by intro x hx;obtain⟨y,hy,rfl⟩:=Ls hx;refine⟨by have:=s.Er hy;unfold bl.nd;simpa using this,fun v hv=>?_⟩;obtain⟨l,hl,rfl⟩:=List.mem_map.1 hv;have:=s.lN hy hl;omega
end
def fH(n:aG):Int:=if ed n≠0 then ed n else if eP (bb n) n.vars.toNat then 0 else 8
def zc(p:Nat->Bool):Nat->Nat
 |0=>0|k+1=>(if p k then 1 else 0)+zc p k
theorem JH{p q:Nat->Bool}:∀k,(∀v,v<k->p v=true->q v=true)->zc p k<=zc q k:=by
 intro k
 induction k with
 |zero=>intro _;exact Nat.le_refl _|succ k ih=>
  intro h;have h1:=ih fun v hv=>h v (by omega);have h2:=h k (by omega);simp only[zc];cases hp:p k
  .simp;omega
  .rw[h2 hp];simp;omega
theorem VM{p q:Nat->Bool}{v:Nat}:∀k,v<k->q v=true->p v=false->(∀v,v<k->p v=true->q v=true)->zc p k<zc q k:=by
 intro k
 induction k with
 |zero=>intro h;omega|succ k ih=>
  intro hv hq hp h;simp only[zc];by_cases e:v=k
  .subst e;have h1:=JH (p:=p) (q:=q) v fun v hv=>h v (by omega);rw[hq,hp];simp;omega
  .have h1:=ih (by omega) hq hp fun v hv=>h v (by omega);have h2:=h k (by omega);cases hp:p k
   .simp;omega
   .rw[h2 hp];simp;omega
def fresh(V:Nat)(m:List Int):Nat:=zc (fun v=>au m v == 0) (V+1)
section
variable{N:List Nd}{V:Nat}{m lv m' lv' m'' lv'':List Int}
structure VI(N:List Nd)(V:Nat)(m lv:List Int):Prop where
 ml:m.length=V+1
 ll:lv.length=V+1
 kd:∀v,v<=V->au m v=0\/au m v=1\/au m v=2
 rI:∀x∈N,∀u∈x.to,∀v∈x.to,au m u=au m v
 free:∀v,v<=V->(∀x∈N,v∉x.to)->au m v=0/\au lv v=0
 done:∀v,v<=V->au m v=2->∃k:Nat,au lv v=(k:Int)/\bX N v k
structure Ext(V:Nat)(m lv m' lv':List Int):Prop where
 a:∀u,u<=V->au m u=1->au m' u=1
 b:∀u,u<=V->au m' u=1->au m u=1
 c:∀u,u<=V->au m u=2->au m' u=2/\au lv' u=au lv u
theorem Ext.refl:Ext V m lv m lv:=⟨fun _ _ h=>h,fun _ _ h=>h,fun _ _ h=>⟨h,rfl⟩⟩
theorem Ext.trans(h:Ext V m lv m' lv')(k:Ext V m' lv' m'' lv''):Ext V m lv m'' lv'':=⟨fun u hu h1=>k.a u hu (h.a u hu h1),fun u hu h1=>h.b u hu (k.b u hu h1),fun u hu h1=>⟨(k.c u hu (h.c u hu h1).1).1,by rw[(k.c u hu (h.c u hu h1).1).2,(h.c u hu h1).2]⟩⟩
def tl(N:List Nd)(m:List Int)(u:Nat):Prop:=au m u=2\/∀x∈N,u∉x.to
theorem AQ(i:VI N V m lv)(i':VI N V m' lv')(h:Ext V m lv m' lv'){u:Nat}(hu:u<=V)(t:tl N m u):tl N m' u/\au lv' u=au lv u:=by
 rcases t with t|t
 .exact⟨.inl (h.c u hu t).1,(h.c u hu t).2⟩
 .exact⟨.inr t,by rw[(i.free u hu t).2,(i'.free u hu t).2]⟩
theorem ux(i:VI N V m lv){u:Nat}(hu:u<=V)(t:tl N m u):∃k:Nat,au lv u=(k:Int)/\bX N u k:=by
 rcases t with t|t
 .exact i.done u hu t
 .exact⟨0,by rw[(i.free u hu t).2];rfl,.free u t⟩
theorem Xv(i:VI N V m lv)(i':VI N V m' lv')(h:Ext V m lv m' lv'):fresh V m'<=fresh V m:=by
 refine JH _ fun v hv hz=>?_;have hv:v<=V:=by omega
 have hz:au m' v=0:=by simpa using hz
 rcases i.kd v hv with h0|h0|h0
 .simpa using h0
 .have:=h.a v hv h0;omega
 .have:=(h.c v hv h0).1;omega
theorem VI.under(ap:dL N)(i:VI N V m lv){x:Nd}(hx:x∈N)(dT:∀v∈x.to,v<=V){v:Nat}(hv:v∈x.to)(h0:au m v=0):VI N V (bQ m x.to 1) lv:=by
 refine⟨by rw[ig,i.ml],i.ll,fun u hu=>?_,fun y hy a ha b hb=>?_,fun u hu hf=>?_,fun u hu h2=>?_⟩
 .rw[dy];split
  .exact .inr (.inl rfl)
  .exact i.kd u hu
 .rw[dy,dy];by_cases e:y=x
  .subst e;rw[if_pos ⟨ha,by rw[i.ml];have:=dT a ha;omega⟩,if_pos ⟨hb,by rw[i.ml];have:=dT b hb;omega⟩]
  .rw[if_neg fun h=>e (ap.same hy hx ha h.1),if_neg fun h=>e (ap.same hy hx hb h.1)];exact i.rI y hy a ha b hb
 .rw[dy,if_neg fun h=>hf x hx h.1];exact i.free u hu hf
 .rw[dy]at h2;split at h2
  .omega
  .exact i.done u hu h2
theorem Wv(i:VI N V m lv){x:Nd}(hx:x∈N){v:Nat}(hv:v∈x.to)(hV:v<=V)(h0:au m v=0):fresh V (bQ m x.to 1)<fresh V m:=by
 refine VM (v:=v) _ (by omega) (by simpa using h0) ?_ fun u hu hz=>?_
 .rw[dy,if_pos ⟨hv,by rw[i.ml];omega⟩];rfl
 .have hz:au (bQ m x.to 1) u=0:=by simpa using hz
  rw[dy]at hz;split at hz
  .omega
  .simpa using hz
theorem VI.close(ap:dL N)(i0:VI N V m lv){x:Nd}(hx:x∈N)(dT:∀v∈x.to,v<=V)(ba:∀u∈x.aF,u<=V){v:Nat}(hv:v∈x.to)(h0:au m v=0)
  (i:VI N V m' lv') (h:Ext V (bQ m x.to 1) lv m' lv') (ht:∀u∈x.aF,tl N m' u) {L:Int}(hL:L=((mx (x.aF.map fun u=>(au lv' u).toNat):Nat):Int)) :
  VI N V (bQ m' x.to 2) (bQ lv' x.to (L+1))/\Ext V m lv (bQ m' x.to 2) (bQ lv' x.to (L+1))/\tl N (bQ m' x.to 2) v:=by
 have hml:=i.ml;have hll:=i.ll;have hlev:∀u∈x.aF,bX N u (au lv' u).toNat:=fun u hu=>by obtain⟨k,h1,h2⟩:=ux i (ba u hu) (ht u hu);rw[h1];simpa using h2
 have hm0:∀u∈x.to,au m u=0:=fun u hu=>by rw[i0.rI x hx u hu v hv,h0]
 refine⟨⟨by rw[ig,hml],by rw[ig,hll],fun u hu=>?_,fun y hy a ha b hb=>?_,fun u hu hf=>?_,fun u hu h2=>?_⟩,⟨fun u hu h1=>?_,fun u hu h1=>?_,fun u hu h2=>?_⟩,?_⟩
 .rw[dy];split
  .exact .inr (.inr rfl)
  .exact i.kd u hu
 .rw[dy,dy];by_cases e:y=x
  .subst e;rw[if_pos ⟨ha,by rw[hml];have:=dT a ha;omega⟩,if_pos ⟨hb,by rw[hml];have:=dT b hb;omega⟩]
  .rw[if_neg fun h=>e (ap.same hy hx ha h.1),if_neg fun h=>e (ap.same hy hx hb h.1)];exact i.rI y hy a ha b hb
 .rw[dy,if_neg fun h=>hf x hx h.1,dy,if_neg fun h=>hf x hx h.1];exact i.free u hu hf
 .by_cases hux:u∈x.to
  .refine⟨mx (x.aF.map fun u=>(au lv' u).toNat)+1,?_,.node x u _ hx hux hlev⟩;rw[dy,if_pos ⟨hux,by rw[hll];omega⟩,hL];rfl
  .rw[dy,if_neg fun h=>hux h.1]at h2;rw[dy,if_neg fun h=>hux h.1];exact i.done u hu h2
 .have hux:u∉x.to:=fun hux=>by have:=hm0 u hux;omega
  rw[dy,if_neg fun h=>hux h.1];refine h.a u hu ?_;rw[dy,if_neg fun h=>hux h.1];exact h1
 .rw[dy]at h1;split at h1
  .omega
  .rename_i hn;have hux:u∉x.to:=fun hux=>hn ⟨hux,by rw[hml];omega⟩;have:=h.b u hu h1
   rwa [dy,if_neg fun h=>hux h.1]at this
 .have hux:u∉x.to:=fun hux=>by have:=hm0 u hux;omega
  have:=h.c u hu (by rw[dy,if_neg fun h=>hux h.1];exact h2);rw[dy,if_neg fun h=>hux h.1,dy,if_neg fun h=>hux h.1];exact this
 .refine .inl ?_;rw[dy,if_pos ⟨hv,by rw[hml];have:=dT v hv;omega⟩]
theorem XG{x:Nd}(hx:x∈N){v l:Nat}(hv:v∈x.to)(hl:l∈x.aF)(hd:∀u,u<=V->au m u=1->iZ N u v):∀u,u<=V->au (bQ m x.to 1) u=1->iZ N u l:=by
 intro u hu h;rw[dy]at h;split at h
 .rename_i hc;exact .one x u l hx hc.1 hl
 .exact .more x u v l (hd u hu h) hx hv hl
theorem vi0:VI N V (List.replicate (V+1) 0) (List.replicate (V+1) 0):=by
 have hz:∀v,au (List.replicate (V+1) 0) v=0:=fun v=>by unfold au;rw[dP,List.getElem?_replicate];split<;>rfl
 exact⟨by simp,by simp,fun v _=>.inl (hz v),fun x _ u _ v _=>by rw[hz,hz],fun v _ _=>⟨hz v,hz v⟩,fun v _ h=>by rw[hz]at h;omega⟩
def dV(N:List Nd)(V:Nat):Nat->List Int
 |0=>List.replicate (V+1) 0|k+1=>match N[k]? with|some x=>bQ (dV N V k) x.to ((k:Int)+1)|none=>dV N V k
theorem yp(N:List Nd)(V:Nat):∀k,(dV N V k).length=V+1:=by
 intro k
 induction k with|zero=>simp[dV]|succ k ih=>rw[dV];cases N[k]?<;>simp[ig,ih]
theorem KJ{k:Nat}{x:Nd}(h:N[k]?=some x):dV N V (k+1)=bQ (dV N V k) x.to ((k:Int)+1):=by rw[dV,h]
theorem UT(ap:dL N)(dT:∀x∈N,∀v∈x.to,v<=V):∀k v,v<=V->(au (dV N V k) v=0/\∀i x,i<k->N[i]?=some x->v∉x.to)\/∃i x,i<k/\N[i]?=some x/\v∈x.to/\au (dV N V k) v=(i:Int)+1:=by
 intro k
 induction k with
 |zero=>intro v _;left;refine⟨?_,fun i x h=>by omega⟩;unfold dV au;rw[dP,List.getElem?_replicate];split<;>rfl|succ k ih=>
  intro v hv;cases hk:N[k]? with
  |none=>
   rw[dV,hk];rcases ih v hv with⟨h1,h2⟩|⟨i,x,h1,h2,h3,h4⟩
   .left;refine⟨h1,fun i x hi hx=>?_⟩;by_cases e:i=k
    .subst e;rw[hk]at hx;cases hx
    .exact h2 i x (by omega) hx
   .exact .inr ⟨i,x,by omega,h2,h3,h4⟩
  |some y=>
   rw[KJ hk,dy];by_cases hvy:v∈y.to
   .rw[if_pos ⟨hvy,by rw[yp];omega⟩];exact .inr ⟨k,y,by omega,hk,hvy,rfl⟩
   .rw[if_neg fun h=>hvy h.1];rcases ih v hv with⟨h1,h2⟩|⟨i,x,h1,h2,h3,h4⟩
    .left;refine⟨h1,fun i x hi hx=>?_⟩;by_cases e:i=k
     .subst e;rw[hk]at hx;injection hx with hx;subst hx;exact hvy
     .exact h2 i x (by omega) hx
    .exact .inr ⟨i,x,by omega,h2,h3,h4⟩
theorem Vx(ap:dL N)(dT:∀x∈N,∀v∈x.to,v<=V){v:Nat}(hv:v<=V):(au (dV N V N.length) v=0/\∀x∈N,v∉x.to)\/∃(i:Nat) (x:Nd),N[i]?=some x/\v∈x.to/\au (dV N V N.length) v=(i:Int)+1:=by
 rcases UT ap dT N.length v hv with⟨h1,h2⟩|⟨i,x,h1,h2,h3,h4⟩
 .left;refine⟨h1,fun x hx=>?_⟩;obtain⟨i,hi,rfl⟩:=List.getElem_of_mem hx;exact h2 i _ hi (bu hi)
 .exact .inr ⟨i,x,h2,h3,h4⟩
theorem VX{l:List Nat}{k u:Nat}{f:Nat->Nat}(h:l[k]?=some u):mx ((l.take (k+1)).map f)=max (mx ((l.take k).map f)) (f u):=by rw[cN h,dN];exact T5 _ _
end
end Go.Proofs.YtdcnjfbffckblaaGreat.Pl
end
section
namespace Go.Proofs.YtdcnjfbffckblaaGreat.V
open Go Go.RowKit Go.Proofs.YtdcnjfbffckblaaGreat.Pl
theorem Ri(v:Int)(k:Nat):cu v (k+1)=cu v k++[v+(k:Int)]:=by unfold cu;rw[List.range_succ,dN];rfl
theorem sH(v:Int)(k:Nat):(cu v k).length=k:=by simp[cu]
theorem Wp(m:cr)(i:Nat)(r:iu)(hr:m.reads[i]?=some r)(hw:0<=m.word/\m.word<=4000)(hv:-1099511627776<=r.var/\r.var<=1099511627776) :
  Qp (bh m,((i:Int),()))=some (cu r.var m.word.toNat,()):=by
 obtain⟨W,hW⟩:=Int.eq_ofNat_of_zero_le hw.1;have hi:=dR hr;have hr':(m.reads.map er)[i]?=some (er r):=by rw[bT,hr];rfl
 have hL:FQ ((i:Int),(m.word,((0:Int),(m.addr,(m.word,(m.any,(m.reads.map er,(m.writes.map cQ,([],())))))))))=some (cu r.var m.word.toNat,()):=by
  unfold FQ;delta u9;rw[hW,Int.toNat_natCast];refine pG (fun k:Nat=>((i:Int),((W:Int),((k:Int),(m.addr,((W:Int),(m.any,(m.reads.map er,(m.writes.map cQ,(cu r.var k,())))))))))) W ?_ ?_ NN (bM (by omega))
  .intro k hk
   try dsimp only
   unfold yj;rw[gz (ax (by omega)),dv (aP ⟨by omega,by rw[aK];omega⟩),dv (mX (by simp[sH];omega) (by simp[sH];omega)),bn hr',show(er r).1=r.var from rfl];rw[bR (x:=r.var+(k:Int)) (by omega),bR (x:=(k:Int)+1) (by omega),Ri];rfl
  .try dsimp only
   unfold yj;rw[eK (aj (by omega))];rfl
 show Gf FQ (bh m) (i:Int)=_;unfold Gf;rw[eK (aj (by omega)),Ek,eK (aj (by simp only[bh,aK,Int.ofNat_eq_natCast];omega))];exact(bW hL).trans rfl
def ia(x:bq):cM.T:=(x.rd,((x.mem:Int),((x.pos:Int),())))
abbrev WT:=Int×List Int×List al.T×List Int×List Int×List Int×List an.T×List al.T×List Int×List cM.T×List Int×List Int×Unit
def jj(n:aG)(of:List Int)(nd:List bq)(m lv:List Int):WT:=(n.vars,(n.aU,(n.af.map bP,(n.bB,(n.bC,(n.constraints,(n.aa.map bh,(n.aw.map eQ,(of,(nd.map ia,(m,(lv,()))))))))))))
theorem TU{n:aG}{of m lv:List Int}{nd:List bq}{x:bq}{i:bl}(h:x.is n i):PS (x.rd,((x.mem:Int),((x.pos:Int),jj n of nd m lv)))=some (i.aF,jj n of nd m lv):=by
 show FE x.rd (x.mem:Int) (x.pos:Int) n.vars n.aU (n.af.map bP) n.bB n.bC n.constraints (n.aa.map bh) (n.aw.map eQ) of (nd.map ia) m lv=_;unfold FE;rcases h with⟨h,a,ha,rfl⟩|⟨h,M,r,hM,hr,rfl⟩
 .have ha':(n.aw.map eQ)[x.pos]?=some (eQ a):=by rw[bT,ha];rfl
  have hl:=dR ha';rw[h,eK rfl,dv (aP ⟨by omega,by omega⟩),bn ha'];rfl
 .have hM':(n.aa.map bh)[x.mem]?=some (bh M):=by rw[bT,hM];rfl
  have hr':(M.reads.map er)[x.pos]?=some (er r):=by rw[bT,hr];rfl
  have hl:=dR hM';have hl2:=dR hr';rw[h,gz rfl,dv (aP ⟨by omega,by omega⟩),bn hM',show(bh M).2.2.2.1=M.reads.map er from rfl,dv (aP ⟨by omega,by omega⟩),bn hr'];rfl
theorem JE{n:aG}{of m lv:List Int}{nd:List bq}{x:bq}{i:bl}(h:x.is n i)(ft:Fit n)(hw:∀M∈n.aa,0<=M.word) :
  wT (x.rd,((x.mem:Int),((x.pos:Int),jj n of nd m lv)))=some (i.to,jj n of nd m lv):=by
 show FN Qp x.rd (x.mem:Int) (x.pos:Int) n.vars n.aU (n.af.map bP) n.bB n.bC n.constraints (n.aa.map bh) (n.aw.map eQ) of (nd.map ia) m lv=_;unfold FN;rcases h with⟨h,a,ha,rfl⟩|⟨h,M,r,hM,hr,rfl⟩
 .have ha':(n.aw.map eQ)[x.pos]?=some (eQ a):=by rw[bT,ha];rfl
  have hl:=dR ha';rw[h,eK rfl,dv (aP ⟨by omega,by omega⟩),bn ha'];rfl
 .have hM':(n.aa.map bh)[x.mem]?=some (bh M):=by rw[bT,hM];rfl
  have hl:=dR hM';have hmem:=cK hM;have hf:=ft.aa.2 M hmem;have hr2:=hf.iP r (cK hr);rw[h,gz rfl,dv (aP ⟨by omega,by omega⟩),bn hM'];exact(bW (Wp M x.pos r hr ⟨hw M hmem,hf.word.2⟩ ⟨hr2.2.1,hr2.2.2.1⟩)).trans rfl
theorem Lv{n:aG}{of m lv:List Int}{nd:List bq}{V:Nat}(a:Int)(vs:List Int)(hln:vs.length<=100000)(hvs:∀v∈vs,0<=v/\v<=(V:Int))(hm:m.length=V+1) :
  PO (a,(vs,jj n of nd m lv))=some (vs,jj n of nd (bQ m (vs.map Int.toNat) a) lv):=by
 have hL:EY (a,(vs,((vs.length:Int),((0:Int),(vs,jj n of nd m lv)))))=some (vs,jj n of nd (bQ m (vs.map Int.toNat) a) lv):=by
  unfold EY;delta tk;refine pG (fun k:Nat=>(a,(vs,((vs.length:Int),((k:Int),(vs,jj n of nd (bQ m ((vs.take k).map Int.toNat) a) lv)))))) vs.length ?_ ?_ NN (bM (by omega))
  .intro k hk;unfold jj
   try dsimp only
   unfold xL;have hv:=bu hk;obtain⟨h0,h1⟩:=hvs _ (List.getElem_mem hk);obtain⟨v,hv2⟩:=Int.eq_ofNat_of_zero_le h0;rw[hv2]at hv h1;rw[gz (ax (by omega)),dv (aP ⟨by omega,by omega⟩),bn (σ:=.int .i64) hv,dv (aP ⟨by omega,by rw[ig,hm];omega⟩),bR (x:=(k:Int)+1) (by omega)];rw[cN hv,dN,List.map_cons,List.map_nil,sE];rfl
  .unfold jj
   try dsimp only
   unfold xL;rw[eK (aj (by omega)),dC];rfl
 show Fc EY a vs n.vars n.aU (n.af.map bP) n.bB n.bC n.constraints (n.aa.map bh) (n.aw.map eQ) of (nd.map ia) m lv=_;unfold Fc;exact(bW hL).trans rfl
end Go.Proofs.YtdcnjfbffckblaaGreat.V
end
section
namespace Go.Proofs.YtdcnjfbffckblaaGreat.Pl
theorem uw{l:List Int}{v:Nat}(h:v<l.length):l[v]?=some (au l v):=by unfold au;rw[dP,bu h];rfl
theorem TT{n:aG}{V:Nat}(hs:cL n V){y:bl}(hy:y∈eh n){k:Nat}{l:Int}(h:y.aF[k]?=some l):∃u:Nat,l / 2=(u:Int)/\u<=V/\y.nd.aF[k]?=some u/\0<=l/\l<=2*V+1:=by have:=hs.Bv hy (cK h);refine⟨(l / 2).toNat,by omega,by omega,?_,by omega,by omega⟩;unfold bl.nd;rw[bT,h];rfl
theorem yA{n:aG}{V:Nat}(hs:cL n V){y:bl}(hy:y∈eh n):y.to.length<=64/\y.aF.length<=62:=by
 unfold eh at hy;rcases List.mem_append.1 hy with hy|hy
 .obtain⟨a,ha,rfl⟩:=List.mem_map.1 hy;simp[nj]
 .obtain⟨m,hm,hy⟩:=List.mem_flatMap.1 hy;obtain⟨r,hr,rfl⟩:=List.mem_map.1 hy;have h1:=hs.aa m hm;have h2:=h1.2.2.2.2.1 r hr;unfold mT cu;simp;omega
theorem T4{N:List Nd}{V:Nat}{m lv m' lv':List Int}(i:VI N V m lv)(i':VI N V m' lv')(h:Ext V m lv m' lv'){l:List Nat}(hl:∀u∈l,u<=V)(ht:∀u∈l,tl N m u) :
  mx (l.map fun u=>(au lv' u).toNat)=mx (l.map fun u=>(au lv u).toNat):=by
 rw[Qw fun u hu=>by rw[(AQ i i' h (hl u hu) (ht u hu)).2]]
theorem UE{N:List Nd}(ap:dL N){V:Nat}{m lv:List Int}(i:VI N V m lv){l:List Nat}(hl:∀u∈l,u<=V)(ht:∀u∈l,tl N m u):mx (l.map fun u=>(au lv u).toNat)<=N.length:=by refine JA fun z hz=>?_;obtain⟨u,hu,rfl⟩:=List.mem_map.1 hz;obtain⟨k,h1,h2⟩:=ux i (hl u hu) (ht u hu);rw[h1];have:=h2.le ap;simpa using this
theorem uq{α β:Type}(f:α->List β):∀(l:List α) (k:Nat),(∀x∈l,(f x).length<=k)->(l.flatMap f).length<=l.length*k:=by
 intro l k
 induction l with|nil=>intro _;simp|cons x l ih=>intro h;rw[List.flatMap_cons,bA,cx,Nat.succ_mul];have h1:=ih fun y hy=>h y (by simp[hy]);have h2:=h x (by simp);omega
theorem GL{n:aG}{V:Nat}(hs:cL n V):(bb n).length<=3000:=by unfold bb eh;rw[aK,bA,aK];have h1:=hs.lens;have h2:=uq gD n.aa 4 (fun m hm=>by unfold gD;rw[aK];exact(hs.aa m hm).2.2.2.2.2.2.1);omega
end Go.Proofs.YtdcnjfbffckblaaGreat.Pl
end
section
namespace Go.Proofs.YtdcnjfbffckblaaGreat.V
open Go Go.RowKit Go.Proofs.YtdcnjfbffckblaaGreat.Pl
theorem Ks(l:Int):sv (l,())=some (l / 2,()):=by show Gg l=_;unfold Gg;rw[Int.fdiv_eq_ediv_of_nonneg _ (by decide)];rfl
theorem QR{l q:Int}(h:l / 2=q):sv (l,())=some (q,()):=by rw[Ks,h]
def VP(n:aG)(V:Nat)(m lv:List Int)(v:Nat)(b:Bool)(m' lv':List Int):Prop:=(b=true/\VI (bb n) V m' lv'/\Ext V m lv m' lv'/\tl (bb n) m' v)\/(b=false/\∃u,u<=V/\∀k,¬bX (bb n) u k)
def wk(n:aG)(V:Nat)(m lv:List Int):WT:=jj n (dV (bb n) V (bb n).length) (dp n) m lv
abbrev WV:=Int×List Int×List al.T×List Int×List Int×List Int×List an.T×List al.T×List Int×List cM.T×List Int×List Int×List Int×Unit
def wv(n:aG)(V:Nat)(m lv vs:List Int):WV:=(n.vars,(n.aU,(n.af.map bP,(n.bB,(n.bC,(n.constraints,(n.aa.map bh,(n.aw.map eQ,(dV (bb n) V (bb n).length,((dp n).map ia,(m,(lv,(vs,())))))))))))))
theorem UG{n:aG}{V:Nat}{F:TL Ew.σs->Option (Out wS)}(L:Nat)(hL:L<=3000)(m lv vs:List Int)(hln:vs.length<=100000)(hvs:∀v∈vs,0<=v/\v<=(V:Int))(hm:lv.length=V+1) :
  E2 F ((L:Int),(vs,((vs.length:Int),((0:Int),wv n V m lv vs))))=some (wv n V m (bQ lv (vs.map Int.toNat) ((L:Int)+1)) vs):=by
 unfold E2;refine pG (fun k:Nat=>((L:Int),(vs,((vs.length:Int),((k:Int),wv n V m (bQ lv ((vs.take k).map Int.toNat) ((L:Int)+1)) vs))))) vs.length ?_ ?_ NN (bM (by omega))
 .intro k hk;unfold wv
  try dsimp only
  unfold xP;have hv:=bu hk;obtain⟨h0,h1⟩:=hvs _ (List.getElem_mem hk);obtain⟨v,hv2⟩:=Int.eq_ofNat_of_zero_le h0;rw[hv2]at hv h1;rw[gz (ax (by omega)),dv (aP ⟨by omega,by omega⟩),bn (σ:=.int .i64) hv,dv (aP ⟨by omega,by rw[ig,hm];omega⟩),bR (x:=(k:Int)+1) (by omega),bR (x:=(L:Int)+1) (by omega)];rw[cN hv,dN,List.map_cons,List.map_nil,sE];rfl
 .unfold wv
  try dsimp only
  unfold xP;rw[eK (aj (by omega)),dC];rfl
theorem Tw{n:aG}{V:Nat}(hs:cL n V)(ft:Fit n):∀(F:Nat) (m lv:List Int) (v:Nat),VI (bb n) V m lv->(∀u,u<=V->au m u=1->iZ (bb n) u v)->v<=V->fresh V m<F ->
  ∃b m' lv',pa F ((v:Int),wk n V m lv)=some (b,wk n V m' lv')/\VP n V m lv v b m' lv':=by
 intro F
 induction F with
 |zero=>intro m lv v _ _ _ h;omega|succ F ih=>
  intro m lv v hI hD hv hF;have hV2:=hs.v2;have hnl:=GL hs;have hmw:∀M∈n.aa,0<=M.word:=fun M hM=>by have:=hs.aa M hM;omega
  obtain⟨of,hof⟩:∃of,of=dV (bb n) V (bb n).length:=⟨_,rfl⟩;have hofl:of.length=V+1:=by rw[hof];exact yp _ _ _
  have hofv:of[v]?=some (au of v):=uw (by omega);have hmv:m[v]?=some (au m v):=uw (by rw[hI.ml];omega);show ∃b m' lv',FB sv (pa F) PS PO wT (E3 (pa F)) (E2 (pa F)) (v:Int) n.vars n.aU (n.af.map bP) n.bB n.bC n.constraints (n.aa.map bh) (n.aw.map eQ) (dV (bb n) V (bb n).length) ((dp n).map ia) m lv=_/\_;rw[<-hof];unfold FB;rw[dv (aP ⟨by omega,by omega⟩),bn (σ:=.int .i64) hofv];rcases Vx hs.apart (fun x hx=>(hs.dT x hx).2) hv with⟨h1,h2⟩|⟨i,x,h1,h2,h3⟩
  .rw[<-hof]at h1;rw[h1,gz (ax rfl)];exact⟨true,m,lv,by rw[hof];rfl,.inl ⟨rfl,hI,Ext.refl,.inr h2⟩⟩
  rw[<-hof]at h3;rw[h3,eK (aj (by omega)),dv (aP ⟨by omega,by rw[hI.ml];omega⟩),Ek,bn (σ:=.int .u8) hmv];rcases hI.kd v hv with hk|hk|hk
  .-- its node's literals
   subst hof;have hil:=dR h1;have hnl2:(dp n).length=(bb n).length:=by rw[QE];unfold bb;rw[aK]
   obtain⟨xd,hxd⟩:∃xd,(dp n)[i]?=some xd:=⟨_,bu (by omega)⟩;obtain⟨y,hy1,hy2⟩:=Bh n hxd;have hxy:x=y.nd:=by rw[Bo,hy1]at h1;simpa using h1.symm
   subst hxy;have hy:=cK hy1;have hx:=cK h1;have hxd':((dp n).map ia)[i]?=some (ia xd):=by rw[bT,hxd];rfl
   have hvs:∀u∈y.to,0<=u/\u<=(V:Int):=fun u hu=>by have:=hs.lN hy hu;omega
   have hlens:=yA hs hy;have hfr:∀u∈y.nd.aF,u<=V:=fun u hu=>hs.ba _ hx u hu;have hI5:=hI.under hs.apart hx (fun u hu=>(hs.dT _ hx).2 u hu) h2 hk;rw[hk,eK (aj (by omega)),dv (aP ⟨by omega,by rw[hI.ml];omega⟩),eK (aj (by omega)),dv (aP ⟨by omega,by omega⟩)];rw[show((i:Int)+1-1)=(i:Int) by omega,bR (x:=(i:Int)) (by omega),dv (aP ⟨by omega,by rw[aK];omega⟩),bn hxd'];have e1:=JE (of:=dV (bb n) V (bb n).length) (m:=m) (lv:=lv) (nd:=dp n) hy2 ft hmw;have e2:=Lv (n:=n) (of:=dV (bb n) V (bb n).length) (nd:=dp n) (lv:=lv) 1 y.to (by omega) hvs hI.ml;have e3:=TU (n:=n) (of:=dV (bb n) V (bb n).length) (nd:=dp n) (m:=bQ m (y.to.map Int.toNat) 1) (lv:=lv) hy2;have hL11:∃o,E3 (pa F) ((0:Int),(y.aF,((y.aF.length:Int),((0:Int),wv n V (bQ m y.nd.to 1) lv y.to))))=some o /\
     ((∃m' lv',o=.inl (false,wk n V m' lv')/\∃u,u<=V/\∀k,¬bX (bb n) u k) \/
      ∃(m' lv':List Int) (L:Nat),o=.inr ((L:Int),wv n V m' lv' y.to)/\VI (bb n) V m' lv'/\Ext V (bQ m y.nd.to 1) lv m' lv'/\(∀u∈y.nd.aF,tl (bb n) m' u)/\L=mx (y.nd.aF.map fun u=>(au lv' u).toNat)):=by
    unfold E3;refine uF (fun d=>∃(k:Nat) (m' lv':List Int) (L:Nat),k<=y.aF.length/\d=((L:Int),(y.aF,((y.aF.length:Int),((k:Int),wv n V m' lv' y.to))))/\VI (bb n) V m' lv'/\Ext V (bQ m y.nd.to 1) lv m' lv' /\
     (∀u∈y.nd.aF.take k,tl (bb n) m' u)/\L=mx ((y.nd.aF.take k).map fun u=>(au lv' u).toNat)) _ (fun d=>y.aF.length-d.2.2.2.1.toNat) ?_ NN _ ⟨0,_,lv,0,Nat.zero_le _,rfl,hI5,Ext.refl,by simp,rfl⟩ (bM (by have:=hlens.2;omega))
    rintro d ⟨k,m',lv',L,hk',rfl,hI',hE',hT',hL⟩;unfold wv
    try dsimp only
    unfold FK;by_cases hlt:k<y.aF.length
    .have hl:=bu hlt;obtain⟨u,hu1,hu2,hu3,hl0,hl1⟩:=TT hs hy hl;have hlt2:fresh V m'<F:=by have h1:=Xv hI5 hI' hE';have h2:=Wv hI hx h2 hv hk;omega
     have hdep:∀t,t<=V->au m' t=1->iZ (bb n) t u:=fun t ht h=>XG hx h2 (cK hu3) hD t ht (hE'.b t ht h);obtain⟨b,m2,lv2,g1,g2⟩:=ih m' lv' u hI' hdep hu2 hlt2;rw[gz (ax (by omega)),dv (aP ⟨by omega,by omega⟩),bn (σ:=.int .i64) hl];rcases g2 with⟨rfl,gI,gE,gT⟩|⟨rfl,u',hu',hno⟩
     .right;obtain⟨kk,hk1,hk2⟩:=ux gI hu2 gT;have hkl:=Nat.le_trans (hk2.le hs.apart) hnl;have hlu:lv2[u]?=some (kk:Int):=by rw[<-hk1];exact uw (by rw[gI.ll];omega)
      have hT:∀u'∈y.nd.aF.take (k+1),tl (bb n) m2 u':=fun u' h'=>by
       rw[cN hu3]at h';rcases List.mem_append.1 h' with h'|h'
       .exact(AQ hI' gI gE (hfr u' (List.mem_of_mem_take h')) (hT' u' h')).1
       .simp at h';subst h';exact gT
      have hmx:mx ((y.nd.aF.take (k+1)).map fun u=>(au lv2 u).toNat)=max L kk:=by rw[VX hu3,T4 hI' gI gE (fun u hu=>hfr u (List.mem_of_mem_take hu)) hT',<-hL,hk1,Int.toNat_natCast]
      refine⟨((max L kk:Nat),(y.aF,((y.aF.length:Int),(((k+1:Nat):Int),wv n V m2 lv2 y.to)))),?_,⟨k+1,m2,lv2,max L kk,by omega,rfl,gI,hE'.trans gE,hT,hmx.symm⟩,?_⟩
      .refine(bW (QR hu1)).trans ((bW g1).trans ?_);refine(eK rfl).trans ((dv (aP ⟨by omega,by show(u:Int)<((List.length lv2:Nat):Int);rw[gI.ll];omega⟩)).trans ?_);have hsel:fV (@decide _ (Int.decLt (L:Int) (gt (.int .i64) lv2 (u:Int)))) (gt (.int .i64) lv2 (u:Int)) (L:Int)=((max L kk:Nat):Int):=by
        rw[bn (σ:=.int .i64) hlu];unfold fV;split
        .rename_i q;have q:=of_decide_eq_true q;have:max L kk=kk:=by omega
         rw[this]
        .rename_i q;have q:=of_decide_eq_false q;have:max L kk=L:=by omega
         rw[this]
       have e:∀a b a' b':Int,a=a'->b=b'->(some (.inl (a,(y.aF,((y.aF.length:Int),(b,wv n V m2 lv2 y.to))))):Option (TL xp.σs⊕Out xh))=some (.inl (a',(y.aF,((y.aF.length:Int),(b',wv n V m2 lv2 y.to))))):=by rintro _ _ _ _ rfl rfl;rfl
       exact e _ _ _ _ hsel (bR (x:=(k:Int)+1) (by omega))
      .show y.aF.length-((k+1:Nat):Int).toNat<y.aF.length-(k:Int).toNat;omega
     .left;refine⟨_,(bW (QR hu1)).trans ((bW g1).trans ?_),.inl ⟨m2,lv2,rfl,u',hu',hno⟩⟩;exact(gz rfl).trans rfl
    .left;have hlen:y.nd.aF.length<=k:=by unfold bl.nd;rw[aK];omega
     rw[List.take_of_length_le hlen]at hT' hL;rw[eK (aj (by omega))];exact⟨_,rfl,.inr ⟨m',lv',L,rfl,hI',hE',hT',hL⟩⟩
   obtain⟨o,ho,hcase⟩:=hL11;rcases hcase with⟨m',lv',rfl,u',hu',hno⟩|⟨m',lv',L,rfl,hI',hE',hT',hL⟩
   .refine⟨false,m',lv',?_,.inr ⟨rfl,u',hu',hno⟩⟩;refine(bW e1).trans ((bW e2).trans ((bW e3).trans ((bW ho).trans ?_)));rfl
   .have hmxl:L<=3000:=by rw[hL];exact Nat.le_trans (UE hs.apart hI' hfr hT') hnl
    have c:=hI.close hs.apart hx (fun u hu=>(hs.dT _ hx).2 u hu) hfr h2 hk hI' hE' hT' (L:=(L:Int)) (by rw[hL]);have e5:=UG (n:=n) (V:=V) (F:=pa F) L hmxl m' lv' y.to (by omega) hvs hI'.ll;have e6:=Lv (n:=n) (of:=dV (bb n) V (bb n).length) (nd:=dp n) (lv:=bQ lv' (y.to.map Int.toNat) ((L:Int)+1)) 2 y.to (by omega) hvs hI'.ml;refine⟨true,bQ m' y.nd.to 2,bQ lv' y.nd.to ((L:Int)+1),?_,.inl ⟨rfl,c.1,c.2.1,c.2.2⟩⟩;refine(bW e1).trans ((bW e2).trans ((bW e3).trans ((bW ho).trans ((bW e5).trans ?_))));exact(bW e6).trans rfl
  .rw[hk,eK (aj (by omega)),dv (aP ⟨by omega,by rw[hI.ml];omega⟩),gz (ax rfl)];exact⟨false,m,lv,by rw[hof];rfl,.inr ⟨rfl,v,hv,fun k=>iZ.none hs.apart (hD v hv hk) k⟩⟩
  .rw[hk,gz (ax rfl)];exact⟨true,m,lv,by rw[hof];rfl,.inl ⟨rfl,hI,Ext.refl,.inl hk⟩⟩
theorem SV(m:cr)(i:Nat)(r:iu)(hr:m.reads[i]?=some r)(hw:0<=m.word/\m.word<=4000)(hv:-1099511627776<=r.var/\r.var<=1099511627776) :
  PR (bh m,((i:Int),()))=some (cu r.var m.word.toNat,()):=by
 obtain⟨W,hW⟩:=Int.eq_ofNat_of_zero_le hw.1;have hi:=dR hr;have hr':(m.reads.map er)[i]?=some (er r):=by rw[bT,hr];rfl
 have hL:E8 ((i:Int),((0:Int),(m.addr,(m.word,(m.any,(m.reads.map er,(m.writes.map cQ,([],()))))))))=some (cu r.var m.word.toNat,()):=by
  unfold E8;delta u8;rw[hW,Int.toNat_natCast];refine pG (fun k:Nat=>((i:Int),((k:Int),(m.addr,((W:Int),(m.any,(m.reads.map er,(m.writes.map cQ,(cu r.var k,()))))))))) W ?_ ?_ NN (bM (by omega))
  .intro k hk
   try dsimp only
   unfold xW;rw[gz (ax (by omega)),dv (aP ⟨by omega,by rw[aK];omega⟩),dv (mX (by simp[sH];omega) (by simp[sH];omega)),bn hr',show(er r).1=r.var from rfl];rw[bR (x:=r.var+(k:Int)) (by omega),bR (x:=(k:Int)+1) (by omega),Ri];rfl
  .try dsimp only
   unfold xW;rw[eK (aj (by omega))];rfl
 show FC E8 (bh m) (i:Int)=_;unfold FC;rw[eK (aj (by omega)),Ek,eK (aj (by simp only[bh,aK,Int.ofNat_eq_natCast];omega))];exact(bW hL).trans rfl
theorem Ur{l:Int}(h:0<=l/\l<=1000000){u:Nat}(hu:l / 2=(u:Int)):nG (l,())=some ((u:Int),()):=by show sx l=_;unfold sx;rw[Int.tdiv_eq_ediv_of_nonneg h.1,hu,bR (by omega)];rfl
def jL(L:List Int)(i:Int):Int:=gt (.int .i64) L i
theorem qW{L:List Int}{i:Nat}{x:Int}(h:L[i]?=some x):jL L (i:Int)=x:=bn (σ:=.int .i64) h
def aY(x:bq×bl):aQ.T:=(x.1.rd,((x.1.mem:Int),((x.1.pos:Int),(x.2.aF,(x.2.to,())))))
theorem Ta{V:Nat}{B:Int}(x:bq×bl)(out:List Int)(hB:∀u,u<=V->au out u<=B)(hB0:0<=B/\B<=1000000000000)(hl:out.length=V+1)(hV:V<=2000)
  (hf:∀l∈x.2.aF,0<=l/\l<=2*(V:Int)+1) (hfl:x.2.aF.length<=100000):EB (aY x,(out,()))=some (dE out x.2.nd.aF 0,()):=by
 have hfr:∀k,x.2.nd.aF.drop k=(x.2.aF.drop k).map fun l=>(l / 2).toNat:=fun k=>by unfold bl.nd;rw[List.map_drop]
 have hL:=uF (B:=fun d=>FM nG d.1 d.2.1 d.2.2.1 d.2.2.2.1 d.2.2.2.2.1 d.2.2.2.2.2.1 d.2.2.2.2.2.2.1 d.2.2.2.2.2.2.2.1)
  (I:=fun d:TL r9.σs=>∃(k:Nat) (n:Int),d=(out,(n,((k:Int),aY x)))/\k<=x.2.aF.length/\0<=n/\n<=B/\dE out (x.2.nd.aF.drop k) n=dE out x.2.nd.aF 0)
  (Q:=fun o:Out rZ=>(o=.inl ((-1:Int),())/\dE out x.2.nd.aF 0 = -1)\/∃n:Int,o=.inr (n,())/\n<=B/\0<=n/\dE out x.2.nd.aF 0=n+1)
  (μ:=fun d=>x.2.aF.length-d.2.2.1.toNat) ?_ NN (out,((0:Int),((0:Int),aY x))) ⟨0,0,rfl,by omega,by omega,hB0.1,by rw[List.drop_zero]⟩ (bM (by show _-_<=_;omega))
 .obtain⟨o,ho,hcase⟩:=hL;have ho':Zfs (out,((0:Int),((0:Int),aY x)))=some o:=ho;rcases hcase with⟨rfl,h⟩|⟨n,rfl,hn,hn0,h⟩
  .rw[h];exact aE ho' rfl
  .rw[h];have e:∀a b:Int,a=b->(some (a,()):Option (Int×Unit))=some (b,()):=by rintro _ _ rfl;rfl
   exact aE ho' (e _ _ (bR (x:=n+1) (by omega)))
 .rintro _ ⟨k,n,rfl,hk,h0,hn,hr⟩;by_cases hlt:k<x.2.aF.length
  .have hg:=bu hlt;obtain⟨a1,a2⟩:=hf _ (List.getElem_mem hlt);obtain⟨u,hu⟩:=Int.eq_ofNat_of_zero_le (show 0<=x.2.aF[k] / 2 by omega);have huV:u<=V:=by omega
   have hlu:out[u]?=some (au out u):=by unfold au;rw[dP,bu (by omega)];rfl
   have e1:=Ur (l:=x.2.aF[k]) ⟨a1,by omega⟩ hu;have hdrop:x.2.nd.aF.drop k=u::x.2.nd.aF.drop (k+1):=by rw[hfr,hfr,List.drop_eq_getElem_cons hlt,List.map_cons,hu];rfl
   rw[hdrop,dE]at hr;by_cases hneg:au out u<0
   .left;rw[if_pos hneg]at hr;refine⟨.inl ((-1:Int),()),?_,.inl ⟨rfl,hr.symm⟩⟩;refine ao (ax (show(k:Int)<((x.2.aF.length:Nat):Int) by omega)) (ai (aP ⟨show(0:Int)<=(k:Int) by omega,by show(k:Int)<((x.2.aF.length:Nat):Int);omega⟩) ?_);refine(bW (show nG (gt (.int .i64) x.2.aF (k:Int),())=some ((u:Int),()) by rw[bn (σ:=.int .i64) hg];exact e1)).trans ?_;refine ai (aP ⟨show(0:Int)<=(u:Int) by omega,by rw[hl];show(u:Int)<_;omega⟩) (ao (ax (show jL out (u:Int)<(0:Int) by rw[qW hlu];exact hneg)) rfl)
   .right;rw[if_neg hneg]at hr;have hBu:=hB u huV;refine⟨(out,((max n (au out u):Int),(((k+1:Nat):Int),aY x))),?_,⟨k+1,max n (au out u),rfl,by omega,by omega,by omega,hr⟩,?_⟩
    .refine ao (ax (show(k:Int)<((x.2.aF.length:Nat):Int) by omega)) (ai (aP ⟨show(0:Int)<=(k:Int) by omega,by show(k:Int)<((x.2.aF.length:Nat):Int);omega⟩) ?_);refine(bW (show nG (gt (.int .i64) x.2.aF (k:Int),())=some ((u:Int),()) by rw[bn (σ:=.int .i64) hg];exact e1)).trans ?_;refine ai (aP ⟨show(0:Int)<=(u:Int) by omega,by rw[hl];show(u:Int)<_;omega⟩) (ag (aj (show ¬jL out (u:Int)<(0:Int) by rw[qW hlu];exact hneg)) ?_);have e:∀a b a' b':Int,a=a'->b=b'->(some (.inl (out,(a,(b,aY x)))):Option (TL r9.σs⊕Out rZ))=some (.inl (out,(a',(b',aY x)))):=by rintro _ _ _ _ rfl rfl;rfl
     refine e _ _ _ _ ?_ (bR (x:=(k:Int)+1) (by omega));show fV (decide (n<jL out (u:Int))) (jL out (u:Int)) n=_;rw[qW hlu];unfold fV;split
     .rename_i q;have q:=of_decide_eq_true q;show au out u=_;omega
     .rename_i q;have q:=of_decide_eq_false q;show n=_;have q:¬n<au out u:=q;omega
    .show x.2.aF.length-((k+1:Nat):Int).toNat<x.2.aF.length-(k:Int).toNat;omega
  .left;have hnil:x.2.nd.aF.drop k=[]:=by rw[hfr,List.drop_eq_nil_of_le (by omega)];rfl
   rw[hnil,dE]at hr;exact⟨.inr (n,()),ag (aj (show ¬(k:Int)<((x.2.aF.length:Nat):Int) by omega)) rfl,.inr ⟨n,rfl,hn,h0,hr.symm⟩⟩
theorem WI(l:List Int)(vs ws:List Nat)(x:Int):bQ l (vs++ws) x=bQ (bQ l vs x) ws x:=by simp[bQ,List.foldl_append]
theorem GN{l:List Int}{x B:Int}(hx:x<=B):∀(vs:List Nat) {l:List Int},(∀u,au l u<=B)->∀u,au (bQ l vs x) u<=B
 |[],l,h,u=>h u|v::vs,l,h,u=>by
  have:bQ l (v::vs) x=bQ (l.set v x) vs x:=rfl;rw[this];refine GN (l:=l) hx vs (fun u=>?_) u;rw[Lz];split
  .exact hx
  .exact h u
theorem Q8{out:List Int}{B:Int}(hB:∀u,au out u<=B):∀(us:List Nat) (n:Int),n<=B->0<=B->dE out us n<=B+1
 |[],n,h,h0=>by rw[dE];omega|u::us,n,h,h0=>by
  rw[dE];split
  .omega
  .exact Q8 hB us _ (by have:=hB u;omega) h0
structure N6(N:List (bq×bl))(V:Nat):Prop where
 v2:V<=2000
 len:N.length<=3000
 to:∀x∈N,x.2.to.length<=100000/\∀v∈x.2.to,0<=v/\v<=(V:Int)
 aF:∀x∈N,x.2.aF.length<=100000/\∀l∈x.2.aF,0<=l/\l<=2*(V:Int)+1
theorem Vk{N:List (bq×bl)}{V:Nat}(h6:N6 N V){i:Nat}{x:bq×bl}(hx:N[i]?=some x)(out:List Int)(hl:out.length=V+1) :
  xG (N.map aY,((i:Int),((0:Int),(out,()))))=some (N.map aY,((i:Int),(bQ out x.2.nd.to (-1),()))):=by
 have hx':(N.map aY)[i]?=some (aY x):=by rw[bT,hx];rfl
 have hi:=dR hx';obtain⟨h1,h2⟩:=h6.to x (cK hx);unfold xG;delta u4;refine dg (fun k:Nat=>(N.map aY,((i:Int),((k:Int),(bQ out ((x.2.to.take k).map Int.toNat) (-1),()))))) x.2.to.length rfl ?_ ?_ (bM (by omega))
 .intro k hk;have hv:=bu hk;obtain⟨v0,v1⟩:=h2 _ (List.getElem_mem hk);obtain⟨v,hv2⟩:=Int.eq_ofNat_of_zero_le v0;rw[hv2]at hv v1
  try dsimp only
  unfold xN;rw[dv (aP ⟨by omega,by omega⟩),bn hx'];refine ao (ax (show(k:Int)<((x.2.to.length:Nat):Int) by omega)) (ai (aP ⟨by omega,by omega⟩) (ai (aP ⟨show(0:Int)<=(k:Int) by omega,show(k:Int)<((x.2.to.length:Nat):Int) by omega⟩) ?_));have hg:jL x.2.to (k:Int)=(v:Int):=qW hv;refine ai (show ah (jL x.2.to (k:Int)) (List.length (bQ out ((x.2.to.take k).map Int.toNat) (-1)))=true by rw[hg];exact aP ⟨by omega,by rw[ig,hl];omega⟩) ?_;have e:∀(a a':Int) (b b':List Int),a=a'->b=b'->(some (.inl (N.map aY,((i:Int),(a,(b,()))))):Option (TL w9.σs⊕Out wY))=some (.inl (N.map aY,((i:Int),(a',(b',()))))):=by rintro _ _ _ _ rfl rfl;rfl
  refine e _ _ _ _ (bR (x:=(k:Int)+1) (by omega)) ?_;rw[cN hv,dN,List.map_cons,List.map_nil,sE];show List.set (bQ out ((x.2.to.take k).map Int.toNat) (-1)) (jL x.2.to (k:Int)).toNat (-1)=_;rw[hg]
 .try dsimp only
  unfold xN;rw[dv (aP ⟨by omega,by omega⟩),bn hx'];refine ag (aj (show ¬((x.2.to.length:Nat):Int)<((x.2.to.length:Nat):Int) by omega)) ?_;rw[dC];rfl
theorem Je{N:List (bq×bl)}{V:Nat}(h6:N6 N V){i:Nat}{x:bq×bl}(hx:N[i]?=some x)(a b c:Int)(out:List Int)(hl:out.length=V+1) :
  xc (N.map aY,(a,(b,((i:Int),(c,((0:Int),(out,())))))))=some (N.map aY,(a,(b,((i:Int),(bQ out x.2.nd.to c,()))))):=by
 have hx':(N.map aY)[i]?=some (aY x):=by rw[bT,hx];rfl
 have hi:=dR hx';obtain⟨h1,h2⟩:=h6.to x (cK hx);unfold xc;delta u7;refine dg (fun k:Nat=>(N.map aY,(a,(b,((i:Int),(c,((k:Int),(bQ out ((x.2.to.take k).map Int.toNat) c,())))))))) x.2.to.length rfl ?_ ?_ (bM (by omega))
 .intro k hk;have hv:=bu hk;obtain⟨v0,v1⟩:=h2 _ (List.getElem_mem hk);obtain⟨v,hv2⟩:=Int.eq_ofNat_of_zero_le v0;rw[hv2]at hv v1
  try dsimp only
  unfold xI;rw[dv (aP ⟨by omega,by omega⟩),bn hx'];refine ao (ax (show(k:Int)<((x.2.to.length:Nat):Int) by omega)) (ai (aP ⟨by omega,by omega⟩) (ai (aP ⟨show(0:Int)<=(k:Int) by omega,show(k:Int)<((x.2.to.length:Nat):Int) by omega⟩) ?_));have hg:jL x.2.to (k:Int)=(v:Int):=qW hv;refine ai (show ah (jL x.2.to (k:Int)) (List.length (bQ out ((x.2.to.take k).map Int.toNat) c))=true by rw[hg];exact aP ⟨by omega,by rw[ig,hl];omega⟩) ?_;have e:∀(p p':Int) (q q':List Int),p=p'->q=q'->(some (.inl (N.map aY,(a,(b,((i:Int),(c,(p,(q,())))))))):Option (TL wV.σs⊕Out wU))=some (.inl (N.map aY,(a,(b,((i:Int),(c,(p',(q',())))))))):=by rintro _ _ _ _ rfl rfl;rfl
  refine e _ _ _ _ (bR (x:=(k:Int)+1) (by omega)) ?_;rw[cN hv,dN,List.map_cons,List.map_nil,sE];show List.set (bQ out ((x.2.to.take k).map Int.toNat) c) (jL x.2.to (k:Int)).toNat c=_;rw[hg]
 .try dsimp only
  unfold xI;rw[dv (aP ⟨by omega,by omega⟩),bn hx'];refine ag (aj (show ¬((x.2.to.length:Nat):Int)<((x.2.to.length:Nat):Int) by omega)) ?_;rw[dC];rfl
theorem Vj{N:List (bq×bl)}{V:Nat}(h6:N6 N V)(out:List Int)(hl:out.length=V+1) :
  E1 (N.map aY,((0:Int),(out,())))=some (N.map aY,(bQ out ((N.map (·.2.nd)).flatMap (·.to)) (-1),())):=by
 have hn:=h6.len;unfold E1;delta u3;refine dg (fun i:Nat=>(N.map aY,((i:Int),(bQ out (((N.take i).map (·.2.nd)).flatMap (·.to)) (-1),())))) N.length rfl ?_ ?_ (bM (by omega))
 .intro i hi;have hx:=bu hi
  try dsimp only
  unfold xO;refine ao (ax (show(i:Int)<(((N.map aY).length:Nat):Int) by rw[aK];omega)) ((bW (Vk h6 hx _ (by rw[ig,hl]))).trans ?_);have e:∀(p p':Int) (q q':List Int),p=p'->q=q'->(some (.inl (N.map aY,(p,(q,())))):Option (TL xl.σs⊕Out xf))=some (.inl (N.map aY,(p',(q',())))):=by rintro _ _ _ _ rfl rfl;rfl
  refine e _ _ _ _ (bR (x:=(i:Int)+1) (by omega)) ?_;rw[cN hx,dN,List.flatMap_append,WI];simp
 .try dsimp only
  unfold xO;refine ag (aj (show ¬((N.length:Nat):Int)<(((N.map aY).length:Nat):Int) by rw[aK];omega)) ?_;rw[dC];rfl
theorem Wm(M:List Nd)(x:Nd)(out:List Int):fv (M++[x]) out=fB (fv M out) x:=by unfold fv;rw[List.foldl_append];rfl
theorem FV:∀(M:List Nd) (out:List Int),(fv M out).length=out.length
 |[],out=>rfl|x::M,out=>by show(fv M (fB out x)).length=_;rw[FV M,GC]
theorem Q9(x:Nd):∀(M:List Nd) (out:List Int),eO (M++[x]) out=eO M out+(if dE (fv M out) x.aF 0<0 then 1 else 0)
 |[],out=>by show(if dE out x.aF 0<0 then 1 else 0)+0=0+_;rw[Nat.zero_add];rfl
 |y::M,out=>by show(if dE out y.aF 0<0 then 1 else 0)+eO (M++[x]) (fB out y)=_;rw[Q9 x M (fB out y)];show _=(if dE out y.aF 0<0 then 1 else 0)+eO M (fB out y)+_;rw[Nat.add_assoc];rfl
theorem G4:∀(M:List Nd) (out:List Int),eO M out<=M.length
 |[],out=>Nat.le_refl _|y::M,out=>by have:=G4 M (fB out y);show(if dE out y.aF 0<0 then 1 else 0)+eO M (fB out y)<=M.length+1;split<;>omega
theorem Gi:∀(M:List Nd) {out:List Int}{B:Int},0<=B->(∀u,au out u<=B)->∀u,au (fv M out) u<=B+(M.length:Int)
 |[],out,B,h0,h,u=>by have:=h u;show au out u<=B+((0:Nat):Int);omega|y::M,out,B,h0,h,u=>by have h1:∀u,au (fB out y) u<=B+1:=GN (l:=out) (Q8 h y.aF 0 h0 h0) y.to (fun u=>by have:=h u;omega);have:=Gi M (out:=fB out y) (B:=B+1) (by omega) h1 u;show au (fv M (fB out y)) u<=B+((M.length+1:Nat):Int);omega
theorem UB{N:List (bq×bl)}{V:Nat}(h6:N6 N V){B:Int}(r:Int)(out:List Int)(hl:out.length=V+1)(hB:∀u,au out u<=B)(hB0:0<=B/\B<=900000000000) :
  xy (N.map aY,((0:Int),(r,((0:Int),(out,())))))=some (N.map aY,((eO (N.map (·.2.nd)) out:Int),(r,(fv (N.map (·.2.nd)) out,())))):=by
 have hn:=h6.len;unfold xy;delta u5;refine dg (fun i:Nat=>(N.map aY,((eO ((N.take i).map (·.2.nd)) out:Int),(r,((i:Int),(fv ((N.take i).map (·.2.nd)) out,())))))) N.length rfl ?_ ?_ (bM (by omega))
 .intro i hi;have hx:=bu hi;have hx':(N.map aY)[i]?=some (aY N[i]):=by rw[bT,hx];rfl
  obtain⟨f1,f2⟩:=h6.aF _ (List.getElem_mem hi);have hlen:((N.take i).map (fun x:bq×bl=>x.2.nd)).length<=3000:=by rw[aK,df];omega
  have hle:=G4 ((N.take i).map (fun x:bq×bl=>x.2.nd)) out;have hb:=Gi ((N.take i).map (fun x:bq×bl=>x.2.nd)) hB0.1 hB;have hrl:(fv ((N.take i).map (fun x:bq×bl=>x.2.nd)) out).length=V+1:=by rw[FV,hl]
  have e1:=Ta (V:=V) (B:=B+(((N.take i).map (fun x:bq×bl=>x.2.nd)).length:Int)) N[i] _ (fun u _=>hb u) ⟨by omega,by omega⟩ hrl h6.v2 f2 f1
  try dsimp only
  unfold xJ;refine ao (ax (show(i:Int)<(((N.map aY).length:Nat):Int) by rw[aK];omega)) (ai (aP ⟨by omega,by rw[aK];omega⟩) ?_);rw[bn hx'];refine(bW e1).trans ?_;have e:∀(p p' q q':Int) (s s':List Int),p=p'->q=q'->s=s'->(some (.inl (N.map aY,(p,(r,(q,(s,())))))):Option (TL w0.σs⊕Out wX))=some (.inl (N.map aY,(p',(r,(q',(s',())))))):=by rintro _ _ _ _ _ _ rfl rfl rfl;rfl
  have hs:fv ((N.take (i+1)).map (fun x:bq×bl=>x.2.nd)) out=bQ (fv ((N.take i).map (fun x:bq×bl=>x.2.nd)) out) N[i].2.nd.to (dE (fv ((N.take i).map (fun x:bq×bl=>x.2.nd)) out) N[i].2.nd.aF 0):=by rw[cN hx,dN];exact Wm _ _ _
  have hc:eO ((N.take (i+1)).map (fun x:bq×bl=>x.2.nd)) out=eO ((N.take i).map (fun x:bq×bl=>x.2.nd)) out+(if dE (fv ((N.take i).map (fun x:bq×bl=>x.2.nd)) out) N[i].2.nd.aF 0<0 then 1 else 0):=by rw[cN hx,dN];exact Q9 _ _ _
  rw[hs,hc];by_cases hneg:dE (fv ((N.take i).map (fun x:bq×bl=>x.2.nd)) out) N[i].2.nd.aF 0<0
  .rw[if_pos hneg];refine ao (ax hneg) ((bW (Je h6 hx _ r _ _ hrl)).trans ?_);exact e _ _ _ _ _ _ ((bR (x:=((eO ((N.take i).map (fun x:bq×bl=>x.2.nd)) out:Nat):Int)+1) (by omega)).trans (by omega)) (bR (x:=(i:Int)+1) (by omega)) rfl
  .rw[if_neg hneg];refine ag (aj hneg) ((bW (Je h6 hx _ r _ _ hrl)).trans ?_);exact e _ _ _ _ _ _ rfl (bR (x:=(i:Int)+1) (by omega)) rfl
 .try dsimp only
  unfold xJ;refine ag (aj (show ¬((N.length:Nat):Int)<(((N.map aY).length:Nat):Int) by rw[aK];omega)) ?_;rw[dC];rfl
theorem QZ(M:List Nd)(out:List Int):∀r,(eV M r out).length=out.length
 |0=>rfl|r+1=>by rw[eV,FV,QZ M out r]
theorem QA(M:List Nd){out:List Int}(h:∀u,au out u<=0):∀r u,au (eV M r out) u<=(r:Int)*(M.length:Int)
 |0,u=>by have:=h u;show au out u<=((0:Nat):Int)*_;omega|r+1,u=>by
  have h1:=Gi M (out:=eV M r out) (B:=(r:Int)*(M.length:Int)) (Int.mul_nonneg (by omega) (by omega)) (QA M h r) u;rw[eV];have:((r+1:Nat):Int)*(M.length:Int)=(r:Int)*(M.length:Int)+(M.length:Int):=by rw[Int.natCast_add,Int.add_mul];simp
  omega
theorem UA{N:List (bq×bl)}{V:Nat}(h6:N6 N V)(out:List Int)(hl:out.length=V+1)(hB:∀u,au out u<=0) :
  EX (N.map aY,((0:Int),((0:Int),(out,()))))=some ((eO (N.map (fun x:bq×bl=>x.2.nd)) (eV (N.map (fun x:bq×bl=>x.2.nd)) N.length out):Int),(eV (N.map (fun x:bq×bl=>x.2.nd)) (N.length+1) out,())):=by
 have hn:=h6.len;unfold EX;delta u4;refine dg (fun r:Nat=>(N.map aY,((match r with|0=>(0:Int)|r+1=>(eO (N.map (fun x:bq×bl=>x.2.nd)) (eV (N.map (fun x:bq×bl=>x.2.nd)) r out):Int)),((r:Int),(eV (N.map (fun x:bq×bl=>x.2.nd)) r out,()))))) (N.length+1) rfl ?_ ?_ (bM (by omega))
 .intro r hr;have hb:=QA (N.map (fun x:bq×bl=>x.2.nd)) hB r;have hm:(r:Int)*((N.map (fun x:bq×bl=>x.2.nd)).length:Int)<=3000*3000:=by rw[aK];exact Int.mul_le_mul (by omega) (by omega) (by omega) (by omega)
  have h0:0<=(r:Int)*((N.map (fun x:bq×bl=>x.2.nd)).length:Int):=Int.mul_nonneg (by omega) (by omega);have e1:=UB h6 (r:Int) (eV (N.map (fun x:bq×bl=>x.2.nd)) r out) (by rw[QZ,hl]) hb ⟨h0,by omega⟩
  try dsimp only
  unfold xK;refine ao (ax (show(r:Int)<=(((N.map aY).length:Nat):Int) by rw[aK];omega)) ((bW e1).trans ?_);have e:∀(p q q':Int) (s:List Int),q=q'->(some (.inl (N.map aY,(p,(q,(s,()))))):Option (TL xg.σs⊕Out xe))=some (.inl (N.map aY,(p,(q',(s,()))))):=by rintro _ _ _ _ rfl;rfl
  exact e _ _ _ _ (bR (x:=(r:Int)+1) (by omega))
 .try dsimp only
  unfold xK;refine ag (aj (show ¬((N.length+1:Nat):Int)<=(((N.map aY).length:Nat):Int) by rw[aK];omega)) ?_;rfl
def nt{α:Type}(n:aG)(r:α):Int×List Int×List al.T×List Int×List Int×List Int×List an.T×List al.T×α:=(n.vars,(n.aU,(n.af.map bP,(n.bB,(n.bC,(n.constraints,(n.aa.map bh,(n.aw.map eQ,r))))))))
abbrev W4:=List Int×List cM.T×List Int×List Int×Unit
def w4(of:List Int)(nd:List bq)(m lv:List Int):W4:=(of,(nd.map ia,(m,(lv,()))))
def gF(k:Nat):List bq:=(List.range k).map fun i=>⟨false,0,i⟩
theorem JW(k:Nat):gF (k+1)=gF k++[⟨false,0,k⟩]:=by unfold gF;rw[List.range_succ,dN];rfl
theorem ph(k:Nat):(gF k).length=k:=by simp[gF]
theorem VK(n:aG)(of m lv:List Int)(hA:n.aw.length<=2000):x9 ((n.aw.length:Int),((0:Int),nt n (nt n (w4 of [] m lv))))=some (nt n (nt n (w4 of (gF n.aw.length) m lv))):=by
 unfold x9;delta pX;refine pG (fun k:Nat=>((n.aw.length:Int),((k:Int),nt n (nt n (w4 of (gF k) m lv))))) n.aw.length ?_ ?_ NN (bM (by omega))
 .intro k hk;unfold nt w4
  try dsimp only
  unfold yf;refine ao (ax (by omega)) (ai (n5 (L:=(gF k).map ia) (by rw[aK,ph];omega) (by decide)) ?_);rw[bR (x:=(k:Int)+1) (by omega),JW,dN];rfl
 .unfold nt w4
  try dsimp only
  unfold yf;rw[eK (aj (by omega))];rfl
def jg(j k:Nat):List bq:=(List.range k).map fun i=>⟨true,j,i⟩
theorem KB(j k:Nat):jg j (k+1)=jg j k++[⟨true,j,k⟩]:=by unfold jg;rw[List.range_succ,dN];rfl
theorem Gs(j k:Nat):(jg j k).length=k:=by simp[jg]
theorem U6(n:aG)(of m lv:List Int)(j M R:Nat)(pre:List bq)(hj:j<=4)(hM:M<=4)(hR:R<=4)(hp:pre.length<=3000) :
  xY ((j:Int),((M:Int),((j:Int),((R:Int),((0:Int),nt n (nt n (w4 of pre m lv)))))))=some ((M:Int),((j:Int),nt n (nt n (w4 of (pre++jg j R) m lv)))):=by
 unfold xY;refine dg (fun k:Nat=>((j:Int),((M:Int),((j:Int),((R:Int),((k:Int),nt n (nt n (w4 (of) (pre++jg j k) m lv)))))))) R (by rw[show jg j 0=[]from rfl,fR];rfl) ?_ ?_ (bM (by omega))
 .intro k hk;unfold nt w4
  try dsimp only
  unfold yc;refine ao (ax (by omega)) (ai (n5 (L:=(pre++jg j k).map ia) (by rw[aK,bA,Gs];omega) (by decide)) ?_);rw[bR (x:=(k:Int)+1) (by omega),KB,<-dn,List.map_append (l₁:=pre++jg j k)];rfl
 .unfold nt w4
  try dsimp only
  unfold yc;rw[eK (aj (by omega))];rfl
theorem Gu(k:Nat):∀(l:List cr) (m:cr),fP k (l++[m])=fP k l++Pl.fA (k+l.length) m
 |[],m=>by simp[fP]|x::l,m=>by rw[List.cons_append,fP,fP,Gu (k+1) l m,dn,cx,show k+1+l.length=k+(l.length+1) by omega]
theorem VL(n:aG)(of m lv:List Int)(hA:n.aw.length<=2000)(hM:n.aa.length<=4)(hR:∀M∈n.aa,M.reads.length<=4) :
  x8 ((n.aa.length:Int),((0:Int),nt n (nt n (w4 of (gF n.aw.length) m lv))))=some (nt n (w4 of (dp n) m lv)):=by
 have hlen:∀k,k<=n.aa.length->(gF n.aw.length++fP 0 (n.aa.take k)).length<=3000:=by
  intro k hk;rw[bA,ph,pc];have:=uq gD (n.aa.take k) 4 (fun M hM=>by unfold gD;rw[aK];exact hR M (List.mem_of_mem_take hM));have h2:(n.aa.take k).length<=4:=by rw[df];omega
  omega
 unfold x8;delta pX;refine dg (fun k:Nat=>((n.aa.length:Int),((k:Int),nt n (nt n (w4 of (gF n.aw.length++fP 0 (n.aa.take k)) m lv))))) n.aa.length (by rw[List.take_zero,show fP 0 []=[]from rfl,fR];rfl) ?_ ?_ (bM (by omega))
 .intro k hk;have hMk:=bu hk;have hMk':(n.aa.map bh)[k]?=some (bh n.aa[k]):=by rw[bT,hMk];rfl
  have hrk:=hR _ (List.getElem_mem hk);unfold nt w4
  try dsimp only
  unfold ye;rw[gz (ax (by omega)),dv (aP ⟨by omega,by rw[aK];omega⟩),bn hMk'];have e:=U6 n of m lv k n.aa.length n.aa[k].reads.length _ (by omega) hM hrk (hlen k (by omega));have hl:List.length (bh n.aa[k]).2.2.2.1=n.aa[k].reads.length:=aK _;rw[hl];refine(bW e).trans ?_;have e2:gF n.aw.length++fP 0 (n.aa.take (k+1))=gF n.aw.length++fP 0 (n.aa.take k)++jg k n.aa[k].reads.length:=by rw[cN hMk,Gu,dn,df,Nat.min_eq_left (by omega),Nat.zero_add];rfl
  rw[e2];have hw:=bR (x:=(k:Int)+1) (by omega);show some (Sum.inl (_,(IntKind.wrap (.i64:IntKind) ((k:Int)+1),_)))=_;rw[hw];rfl
 .unfold nt w4
  try dsimp only
  unfold ye;rw[eK (aj (by omega)),dC];rfl
theorem U8(n:aG)(V:Nat)(of m lv vs:List Int)(nd:List bq)(a b:Int)(k:Nat)(hk:k<=3000)(hln:vs.length<=100000)(hvs:∀v∈vs,0<=v/\v<=(V:Int))(hof:of.length=V+1) :
  xX ((k:Int),(a,(b,(vs,((vs.length:Int),((0:Int),nt n (w4 of nd m lv)))))))=some (a,(b,nt n (w4 (bQ of (vs.map Int.toNat) ((k:Int)+1)) nd m lv))):=by
 unfold xX;delta Ht;refine dg (fun j:Nat=>((k:Int),(a,(b,(vs,((vs.length:Int),((j:Int),nt n (w4 (bQ of ((vs.take j).map Int.toNat) ((k:Int)+1)) nd m lv)))))))) vs.length rfl ?_ ?_ (bM (by omega))
 .intro j hj;have hv:=bu hj;obtain⟨h0,h1⟩:=hvs _ (List.getElem_mem hj);obtain⟨v,hv2⟩:=Int.eq_ofNat_of_zero_le h0;rw[hv2]at hv h1;unfold nt w4
  try dsimp only
  unfold ya;rw[gz (ax (by omega)),dv (aP ⟨by omega,by omega⟩),bn (σ:=.int .i64) hv,dv (aP ⟨by omega,by rw[ig,hof];omega⟩),bR (x:=(j:Int)+1) (by omega),bR (x:=(k:Int)+1) (by omega)];rw[cN hv,dN,List.map_cons,List.map_nil,sE];rfl
 .unfold nt w4
  try dsimp only
  unfold ya;rw[eK (aj (by omega)),dC];rfl
theorem U7{n:aG}{V:Nat}(hs:cL n V)(ft:Fit n)(m lv:List Int):xZ (((dp n).length:Int),((0:Int),nt n (w4 (List.replicate (V+1) 0) (dp n) m lv)))=some (wk n V m lv):=by
 have hnl:=GL hs;have hV2:=hs.v2;have hnl2:(dp n).length=(bb n).length:=by rw[QE];unfold bb;rw[aK]
 have hmw:∀M∈n.aa,0<=M.word:=fun M hM=>by have:=hs.aa M hM;omega
 unfold xZ;delta ji;refine dg (fun k:Nat=>(((dp n).length:Int),((k:Int),nt n (w4 (dV (bb n) V k) (dp n) m lv)))) (dp n).length rfl ?_ ?_ (bM (by omega))
 .intro k hk;have hxd:=bu hk;obtain⟨y,hy1,hy2⟩:=Bh n hxd;have hy:=cK hy1;have hx:(bb n)[k]?=some y.nd:=by rw[Bo,hy1];rfl
  have hxd':((dp n).map ia)[k]?=some (ia (dp n)[k]):=by rw[bT,hxd];rfl
  have hvs:∀u∈y.to,0<=u/\u<=(V:Int):=fun u hu=>by have:=hs.lN hy hu;omega
  have hlens:=yA hs hy;have e1:=JE (of:=dV (bb n) V k) (m:=m) (lv:=lv) (nd:=dp n) hy2 ft hmw;have e2:=U8 n V (dV (bb n) V k) m lv y.to (dp n) ((dp n).length:Int) (k:Int) k (by omega) (by omega) hvs (yp _ _ _);unfold nt w4
  try dsimp only
  unfold yb;refine ao (ax (by omega)) (ai (aP ⟨by omega,by rw[aK];omega⟩) ?_);rw[bn hxd'];refine aE e1 (aE e2 ?_);rw[KJ hx];have hw:=bR (x:=(k:Int)+1) (by omega);show some (Sum.inl (_,(IntKind.wrap (.i64:IntKind) ((k:Int)+1),_)))=_;rw[hw];rfl
 .unfold nt w4
  try dsimp only
  unfold yb;rw[eK (aj (by omega)),hnl2];rfl
theorem ZK{n:aG}{V:Nat}(hs:cL n V)(ft:Fit n):Zo9 (nt n ())=some (wk n V (List.replicate (V+1) 0) (List.replicate (V+1) 0)):=by
 have hV2:=hs.v2;have hvars:=hs.vars;have e3:=VK n (List.replicate (V+1) 0) (List.replicate (V+1) 0) (List.replicate (V+1) 0) hs.lens.2.2.1;have e8:=VL n (List.replicate (V+1) 0) (List.replicate (V+1) 0) (List.replicate (V+1) 0) hs.lens.2.2.1 hs.lens.2.2.2.2 (fun M hM=>(hs.aa M hM).2.2.2.2.2.2.1);have e17:=U7 hs ft (List.replicate (V+1) 0) (List.replicate (V+1) 0);have hw:IntKind.wrap (.i64:IntKind) (n.vars+1)=((V+1:Nat):Int):=by rw[hvars,bR (by omega)];omega
 show FU wT x9 x8 xY xZ xX n.vars n.aU (n.af.map bP) n.bB n.bC n.constraints (n.aa.map bh) (n.aw.map eQ)=_;unfold FU;rw[hw];have hc:∀k:Int,0<=k->k<=8->both (decide ((0:Int)<=((V+1:Nat):Int))) (both (decide (((V+1:Nat):Int)<=((V+1:Nat):Int))) (decide (k*((V+1:Nat):Int)<=281474976710656)))=true:=by intro k h0 h8;rw[bF (by omega),bF (by omega),bF (by have:k*((V+1:Nat):Int)<=8*((V+1:Nat):Int):=Int.mul_le_mul_of_nonneg_right h8 (by omega);omega)];rfl
 have e3':x9 (((List.map eQ n.aw).length:Int),((0:Int),nt n (nt n (w4 (List.replicate (V+1) 0) [] (List.replicate (V+1) 0) (List.replicate (V+1) 0)))))=some (nt n (nt n (w4 (List.replicate (V+1) 0) (gF n.aw.length) (List.replicate (V+1) 0) (List.replicate (V+1) 0)))):=by rw[aK];exact e3
 have e8':x8 (((List.map bh n.aa).length:Int),((0:Int),nt n (nt n (w4 (List.replicate (V+1) 0) (gF n.aw.length) (List.replicate (V+1) 0) (List.replicate (V+1) 0)))))=some (nt n (w4 (List.replicate (V+1) 0) (dp n) (List.replicate (V+1) 0) (List.replicate (V+1) 0))):=by rw[aK];exact e8
 have e17':xZ (((List.map ia (dp n)).length:Int),((0:Int),nt n (w4 (List.replicate (V+1) 0) (dp n) (List.replicate (V+1) 0) (List.replicate (V+1) 0))))=some (wk n V (List.replicate (V+1) 0) (List.replicate (V+1) 0)):=by rw[aK];exact e17
 exact ai (hc 8 (by decide) (by decide)) (ai (hc 1 (by decide) (by decide)) (ai (hc 8 (by decide) (by decide)) (aE e3' (aE e8' (aE e17' rfl)))))
theorem S4{V:Nat}{m:List Int}(h:V<=2000):fresh V m<NN:=by
 have z:∀(p:Nat->Bool) k,zc p k<=k:=by
  intro p k
  induction k with|zero=>exact Nat.le_refl _|succ k ih=>rw[zc];split<;>omega
 have:fresh V m<=V+1:=z _ _;exact bM (by omega)
theorem Uv{n:aG}{V:Nat}(hs:cL n V)(ft:Fit n) :
  ∃m lv,Zhj (wk n V (List.replicate (V+1) 0) (List.replicate (V+1) 0))=some (eP (bb n) V,wk n V m lv) /\
   (eP (bb n) V=true->lv.length=V+1/\∀v,v<=V->∃k:Nat,au lv v=(k:Int)/\bX (bb n) v k):=by
 have hV2:=hs.v2;have hL:=uF (B:=fun d=>FO EU d.1 d.2.1 d.2.2.1 d.2.2.2.1 d.2.2.2.2.1 d.2.2.2.2.2.1 d.2.2.2.2.2.2.1 d.2.2.2.2.2.2.2.1 d.2.2.2.2.2.2.2.2.1 d.2.2.2.2.2.2.2.2.2.1 d.2.2.2.2.2.2.2.2.2.2.1 d.2.2.2.2.2.2.2.2.2.2.2.1 d.2.2.2.2.2.2.2.2.2.2.2.2.1 d.2.2.2.2.2.2.2.2.2.2.2.2.2.1)
  (I:=fun d:Int×Int×WT=>∃(k:Nat) (m lv:List Int),d=(((V+1:Nat):Int),((k:Int),wk n V m lv))/\k<=V+1/\VI (bb n) V m lv/\(∀u,u<=V->au m u≠1)/\(∀u,u<k->tl (bb n) m u))
  (Q:=fun o:Out xH=>(∃m lv,o=.inl (false,wk n V m lv)/\∃u,u<=V/\∀k,¬bX (bb n) u k)\/(∃m lv,o=.inr (wk n V m lv)/\VI (bb n) V m lv/\∀u,u<V+1->tl (bb n) m u))
  (μ:=fun d=>V+1-d.2.1.toNat) ?_ NN (((V+1:Nat):Int),((0:Int),wk n V (List.replicate (V+1) 0) (List.replicate (V+1) 0))) ⟨0,_,_,rfl,by omega,vi0,fun u hu=>by unfold au;rw[dP,List.getElem?_replicate];split<;>simp,fun u h=>by omega⟩ (bM (by omega))
 .obtain⟨o,ho,hcase⟩:=hL;have hlen:((List.length (dV (bb n) V (bb n).length):Nat):Int)=((V+1:Nat):Int):=by rw[yp]
  have ho':Zhi (((List.length (dV (bb n) V (bb n).length):Nat):Int),((0:Int),wk n V (List.replicate (V+1) 0) (List.replicate (V+1) 0)))=some o:=by rw[hlen];exact ho
  rcases hcase with⟨m,lv,rfl,u,hu,hno⟩|⟨m,lv,rfl,hI,hT⟩
  .have hf:eP (bb n) V=false:=by
    cases h:eP (bb n) V
    .rfl
    .obtain⟨kk,hkk⟩:=(AL hs.apart V).1 h u hu;exact absurd hkk (hno kk)
   rw[hf];exact⟨m,lv,aE ho' rfl,fun h=>by cases h⟩
  .have hl:∀v,v<=V->∃k:Nat,au lv v=(k:Int)/\bX (bb n) v k:=fun v hv=>ux hI hv (hT v (by omega));have ht:eP (bb n) V=true:=(AL hs.apart V).2 fun v hv=>by obtain⟨k,_,h⟩:=hl v hv;exact⟨k,h⟩
   rw[ht];exact⟨m,lv,aE ho' rfl,fun _=>⟨hI.ll,hl⟩⟩
 .rintro _ ⟨k,m,lv,rfl,hk,hI,hU,hT⟩;by_cases hlt:k<V+1
  .obtain⟨b,m2,lv2,e,hp⟩:=Tw hs ft NN m lv k hI (fun u hu h=>absurd h (hU u hu)) (by omega) (S4 hV2);have e':EU ((k:Int),wk n V m lv)=some (b,wk n V m2 lv2):=e;rcases hp with⟨rfl,hI7,hE7,ht7⟩|⟨rfl,u',hu',hno⟩
   .right;refine⟨_,ao (ax (show(k:Int)<((V+1:Nat):Int) by omega)) (aE e' (ag rfl rfl)),⟨k+1,m2,lv2,?_,by omega,hI7,fun u hu h=>hU u hu (hE7.b u hu h),fun u hu=>?_⟩,?_⟩
    .have e2:∀a a':Int,a=a'->(((V+1:Nat):Int),(a,wk n V m2 lv2))=(((V+1:Nat):Int),(a',wk n V m2 lv2)):=by rintro _ _ rfl;rfl
     exact e2 _ _ (bR (x:=(k:Int)+1) (by omega))
    .by_cases e:u=k
     .subst e;exact ht7
     .exact(AQ hI hI7 hE7 (by omega) (hT u (by omega))).1
    .show V+1-(IntKind.wrap (.i64:IntKind) ((k:Int)+1)).toNat<V+1-(k:Int).toNat;rw[bR (x:=(k:Int)+1) (by omega)];omega
   .left;exact⟨_,ao (ax (show(k:Int)<((V+1:Nat):Int) by omega)) (aE e' (ao rfl rfl)),.inl ⟨m2,lv2,rfl,u',hu',hno⟩⟩
  .left;exact⟨_,ag (aj (show ¬(k:Int)<((V+1:Nat):Int) by omega)) rfl,.inr ⟨m,lv,rfl,hI,fun u hu=>hT u (by omega)⟩⟩
theorem Zq6{n:aG}(ft:Fit n):Zfn (cP n,())=some (fH n,()):=by
 have es:j5 (cP n,())=some (ed n,()):=by unfold j5;rw[show ie ((cP n,()):TL [bE]).1=n from oi n,A0 ft];rfl
 by_cases h0:ed n=0
 .obtain⟨V,hs⟩:=Bk h0;have hV:n.vars.toNat=V:=by rw[hs.vars];rfl
  obtain⟨m,lv,ea,_⟩:=Uv hs ft;have ew:=ZK hs ft;cases hc:eP (bb n) V
  .have et:FP (nt n ())=some (.inl ((8:Int),())):=by refine aE es (ag (by rw[h0];rfl) (aE ew (aE ea (ao (by rw[hc];rfl) rfl))))
   refine(aE et rfl).trans ?_;unfold fH;rw[h0,hV,hc];rfl
  .have et:FP (nt n ())=some (.inr ((0:Int),wk n V m lv)):=by refine aE es (ag (by rw[h0];rfl) (aE ew (aE ea (ag (by rw[hc];rfl) rfl))))
   refine(aE et rfl).trans ?_;unfold fH;rw[h0,hV,hc];rfl
 .have et:FP (nt n ())=some (.inl (ed n,())):=by refine aE es (ao (by simp[h0]) rfl)
  refine(aE et rfl).trans ?_;unfold fH;rw[if_pos h0];rfl
def A6(n:aG)(k:Nat):List (bq×bl):=(gF k).zip ((n.aw.take k).map nj)
def M6(n:aG)(k:Nat):List (bq×bl):=(fP 0 (n.aa.take k)).zip ((n.aa.take k).flatMap gD)
def R6(j:Nat)(M:cr)(r:Nat):List (bq×bl):=(jg j r).zip ((M.reads.take r).map (mT M.word))
def n6(n:aG):List (bq×bl):=A6 n n.aw.length++M6 n n.aa.length
theorem Ty{n:aG}{k:Nat}{a:ey}(h:n.aw[k]?=some a):A6 n (k+1)=A6 n k++[(⟨false,0,k⟩,nj a)]:=by unfold A6;rw[JW,cN h,dN,List.zip_append (by rw[ph,aK,df];have:=dR h;omega)];rfl
theorem Kq{n:aG}{k:Nat}(h:k<=n.aw.length):(A6 n k).length=k:=by unfold A6;rw[List.length_zip,ph,aK,df];omega
theorem TB{j:Nat}{M:cr}{k:Nat}{r:iu}(h:M.reads[k]?=some r):R6 j M (k+1)=R6 j M k++[(⟨true,j,k⟩,mT M.word r)]:=by unfold R6;rw[KB,cN h,dN,List.zip_append (by rw[Gs,aK,df];have:=dR h;omega)];rfl
theorem XL{j:Nat}{M:cr}{k:Nat}(h:k<=M.reads.length):(R6 j M k).length=k:=by unfold R6;rw[List.length_zip,Gs,aK,df];omega
theorem Tz{n:aG}{k:Nat}{M:cr}(h:n.aa[k]?=some M):M6 n (k+1)=M6 n k++R6 k M M.reads.length:=by unfold M6 R6;rw[cN h,Gu,List.flatMap_append,List.zip_append (by rw[pc])];have:=dR h;rw[df,Nat.min_eq_left (by omega),Nat.zero_add,dC];simp only[List.flatMap_cons,List.flatMap_nil,fR];rfl
theorem US(n:aG)(hA:n.aw.length<=2000):PX ((0:Int),nt n ([],()))=some (nt n ((A6 n n.aw.length).map aY,())):=by
 unfold PX;delta pW;refine dg (fun k:Nat=>((k:Int),nt n ((A6 n k).map aY,()))) n.aw.length rfl ?_ ?_ (bM (by omega))
 .intro k hk;have ha:=bu hk;have ha':(n.aw.map eQ)[k]?=some (eQ n.aw[k]):=by rw[bT,ha];rfl
  unfold nt
  try dsimp only
  unfold xR;refine ao (ax (show(k:Int)<(((n.aw.map eQ).length:Nat):Int) by rw[aK];omega)) (ai (aP ⟨by omega,by rw[aK];omega⟩) ?_);rw[bn ha'];refine ai (n5 (L:=(A6 n k).map aY) (by rw[aK,Kq (by omega)];omega) (by decide)) ?_;rw[bR (x:=(k:Int)+1) (by omega),Ty ha,List.map_append (l₁:=A6 n k)];rfl
 .unfold nt
  try dsimp only
  unfold xR;refine ag (aj (show ¬(n.aw.length:Int)<(((n.aw.map eQ).length:Nat):Int) by rw[aK];omega)) rfl
theorem T9{n:aG}{j:Nat}{M:cr}(hM:n.aa[j]?=some M)(hw:0<=M.word/\M.word<=4000)(hR:M.reads.length<=4)(hrv:∀r∈M.reads,-1099511627776<=r.var/\r.var<=1099511627776)(hj:j<=4)(pre:List (bq×bl))(hp:pre.length<=3000) :
  EP ((j:Int),((0:Int),nt n (pre.map aY,())))=some ((j:Int),nt n ((pre++R6 j M M.reads.length).map aY,())):=by
 have hM':(n.aa.map bh)[j]?=some (bh M):=by rw[bT,hM];rfl
 have hjl:=dR hM';unfold EP;delta jh;refine dg (fun k:Nat=>((j:Int),((k:Int),nt n ((pre++R6 j M k).map aY,())))) M.reads.length (by rw[show R6 j M 0=[]from rfl,fR];rfl) ?_ ?_ (bM (by omega))
 .intro k hk;have hr:=bu hk;have hr':(M.reads.map er)[k]?=some (er M.reads[k]):=by rw[bT,hr];rfl
  have e1:=SV M k _ hr hw (hrv _ (List.getElem_mem hk));unfold nt
  try dsimp only
  unfold xM;rw[dv (aP ⟨by omega,by omega⟩),bn hM',show(bh M).2.2.2.1=M.reads.map er from rfl];refine ao (ax (show(k:Int)<(((M.reads.map er).length:Nat):Int) by rw[aK];omega)) (ai (aP ⟨by omega,by omega⟩) (ai (aP ⟨by omega,by rw[aK];omega⟩) (ai (aP ⟨by omega,by omega⟩) ?_)));rw[bn hr'];refine(bW e1).trans (ai (n5 (L:=(pre++R6 j M k).map aY) (by rw[aK,bA,XL (by omega)];omega) (by decide)) ?_);rw[bR (x:=(k:Int)+1) (by omega),TB hr,<-dn,List.map_append (l₁:=pre++R6 j M k)];rfl
 .unfold nt
  try dsimp only
  unfold xM;rw[dv (aP ⟨by omega,by omega⟩),bn hM',show(bh M).2.2.2.1=M.reads.map er from rfl];exact ag (aj (show ¬(M.reads.length:Int)<(((M.reads.map er).length:Nat):Int) by rw[aK];omega)) rfl
theorem XM(n:aG)(k:Nat):(M6 n k).length=((n.aa.take k).flatMap gD).length:=by unfold M6;rw[List.length_zip,pc];omega
theorem nh(n:aG):(n6 n).map (fun x:bq×bl=>x.2)=eh n:=by
 unfold n6 A6 M6 eh;rw[dN,dC,dC];congr 1
 .exact List.map_snd_zip (by rw[ph,aK];omega)
 .exact List.map_snd_zip (by rw[pc];omega)
theorem uc(n:aG):(n6 n).map (fun x:bq×bl=>x.2.nd)=bb n:=by unfold bb;rw[<-nh,List.map_map];rfl
theorem oJ{n:aG}{V:Nat}(hs:cL n V):N6 (n6 n) V:=by
 have hm:∀x∈n6 n,x.2∈eh n:=fun x hx=>by rw[<-nh];exact List.mem_map_of_mem hx
 refine⟨hs.v2,?_,fun x hx=>⟨?_,fun v hv=>?_⟩,fun x hx=>⟨?_,fun l hl=>?_⟩⟩
 .have h:=GL hs;rw[<-uc,aK]at h;exact h
 .have:=(yA hs (hm x hx)).1;omega
 .have:=hs.lN (hm x hx) hv;omega
 .have:=(yA hs (hm x hx)).2;omega
 .have:=hs.Bv (hm x hx) hl;omega
theorem OR{n:aG}{V:Nat}(hs:cL n V)(ft:Fit n):PK (cP n,())=some ((n6 n).map aY,()):=by
 have hA:=hs.lens.2.2.1;have hMl:=hs.lens.2.2.2.2;have e3:=US n hA;have hlen:∀k,k<=n.aa.length->(A6 n n.aw.length++M6 n k).length<=3000:=by
  intro k hk;rw[bA,Kq (Nat.le_refl _),XM];have:=uq gD (n.aa.take k) 4 (fun M hM=>by unfold gD;rw[aK];exact(hs.aa M (List.mem_of_mem_take hM)).2.2.2.2.2.2.1);have h2:(n.aa.take k).length<=4:=by rw[df];omega
  omega
 have e8:PW ((0:Int),nt n ((A6 n n.aw.length).map aY,()))=some ((n6 n).map aY,()):=by
  unfold PW;delta pW;refine dg (fun k:Nat=>((k:Int),nt n ((A6 n n.aw.length++M6 n k).map aY,()))) n.aa.length (by rw[show M6 n 0=[]from rfl,fR];rfl) ?_ ?_ (bM (by omega))
  .intro k hk;have hM:=bu hk;have hm:=hs.aa _ (List.getElem_mem hk);have hfit:=ft.aa.2 _ (List.getElem_mem hk);have e11:=T9 hM ⟨by omega,by omega⟩ hm.2.2.2.2.2.2.1 (fun r hr=>⟨(hfit.iP r hr).2.1,(hfit.iP r hr).2.2.1⟩) (by omega) (A6 n n.aw.length++M6 n k) (hlen k (by omega));unfold nt
   try dsimp only
   unfold xQ;refine ao (ax (show(k:Int)<(((n.aa.map bh).length:Nat):Int) by rw[aK];omega)) ((bW e11).trans ?_);have e:∀(p q:Int) (s s':List aQ.T),p=q->s=s'->(some (.inl (p,nt n (s,()))):Option (TL xw.σs⊕Out xk))=some (.inl (q,nt n (s',()))):=by rintro _ _ _ _ rfl rfl;rfl
   exact e _ _ _ _ (bR (x:=(k:Int)+1) (by omega)) (by rw[Tz hM,dn]<;>rfl)
  .unfold nt
   try dsimp only
   unfold xQ;exact ag (aj (show ¬(n.aa.length:Int)<(((n.aa.map bh).length:Nat):Int) by rw[aK];omega)) rfl
 exact aE e3 (aE e8 rfl)
theorem Ma{n:aG}{V:Nat}(hs:cL n V)(ft:Fit n)(h0:ed n=0) :
  Zfg (cP n,())=some (if eP (bb n) V then(eV (bb n) ((n6 n).length+1) (fF (bb n) V),(true,()))else([],(false,()))):=by
 have hV2:=hs.v2;have h6:=oJ hs;have es:o9 (cP n,())=some (ed n,()):=by unfold o9 j5;rw[show ie ((cP n,()):TL [bE]).1=n from oi n,A0 ft];rfl
 have eN:=OR hs ft;have hw:IntKind.wrap (.i64:IntKind) (n.vars+1)=((V+1:Nat):Int):=by rw[hs.vars,bR (by omega)];omega
 have e6:=Vj h6 (List.replicate (V+1) 0) (by simp);rw[uc]at e6;have hout:bQ (List.replicate (V+1) 0) ((bb n).flatMap (·.to)) (-1)=fF (bb n) V:=rfl;rw[hout]at e6;have hol:(fF (bb n) V).length=V+1:=by unfold fF;rw[ig];simp
 have hob:∀u,au (fF (bb n) V) u<=0:=by unfold fF;refine GN (l:=List.replicate (V+1) 0) (by omega) _ (fun u=>?_);unfold au;rw[dP,List.getElem?_replicate];split<;>simp
 have e14:=UA h6 (fF (bb n) V) hol hob;rw[uc]at e14;have hNl:(n6 n).length=(bb n).length:=by rw[<-uc,aK]
 have ht:=Wl hs.apart hs.ba hs.dT;rw[<-hNl]at ht;have hle:=G4 (bb n) (eV (bb n) (n6 n).length (fF (bb n) V));show Fi EB PK o9 E1 xG EX xy xc (cP n)=_;unfold Fi;refine(bW es).trans (ag (by rw[h0];rfl) ?_);have hw':IntKind.wrap (.i64:IntKind) (@HAdd.hAdd Int Int Int _ (cP n).1 (1:Int))=((V+1:Nat):Int):=hw;rw[hw'];refine ai (by show both (decide _) (both (decide _) (decide _))=true;rw[bF (by omega),bF (by omega),bF (by show(8:Int)*_<=_;omega)];rfl) ((bW eN).trans ((bW e6).trans ((bW e14).trans ?_)));by_cases ha:eP (bb n) V=true
 .have hz:=ht.2 ha;rw[if_pos ha];refine ag (aj (by show ¬(0:Int)<((eO (bb n) (eV (bb n) (n6 n).length (fF (bb n) V)):Nat):Int);rw[hz];omega)) rfl
 .have hz:eO (bb n) (eV (bb n) (n6 n).length (fF (bb n) V))≠0:=fun h=>ha (ht.1 h);rw[if_neg ha];refine ao (ax (by show(0:Int)<((eO (bb n) (eV (bb n) (n6 n).length (fF (bb n) V)):Nat):Int);omega)) rfl
theorem Zxe{n:aG}(ft:Fit n):Zb7 (cP n,())=some (fH n,()):=by
 have es:o9 (cP n,())=some (ed n,()):=by unfold o9 j5;rw[show ie ((cP n,()):TL [bE]).1=n from oi n,A0 ft];rfl
 by_cases h0:ed n=0
 .obtain⟨V,hs⟩:=Bk h0;have hV:n.vars.toNat=V:=by rw[hs.vars];rfl
  have eL:=Ma hs ft h0;unfold fH;rw[h0,hV,if_neg (by simp)];by_cases ha:eP (bb n) V=true
  .rw[if_pos ha]at eL;rw[if_pos ha];exact aE es (ag (by rw[h0];rfl) (aE eL (ag rfl rfl)))
  .rw[if_neg ha]at eL;rw[if_neg ha];exact aE es (ag (by rw[h0];rfl) (aE eL (ao rfl rfl)))
 .unfold fH;rw[if_pos h0];exact aE es (ao (by simp[h0]) rfl)
