import Derived.Test.YtkcpdpplobhpaaaGreatKNd
set_option linter.unusedVariables false
set_option linter.unusedSimpArgs false
set_option linter.unnecessarySimpa false
section
namespace Go.Proofs.YtkcpdpplobhpaaaGreat.Pl
structure bH where
 rd:Bool
 mem:Nat
 pos:Nat
structure bF where
 to:List Int
 aR:List Int
def qa(a:fT):bF:=⟨[a.var],[a.a,a.b]⟩
def pK(word:Int)(r:nL):bF:=⟨de r.var word.toNat,r.addr⟩
def kf(m:bP):List bF:=m.reads.map (pK m.word)
def fQ(n:aD):List bF:=n.aP.map qa++n.aa.flatMap kf
def jo(k:Nat)(m:bP):List bH:=(List.range m.reads.length).map fun i=>⟨true,k,i⟩
def jD(k:Nat):List bP->List bH
 |[]=>[]|m::l=>jo k m++jD (k+1) l
def eI(n:aD):List bH:=(List.range n.aP.length).map (fun i=>⟨false,0,i⟩)++jD 0 n.aa
def bH.is(n:aD)(x:bH)(i:bF):Prop:=(x.rd=false/\∃a,n.aP[x.pos]?=some a/\i=qa a)\/(x.rd=true/\∃m r,n.aa[x.mem]?=some m/\m.reads[x.pos]?=some r/\i=pK m.word r)
theorem agv(n:List bP):∀(l:List bP) (k:Nat),(∀j,l[j]?=n[k+j]?)->∀(i:Nat) (x:bH),(jD k l)[i]?=some x->∃(m:bP) (r:nL),n[x.mem]?=some m/\m.reads[x.pos]?=some r/\(l.flatMap kf)[i]?=some (pK m.word r)/\x.rd=true:=by
 intro l
 induction l with
 |nil=>intro k _ i x h;simp[jD]at h|cons m l ih=>
  intro k hk i x h;rw[jD]at h;rw[List.flatMap_cons];have hl1:(jo k m).length=m.reads.length:=by simp[jo]
  have hl2:(kf m).length=m.reads.length:=by simp[kf]
  by_cases hi:i<m.reads.length
  .rw[List.getElem?_append_left (by omega)]at h;rw[List.getElem?_append_left (by omega)];unfold jo at h;rw[cg,List.getElem?_range hi]at h;injection h with h;subst h;have:=hk 0;rw[Nat.add_zero]at this;refine⟨m,m.reads[i],by rw[<-this];rfl,aT hi,?_,rfl⟩;unfold kf;rw[cg,aT hi];rfl
  .rw[List.getElem?_append_right (by omega)]at h;rw[List.getElem?_append_right (by omega)];rw[hl1]at h;rw[hl2];exact ih (k+1) (fun j=>by have:=hk (j+1);rw[show k+1+j=k+(j+1) by omega,<-this];rfl) _ x h
theorem uj:∀(l:List bP) (k:Nat),(jD k l).length=(l.flatMap kf).length:=by
 intro l
 induction l with|nil=>intro k;rfl|cons m l ih=>intro k;rw[jD,List.flatMap_cons,aW,aW,ih];simp[jo,kf]
theorem Zuw(n:aD):(eI n).length=(fQ n).length:=by unfold eI fQ;simp only[aW,uj];simp
theorem JJ(n:aD){i:Nat}{x:bH}(h:(eI n)[i]?=some x):∃y,(fQ n)[i]?=some y/\x.is n y:=by
 unfold eI at h;unfold fQ;have hl1:((List.range n.aP.length).map (fun i=>(⟨false,0,i⟩:bH))).length=n.aP.length:=by simp
 have hl2:(n.aP.map qa).length=n.aP.length:=by simp
 by_cases hi:i<n.aP.length
 .rw[List.getElem?_append_left (by omega)]at h;rw[List.getElem?_append_left (by omega)];rw[cg,List.getElem?_range hi]at h;injection h with h;subst h;rw[cg,aT hi];exact⟨_,rfl,.inl ⟨rfl,_,aT hi,rfl⟩⟩
 .rw[List.getElem?_append_right (by omega)]at h;rw[List.getElem?_append_right (by omega)];rw[hl1]at h;rw[hl2];obtain⟨m,r,h1,h2,h3,h4⟩:=agv n.aa n.aa 0 (fun j=>by simp) _ x h;exact⟨_,h3,.inr ⟨h4,m,r,h1,h2,rfl⟩⟩
def bF.nd(x:bF):Nd:=⟨x.aR.map fun l=>(l / 2).toNat,x.to.map Int.toNat⟩
def bc(n:aD):List Nd:=(fQ n).map bF.nd
theorem akI{V:Int}:∀(l pre:List Int),pre.Nodup->(∀x∈pre,1<=x/\x<=V)->dup V pre l=0->(pre++l).Nodup/\∀x∈pre++l,1<=x/\x<=V:=by
 intro l
 induction l with
 |nil=>intro pre h1 h2 _;simpa using⟨h1,h2⟩|cons v l ih=>
  intro pre h1 h2 h;rw[dup]at h;by_cases ha:v<1\/V<v
  .rw[if_pos ha]at h;omega
  .rw[if_neg ha]at h;by_cases hc:pre.contains v=true
   .rw[if_pos hc]at h;omega
   .rw[if_neg hc]at h;have hn:v∉pre:=by simpa using hc
    have:=ih (pre++[v]) (by
     rw[List.nodup_append];exact⟨h1,by simp,fun a ha' b hb=>by simp at hb;subst hb;rintro rfl;exact hn ha'⟩) (fun x hx=>by
     rcases List.mem_append.1 hx with hx|hx
     .exact h2 x hx
     .simp at hx;subst hx;omega) h
    simpa using this
structure cO(n:aD)(V:Nat):Prop where
 vars:n.vars=(V:Int)
 v2:V<=2000
 nodup:(du n).Nodup
 yp:∀x∈du n,1<=x/\x<=(V:Int)
 lits:∀l∈dr n,0<=l/\l / 2<=(V:Int)
 aa:∀m∈n.aa,1<=m.addr/\m.addr<=62/\1<=m.word/\m.word<=64/\(∀r∈m.reads,(r.addr.length:Int)=m.addr)/\(∀x∈m.writes,(x.addr.length:Int)=m.addr/\(x.data.length:Int)=m.word)/\m.reads.length<=4/\m.writes.length<=4
 init:∀l∈n.ax,0<=l.init/\l.init<=2
 lens:n.aM.length<=2000/\n.ax.length<=2000/\n.aP.length<=2000/\n.cf.length+n.bo.length+n.constraints.length<=1000/\n.aa.length<=4
theorem any_false{α:Type}{p:α->Bool}{l:List α}(h:¬l.any p=true):∀x∈l,p x=false:=by
 intro x hx;cases hp:p x
 .rfl
 .exact absurd (List.any_eq_true.2 ⟨x,hx,hp⟩) h
theorem pS{n:aD}(h:dM n=0):∃V,cO n V:=by
 unfold dM at h;by_cases h1:kL n=true
 .rw[if_pos h1]at h;omega
 rw[if_neg h1]at h;by_cases h2:n.aa.any ic=true
 .rw[if_pos h2]at h;omega
 rw[if_neg h2]at h;by_cases h3:n.ax.any jC=true
 .rw[if_pos h3]at h;omega
 rw[if_neg h3]at h;by_cases h4:dup n.vars [] (du n)≠0
 .rw[if_pos h4]at h;exact absurd h h4
 rw[if_neg h4]at h;by_cases h5:(dr n).any (lF n.vars)=true
 .rw[if_pos h5]at h;omega
 unfold kL at h1;rw[Bool.or_eq_true,not_or]at h1;obtain⟨h1a,h1b⟩:=h1;have h1a':¬(n.vars<0\/2000<n.vars\/2000<n.aM.length\/2000<n.ax.length\/2000<n.aP.length\/1000<n.cf.length+n.bo.length+n.constraints.length\/4<n.aa.length):=by simpa using h1a
 obtain⟨V,hV⟩:=Int.eq_ofNat_of_zero_le (show 0<=n.vars by omega);obtain⟨d1,d2⟩:=akI (V:=n.vars) (du n) [] (by simp) (by simp) (by omega);simp only[List.nil_append]at d1 d2;refine⟨V,hV,by omega,d1,fun x hx=>hV▸d2 x hx,fun l hl=>?_,fun m hm=>?_,fun l hl=>?_,⟨by omega,by omega,by omega,by omega,by omega⟩⟩
 .have:=any_false h5 l hl;unfold lF at this;have:¬(l<0\/n.vars<l / 2):=by simpa using this
  omega
 .have hw:=any_false h2 m hm;have hp:=any_false h1b m hm;unfold jg at hp;have hp:¬(4<m.reads.length\/4<m.writes.length):=by simpa using hp
  unfold ic at hw;rw[Bool.or_eq_false_iff,Bool.or_eq_false_iff]at hw;obtain⟨⟨w1,w2⟩,w3⟩:=hw;have w1:¬(m.addr<1\/62<m.addr\/m.word<1\/64<m.word):=by simpa using w1
  refine⟨by omega,by omega,by omega,by omega,fun r hr=>?_,fun x hx=>?_,by omega,by omega⟩
  .have:=any_false (p:=mP m) (by rw[w2];simp) r hr;unfold mP at this;simpa using this
  .have:=any_false (p:=lr m) (by rw[w3];simp) x hx;unfold lr at this;rw[Bool.or_eq_false_iff]at this;exact⟨by simpa using this.1,by simpa using this.2⟩
 .have:=any_false h3 l hl;unfold jC at this;have:¬(l.init<0\/2<l.init):=by simpa using this
  omega
theorem WD(n:aD):(fQ n).flatMap bF.to=n.aP.map (·.var)++n.aa.flatMap om:=by
 unfold fQ;rw[List.flatMap_append];congr 1
 .induction n.aP with|nil=>rfl|cons a l ih=>rw[List.map_cons,List.flatMap_cons,ih];rfl
 .rw[List.flatMap_assoc];congr 1;funext m;unfold kf om;rw[List.flatMap_map];rfl
theorem ajG{α:Type}{f:α->List Int}:∀{l:List α},(l.flatMap f).Nodup->∀{i j:Nat}{x y:α}{v:Int},l[i]?=some x->l[j]?=some y->v∈f x->v∈f y->i=j:=by
 intro l
 induction l with
 |nil=>intro _ i j x y v h;simp at h|cons a l ih=>
  intro hn i j x y v hi hj hx hy;rw[List.flatMap_cons,List.nodup_append]at hn;obtain⟨h1,h2,h3⟩:=hn;cases i with
  |zero=>cases j with|zero=>rfl|succ j=>simp at hi hj;subst hi;exact absurd rfl (h3 v hx v (List.mem_flatMap.2 ⟨y,dn hj,hy⟩))
  |succ i=>cases j with|zero=>simp at hi hj;subst hj;exact absurd rfl (h3 v hy v (List.mem_flatMap.2 ⟨x,dn hi,hx⟩))|succ j=>simp at hi hj;rw[ih h2 hi hj hx hy]
section
variable{n:aD}{V:Nat}
theorem cO.ah5(s:cO n V):((fQ n).flatMap bF.to).Nodup:=by rw[WD];have:=s.nodup;unfold du at this;rw[cN,List.nodup_append]at this;have:=this.2.1;rw[List.nodup_append]at this |-;exact⟨this.2.1,this.1,fun a ha b hb e=>this.2.2 b hb a ha e.symm⟩
theorem cO.ln(s:cO n V){x:bF}(hx:x∈fQ n){v:Int}(hv:v∈x.to):1<=v/\v<=(V:Int):=by have:v∈(fQ n).flatMap bF.to:=List.mem_flatMap.2 ⟨x,hx,hv⟩;rw[WD]at this;refine s.yp v ?_;unfold du;rcases List.mem_append.1 this with h|h<;>simp[h]
theorem cO.JV(s:cO n V){x:bF}(hx:x∈fQ n){l:Int}(hl:l∈x.aR):0<=l/\l / 2<=(V:Int):=by
 refine s.lits l ?_;unfold fQ at hx;unfold dr;rcases List.mem_append.1 hx with hx|hx
 .obtain⟨a,ha,rfl⟩:=List.mem_map.1 hx;have:l∈n.aP.flatMap mW:=List.mem_flatMap.2 ⟨a,ha,hl⟩;simp[this]
 .obtain⟨m,hm,hx⟩:=List.mem_flatMap.1 hx;obtain⟨r,hr,rfl⟩:=List.mem_map.1 hx;have:l∈n.aa.flatMap nY:=List.mem_flatMap.2 ⟨m,hm,by unfold nY;exact List.mem_append.2 (.inl (List.mem_flatMap.2 ⟨r,hr,hl⟩))⟩;simp[this]
theorem cO.D4(s:cO n V){x:bF}(hx:x∈fQ n):x.to≠[]:=by
 unfold fQ at hx;rcases List.mem_append.1 hx with hx|hx
 .obtain⟨a,ha,rfl⟩:=List.mem_map.1 hx;simp[qa]
 .obtain⟨m,hm,hx⟩:=List.mem_flatMap.1 hx;obtain⟨r,hr,rfl⟩:=List.mem_map.1 hx;have:=(s.aa m hm).2.2.1;unfold pK de;simp;omega
theorem JO{i:Nat}:(bc n)[i]?=((fQ n)[i]?).map bF.nd:=by unfold bc;rw[cg]
theorem XU{x:Nd}(h:x∈bc n):∃y∈fQ n,x=y.nd:=by unfold bc at h;obtain⟨y,h1,h2⟩:=List.mem_map.1 h;exact⟨y,h1,h2.symm⟩
theorem cO.apart(s:cO n V):fL (bc n):=by
 intro i j x y v hi hj hx hy;rw[JO]at hi hj;obtain⟨x',hi',rfl⟩:=Option.map_eq_some_iff.1 hi;obtain⟨y',hj',rfl⟩:=Option.map_eq_some_iff.1 hj;obtain⟨a,ha,e1⟩:=List.mem_map.1 hx;obtain⟨b,hb,e2⟩:=List.mem_map.1 hy;have r1:=s.ln (dn hi') ha;have r2:=s.ln (dn hj') hb;have:a=b:=by omega
 subst this;exact ajG s.ah5 hi' hj' ha hb
theorem cO.aY(s:cO n V):∀x∈bc n,∀u∈x.aR,u<=V:=by intro x hx u hu;obtain⟨y,hy,rfl⟩:=XU hx;obtain⟨l,hl,rfl⟩:=List.mem_map.1 hu;have:=s.JV hy hl;omega
theorem cO.eH(s:cO n V):∀x∈bc n,x.to≠[]/\∀v∈x.to,v<=V:=by intro x hx;obtain⟨y,hy,rfl⟩:=XU hx;refine⟨by have:=s.D4 hy;unfold bF.nd;simpa using this,fun v hv=>?_⟩;obtain⟨l,hl,rfl⟩:=List.mem_map.1 hv;have:=s.ln hy hl;omega
end
def dD(n:aD):Int:=if dM n≠0 then dM n else if fh (bc n) n.vars.toNat then 0 else 8
def zc(p:Nat->Bool):Nat->Nat
 |0=>0|k+1=>(if p k then 1 else 0)+zc p k
theorem Wo{p q:Nat->Bool}:∀k,(∀v,v<k->p v=true->q v=true)->zc p k<=zc q k:=by
 intro k
 induction k with
 |zero=>intro _;exact Nat.le_refl _|succ k ih=>
  intro h;have h1:=ih fun v hv=>h v (by omega);have h2:=h k (by omega);simp only[zc];cases hp:p k
  .simp;omega
  .rw[h2 hp];simp;omega
theorem ajD{p q:Nat->Bool}{v:Nat}:∀k,v<k->q v=true->p v=false->(∀v,v<k->p v=true->q v=true)->zc p k<zc q k:=by
 intro k
 induction k with
 |zero=>intro h;omega|succ k ih=>
  intro hv hq hp h;simp only[zc];by_cases e:v=k
  .subst e;have h1:=Wo (p:=p) (q:=q) v fun v hv=>h v (by omega);rw[hq,hp];simp;omega
  .have h1:=ih (by omega) hq hp fun v hv=>h v (by omega);have h2:=h k (by omega);cases hp:p k
   .simp;omega
   .rw[h2 hp];simp;omega
def fresh(V:Nat)(m:List Int):Nat:=zc (fun v=>aF m v == 0) (V+1)
section
variable{N:List Nd}{V:Nat}{m lv m' lv' m'' lv'':List Int}
structure VI(N:List Nd)(V:Nat)(m lv:List Int):Prop where
 ml:m.length=V+1
 ll:lv.length=V+1
 kd:∀v,v<=V->aF m v=0\/aF m v=1\/aF m v=2
 w9:∀x∈N,∀u∈x.to,∀v∈x.to,aF m u=aF m v
 free:∀v,v<=V->(∀x∈N,v∉x.to)->aF m v=0/\aF lv v=0
 done:∀v,v<=V->aF m v=2->∃k:Nat,aF lv v=(k:Int)/\dg N v k
structure Ext(V:Nat)(m lv m' lv':List Int):Prop where
 a:∀u,u<=V->aF m u=1->aF m' u=1
 b:∀u,u<=V->aF m' u=1->aF m u=1
 c:∀u,u<=V->aF m u=2->aF m' u=2/\aF lv' u=aF lv u
theorem Ext.refl:Ext V m lv m lv:=⟨fun _ _ h=>h,fun _ _ h=>h,fun _ _ h=>⟨h,rfl⟩⟩
theorem Ext.trans(h:Ext V m lv m' lv')(k:Ext V m' lv' m'' lv''):Ext V m lv m'' lv'':=⟨fun u hu h1=>k.a u hu (h.a u hu h1),fun u hu h1=>h.b u hu (k.b u hu h1),fun u hu h1=>⟨(k.c u hu (h.c u hu h1).1).1,by rw[(k.c u hu (h.c u hu h1).1).2,(h.c u hu h1).2]⟩⟩
def tl(N:List Nd)(m:List Int)(u:Nat):Prop:=aF m u=2\/∀x∈N,u∉x.to
theorem Jw(i:VI N V m lv)(i':VI N V m' lv')(h:Ext V m lv m' lv'){u:Nat}(hu:u<=V)(t:tl N m u):tl N m' u/\aF lv' u=aF lv u:=by
 rcases t with t|t
 .exact⟨.inl (h.c u hu t).1,(h.c u hu t).2⟩
 .exact⟨.inr t,by rw[(i.free u hu t).2,(i'.free u hu t).2]⟩
theorem AA(i:VI N V m lv){u:Nat}(hu:u<=V)(t:tl N m u):∃k:Nat,aF lv u=(k:Int)/\dg N u k:=by
 rcases t with t|t
 .exact i.done u hu t
 .exact⟨0,by rw[(i.free u hu t).2];rfl,.free u t⟩
theorem ak3(i:VI N V m lv)(i':VI N V m' lv')(h:Ext V m lv m' lv'):fresh V m'<=fresh V m:=by
 refine Wo _ fun v hv hz=>?_;have hv:v<=V:=by omega
 have hz:aF m' v=0:=by simpa using hz
 rcases i.kd v hv with h0|h0|h0
 .simpa using h0
 .have:=h.a v hv h0;omega
 .have:=(h.c v hv h0).1;omega
theorem VI.under(ap:fL N)(i:VI N V m lv){x:Nd}(hx:x∈N)(eH:∀v∈x.to,v<=V){v:Nat}(hv:v∈x.to)(h0:aF m v=0):VI N V (cV m x.to 1) lv:=by
 refine⟨by rw[kW,i.ml],i.ll,fun u hu=>?_,fun y hy a ha b hb=>?_,fun u hu hf=>?_,fun u hu h2=>?_⟩
 .rw[fC];split
  .exact .inr (.inl rfl)
  .exact i.kd u hu
 .rw[fC,fC];by_cases e:y=x
  .subst e;rw[if_pos ⟨ha,by rw[i.ml];have:=eH a ha;omega⟩,if_pos ⟨hb,by rw[i.ml];have:=eH b hb;omega⟩]
  .rw[if_neg fun h=>e (ap.same hy hx ha h.1),if_neg fun h=>e (ap.same hy hx hb h.1)];exact i.w9 y hy a ha b hb
 .rw[fC,if_neg fun h=>hf x hx h.1];exact i.free u hu hf
 .rw[fC]at h2;split at h2
  .omega
  .exact i.done u hu h2
theorem akd(i:VI N V m lv){x:Nd}(hx:x∈N){v:Nat}(hv:v∈x.to)(hV:v<=V)(h0:aF m v=0):fresh V (cV m x.to 1)<fresh V m:=by
 refine ajD (v:=v) _ (by omega) (by simpa using h0) ?_ fun u hu hz=>?_
 .rw[fC,if_pos ⟨hv,by rw[i.ml];omega⟩];rfl
 .have hz:aF (cV m x.to 1) u=0:=by simpa using hz
  rw[fC]at hz;split at hz
  .omega
  .simpa using hz
theorem VI.close(ap:fL N)(i0:VI N V m lv){x:Nd}(hx:x∈N)(eH:∀v∈x.to,v<=V)(aY:∀u∈x.aR,u<=V){v:Nat}(hv:v∈x.to)(h0:aF m v=0)
  (i:VI N V m' lv') (h:Ext V (cV m x.to 1) lv m' lv') (ht:∀u∈x.aR,tl N m' u) {L:Int}(hL:L=((mx (x.aR.map fun u=>(aF lv' u).toNat):Nat):Int)) :
  VI N V (cV m' x.to 2) (cV lv' x.to (L+1))/\Ext V m lv (cV m' x.to 2) (cV lv' x.to (L+1))/\tl N (cV m' x.to 2) v:=by
 have hml:=i.ml;have hll:=i.ll;have hlev:∀u∈x.aR,dg N u (aF lv' u).toNat:=fun u hu=>by obtain⟨k,h1,h2⟩:=AA i (aY u hu) (ht u hu);rw[h1];simpa using h2
 have hm0:∀u∈x.to,aF m u=0:=fun u hu=>by rw[i0.w9 x hx u hu v hv,h0]
 refine⟨⟨by rw[kW,hml],by rw[kW,hll],fun u hu=>?_,fun y hy a ha b hb=>?_,fun u hu hf=>?_,fun u hu h2=>?_⟩,⟨fun u hu h1=>?_,fun u hu h1=>?_,fun u hu h2=>?_⟩,?_⟩
 .rw[fC];split
  .exact .inr (.inr rfl)
  .exact i.kd u hu
 .rw[fC,fC];by_cases e:y=x
  .subst e;rw[if_pos ⟨ha,by rw[hml];have:=eH a ha;omega⟩,if_pos ⟨hb,by rw[hml];have:=eH b hb;omega⟩]
  .rw[if_neg fun h=>e (ap.same hy hx ha h.1),if_neg fun h=>e (ap.same hy hx hb h.1)];exact i.w9 y hy a ha b hb
 .rw[fC,if_neg fun h=>hf x hx h.1,fC,if_neg fun h=>hf x hx h.1];exact i.free u hu hf
 .by_cases hux:u∈x.to
  .refine⟨mx (x.aR.map fun u=>(aF lv' u).toNat)+1,?_,.node x u _ hx hux hlev⟩;rw[fC,if_pos ⟨hux,by rw[hll];omega⟩,hL];rfl
  .rw[fC,if_neg fun h=>hux h.1]at h2;rw[fC,if_neg fun h=>hux h.1];exact i.done u hu h2
 .have hux:u∉x.to:=fun hux=>by have:=hm0 u hux;omega
  rw[fC,if_neg fun h=>hux h.1];refine h.a u hu ?_;rw[fC,if_neg fun h=>hux h.1];exact h1
 .rw[fC]at h1;split at h1
  .omega
  .rename_i hn;have hux:u∉x.to:=fun hux=>hn ⟨hux,by rw[hml];omega⟩;have:=h.b u hu h1
   rwa [fC,if_neg fun h=>hux h.1]at this
 .have hux:u∉x.to:=fun hux=>by have:=hm0 u hux;omega
  have:=h.c u hu (by rw[fC,if_neg fun h=>hux h.1];exact h2);rw[fC,if_neg fun h=>hux h.1,fC,if_neg fun h=>hux h.1];exact this
 .refine .inl ?_;rw[fC,if_pos ⟨hv,by rw[hml];have:=eH v hv;omega⟩]
theorem alb{x:Nd}(hx:x∈N){v l:Nat}(hv:v∈x.to)(hl:l∈x.aR)(hd:∀u,u<=V->aF m u=1->mq N u v):∀u,u<=V->aF (cV m x.to 1) u=1->mq N u l:=by
 intro u hu h;rw[fC]at h;split at h
 .rename_i hc;exact .one x u l hx hc.1 hl
 .exact .more x u v l (hd u hu h) hx hv hl
theorem vi0:VI N V (List.replicate (V+1) 0) (List.replicate (V+1) 0):=by
 have hz:∀v,aF (List.replicate (V+1) 0) v=0:=fun v=>by unfold aF;rw[dC,List.getElem?_replicate];split<;>rfl
 exact⟨by simp,by simp,fun v _=>.inl (hz v),fun x _ u _ v _=>by rw[hz,hz],fun v _ _=>⟨hz v,hz v⟩,fun v _ h=>by rw[hz]at h;omega⟩
def fX(N:List Nd)(V:Nat):Nat->List Int
 |0=>List.replicate (V+1) 0|k+1=>match N[k]? with|some x=>cV (fX N V k) x.to ((k:Int)+1)|none=>fX N V k
theorem FL(N:List Nd)(V:Nat):∀k,(fX N V k).length=V+1:=by
 intro k
 induction k with|zero=>simp[fX]|succ k ih=>rw[fX];cases N[k]?<;>simp[kW,ih]
theorem Xo{k:Nat}{x:Nd}(h:N[k]?=some x):fX N V (k+1)=cV (fX N V k) x.to ((k:Int)+1):=by rw[fX,h]
theorem aiE(ap:fL N)(eH:∀x∈N,∀v∈x.to,v<=V):∀k v,v<=V->(aF (fX N V k) v=0/\∀i x,i<k->N[i]?=some x->v∉x.to)\/∃i x,i<k/\N[i]?=some x/\v∈x.to/\aF (fX N V k) v=(i:Int)+1:=by
 intro k
 induction k with
 |zero=>intro v _;left;refine⟨?_,fun i x h=>by omega⟩;unfold fX aF;rw[dC,List.getElem?_replicate];split<;>rfl|succ k ih=>
  intro v hv;cases hk:N[k]? with
  |none=>
   rw[fX,hk];rcases ih v hv with⟨h1,h2⟩|⟨i,x,h1,h2,h3,h4⟩
   .left;refine⟨h1,fun i x hi hx=>?_⟩;by_cases e:i=k
    .subst e;rw[hk]at hx;cases hx
    .exact h2 i x (by omega) hx
   .exact .inr ⟨i,x,by omega,h2,h3,h4⟩
  |some y=>
   rw[Xo hk,fC];by_cases hvy:v∈y.to
   .rw[if_pos ⟨hvy,by rw[FL];omega⟩];exact .inr ⟨k,y,by omega,hk,hvy,rfl⟩
   .rw[if_neg fun h=>hvy h.1];rcases ih v hv with⟨h1,h2⟩|⟨i,x,h1,h2,h3,h4⟩
    .left;refine⟨h1,fun i x hi hx=>?_⟩;by_cases e:i=k
     .subst e;rw[hk]at hx;injection hx with hx;subst hx;exact hvy
     .exact h2 i x (by omega) hx
    .exact .inr ⟨i,x,by omega,h2,h3,h4⟩
theorem ajh(ap:fL N)(eH:∀x∈N,∀v∈x.to,v<=V){v:Nat}(hv:v<=V):(aF (fX N V N.length) v=0/\∀x∈N,v∉x.to)\/∃(i:Nat) (x:Nd),N[i]?=some x/\v∈x.to/\aF (fX N V N.length) v=(i:Int)+1:=by
 rcases aiE ap eH N.length v hv with⟨h1,h2⟩|⟨i,x,h1,h2,h3,h4⟩
 .left;refine⟨h1,fun x hx=>?_⟩;obtain⟨i,hi,rfl⟩:=List.getElem_of_mem hx;exact h2 i _ hi (aT hi)
 .exact .inr ⟨i,x,h2,h3,h4⟩
theorem ajP{l:List Nat}{k u:Nat}{f:Nat->Nat}(h:l[k]?=some u):mx ((l.take (k+1)).map f)=max (mx ((l.take k).map f)) (f u):=by rw[cW h,dV];exact ahF _ _
end
end Go.Proofs.YtkcpdpplobhpaaaGreat.Pl
end
section
namespace Go.Proofs.YtkcpdpplobhpaaaGreat.V
open Go Go.RowKit Go.Proofs.YtkcpdpplobhpaaaGreat.Pl
theorem Zz0(v:Int)(k:Nat):de v (k+1)=de v k++[v+(k:Int)]:=by unfold de;rw[List.range_succ,dV];rfl
theorem rS(v:Int)(k:Nat):(de v k).length=k:=by simp[de]
theorem W8(m:bP)(i:Nat)(r:nL)(hr:m.reads[i]?=some r)(hw:0<=m.word/\m.word<=4000)(hv:-1099511627776<=r.var/\r.var<=1099511627776) :
  QE (av m,((i:Int),()))=some (de r.var m.word.toNat,()):=by
 obtain⟨W,hW⟩:=Int.eq_ofNat_of_zero_le hw.1;have hi:=dL hr;have hr':(m.reads.map dU)[i]?=some (dU r):=by rw[cg,hr];rfl
 have hL:QA ((i:Int),(m.word,((0:Int),(m.addr,(m.word,(m.any,(m.reads.map dU,(m.writes.map dZ,([],())))))))))=some (de r.var m.word.toNat,()):=by
  unfold QA;delta u9;rw[hW,Int.toNat_natCast];refine uH (fun k:Nat=>((i:Int),((W:Int),((k:Int),(m.addr,((W:Int),(m.any,(m.reads.map dU,(m.writes.map dZ,(de r.var k,())))))))))) W ?_ ?_ NN (bt (by omega))
  .intro k hk
   try dsimp only
   unfold FI;rw[je (ak (by omega)),eK (aK ⟨by omega,by rw[aO];omega⟩),eK (ks (by simp[rS];omega) (by simp[rS];omega)),aZ hr',show(dU r).1=r.var from rfl];rw[bZ (x:=r.var+(k:Int)) (by omega),bZ (x:=(k:Int)+1) (by omega),Zz0];rfl
  .try dsimp only
   unfold FI;rw[gb (aA (by omega))];rfl
 show Q3 QA (av m) (i:Int)=_;unfold Q3;rw[gb (aA (by omega)),O6,gb (aA (by simp only[av,aO,Int.ofNat_eq_natCast];omega))];exact(cw hL).trans rfl
def dE(x:bH):au.T:=(x.rd,((x.mem:Int),((x.pos:Int),())))
abbrev WT:=Int×List Int×List ae.T×List Int×List Int×List Int×List ab.T×List ae.T×List Int×List au.T×List Int×List Int×Unit
def mK(n:aD)(of:List Int)(nd:List bH)(m lv:List Int):WT:=(n.vars,(n.aM,(n.ax.map bM,(n.cf,(n.bo,(n.constraints,(n.aa.map av,(n.aP.map dW,(of,(nd.map dE,(m,(lv,()))))))))))))
theorem ahj{n:aD}{of m lv:List Int}{nd:List bH}{x:bH}{i:bF}(h:x.is n i):Zck (x.rd,((x.mem:Int),((x.pos:Int),mK n of nd m lv)))=some (i.aR,mK n of nd m lv):=by
 show Ql x.rd (x.mem:Int) (x.pos:Int) n.vars n.aM (n.ax.map bM) n.cf n.bo n.constraints (n.aa.map av) (n.aP.map dW) of (nd.map dE) m lv=_;unfold Ql;rcases h with⟨h,a,ha,rfl⟩|⟨h,M,r,hM,hr,rfl⟩
 .have ha':(n.aP.map dW)[x.pos]?=some (dW a):=by rw[cg,ha];rfl
  have hl:=dL ha';rw[h,gb rfl,eK (aK ⟨by omega,by omega⟩),aZ ha'];rfl
 .have hM':(n.aa.map av)[x.mem]?=some (av M):=by rw[cg,hM];rfl
  have hr':(M.reads.map dU)[x.pos]?=some (dU r):=by rw[cg,hr];rfl
  have hl:=dL hM';have hl2:=dL hr';rw[h,je rfl,eK (aK ⟨by omega,by omega⟩),aZ hM',show(av M).2.2.2.1=M.reads.map dU from rfl,eK (aK ⟨by omega,by omega⟩),aZ hr'];rfl
theorem Wi{n:aD}{of m lv:List Int}{nd:List bH}{x:bH}{i:bF}(h:x.is n i)(ft:Fit n)(hw:∀M∈n.aa,0<=M.word) :
  xv (x.rd,((x.mem:Int),((x.pos:Int),mK n of nd m lv)))=some (i.to,mK n of nd m lv):=by
 show xK QE x.rd (x.mem:Int) (x.pos:Int) n.vars n.aM (n.ax.map bM) n.cf n.bo n.constraints (n.aa.map av) (n.aP.map dW) of (nd.map dE) m lv=_;unfold xK;rcases h with⟨h,a,ha,rfl⟩|⟨h,M,r,hM,hr,rfl⟩
 .have ha':(n.aP.map dW)[x.pos]?=some (dW a):=by rw[cg,ha];rfl
  have hl:=dL ha';rw[h,gb rfl,eK (aK ⟨by omega,by omega⟩),aZ ha'];rfl
 .have hM':(n.aa.map av)[x.mem]?=some (av M):=by rw[cg,hM];rfl
  have hl:=dL hM';have hmem:=dn hM;have hf:=ft.aa.2 M hmem;have hr2:=hf.kM r (dn hr);rw[h,je rfl,eK (aK ⟨by omega,by omega⟩),aZ hM'];exact(cw (W8 M x.pos r hr ⟨hw M hmem,hf.word.2⟩ ⟨hr2.2.1,hr2.2.2.1⟩)).trans rfl
theorem XW{n:aD}{of m lv:List Int}{nd:List bH}{V:Nat}(a:Int)(vs:List Int)(hln:vs.length<=100000)(hvs:∀v∈vs,0<=v/\v<=(V:Int))(hm:m.length=V+1) :
  Zbg (a,(vs,mK n of nd m lv))=some (vs,mK n of nd (cV m (vs.map Int.toNat) a) lv):=by
 have hL:PJ (a,(vs,((vs.length:Int),((0:Int),(vs,mK n of nd m lv)))))=some (vs,mK n of nd (cV m (vs.map Int.toNat) a) lv):=by
  unfold PJ;delta nH;refine uH (fun k:Nat=>(a,(vs,((vs.length:Int),((k:Int),(vs,mK n of nd (cV m ((vs.take k).map Int.toNat) a) lv)))))) vs.length ?_ ?_ NN (bt (by omega))
  .intro k hk;unfold mK
   try dsimp only
   unfold EW;have hv:=aT hk;obtain⟨h0,h1⟩:=hvs _ (List.getElem_mem hk);obtain⟨v,hv2⟩:=Int.eq_ofNat_of_zero_le h0;rw[hv2]at hv h1;rw[je (ak (by omega)),eK (aK ⟨by omega,by omega⟩),aZ (σ:=.int .i64) hv,eK (aK ⟨by omega,by rw[kW,hm];omega⟩),bZ (x:=(k:Int)+1) (by omega)];rw[cW hv,dV,List.map_cons,List.map_nil,xV];rfl
  .unfold mK
   try dsimp only
   unfold EW;rw[gb (aA (by omega)),dt];rfl
 show PZ PJ a vs n.vars n.aM (n.ax.map bM) n.cf n.bo n.constraints (n.aa.map av) (n.aP.map dW) of (nd.map dE) m lv=_;unfold PZ;exact(cw hL).trans rfl
end Go.Proofs.YtkcpdpplobhpaaaGreat.V
end
section
namespace Go.Proofs.YtkcpdpplobhpaaaGreat.Pl
theorem sZ{l:List Int}{v:Nat}(h:v<l.length):l[v]?=some (aF l v):=by unfold aF;rw[dC,aT h];rfl
theorem ahi{n:aD}{V:Nat}(hs:cO n V){y:bF}(hy:y∈fQ n){k:Nat}{l:Int}(h:y.aR[k]?=some l):∃u:Nat,l / 2=(u:Int)/\u<=V/\y.nd.aR[k]?=some u/\0<=l/\l<=2*V+1:=by have:=hs.JV hy (dn h);refine⟨(l / 2).toNat,by omega,by omega,?_,by omega,by omega⟩;unfold bF.nd;rw[cg,h];rfl
theorem FQ{n:aD}{V:Nat}(hs:cO n V){y:bF}(hy:y∈fQ n):y.to.length<=64/\y.aR.length<=62:=by
 unfold fQ at hy;rcases List.mem_append.1 hy with hy|hy
 .obtain⟨a,ha,rfl⟩:=List.mem_map.1 hy;simp[qa]
 .obtain⟨m,hm,hy⟩:=List.mem_flatMap.1 hy;obtain⟨r,hr,rfl⟩:=List.mem_map.1 hy;have h1:=hs.aa m hm;have h2:=h1.2.2.2.2.1 r hr;unfold pK de;simp;omega
theorem ahE{N:List Nd}{V:Nat}{m lv m' lv':List Int}(i:VI N V m lv)(i':VI N V m' lv')(h:Ext V m lv m' lv'){l:List Nat}(hl:∀u∈l,u<=V)(ht:∀u∈l,tl N m u) :
  mx (l.map fun u=>(aF lv' u).toNat)=mx (l.map fun u=>(aF lv u).toNat):=by
 rw[Zti fun u hu=>by rw[(Jw i i' h (hl u hu) (ht u hu)).2]]
theorem aiv{N:List Nd}(ap:fL N){V:Nat}{m lv:List Int}(i:VI N V m lv){l:List Nat}(hl:∀u∈l,u<=V)(ht:∀u∈l,tl N m u):mx (l.map fun u=>(aF lv u).toNat)<=N.length:=by refine Wa fun z hz=>?_;obtain⟨u,hu,rfl⟩:=List.mem_map.1 hz;obtain⟨k,h1,h2⟩:=AA i (hl u hu) (ht u hu);rw[h1];have:=h2.le ap;simpa using this
theorem Aq{α β:Type}(f:α->List β):∀(l:List α) (k:Nat),(∀x∈l,(f x).length<=k)->(l.flatMap f).length<=l.length*k:=by
 intro l k
 induction l with|nil=>intro _;simp|cons x l ih=>intro h;rw[List.flatMap_cons,aW,ca,Nat.succ_mul];have h1:=ih fun y hy=>h y (by simp[hy]);have h2:=h x (by simp);omega
theorem Rw{n:aD}{V:Nat}(hs:cO n V):(bc n).length<=3000:=by unfold bc fQ;rw[aO,aW,aO];have h1:=hs.lens;have h2:=Aq kf n.aa 4 (fun m hm=>by unfold kf;rw[aO];exact(hs.aa m hm).2.2.2.2.2.2.1);omega
end Go.Proofs.YtkcpdpplobhpaaaGreat.Pl
end
section
namespace Go.Proofs.YtkcpdpplobhpaaaGreat.V
open Go Go.RowKit Go.Proofs.YtkcpdpplobhpaaaGreat.Pl
theorem Xa(l:Int):xH (l,())=some (l / 2,()):=by show Q4 l=_;unfold Q4;rw[Int.fdiv_eq_ediv_of_nonneg _ (by decide)];rfl
theorem Zwy{l q:Int}(h:l / 2=q):xH (l,())=some (q,()):=by rw[Xa,h]
def ajE(n:aD)(V:Nat)(m lv:List Int)(v:Nat)(b:Bool)(m' lv':List Int):Prop:=(b=true/\VI (bc n) V m' lv'/\Ext V m lv m' lv'/\tl (bc n) m' v)\/(b=false/\∃u,u<=V/\∀k,¬dg (bc n) u k)
def wk(n:aD)(V:Nat)(m lv:List Int):WT:=mK n (fX (bc n) V (bc n).length) (eI n) m lv
abbrev WV:=Int×List Int×List ae.T×List Int×List Int×List Int×List ab.T×List ae.T×List Int×List au.T×List Int×List Int×List Int×Unit
def wv(n:aD)(V:Nat)(m lv vs:List Int):WV:=(n.vars,(n.aM,(n.ax.map bM,(n.cf,(n.bo,(n.constraints,(n.aa.map av,(n.aP.map dW,(fX (bc n) V (bc n).length,((eI n).map dE,(m,(lv,(vs,())))))))))))))
theorem aiy{n:aD}{V:Nat}{F:TL Pj.σs->Option (Out Ef)}(L:Nat)(hL:L<=3000)(m lv vs:List Int)(hln:vs.length<=100000)(hvs:∀v∈vs,0<=v/\v<=(V:Int))(hm:lv.length=V+1) :
  PL F ((L:Int),(vs,((vs.length:Int),((0:Int),wv n V m lv vs))))=some (wv n V m (cV lv (vs.map Int.toNat) ((L:Int)+1)) vs):=by
 unfold PL;refine uH (fun k:Nat=>((L:Int),(vs,((vs.length:Int),((k:Int),wv n V m (cV lv ((vs.take k).map Int.toNat) ((L:Int)+1)) vs))))) vs.length ?_ ?_ NN (bt (by omega))
 .intro k hk;unfold wv
  try dsimp only
  unfold E8;have hv:=aT hk;obtain⟨h0,h1⟩:=hvs _ (List.getElem_mem hk);obtain⟨v,hv2⟩:=Int.eq_ofNat_of_zero_le h0;rw[hv2]at hv h1;rw[je (ak (by omega)),eK (aK ⟨by omega,by omega⟩),aZ (σ:=.int .i64) hv,eK (aK ⟨by omega,by rw[kW,hm];omega⟩),bZ (x:=(k:Int)+1) (by omega),bZ (x:=(L:Int)+1) (by omega)];rw[cW hv,dV,List.map_cons,List.map_nil,xV];rfl
 .unfold wv
  try dsimp only
  unfold E8;rw[gb (aA (by omega)),dt];rfl
theorem agU{n:aD}{V:Nat}(hs:cO n V)(ft:Fit n):∀(F:Nat) (m lv:List Int) (v:Nat),VI (bc n) V m lv->(∀u,u<=V->aF m u=1->mq (bc n) u v)->v<=V->fresh V m<F ->
  ∃b m' lv',ud F ((v:Int),wk n V m lv)=some (b,wk n V m' lv')/\ajE n V m lv v b m' lv':=by
 intro F
 induction F with
 |zero=>intro m lv v _ _ _ h;omega|succ F ih=>
  intro m lv v hI hD hv hF;have hV2:=hs.v2;have hnl:=Rw hs;have hmw:∀M∈n.aa,0<=M.word:=fun M hM=>by have:=hs.aa M hM;omega
  obtain⟨of,hof⟩:∃of,of=fX (bc n) V (bc n).length:=⟨_,rfl⟩;have hofl:of.length=V+1:=by rw[hof];exact FL _ _ _
  have hofv:of[v]?=some (aF of v):=sZ (by omega);have hmv:m[v]?=some (aF m v):=sZ (by rw[hI.ml];omega);show ∃b m' lv',Qi xH (ud F) Zck Zbg xv (PM (ud F)) (PL (ud F)) (v:Int) n.vars n.aM (n.ax.map bM) n.cf n.bo n.constraints (n.aa.map av) (n.aP.map dW) (fX (bc n) V (bc n).length) ((eI n).map dE) m lv=_/\_;rw[<-hof];unfold Qi;rw[eK (aK ⟨by omega,by omega⟩),aZ (σ:=.int .i64) hofv];rcases ajh hs.apart (fun x hx=>(hs.eH x hx).2) hv with⟨h1,h2⟩|⟨i,x,h1,h2,h3⟩
  .rw[<-hof]at h1;rw[h1,je (ak rfl)];exact⟨true,m,lv,by rw[hof];rfl,.inl ⟨rfl,hI,Ext.refl,.inr h2⟩⟩
  rw[<-hof]at h3;rw[h3,gb (aA (by omega)),eK (aK ⟨by omega,by rw[hI.ml];omega⟩),O6,aZ (σ:=.int .u8) hmv];rcases hI.kd v hv with hk|hk|hk
  .-- its node's literals
   subst hof;have hil:=dL h1;have hnl2:(eI n).length=(bc n).length:=by rw[Zuw];unfold bc;rw[aO]
   obtain⟨xd,hxd⟩:∃xd,(eI n)[i]?=some xd:=⟨_,aT (by omega)⟩;obtain⟨y,hy1,hy2⟩:=JJ n hxd;have hxy:x=y.nd:=by rw[JO,hy1]at h1;simpa using h1.symm
   subst hxy;have hy:=dn hy1;have hx:=dn h1;have hxd':((eI n).map dE)[i]?=some (dE xd):=by rw[cg,hxd];rfl
   have hvs:∀u∈y.to,0<=u/\u<=(V:Int):=fun u hu=>by have:=hs.ln hy hu;omega
   have hlens:=FQ hs hy;have hfr:∀u∈y.nd.aR,u<=V:=fun u hu=>hs.aY _ hx u hu;have hI5:=hI.under hs.apart hx (fun u hu=>(hs.eH _ hx).2 u hu) h2 hk;rw[hk,gb (aA (by omega)),eK (aK ⟨by omega,by rw[hI.ml];omega⟩),gb (aA (by omega)),eK (aK ⟨by omega,by omega⟩)];rw[show((i:Int)+1-1)=(i:Int) by omega,bZ (x:=(i:Int)) (by omega),eK (aK ⟨by omega,by rw[aO];omega⟩),aZ hxd'];have e1:=Wi (of:=fX (bc n) V (bc n).length) (m:=m) (lv:=lv) (nd:=eI n) hy2 ft hmw;have e2:=XW (n:=n) (of:=fX (bc n) V (bc n).length) (nd:=eI n) (lv:=lv) 1 y.to (by omega) hvs hI.ml;have e3:=ahj (n:=n) (of:=fX (bc n) V (bc n).length) (nd:=eI n) (m:=cV m (y.to.map Int.toNat) 1) (lv:=lv) hy2;have hL11:∃o,PM (ud F) ((0:Int),(y.aR,((y.aR.length:Int),((0:Int),wv n V (cV m y.nd.to 1) lv y.to))))=some o /\
     ((∃m' lv',o=.inl (false,wk n V m' lv')/\∃u,u<=V/\∀k,¬dg (bc n) u k) \/
      ∃(m' lv':List Int) (L:Nat),o=.inr ((L:Int),wv n V m' lv' y.to)/\VI (bc n) V m' lv'/\Ext V (cV m y.nd.to 1) lv m' lv'/\(∀u∈y.nd.aR,tl (bc n) m' u)/\L=mx (y.nd.aR.map fun u=>(aF lv' u).toNat)):=by
    unfold PM;refine mR (fun d=>∃(k:Nat) (m' lv':List Int) (L:Nat),k<=y.aR.length/\d=((L:Int),(y.aR,((y.aR.length:Int),((k:Int),wv n V m' lv' y.to))))/\VI (bc n) V m' lv'/\Ext V (cV m y.nd.to 1) lv m' lv' /\
     (∀u∈y.nd.aR.take k,tl (bc n) m' u)/\L=mx ((y.nd.aR.take k).map fun u=>(aF lv' u).toNat)) _ (fun d=>y.aR.length-d.2.2.2.1.toNat) ?_ NN _ ⟨0,_,lv,0,Nat.zero_le _,rfl,hI5,Ext.refl,by simp,rfl⟩ (bt (by have:=hlens.2;omega))
    rintro d ⟨k,m',lv',L,hk',rfl,hI',hE',hT',hL⟩;unfold wv
    try dsimp only
    unfold Qr;by_cases hlt:k<y.aR.length
    .have hl:=aT hlt;obtain⟨u,hu1,hu2,hu3,hl0,hl1⟩:=ahi hs hy hl;have hlt2:fresh V m'<F:=by have h1:=ak3 hI5 hI' hE';have h2:=akd hI hx h2 hv hk;omega
     have hdep:∀t,t<=V->aF m' t=1->mq (bc n) t u:=fun t ht h=>alb hx h2 (dn hu3) hD t ht (hE'.b t ht h);obtain⟨b,m2,lv2,g1,g2⟩:=ih m' lv' u hI' hdep hu2 hlt2;rw[je (ak (by omega)),eK (aK ⟨by omega,by omega⟩),aZ (σ:=.int .i64) hl];rcases g2 with⟨rfl,gI,gE,gT⟩|⟨rfl,u',hu',hno⟩
     .right;obtain⟨kk,hk1,hk2⟩:=AA gI hu2 gT;have hkl:=Nat.le_trans (hk2.le hs.apart) hnl;have hlu:lv2[u]?=some (kk:Int):=by rw[<-hk1];exact sZ (by rw[gI.ll];omega)
      have hT:∀u'∈y.nd.aR.take (k+1),tl (bc n) m2 u':=fun u' h'=>by
       rw[cW hu3]at h';rcases List.mem_append.1 h' with h'|h'
       .exact(Jw hI' gI gE (hfr u' (List.mem_of_mem_take h')) (hT' u' h')).1
       .simp at h';subst h';exact gT
      have hmx:mx ((y.nd.aR.take (k+1)).map fun u=>(aF lv2 u).toNat)=max L kk:=by rw[ajP hu3,ahE hI' gI gE (fun u hu=>hfr u (List.mem_of_mem_take hu)) hT',<-hL,hk1,Int.toNat_natCast]
      refine⟨((max L kk:Nat),(y.aR,((y.aR.length:Int),(((k+1:Nat):Int),wv n V m2 lv2 y.to)))),?_,⟨k+1,m2,lv2,max L kk,by omega,rfl,gI,hE'.trans gE,hT,hmx.symm⟩,?_⟩
      .refine(cw (Zwy hu1)).trans ((cw g1).trans ?_);refine(gb rfl).trans ((eK (aK ⟨by omega,by show(u:Int)<((List.length lv2:Nat):Int);rw[gI.ll];omega⟩)).trans ?_);have hsel:dj (@decide _ (Int.decLt (L:Int) (gt (.int .i64) lv2 (u:Int)))) (gt (.int .i64) lv2 (u:Int)) (L:Int)=((max L kk:Nat):Int):=by
        rw[aZ (σ:=.int .i64) hlu];unfold dj;split
        .rename_i q;have q:=of_decide_eq_true q;have:max L kk=kk:=by omega
         rw[this]
        .rename_i q;have q:=of_decide_eq_false q;have:max L kk=L:=by omega
         rw[this]
       have e:∀a b a' b':Int,a=a'->b=b'->(some (.inl (a,(y.aR,((y.aR.length:Int),(b,wv n V m2 lv2 y.to))))):Option (TL EG.σs⊕Out Ez))=some (.inl (a',(y.aR,((y.aR.length:Int),(b',wv n V m2 lv2 y.to))))):=by rintro _ _ _ _ rfl rfl;rfl
       exact e _ _ _ _ hsel (bZ (x:=(k:Int)+1) (by omega))
      .show y.aR.length-((k+1:Nat):Int).toNat<y.aR.length-(k:Int).toNat;omega
     .left;refine⟨_,(cw (Zwy hu1)).trans ((cw g1).trans ?_),.inl ⟨m2,lv2,rfl,u',hu',hno⟩⟩;exact(je rfl).trans rfl
    .left;have hlen:y.nd.aR.length<=k:=by unfold bF.nd;rw[aO];omega
     rw[List.take_of_length_le hlen]at hT' hL;rw[gb (aA (by omega))];exact⟨_,rfl,.inr ⟨m',lv',L,rfl,hI',hE',hT',hL⟩⟩
   obtain⟨o,ho,hcase⟩:=hL11;rcases hcase with⟨m',lv',rfl,u',hu',hno⟩|⟨m',lv',L,rfl,hI',hE',hT',hL⟩
   .refine⟨false,m',lv',?_,.inr ⟨rfl,u',hu',hno⟩⟩;refine(cw e1).trans ((cw e2).trans ((cw e3).trans ((cw ho).trans ?_)));rfl
   .have hmxl:L<=3000:=by rw[hL];exact Nat.le_trans (aiv hs.apart hI' hfr hT') hnl
    have c:=hI.close hs.apart hx (fun u hu=>(hs.eH _ hx).2 u hu) hfr h2 hk hI' hE' hT' (L:=(L:Int)) (by rw[hL]);have e5:=aiy (n:=n) (V:=V) (F:=ud F) L hmxl m' lv' y.to (by omega) hvs hI'.ll;have e6:=XW (n:=n) (of:=fX (bc n) V (bc n).length) (nd:=eI n) (lv:=cV lv' (y.to.map Int.toNat) ((L:Int)+1)) 2 y.to (by omega) hvs hI'.ml;refine⟨true,cV m' y.nd.to 2,cV lv' y.nd.to ((L:Int)+1),?_,.inl ⟨rfl,c.1,c.2.1,c.2.2⟩⟩;refine(cw e1).trans ((cw e2).trans ((cw e3).trans ((cw ho).trans ((cw e5).trans ?_))));exact(cw e6).trans rfl
  .rw[hk,gb (aA (by omega)),eK (aK ⟨by omega,by rw[hI.ml];omega⟩),je (ak rfl)];exact⟨false,m,lv,by rw[hof];rfl,.inr ⟨rfl,v,hv,fun k=>mq.none hs.apart (hD v hv hk) k⟩⟩
  .rw[hk,je (ak rfl)];exact⟨true,m,lv,by rw[hof];rfl,.inl ⟨rfl,hI,Ext.refl,.inl hk⟩⟩
theorem af3(m:bP)(i:Nat)(r:nL)(hr:m.reads[i]?=some r)(hw:0<=m.word/\m.word<=4000)(hv:-1099511627776<=r.var/\r.var<=1099511627776) :
  Zbo (av m,((i:Int),()))=some (de r.var m.word.toNat,()):=by
 obtain⟨W,hW⟩:=Int.eq_ofNat_of_zero_le hw.1;have hi:=dL hr;have hr':(m.reads.map dU)[i]?=some (dU r):=by rw[cg,hr];rfl
 have hL:PT ((i:Int),((0:Int),(m.addr,(m.word,(m.any,(m.reads.map dU,(m.writes.map dZ,([],()))))))))=some (de r.var m.word.toNat,()):=by
  unfold PT;delta u8;rw[hW,Int.toNat_natCast];refine uH (fun k:Nat=>((i:Int),((k:Int),(m.addr,((W:Int),(m.any,(m.reads.map dU,(m.writes.map dZ,(de r.var k,()))))))))) W ?_ ?_ NN (bt (by omega))
  .intro k hk
   try dsimp only
   unfold Fi;rw[je (ak (by omega)),eK (aK ⟨by omega,by rw[aO];omega⟩),eK (ks (by simp[rS];omega) (by simp[rS];omega)),aZ hr',show(dU r).1=r.var from rfl];rw[bZ (x:=r.var+(k:Int)) (by omega),bZ (x:=(k:Int)+1) (by omega),Zz0];rfl
  .try dsimp only
   unfold Fi;rw[gb (aA (by omega))];rfl
 show Qj PT (av m) (i:Int)=_;unfold Qj;rw[gb (aA (by omega)),O6,gb (aA (by simp only[av,aO,Int.ofNat_eq_natCast];omega))];exact(cw hL).trans rfl
theorem aie{l:Int}(h:0<=l/\l<=1000000){u:Nat}(hu:l / 2=(u:Int)):rL (l,())=some ((u:Int),()):=by show xI l=_;unfold xI;rw[Int.tdiv_eq_ediv_of_nonneg h.1,hu,bZ (by omega)];rfl
def nC(L:List Int)(i:Int):Int:=gt (.int .i64) L i
theorem vS{L:List Int}{i:Nat}{x:Int}(h:L[i]?=some x):nC L (i:Int)=x:=aZ (σ:=.int .i64) h
def bq(x:bH×bF):bh.T:=(x.1.rd,((x.1.mem:Int),((x.1.pos:Int),(x.2.aR,(x.2.to,())))))
theorem agq{V:Nat}{B:Int}(x:bH×bF)(out:List Int)(hB:∀u,u<=V->aF out u<=B)(hB0:0<=B/\B<=1000000000000)(hl:out.length=V+1)(hV:V<=2000)
  (hf:∀l∈x.2.aR,0<=l/\l<=2*(V:Int)+1) (hfl:x.2.aR.length<=100000):Pn (bq x,(out,()))=some (fN out x.2.nd.aR 0,()):=by
 have hfr:∀k,x.2.nd.aR.drop k=(x.2.aR.drop k).map fun l=>(l / 2).toNat:=fun k=>by unfold bF.nd;rw[List.map_drop]
 have hL:=mR (B:=fun d=>Qv rL d.1 d.2.1 d.2.2.1 d.2.2.2.1 d.2.2.2.2.1 d.2.2.2.2.2.1 d.2.2.2.2.2.2.1 d.2.2.2.2.2.2.2.1)
  (I:=fun d:TL xy.σs=>∃(k:Nat) (n:Int),d=(out,(n,((k:Int),bq x)))/\k<=x.2.aR.length/\0<=n/\n<=B/\fN out (x.2.nd.aR.drop k) n=fN out x.2.nd.aR 0)
  (Q:=fun o:Out xw=>(o=.inl ((-1:Int),())/\fN out x.2.nd.aR 0 = -1)\/∃n:Int,o=.inr (n,())/\n<=B/\0<=n/\fN out x.2.nd.aR 0=n+1)
  (μ:=fun d=>x.2.aR.length-d.2.2.1.toNat) ?_ NN (out,((0:Int),((0:Int),bq x))) ⟨0,0,rfl,by omega,by omega,hB0.1,by rw[List.drop_zero]⟩ (bt (by show _-_<=_;omega))
 .obtain⟨o,ho,hcase⟩:=hL;have ho':Zfs (out,((0:Int),((0:Int),bq x)))=some o:=ho;rcases hcase with⟨rfl,h⟩|⟨n,rfl,hn,hn0,h⟩
  .rw[h];exact af ho' rfl
  .rw[h];have e:∀a b:Int,a=b->(some (a,()):Option (Int×Unit))=some (b,()):=by rintro _ _ rfl;rfl
   exact af ho' (e _ _ (bZ (x:=n+1) (by omega)))
 .rintro _ ⟨k,n,rfl,hk,h0,hn,hr⟩;by_cases hlt:k<x.2.aR.length
  .have hg:=aT hlt;obtain⟨a1,a2⟩:=hf _ (List.getElem_mem hlt);obtain⟨u,hu⟩:=Int.eq_ofNat_of_zero_le (show 0<=x.2.aR[k] / 2 by omega);have huV:u<=V:=by omega
   have hlu:out[u]?=some (aF out u):=by unfold aF;rw[dC,aT (by omega)];rfl
   have e1:=aie (l:=x.2.aR[k]) ⟨a1,by omega⟩ hu;have hdrop:x.2.nd.aR.drop k=u::x.2.nd.aR.drop (k+1):=by rw[hfr,hfr,List.drop_eq_getElem_cons hlt,List.map_cons,hu];rfl
   rw[hdrop,fN]at hr;by_cases hneg:aF out u<0
   .left;rw[if_pos hneg]at hr;refine⟨.inl ((-1:Int),()),?_,.inl ⟨rfl,hr.symm⟩⟩;refine ao (ak (show(k:Int)<((x.2.aR.length:Nat):Int) by omega)) (ai (aK ⟨show(0:Int)<=(k:Int) by omega,by show(k:Int)<((x.2.aR.length:Nat):Int);omega⟩) ?_);refine(cw (show rL (gt (.int .i64) x.2.aR (k:Int),())=some ((u:Int),()) by rw[aZ (σ:=.int .i64) hg];exact e1)).trans ?_;refine ai (aK ⟨show(0:Int)<=(u:Int) by omega,by rw[hl];show(u:Int)<_;omega⟩) (ao (ak (show nC out (u:Int)<(0:Int) by rw[vS hlu];exact hneg)) rfl)
   .right;rw[if_neg hneg]at hr;have hBu:=hB u huV;refine⟨(out,((max n (aF out u):Int),(((k+1:Nat):Int),bq x))),?_,⟨k+1,max n (aF out u),rfl,by omega,by omega,by omega,hr⟩,?_⟩
    .refine ao (ak (show(k:Int)<((x.2.aR.length:Nat):Int) by omega)) (ai (aK ⟨show(0:Int)<=(k:Int) by omega,by show(k:Int)<((x.2.aR.length:Nat):Int);omega⟩) ?_);refine(cw (show rL (gt (.int .i64) x.2.aR (k:Int),())=some ((u:Int),()) by rw[aZ (σ:=.int .i64) hg];exact e1)).trans ?_;refine ai (aK ⟨show(0:Int)<=(u:Int) by omega,by rw[hl];show(u:Int)<_;omega⟩) (ag (aA (show ¬nC out (u:Int)<(0:Int) by rw[vS hlu];exact hneg)) ?_);have e:∀a b a' b':Int,a=a'->b=b'->(some (.inl (out,(a,(b,bq x)))):Option (TL xy.σs⊕Out xw))=some (.inl (out,(a',(b',bq x)))):=by rintro _ _ _ _ rfl rfl;rfl
     refine e _ _ _ _ ?_ (bZ (x:=(k:Int)+1) (by omega));show dj (decide (n<nC out (u:Int))) (nC out (u:Int)) n=_;rw[vS hlu];unfold dj;split
     .rename_i q;have q:=of_decide_eq_true q;show aF out u=_;omega
     .rename_i q;have q:=of_decide_eq_false q;show n=_;have q:¬n<aF out u:=q;omega
    .show x.2.aR.length-((k+1:Nat):Int).toNat<x.2.aR.length-(k:Int).toNat;omega
  .left;have hnil:x.2.nd.aR.drop k=[]:=by rw[hfr,List.drop_eq_nil_of_le (by omega)];rfl
   rw[hnil,fN]at hr;exact⟨.inr (n,()),ag (aA (show ¬(k:Int)<((x.2.aR.length:Nat):Int) by omega)) rfl,.inr ⟨n,rfl,hn,h0,hr.symm⟩⟩
theorem akr(l:List Int)(vs ws:List Nat)(x:Int):cV l (vs++ws) x=cV (cV l vs x) ws x:=by simp[cV,List.foldl_append]
theorem Rx{l:List Int}{x B:Int}(hx:x<=B):∀(vs:List Nat) {l:List Int},(∀u,aF l u<=B)->∀u,aF (cV l vs x) u<=B
 |[],l,h,u=>h u|v::vs,l,h,u=>by
  have:cV l (v::vs) x=cV (l.set v x) vs x:=rfl;rw[this];refine Rx (l:=l) hx vs (fun u=>?_) u;rw[X0];split
  .exact hx
  .exact h u
theorem Zyk{out:List Int}{B:Int}(hB:∀u,aF out u<=B):∀(us:List Nat) (n:Int),n<=B->0<=B->fN out us n<=B+1
 |[],n,h,h0=>by rw[fN];omega|u::us,n,h,h0=>by
  rw[fN];split
  .omega
  .exact Zyk hB us _ (by have:=hB u;omega) h0
structure N6(N:List (bH×bF))(V:Nat):Prop where
 v2:V<=2000
 len:N.length<=3000
 to:∀x∈N,x.2.to.length<=100000/\∀v∈x.2.to,0<=v/\v<=(V:Int)
 aR:∀x∈N,x.2.aR.length<=100000/\∀l∈x.2.aR,0<=l/\l<=2*(V:Int)+1
theorem ajd{N:List (bH×bF)}{V:Nat}(h6:N6 N V){i:Nat}{x:bH×bF}(hx:N[i]?=some x)(out:List Int)(hl:out.length=V+1) :
  EP (N.map bq,((i:Int),((0:Int),(out,()))))=some (N.map bq,((i:Int),(cV out x.2.nd.to (-1),()))):=by
 have hx':(N.map bq)[i]?=some (bq x):=by rw[cg,hx];rfl
 have hi:=dL hx';obtain⟨h1,h2⟩:=h6.to x (dn hx);unfold EP;delta u4;refine cu (fun k:Nat=>(N.map bq,((i:Int),((k:Int),(cV out ((x.2.to.take k).map Int.toNat) (-1),()))))) x.2.to.length rfl ?_ ?_ (bt (by omega))
 .intro k hk;have hv:=aT hk;obtain⟨v0,v1⟩:=h2 _ (List.getElem_mem hk);obtain⟨v,hv2⟩:=Int.eq_ofNat_of_zero_le v0;rw[hv2]at hv v1
  try dsimp only
  unfold E6;rw[eK (aK ⟨by omega,by omega⟩),aZ hx'];refine ao (ak (show(k:Int)<((x.2.to.length:Nat):Int) by omega)) (ai (aK ⟨by omega,by omega⟩) (ai (aK ⟨show(0:Int)<=(k:Int) by omega,show(k:Int)<((x.2.to.length:Nat):Int) by omega⟩) ?_));have hg:nC x.2.to (k:Int)=(v:Int):=vS hv;refine ai (show aq (nC x.2.to (k:Int)) (List.length (cV out ((x.2.to.take k).map Int.toNat) (-1)))=true by rw[hg];exact aK ⟨by omega,by rw[kW,hl];omega⟩) ?_;have e:∀(a a':Int) (b b':List Int),a=a'->b=b'->(some (.inl (N.map bq,((i:Int),(a,(b,()))))):Option (TL Eo.σs⊕Out Ej))=some (.inl (N.map bq,((i:Int),(a',(b',()))))):=by rintro _ _ _ _ rfl rfl;rfl
  refine e _ _ _ _ (bZ (x:=(k:Int)+1) (by omega)) ?_;rw[cW hv,dV,List.map_cons,List.map_nil,xV];show List.set (cV out ((x.2.to.take k).map Int.toNat) (-1)) (nC x.2.to (k:Int)).toNat (-1)=_;rw[hg]
 .try dsimp only
  unfold E6;rw[eK (aK ⟨by omega,by omega⟩),aZ hx'];refine ag (aA (show ¬((x.2.to.length:Nat):Int)<((x.2.to.length:Nat):Int) by omega)) ?_;rw[dt];rfl
theorem Vr{N:List (bH×bF)}{V:Nat}(h6:N6 N V){i:Nat}{x:bH×bF}(hx:N[i]?=some x)(a b c:Int)(out:List Int)(hl:out.length=V+1) :
  Es (N.map bq,(a,(b,((i:Int),(c,((0:Int),(out,())))))))=some (N.map bq,(a,(b,((i:Int),(cV out x.2.nd.to c,()))))):=by
 have hx':(N.map bq)[i]?=some (bq x):=by rw[cg,hx];rfl
 have hi:=dL hx';obtain⟨h1,h2⟩:=h6.to x (dn hx);unfold Es;delta u7;refine cu (fun k:Nat=>(N.map bq,(a,(b,((i:Int),(c,((k:Int),(cV out ((x.2.to.take k).map Int.toNat) c,())))))))) x.2.to.length rfl ?_ ?_ (bt (by omega))
 .intro k hk;have hv:=aT hk;obtain⟨v0,v1⟩:=h2 _ (List.getElem_mem hk);obtain⟨v,hv2⟩:=Int.eq_ofNat_of_zero_le v0;rw[hv2]at hv v1
  try dsimp only
  unfold ET;rw[eK (aK ⟨by omega,by omega⟩),aZ hx'];refine ao (ak (show(k:Int)<((x.2.to.length:Nat):Int) by omega)) (ai (aK ⟨by omega,by omega⟩) (ai (aK ⟨show(0:Int)<=(k:Int) by omega,show(k:Int)<((x.2.to.length:Nat):Int) by omega⟩) ?_));have hg:nC x.2.to (k:Int)=(v:Int):=vS hv;refine ai (show aq (nC x.2.to (k:Int)) (List.length (cV out ((x.2.to.take k).map Int.toNat) c))=true by rw[hg];exact aK ⟨by omega,by rw[kW,hl];omega⟩) ?_;have e:∀(p p':Int) (q q':List Int),p=p'->q=q'->(some (.inl (N.map bq,(a,(b,((i:Int),(c,(p,(q,())))))))):Option (TL Eh.σs⊕Out Eg))=some (.inl (N.map bq,(a,(b,((i:Int),(c,(p',(q',())))))))):=by rintro _ _ _ _ rfl rfl;rfl
  refine e _ _ _ _ (bZ (x:=(k:Int)+1) (by omega)) ?_;rw[cW hv,dV,List.map_cons,List.map_nil,xV];show List.set (cV out ((x.2.to.take k).map Int.toNat) c) (nC x.2.to (k:Int)).toNat c=_;rw[hg]
 .try dsimp only
  unfold ET;rw[eK (aK ⟨by omega,by omega⟩),aZ hx'];refine ag (aA (show ¬((x.2.to.length:Nat):Int)<((x.2.to.length:Nat):Int) by omega)) ?_;rw[dt];rfl
theorem ajc{N:List (bH×bF)}{V:Nat}(h6:N6 N V)(out:List Int)(hl:out.length=V+1) :
  PK (N.map bq,((0:Int),(out,())))=some (N.map bq,(cV out ((N.map (·.2.nd)).flatMap (·.to)) (-1),())):=by
 have hn:=h6.len;unfold PK;delta u3;refine cu (fun i:Nat=>(N.map bq,((i:Int),(cV out (((N.take i).map (·.2.nd)).flatMap (·.to)) (-1),())))) N.length rfl ?_ ?_ (bt (by omega))
 .intro i hi;have hx:=aT hi
  try dsimp only
  unfold E7;refine ao (ak (show(i:Int)<(((N.map bq).length:Nat):Int) by rw[aO];omega)) ((cw (ajd h6 hx _ (by rw[kW,hl]))).trans ?_);have e:∀(p p':Int) (q q':List Int),p=p'->q=q'->(some (.inl (N.map bq,(p,(q,())))):Option (TL EE.σs⊕Out Ew))=some (.inl (N.map bq,(p',(q',())))):=by rintro _ _ _ _ rfl rfl;rfl
  refine e _ _ _ _ (bZ (x:=(i:Int)+1) (by omega)) ?_;rw[cW hx,dV,List.flatMap_append,akr];simp
 .try dsimp only
  unfold E7;refine ag (aA (show ¬((N.length:Nat):Int)<(((N.map bq).length:Nat):Int) by rw[aO];omega)) ?_;rw[dt];rfl
theorem aj4(M:List Nd)(x:Nd)(out:List Int):jh (M++[x]) out=jq (jh M out) x:=by unfold jh;rw[List.foldl_append];rfl
theorem QQ:∀(M:List Nd) (out:List Int),(jh M out).length=out.length
 |[],out=>rfl|x::M,out=>by show(jh M (jq out x)).length=_;rw[QQ M,Ro]
theorem Zyn(x:Nd):∀(M:List Nd) (out:List Int),iF (M++[x]) out=iF M out+(if fN (jh M out) x.aR 0<0 then 1 else 0)
 |[],out=>by show(if fN out x.aR 0<0 then 1 else 0)+0=0+_;rw[Nat.zero_add];rfl
 |y::M,out=>by show(if fN out y.aR 0<0 then 1 else 0)+iF (M++[x]) (jq out y)=_;rw[Zyn x M (jq out y)];show _=(if fN out y.aR 0<0 then 1 else 0)+iF M (jq out y)+_;rw[Nat.add_assoc];rfl
theorem RP:∀(M:List Nd) (out:List Int),iF M out<=M.length
 |[],out=>Nat.le_refl _|y::M,out=>by have:=RP M (jq out y);show(if fN out y.aR 0<0 then 1 else 0)+iF M (jq out y)<=M.length+1;split<;>omega
theorem Q7:∀(M:List Nd) {out:List Int}{B:Int},0<=B->(∀u,aF out u<=B)->∀u,aF (jh M out) u<=B+(M.length:Int)
 |[],out,B,h0,h,u=>by have:=h u;show aF out u<=B+((0:Nat):Int);omega|y::M,out,B,h0,h,u=>by have h1:∀u,aF (jq out y) u<=B+1:=Rx (l:=out) (Zyk h y.aR 0 h0 h0) y.to (fun u=>by have:=h u;omega);have:=Q7 M (out:=jq out y) (B:=B+1) (by omega) h1 u;show aF (jh M (jq out y)) u<=B+((M.length+1:Nat):Int);omega
theorem ait{N:List (bH×bF)}{V:Nat}(h6:N6 N V){B:Int}(r:Int)(out:List Int)(hl:out.length=V+1)(hB:∀u,aF out u<=B)(hB0:0<=B/\B<=900000000000) :
  EL (N.map bq,((0:Int),(r,((0:Int),(out,())))))=some (N.map bq,((iF (N.map (·.2.nd)) out:Int),(r,(jh (N.map (·.2.nd)) out,())))):=by
 have hn:=h6.len;unfold EL;delta u5;refine cu (fun i:Nat=>(N.map bq,((iF ((N.take i).map (·.2.nd)) out:Int),(r,((i:Int),(jh ((N.take i).map (·.2.nd)) out,())))))) N.length rfl ?_ ?_ (bt (by omega))
 .intro i hi;have hx:=aT hi;have hx':(N.map bq)[i]?=some (bq N[i]):=by rw[cg,hx];rfl
  obtain⟨f1,f2⟩:=h6.aR _ (List.getElem_mem hi);have hlen:((N.take i).map (fun x:bH×bF=>x.2.nd)).length<=3000:=by rw[aO,da];omega
  have hle:=RP ((N.take i).map (fun x:bH×bF=>x.2.nd)) out;have hb:=Q7 ((N.take i).map (fun x:bH×bF=>x.2.nd)) hB0.1 hB;have hrl:(jh ((N.take i).map (fun x:bH×bF=>x.2.nd)) out).length=V+1:=by rw[QQ,hl]
  have e1:=agq (V:=V) (B:=B+(((N.take i).map (fun x:bH×bF=>x.2.nd)).length:Int)) N[i] _ (fun u _=>hb u) ⟨by omega,by omega⟩ hrl h6.v2 f2 f1
  try dsimp only
  unfold EU;refine ao (ak (show(i:Int)<(((N.map bq).length:Nat):Int) by rw[aO];omega)) (ai (aK ⟨by omega,by rw[aO];omega⟩) ?_);rw[aZ hx'];refine(cw e1).trans ?_;have e:∀(p p' q q':Int) (s s':List Int),p=p'->q=q'->s=s'->(some (.inl (N.map bq,(p,(r,(q,(s,())))))):Option (TL Ek.σs⊕Out Ei))=some (.inl (N.map bq,(p',(r,(q',(s',())))))):=by rintro _ _ _ _ _ _ rfl rfl rfl;rfl
  have hs:jh ((N.take (i+1)).map (fun x:bH×bF=>x.2.nd)) out=cV (jh ((N.take i).map (fun x:bH×bF=>x.2.nd)) out) N[i].2.nd.to (fN (jh ((N.take i).map (fun x:bH×bF=>x.2.nd)) out) N[i].2.nd.aR 0):=by rw[cW hx,dV];exact aj4 _ _ _
  have hc:iF ((N.take (i+1)).map (fun x:bH×bF=>x.2.nd)) out=iF ((N.take i).map (fun x:bH×bF=>x.2.nd)) out+(if fN (jh ((N.take i).map (fun x:bH×bF=>x.2.nd)) out) N[i].2.nd.aR 0<0 then 1 else 0):=by rw[cW hx,dV];exact Zyn _ _ _
  rw[hs,hc];by_cases hneg:fN (jh ((N.take i).map (fun x:bH×bF=>x.2.nd)) out) N[i].2.nd.aR 0<0
  .rw[if_pos hneg];refine ao (ak hneg) ((cw (Vr h6 hx _ r _ _ hrl)).trans ?_);exact e _ _ _ _ _ _ ((bZ (x:=((iF ((N.take i).map (fun x:bH×bF=>x.2.nd)) out:Nat):Int)+1) (by omega)).trans (by omega)) (bZ (x:=(i:Int)+1) (by omega)) rfl
  .rw[if_neg hneg];refine ag (aA hneg) ((cw (Vr h6 hx _ r _ _ hrl)).trans ?_);exact e _ _ _ _ _ _ rfl (bZ (x:=(i:Int)+1) (by omega)) rfl
 .try dsimp only
  unfold EU;refine ag (aA (show ¬((N.length:Nat):Int)<(((N.map bq).length:Nat):Int) by rw[aO];omega)) ?_;rw[dt];rfl
theorem Zy8(M:List Nd)(out:List Int):∀r,(iB M r out).length=out.length
 |0=>rfl|r+1=>by rw[iB,QQ,Zy8 M out r]
theorem Zuq(M:List Nd){out:List Int}(h:∀u,aF out u<=0):∀r u,aF (iB M r out) u<=(r:Int)*(M.length:Int)
 |0,u=>by have:=h u;show aF out u<=((0:Nat):Int)*_;omega|r+1,u=>by
  have h1:=Q7 M (out:=iB M r out) (B:=(r:Int)*(M.length:Int)) (Int.mul_nonneg (by omega) (by omega)) (Zuq M h r) u;rw[iB];have:((r+1:Nat):Int)*(M.length:Int)=(r:Int)*(M.length:Int)+(M.length:Int):=by rw[Int.natCast_add,Int.add_mul];simp
  omega
theorem ais{N:List (bH×bF)}{V:Nat}(h6:N6 N V)(out:List Int)(hl:out.length=V+1)(hB:∀u,aF out u<=0) :
  PI (N.map bq,((0:Int),((0:Int),(out,()))))=some ((iF (N.map (fun x:bH×bF=>x.2.nd)) (iB (N.map (fun x:bH×bF=>x.2.nd)) N.length out):Int),(iB (N.map (fun x:bH×bF=>x.2.nd)) (N.length+1) out,())):=by
 have hn:=h6.len;unfold PI;delta u4;refine cu (fun r:Nat=>(N.map bq,((match r with|0=>(0:Int)|r+1=>(iF (N.map (fun x:bH×bF=>x.2.nd)) (iB (N.map (fun x:bH×bF=>x.2.nd)) r out):Int)),((r:Int),(iB (N.map (fun x:bH×bF=>x.2.nd)) r out,()))))) (N.length+1) rfl ?_ ?_ (bt (by omega))
 .intro r hr;have hb:=Zuq (N.map (fun x:bH×bF=>x.2.nd)) hB r;have hm:(r:Int)*((N.map (fun x:bH×bF=>x.2.nd)).length:Int)<=3000*3000:=by rw[aO];exact Int.mul_le_mul (by omega) (by omega) (by omega) (by omega)
  have h0:0<=(r:Int)*((N.map (fun x:bH×bF=>x.2.nd)).length:Int):=Int.mul_nonneg (by omega) (by omega);have e1:=ait h6 (r:Int) (iB (N.map (fun x:bH×bF=>x.2.nd)) r out) (by rw[Zy8,hl]) hb ⟨h0,by omega⟩
  try dsimp only
  unfold EV;refine ao (ak (show(r:Int)<=(((N.map bq).length:Nat):Int) by rw[aO];omega)) ((cw e1).trans ?_);have e:∀(p q q':Int) (s:List Int),q=q'->(some (.inl (N.map bq,(p,(q,(s,()))))):Option (TL Ey.σs⊕Out Et))=some (.inl (N.map bq,(p,(q',(s,()))))):=by rintro _ _ _ _ rfl;rfl
  exact e _ _ _ _ (bZ (x:=(r:Int)+1) (by omega))
 .try dsimp only
  unfold EV;refine ag (aA (show ¬((N.length+1:Nat):Int)<=(((N.map bq).length:Nat):Int) by rw[aO];omega)) ?_;rfl
def nt{α:Type}(n:aD)(r:α):Int×List Int×List ae.T×List Int×List Int×List Int×List ab.T×List ae.T×α:=(n.vars,(n.aM,(n.ax.map bM,(n.cf,(n.bo,(n.constraints,(n.aa.map av,(n.aP.map dW,r))))))))
abbrev W4:=List Int×List au.T×List Int×List Int×Unit
def w4(of:List Int)(nd:List bH)(m lv:List Int):W4:=(of,(nd.map dE,(m,(lv,()))))
def kg(k:Nat):List bH:=(List.range k).map fun i=>⟨false,0,i⟩
theorem WE(k:Nat):kg (k+1)=kg k++[⟨false,0,k⟩]:=by unfold kg;rw[List.range_succ,dV];rfl
theorem um(k:Nat):(kg k).length=k:=by simp[kg]
theorem ajB(n:aD)(of m lv:List Int)(hA:n.aP.length<=2000):Fu ((n.aP.length:Int),((0:Int),nt n (nt n (w4 of [] m lv))))=some (nt n (nt n (w4 of (kg n.aP.length) m lv))):=by
 unfold Fu;delta se;refine uH (fun k:Nat=>((n.aP.length:Int),((k:Int),nt n (nt n (w4 of (kg k) m lv))))) n.aP.length ?_ ?_ NN (bt (by omega))
 .intro k hk;unfold nt w4
  try dsimp only
  unfold FC;refine ao (ak (by omega)) (ai (pj (L:=(kg k).map dE) (by rw[aO,um];omega) (by decide)) ?_);rw[bZ (x:=(k:Int)+1) (by omega),WE,dV];rfl
 .unfold nt w4
  try dsimp only
  unfold FC;rw[gb (aA (by omega))];rfl
def mI(j k:Nat):List bH:=(List.range k).map fun i=>⟨true,j,i⟩
theorem Xk(j k:Nat):mI j (k+1)=mI j k++[⟨true,j,k⟩]:=by unfold mI;rw[List.range_succ,dV];rfl
theorem Rh(j k:Nat):(mI j k).length=k:=by simp[mI]
theorem aiS(n:aD)(of m lv:List Int)(j M R:Nat)(pre:List bH)(hj:j<=4)(hM:M<=4)(hR:R<=4)(hp:pre.length<=3000) :
  Fk ((j:Int),((M:Int),((j:Int),((R:Int),((0:Int),nt n (nt n (w4 of pre m lv)))))))=some ((M:Int),((j:Int),nt n (nt n (w4 of (pre++mI j R) m lv)))):=by
 unfold Fk;refine cu (fun k:Nat=>((j:Int),((M:Int),((j:Int),((R:Int),((k:Int),nt n (nt n (w4 (of) (pre++mI j k) m lv)))))))) R (by rw[show mI j 0=[]from rfl,dF];rfl) ?_ ?_ (bt (by omega))
 .intro k hk;unfold nt w4
  try dsimp only
  unfold FA;refine ao (ak (by omega)) (ai (pj (L:=(pre++mI j k).map dE) (by rw[aO,aW,Rh];omega) (by decide)) ?_);rw[bZ (x:=(k:Int)+1) (by omega),Xk,<-cN,List.map_append (l₁:=pre++mI j k)];rfl
 .unfold nt w4
  try dsimp only
  unfold FA;rw[gb (aA (by omega))];rfl
theorem Rj(k:Nat):∀(l:List bP) (m:bP),jD k (l++[m])=jD k l++Pl.jo (k+l.length) m
 |[],m=>by simp[jD]|x::l,m=>by rw[List.cons_append,jD,jD,Rj (k+1) l m,cN,ca,show k+1+l.length=k+(l.length+1) by omega]
theorem ajC(n:aD)(of m lv:List Int)(hA:n.aP.length<=2000)(hM:n.aa.length<=4)(hR:∀M∈n.aa,M.reads.length<=4) :
  Ft ((n.aa.length:Int),((0:Int),nt n (nt n (w4 of (kg n.aP.length) m lv))))=some (nt n (w4 of (eI n) m lv)):=by
 have hlen:∀k,k<=n.aa.length->(kg n.aP.length++jD 0 (n.aa.take k)).length<=3000:=by
  intro k hk;rw[aW,um,uj];have:=Aq kf (n.aa.take k) 4 (fun M hM=>by unfold kf;rw[aO];exact hR M (List.mem_of_mem_take hM));have h2:(n.aa.take k).length<=4:=by rw[da];omega
  omega
 unfold Ft;delta se;refine cu (fun k:Nat=>((n.aa.length:Int),((k:Int),nt n (nt n (w4 of (kg n.aP.length++jD 0 (n.aa.take k)) m lv))))) n.aa.length (by rw[List.take_zero,show jD 0 []=[]from rfl,dF];rfl) ?_ ?_ (bt (by omega))
 .intro k hk;have hMk:=aT hk;have hMk':(n.aa.map av)[k]?=some (av n.aa[k]):=by rw[cg,hMk];rfl
  have hrk:=hR _ (List.getElem_mem hk);unfold nt w4
  try dsimp only
  unfold FB;rw[je (ak (by omega)),eK (aK ⟨by omega,by rw[aO];omega⟩),aZ hMk'];have e:=aiS n of m lv k n.aa.length n.aa[k].reads.length _ (by omega) hM hrk (hlen k (by omega));have hl:List.length (av n.aa[k]).2.2.2.1=n.aa[k].reads.length:=aO _;rw[hl];refine(cw e).trans ?_;have e2:kg n.aP.length++jD 0 (n.aa.take (k+1))=kg n.aP.length++jD 0 (n.aa.take k)++mI k n.aa[k].reads.length:=by rw[cW hMk,Rj,cN,da,Nat.min_eq_left (by omega),Nat.zero_add];rfl
  rw[e2];have hw:=bZ (x:=(k:Int)+1) (by omega);show some (Sum.inl (_,(IntKind.wrap (.i64:IntKind) ((k:Int)+1),_)))=_;rw[hw];rfl
 .unfold nt w4
  try dsimp only
  unfold FB;rw[gb (aA (by omega)),dt];rfl
theorem aiU(n:aD)(V:Nat)(of m lv vs:List Int)(nd:List bH)(a b:Int)(k:Nat)(hk:k<=3000)(hln:vs.length<=100000)(hvs:∀v∈vs,0<=v/\v<=(V:Int))(hof:of.length=V+1) :
  Fj ((k:Int),(a,(b,(vs,((vs.length:Int),((0:Int),nt n (w4 of nd m lv)))))))=some (a,(b,nt n (w4 (cV of (vs.map Int.toNat) ((k:Int)+1)) nd m lv))):=by
 unfold Fj;delta Gr;refine cu (fun j:Nat=>((k:Int),(a,(b,(vs,((vs.length:Int),((j:Int),nt n (w4 (cV of ((vs.take j).map Int.toNat) ((k:Int)+1)) nd m lv)))))))) vs.length rfl ?_ ?_ (bt (by omega))
 .intro j hj;have hv:=aT hj;obtain⟨h0,h1⟩:=hvs _ (List.getElem_mem hj);obtain⟨v,hv2⟩:=Int.eq_ofNat_of_zero_le h0;rw[hv2]at hv h1;unfold nt w4
  try dsimp only
  unfold Fx;rw[je (ak (by omega)),eK (aK ⟨by omega,by omega⟩),aZ (σ:=.int .i64) hv,eK (aK ⟨by omega,by rw[kW,hof];omega⟩),bZ (x:=(j:Int)+1) (by omega),bZ (x:=(k:Int)+1) (by omega)];rw[cW hv,dV,List.map_cons,List.map_nil,xV];rfl
 .unfold nt w4
  try dsimp only
  unfold Fx;rw[gb (aA (by omega)),dt];rfl
theorem aiT{n:aD}{V:Nat}(hs:cO n V)(ft:Fit n)(m lv:List Int):Fs (((eI n).length:Int),((0:Int),nt n (w4 (List.replicate (V+1) 0) (eI n) m lv)))=some (wk n V m lv):=by
 have hnl:=Rw hs;have hV2:=hs.v2;have hnl2:(eI n).length=(bc n).length:=by rw[Zuw];unfold bc;rw[aO]
 have hmw:∀M∈n.aa,0<=M.word:=fun M hM=>by have:=hs.aa M hM;omega
 unfold Fs;delta iu;refine cu (fun k:Nat=>(((eI n).length:Int),((k:Int),nt n (w4 (fX (bc n) V k) (eI n) m lv)))) (eI n).length rfl ?_ ?_ (bt (by omega))
 .intro k hk;have hxd:=aT hk;obtain⟨y,hy1,hy2⟩:=JJ n hxd;have hy:=dn hy1;have hx:(bc n)[k]?=some y.nd:=by rw[JO,hy1];rfl
  have hxd':((eI n).map dE)[k]?=some (dE (eI n)[k]):=by rw[cg,hxd];rfl
  have hvs:∀u∈y.to,0<=u/\u<=(V:Int):=fun u hu=>by have:=hs.ln hy hu;omega
  have hlens:=FQ hs hy;have e1:=Wi (of:=fX (bc n) V k) (m:=m) (lv:=lv) (nd:=eI n) hy2 ft hmw;have e2:=aiU n V (fX (bc n) V k) m lv y.to (eI n) ((eI n).length:Int) (k:Int) k (by omega) (by omega) hvs (FL _ _ _);unfold nt w4
  try dsimp only
  unfold Fy;refine ao (ak (by omega)) (ai (aK ⟨by omega,by rw[aO];omega⟩) ?_);rw[aZ hxd'];refine af e1 (af e2 ?_);rw[Xo hx];have hw:=bZ (x:=(k:Int)+1) (by omega);show some (Sum.inl (_,(IntKind.wrap (.i64:IntKind) ((k:Int)+1),_)))=_;rw[hw];rfl
 .unfold nt w4
  try dsimp only
  unfold Fy;rw[gb (aA (by omega)),hnl2];rfl
theorem acM{n:aD}{V:Nat}(hs:cO n V)(ft:Fit n):Zo9 (nt n ())=some (wk n V (List.replicate (V+1) 0) (List.replicate (V+1) 0)):=by
 have hV2:=hs.v2;have hvars:=hs.vars;have e3:=ajB n (List.replicate (V+1) 0) (List.replicate (V+1) 0) (List.replicate (V+1) 0) hs.lens.2.2.1;have e8:=ajC n (List.replicate (V+1) 0) (List.replicate (V+1) 0) (List.replicate (V+1) 0) hs.lens.2.2.1 hs.lens.2.2.2.2 (fun M hM=>(hs.aa M hM).2.2.2.2.2.2.1);have e17:=aiT hs ft (List.replicate (V+1) 0) (List.replicate (V+1) 0);have hw:IntKind.wrap (.i64:IntKind) (n.vars+1)=((V+1:Nat):Int):=by rw[hvars,bZ (by omega)];omega
 show QN xv Fu Ft Fk Fs Fj n.vars n.aM (n.ax.map bM) n.cf n.bo n.constraints (n.aa.map av) (n.aP.map dW)=_;unfold QN;rw[hw];have hc:∀k:Int,0<=k->k<=8->both (decide ((0:Int)<=((V+1:Nat):Int))) (both (decide (((V+1:Nat):Int)<=((V+1:Nat):Int))) (decide (k*((V+1:Nat):Int)<=281474976710656)))=true:=by intro k h0 h8;rw[bg (by omega),bg (by omega),bg (by have:k*((V+1:Nat):Int)<=8*((V+1:Nat):Int):=Int.mul_le_mul_of_nonneg_right h8 (by omega);omega)];rfl
 have e3':Fu (((List.map dW n.aP).length:Int),((0:Int),nt n (nt n (w4 (List.replicate (V+1) 0) [] (List.replicate (V+1) 0) (List.replicate (V+1) 0)))))=some (nt n (nt n (w4 (List.replicate (V+1) 0) (kg n.aP.length) (List.replicate (V+1) 0) (List.replicate (V+1) 0)))):=by rw[aO];exact e3
 have e8':Ft (((List.map av n.aa).length:Int),((0:Int),nt n (nt n (w4 (List.replicate (V+1) 0) (kg n.aP.length) (List.replicate (V+1) 0) (List.replicate (V+1) 0)))))=some (nt n (w4 (List.replicate (V+1) 0) (eI n) (List.replicate (V+1) 0) (List.replicate (V+1) 0))):=by rw[aO];exact e8
 have e17':Fs (((List.map dE (eI n)).length:Int),((0:Int),nt n (w4 (List.replicate (V+1) 0) (eI n) (List.replicate (V+1) 0) (List.replicate (V+1) 0))))=some (wk n V (List.replicate (V+1) 0) (List.replicate (V+1) 0)):=by rw[aO];exact e17
 exact ai (hc 8 (by decide) (by decide)) (ai (hc 1 (by decide) (by decide)) (ai (hc 8 (by decide) (by decide)) (af e3' (af e8' (af e17' rfl)))))
theorem age{V:Nat}{m:List Int}(h:V<=2000):fresh V m<NN:=by
 have z:∀(p:Nat->Bool) k,zc p k<=k:=by
  intro p k
  induction k with|zero=>exact Nat.le_refl _|succ k ih=>rw[zc];split<;>omega
 have:fresh V m<=V+1:=z _ _;exact bt (by omega)
theorem Vf{n:aD}{V:Nat}(hs:cO n V)(ft:Fit n) :
  ∃m lv,Zhj (wk n V (List.replicate (V+1) 0) (List.replicate (V+1) 0))=some (fh (bc n) V,wk n V m lv) /\
   (fh (bc n) V=true->lv.length=V+1/\∀v,v<=V->∃k:Nat,aF lv v=(k:Int)/\dg (bc n) v k):=by
 have hV2:=hs.v2;have hL:=mR (B:=fun d=>Qw PF d.1 d.2.1 d.2.2.1 d.2.2.2.1 d.2.2.2.2.1 d.2.2.2.2.2.1 d.2.2.2.2.2.2.1 d.2.2.2.2.2.2.2.1 d.2.2.2.2.2.2.2.2.1 d.2.2.2.2.2.2.2.2.2.1 d.2.2.2.2.2.2.2.2.2.2.1 d.2.2.2.2.2.2.2.2.2.2.2.1 d.2.2.2.2.2.2.2.2.2.2.2.2.1 d.2.2.2.2.2.2.2.2.2.2.2.2.2.1)
  (I:=fun d:Int×Int×WT=>∃(k:Nat) (m lv:List Int),d=(((V+1:Nat):Int),((k:Int),wk n V m lv))/\k<=V+1/\VI (bc n) V m lv/\(∀u,u<=V->aF m u≠1)/\(∀u,u<k->tl (bc n) m u))
  (Q:=fun o:Out ER=>(∃m lv,o=.inl (false,wk n V m lv)/\∃u,u<=V/\∀k,¬dg (bc n) u k)\/(∃m lv,o=.inr (wk n V m lv)/\VI (bc n) V m lv/\∀u,u<V+1->tl (bc n) m u))
  (μ:=fun d=>V+1-d.2.1.toNat) ?_ NN (((V+1:Nat):Int),((0:Int),wk n V (List.replicate (V+1) 0) (List.replicate (V+1) 0))) ⟨0,_,_,rfl,by omega,vi0,fun u hu=>by unfold aF;rw[dC,List.getElem?_replicate];split<;>simp,fun u h=>by omega⟩ (bt (by omega))
 .obtain⟨o,ho,hcase⟩:=hL;have hlen:((List.length (fX (bc n) V (bc n).length):Nat):Int)=((V+1:Nat):Int):=by rw[FL]
  have ho':Zhi (((List.length (fX (bc n) V (bc n).length):Nat):Int),((0:Int),wk n V (List.replicate (V+1) 0) (List.replicate (V+1) 0)))=some o:=by rw[hlen];exact ho
  rcases hcase with⟨m,lv,rfl,u,hu,hno⟩|⟨m,lv,rfl,hI,hT⟩
  .have hf:fh (bc n) V=false:=by
    cases h:fh (bc n) V
    .rfl
    .obtain⟨kk,hkk⟩:=(Aw hs.apart V).1 h u hu;exact absurd hkk (hno kk)
   rw[hf];exact⟨m,lv,af ho' rfl,fun h=>by cases h⟩
  .have hl:∀v,v<=V->∃k:Nat,aF lv v=(k:Int)/\dg (bc n) v k:=fun v hv=>AA hI hv (hT v (by omega));have ht:fh (bc n) V=true:=(Aw hs.apart V).2 fun v hv=>by obtain⟨k,_,h⟩:=hl v hv;exact⟨k,h⟩
   rw[ht];exact⟨m,lv,af ho' rfl,fun _=>⟨hI.ll,hl⟩⟩
 .rintro _ ⟨k,m,lv,rfl,hk,hI,hU,hT⟩;by_cases hlt:k<V+1
  .obtain⟨b,m2,lv2,e,hp⟩:=agU hs ft NN m lv k hI (fun u hu h=>absurd h (hU u hu)) (by omega) (age hV2);have e':PF ((k:Int),wk n V m lv)=some (b,wk n V m2 lv2):=e;rcases hp with⟨rfl,hI7,hE7,ht7⟩|⟨rfl,u',hu',hno⟩
   .right;refine⟨_,ao (ak (show(k:Int)<((V+1:Nat):Int) by omega)) (af e' (ag rfl rfl)),⟨k+1,m2,lv2,?_,by omega,hI7,fun u hu h=>hU u hu (hE7.b u hu h),fun u hu=>?_⟩,?_⟩
    .have e2:∀a a':Int,a=a'->(((V+1:Nat):Int),(a,wk n V m2 lv2))=(((V+1:Nat):Int),(a',wk n V m2 lv2)):=by rintro _ _ rfl;rfl
     exact e2 _ _ (bZ (x:=(k:Int)+1) (by omega))
    .by_cases e:u=k
     .subst e;exact ht7
     .exact(Jw hI hI7 hE7 (by omega) (hT u (by omega))).1
    .show V+1-(IntKind.wrap (.i64:IntKind) ((k:Int)+1)).toNat<V+1-(k:Int).toNat;rw[bZ (x:=(k:Int)+1) (by omega)];omega
   .left;exact⟨_,ao (ak (show(k:Int)<((V+1:Nat):Int) by omega)) (af e' (ao rfl rfl)),.inl ⟨m2,lv2,rfl,u',hu',hno⟩⟩
  .left;exact⟨_,ag (aA (show ¬(k:Int)<((V+1:Nat):Int) by omega)) rfl,.inr ⟨m,lv,rfl,hI,fun u hu=>hT u (by omega)⟩⟩
theorem ur{n:aD}(ft:Fit n):Zfn (bz n,())=some (dD n,()):=by
 have es:mw (bz n,())=some (dM n,()):=by unfold mw;rw[show fx ((bz n,()):TL [ba]).1=n from oq n,Az ft];rfl
 by_cases h0:dM n=0
 .obtain⟨V,hs⟩:=pS h0;have hV:n.vars.toNat=V:=by rw[hs.vars];rfl
  obtain⟨m,lv,ea,_⟩:=Vf hs ft;have ew:=acM hs ft;cases hc:fh (bc n) V
  .have et:xM (nt n ())=some (.inl ((8:Int),())):=by refine af es (ag (by rw[h0];rfl) (af ew (af ea (ao (by rw[hc];rfl) rfl))))
   refine(af et rfl).trans ?_;unfold dD;rw[h0,hV,hc];rfl
  .have et:xM (nt n ())=some (.inr ((0:Int),wk n V m lv)):=by refine af es (ag (by rw[h0];rfl) (af ew (af ea (ag (by rw[hc];rfl) rfl))))
   refine(af et rfl).trans ?_;unfold dD;rw[h0,hV,hc];rfl
 .have et:xM (nt n ())=some (.inl (dM n,())):=by refine af es (ao (by simp[h0]) rfl)
  refine(af et rfl).trans ?_;unfold dD;rw[if_pos h0];rfl
def A6(n:aD)(k:Nat):List (bH×bF):=(kg k).zip ((n.aP.take k).map qa)
def M6(n:aD)(k:Nat):List (bH×bF):=(jD 0 (n.aa.take k)).zip ((n.aa.take k).flatMap kf)
def R6(j:Nat)(M:bP)(r:Nat):List (bH×bF):=(mI j r).zip ((M.reads.take r).map (pK M.word))
def n6(n:aD):List (bH×bF):=A6 n n.aP.length++M6 n n.aa.length
theorem agX{n:aD}{k:Nat}{a:fT}(h:n.aP[k]?=some a):A6 n (k+1)=A6 n k++[(⟨false,0,k⟩,qa a)]:=by unfold A6;rw[WE,cW h,dV,List.zip_append (by rw[um,aO,da];have:=dL h;omega)];rfl
theorem W7{n:aD}{k:Nat}(h:k<=n.aP.length):(A6 n k).length=k:=by unfold A6;rw[List.length_zip,um,aO,da];omega
theorem agZ{j:Nat}{M:bP}{k:Nat}{r:nL}(h:M.reads[k]?=some r):R6 j M (k+1)=R6 j M k++[(⟨true,j,k⟩,pK M.word r)]:=by unfold R6;rw[Xk,cW h,dV,List.zip_append (by rw[Rh,aO,da];have:=dL h;omega)];rfl
theorem alg{j:Nat}{M:bP}{k:Nat}(h:k<=M.reads.length):(R6 j M k).length=k:=by unfold R6;rw[List.length_zip,Rh,aO,da];omega
theorem agY{n:aD}{k:Nat}{M:bP}(h:n.aa[k]?=some M):M6 n (k+1)=M6 n k++R6 k M M.reads.length:=by unfold M6 R6;rw[cW h,Rj,List.flatMap_append,List.zip_append (by rw[uj])];have:=dL h;rw[da,Nat.min_eq_left (by omega),Nat.zero_add,dt];simp only[List.flatMap_cons,List.flatMap_nil,dF];rfl
theorem aiD(n:aD)(hA:n.aP.length<=2000):Zeg ((0:Int),nt n ([],()))=some (nt n ((A6 n n.aP.length).map bq,())):=by
 unfold Zeg;delta jO;refine cu (fun k:Nat=>((k:Int),nt n ((A6 n k).map bq,()))) n.aP.length rfl ?_ ?_ (bt (by omega))
 .intro k hk;have ha:=aT hk;have ha':(n.aP.map dW)[k]?=some (dW n.aP[k]):=by rw[cg,ha];rfl
  unfold nt
  try dsimp only
  unfold Fa;refine ao (ak (show(k:Int)<(((n.aP.map dW).length:Nat):Int) by rw[aO];omega)) (ai (aK ⟨by omega,by rw[aO];omega⟩) ?_);rw[aZ ha'];refine ai (pj (L:=(A6 n k).map bq) (by rw[aO,W7 (by omega)];omega) (by decide)) ?_;rw[bZ (x:=(k:Int)+1) (by omega),agX ha,List.map_append (l₁:=A6 n k)];rfl
 .unfold nt
  try dsimp only
  unfold Fa;refine ag (aA (show ¬(n.aP.length:Int)<(((n.aP.map dW).length:Nat):Int) by rw[aO];omega)) rfl
theorem ahK{n:aD}{j:Nat}{M:bP}(hM:n.aa[j]?=some M)(hw:0<=M.word/\M.word<=4000)(hR:M.reads.length<=4)(hrv:∀r∈M.reads,-1099511627776<=r.var/\r.var<=1099511627776)(hj:j<=4)(pre:List (bH×bF))(hp:pre.length<=3000) :
  PA ((j:Int),((0:Int),nt n (pre.map bq,())))=some ((j:Int),nt n ((pre++R6 j M M.reads.length).map bq,())):=by
 have hM':(n.aa.map av)[j]?=some (av M):=by rw[cg,hM];rfl
 have hjl:=dL hM';unfold PA;delta jl;refine cu (fun k:Nat=>((j:Int),((k:Int),nt n ((pre++R6 j M k).map bq,())))) M.reads.length (by rw[show R6 j M 0=[]from rfl,dF];rfl) ?_ ?_ (bt (by omega))
 .intro k hk;have hr:=aT hk;have hr':(M.reads.map dU)[k]?=some (dU M.reads[k]):=by rw[cg,hr];rfl
  have e1:=af3 M k _ hr hw (hrv _ (List.getElem_mem hk));unfold nt
  try dsimp only
  unfold E5;rw[eK (aK ⟨by omega,by omega⟩),aZ hM',show(av M).2.2.2.1=M.reads.map dU from rfl];refine ao (ak (show(k:Int)<(((M.reads.map dU).length:Nat):Int) by rw[aO];omega)) (ai (aK ⟨by omega,by omega⟩) (ai (aK ⟨by omega,by rw[aO];omega⟩) (ai (aK ⟨by omega,by omega⟩) ?_)));rw[aZ hr'];refine(cw e1).trans (ai (pj (L:=(pre++R6 j M k).map bq) (by rw[aO,aW,alg (by omega)];omega) (by decide)) ?_);rw[bZ (x:=(k:Int)+1) (by omega),agZ hr,<-cN,List.map_append (l₁:=pre++R6 j M k)];rfl
 .unfold nt
  try dsimp only
  unfold E5;rw[eK (aK ⟨by omega,by omega⟩),aZ hM',show(av M).2.2.2.1=M.reads.map dU from rfl];exact ag (aA (show ¬(M.reads.length:Int)<(((M.reads.map dU).length:Nat):Int) by rw[aO];omega)) rfl
theorem alh(n:aD)(k:Nat):(M6 n k).length=((n.aa.take k).flatMap kf).length:=by unfold M6;rw[List.length_zip,uj];omega
theorem oS(n:aD):(n6 n).map (fun x:bH×bF=>x.2)=fQ n:=by
 unfold n6 A6 M6 fQ;rw[dV,dt,dt];congr 1
 .exact List.map_snd_zip (by rw[um,aO];omega)
 .exact List.map_snd_zip (by rw[uj];omega)
theorem sW(n:aD):(n6 n).map (fun x:bH×bF=>x.2.nd)=bc n:=by unfold bc;rw[<-oS,List.map_map];rfl
theorem pJ{n:aD}{V:Nat}(hs:cO n V):N6 (n6 n) V:=by
 have hm:∀x∈n6 n,x.2∈fQ n:=fun x hx=>by rw[<-oS];exact List.mem_map_of_mem hx
 refine⟨hs.v2,?_,fun x hx=>⟨?_,fun v hv=>?_⟩,fun x hx=>⟨?_,fun l hl=>?_⟩⟩
 .have h:=Rw hs;rw[<-sW,aO]at h;exact h
 .have:=(FQ hs (hm x hx)).1;omega
 .have:=hs.ln (hm x hx) hv;omega
 .have:=(FQ hs (hm x hx)).2;omega
 .have:=hs.JV (hm x hx) hl;omega
theorem acL{n:aD}{V:Nat}(hs:cO n V)(ft:Fit n):Zam (bz n,())=some ((n6 n).map bq,()):=by
 have hA:=hs.lens.2.2.1;have hMl:=hs.lens.2.2.2.2;have e3:=aiD n hA;have hlen:∀k,k<=n.aa.length->(A6 n n.aP.length++M6 n k).length<=3000:=by
  intro k hk;rw[aW,W7 (Nat.le_refl _),alh];have:=Aq kf (n.aa.take k) 4 (fun M hM=>by unfold kf;rw[aO];exact(hs.aa M (List.mem_of_mem_take hM)).2.2.2.2.2.2.1);have h2:(n.aa.take k).length<=4:=by rw[da];omega
  omega
 have e8:Zef ((0:Int),nt n ((A6 n n.aP.length).map bq,()))=some ((n6 n).map bq,()):=by
  unfold Zef;delta jO;refine cu (fun k:Nat=>((k:Int),nt n ((A6 n n.aP.length++M6 n k).map bq,()))) n.aa.length (by rw[show M6 n 0=[]from rfl,dF];rfl) ?_ ?_ (bt (by omega))
  .intro k hk;have hM:=aT hk;have hm:=hs.aa _ (List.getElem_mem hk);have hfit:=ft.aa.2 _ (List.getElem_mem hk);have e11:=ahK hM ⟨by omega,by omega⟩ hm.2.2.2.2.2.2.1 (fun r hr=>⟨(hfit.kM r hr).2.1,(hfit.kM r hr).2.2.1⟩) (by omega) (A6 n n.aP.length++M6 n k) (hlen k (by omega));unfold nt
   try dsimp only
   unfold E9;refine ao (ak (show(k:Int)<(((n.aa.map av).length:Nat):Int) by rw[aO];omega)) ((cw e11).trans ?_);have e:∀(p q:Int) (s s':List bh.T),p=q->s=s'->(some (.inl (p,nt n (s,()))):Option (TL EK.σs⊕Out ED))=some (.inl (q,nt n (s',()))):=by rintro _ _ _ _ rfl rfl;rfl
   exact e _ _ _ _ (bZ (x:=(k:Int)+1) (by omega)) (by rw[agY hM,cN]<;>rfl)
  .unfold nt
   try dsimp only
   unfold E9;exact ag (aA (show ¬(n.aa.length:Int)<(((n.aa.map av).length:Nat):Int) by rw[aO];omega)) rfl
 exact af e3 (af e8 rfl)
theorem Yo{n:aD}{V:Nat}(hs:cO n V)(ft:Fit n)(h0:dM n=0) :
  Zfg (bz n,())=some (if fh (bc n) V then(iB (bc n) ((n6 n).length+1) (jf (bc n) V),(true,()))else([],(false,()))):=by
 have hV2:=hs.v2;have h6:=pJ hs;have es:uc (bz n,())=some (dM n,()):=by unfold uc mw;rw[show fx ((bz n,()):TL [ba]).1=n from oq n,Az ft];rfl
 have eN:=acL hs ft;have hw:IntKind.wrap (.i64:IntKind) (n.vars+1)=((V+1:Nat):Int):=by rw[hs.vars,bZ (by omega)];omega
 have e6:=ajc h6 (List.replicate (V+1) 0) (by simp);rw[sW]at e6;have hout:cV (List.replicate (V+1) 0) ((bc n).flatMap (·.to)) (-1)=jf (bc n) V:=rfl;rw[hout]at e6;have hol:(jf (bc n) V).length=V+1:=by unfold jf;rw[kW];simp
 have hob:∀u,aF (jf (bc n) V) u<=0:=by unfold jf;refine Rx (l:=List.replicate (V+1) 0) (by omega) _ (fun u=>?_);unfold aF;rw[dC,List.getElem?_replicate];split<;>simp
 have e14:=ais h6 (jf (bc n) V) hol hob;rw[sW]at e14;have hNl:(n6 n).length=(bc n).length:=by rw[<-sW,aO]
 have ht:=aj3 hs.apart hs.aY hs.eH;rw[<-hNl]at ht;have hle:=RP (bc n) (iB (bc n) (n6 n).length (jf (bc n) V));show P8 Pn Zam uc PK EP PI EL Es (bz n)=_;unfold P8;refine(cw es).trans (ag (by rw[h0];rfl) ?_);have hw':IntKind.wrap (.i64:IntKind) (@HAdd.hAdd Int Int Int _ (bz n).1 (1:Int))=((V+1:Nat):Int):=hw;rw[hw'];refine ai (by show both (decide _) (both (decide _) (decide _))=true;rw[bg (by omega),bg (by omega),bg (by show(8:Int)*_<=_;omega)];rfl) ((cw eN).trans ((cw e6).trans ((cw e14).trans ?_)));by_cases ha:fh (bc n) V=true
 .have hz:=ht.2 ha;rw[if_pos ha];refine ag (aA (by show ¬(0:Int)<((iF (bc n) (iB (bc n) (n6 n).length (jf (bc n) V)):Nat):Int);rw[hz];omega)) rfl
 .have hz:iF (bc n) (iB (bc n) (n6 n).length (jf (bc n) V))≠0:=fun h=>ha (ht.1 h);rw[if_neg ha];refine ao (ak (by show(0:Int)<((iF (bc n) (iB (bc n) (n6 n).length (jf (bc n) V)):Nat):Int);omega)) rfl
theorem Ge{n:aD}(ft:Fit n):Zb7 (bz n,())=some (dD n,()):=by
 have es:uc (bz n,())=some (dM n,()):=by unfold uc mw;rw[show fx ((bz n,()):TL [ba]).1=n from oq n,Az ft];rfl
 by_cases h0:dM n=0
 .obtain⟨V,hs⟩:=pS h0;have hV:n.vars.toNat=V:=by rw[hs.vars];rfl
  have eL:=Yo hs ft h0;unfold dD;rw[h0,hV,if_neg (by simp)];by_cases ha:fh (bc n) V=true
  .rw[if_pos ha]at eL;rw[if_pos ha];exact af es (ag (by rw[h0];rfl) (af eL (ag rfl rfl)))
  .rw[if_neg ha]at eL;rw[if_neg ha];exact af es (ag (by rw[h0];rfl) (af eL (ao rfl rfl)))
 .unfold dD;rw[if_pos h0];exact af es (ao (by simp[h0]) rfl)
