import Derived.Test.YtkcpdpplobhpaaaGreatJNd
set_option linter.unusedVariables false
set_option linter.unusedSimpArgs false
set_option linter.unnecessarySimpa false
section
namespace Go.Proofs.YtkcpdpplobhpaaaGreat.Pl
structure bz where
 rd:Bool
 mem:Nat
 pos:Nat
structure bp where
 to:List Int
 aS:List Int
def oV(a:eK):bp:=⟨[a.var],[a.a,a.b]⟩
def oL(word:Int)(r:mJ):bp:=⟨cM r.var word.toNat,r.addr⟩
def jC(m:bC):List bp:=m.reads.map (oL m.word)
def fh(n:ax):List bp:=n.aM.map oV++n.aa.flatMap jC
def iw(k:Nat)(m:bC):List bz:=(List.range m.reads.length).map fun i=>⟨true,k,i⟩
def iU(k:Nat):List bC->List bz
 |[]=>[]|m::l=>iw k m++iU (k+1) l
def dG(n:ax):List bz:=(List.range n.aM.length).map (fun i=>⟨false,0,i⟩)++iU 0 n.aa
def bz.is(n:ax)(x:bz)(i:bp):Prop:=(x.rd=false/\∃a,n.aM[x.pos]?=some a/\i=oV a)\/(x.rd=true/\∃m r,n.aa[x.mem]?=some m/\m.reads[x.pos]?=some r/\i=oL m.word r)
theorem ac9(n:List bC):∀(l:List bC) (k:Nat),(∀j,l[j]?=n[k+j]?)->∀(i:Nat) (x:bz),(iU k l)[i]?=some x->∃(m:bC) (r:mJ),n[x.mem]?=some m/\m.reads[x.pos]?=some r/\(l.flatMap jC)[i]?=some (oL m.word r)/\x.rd=true:=by
 intro l
 induction l with
 |nil=>intro k _ i x h;simp[iU]at h|cons m l ih=>
  intro k hk i x h;rw[iU]at h;rw[List.flatMap_cons];have hl1:(iw k m).length=m.reads.length:=by simp[iw]
  have hl2:(jC m).length=m.reads.length:=by simp[jC]
  by_cases hi:i<m.reads.length
  .rw[List.getElem?_append_left (by omega)]at h;rw[List.getElem?_append_left (by omega)];unfold iw at h;rw[List.getElem?_map,List.getElem?_range hi]at h;injection h with h;subst h;have:=hk 0;rw[Nat.add_zero]at this;refine⟨m,m.reads[i],by rw[<-this];rfl,List.getElem?_eq_getElem hi,?_,rfl⟩;unfold jC;rw[List.getElem?_map,List.getElem?_eq_getElem hi];rfl
  .rw[List.getElem?_append_right (by omega)]at h;rw[List.getElem?_append_right (by omega)];rw[hl1]at h;rw[hl2];exact ih (k+1) (fun j=>by have:=hk (j+1);rw[show k+1+j=k+(j+1) by omega,<-this];rfl) _ x h
theorem tc:∀(l:List bC) (k:Nat),(iU k l).length=(l.flatMap jC).length:=by
 intro l
 induction l with|nil=>intro k;rfl|cons m l ih=>intro k;rw[iU,List.flatMap_cons,List.length_append,List.length_append,ih];simp[iw,jC]
theorem Zuw(n:ax):(dG n).length=(fh n).length:=by unfold dG fh;simp only[List.length_append,tc];simp
theorem G0(n:ax){i:Nat}{x:bz}(h:(dG n)[i]?=some x):∃y,(fh n)[i]?=some y/\x.is n y:=by
 unfold dG at h;unfold fh;have hl1:((List.range n.aM.length).map (fun i=>(⟨false,0,i⟩:bz))).length=n.aM.length:=by simp
 have hl2:(n.aM.map oV).length=n.aM.length:=by simp
 by_cases hi:i<n.aM.length
 .rw[List.getElem?_append_left (by omega)]at h;rw[List.getElem?_append_left (by omega)];rw[List.getElem?_map,List.getElem?_range hi]at h;injection h with h;subst h;rw[List.getElem?_map,List.getElem?_eq_getElem hi];exact⟨_,rfl,.inl ⟨rfl,_,List.getElem?_eq_getElem hi,rfl⟩⟩
 .rw[List.getElem?_append_right (by omega)]at h;rw[List.getElem?_append_right (by omega)];rw[hl1]at h;rw[hl2];obtain⟨m,r,h1,h2,h3,h4⟩:=ac9 n.aa n.aa 0 (fun j=>by simp) _ x h;exact⟨_,h3,.inr ⟨h4,m,r,h1,h2,rfl⟩⟩
def bp.nd(x:bp):Nd:=⟨x.aS.map fun l=>(l / 2).toNat,x.to.map Int.toNat⟩
def aV(n:ax):List Nd:=(fh n).map bp.nd
theorem ahh{V:Int}:∀(l pre:List Int),pre.Nodup->(∀x∈pre,1<=x/\x<=V)->dup V pre l=0->(pre++l).Nodup/\∀x∈pre++l,1<=x/\x<=V:=by
 intro l
 induction l with
 |nil=>intro pre h1 h2 _;simpa using⟨h1,h2⟩|cons v l ih=>
  intro pre h1 h2 h;rw[dup]at h;by_cases ha:v<1\/V<v
  .rw[if_pos ha]at h;omega
  .rw[if_neg ha]at h;by_cases hc:pre.contains v=true
   .rw[if_pos hc]at h;omega
   .rw[if_neg hc]at h;have hn:v∉pre:=by simpa using hc
    have:=ih (pre++[v]) (by
     rw[List.nodup_append];exact⟨h1,by simp,fun a ha' b hb=>by simp at hb;subst hb;rintro rfl;exact hn ha'⟩) (fun x hx=>by
     rcases List.mem_append.1 hx with hx|hx
     .exact h2 x hx
     .simp at hx;subst hx;omega) h
    simpa using this
structure cq(n:ax)(V:Nat):Prop where
 vars:n.vars=(V:Int)
 v2:V<=2000
 nodup:(di n).Nodup
 OK:∀x∈di n,1<=x/\x<=(V:Int)
 lits:∀l∈dq n,0<=l/\l / 2<=(V:Int)
 aa:∀m∈n.aa,1<=m.addr/\m.addr<=62/\1<=m.word/\m.word<=64/\(∀r∈m.reads,(r.addr.length:Int)=m.addr)/\(∀x∈m.writes,(x.addr.length:Int)=m.addr/\(x.data.length:Int)=m.word)/\m.reads.length<=4/\m.writes.length<=4
 init:∀l∈n.au,0<=l.init/\l.init<=2
 lens:n.aJ.length<=2000/\n.au.length<=2000/\n.aM.length<=2000/\n.bJ.length+n.ba.length+n.constraints.length<=1000/\n.aa.length<=4
theorem any_false{α:Type}{p:α->Bool}{l:List α}(h:¬l.any p=true):∀x∈l,p x=false:=by
 intro x hx;cases hp:p x
 .rfl
 .exact absurd (List.any_eq_true.2 ⟨x,hx,hp⟩) h
theorem oP{n:ax}(h:dt n=0):∃V,cq n V:=by
 unfold dt at h;by_cases h1:jT n=true
 .rw[if_pos h1]at h;omega
 rw[if_neg h1]at h;by_cases h2:n.aa.any fL=true
 .rw[if_pos h2]at h;omega
 rw[if_neg h2]at h;by_cases h3:n.au.any iT=true
 .rw[if_pos h3]at h;omega
 rw[if_neg h3]at h;by_cases h4:dup n.vars [] (di n)≠0
 .rw[if_pos h4]at h;exact absurd h h4
 rw[if_neg h4]at h;by_cases h5:(dq n).any (kC n.vars)=true
 .rw[if_pos h5]at h;omega
 unfold jT at h1;rw[Bool.or_eq_true,not_or]at h1;obtain⟨h1a,h1b⟩:=h1;have h1a':¬(n.vars<0\/2000<n.vars\/2000<n.aJ.length\/2000<n.au.length\/2000<n.aM.length\/1000<n.bJ.length+n.ba.length+n.constraints.length\/4<n.aa.length):=by simpa using h1a
 obtain⟨V,hV⟩:=Int.eq_ofNat_of_zero_le (show 0<=n.vars by omega);obtain⟨d1,d2⟩:=ahh (V:=n.vars) (di n) [] (by simp) (by simp) (by omega);simp only[List.nil_append]at d1 d2;refine⟨V,hV,by omega,d1,fun x hx=>hV▸d2 x hx,fun l hl=>?_,fun m hm=>?_,fun l hl=>?_,⟨by omega,by omega,by omega,by omega,by omega⟩⟩
 .have:=any_false h5 l hl;unfold kC at this;have:¬(l<0\/n.vars<l / 2):=by simpa using this
  omega
 .have hw:=any_false h2 m hm;have hp:=any_false h1b m hm;unfold ig at hp;have hp:¬(4<m.reads.length\/4<m.writes.length):=by simpa using hp
  unfold fL at hw;rw[Bool.or_eq_false_iff,Bool.or_eq_false_iff]at hw;obtain⟨⟨w1,w2⟩,w3⟩:=hw;have w1:¬(m.addr<1\/62<m.addr\/m.word<1\/64<m.word):=by simpa using w1
  refine⟨by omega,by omega,by omega,by omega,fun r hr=>?_,fun x hx=>?_,by omega,by omega⟩
  .have:=any_false (p:=lP m) (by rw[w2];simp) r hr;unfold lP at this;simpa using this
  .have:=any_false (p:=kq m) (by rw[w3];simp) x hx;unfold kq at this;rw[Bool.or_eq_false_iff]at this;exact⟨by simpa using this.1,by simpa using this.2⟩
 .have:=any_false h3 l hl;unfold iT at this;have:¬(l.init<0\/2<l.init):=by simpa using this
  omega
theorem S3(n:ax):(fh n).flatMap bp.to=n.aM.map (·.var)++n.aa.flatMap nv:=by
 unfold fh;rw[List.flatMap_append];congr 1
 .induction n.aM with|nil=>rfl|cons a l ih=>rw[List.map_cons,List.flatMap_cons,ih];rfl
 .rw[List.flatMap_assoc];congr 1;funext m;unfold jC nv;rw[List.flatMap_map];rfl
theorem agf{α:Type}{f:α->List Int}:∀{l:List α},(l.flatMap f).Nodup->∀{i j:Nat}{x y:α}{v:Int},l[i]?=some x->l[j]?=some y->v∈f x->v∈f y->i=j:=by
 intro l
 induction l with
 |nil=>intro _ i j x y v h;simp at h|cons a l ih=>
  intro hn i j x y v hi hj hx hy;rw[List.flatMap_cons,List.nodup_append]at hn;obtain⟨h1,h2,h3⟩:=hn;cases i with
  |zero=>cases j with|zero=>rfl|succ j=>simp at hi hj;subst hi;exact absurd rfl (h3 v hx v (List.mem_flatMap.2 ⟨y,List.mem_of_getElem? hj,hy⟩))
  |succ i=>cases j with|zero=>simp at hi hj;subst hj;exact absurd rfl (h3 v hy v (List.mem_flatMap.2 ⟨x,List.mem_of_getElem? hi,hx⟩))|succ j=>simp at hi hj;rw[ih h2 hi hj hx hy]
section
variable{n:ax}{V:Nat}
theorem cq.aeI(s:cq n V):((fh n).flatMap bp.to).Nodup:=by rw[S3];have:=s.nodup;unfold di at this;rw[List.append_assoc,List.nodup_append]at this;have:=this.2.1;rw[List.nodup_append]at this |-;exact⟨this.2.1,this.1,fun a ha b hb e=>this.2.2 b hb a ha e.symm⟩
theorem cq.lO(s:cq n V){x:bp}(hx:x∈fh n){v:Int}(hv:v∈x.to):1<=v/\v<=(V:Int):=by have:v∈(fh n).flatMap bp.to:=List.mem_flatMap.2 ⟨x,hx,hv⟩;rw[S3]at this;refine s.OK v ?_;unfold di;rcases List.mem_append.1 this with h|h<;>simp[h]
theorem cq.Hg(s:cq n V){x:bp}(hx:x∈fh n){l:Int}(hl:l∈x.aS):0<=l/\l / 2<=(V:Int):=by
 refine s.lits l ?_;unfold fh at hx;unfold dq;rcases List.mem_append.1 hx with hx|hx
 .obtain⟨a,ha,rfl⟩:=List.mem_map.1 hx;have:l∈n.aM.flatMap l6:=List.mem_flatMap.2 ⟨a,ha,hl⟩;simp[this]
 .obtain⟨m,hm,hx⟩:=List.mem_flatMap.1 hx;obtain⟨r,hr,rfl⟩:=List.mem_map.1 hx;have:l∈n.aa.flatMap mX:=List.mem_flatMap.2 ⟨m,hm,by unfold mX;exact List.mem_append.2 (.inl (List.mem_flatMap.2 ⟨r,hr,hl⟩))⟩;simp[this]
theorem cq.Lz(s:cq n V){x:bp}(hx:x∈fh n):x.to≠[]:=by
 unfold fh at hx;rcases List.mem_append.1 hx with hx|hx
 .obtain⟨a,ha,rfl⟩:=List.mem_map.1 hx;simp[oV]
 .obtain⟨m,hm,hx⟩:=List.mem_flatMap.1 hx;obtain⟨r,hr,rfl⟩:=List.mem_map.1 hx;have:=(s.aa m hm).2.2.1;unfold oL cM;simp;omega
theorem G8{i:Nat}:(aV n)[i]?=((fh n)[i]?).map bp.nd:=by unfold aV;rw[List.getElem?_map]
theorem Uj{x:Nd}(h:x∈aV n):∃y∈fh n,x=y.nd:=by unfold aV at h;obtain⟨y,h1,h2⟩:=List.mem_map.1 h;exact⟨y,h1,h2.symm⟩
theorem cq.apart(s:cq n V):eF (aV n):=by
 intro i j x y v hi hj hx hy;rw[G8]at hi hj;obtain⟨x',hi',rfl⟩:=Option.map_eq_some_iff.1 hi;obtain⟨y',hj',rfl⟩:=Option.map_eq_some_iff.1 hj;obtain⟨a,ha,e1⟩:=List.mem_map.1 hx;obtain⟨b,hb,e2⟩:=List.mem_map.1 hy;have r1:=s.lO (List.mem_of_getElem? hi') ha;have r2:=s.lO (List.mem_of_getElem? hj') hb;have:a=b:=by omega
 subst this;exact agf s.aeI hi' hj' ha hb
theorem cq.aT(s:cq n V):∀x∈aV n,∀u∈x.aS,u<=V:=by intro x hx u hu;obtain⟨y,hy,rfl⟩:=Uj hx;obtain⟨l,hl,rfl⟩:=List.mem_map.1 hu;have:=s.Hg hy hl;omega
theorem cq.fB(s:cq n V):∀x∈aV n,x.to≠[]/\∀v∈x.to,v<=V:=by intro x hx;obtain⟨y,hy,rfl⟩:=Uj hx;refine⟨by have:=s.Lz hy;unfold bp.nd;simpa using this,fun v hv=>?_⟩;obtain⟨l,hl,rfl⟩:=List.mem_map.1 hv;have:=s.lO hy hl;omega
end
def cL(n:ax):Int:=if dt n≠0 then dt n else if eO (aV n) n.vars.toNat then 0 else 8
def zc(p:Nat->Bool):Nat->Nat
 |0=>0|k+1=>(if p k then 1 else 0)+zc p k
theorem SM{p q:Nat->Bool}:∀k,(∀v,v<k->p v=true->q v=true)->zc p k<=zc q k:=by
 intro k
 induction k with
 |zero=>intro _;exact Nat.le_refl _|succ k ih=>
  intro h;have h1:=ih fun v hv=>h v (by omega);have h2:=h k (by omega);simp only[zc];cases hp:p k
  .simp;omega
  .rw[h2 hp];simp;omega
theorem agc{p q:Nat->Bool}{v:Nat}:∀k,v<k->q v=true->p v=false->(∀v,v<k->p v=true->q v=true)->zc p k<zc q k:=by
 intro k
 induction k with
 |zero=>intro h;omega|succ k ih=>
  intro hv hq hp h;simp only[zc];by_cases e:v=k
  .subst e;have h1:=SM (p:=p) (q:=q) v fun v hv=>h v (by omega);rw[hq,hp];simp;omega
  .have h1:=ih (by omega) hq hp fun v hv=>h v (by omega);have h2:=h k (by omega);cases hp:p k
   .simp;omega
   .rw[h2 hp];simp;omega
def fresh(V:Nat)(m:List Int):Nat:=zc (fun v=>aB m v == 0) (V+1)
section
variable{N:List Nd}{V:Nat}{m lv m' lv' m'' lv'':List Int}
structure VI(N:List Nd)(V:Nat)(m lv:List Int):Prop where
 ml:m.length=V+1
 ll:lv.length=V+1
 kd:∀v,v<=V->aB m v=0\/aB m v=1\/aB m v=2
 vI:∀x∈N,∀u∈x.to,∀v∈x.to,aB m u=aB m v
 free:∀v,v<=V->(∀x∈N,v∉x.to)->aB m v=0/\aB lv v=0
 done:∀v,v<=V->aB m v=2->∃k:Nat,aB lv v=(k:Int)/\cK N v k
structure Ext(V:Nat)(m lv m' lv':List Int):Prop where
 a:∀u,u<=V->aB m u=1->aB m' u=1
 b:∀u,u<=V->aB m' u=1->aB m u=1
 c:∀u,u<=V->aB m u=2->aB m' u=2/\aB lv' u=aB lv u
theorem Ext.refl:Ext V m lv m lv:=⟨fun _ _ h=>h,fun _ _ h=>h,fun _ _ h=>⟨h,rfl⟩⟩
theorem Ext.trans(h:Ext V m lv m' lv')(k:Ext V m' lv' m'' lv''):Ext V m lv m'' lv'':=⟨fun u hu h1=>k.a u hu (h.a u hu h1),fun u hu h1=>h.b u hu (k.b u hu h1),fun u hu h1=>⟨(k.c u hu (h.c u hu h1).1).1,by rw[(k.c u hu (h.c u hu h1).1).2,(h.c u hu h1).2]⟩⟩
def tl(N:List Nd)(m:List Int)(u:Nat):Prop:=aB m u=2\/∀x∈N,u∉x.to
theorem GN(i:VI N V m lv)(i':VI N V m' lv')(h:Ext V m lv m' lv'){u:Nat}(hu:u<=V)(t:tl N m u):tl N m' u/\aB lv' u=aB lv u:=by
 rcases t with t|t
 .exact⟨.inl (h.c u hu t).1,(h.c u hu t).2⟩
 .exact⟨.inr t,by rw[(i.free u hu t).2,(i'.free u hu t).2]⟩
theorem zg(i:VI N V m lv){u:Nat}(hu:u<=V)(t:tl N m u):∃k:Nat,aB lv u=(k:Int)/\cK N u k:=by
 rcases t with t|t
 .exact i.done u hu t
 .exact⟨0,by rw[(i.free u hu t).2];rfl,.free u t⟩
theorem ahB(i:VI N V m lv)(i':VI N V m' lv')(h:Ext V m lv m' lv'):fresh V m'<=fresh V m:=by
 refine SM _ fun v hv hz=>?_;have hv:v<=V:=by omega
 have hz:aB m' v=0:=by simpa using hz
 rcases i.kd v hv with h0|h0|h0
 .simpa using h0
 .have:=h.a v hv h0;omega
 .have:=(h.c v hv h0).1;omega
theorem VI.under(ap:eF N)(i:VI N V m lv){x:Nd}(hx:x∈N)(fB:∀v∈x.to,v<=V){v:Nat}(hv:v∈x.to)(h0:aB m v=0):VI N V (cz m x.to 1) lv:=by
 refine⟨by rw[kK,i.ml],i.ll,fun u hu=>?_,fun y hy a ha b hb=>?_,fun u hu hf=>?_,fun u hu h2=>?_⟩
 .rw[ef];split
  .exact .inr (.inl rfl)
  .exact i.kd u hu
 .rw[ef,ef];by_cases e:y=x
  .subst e;rw[if_pos ⟨ha,by rw[i.ml];have:=fB a ha;omega⟩,if_pos ⟨hb,by rw[i.ml];have:=fB b hb;omega⟩]
  .rw[if_neg fun h=>e (ap.same hy hx ha h.1),if_neg fun h=>e (ap.same hy hx hb h.1)];exact i.vI y hy a ha b hb
 .rw[ef,if_neg fun h=>hf x hx h.1];exact i.free u hu hf
 .rw[ef]at h2;split at h2
  .omega
  .exact i.done u hu h2
theorem agM(i:VI N V m lv){x:Nd}(hx:x∈N){v:Nat}(hv:v∈x.to)(hV:v<=V)(h0:aB m v=0):fresh V (cz m x.to 1)<fresh V m:=by
 refine agc (v:=v) _ (by omega) (by simpa using h0) ?_ fun u hu hz=>?_
 .rw[ef,if_pos ⟨hv,by rw[i.ml];omega⟩];rfl
 .have hz:aB (cz m x.to 1) u=0:=by simpa using hz
  rw[ef]at hz;split at hz
  .omega
  .simpa using hz
theorem VI.close(ap:eF N)(i0:VI N V m lv){x:Nd}(hx:x∈N)(fB:∀v∈x.to,v<=V)(aT:∀u∈x.aS,u<=V){v:Nat}(hv:v∈x.to)(h0:aB m v=0)
  (i:VI N V m' lv') (h:Ext V (cz m x.to 1) lv m' lv') (ht:∀u∈x.aS,tl N m' u) {L:Int}(hL:L=((mx (x.aS.map fun u=>(aB lv' u).toNat):Nat):Int)) :
  VI N V (cz m' x.to 2) (cz lv' x.to (L+1))/\Ext V m lv (cz m' x.to 2) (cz lv' x.to (L+1))/\tl N (cz m' x.to 2) v:=by
 have hml:=i.ml;have hll:=i.ll;have hlev:∀u∈x.aS,cK N u (aB lv' u).toNat:=fun u hu=>by obtain⟨k,h1,h2⟩:=zg i (aT u hu) (ht u hu);rw[h1];simpa using h2
 have hm0:∀u∈x.to,aB m u=0:=fun u hu=>by rw[i0.vI x hx u hu v hv,h0]
 refine⟨⟨by rw[kK,hml],by rw[kK,hll],fun u hu=>?_,fun y hy a ha b hb=>?_,fun u hu hf=>?_,fun u hu h2=>?_⟩,⟨fun u hu h1=>?_,fun u hu h1=>?_,fun u hu h2=>?_⟩,?_⟩
 .rw[ef];split
  .exact .inr (.inr rfl)
  .exact i.kd u hu
 .rw[ef,ef];by_cases e:y=x
  .subst e;rw[if_pos ⟨ha,by rw[hml];have:=fB a ha;omega⟩,if_pos ⟨hb,by rw[hml];have:=fB b hb;omega⟩]
  .rw[if_neg fun h=>e (ap.same hy hx ha h.1),if_neg fun h=>e (ap.same hy hx hb h.1)];exact i.vI y hy a ha b hb
 .rw[ef,if_neg fun h=>hf x hx h.1,ef,if_neg fun h=>hf x hx h.1];exact i.free u hu hf
 .by_cases hux:u∈x.to
  .refine⟨mx (x.aS.map fun u=>(aB lv' u).toNat)+1,?_,.node x u _ hx hux hlev⟩;rw[ef,if_pos ⟨hux,by rw[hll];omega⟩,hL];rfl
  .rw[ef,if_neg fun h=>hux h.1]at h2;rw[ef,if_neg fun h=>hux h.1];exact i.done u hu h2
 .have hux:u∉x.to:=fun hux=>by have:=hm0 u hux;omega
  rw[ef,if_neg fun h=>hux h.1];refine h.a u hu ?_;rw[ef,if_neg fun h=>hux h.1];exact h1
 .rw[ef]at h1;split at h1
  .omega
  .rename_i hn;have hux:u∉x.to:=fun hux=>hn ⟨hux,by rw[hml];omega⟩;have:=h.b u hu h1
   rwa [ef,if_neg fun h=>hux h.1]at this
 .have hux:u∉x.to:=fun hux=>by have:=hm0 u hux;omega
  have:=h.c u hu (by rw[ef,if_neg fun h=>hux h.1];exact h2);rw[ef,if_neg fun h=>hux h.1,ef,if_neg fun h=>hux h.1];exact this
 .refine .inl ?_;rw[ef,if_pos ⟨hv,by rw[hml];have:=fB v hv;omega⟩]
theorem ahJ{x:Nd}(hx:x∈N){v l:Nat}(hv:v∈x.to)(hl:l∈x.aS)(hd:∀u,u<=V->aB m u=1->k9 N u v):∀u,u<=V->aB (cz m x.to 1) u=1->k9 N u l:=by
 intro u hu h;rw[ef]at h;split at h
 .rename_i hc;exact .one x u l hx hc.1 hl
 .exact .more x u v l (hd u hu h) hx hv hl
theorem vi0:VI N V (List.replicate (V+1) 0) (List.replicate (V+1) 0):=by
 have hz:∀v,aB (List.replicate (V+1) 0) v=0:=fun v=>by unfold aB;rw[List.getD_eq_getElem?_getD,List.getElem?_replicate];split<;>rfl
 exact⟨by simp,by simp,fun v _=>.inl (hz v),fun x _ u _ v _=>by rw[hz,hz],fun v _ _=>⟨hz v,hz v⟩,fun v _ h=>by rw[hz]at h;omega⟩
def fb(N:List Nd)(V:Nat):Nat->List Int
 |0=>List.replicate (V+1) 0|k+1=>match N[k]? with|some x=>cz (fb N V k) x.to ((k:Int)+1)|none=>fb N V k
theorem DD(N:List Nd)(V:Nat):∀k,(fb N V k).length=V+1:=by
 intro k
 induction k with|zero=>simp[fb]|succ k ih=>rw[fb];cases N[k]?<;>simp[kK,ih]
theorem TJ{k:Nat}{x:Nd}(h:N[k]?=some x):fb N V (k+1)=cz (fb N V k) x.to ((k:Int)+1):=by rw[fb,h]
theorem afe(ap:eF N)(fB:∀x∈N,∀v∈x.to,v<=V):∀k v,v<=V->(aB (fb N V k) v=0/\∀i x,i<k->N[i]?=some x->v∉x.to)\/∃i x,i<k/\N[i]?=some x/\v∈x.to/\aB (fb N V k) v=(i:Int)+1:=by
 intro k
 induction k with
 |zero=>intro v _;left;refine⟨?_,fun i x h=>by omega⟩;unfold fb aB;rw[List.getD_eq_getElem?_getD,List.getElem?_replicate];split<;>rfl|succ k ih=>
  intro v hv;cases hk:N[k]? with
  |none=>
   rw[fb,hk];rcases ih v hv with⟨h1,h2⟩|⟨i,x,h1,h2,h3,h4⟩
   .left;refine⟨h1,fun i x hi hx=>?_⟩;by_cases e:i=k
    .subst e;rw[hk]at hx;cases hx
    .exact h2 i x (by omega) hx
   .exact .inr ⟨i,x,by omega,h2,h3,h4⟩
  |some y=>
   rw[TJ hk,ef];by_cases hvy:v∈y.to
   .rw[if_pos ⟨hvy,by rw[DD];omega⟩];exact .inr ⟨k,y,by omega,hk,hvy,rfl⟩
   .rw[if_neg fun h=>hvy h.1];rcases ih v hv with⟨h1,h2⟩|⟨i,x,h1,h2,h3,h4⟩
    .left;refine⟨h1,fun i x hi hx=>?_⟩;by_cases e:i=k
     .subst e;rw[hk]at hx;injection hx with hx;subst hx;exact hvy
     .exact h2 i x (by omega) hx
    .exact .inr ⟨i,x,by omega,h2,h3,h4⟩
theorem afU(ap:eF N)(fB:∀x∈N,∀v∈x.to,v<=V){v:Nat}(hv:v<=V):(aB (fb N V N.length) v=0/\∀x∈N,v∉x.to)\/∃(i:Nat) (x:Nd),N[i]?=some x/\v∈x.to/\aB (fb N V N.length) v=(i:Int)+1:=by
 rcases afe ap fB N.length v hv with⟨h1,h2⟩|⟨i,x,h1,h2,h3,h4⟩
 .left;refine⟨h1,fun x hx=>?_⟩;obtain⟨i,hi,rfl⟩:=List.getElem_of_mem hx;exact h2 i _ hi (List.getElem?_eq_getElem hi)
 .exact .inr ⟨i,x,h2,h3,h4⟩
theorem agp{l:List Nat}{k u:Nat}{f:Nat->Nat}(h:l[k]?=some u):mx ((l.take (k+1)).map f)=max (mx ((l.take k).map f)) (f u):=by rw[dm h,List.map_append];exact aei _ _
end
end Go.Proofs.YtkcpdpplobhpaaaGreat.Pl
end
section
namespace Go.Proofs.YtkcpdpplobhpaaaGreat.V
open Go Go.RowKit Go.Proofs.YtkcpdpplobhpaaaGreat.Pl
theorem Zz0(v:Int)(k:Nat):cM v (k+1)=cM v k++[v+(k:Int)]:=by unfold cM;rw[List.range_succ,List.map_append];rfl
theorem tg(v:Int)(k:Nat):(cM v k).length=k:=by simp[cM]
theorem Tt(m:bC)(i:Nat)(r:mJ)(hr:m.reads[i]?=some r)(hw:0<=m.word/\m.word<=4000)(hv:-1099511627776<=r.var/\r.var<=1099511627776) :
  Nr (aq m,((i:Int),()))=some (cM r.var m.word.toNat,()):=by
 obtain⟨W,hW⟩:=Int.eq_ofNat_of_zero_le hw.1;have hi:=dy hr;have hr':(m.reads.map dv)[i]?=some (dv r):=by rw[List.getElem?_map,hr];rfl
 have hL:Nl ((i:Int),(m.word,((0:Int),(m.addr,(m.word,(m.any,(m.reads.map dv,(m.writes.map dK,([],())))))))))=some (cM r.var m.word.toNat,()):=by
  unfold Nl;delta u9;rw[hW,Int.toNat_natCast];refine tE (fun k:Nat=>((i:Int),((W:Int),((k:Int),(m.addr,((W:Int),(m.any,(m.reads.map dv,(m.writes.map dK,(cM r.var k,())))))))))) W ?_ ?_ NN (bA (by omega))
  .intro k hk
   try dsimp only
   unfold DA;rw[ib (aj (by omega)),dI (aN ⟨by omega,by rw[List.length_map];omega⟩),dI (kr (by simp[tg];omega) (by simp[tg];omega)),bn hr',show(dv r).1=r.var from rfl];rw[bK (x:=r.var+(k:Int)) (by omega),bK (x:=(k:Int)+1) (by omega),Zz0];rfl
  .try dsimp only
   unfold DA;rw[fe (av (by omega))];rfl
 show NQ Nl (aq m) (i:Int)=_;unfold NQ;rw[fe (av (by omega)),Lw,fe (av (by simp only[aq,List.length_map,Int.ofNat_eq_natCast];omega))];exact(bT hL).trans rfl
def cY(x:bz):ah.T:=(x.rd,((x.mem:Int),((x.pos:Int),())))
abbrev WT:=Int×List Int×List ae.T×List Int×List Int×List Int×List ab.T×List ae.T×List Int×List ah.T×List Int×List Int×Unit
def lJ(n:ax)(of:List Int)(nd:List bz)(m lv:List Int):WT:=(n.vars,(n.aJ,(n.au.map bL,(n.bJ,(n.ba,(n.constraints,(n.aa.map aq,(n.aM.map dj,(of,(nd.map cY,(m,(lv,()))))))))))))
theorem adW{n:ax}{of m lv:List Int}{nd:List bz}{x:bz}{i:bp}(h:x.is n i):ZL (x.rd,((x.mem:Int),((x.pos:Int),lJ n of nd m lv)))=some (i.aS,lJ n of nd m lv):=by
 show MV x.rd (x.mem:Int) (x.pos:Int) n.vars n.aJ (n.au.map bL) n.bJ n.ba n.constraints (n.aa.map aq) (n.aM.map dj) of (nd.map cY) m lv=_;unfold MV;rcases h with⟨h,a,ha,rfl⟩|⟨h,M,r,hM,hr,rfl⟩
 .have ha':(n.aM.map dj)[x.pos]?=some (dj a):=by rw[List.getElem?_map,ha];rfl
  have hl:=dy ha';rw[h,fe rfl,dI (aN ⟨by omega,by omega⟩),bn ha'];rfl
 .have hM':(n.aa.map aq)[x.mem]?=some (aq M):=by rw[List.getElem?_map,hM];rfl
  have hr':(M.reads.map dv)[x.pos]?=some (dv r):=by rw[List.getElem?_map,hr];rfl
  have hl:=dy hM';have hl2:=dy hr';rw[h,ib rfl,dI (aN ⟨by omega,by omega⟩),bn hM',show(aq M).2.2.2.1=M.reads.map dv from rfl,dI (aN ⟨by omega,by omega⟩),bn hr'];rfl
theorem SI{n:ax}{of m lv:List Int}{nd:List bz}{x:bz}{i:bp}(h:x.is n i)(ft:Fit n)(hw:∀M∈n.aa,0<=M.word) :
  v7 (x.rd,((x.mem:Int),((x.pos:Int),lJ n of nd m lv)))=some (i.to,lJ n of nd m lv):=by
 show wx Nr x.rd (x.mem:Int) (x.pos:Int) n.vars n.aJ (n.au.map bL) n.bJ n.ba n.constraints (n.aa.map aq) (n.aM.map dj) of (nd.map cY) m lv=_;unfold wx;rcases h with⟨h,a,ha,rfl⟩|⟨h,M,r,hM,hr,rfl⟩
 .have ha':(n.aM.map dj)[x.pos]?=some (dj a):=by rw[List.getElem?_map,ha];rfl
  have hl:=dy ha';rw[h,fe rfl,dI (aN ⟨by omega,by omega⟩),bn ha'];rfl
 .have hM':(n.aa.map aq)[x.mem]?=some (aq M):=by rw[List.getElem?_map,hM];rfl
  have hl:=dy hM';have hmem:=List.mem_of_getElem? hM;have hf:=ft.aa.2 M hmem;have hr2:=hf.jW r (List.mem_of_getElem? hr);rw[h,ib rfl,dI (aN ⟨by omega,by omega⟩),bn hM'];exact(bT (Tt M x.pos r hr ⟨hw M hmem,hf.word.2⟩ ⟨hr2.2.1,hr2.2.2.1⟩)).trans rfl
theorem Um{n:ax}{of m lv:List Int}{nd:List bz}{V:Nat}(a:Int)(vs:List Int)(hln:vs.length<=100000)(hvs:∀v∈vs,0<=v/\v<=(V:Int))(hm:m.length=V+1) :
  ZJ (a,(vs,lJ n of nd m lv))=some (vs,lJ n of nd (cz m (vs.map Int.toNat) a) lv):=by
 have hL:Mn (a,(vs,((vs.length:Int),((0:Int),(vs,lJ n of nd m lv)))))=some (vs,lJ n of nd (cz m (vs.map Int.toNat) a) lv):=by
  unfold Mn;delta mH;refine tE (fun k:Nat=>(a,(vs,((vs.length:Int),((k:Int),(vs,lJ n of nd (cz m ((vs.take k).map Int.toNat) a) lv)))))) vs.length ?_ ?_ NN (bA (by omega))
  .intro k hk;unfold lJ
   try dsimp only
   unfold CW;have hv:=List.getElem?_eq_getElem hk;obtain⟨h0,h1⟩:=hvs _ (List.getElem_mem hk);obtain⟨v,hv2⟩:=Int.eq_ofNat_of_zero_le h0;rw[hv2]at hv h1;rw[ib (aj (by omega)),dI (aN ⟨by omega,by omega⟩),bn (σ:=.int .i64) hv,dI (aN ⟨by omega,by rw[kK,hm];omega⟩),bK (x:=(k:Int)+1) (by omega)];rw[dm hv,List.map_append,List.map_cons,List.map_nil,wI];rfl
  .unfold lJ
   try dsimp only
   unfold CW;rw[fe (av (by omega)),List.take_length];rfl
 show MC Mn a vs n.vars n.aJ (n.au.map bL) n.bJ n.ba n.constraints (n.aa.map aq) (n.aM.map dj) of (nd.map cY) m lv=_;unfold MC;exact(bT hL).trans rfl
end Go.Proofs.YtkcpdpplobhpaaaGreat.V
end
section
namespace Go.Proofs.YtkcpdpplobhpaaaGreat.Pl
theorem uQ{l:List Int}{v:Nat}(h:v<l.length):l[v]?=some (aB l v):=by unfold aB;rw[List.getD_eq_getElem?_getD,List.getElem?_eq_getElem h];rfl
theorem adV{n:ax}{V:Nat}(hs:cq n V){y:bp}(hy:y∈fh n){k:Nat}{l:Int}(h:y.aS[k]?=some l):∃u:Nat,l / 2=(u:Int)/\u<=V/\y.nd.aS[k]?=some u/\0<=l/\l<=2*V+1:=by have:=hs.Hg hy (List.mem_of_getElem? h);refine⟨(l / 2).toNat,by omega,by omega,?_,by omega,by omega⟩;unfold bp.nd;rw[List.getElem?_map,h];rfl
theorem DI{n:ax}{V:Nat}(hs:cq n V){y:bp}(hy:y∈fh n):y.to.length<=64/\y.aS.length<=62:=by
 unfold fh at hy;rcases List.mem_append.1 hy with hy|hy
 .obtain⟨a,ha,rfl⟩:=List.mem_map.1 hy;simp[oV]
 .obtain⟨m,hm,hy⟩:=List.mem_flatMap.1 hy;obtain⟨r,hr,rfl⟩:=List.mem_map.1 hy;have h1:=hs.aa m hm;have h2:=h1.2.2.2.2.1 r hr;unfold oL cM;simp;omega
theorem aeh{N:List Nd}{V:Nat}{m lv m' lv':List Int}(i:VI N V m lv)(i':VI N V m' lv')(h:Ext V m lv m' lv'){l:List Nat}(hl:∀u∈l,u<=V)(ht:∀u∈l,tl N m u) :
  mx (l.map fun u=>(aB lv' u).toNat)=mx (l.map fun u=>(aB lv u).toNat):=by
 rw[Zti fun u hu=>by rw[(GN i i' h (hl u hu) (ht u hu)).2]]
theorem ae4{N:List Nd}(ap:eF N){V:Nat}{m lv:List Int}(i:VI N V m lv){l:List Nat}(hl:∀u∈l,u<=V)(ht:∀u∈l,tl N m u):mx (l.map fun u=>(aB lv u).toNat)<=N.length:=by refine SB fun z hz=>?_;obtain⟨u,hu,rfl⟩:=List.mem_map.1 hz;obtain⟨k,h1,h2⟩:=zg i (hl u hu) (ht u hu);rw[h1];have:=h2.le ap;simpa using this
theorem y8{α β:Type}(f:α->List β):∀(l:List α) (k:Nat),(∀x∈l,(f x).length<=k)->(l.flatMap f).length<=l.length*k:=by
 intro l k
 induction l with|nil=>intro _;simp|cons x l ih=>intro h;rw[List.flatMap_cons,List.length_append,List.length_cons,Nat.succ_mul];have h1:=ih fun y hy=>h y (by simp[hy]);have h2:=h x (by simp);omega
theorem Og{n:ax}{V:Nat}(hs:cq n V):(aV n).length<=3000:=by unfold aV fh;rw[List.length_map,List.length_append,List.length_map];have h1:=hs.lens;have h2:=y8 jC n.aa 4 (fun m hm=>by unfold jC;rw[List.length_map];exact(hs.aa m hm).2.2.2.2.2.2.1);omega
end Go.Proofs.YtkcpdpplobhpaaaGreat.Pl
end
section
namespace Go.Proofs.YtkcpdpplobhpaaaGreat.V
open Go Go.RowKit Go.Proofs.YtkcpdpplobhpaaaGreat.Pl
theorem Tv(l:Int):wt (l,())=some (l / 2,()):=by show NR l=_;unfold NR;rw[Int.fdiv_eq_ediv_of_nonneg _ (by decide)];rfl
theorem Zwy{l q:Int}(h:l / 2=q):wt (l,())=some (q,()):=by rw[Tv,h]
def agd(n:ax)(V:Nat)(m lv:List Int)(v:Nat)(b:Bool)(m' lv':List Int):Prop:=(b=true/\VI (aV n) V m' lv'/\Ext V m lv m' lv'/\tl (aV n) m' v)\/(b=false/\∃u,u<=V/\∀k,¬cK (aV n) u k)
def wk(n:ax)(V:Nat)(m lv:List Int):WT:=lJ n (fb (aV n) V (aV n).length) (dG n) m lv
abbrev WV:=Int×List Int×List ae.T×List Int×List Int×List Int×List ab.T×List ae.T×List Int×List ah.T×List Int×List Int×List Int×Unit
def wv(n:ax)(V:Nat)(m lv vs:List Int):WV:=(n.vars,(n.aJ,(n.au.map bL,(n.bJ,(n.ba,(n.constraints,(n.aa.map aq,(n.aM.map dj,(fb (aV n) V (aV n).length,((dG n).map cY,(m,(lv,(vs,())))))))))))))
theorem ae7{n:ax}{V:Nat}{F:TL LK.σs->Option (Out Cj)}(L:Nat)(hL:L<=3000)(m lv vs:List Int)(hln:vs.length<=100000)(hvs:∀v∈vs,0<=v/\v<=(V:Int))(hm:lv.length=V+1) :
  Mp F ((L:Int),(vs,((vs.length:Int),((0:Int),wv n V m lv vs))))=some (wv n V m (cz lv (vs.map Int.toNat) ((L:Int)+1)) vs):=by
 unfold Mp;refine tE (fun k:Nat=>((L:Int),(vs,((vs.length:Int),((k:Int),wv n V m (cz lv ((vs.take k).map Int.toNat) ((L:Int)+1)) vs))))) vs.length ?_ ?_ NN (bA (by omega))
 .intro k hk;unfold wv
  try dsimp only
  unfold C3;have hv:=List.getElem?_eq_getElem hk;obtain⟨h0,h1⟩:=hvs _ (List.getElem_mem hk);obtain⟨v,hv2⟩:=Int.eq_ofNat_of_zero_le h0;rw[hv2]at hv h1;rw[ib (aj (by omega)),dI (aN ⟨by omega,by omega⟩),bn (σ:=.int .i64) hv,dI (aN ⟨by omega,by rw[kK,hm];omega⟩),bK (x:=(k:Int)+1) (by omega),bK (x:=(L:Int)+1) (by omega)];rw[dm hv,List.map_append,List.map_cons,List.map_nil,wI];rfl
 .unfold wv
  try dsimp only
  unfold C3;rw[fe (av (by omega)),List.take_length];rfl
theorem ady{n:ax}{V:Nat}(hs:cq n V)(ft:Fit n):∀(F:Nat) (m lv:List Int) (v:Nat),VI (aV n) V m lv->(∀u,u<=V->aB m u=1->k9 (aV n) u v)->v<=V->fresh V m<F ->
  ∃b m' lv',sX F ((v:Int),wk n V m lv)=some (b,wk n V m' lv')/\agd n V m lv v b m' lv':=by
 intro F
 induction F with
 |zero=>intro m lv v _ _ _ h;omega|succ F ih=>
  intro m lv v hI hD hv hF;have hV2:=hs.v2;have hnl:=Og hs;have hmw:∀M∈n.aa,0<=M.word:=fun M hM=>by have:=hs.aa M hM;omega
  obtain⟨of,hof⟩:∃of,of=fb (aV n) V (aV n).length:=⟨_,rfl⟩;have hofl:of.length=V+1:=by rw[hof];exact DD _ _ _
  have hofv:of[v]?=some (aB of v):=uQ (by omega);have hmv:m[v]?=some (aB m v):=uQ (by rw[hI.ml];omega);show ∃b m' lv',MS wt (sX F) ZL ZJ v7 (Mq (sX F)) (Mp (sX F)) (v:Int) n.vars n.aJ (n.au.map bL) n.bJ n.ba n.constraints (n.aa.map aq) (n.aM.map dj) (fb (aV n) V (aV n).length) ((dG n).map cY) m lv=_/\_;rw[<-hof];unfold MS;rw[dI (aN ⟨by omega,by omega⟩),bn (σ:=.int .i64) hofv];rcases afU hs.apart (fun x hx=>(hs.fB x hx).2) hv with⟨h1,h2⟩|⟨i,x,h1,h2,h3⟩
  .rw[<-hof]at h1;rw[h1,ib (aj rfl)];exact⟨true,m,lv,by rw[hof];rfl,.inl ⟨rfl,hI,Ext.refl,.inr h2⟩⟩
  rw[<-hof]at h3;rw[h3,fe (av (by omega)),dI (aN ⟨by omega,by rw[hI.ml];omega⟩),Lw,bn (σ:=.int .u8) hmv];rcases hI.kd v hv with hk|hk|hk
  .-- its node's literals
   subst hof;have hil:=dy h1;have hnl2:(dG n).length=(aV n).length:=by rw[Zuw];unfold aV;rw[List.length_map]
   obtain⟨xd,hxd⟩:∃xd,(dG n)[i]?=some xd:=⟨_,List.getElem?_eq_getElem (by omega)⟩;obtain⟨y,hy1,hy2⟩:=G0 n hxd;have hxy:x=y.nd:=by rw[G8,hy1]at h1;simpa using h1.symm
   subst hxy;have hy:=List.mem_of_getElem? hy1;have hx:=List.mem_of_getElem? h1;have hxd':((dG n).map cY)[i]?=some (cY xd):=by rw[List.getElem?_map,hxd];rfl
   have hvs:∀u∈y.to,0<=u/\u<=(V:Int):=fun u hu=>by have:=hs.lO hy hu;omega
   have hlens:=DI hs hy;have hfr:∀u∈y.nd.aS,u<=V:=fun u hu=>hs.aT _ hx u hu;have hI5:=hI.under hs.apart hx (fun u hu=>(hs.fB _ hx).2 u hu) h2 hk;rw[hk,fe (av (by omega)),dI (aN ⟨by omega,by rw[hI.ml];omega⟩),fe (av (by omega)),dI (aN ⟨by omega,by omega⟩)];rw[show((i:Int)+1-1)=(i:Int) by omega,bK (x:=(i:Int)) (by omega),dI (aN ⟨by omega,by rw[List.length_map];omega⟩),bn hxd'];have e1:=SI (of:=fb (aV n) V (aV n).length) (m:=m) (lv:=lv) (nd:=dG n) hy2 ft hmw;have e2:=Um (n:=n) (of:=fb (aV n) V (aV n).length) (nd:=dG n) (lv:=lv) 1 y.to (by omega) hvs hI.ml;have e3:=adW (n:=n) (of:=fb (aV n) V (aV n).length) (nd:=dG n) (m:=cz m (y.to.map Int.toNat) 1) (lv:=lv) hy2;have hL11:∃o,Mq (sX F) ((0:Int),(y.aS,((y.aS.length:Int),((0:Int),wv n V (cz m y.nd.to 1) lv y.to))))=some o /\
     ((∃m' lv',o=.inl (false,wk n V m' lv')/\∃u,u<=V/\∀k,¬cK (aV n) u k) \/
      ∃(m' lv':List Int) (L:Nat),o=.inr ((L:Int),wv n V m' lv' y.to)/\VI (aV n) V m' lv'/\Ext V (cz m y.nd.to 1) lv m' lv'/\(∀u∈y.nd.aS,tl (aV n) m' u)/\L=mx (y.nd.aS.map fun u=>(aB lv' u).toNat)):=by
    unfold Mq;refine lQ (fun d=>∃(k:Nat) (m' lv':List Int) (L:Nat),k<=y.aS.length/\d=((L:Int),(y.aS,((y.aS.length:Int),((k:Int),wv n V m' lv' y.to))))/\VI (aV n) V m' lv'/\Ext V (cz m y.nd.to 1) lv m' lv' /\
     (∀u∈y.nd.aS.take k,tl (aV n) m' u)/\L=mx ((y.nd.aS.take k).map fun u=>(aB lv' u).toNat)) _ (fun d=>y.aS.length-d.2.2.2.1.toNat) ?_ NN _ ⟨0,_,lv,0,Nat.zero_le _,rfl,hI5,Ext.refl,by simp,rfl⟩ (bA (by have:=hlens.2;omega))
    rintro d ⟨k,m',lv',L,hk',rfl,hI',hE',hT',hL⟩;unfold wv
    try dsimp only
    unfold Nb;by_cases hlt:k<y.aS.length
    .have hl:=List.getElem?_eq_getElem hlt;obtain⟨u,hu1,hu2,hu3,hl0,hl1⟩:=adV hs hy hl;have hlt2:fresh V m'<F:=by have h1:=ahB hI5 hI' hE';have h2:=agM hI hx h2 hv hk;omega
     have hdep:∀t,t<=V->aB m' t=1->k9 (aV n) t u:=fun t ht h=>ahJ hx h2 (List.mem_of_getElem? hu3) hD t ht (hE'.b t ht h);obtain⟨b,m2,lv2,g1,g2⟩:=ih m' lv' u hI' hdep hu2 hlt2;rw[ib (aj (by omega)),dI (aN ⟨by omega,by omega⟩),bn (σ:=.int .i64) hl];rcases g2 with⟨rfl,gI,gE,gT⟩|⟨rfl,u',hu',hno⟩
     .right;obtain⟨kk,hk1,hk2⟩:=zg gI hu2 gT;have hkl:=Nat.le_trans (hk2.le hs.apart) hnl;have hlu:lv2[u]?=some (kk:Int):=by rw[<-hk1];exact uQ (by rw[gI.ll];omega)
      have hT:∀u'∈y.nd.aS.take (k+1),tl (aV n) m2 u':=fun u' h'=>by
       rw[dm hu3]at h';rcases List.mem_append.1 h' with h'|h'
       .exact(GN hI' gI gE (hfr u' (List.mem_of_mem_take h')) (hT' u' h')).1
       .simp at h';subst h';exact gT
      have hmx:mx ((y.nd.aS.take (k+1)).map fun u=>(aB lv2 u).toNat)=max L kk:=by rw[agp hu3,aeh hI' gI gE (fun u hu=>hfr u (List.mem_of_mem_take hu)) hT',<-hL,hk1,Int.toNat_natCast]
      refine⟨((max L kk:Nat),(y.aS,((y.aS.length:Int),(((k+1:Nat):Int),wv n V m2 lv2 y.to)))),?_,⟨k+1,m2,lv2,max L kk,by omega,rfl,gI,hE'.trans gE,hT,hmx.symm⟩,?_⟩
      .refine(bT (Zwy hu1)).trans ((bT g1).trans ?_);refine(fe rfl).trans ((dI (aN ⟨by omega,by show(u:Int)<((List.length lv2:Nat):Int);rw[gI.ll];omega⟩)).trans ?_);have hsel:cQ (@decide _ (Int.decLt (L:Int) (gt (.int .i64) lv2 (u:Int)))) (gt (.int .i64) lv2 (u:Int)) (L:Int)=((max L kk:Nat):Int):=by
        rw[bn (σ:=.int .i64) hlu];unfold cQ;split
        .rename_i q;have q:=of_decide_eq_true q;have:max L kk=kk:=by omega
         rw[this]
        .rename_i q;have q:=of_decide_eq_false q;have:max L kk=L:=by omega
         rw[this]
       have e:∀a b a' b':Int,a=a'->b=b'->(some (.inl (a,(y.aS,((y.aS.length:Int),(b,wv n V m2 lv2 y.to))))):Option (TL CI.σs⊕Out CB))=some (.inl (a',(y.aS,((y.aS.length:Int),(b',wv n V m2 lv2 y.to))))):=by rintro _ _ _ _ rfl rfl;rfl
       exact e _ _ _ _ hsel (bK (x:=(k:Int)+1) (by omega))
      .show y.aS.length-((k+1:Nat):Int).toNat<y.aS.length-(k:Int).toNat;omega
     .left;refine⟨_,(bT (Zwy hu1)).trans ((bT g1).trans ?_),.inl ⟨m2,lv2,rfl,u',hu',hno⟩⟩;exact(ib rfl).trans rfl
    .left;have hlen:y.nd.aS.length<=k:=by unfold bp.nd;rw[List.length_map];omega
     rw[List.take_of_length_le hlen]at hT' hL;rw[fe (av (by omega))];exact⟨_,rfl,.inr ⟨m',lv',L,rfl,hI',hE',hT',hL⟩⟩
   obtain⟨o,ho,hcase⟩:=hL11;rcases hcase with⟨m',lv',rfl,u',hu',hno⟩|⟨m',lv',L,rfl,hI',hE',hT',hL⟩
   .refine⟨false,m',lv',?_,.inr ⟨rfl,u',hu',hno⟩⟩;refine(bT e1).trans ((bT e2).trans ((bT e3).trans ((bT ho).trans ?_)));rfl
   .have hmxl:L<=3000:=by rw[hL];exact Nat.le_trans (ae4 hs.apart hI' hfr hT') hnl
    have c:=hI.close hs.apart hx (fun u hu=>(hs.fB _ hx).2 u hu) hfr h2 hk hI' hE' hT' (L:=(L:Int)) (by rw[hL]);have e5:=ae7 (n:=n) (V:=V) (F:=sX F) L hmxl m' lv' y.to (by omega) hvs hI'.ll;have e6:=Um (n:=n) (of:=fb (aV n) V (aV n).length) (nd:=dG n) (lv:=cz lv' (y.to.map Int.toNat) ((L:Int)+1)) 2 y.to (by omega) hvs hI'.ml;refine⟨true,cz m' y.nd.to 2,cz lv' y.nd.to ((L:Int)+1),?_,.inl ⟨rfl,c.1,c.2.1,c.2.2⟩⟩;refine(bT e1).trans ((bT e2).trans ((bT e3).trans ((bT ho).trans ((bT e5).trans ?_))));exact(bT e6).trans rfl
  .rw[hk,fe (av (by omega)),dI (aN ⟨by omega,by rw[hI.ml];omega⟩),ib (aj rfl)];exact⟨false,m,lv,by rw[hof];rfl,.inr ⟨rfl,v,hv,fun k=>k9.none hs.apart (hD v hv hk) k⟩⟩
  .rw[hk,ib (aj rfl)];exact⟨true,m,lv,by rw[hof];rfl,.inl ⟨rfl,hI,Ext.refl,.inl hk⟩⟩
theorem acJ(m:bC)(i:Nat)(r:mJ)(hr:m.reads[i]?=some r)(hw:0<=m.word/\m.word<=4000)(hv:-1099511627776<=r.var/\r.var<=1099511627776) :
  ZK (aq m,((i:Int),()))=some (cM r.var m.word.toNat,()):=by
 obtain⟨W,hW⟩:=Int.eq_ofNat_of_zero_le hw.1;have hi:=dy hr;have hr':(m.reads.map dv)[i]?=some (dv r):=by rw[List.getElem?_map,hr];rfl
 have hL:Mw ((i:Int),((0:Int),(m.addr,(m.word,(m.any,(m.reads.map dv,(m.writes.map dK,([],()))))))))=some (cM r.var m.word.toNat,()):=by
  unfold Mw;delta u8;rw[hW,Int.toNat_natCast];refine tE (fun k:Nat=>((i:Int),((k:Int),(m.addr,((W:Int),(m.any,(m.reads.map dv,(m.writes.map dK,(cM r.var k,()))))))))) W ?_ ?_ NN (bA (by omega))
  .intro k hk
   try dsimp only
   unfold Dc;rw[ib (aj (by omega)),dI (aN ⟨by omega,by rw[List.length_map];omega⟩),dI (kr (by simp[tg];omega) (by simp[tg];omega)),bn hr',show(dv r).1=r.var from rfl];rw[bK (x:=r.var+(k:Int)) (by omega),bK (x:=(k:Int)+1) (by omega),Zz0];rfl
  .try dsimp only
   unfold Dc;rw[fe (av (by omega))];rfl
 show MT Mw (aq m) (i:Int)=_;unfold MT;rw[fe (av (by omega)),Lw,fe (av (by simp only[aq,List.length_map,Int.ofNat_eq_natCast];omega))];exact(bT hL).trans rfl
theorem aeR{l:Int}(h:0<=l/\l<=1000000){u:Nat}(hu:l / 2=(u:Int)):wb (l,())=some ((u:Int),()):=by show Na l=_;unfold Na;rw[Int.tdiv_eq_ediv_of_nonneg h.1,hu,bK (by omega)];rfl
def mC(L:List Int)(i:Int):Int:=gt (.int .i64) L i
theorem uO{L:List Int}{i:Nat}{x:Int}(h:L[i]?=some x):mC L (i:Int)=x:=bn (σ:=.int .i64) h
def cF(x:bz×bp):dp.T:=(x.1.rd,((x.1.mem:Int),((x.1.pos:Int),(x.2.aS,(x.2.to,())))))
theorem ac4{V:Nat}{B:Int}(x:bz×bp)(out:List Int)(hB:∀u,u<=V->aB out u<=B)(hB0:0<=B/\B<=1000000000000)(hl:out.length=V+1)(hV:V<=2000)
  (hf:∀l∈x.2.aS,0<=l/\l<=2*(V:Int)+1) (hfl:x.2.aS.length<=100000):LP (cF x,(out,()))=some (eH out x.2.nd.aS 0,()):=by
 have hfr:∀k,x.2.nd.aS.drop k=(x.2.aS.drop k).map fun l=>(l / 2).toNat:=fun k=>by unfold bp.nd;rw[List.map_drop]
 have hL:=lQ (B:=fun d=>Ng wb d.1 d.2.1 d.2.2.1 d.2.2.2.1 d.2.2.2.2.1 d.2.2.2.2.2.1 d.2.2.2.2.2.2.1 d.2.2.2.2.2.2.2.1)
  (I:=fun d:TL wa.σs=>∃(k:Nat) (n:Int),d=(out,(n,((k:Int),cF x)))/\k<=x.2.aS.length/\0<=n/\n<=B/\eH out (x.2.nd.aS.drop k) n=eH out x.2.nd.aS 0)
  (Q:=fun o:Out v8=>(o=.inl ((-1:Int),())/\eH out x.2.nd.aS 0 = -1)\/∃n:Int,o=.inr (n,())/\n<=B/\0<=n/\eH out x.2.nd.aS 0=n+1)
  (μ:=fun d=>x.2.aS.length-d.2.2.1.toNat) ?_ NN (out,((0:Int),((0:Int),cF x))) ⟨0,0,rfl,by omega,by omega,hB0.1,by rw[List.drop_zero]⟩ (bA (by show _-_<=_;omega))
 .obtain⟨o,ho,hcase⟩:=hL;have ho':Zfs (out,((0:Int),((0:Int),cF x)))=some o:=ho;rcases hcase with⟨rfl,h⟩|⟨n,rfl,hn,hn0,h⟩
  .rw[h];exact ag ho' rfl
  .rw[h];have e:∀a b:Int,a=b->(some (a,()):Option (Int×Unit))=some (b,()):=by rintro _ _ rfl;rfl
   exact ag ho' (e _ _ (bK (x:=n+1) (by omega)))
 .rintro _ ⟨k,n,rfl,hk,h0,hn,hr⟩;by_cases hlt:k<x.2.aS.length
  .have hg:=List.getElem?_eq_getElem hlt;obtain⟨a1,a2⟩:=hf _ (List.getElem_mem hlt);obtain⟨u,hu⟩:=Int.eq_ofNat_of_zero_le (show 0<=x.2.aS[k] / 2 by omega);have huV:u<=V:=by omega
   have hlu:out[u]?=some (aB out u):=by unfold aB;rw[List.getD_eq_getElem?_getD,List.getElem?_eq_getElem (by omega)];rfl
   have e1:=aeR (l:=x.2.aS[k]) ⟨a1,by omega⟩ hu;have hdrop:x.2.nd.aS.drop k=u::x.2.nd.aS.drop (k+1):=by rw[hfr,hfr,List.drop_eq_getElem_cons hlt,List.map_cons,hu];rfl
   rw[hdrop,eH]at hr;by_cases hneg:aB out u<0
   .left;rw[if_pos hneg]at hr;refine⟨.inl ((-1:Int),()),?_,.inl ⟨rfl,hr.symm⟩⟩;refine ao (aj (show(k:Int)<((x.2.aS.length:Nat):Int) by omega)) (ak (aN ⟨show(0:Int)<=(k:Int) by omega,by show(k:Int)<((x.2.aS.length:Nat):Int);omega⟩) ?_);refine(bT (show wb (gt (.int .i64) x.2.aS (k:Int),())=some ((u:Int),()) by rw[bn (σ:=.int .i64) hg];exact e1)).trans ?_;refine ak (aN ⟨show(0:Int)<=(u:Int) by omega,by rw[hl];show(u:Int)<_;omega⟩) (ao (aj (show mC out (u:Int)<(0:Int) by rw[uO hlu];exact hneg)) rfl)
   .right;rw[if_neg hneg]at hr;have hBu:=hB u huV;refine⟨(out,((max n (aB out u):Int),(((k+1:Nat):Int),cF x))),?_,⟨k+1,max n (aB out u),rfl,by omega,by omega,by omega,hr⟩,?_⟩
    .refine ao (aj (show(k:Int)<((x.2.aS.length:Nat):Int) by omega)) (ak (aN ⟨show(0:Int)<=(k:Int) by omega,by show(k:Int)<((x.2.aS.length:Nat):Int);omega⟩) ?_);refine(bT (show wb (gt (.int .i64) x.2.aS (k:Int),())=some ((u:Int),()) by rw[bn (σ:=.int .i64) hg];exact e1)).trans ?_;refine ak (aN ⟨show(0:Int)<=(u:Int) by omega,by rw[hl];show(u:Int)<_;omega⟩) (af (av (show ¬mC out (u:Int)<(0:Int) by rw[uO hlu];exact hneg)) ?_);have e:∀a b a' b':Int,a=a'->b=b'->(some (.inl (out,(a,(b,cF x)))):Option (TL wa.σs⊕Out v8))=some (.inl (out,(a',(b',cF x)))):=by rintro _ _ _ _ rfl rfl;rfl
     refine e _ _ _ _ ?_ (bK (x:=(k:Int)+1) (by omega));show cQ (decide (n<mC out (u:Int))) (mC out (u:Int)) n=_;rw[uO hlu];unfold cQ;split
     .rename_i q;have q:=of_decide_eq_true q;show aB out u=_;omega
     .rename_i q;have q:=of_decide_eq_false q;show n=_;have q:¬n<aB out u:=q;omega
    .show x.2.aS.length-((k+1:Nat):Int).toNat<x.2.aS.length-(k:Int).toNat;omega
  .left;have hnil:x.2.nd.aS.drop k=[]:=by rw[hfr,List.drop_eq_nil_of_le (by omega)];rfl
   rw[hnil,eH]at hr;exact⟨.inr (n,()),af (av (show ¬(k:Int)<((x.2.aS.length:Nat):Int) by omega)) rfl,.inr ⟨n,rfl,hn,h0,hr.symm⟩⟩
theorem ag0(l:List Int)(vs ws:List Nat)(x:Int):cz l (vs++ws) x=cz (cz l vs x) ws x:=by simp[cz,List.foldl_append]
theorem Oh{l:List Int}{x B:Int}(hx:x<=B):∀(vs:List Nat) {l:List Int},(∀u,aB l u<=B)->∀u,aB (cz l vs x) u<=B
 |[],l,h,u=>h u|v::vs,l,h,u=>by
  have:cz l (v::vs) x=cz (l.set v x) vs x:=rfl;rw[this];refine Oh (l:=l) hx vs (fun u=>?_) u;rw[Uq];split
  .exact hx
  .exact h u
theorem Zyk{out:List Int}{B:Int}(hB:∀u,aB out u<=B):∀(us:List Nat) (n:Int),n<=B->0<=B->eH out us n<=B+1
 |[],n,h,h0=>by rw[eH];omega|u::us,n,h,h0=>by
  rw[eH];split
  .omega
  .exact Zyk hB us _ (by have:=hB u;omega) h0
structure N6(N:List (bz×bp))(V:Nat):Prop where
 v2:V<=2000
 len:N.length<=3000
 to:∀x∈N,x.2.to.length<=100000/\∀v∈x.2.to,0<=v/\v<=(V:Int)
 aS:∀x∈N,x.2.aS.length<=100000/\∀l∈x.2.aS,0<=l/\l<=2*(V:Int)+1
theorem afQ{N:List (bz×bp)}{V:Nat}(h6:N6 N V){i:Nat}{x:bz×bp}(hx:N[i]?=some x)(out:List Int)(hl:out.length=V+1) :
  CQ (N.map cF,((i:Int),((0:Int),(out,()))))=some (N.map cF,((i:Int),(cz out x.2.nd.to (-1),()))):=by
 have hx':(N.map cF)[i]?=some (cF x):=by rw[List.getElem?_map,hx];rfl
 have hi:=dy hx';obtain⟨h1,h2⟩:=h6.to x (List.mem_of_getElem? hx);unfold CQ;delta u4;refine cP (fun k:Nat=>(N.map cF,((i:Int),((k:Int),(cz out ((x.2.to.take k).map Int.toNat) (-1),()))))) x.2.to.length rfl ?_ ?_ (bA (by omega))
 .intro k hk;have hv:=List.getElem?_eq_getElem hk;obtain⟨v0,v1⟩:=h2 _ (List.getElem_mem hk);obtain⟨v,hv2⟩:=Int.eq_ofNat_of_zero_le v0;rw[hv2]at hv v1
  try dsimp only
  unfold C1;rw[dI (aN ⟨by omega,by omega⟩),bn hx'];refine ao (aj (show(k:Int)<((x.2.to.length:Nat):Int) by omega)) (ak (aN ⟨by omega,by omega⟩) (ak (aN ⟨show(0:Int)<=(k:Int) by omega,show(k:Int)<((x.2.to.length:Nat):Int) by omega⟩) ?_));have hg:mC x.2.to (k:Int)=(v:Int):=uO hv;refine ak (show aw (mC x.2.to (k:Int)) (List.length (cz out ((x.2.to.take k).map Int.toNat) (-1)))=true by rw[hg];exact aN ⟨by omega,by rw[kK,hl];omega⟩) ?_;have e:∀(a a':Int) (b b':List Int),a=a'->b=b'->(some (.inl (N.map cF,((i:Int),(a,(b,()))))):Option (TL Cr.σs⊕Out Cn))=some (.inl (N.map cF,((i:Int),(a',(b',()))))):=by rintro _ _ _ _ rfl rfl;rfl
  refine e _ _ _ _ (bK (x:=(k:Int)+1) (by omega)) ?_;rw[dm hv,List.map_append,List.map_cons,List.map_nil,wI];show List.set (cz out ((x.2.to.take k).map Int.toNat) (-1)) (mC x.2.to (k:Int)).toNat (-1)=_;rw[hg]
 .try dsimp only
  unfold C1;rw[dI (aN ⟨by omega,by omega⟩),bn hx'];refine af (av (show ¬((x.2.to.length:Nat):Int)<((x.2.to.length:Nat):Int) by omega)) ?_;rw[List.take_length];rfl
theorem RO{N:List (bz×bp)}{V:Nat}(h6:N6 N V){i:Nat}{x:bz×bp}(hx:N[i]?=some x)(a b c:Int)(out:List Int)(hl:out.length=V+1) :
  Cv (N.map cF,(a,(b,((i:Int),(c,((0:Int),(out,())))))))=some (N.map cF,(a,(b,((i:Int),(cz out x.2.nd.to c,()))))):=by
 have hx':(N.map cF)[i]?=some (cF x):=by rw[List.getElem?_map,hx];rfl
 have hi:=dy hx';obtain⟨h1,h2⟩:=h6.to x (List.mem_of_getElem? hx);unfold Cv;delta u7;refine cP (fun k:Nat=>(N.map cF,(a,(b,((i:Int),(c,((k:Int),(cz out ((x.2.to.take k).map Int.toNat) c,())))))))) x.2.to.length rfl ?_ ?_ (bA (by omega))
 .intro k hk;have hv:=List.getElem?_eq_getElem hk;obtain⟨v0,v1⟩:=h2 _ (List.getElem_mem hk);obtain⟨v,hv2⟩:=Int.eq_ofNat_of_zero_le v0;rw[hv2]at hv v1
  try dsimp only
  unfold CT;rw[dI (aN ⟨by omega,by omega⟩),bn hx'];refine ao (aj (show(k:Int)<((x.2.to.length:Nat):Int) by omega)) (ak (aN ⟨by omega,by omega⟩) (ak (aN ⟨show(0:Int)<=(k:Int) by omega,show(k:Int)<((x.2.to.length:Nat):Int) by omega⟩) ?_));have hg:mC x.2.to (k:Int)=(v:Int):=uO hv;refine ak (show aw (mC x.2.to (k:Int)) (List.length (cz out ((x.2.to.take k).map Int.toNat) c))=true by rw[hg];exact aN ⟨by omega,by rw[kK,hl];omega⟩) ?_;have e:∀(p p':Int) (q q':List Int),p=p'->q=q'->(some (.inl (N.map cF,(a,(b,((i:Int),(c,(p,(q,())))))))):Option (TL Cl.σs⊕Out Ck))=some (.inl (N.map cF,(a,(b,((i:Int),(c,(p',(q',())))))))):=by rintro _ _ _ _ rfl rfl;rfl
  refine e _ _ _ _ (bK (x:=(k:Int)+1) (by omega)) ?_;rw[dm hv,List.map_append,List.map_cons,List.map_nil,wI];show List.set (cz out ((x.2.to.take k).map Int.toNat) c) (mC x.2.to (k:Int)).toNat c=_;rw[hg]
 .try dsimp only
  unfold CT;rw[dI (aN ⟨by omega,by omega⟩),bn hx'];refine af (av (show ¬((x.2.to.length:Nat):Int)<((x.2.to.length:Nat):Int) by omega)) ?_;rw[List.take_length];rfl
theorem afP{N:List (bz×bp)}{V:Nat}(h6:N6 N V)(out:List Int)(hl:out.length=V+1) :
  Mo (N.map cF,((0:Int),(out,())))=some (N.map cF,(cz out ((N.map (·.2.nd)).flatMap (·.to)) (-1),())):=by
 have hn:=h6.len;unfold Mo;delta u3;refine cP (fun i:Nat=>(N.map cF,((i:Int),(cz out (((N.take i).map (·.2.nd)).flatMap (·.to)) (-1),())))) N.length rfl ?_ ?_ (bA (by omega))
 .intro i hi;have hx:=List.getElem?_eq_getElem hi
  try dsimp only
  unfold C2;refine ao (aj (show(i:Int)<(((N.map cF).length:Nat):Int) by rw[List.length_map];omega)) ((bT (afQ h6 hx _ (by rw[kK,hl]))).trans ?_);have e:∀(p p':Int) (q q':List Int),p=p'->q=q'->(some (.inl (N.map cF,(p,(q,())))):Option (TL CG.σs⊕Out Cz))=some (.inl (N.map cF,(p',(q',())))):=by rintro _ _ _ _ rfl rfl;rfl
  refine e _ _ _ _ (bK (x:=(i:Int)+1) (by omega)) ?_;rw[dm hx,List.map_append,List.flatMap_append,ag0];simp
 .try dsimp only
  unfold C2;refine af (av (show ¬((N.length:Nat):Int)<(((N.map cF).length:Nat):Int) by rw[List.length_map];omega)) ?_;rw[List.take_length];rfl
theorem agE(M:List Nd)(x:Nd)(out:List Int):jg (M++[x]) out=iz (jg M out) x:=by unfold jg;rw[List.foldl_append];rfl
theorem ND:∀(M:List Nd) (out:List Int),(jg M out).length=out.length
 |[],out=>rfl|x::M,out=>by show(jg M (iz out x)).length=_;rw[ND M,Zun]
theorem Zyn(x:Nd):∀(M:List Nd) (out:List Int),gz (M++[x]) out=gz M out+(if eH (jg M out) x.aS 0<0 then 1 else 0)
 |[],out=>by show(if eH out x.aS 0<0 then 1 else 0)+0=0+_;rw[Nat.zero_add];rfl
 |y::M,out=>by show(if eH out y.aS 0<0 then 1 else 0)+gz (M++[x]) (iz out y)=_;rw[Zyn x M (iz out y)];show _=(if eH out y.aS 0<0 then 1 else 0)+gz M (iz out y)+_;rw[Nat.add_assoc];rfl
theorem Oy:∀(M:List Nd) (out:List Int),gz M out<=M.length
 |[],out=>Nat.le_refl _|y::M,out=>by have:=Oy M (iz out y);show(if eH out y.aS 0<0 then 1 else 0)+gz M (iz out y)<=M.length+1;split<;>omega
theorem NU:∀(M:List Nd) {out:List Int}{B:Int},0<=B->(∀u,aB out u<=B)->∀u,aB (jg M out) u<=B+(M.length:Int)
 |[],out,B,h0,h,u=>by have:=h u;show aB out u<=B+((0:Nat):Int);omega|y::M,out,B,h0,h,u=>by have h1:∀u,aB (iz out y) u<=B+1:=Oh (l:=out) (Zyk h y.aS 0 h0 h0) y.to (fun u=>by have:=h u;omega);have:=NU M (out:=iz out y) (B:=B+1) (by omega) h1 u;show aB (jg M (iz out y)) u<=B+((M.length+1:Nat):Int);omega
theorem ae2{N:List (bz×bp)}{V:Nat}(h6:N6 N V){B:Int}(r:Int)(out:List Int)(hl:out.length=V+1)(hB:∀u,aB out u<=B)(hB0:0<=B/\B<=900000000000) :
  CN (N.map cF,((0:Int),(r,((0:Int),(out,())))))=some (N.map cF,((gz (N.map (·.2.nd)) out:Int),(r,(jg (N.map (·.2.nd)) out,())))):=by
 have hn:=h6.len;unfold CN;delta u5;refine cP (fun i:Nat=>(N.map cF,((gz ((N.take i).map (·.2.nd)) out:Int),(r,((i:Int),(jg ((N.take i).map (·.2.nd)) out,())))))) N.length rfl ?_ ?_ (bA (by omega))
 .intro i hi;have hx:=List.getElem?_eq_getElem hi;have hx':(N.map cF)[i]?=some (cF N[i]):=by rw[List.getElem?_map,hx];rfl
  obtain⟨f1,f2⟩:=h6.aS _ (List.getElem_mem hi);have hlen:((N.take i).map (fun x:bz×bp=>x.2.nd)).length<=3000:=by rw[List.length_map,List.length_take];omega
  have hle:=Oy ((N.take i).map (fun x:bz×bp=>x.2.nd)) out;have hb:=NU ((N.take i).map (fun x:bz×bp=>x.2.nd)) hB0.1 hB;have hrl:(jg ((N.take i).map (fun x:bz×bp=>x.2.nd)) out).length=V+1:=by rw[ND,hl]
  have e1:=ac4 (V:=V) (B:=B+(((N.take i).map (fun x:bz×bp=>x.2.nd)).length:Int)) N[i] _ (fun u _=>hb u) ⟨by omega,by omega⟩ hrl h6.v2 f2 f1
  try dsimp only
  unfold CU;refine ao (aj (show(i:Int)<(((N.map cF).length:Nat):Int) by rw[List.length_map];omega)) (ak (aN ⟨by omega,by rw[List.length_map];omega⟩) ?_);rw[bn hx'];refine(bT e1).trans ?_;have e:∀(p p' q q':Int) (s s':List Int),p=p'->q=q'->s=s'->(some (.inl (N.map cF,(p,(r,(q,(s,())))))):Option (TL Co.σs⊕Out Cm))=some (.inl (N.map cF,(p',(r,(q',(s',())))))):=by rintro _ _ _ _ _ _ rfl rfl rfl;rfl
  have hs:jg ((N.take (i+1)).map (fun x:bz×bp=>x.2.nd)) out=cz (jg ((N.take i).map (fun x:bz×bp=>x.2.nd)) out) N[i].2.nd.to (eH (jg ((N.take i).map (fun x:bz×bp=>x.2.nd)) out) N[i].2.nd.aS 0):=by rw[dm hx,List.map_append];exact agE _ _ _
  have hc:gz ((N.take (i+1)).map (fun x:bz×bp=>x.2.nd)) out=gz ((N.take i).map (fun x:bz×bp=>x.2.nd)) out+(if eH (jg ((N.take i).map (fun x:bz×bp=>x.2.nd)) out) N[i].2.nd.aS 0<0 then 1 else 0):=by rw[dm hx,List.map_append];exact Zyn _ _ _
  rw[hs,hc];by_cases hneg:eH (jg ((N.take i).map (fun x:bz×bp=>x.2.nd)) out) N[i].2.nd.aS 0<0
  .rw[if_pos hneg];refine ao (aj hneg) ((bT (RO h6 hx _ r _ _ hrl)).trans ?_);exact e _ _ _ _ _ _ ((bK (x:=((gz ((N.take i).map (fun x:bz×bp=>x.2.nd)) out:Nat):Int)+1) (by omega)).trans (by omega)) (bK (x:=(i:Int)+1) (by omega)) rfl
  .rw[if_neg hneg];refine af (av hneg) ((bT (RO h6 hx _ r _ _ hrl)).trans ?_);exact e _ _ _ _ _ _ rfl (bK (x:=(i:Int)+1) (by omega)) rfl
 .try dsimp only
  unfold CU;refine af (av (show ¬((N.length:Nat):Int)<(((N.map cF).length:Nat):Int) by rw[List.length_map];omega)) ?_;rw[List.take_length];rfl
theorem Zy8(M:List Nd)(out:List Int):∀r,(ie M r out).length=out.length
 |0=>rfl|r+1=>by rw[ie,ND,Zy8 M out r]
theorem Zuq(M:List Nd){out:List Int}(h:∀u,aB out u<=0):∀r u,aB (ie M r out) u<=(r:Int)*(M.length:Int)
 |0,u=>by have:=h u;show aB out u<=((0:Nat):Int)*_;omega|r+1,u=>by
  have h1:=NU M (out:=ie M r out) (B:=(r:Int)*(M.length:Int)) (Int.mul_nonneg (by omega) (by omega)) (Zuq M h r) u;rw[ie];have:((r+1:Nat):Int)*(M.length:Int)=(r:Int)*(M.length:Int)+(M.length:Int):=by rw[Int.natCast_add,Int.add_mul];simp
  omega
theorem ae1{N:List (bz×bp)}{V:Nat}(h6:N6 N V)(out:List Int)(hl:out.length=V+1)(hB:∀u,aB out u<=0) :
  Mm (N.map cF,((0:Int),((0:Int),(out,()))))=some ((gz (N.map (fun x:bz×bp=>x.2.nd)) (ie (N.map (fun x:bz×bp=>x.2.nd)) N.length out):Int),(ie (N.map (fun x:bz×bp=>x.2.nd)) (N.length+1) out,())):=by
 have hn:=h6.len;unfold Mm;delta u4;refine cP (fun r:Nat=>(N.map cF,((match r with|0=>(0:Int)|r+1=>(gz (N.map (fun x:bz×bp=>x.2.nd)) (ie (N.map (fun x:bz×bp=>x.2.nd)) r out):Int)),((r:Int),(ie (N.map (fun x:bz×bp=>x.2.nd)) r out,()))))) (N.length+1) rfl ?_ ?_ (bA (by omega))
 .intro r hr;have hb:=Zuq (N.map (fun x:bz×bp=>x.2.nd)) hB r;have hm:(r:Int)*((N.map (fun x:bz×bp=>x.2.nd)).length:Int)<=3000*3000:=by rw[List.length_map];exact Int.mul_le_mul (by omega) (by omega) (by omega) (by omega)
  have h0:0<=(r:Int)*((N.map (fun x:bz×bp=>x.2.nd)).length:Int):=Int.mul_nonneg (by omega) (by omega);have e1:=ae2 h6 (r:Int) (ie (N.map (fun x:bz×bp=>x.2.nd)) r out) (by rw[Zy8,hl]) hb ⟨h0,by omega⟩
  try dsimp only
  unfold CV;refine ao (aj (show(r:Int)<=(((N.map cF).length:Nat):Int) by rw[List.length_map];omega)) ((bT e1).trans ?_);have e:∀(p q q':Int) (s:List Int),q=q'->(some (.inl (N.map cF,(p,(q,(s,()))))):Option (TL CA.σs⊕Out Cw))=some (.inl (N.map cF,(p,(q',(s,()))))):=by rintro _ _ _ _ rfl;rfl
  exact e _ _ _ _ (bK (x:=(r:Int)+1) (by omega))
 .try dsimp only
  unfold CV;refine af (av (show ¬((N.length+1:Nat):Int)<=(((N.map cF).length:Nat):Int) by rw[List.length_map];omega)) ?_;rfl
def nt{α:Type}(n:ax)(r:α):Int×List Int×List ae.T×List Int×List Int×List Int×List ab.T×List ae.T×α:=(n.vars,(n.aJ,(n.au.map bL,(n.bJ,(n.ba,(n.constraints,(n.aa.map aq,(n.aM.map dj,r))))))))
abbrev W4:=List Int×List ah.T×List Int×List Int×Unit
def w4(of:List Int)(nd:List bz)(m lv:List Int):W4:=(of,(nd.map cY,(m,(lv,()))))
def jD(k:Nat):List bz:=(List.range k).map fun i=>⟨false,0,i⟩
theorem S4(k:Nat):jD (k+1)=jD k++[⟨false,0,k⟩]:=by unfold jD;rw[List.range_succ,List.map_append];rfl
theorem tf(k:Nat):(jD k).length=k:=by simp[jD]
theorem aga(n:ax)(of m lv:List Int)(hA:n.aM.length<=2000):Dm ((n.aM.length:Int),((0:Int),nt n (nt n (w4 of [] m lv))))=some (nt n (nt n (w4 of (jD n.aM.length) m lv))):=by
 unfold Dm;delta qW;refine tE (fun k:Nat=>((n.aM.length:Int),((k:Int),nt n (nt n (w4 of (jD k) m lv))))) n.aM.length ?_ ?_ NN (bA (by omega))
 .intro k hk;unfold nt w4
  try dsimp only
  unfold Du;refine ao (aj (by omega)) (ak (mu (L:=(jD k).map cY) (by rw[List.length_map,tf];omega) (by decide)) ?_);rw[bK (x:=(k:Int)+1) (by omega),S4,List.map_append];rfl
 .unfold nt w4
  try dsimp only
  unfold Du;rw[fe (av (by omega))];rfl
def lG(j k:Nat):List bz:=(List.range k).map fun i=>⟨true,j,i⟩
theorem TG(j k:Nat):lG j (k+1)=lG j k++[⟨true,j,k⟩]:=by unfold lG;rw[List.range_succ,List.map_append];rfl
theorem N4(j k:Nat):(lG j k).length=k:=by simp[lG]
theorem afu(n:ax)(of m lv:List Int)(j M R:Nat)(pre:List bz)(hj:j<=4)(hM:M<=4)(hR:R<=4)(hp:pre.length<=3000) :
  De ((j:Int),((M:Int),((j:Int),((R:Int),((0:Int),nt n (nt n (w4 of pre m lv)))))))=some ((M:Int),((j:Int),nt n (nt n (w4 of (pre++lG j R) m lv)))):=by
 unfold De;refine cP (fun k:Nat=>((j:Int),((M:Int),((j:Int),((R:Int),((k:Int),nt n (nt n (w4 (of) (pre++lG j k) m lv)))))))) R (by rw[show lG j 0=[]from rfl,List.append_nil];rfl) ?_ ?_ (bA (by omega))
 .intro k hk;unfold nt w4
  try dsimp only
  unfold Ds;refine ao (aj (by omega)) (ak (mu (L:=(pre++lG j k).map cY) (by rw[List.length_map,List.length_append,N4];omega) (by decide)) ?_);rw[bK (x:=(k:Int)+1) (by omega),TG,<-List.append_assoc,List.map_append (l₁:=pre++lG j k)];rfl
 .unfold nt w4
  try dsimp only
  unfold Ds;rw[fe (av (by omega))];rfl
theorem N7(k:Nat):∀(l:List bC) (m:bC),iU k (l++[m])=iU k l++Pl.iw (k+l.length) m
 |[],m=>by simp[iU]|x::l,m=>by rw[List.cons_append,iU,iU,N7 (k+1) l m,List.append_assoc,List.length_cons,show k+1+l.length=k+(l.length+1) by omega]
theorem agb(n:ax)(of m lv:List Int)(hA:n.aM.length<=2000)(hM:n.aa.length<=4)(hR:∀M∈n.aa,M.reads.length<=4) :
  Dl ((n.aa.length:Int),((0:Int),nt n (nt n (w4 of (jD n.aM.length) m lv))))=some (nt n (w4 of (dG n) m lv)):=by
 have hlen:∀k,k<=n.aa.length->(jD n.aM.length++iU 0 (n.aa.take k)).length<=3000:=by
  intro k hk;rw[List.length_append,tf,tc];have:=y8 jC (n.aa.take k) 4 (fun M hM=>by unfold jC;rw[List.length_map];exact hR M (List.mem_of_mem_take hM));have h2:(n.aa.take k).length<=4:=by rw[List.length_take];omega
  omega
 unfold Dl;delta qW;refine cP (fun k:Nat=>((n.aa.length:Int),((k:Int),nt n (nt n (w4 of (jD n.aM.length++iU 0 (n.aa.take k)) m lv))))) n.aa.length (by rw[List.take_zero,show iU 0 []=[]from rfl,List.append_nil];rfl) ?_ ?_ (bA (by omega))
 .intro k hk;have hMk:=List.getElem?_eq_getElem hk;have hMk':(n.aa.map aq)[k]?=some (aq n.aa[k]):=by rw[List.getElem?_map,hMk];rfl
  have hrk:=hR _ (List.getElem_mem hk);unfold nt w4
  try dsimp only
  unfold Dt;rw[ib (aj (by omega)),dI (aN ⟨by omega,by rw[List.length_map];omega⟩),bn hMk'];have e:=afu n of m lv k n.aa.length n.aa[k].reads.length _ (by omega) hM hrk (hlen k (by omega));have hl:List.length (aq n.aa[k]).2.2.2.1=n.aa[k].reads.length:=List.length_map _;rw[hl];refine(bT e).trans ?_;have e2:jD n.aM.length++iU 0 (n.aa.take (k+1))=jD n.aM.length++iU 0 (n.aa.take k)++lG k n.aa[k].reads.length:=by rw[dm hMk,N7,List.append_assoc,List.length_take,Nat.min_eq_left (by omega),Nat.zero_add];rfl
  rw[e2];have hw:=bK (x:=(k:Int)+1) (by omega);show some (Sum.inl (_,(IntKind.wrap (.i64:IntKind) ((k:Int)+1),_)))=_;rw[hw];rfl
 .unfold nt w4
  try dsimp only
  unfold Dt;rw[fe (av (by omega)),List.take_length];rfl
theorem afw(n:ax)(V:Nat)(of m lv vs:List Int)(nd:List bz)(a b:Int)(k:Nat)(hk:k<=3000)(hln:vs.length<=100000)(hvs:∀v∈vs,0<=v/\v<=(V:Int))(hof:of.length=V+1) :
  Dd ((k:Int),(a,(b,(vs,((vs.length:Int),((0:Int),nt n (w4 of nd m lv)))))))=some (a,(b,nt n (w4 (cz of (vs.map Int.toNat) ((k:Int)+1)) nd m lv))):=by
 unfold Dd;delta D9;refine cP (fun j:Nat=>((k:Int),(a,(b,(vs,((vs.length:Int),((j:Int),nt n (w4 (cz of ((vs.take j).map Int.toNat) ((k:Int)+1)) nd m lv)))))))) vs.length rfl ?_ ?_ (bA (by omega))
 .intro j hj;have hv:=List.getElem?_eq_getElem hj;obtain⟨h0,h1⟩:=hvs _ (List.getElem_mem hj);obtain⟨v,hv2⟩:=Int.eq_ofNat_of_zero_le h0;rw[hv2]at hv h1;unfold nt w4
  try dsimp only
  unfold Dq;rw[ib (aj (by omega)),dI (aN ⟨by omega,by omega⟩),bn (σ:=.int .i64) hv,dI (aN ⟨by omega,by rw[kK,hof];omega⟩),bK (x:=(j:Int)+1) (by omega),bK (x:=(k:Int)+1) (by omega)];rw[dm hv,List.map_append,List.map_cons,List.map_nil,wI];rfl
 .unfold nt w4
  try dsimp only
  unfold Dq;rw[fe (av (by omega)),List.take_length];rfl
theorem afv{n:ax}{V:Nat}(hs:cq n V)(ft:Fit n)(m lv:List Int):Dk (((dG n).length:Int),((0:Int),nt n (w4 (List.replicate (V+1) 0) (dG n) m lv)))=some (wk n V m lv):=by
 have hnl:=Og hs;have hV2:=hs.v2;have hnl2:(dG n).length=(aV n).length:=by rw[Zuw];unfold aV;rw[List.length_map]
 have hmw:∀M∈n.aa,0<=M.word:=fun M hM=>by have:=hs.aa M hM;omega
 unfold Dk;delta fX;refine cP (fun k:Nat=>(((dG n).length:Int),((k:Int),nt n (w4 (fb (aV n) V k) (dG n) m lv)))) (dG n).length rfl ?_ ?_ (bA (by omega))
 .intro k hk;have hxd:=List.getElem?_eq_getElem hk;obtain⟨y,hy1,hy2⟩:=G0 n hxd;have hy:=List.mem_of_getElem? hy1;have hx:(aV n)[k]?=some y.nd:=by rw[G8,hy1];rfl
  have hxd':((dG n).map cY)[k]?=some (cY (dG n)[k]):=by rw[List.getElem?_map,hxd];rfl
  have hvs:∀u∈y.to,0<=u/\u<=(V:Int):=fun u hu=>by have:=hs.lO hy hu;omega
  have hlens:=DI hs hy;have e1:=SI (of:=fb (aV n) V k) (m:=m) (lv:=lv) (nd:=dG n) hy2 ft hmw;have e2:=afw n V (fb (aV n) V k) m lv y.to (dG n) ((dG n).length:Int) (k:Int) k (by omega) (by omega) hvs (DD _ _ _);unfold nt w4
  try dsimp only
  unfold Dr;refine ao (aj (by omega)) (ak (aN ⟨by omega,by rw[List.length_map];omega⟩) ?_);rw[bn hxd'];refine ag e1 (ag e2 ?_);rw[TJ hx];have hw:=bK (x:=(k:Int)+1) (by omega);show some (Sum.inl (_,(IntKind.wrap (.i64:IntKind) ((k:Int)+1),_)))=_;rw[hw];rfl
 .unfold nt w4
  try dsimp only
  unfold Dr;rw[fe (av (by omega)),hnl2];rfl
theorem YP{n:ax}{V:Nat}(hs:cq n V)(ft:Fit n):Zo9 (nt n ())=some (wk n V (List.replicate (V+1) 0) (List.replicate (V+1) 0)):=by
 have hV2:=hs.v2;have hvars:=hs.vars;have e3:=aga n (List.replicate (V+1) 0) (List.replicate (V+1) 0) (List.replicate (V+1) 0) hs.lens.2.2.1;have e8:=agb n (List.replicate (V+1) 0) (List.replicate (V+1) 0) (List.replicate (V+1) 0) hs.lens.2.2.1 hs.lens.2.2.2.2 (fun M hM=>(hs.aa M hM).2.2.2.2.2.2.1);have e17:=afv hs ft (List.replicate (V+1) 0) (List.replicate (V+1) 0);have hw:IntKind.wrap (.i64:IntKind) (n.vars+1)=((V+1:Nat):Int):=by rw[hvars,bK (by omega)];omega
 show NA v7 Dm Dl De Dk Dd n.vars n.aJ (n.au.map bL) n.bJ n.ba n.constraints (n.aa.map aq) (n.aM.map dj)=_;unfold NA;rw[hw];have hc:∀k:Int,0<=k->k<=8->both (decide ((0:Int)<=((V+1:Nat):Int))) (both (decide (((V+1:Nat):Int)<=((V+1:Nat):Int))) (decide (k*((V+1:Nat):Int)<=281474976710656)))=true:=by intro k h0 h8;rw[decide_eq_true (by omega),decide_eq_true (by omega),decide_eq_true (by have:k*((V+1:Nat):Int)<=8*((V+1:Nat):Int):=Int.mul_le_mul_of_nonneg_right h8 (by omega);omega)];rfl
 have e3':Dm (((List.map dj n.aM).length:Int),((0:Int),nt n (nt n (w4 (List.replicate (V+1) 0) [] (List.replicate (V+1) 0) (List.replicate (V+1) 0)))))=some (nt n (nt n (w4 (List.replicate (V+1) 0) (jD n.aM.length) (List.replicate (V+1) 0) (List.replicate (V+1) 0)))):=by rw[List.length_map];exact e3
 have e8':Dl (((List.map aq n.aa).length:Int),((0:Int),nt n (nt n (w4 (List.replicate (V+1) 0) (jD n.aM.length) (List.replicate (V+1) 0) (List.replicate (V+1) 0)))))=some (nt n (w4 (List.replicate (V+1) 0) (dG n) (List.replicate (V+1) 0) (List.replicate (V+1) 0))):=by rw[List.length_map];exact e8
 have e17':Dk (((List.map cY (dG n)).length:Int),((0:Int),nt n (w4 (List.replicate (V+1) 0) (dG n) (List.replicate (V+1) 0) (List.replicate (V+1) 0))))=some (wk n V (List.replicate (V+1) 0) (List.replicate (V+1) 0)):=by rw[List.length_map];exact e17
 exact ak (hc 8 (by decide) (by decide)) (ak (hc 1 (by decide) (by decide)) (ak (hc 8 (by decide) (by decide)) (ag e3' (ag e8' (ag e17' rfl)))))
theorem acU{V:Nat}{m:List Int}(h:V<=2000):fresh V m<NN:=by
 have z:∀(p:Nat->Bool) k,zc p k<=k:=by
  intro p k
  induction k with|zero=>exact Nat.le_refl _|succ k ih=>rw[zc];split<;>omega
 have:fresh V m<=V+1:=z _ _;exact bA (by omega)
theorem Rx{n:ax}{V:Nat}(hs:cq n V)(ft:Fit n) :
  ∃m lv,Zhj (wk n V (List.replicate (V+1) 0) (List.replicate (V+1) 0))=some (eO (aV n) V,wk n V m lv) /\
   (eO (aV n) V=true->lv.length=V+1/\∀v,v<=V->∃k:Nat,aB lv v=(k:Int)/\cK (aV n) v k):=by
 have hV2:=hs.v2;have hL:=lQ (B:=fun d=>Nh Mi d.1 d.2.1 d.2.2.1 d.2.2.2.1 d.2.2.2.2.1 d.2.2.2.2.2.1 d.2.2.2.2.2.2.1 d.2.2.2.2.2.2.2.1 d.2.2.2.2.2.2.2.2.1 d.2.2.2.2.2.2.2.2.2.1 d.2.2.2.2.2.2.2.2.2.2.1 d.2.2.2.2.2.2.2.2.2.2.2.1 d.2.2.2.2.2.2.2.2.2.2.2.2.1 d.2.2.2.2.2.2.2.2.2.2.2.2.2.1)
  (I:=fun d:Int×Int×WT=>∃(k:Nat) (m lv:List Int),d=(((V+1:Nat):Int),((k:Int),wk n V m lv))/\k<=V+1/\VI (aV n) V m lv/\(∀u,u<=V->aB m u≠1)/\(∀u,u<k->tl (aV n) m u))
  (Q:=fun o:Out CR=>(∃m lv,o=.inl (false,wk n V m lv)/\∃u,u<=V/\∀k,¬cK (aV n) u k)\/(∃m lv,o=.inr (wk n V m lv)/\VI (aV n) V m lv/\∀u,u<V+1->tl (aV n) m u))
  (μ:=fun d=>V+1-d.2.1.toNat) ?_ NN (((V+1:Nat):Int),((0:Int),wk n V (List.replicate (V+1) 0) (List.replicate (V+1) 0))) ⟨0,_,_,rfl,by omega,vi0,fun u hu=>by unfold aB;rw[List.getD_eq_getElem?_getD,List.getElem?_replicate];split<;>simp,fun u h=>by omega⟩ (bA (by omega))
 .obtain⟨o,ho,hcase⟩:=hL;have hlen:((List.length (fb (aV n) V (aV n).length):Nat):Int)=((V+1:Nat):Int):=by rw[DD]
  have ho':Zhi (((List.length (fb (aV n) V (aV n).length):Nat):Int),((0:Int),wk n V (List.replicate (V+1) 0) (List.replicate (V+1) 0)))=some o:=by rw[hlen];exact ho
  rcases hcase with⟨m,lv,rfl,u,hu,hno⟩|⟨m,lv,rfl,hI,hT⟩
  .have hf:eO (aV n) V=false:=by
    cases h:eO (aV n) V
    .rfl
    .obtain⟨kk,hkk⟩:=(zb hs.apart V).1 h u hu;exact absurd hkk (hno kk)
   rw[hf];exact⟨m,lv,ag ho' rfl,fun h=>by cases h⟩
  .have hl:∀v,v<=V->∃k:Nat,aB lv v=(k:Int)/\cK (aV n) v k:=fun v hv=>zg hI hv (hT v (by omega));have ht:eO (aV n) V=true:=(zb hs.apart V).2 fun v hv=>by obtain⟨k,_,h⟩:=hl v hv;exact⟨k,h⟩
   rw[ht];exact⟨m,lv,ag ho' rfl,fun _=>⟨hI.ll,hl⟩⟩
 .rintro _ ⟨k,m,lv,rfl,hk,hI,hU,hT⟩;by_cases hlt:k<V+1
  .obtain⟨b,m2,lv2,e,hp⟩:=ady hs ft NN m lv k hI (fun u hu h=>absurd h (hU u hu)) (by omega) (acU hV2);have e':Mi ((k:Int),wk n V m lv)=some (b,wk n V m2 lv2):=e;rcases hp with⟨rfl,hI7,hE7,ht7⟩|⟨rfl,u',hu',hno⟩
   .right;refine⟨_,ao (aj (show(k:Int)<((V+1:Nat):Int) by omega)) (ag e' (af rfl rfl)),⟨k+1,m2,lv2,?_,by omega,hI7,fun u hu h=>hU u hu (hE7.b u hu h),fun u hu=>?_⟩,?_⟩
    .have e2:∀a a':Int,a=a'->(((V+1:Nat):Int),(a,wk n V m2 lv2))=(((V+1:Nat):Int),(a',wk n V m2 lv2)):=by rintro _ _ rfl;rfl
     exact e2 _ _ (bK (x:=(k:Int)+1) (by omega))
    .by_cases e:u=k
     .subst e;exact ht7
     .exact(GN hI hI7 hE7 (by omega) (hT u (by omega))).1
    .show V+1-(IntKind.wrap (.i64:IntKind) ((k:Int)+1)).toNat<V+1-(k:Int).toNat;rw[bK (x:=(k:Int)+1) (by omega)];omega
   .left;exact⟨_,ao (aj (show(k:Int)<((V+1:Nat):Int) by omega)) (ag e' (ao rfl rfl)),.inl ⟨m2,lv2,rfl,u',hu',hno⟩⟩
  .left;exact⟨_,af (av (show ¬(k:Int)<((V+1:Nat):Int) by omega)) rfl,.inr ⟨m,lv,rfl,hI,fun u hu=>hT u (by omega)⟩⟩
theorem po{n:ax}(ft:Fit n):Zfn (bc n,())=some (cL n,()):=by
 have es:lj (bc n,())=some (dt n,()):=by unfold lj;rw[show dS ((bc n,()):TL [bg]).1=n from lE n,zf ft];rfl
 by_cases h0:dt n=0
 .obtain⟨V,hs⟩:=oP h0;have hV:n.vars.toNat=V:=by rw[hs.vars];rfl
  obtain⟨m,lv,ea,_⟩:=Rx hs ft;have ew:=YP hs ft;cases hc:eO (aV n) V
  .have et:wz (nt n ())=some (.inl ((8:Int),())):=by refine ag es (af (by rw[h0];rfl) (ag ew (ag ea (ao (by rw[hc];rfl) rfl))))
   refine(ag et rfl).trans ?_;unfold cL;rw[h0,hV,hc];rfl
  .have et:wz (nt n ())=some (.inr ((0:Int),wk n V m lv)):=by refine ag es (af (by rw[h0];rfl) (ag ew (ag ea (af (by rw[hc];rfl) rfl))))
   refine(ag et rfl).trans ?_;unfold cL;rw[h0,hV,hc];rfl
 .have et:wz (nt n ())=some (.inl (dt n,())):=by refine ag es (ao (by simp[h0]) rfl)
  refine(ag et rfl).trans ?_;unfold cL;rw[if_pos h0];rfl
def A6(n:ax)(k:Nat):List (bz×bp):=(jD k).zip ((n.aM.take k).map oV)
def M6(n:ax)(k:Nat):List (bz×bp):=(iU 0 (n.aa.take k)).zip ((n.aa.take k).flatMap jC)
def R6(j:Nat)(M:bC)(r:Nat):List (bz×bp):=(lG j r).zip ((M.reads.take r).map (oL M.word))
def n6(n:ax):List (bz×bp):=A6 n n.aM.length++M6 n n.aa.length
theorem adD{n:ax}{k:Nat}{a:eK}(h:n.aM[k]?=some a):A6 n (k+1)=A6 n k++[(⟨false,0,k⟩,oV a)]:=by unfold A6;rw[S4,dm h,List.map_append,List.zip_append (by rw[tf,List.length_map,List.length_take];have:=dy h;omega)];rfl
theorem Tq{n:ax}{k:Nat}(h:k<=n.aM.length):(A6 n k).length=k:=by unfold A6;rw[List.length_zip,tf,List.length_map,List.length_take];omega
theorem adF{j:Nat}{M:bC}{k:Nat}{r:mJ}(h:M.reads[k]?=some r):R6 j M (k+1)=R6 j M k++[(⟨true,j,k⟩,oL M.word r)]:=by unfold R6;rw[TG,dm h,List.map_append,List.zip_append (by rw[N4,List.length_map,List.length_take];have:=dy h;omega)];rfl
theorem ahO{j:Nat}{M:bC}{k:Nat}(h:k<=M.reads.length):(R6 j M k).length=k:=by unfold R6;rw[List.length_zip,N4,List.length_map,List.length_take];omega
theorem adE{n:ax}{k:Nat}{M:bC}(h:n.aa[k]?=some M):M6 n (k+1)=M6 n k++R6 k M M.reads.length:=by unfold M6 R6;rw[dm h,N7,List.flatMap_append,List.zip_append (by rw[tc])];have:=dy h;rw[List.length_take,Nat.min_eq_left (by omega),Nat.zero_add,List.take_length];simp only[List.flatMap_cons,List.flatMap_nil,List.append_nil];rfl
theorem afd(n:ax)(hA:n.aM.length<=2000):ZS ((0:Int),nt n ([],()))=some (nt n ((A6 n n.aM.length).map cF,())):=by
 unfold ZS;delta lH;refine cP (fun k:Nat=>((k:Int),nt n ((A6 n k).map cF,()))) n.aM.length rfl ?_ ?_ (bA (by omega))
 .intro k hk;have ha:=List.getElem?_eq_getElem hk;have ha':(n.aM.map dj)[k]?=some (dj n.aM[k]):=by rw[List.getElem?_map,ha];rfl
  unfold nt
  try dsimp only
  unfold C5;refine ao (aj (show(k:Int)<(((n.aM.map dj).length:Nat):Int) by rw[List.length_map];omega)) (ak (aN ⟨by omega,by rw[List.length_map];omega⟩) ?_);rw[bn ha'];refine ak (mu (L:=(A6 n k).map cF) (by rw[List.length_map,Tq (by omega)];omega) (by decide)) ?_;rw[bK (x:=(k:Int)+1) (by omega),adD ha,List.map_append (l₁:=A6 n k)];rfl
 .unfold nt
  try dsimp only
  unfold C5;refine af (av (show ¬(n.aM.length:Int)<(((n.aM.map dj).length:Nat):Int) by rw[List.length_map];omega)) rfl
theorem aen{n:ax}{j:Nat}{M:bC}(hM:n.aa[j]?=some M)(hw:0<=M.word/\M.word<=4000)(hR:M.reads.length<=4)(hrv:∀r∈M.reads,-1099511627776<=r.var/\r.var<=1099511627776)(hj:j<=4)(pre:List (bz×bp))(hp:pre.length<=3000) :
  Me ((j:Int),((0:Int),nt n (pre.map cF,())))=some ((j:Int),nt n ((pre++R6 j M M.reads.length).map cF,())):=by
 have hM':(n.aa.map aq)[j]?=some (aq M):=by rw[List.getElem?_map,hM];rfl
 have hjl:=dy hM';unfold Me;delta jI;refine cP (fun k:Nat=>((j:Int),((k:Int),nt n ((pre++R6 j M k).map cF,())))) M.reads.length (by rw[show R6 j M 0=[]from rfl,List.append_nil];rfl) ?_ ?_ (bA (by omega))
 .intro k hk;have hr:=List.getElem?_eq_getElem hk;have hr':(M.reads.map dv)[k]?=some (dv M.reads[k]):=by rw[List.getElem?_map,hr];rfl
  have e1:=acJ M k _ hr hw (hrv _ (List.getElem_mem hk));unfold nt
  try dsimp only
  unfold C0;rw[dI (aN ⟨by omega,by omega⟩),bn hM',show(aq M).2.2.2.1=M.reads.map dv from rfl];refine ao (aj (show(k:Int)<(((M.reads.map dv).length:Nat):Int) by rw[List.length_map];omega)) (ak (aN ⟨by omega,by omega⟩) (ak (aN ⟨by omega,by rw[List.length_map];omega⟩) (ak (aN ⟨by omega,by omega⟩) ?_)));rw[bn hr'];refine(bT e1).trans (ak (mu (L:=(pre++R6 j M k).map cF) (by rw[List.length_map,List.length_append,ahO (by omega)];omega) (by decide)) ?_);rw[bK (x:=(k:Int)+1) (by omega),adF hr,<-List.append_assoc,List.map_append (l₁:=pre++R6 j M k)];rfl
 .unfold nt
  try dsimp only
  unfold C0;rw[dI (aN ⟨by omega,by omega⟩),bn hM',show(aq M).2.2.2.1=M.reads.map dv from rfl];exact af (av (show ¬(M.reads.length:Int)<(((M.reads.map dv).length:Nat):Int) by rw[List.length_map];omega)) rfl
theorem ahP(n:ax)(k:Nat):(M6 n k).length=((n.aa.take k).flatMap jC).length:=by unfold M6;rw[List.length_zip,tc];omega
theorem sr(n:ax):(n6 n).map (fun x:bz×bp=>x.2)=fh n:=by
 unfold n6 A6 M6 fh;rw[List.map_append,List.take_length,List.take_length];congr 1
 .exact List.map_snd_zip (by rw[tf,List.length_map];omega)
 .exact List.map_snd_zip (by rw[tc];omega)
theorem rO(n:ax):(n6 n).map (fun x:bz×bp=>x.2.nd)=aV n:=by unfold aV;rw[<-sr,List.map_map];rfl
theorem yT{n:ax}{V:Nat}(hs:cq n V):N6 (n6 n) V:=by
 have hm:∀x∈n6 n,x.2∈fh n:=fun x hx=>by rw[<-sr];exact List.mem_map_of_mem hx
 refine⟨hs.v2,?_,fun x hx=>⟨?_,fun v hv=>?_⟩,fun x hx=>⟨?_,fun l hl=>?_⟩⟩
 .have h:=Og hs;rw[<-rO,List.length_map]at h;exact h
 .have:=(DI hs (hm x hx)).1;omega
 .have:=hs.lO (hm x hx) hv;omega
 .have:=(DI hs (hm x hx)).2;omega
 .have:=hs.Hg (hm x hx) hl;omega
theorem ak8{n:ax}{V:Nat}(hs:cq n V)(ft:Fit n):ZG (bc n,())=some ((n6 n).map cF,()):=by
 have hA:=hs.lens.2.2.1;have hMl:=hs.lens.2.2.2.2;have e3:=afd n hA;have hlen:∀k,k<=n.aa.length->(A6 n n.aM.length++M6 n k).length<=3000:=by
  intro k hk;rw[List.length_append,Tq (Nat.le_refl _),ahP];have:=y8 jC (n.aa.take k) 4 (fun M hM=>by unfold jC;rw[List.length_map];exact(hs.aa M (List.mem_of_mem_take hM)).2.2.2.2.2.2.1);have h2:(n.aa.take k).length<=4:=by rw[List.length_take];omega
  omega
 have e8:ZR ((0:Int),nt n ((A6 n n.aM.length).map cF,()))=some ((n6 n).map cF,()):=by
  unfold ZR;delta lH;refine cP (fun k:Nat=>((k:Int),nt n ((A6 n n.aM.length++M6 n k).map cF,()))) n.aa.length (by rw[show M6 n 0=[]from rfl,List.append_nil];rfl) ?_ ?_ (bA (by omega))
  .intro k hk;have hM:=List.getElem?_eq_getElem hk;have hm:=hs.aa _ (List.getElem_mem hk);have hfit:=ft.aa.2 _ (List.getElem_mem hk);have e11:=aen hM ⟨by omega,by omega⟩ hm.2.2.2.2.2.2.1 (fun r hr=>⟨(hfit.jW r hr).2.1,(hfit.jW r hr).2.2.1⟩) (by omega) (A6 n n.aM.length++M6 n k) (hlen k (by omega));unfold nt
   try dsimp only
   unfold C4;refine ao (aj (show(k:Int)<(((n.aa.map aq).length:Nat):Int) by rw[List.length_map];omega)) ((bT e11).trans ?_);have e:∀(p q:Int) (s s':List dp.T),p=q->s=s'->(some (.inl (p,nt n (s,()))):Option (TL CM.σs⊕Out CF))=some (.inl (q,nt n (s',()))):=by rintro _ _ _ _ rfl rfl;rfl
   exact e _ _ _ _ (bK (x:=(k:Int)+1) (by omega)) (by rw[adE hM,List.append_assoc]<;>rfl)
  .unfold nt
   try dsimp only
   unfold C4;exact af (av (show ¬(n.aa.length:Int)<(((n.aa.map aq).length:Nat):Int) by rw[List.length_map];omega)) rfl
 exact ag e3 (ag e8 rfl)
theorem ahQ{n:ax}{V:Nat}(hs:cq n V)(ft:Fit n)(h0:dt n=0) :
  Zfg (bc n,())=some (if eO (aV n) V then(ie (aV n) ((n6 n).length+1) (iF (aV n) V),(true,()))else([],(false,()))):=by
 have hV2:=hs.v2;have h6:=yT hs;have es:sW (bc n,())=some (dt n,()):=by unfold sW lj;rw[show dS ((bc n,()):TL [bg]).1=n from lE n,zf ft];rfl
 have eN:=ak8 hs ft;have hw:IntKind.wrap (.i64:IntKind) (n.vars+1)=((V+1:Nat):Int):=by rw[hs.vars,bK (by omega)];omega
 have e6:=afP h6 (List.replicate (V+1) 0) (by simp);rw[rO]at e6;have hout:cz (List.replicate (V+1) 0) ((aV n).flatMap (·.to)) (-1)=iF (aV n) V:=rfl;rw[hout]at e6;have hol:(iF (aV n) V).length=V+1:=by unfold iF;rw[kK];simp
 have hob:∀u,aB (iF (aV n) V) u<=0:=by unfold iF;refine Oh (l:=List.replicate (V+1) 0) (by omega) _ (fun u=>?_);unfold aB;rw[List.getD_eq_getElem?_getD,List.getElem?_replicate];split<;>simp
 have e14:=ae1 h6 (iF (aV n) V) hol hob;rw[rO]at e14;have hNl:(n6 n).length=(aV n).length:=by rw[<-rO,List.length_map]
 have ht:=agD hs.apart hs.aT hs.fB;rw[<-hNl]at ht;have hle:=Oy (aV n) (ie (aV n) (n6 n).length (iF (aV n) V));show MI LP ZG sW Mo CQ Mm CN Cv (bc n)=_;unfold MI;refine(bT es).trans (af (by rw[h0];rfl) ?_);have hw':IntKind.wrap (.i64:IntKind) (@HAdd.hAdd Int Int Int _ (bc n).1 (1:Int))=((V+1:Nat):Int):=hw;rw[hw'];refine ak (by show both (decide _) (both (decide _) (decide _))=true;rw[decide_eq_true (by omega),decide_eq_true (by omega),decide_eq_true (by show(8:Int)*_<=_;omega)];rfl) ((bT eN).trans ((bT e6).trans ((bT e14).trans ?_)));by_cases ha:eO (aV n) V=true
 .have hz:=ht.2 ha;rw[if_pos ha];refine af (av (by show ¬(0:Int)<((gz (aV n) (ie (aV n) (n6 n).length (iF (aV n) V)):Nat):Int);rw[hz];omega)) rfl
 .have hz:gz (aV n) (ie (aV n) (n6 n).length (iF (aV n) V))≠0:=fun h=>ha (ht.1 h);rw[if_neg ha];refine ao (aj (by show(0:Int)<((gz (aV n) (ie (aV n) (n6 n).length (iF (aV n) V)):Nat):Int);omega)) rfl
theorem DW{n:ax}(ft:Fit n):Zb7 (bc n,())=some (cL n,()):=by
 have es:sW (bc n,())=some (dt n,()):=by unfold sW lj;rw[show dS ((bc n,()):TL [bg]).1=n from lE n,zf ft];rfl
 by_cases h0:dt n=0
 .obtain⟨V,hs⟩:=oP h0;have hV:n.vars.toNat=V:=by rw[hs.vars];rfl
  have eL:=ahQ hs ft h0;unfold cL;rw[h0,hV,if_neg (by simp)];by_cases ha:eO (aV n) V=true
  .rw[if_pos ha]at eL;rw[if_pos ha];exact ag es (af (by rw[h0];rfl) (ag eL (af rfl rfl)))
  .rw[if_neg ha]at eL;rw[if_neg ha];exact ag es (af (by rw[h0];rfl) (ag eL (ao rfl rfl)))
 .unfold cL;rw[if_pos h0];exact ag es (ao (by simp[h0]) rfl)
