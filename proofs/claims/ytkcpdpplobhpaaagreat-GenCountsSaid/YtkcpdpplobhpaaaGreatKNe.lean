import Derived.Test.YtkcpdpplobhpaaaGreatKNd
set_option linter.unusedVariables false
set_option linter.unusedSimpArgs false
set_option linter.unnecessarySimpa false
section
namespace Go.Proofs.YtkcpdpplobhpaaaGreat.Pl
structure aP where
 rd:Bool
 mem:Nat
 pos:Nat
structure aJ where
 to:List Int
 frm:List Int
def fm(a:cM):aJ:=⟨[a.var],[a.a,a.b]⟩
def kQ(word:Int)(r:j3):aJ:=⟨bL r.var word.toNat,r.addr⟩
def gB(m:aX):List aJ:=m.reads.map (kQ m.word)
def cP(n:au):List aJ:=n.ands.map fm++n.mems.flatMap gB
def fh(k:Nat)(m:aX):List aP:=(List.range m.reads.length).map fun i=>⟨true,k,i⟩
def fE(k:Nat):List aX->List aP
 |[]=>[]|m::l=>fh k m++fE (k+1) l
def cG(n:au):List aP:=(List.range n.ands.length).map (fun i=>⟨false,0,i⟩)++fE 0 n.mems
def aP.is(n:au)(x:aP)(i:aJ):Prop:=(x.rd=false/\∃a,n.ands[x.pos]?=some a/\i=fm a)\/(x.rd=true/\∃m r,n.mems[x.mem]?=some m/\m.reads[x.pos]?=some r/\i=kQ m.word r)
theorem adE(n:List aX):∀(l:List aX) (k:Nat),(∀j,l[j]?=n[k+j]?)->∀(i:Nat) (x:aP),(fE k l)[i]?=some x->∃(m:aX) (r:j3),n[x.mem]?=some m/\m.reads[x.pos]?=some r/\(l.flatMap gB)[i]?=some (kQ m.word r)/\x.rd=true:=by
 intro l
 induction l with
 |nil=>intro k _ i x h;simp[fE]at h|cons m l ih=>
  intro k hk i x h;rw[fE]at h;rw[List.flatMap_cons];have hl1:(fh k m).length=m.reads.length:=by simp[fh]
  have hl2:(gB m).length=m.reads.length:=by simp[gB]
  by_cases hi:i<m.reads.length
  .rw[List.getElem?_append_left (by omega)]at h;rw[List.getElem?_append_left (by omega)];unfold fh at h;rw[List.getElem?_map,List.getElem?_range hi]at h;injection h with h;subst h;have:=hk 0;rw[Nat.add_zero]at this;refine⟨m,m.reads[i],by rw[<-this];rfl,List.getElem?_eq_getElem hi,?_,rfl⟩;unfold gB;rw[List.getElem?_map,List.getElem?_eq_getElem hi];rfl
  .rw[List.getElem?_append_right (by omega)]at h;rw[List.getElem?_append_right (by omega)];rw[hl1]at h;rw[hl2];exact ih (k+1) (fun j=>by have:=hk (j+1);rw[show k+1+j=k+(j+1) by omega,<-this];rfl) _ x h
theorem pF:∀(l:List aX) (k:Nat),(fE k l).length=(l.flatMap gB).length:=by
 intro l
 induction l with|nil=>intro k;rfl|cons m l ih=>intro k;rw[fE,List.flatMap_cons,List.length_append,List.length_append,ih];simp[fh,gB]
theorem Y6(n:au):(cG n).length=(cP n).length:=by unfold cG cP;simp only[List.length_append,pF];simp
theorem E5(n:au){i:Nat}{x:aP}(h:(cG n)[i]?=some x):∃y,(cP n)[i]?=some y/\x.is n y:=by
 unfold cG at h;unfold cP;have hl1:((List.range n.ands.length).map (fun i=>(⟨false,0,i⟩:aP))).length=n.ands.length:=by simp
 have hl2:(n.ands.map fm).length=n.ands.length:=by simp
 by_cases hi:i<n.ands.length
 .rw[List.getElem?_append_left (by omega)]at h;rw[List.getElem?_append_left (by omega)];rw[List.getElem?_map,List.getElem?_range hi]at h;injection h with h;subst h;rw[List.getElem?_map,List.getElem?_eq_getElem hi];exact⟨_,rfl,.inl ⟨rfl,_,List.getElem?_eq_getElem hi,rfl⟩⟩
 .rw[List.getElem?_append_right (by omega)]at h;rw[List.getElem?_append_right (by omega)];rw[hl1]at h;rw[hl2];obtain⟨m,r,h1,h2,h3,h4⟩:=adE n.mems n.mems 0 (fun j=>by simp) _ x h;exact⟨_,h3,.inr ⟨h4,m,r,h1,h2,rfl⟩⟩
def aJ.nd(x:aJ):Nd:=⟨x.frm.map fun l=>(l / 2).toNat,x.to.map Int.toNat⟩
def aF(n:au):List Nd:=(cP n).map aJ.nd
theorem ahG{V:Int}:∀(l pre:List Int),pre.Nodup->(∀x∈pre,1<=x/\x<=V)->dup V pre l=0->(pre++l).Nodup/\∀x∈pre++l,1<=x/\x<=V:=by
 intro l
 induction l with
 |nil=>intro pre h1 h2 _;simpa using⟨h1,h2⟩|cons v l ih=>
  intro pre h1 h2 h;rw[dup]at h;by_cases ha:v<1\/V<v
  .rw[if_pos ha]at h;omega
  .rw[if_neg ha]at h;by_cases hc:pre.contains v=true
   .rw[if_pos hc]at h;omega
   .rw[if_neg hc]at h;have hn:v∉pre:=by simpa using hc
    have:=ih (pre++[v]) (by
     rw[List.nodup_append];exact⟨h1,by simp,fun a ha' b hb=>by simp at hb;subst hb;rintro rfl;exact hn ha'⟩) (fun x hx=>by
     rcases List.mem_append.1 hx with hx|hx
     .exact h2 x hx
     .simp at hx;subst hx;omega) h
    simpa using this
structure bo(n:au)(V:Nat):Prop where
 vars:n.vars=(V:Int)
 v2:V<=2000
 nodup:(bp n).Nodup
 rng:∀x∈bp n,1<=x/\x<=(V:Int)
 lits:∀l∈bG n,0<=l/\l / 2<=(V:Int)
 mems:∀m∈n.mems,1<=m.addr/\m.addr<=62/\1<=m.word/\m.word<=64/\(∀r∈m.reads,(r.addr.length:Int)=m.addr)/\(∀x∈m.writes,(x.addr.length:Int)=m.addr/\(x.data.length:Int)=m.word)/\m.reads.length<=4/\m.writes.length<=4
 init:∀l∈n.latches,0<=l.init/\l.init<=2
 lens:n.inputs.length<=2000/\n.latches.length<=2000/\n.ands.length<=2000/\n.outputs.length+n.bads.length+n.constraints.length<=1000/\n.mems.length<=4
theorem any_false{α:Type}{p:α->Bool}{l:List α}(h:¬l.any p=true):∀x∈l,p x=false:=by
 intro x hx;cases hp:p x
 .rfl
 .exact absurd (List.any_eq_true.2 ⟨x,hx,hp⟩) h
theorem lZ{n:au}(h:ca n=0):∃V,bo n V:=by
 unfold ca at h;by_cases h1:gg n=true
 .rw[if_pos h1]at h;omega
 rw[if_neg h1]at h;by_cases h2:n.mems.any dr=true
 .rw[if_pos h2]at h;omega
 rw[if_neg h2]at h;by_cases h3:n.latches.any eW=true
 .rw[if_pos h3]at h;omega
 rw[if_neg h3]at h;by_cases h4:dup n.vars [] (bp n)≠0
 .rw[if_pos h4]at h;exact absurd h h4
 rw[if_neg h4]at h;by_cases h5:(bG n).any (gZ n.vars)=true
 .rw[if_pos h5]at h;omega
 unfold gg at h1;rw[Bool.or_eq_true,not_or]at h1;obtain⟨h1a,h1b⟩:=h1;have h1a':¬(n.vars<0\/2000<n.vars\/2000<n.inputs.length\/2000<n.latches.length\/2000<n.ands.length\/1000<n.outputs.length+n.bads.length+n.constraints.length\/4<n.mems.length):=by simpa using h1a
 obtain⟨V,hV⟩:=Int.eq_ofNat_of_zero_le (show 0<=n.vars by omega);obtain⟨d1,d2⟩:=ahG (V:=n.vars) (bp n) [] (by simp) (by simp) (by omega);simp only[List.nil_append]at d1 d2;refine⟨V,hV,by omega,d1,fun x hx=>hV▸d2 x hx,fun l hl=>?_,fun m hm=>?_,fun l hl=>?_,⟨by omega,by omega,by omega,by omega,by omega⟩⟩
 .have:=any_false h5 l hl;unfold gZ at this;have:¬(l<0\/n.vars<l / 2):=by simpa using this
  omega
 .have hw:=any_false h2 m hm;have hp:=any_false h1b m hm;unfold d7 at hp;have hp:¬(4<m.reads.length\/4<m.writes.length):=by simpa using hp
  unfold dr at hw;rw[Bool.or_eq_false_iff,Bool.or_eq_false_iff]at hw;obtain⟨⟨w1,w2⟩,w3⟩:=hw;have w1:¬(m.addr<1\/62<m.addr\/m.word<1\/64<m.word):=by simpa using w1
  refine⟨by omega,by omega,by omega,by omega,fun r hr=>?_,fun x hx=>?_,by omega,by omega⟩
  .have:=any_false (p:=iC m) (by rw[w2];simp) r hr;unfold iC at this;simpa using this
  .have:=any_false (p:=gN m) (by rw[w3];simp) x hx;unfold gN at this;rw[Bool.or_eq_false_iff]at this;exact⟨by simpa using this.1,by simpa using this.2⟩
 .have:=any_false h3 l hl;unfold eW at this;have:¬(l.init<0\/2<l.init):=by simpa using this
  omega
theorem EI(n:au):(cP n).flatMap aJ.to=n.ands.map (·.var)++n.mems.flatMap gD:=by
 unfold cP;rw[List.flatMap_append];congr 1
 .induction n.ands with|nil=>rfl|cons a l ih=>rw[List.map_cons,List.flatMap_cons,ih];rfl
 .rw[List.flatMap_assoc];congr 1;funext m;unfold gB gD;rw[List.flatMap_map];rfl
theorem agF{α:Type}{f:α->List Int}:∀{l:List α},(l.flatMap f).Nodup->∀{i j:Nat}{x y:α}{v:Int},l[i]?=some x->l[j]?=some y->v∈f x->v∈f y->i=j:=by
 intro l
 induction l with
 |nil=>intro _ i j x y v h;simp at h|cons a l ih=>
  intro hn i j x y v hi hj hx hy;rw[List.flatMap_cons,List.nodup_append]at hn;obtain⟨h1,h2,h3⟩:=hn;cases i with
  |zero=>cases j with|zero=>rfl|succ j=>simp at hi hj;subst hi;exact absurd rfl (h3 v hx v (List.mem_flatMap.2 ⟨y,List.mem_of_getElem? hj,hy⟩))
  |succ i=>cases j with|zero=>simp at hi hj;subst hj;exact absurd rfl (h3 v hy v (List.mem_flatMap.2 ⟨x,List.mem_of_getElem? hi,hx⟩))|succ j=>simp at hi hj;rw[ih h2 hi hj hx hy]
section
variable{n:au}{V:Nat}
theorem bo.toNodup(s:bo n V):((cP n).flatMap aJ.to).Nodup:=by rw[EI];have:=s.nodup;unfold bp at this;rw[List.append_assoc,List.nodup_append]at this;have:=this.2.1;rw[List.nodup_append]at this |-;exact⟨this.2.1,this.1,fun a ha b hb e=>this.2.2 b hb a ha e.symm⟩
theorem bo.toRng(s:bo n V){x:aJ}(hx:x∈cP n){v:Int}(hv:v∈x.to):1<=v/\v<=(V:Int):=by have:v∈(cP n).flatMap aJ.to:=List.mem_flatMap.2 ⟨x,hx,hv⟩;rw[EI]at this;refine s.rng v ?_;unfold bp;rcases List.mem_append.1 this with h|h<;>simp[h]
theorem bo.Za8p(s:bo n V){x:aJ}(hx:x∈cP n){l:Int}(hl:l∈x.frm):0<=l/\l / 2<=(V:Int):=by
 refine s.lits l ?_;unfold cP at hx;unfold bG;rcases List.mem_append.1 hx with hx|hx
 .obtain⟨a,ha,rfl⟩:=List.mem_map.1 hx;have:l∈n.ands.flatMap fJ:=List.mem_flatMap.2 ⟨a,ha,hl⟩;simp[this]
 .obtain⟨m,hm,hx⟩:=List.mem_flatMap.1 hx;obtain⟨r,hr,rfl⟩:=List.mem_map.1 hx;have:l∈n.mems.flatMap h9:=List.mem_flatMap.2 ⟨m,hm,by unfold h9;exact List.mem_append.2 (.inl (List.mem_flatMap.2 ⟨r,hr,hl⟩))⟩;simp[this]
theorem bo.toNe(s:bo n V){x:aJ}(hx:x∈cP n):x.to≠[]:=by
 unfold cP at hx;rcases List.mem_append.1 hx with hx|hx
 .obtain⟨a,ha,rfl⟩:=List.mem_map.1 hx;simp[fm]
 .obtain⟨m,hm,hx⟩:=List.mem_flatMap.1 hx;obtain⟨r,hr,rfl⟩:=List.mem_map.1 hx;have:=(s.mems m hm).2.2.1;unfold kQ bL;simp;omega
theorem Fb{i:Nat}:(aF n)[i]?=((cP n)[i]?).map aJ.nd:=by unfold aF;rw[List.getElem?_map]
theorem wE{x:Nd}(h:x∈aF n):∃y∈cP n,x=y.nd:=by unfold aF at h;obtain⟨y,h1,h2⟩:=List.mem_map.1 h;exact⟨y,h1,h2.symm⟩
theorem bo.apart(s:bo n V):c9 (aF n):=by
 intro i j x y v hi hj hx hy;rw[Fb]at hi hj;obtain⟨x',hi',rfl⟩:=Option.map_eq_some_iff.1 hi;obtain⟨y',hj',rfl⟩:=Option.map_eq_some_iff.1 hj;obtain⟨a,ha,e1⟩:=List.mem_map.1 hx;obtain⟨b,hb,e2⟩:=List.mem_map.1 hy;have r1:=s.toRng (List.mem_of_getElem? hi') ha;have r2:=s.toRng (List.mem_of_getElem? hj') hb;have:a=b:=by omega
 subst this;exact agF s.toNodup hi' hj' ha hb
theorem bo.hin(s:bo n V):∀x∈aF n,∀u∈x.frm,u<=V:=by intro x hx u hu;obtain⟨y,hy,rfl⟩:=wE hx;obtain⟨l,hl,rfl⟩:=List.mem_map.1 hu;have:=s.Za8p hy hl;omega
theorem bo.hto(s:bo n V):∀x∈aF n,x.to≠[]/\∀v∈x.to,v<=V:=by intro x hx;obtain⟨y,hy,rfl⟩:=wE hx;refine⟨by have:=s.toNe hy;unfold aJ.nd;simpa using this,fun v hv=>?_⟩;obtain⟨l,hl,rfl⟩:=List.mem_map.1 hv;have:=s.toRng hy hl;omega
end
def bP(n:au):Int:=if ca n≠0 then ca n else if de (aF n) n.vars.toNat then 0 else 8
def zc(p:Nat->Bool):Nat->Nat
 |0=>0|k+1=>(if p k then 1 else 0)+zc p k
theorem Rg{p q:Nat->Bool}:∀k,(∀v,v<k->p v=true->q v=true)->zc p k<=zc q k:=by
 intro k
 induction k with
 |zero=>intro _;exact Nat.le_refl _|succ k ih=>
  intro h;have h1:=ih fun v hv=>h v (by omega);have h2:=h k (by omega);simp only[zc];cases hp:p k
  .simp;omega
  .rw[h2 hp];simp;omega
theorem agC{p q:Nat->Bool}{v:Nat}:∀k,v<k->q v=true->p v=false->(∀v,v<k->p v=true->q v=true)->zc p k<zc q k:=by
 intro k
 induction k with
 |zero=>intro h;omega|succ k ih=>
  intro hv hq hp h;simp only[zc];by_cases e:v=k
  .subst e;have h1:=Rg (p:=p) (q:=q) v fun v hv=>h v (by omega);rw[hq,hp];simp;omega
  .have h1:=ih (by omega) hq hp fun v hv=>h v (by omega);have h2:=h k (by omega);cases hp:p k
   .simp;omega
   .rw[h2 hp];simp;omega
def fresh(V:Nat)(m:List Int):Nat:=zc (fun v=>lat m v == 0) (V+1)
section
variable{N:List Nd}{V:Nat}{m lv m' lv' m'' lv'':List Int}
structure VI(N:List Nd)(V:Nat)(m lv:List Int):Prop where
 ml:m.length=V+1
 ll:lv.length=V+1
 kd:∀v,v<=V->lat m v=0\/lat m v=1\/lat m v=2
 mate:∀x∈N,∀u∈x.to,∀v∈x.to,lat m u=lat m v
 free:∀v,v<=V->(∀x∈N,v∉x.to)->lat m v=0/\lat lv v=0
 done:∀v,v<=V->lat m v=2->∃k:Nat,lat lv v=(k:Int)/\bC N v k
structure Ext(V:Nat)(m lv m' lv':List Int):Prop where
 a:∀u,u<=V->lat m u=1->lat m' u=1
 b:∀u,u<=V->lat m' u=1->lat m u=1
 c:∀u,u<=V->lat m u=2->lat m' u=2/\lat lv' u=lat lv u
theorem Ext.refl:Ext V m lv m lv:=⟨fun _ _ h=>h,fun _ _ h=>h,fun _ _ h=>⟨h,rfl⟩⟩
theorem Ext.trans(h:Ext V m lv m' lv')(k:Ext V m' lv' m'' lv''):Ext V m lv m'' lv'':=⟨fun u hu h1=>k.a u hu (h.a u hu h1),fun u hu h1=>h.b u hu (k.b u hu h1),fun u hu h1=>⟨(k.c u hu (h.c u hu h1).1).1,by rw[(k.c u hu (h.c u hu h1).1).2,(h.c u hu h1).2]⟩⟩
def tl(N:List Nd)(m:List Int)(u:Nat):Prop:=lat m u=2\/∀x∈N,u∉x.to
theorem EM(i:VI N V m lv)(i':VI N V m' lv')(h:Ext V m lv m' lv'){u:Nat}(hu:u<=V)(t:tl N m u):tl N m' u/\lat lv' u=lat lv u:=by
 rcases t with t|t
 .exact⟨.inl (h.c u hu t).1,(h.c u hu t).2⟩
 .exact⟨.inr t,by rw[(i.free u hu t).2,(i'.free u hu t).2]⟩
theorem wx(i:VI N V m lv){u:Nat}(hu:u<=V)(t:tl N m u):∃k:Nat,lat lv u=(k:Int)/\bC N u k:=by
 rcases t with t|t
 .exact i.done u hu t
 .exact⟨0,by rw[(i.free u hu t).2];rfl,.free u t⟩
theorem ah1(i:VI N V m lv)(i':VI N V m' lv')(h:Ext V m lv m' lv'):fresh V m'<=fresh V m:=by
 refine Rg _ fun v hv hz=>?_;have hv:v<=V:=by omega
 have hz:lat m' v=0:=by simpa using hz
 rcases i.kd v hv with h0|h0|h0
 .simpa using h0
 .have:=h.a v hv h0;omega
 .have:=(h.c v hv h0).1;omega
theorem VI.under(ap:c9 N)(i:VI N V m lv){x:Nd}(hx:x∈N)(hto:∀v∈x.to,v<=V){v:Nat}(hv:v∈x.to)(h0:lat m v=0):VI N V (bD m x.to 1) lv:=by
 refine⟨by rw[iN,i.ml],i.ll,fun u hu=>?_,fun y hy a ha b hb=>?_,fun u hu hf=>?_,fun u hu h2=>?_⟩
 .rw[cV];split
  .exact .inr (.inl rfl)
  .exact i.kd u hu
 .rw[cV,cV];by_cases e:y=x
  .subst e;rw[if_pos ⟨ha,by rw[i.ml];have:=hto a ha;omega⟩,if_pos ⟨hb,by rw[i.ml];have:=hto b hb;omega⟩]
  .rw[if_neg fun h=>e (ap.same hy hx ha h.1),if_neg fun h=>e (ap.same hy hx hb h.1)];exact i.mate y hy a ha b hb
 .rw[cV,if_neg fun h=>hf x hx h.1];exact i.free u hu hf
 .rw[cV]at h2;split at h2
  .omega
  .exact i.done u hu h2
theorem ahc(i:VI N V m lv){x:Nd}(hx:x∈N){v:Nat}(hv:v∈x.to)(hV:v<=V)(h0:lat m v=0):fresh V (bD m x.to 1)<fresh V m:=by
 refine agC (v:=v) _ (by omega) (by simpa using h0) ?_ fun u hu hz=>?_
 .rw[cV,if_pos ⟨hv,by rw[i.ml];omega⟩];rfl
 .have hz:lat (bD m x.to 1) u=0:=by simpa using hz
  rw[cV]at hz;split at hz
  .omega
  .simpa using hz
theorem VI.close(ap:c9 N)(i0:VI N V m lv){x:Nd}(hx:x∈N)(hto:∀v∈x.to,v<=V)(hin:∀u∈x.frm,u<=V){v:Nat}(hv:v∈x.to)(h0:lat m v=0)
  (i:VI N V m' lv') (h:Ext V (bD m x.to 1) lv m' lv') (ht:∀u∈x.frm,tl N m' u) {L:Int}(hL:L=((mx (x.frm.map fun u=>(lat lv' u).toNat):Nat):Int)) :
  VI N V (bD m' x.to 2) (bD lv' x.to (L+1))/\Ext V m lv (bD m' x.to 2) (bD lv' x.to (L+1))/\tl N (bD m' x.to 2) v:=by
 have hml:=i.ml;have hll:=i.ll;have hlev:∀u∈x.frm,bC N u (lat lv' u).toNat:=fun u hu=>by obtain⟨k,h1,h2⟩:=wx i (hin u hu) (ht u hu);rw[h1];simpa using h2
 have hm0:∀u∈x.to,lat m u=0:=fun u hu=>by rw[i0.mate x hx u hu v hv,h0]
 refine⟨⟨by rw[iN,hml],by rw[iN,hll],fun u hu=>?_,fun y hy a ha b hb=>?_,fun u hu hf=>?_,fun u hu h2=>?_⟩,⟨fun u hu h1=>?_,fun u hu h1=>?_,fun u hu h2=>?_⟩,?_⟩
 .rw[cV];split
  .exact .inr (.inr rfl)
  .exact i.kd u hu
 .rw[cV,cV];by_cases e:y=x
  .subst e;rw[if_pos ⟨ha,by rw[hml];have:=hto a ha;omega⟩,if_pos ⟨hb,by rw[hml];have:=hto b hb;omega⟩]
  .rw[if_neg fun h=>e (ap.same hy hx ha h.1),if_neg fun h=>e (ap.same hy hx hb h.1)];exact i.mate y hy a ha b hb
 .rw[cV,if_neg fun h=>hf x hx h.1,cV,if_neg fun h=>hf x hx h.1];exact i.free u hu hf
 .by_cases hux:u∈x.to
  .refine⟨mx (x.frm.map fun u=>(lat lv' u).toNat)+1,?_,.node x u _ hx hux hlev⟩;rw[cV,if_pos ⟨hux,by rw[hll];omega⟩,hL];rfl
  .rw[cV,if_neg fun h=>hux h.1]at h2;rw[cV,if_neg fun h=>hux h.1];exact i.done u hu h2
 .have hux:u∉x.to:=fun hux=>by have:=hm0 u hux;omega
  rw[cV,if_neg fun h=>hux h.1];refine h.a u hu ?_;rw[cV,if_neg fun h=>hux h.1];exact h1
 .rw[cV]at h1;split at h1
  .omega
  .rename_i hn;have hux:u∉x.to:=fun hux=>hn ⟨hux,by rw[hml];omega⟩;have:=h.b u hu h1
   rwa [cV,if_neg fun h=>hux h.1]at this
 .have hux:u∉x.to:=fun hux=>by have:=hm0 u hux;omega
  have:=h.c u hu (by rw[cV,if_neg fun h=>hux h.1];exact h2);rw[cV,if_neg fun h=>hux h.1,cV,if_neg fun h=>hux h.1];exact this
 .refine .inl ?_;rw[cV,if_pos ⟨hv,by rw[hml];have:=hto v hv;omega⟩]
theorem ah9{x:Nd}(hx:x∈N){v l:Nat}(hv:v∈x.to)(hl:l∈x.frm)(hd:∀u,u<=V->lat m u=1->i9 N u v):∀u,u<=V->lat (bD m x.to 1) u=1->i9 N u l:=by
 intro u hu h;rw[cV]at h;split at h
 .rename_i hc;exact .one x u l hx hc.1 hl
 .exact .more x u v l (hd u hu h) hx hv hl
theorem vi0:VI N V (List.replicate (V+1) 0) (List.replicate (V+1) 0):=by
 have hz:∀v,lat (List.replicate (V+1) 0) v=0:=fun v=>by unfold lat;rw[List.getD_eq_getElem?_getD,List.getElem?_replicate];split<;>rfl
 exact⟨by simp,by simp,fun v _=>.inl (hz v),fun x _ u _ v _=>by rw[hz,hz],fun v _ _=>⟨hz v,hz v⟩,fun v _ h=>by rw[hz]at h;omega⟩
def dj(N:List Nd)(V:Nat):Nat->List Int
 |0=>List.replicate (V+1) 0|k+1=>match N[k]? with|some x=>bD (dj N V k) x.to ((k:Int)+1)|none=>dj N V k
theorem A8(N:List Nd)(V:Nat):∀k,(dj N V k).length=V+1:=by
 intro k
 induction k with|zero=>simp[dj]|succ k ih=>rw[dj];cases N[k]?<;>simp[iN,ih]
theorem Sp{k:Nat}{x:Nd}(h:N[k]?=some x):dj N V (k+1)=bD (dj N V k) x.to ((k:Int)+1):=by rw[dj,h]
theorem afL(ap:c9 N)(hto:∀x∈N,∀v∈x.to,v<=V):∀k v,v<=V->(lat (dj N V k) v=0/\∀i x,i<k->N[i]?=some x->v∉x.to)\/∃i x,i<k/\N[i]?=some x/\v∈x.to/\lat (dj N V k) v=(i:Int)+1:=by
 intro k
 induction k with
 |zero=>intro v _;left;refine⟨?_,fun i x h=>by omega⟩;unfold dj lat;rw[List.getD_eq_getElem?_getD,List.getElem?_replicate];split<;>rfl|succ k ih=>
  intro v hv;cases hk:N[k]? with
  |none=>
   rw[dj,hk];rcases ih v hv with⟨h1,h2⟩|⟨i,x,h1,h2,h3,h4⟩
   .left;refine⟨h1,fun i x hi hx=>?_⟩;by_cases e:i=k
    .subst e;rw[hk]at hx;cases hx
    .exact h2 i x (by omega) hx
   .exact .inr ⟨i,x,by omega,h2,h3,h4⟩
  |some y=>
   rw[Sp hk,cV];by_cases hvy:v∈y.to
   .rw[if_pos ⟨hvy,by rw[A8];omega⟩];exact .inr ⟨k,y,by omega,hk,hvy,rfl⟩
   .rw[if_neg fun h=>hvy h.1];rcases ih v hv with⟨h1,h2⟩|⟨i,x,h1,h2,h3,h4⟩
    .left;refine⟨h1,fun i x hi hx=>?_⟩;by_cases e:i=k
     .subst e;rw[hk]at hx;injection hx with hx;subst hx;exact hvy
     .exact h2 i x (by omega) hx
    .exact .inr ⟨i,x,by omega,h2,h3,h4⟩
theorem agn(ap:c9 N)(hto:∀x∈N,∀v∈x.to,v<=V){v:Nat}(hv:v<=V):(lat (dj N V N.length) v=0/\∀x∈N,v∉x.to)\/∃(i:Nat) (x:Nd),N[i]?=some x/\v∈x.to/\lat (dj N V N.length) v=(i:Int)+1:=by
 rcases afL ap hto N.length v hv with⟨h1,h2⟩|⟨i,x,h1,h2,h3,h4⟩
 .left;refine⟨h1,fun x hx=>?_⟩;obtain⟨i,hi,rfl⟩:=List.getElem_of_mem hx;exact h2 i _ hi (List.getElem?_eq_getElem hi)
 .exact .inr ⟨i,x,h2,h3,h4⟩
theorem agO{l:List Nat}{k u:Nat}{f:Nat->Nat}(h:l[k]?=some u):mx ((l.take (k+1)).map f)=max (mx ((l.take k).map f)) (f u):=by rw[cg h,List.map_append];exact aeP _ _
end
end Go.Proofs.YtkcpdpplobhpaaaGreat.Pl
end
section
namespace Go.Proofs.YtkcpdpplobhpaaaGreat.V
open Go Go.RowKit Go.Proofs.YtkcpdpplobhpaaaGreat.Pl
theorem ZF(v:Int)(k:Nat):bL v (k+1)=bL v k++[v+(k:Int)]:=by unfold bL;rw[List.range_succ,List.map_append];rfl
theorem pI(v:Int)(k:Nat):(bL v k).length=k:=by simp[bL]
theorem R8(m:aX)(i:Nat)(r:j3)(hr:m.reads[i]?=some r)(hw:0<=m.word/\m.word<=4000)(hv:-1099511627776<=r.var/\r.var<=1099511627776) :
  Lc (ak m,((i:Int),()))=some (bL r.var m.word.toNat,()):=by
 obtain⟨W,hW⟩:=Int.eq_ofNat_of_zero_le hw.1;have hi:=cr hr;have hr':(m.reads.map cq)[i]?=some (cq r):=by rw[List.getElem?_map,hr];rfl
 have hL:K8 ((i:Int),(m.word,((0:Int),(m.addr,(m.word,(m.any,(m.reads.map cq,(m.writes.map cK,([],())))))))))=some (bL r.var m.word.toNat,()):=by
  unfold K8;delta u9;rw[hW,Int.toNat_natCast];refine qb (fun k:Nat=>((i:Int),((W:Int),((k:Int),(m.addr,((W:Int),(m.any,(m.reads.map cq,(m.writes.map cK,(bL r.var k,())))))))))) W ?_ ?_ NN (aW (by omega))
  .intro k hk
   try dsimp only
   unfold A5;rw[fb (al (by omega)),cH (aA ⟨by omega,by rw[List.length_map];omega⟩),cH (iX (by simp[pI];omega) (by simp[pI];omega)),aS hr',show(cq r).1=r.var from rfl];rw[bf (x:=r.var+(k:Int)) (by omega),bf (x:=(k:Int)+1) (by omega),ZF];rfl
  .try dsimp only
   unfold A5;rw[dm (aw (by omega))];rfl
 show LD K8 (ak m) (i:Int)=_;unfold LD;rw[dm (aw (by omega)),JG,dm (aw (by simp only[ak,List.length_map,Int.ofNat_eq_natCast];omega))];exact(bw hL).trans rfl
def cd(x:aP):ag.T:=(x.rd,((x.mem:Int),((x.pos:Int),())))
abbrev WT:=Int×List Int×List aa.T×List Int×List Int×List Int×List ab.T×List aa.T×List Int×List ag.T×List Int×List Int×Unit
def jn(n:au)(of:List Int)(nd:List aP)(m lv:List Int):WT:=(n.vars,(n.inputs,(n.latches.map aB,(n.outputs,(n.bads,(n.constraints,(n.mems.map ak,(n.ands.map aY,(of,(nd.map cd,(m,(lv,()))))))))))))
theorem aes{n:au}{of m lv:List Int}{nd:List aP}{x:aP}{i:aJ}(h:x.is n i):Ya (x.rd,((x.mem:Int),((x.pos:Int),jn n of nd m lv)))=some (i.frm,jn n of nd m lv):=by
 show KQ x.rd (x.mem:Int) (x.pos:Int) n.vars n.inputs (n.latches.map aB) n.outputs n.bads n.constraints (n.mems.map ak) (n.ands.map aY) of (nd.map cd) m lv=_;unfold KQ;rcases h with⟨h,a,ha,rfl⟩|⟨h,M,r,hM,hr,rfl⟩
 .have ha':(n.ands.map aY)[x.pos]?=some (aY a):=by rw[List.getElem?_map,ha];rfl
  have hl:=cr ha';rw[h,dm rfl,cH (aA ⟨by omega,by omega⟩),aS ha'];rfl
 .have hM':(n.mems.map ak)[x.mem]?=some (ak M):=by rw[List.getElem?_map,hM];rfl
  have hr':(M.reads.map cq)[x.pos]?=some (cq r):=by rw[List.getElem?_map,hr];rfl
  have hl:=cr hM';have hl2:=cr hr';rw[h,fb rfl,cH (aA ⟨by omega,by omega⟩),aS hM',show(ak M).2.2.2.1=M.reads.map cq from rfl,cH (aA ⟨by omega,by omega⟩),aS hr'];rfl
theorem Rd{n:au}{of m lv:List Int}{nd:List aP}{x:aP}{i:aJ}(h:x.is n i)(ft:Fit n)(hw:∀M∈n.mems,0<=M.word) :
  sU (x.rd,((x.mem:Int),((x.pos:Int),jn n of nd m lv)))=some (i.to,jn n of nd m lv):=by
 show tg Lc x.rd (x.mem:Int) (x.pos:Int) n.vars n.inputs (n.latches.map aB) n.outputs n.bads n.constraints (n.mems.map ak) (n.ands.map aY) of (nd.map cd) m lv=_;unfold tg;rcases h with⟨h,a,ha,rfl⟩|⟨h,M,r,hM,hr,rfl⟩
 .have ha':(n.ands.map aY)[x.pos]?=some (aY a):=by rw[List.getElem?_map,ha];rfl
  have hl:=cr ha';rw[h,dm rfl,cH (aA ⟨by omega,by omega⟩),aS ha'];rfl
 .have hM':(n.mems.map ak)[x.mem]?=some (ak M):=by rw[List.getElem?_map,hM];rfl
  have hl:=cr hM';have hmem:=List.mem_of_getElem? hM;have hf:=ft.mems.2 M hmem;have hr2:=hf.rds r (List.mem_of_getElem? hr);rw[h,fb rfl,cH (aA ⟨by omega,by omega⟩),aS hM'];exact(bw (R8 M x.pos r hr ⟨hw M hmem,hf.word.2⟩ ⟨hr2.2.1,hr2.2.2.1⟩)).trans rfl
theorem SY{n:au}{of m lv:List Int}{nd:List aP}{V:Nat}(a:Int)(vs:List Int)(hln:vs.length<=100000)(hvs:∀v∈vs,0<=v/\v<=(V:Int))(hm:m.length=V+1) :
  X8 (a,(vs,jn n of nd m lv))=some (vs,jn n of nd (bD m (vs.map Int.toNat) a) lv):=by
 have hL:Kk (a,(vs,((vs.length:Int),((0:Int),(vs,jn n of nd m lv)))))=some (vs,jn n of nd (bD m (vs.map Int.toNat) a) lv):=by
  unfold Kk;delta jW;refine qb (fun k:Nat=>(a,(vs,((vs.length:Int),((k:Int),(vs,jn n of nd (bD m ((vs.take k).map Int.toNat) a) lv)))))) vs.length ?_ ?_ NN (aW (by omega))
  .intro k hk;unfold jn
   try dsimp only
   unfold Ae;have hv:=List.getElem?_eq_getElem hk;obtain⟨h0,h1⟩:=hvs _ (List.getElem_mem hk);obtain⟨v,hv2⟩:=Int.eq_ofNat_of_zero_le h0;rw[hv2]at hv h1;rw[fb (al (by omega)),cH (aA ⟨by omega,by omega⟩),aS (σ:=.int .i64) hv,cH (aA ⟨by omega,by rw[iN,hm];omega⟩),bf (x:=(k:Int)+1) (by omega)];rw[cg hv,List.map_append,List.map_cons,List.map_nil,tA];rfl
  .unfold jn
   try dsimp only
   unfold Ae;rw[dm (aw (by omega)),List.take_length];rfl
 show Ky Kk a vs n.vars n.inputs (n.latches.map aB) n.outputs n.bads n.constraints (n.mems.map ak) (n.ands.map aY) of (nd.map cd) m lv=_;unfold Ky;exact(bw hL).trans rfl
end Go.Proofs.YtkcpdpplobhpaaaGreat.V
end
section
namespace Go.Proofs.YtkcpdpplobhpaaaGreat.Pl
theorem rA{l:List Int}{v:Nat}(h:v<l.length):l[v]?=some (lat l v):=by unfold lat;rw[List.getD_eq_getElem?_getD,List.getElem?_eq_getElem h];rfl
theorem aer{n:au}{V:Nat}(hs:bo n V){y:aJ}(hy:y∈cP n){k:Nat}{l:Int}(h:y.frm[k]?=some l):∃u:Nat,l / 2=(u:Int)/\u<=V/\y.nd.frm[k]?=some u/\0<=l/\l<=2*V+1:=by have:=hs.Za8p hy (List.mem_of_getElem? h);refine⟨(l / 2).toNat,by omega,by omega,?_,by omega,by omega⟩;unfold aJ.nd;rw[List.getElem?_map,h];rfl
theorem Bd{n:au}{V:Nat}(hs:bo n V){y:aJ}(hy:y∈cP n):y.to.length<=64/\y.frm.length<=62:=by
 unfold cP at hy;rcases List.mem_append.1 hy with hy|hy
 .obtain⟨a,ha,rfl⟩:=List.mem_map.1 hy;simp[fm]
 .obtain⟨m,hm,hy⟩:=List.mem_flatMap.1 hy;obtain⟨r,hr,rfl⟩:=List.mem_map.1 hy;have h1:=hs.mems m hm;have h2:=h1.2.2.2.2.1 r hr;unfold kQ bL;simp;omega
theorem aeO{N:List Nd}{V:Nat}{m lv m' lv':List Int}(i:VI N V m lv)(i':VI N V m' lv')(h:Ext V m lv m' lv'){l:List Nat}(hl:∀u∈l,u<=V)(ht:∀u∈l,tl N m u) :
  mx (l.map fun u=>(lat lv' u).toNat)=mx (l.map fun u=>(lat lv u).toNat):=by
 rw[YY fun u hu=>by rw[(EM i i' h (hl u hu) (ht u hu)).2]]
theorem afD{N:List Nd}(ap:c9 N){V:Nat}{m lv:List Int}(i:VI N V m lv){l:List Nat}(hl:∀u∈l,u<=V)(ht:∀u∈l,tl N m u):mx (l.map fun u=>(lat lv u).toNat)<=N.length:=by refine Q7 fun z hz=>?_;obtain⟨u,hu,rfl⟩:=List.mem_map.1 hz;obtain⟨k,h1,h2⟩:=wx i (hl u hu) (ht u hu);rw[h1];have:=h2.le ap;simpa using this
theorem wi{α β:Type}(f:α->List β):∀(l:List α) (k:Nat),(∀x∈l,(f x).length<=k)->(l.flatMap f).length<=l.length*k:=by
 intro l k
 induction l with|nil=>intro _;simp|cons x l ih=>intro h;rw[List.flatMap_cons,List.length_append,List.length_cons,Nat.succ_mul];have h1:=ih fun y hy=>h y (by simp[hy]);have h2:=h x (by simp);omega
theorem Mh{n:au}{V:Nat}(hs:bo n V):(aF n).length<=3000:=by unfold aF cP;rw[List.length_map,List.length_append,List.length_map];have h1:=hs.lens;have h2:=wi gB n.mems 4 (fun m hm=>by unfold gB;rw[List.length_map];exact(hs.mems m hm).2.2.2.2.2.2.1);omega
end Go.Proofs.YtkcpdpplobhpaaaGreat.Pl
end
section
namespace Go.Proofs.YtkcpdpplobhpaaaGreat.V
open Go Go.RowKit Go.Proofs.YtkcpdpplobhpaaaGreat.Pl
theorem Sa(l:Int):te (l,())=some (l / 2,()):=by show LF l=_;unfold LF;rw[Int.fdiv_eq_ediv_of_nonneg _ (by decide)];rfl
theorem Zi{l q:Int}(h:l / 2=q):te (l,())=some (q,()):=by rw[Sa,h]
def agD(n:au)(V:Nat)(m lv:List Int)(v:Nat)(b:Bool)(m' lv':List Int):Prop:=(b=true/\VI (aF n) V m' lv'/\Ext V m lv m' lv'/\tl (aF n) m' v)\/(b=false/\∃u,u<=V/\∀k,¬bC (aF n) u k)
def wk(n:au)(V:Nat)(m lv:List Int):WT:=jn n (dj (aF n) V (aF n).length) (cG n) m lv
abbrev WV:=Int×List Int×List aa.T×List Int×List Int×List Int×List ab.T×List aa.T×List Int×List ag.T×List Int×List Int×List Int×Unit
def wv(n:au)(V:Nat)(m lv vs:List Int):WV:=(n.vars,(n.inputs,(n.latches.map aB,(n.outputs,(n.bads,(n.constraints,(n.mems.map ak,(n.ands.map aY,(dj (aF n) V (aF n).length,((cG n).map cd,(m,(lv,(vs,())))))))))))))
theorem afE{n:au}{V:Nat}{F:TL JW.σs->Option (Out zz)}(L:Nat)(hL:L<=3000)(m lv vs:List Int)(hln:vs.length<=100000)(hvs:∀v∈vs,0<=v/\v<=(V:Int))(hm:lv.length=V+1) :
  Km F ((L:Int),(vs,((vs.length:Int),((0:Int),wv n V m lv vs))))=some (wv n V m (bD lv (vs.map Int.toNat) ((L:Int)+1)) vs):=by
 unfold Km;refine qb (fun k:Nat=>((L:Int),(vs,((vs.length:Int),((k:Int),wv n V m (bD lv ((vs.take k).map Int.toNat) ((L:Int)+1)) vs))))) vs.length ?_ ?_ NN (aW (by omega))
 .intro k hk;unfold wv
  try dsimp only
  unfold Aq;have hv:=List.getElem?_eq_getElem hk;obtain⟨h0,h1⟩:=hvs _ (List.getElem_mem hk);obtain⟨v,hv2⟩:=Int.eq_ofNat_of_zero_le h0;rw[hv2]at hv h1;rw[fb (al (by omega)),cH (aA ⟨by omega,by omega⟩),aS (σ:=.int .i64) hv,cH (aA ⟨by omega,by rw[iN,hm];omega⟩),bf (x:=(k:Int)+1) (by omega),bf (x:=(L:Int)+1) (by omega)];rw[cg hv,List.map_append,List.map_cons,List.map_nil,tA];rfl
 .unfold wv
  try dsimp only
  unfold Aq;rw[dm (aw (by omega)),List.take_length];rfl
theorem ad4{n:au}{V:Nat}(hs:bo n V)(ft:Fit n):∀(F:Nat) (m lv:List Int) (v:Nat),VI (aF n) V m lv->(∀u,u<=V->lat m u=1->i9 (aF n) u v)->v<=V->fresh V m<F ->
  ∃b m' lv',px F ((v:Int),wk n V m lv)=some (b,wk n V m' lv')/\agD n V m lv v b m' lv':=by
 intro F
 induction F with
 |zero=>intro m lv v _ _ _ h;omega|succ F ih=>
  intro m lv v hI hD hv hF;have hV2:=hs.v2;have hnl:=Mh hs;have hmw:∀M∈n.mems,0<=M.word:=fun M hM=>by have:=hs.mems M hM;omega
  obtain⟨of,hof⟩:∃of,of=dj (aF n) V (aF n).length:=⟨_,rfl⟩;have hofl:of.length=V+1:=by rw[hof];exact A8 _ _ _
  have hofv:of[v]?=some (lat of v):=rA (by omega);have hmv:m[v]?=some (lat m v):=rA (by rw[hI.ml];omega);show ∃b m' lv',KM te (px F) Ya X8 sU (Ko (px F)) (Km (px F)) (v:Int) n.vars n.inputs (n.latches.map aB) n.outputs n.bads n.constraints (n.mems.map ak) (n.ands.map aY) (dj (aF n) V (aF n).length) ((cG n).map cd) m lv=_/\_;rw[<-hof];unfold KM;rw[cH (aA ⟨by omega,by omega⟩),aS (σ:=.int .i64) hofv];rcases agn hs.apart (fun x hx=>(hs.hto x hx).2) hv with⟨h1,h2⟩|⟨i,x,h1,h2,h3⟩
  .rw[<-hof]at h1;rw[h1,fb (al rfl)];exact⟨true,m,lv,by rw[hof];rfl,.inl ⟨rfl,hI,Ext.refl,.inr h2⟩⟩
  rw[<-hof]at h3;rw[h3,dm (aw (by omega)),cH (aA ⟨by omega,by rw[hI.ml];omega⟩),JG,aS (σ:=.int .u8) hmv];rcases hI.kd v hv with hk|hk|hk
  .-- its node's literals
   subst hof;have hil:=cr h1;have hnl2:(cG n).length=(aF n).length:=by rw[Y6];unfold aF;rw[List.length_map]
   obtain⟨xd,hxd⟩:∃xd,(cG n)[i]?=some xd:=⟨_,List.getElem?_eq_getElem (by omega)⟩;obtain⟨y,hy1,hy2⟩:=E5 n hxd;have hxy:x=y.nd:=by rw[Fb,hy1]at h1;simpa using h1.symm
   subst hxy;have hy:=List.mem_of_getElem? hy1;have hx:=List.mem_of_getElem? h1;have hxd':((cG n).map cd)[i]?=some (cd xd):=by rw[List.getElem?_map,hxd];rfl
   have hvs:∀u∈y.to,0<=u/\u<=(V:Int):=fun u hu=>by have:=hs.toRng hy hu;omega
   have hlens:=Bd hs hy;have hfr:∀u∈y.nd.frm,u<=V:=fun u hu=>hs.hin _ hx u hu;have hI5:=hI.under hs.apart hx (fun u hu=>(hs.hto _ hx).2 u hu) h2 hk;rw[hk,dm (aw (by omega)),cH (aA ⟨by omega,by rw[hI.ml];omega⟩),dm (aw (by omega)),cH (aA ⟨by omega,by omega⟩)];rw[show((i:Int)+1-1)=(i:Int) by omega,bf (x:=(i:Int)) (by omega),cH (aA ⟨by omega,by rw[List.length_map];omega⟩),aS hxd'];have e1:=Rd (of:=dj (aF n) V (aF n).length) (m:=m) (lv:=lv) (nd:=cG n) hy2 ft hmw;have e2:=SY (n:=n) (of:=dj (aF n) V (aF n).length) (nd:=cG n) (lv:=lv) 1 y.to (by omega) hvs hI.ml;have e3:=aes (n:=n) (of:=dj (aF n) V (aF n).length) (nd:=cG n) (m:=bD m (y.to.map Int.toNat) 1) (lv:=lv) hy2;have hL11:∃o,Ko (px F) ((0:Int),(y.frm,((y.frm.length:Int),((0:Int),wv n V (bD m y.nd.to 1) lv y.to))))=some o /\
     ((∃m' lv',o=.inl (false,wk n V m' lv')/\∃u,u<=V/\∀k,¬bC (aF n) u k) \/
      ∃(m' lv':List Int) (L:Nat),o=.inr ((L:Int),wv n V m' lv' y.to)/\VI (aF n) V m' lv'/\Ext V (bD m y.nd.to 1) lv m' lv'/\(∀u∈y.nd.frm,tl (aF n) m' u)/\L=mx (y.nd.frm.map fun u=>(lat lv' u).toNat)):=by
    unfold Ko;refine jt (fun d=>∃(k:Nat) (m' lv':List Int) (L:Nat),k<=y.frm.length/\d=((L:Int),(y.frm,((y.frm.length:Int),((k:Int),wv n V m' lv' y.to))))/\VI (aF n) V m' lv'/\Ext V (bD m y.nd.to 1) lv m' lv' /\
     (∀u∈y.nd.frm.take k,tl (aF n) m' u)/\L=mx ((y.nd.frm.take k).map fun u=>(lat lv' u).toNat)) _ (fun d=>y.frm.length-d.2.2.2.1.toNat) ?_ NN _ ⟨0,_,lv,0,Nat.zero_le _,rfl,hI5,Ext.refl,by simp,rfl⟩ (aW (by have:=hlens.2;omega))
    rintro d ⟨k,m',lv',L,hk',rfl,hI',hE',hT',hL⟩;unfold wv
    try dsimp only
    unfold KX;by_cases hlt:k<y.frm.length
    .have hl:=List.getElem?_eq_getElem hlt;obtain⟨u,hu1,hu2,hu3,hl0,hl1⟩:=aer hs hy hl;have hlt2:fresh V m'<F:=by have h1:=ah1 hI5 hI' hE';have h2:=ahc hI hx h2 hv hk;omega
     have hdep:∀t,t<=V->lat m' t=1->i9 (aF n) t u:=fun t ht h=>ah9 hx h2 (List.mem_of_getElem? hu3) hD t ht (hE'.b t ht h);obtain⟨b,m2,lv2,g1,g2⟩:=ih m' lv' u hI' hdep hu2 hlt2;rw[fb (al (by omega)),cH (aA ⟨by omega,by omega⟩),aS (σ:=.int .i64) hl];rcases g2 with⟨rfl,gI,gE,gT⟩|⟨rfl,u',hu',hno⟩
     .right;obtain⟨kk,hk1,hk2⟩:=wx gI hu2 gT;have hkl:=Nat.le_trans (hk2.le hs.apart) hnl;have hlu:lv2[u]?=some (kk:Int):=by rw[<-hk1];exact rA (by rw[gI.ll];omega)
      have hT:∀u'∈y.nd.frm.take (k+1),tl (aF n) m2 u':=fun u' h'=>by
       rw[cg hu3]at h';rcases List.mem_append.1 h' with h'|h'
       .exact(EM hI' gI gE (hfr u' (List.mem_of_mem_take h')) (hT' u' h')).1
       .simp at h';subst h';exact gT
      have hmx:mx ((y.nd.frm.take (k+1)).map fun u=>(lat lv2 u).toNat)=max L kk:=by rw[agO hu3,aeO hI' gI gE (fun u hu=>hfr u (List.mem_of_mem_take hu)) hT',<-hL,hk1,Int.toNat_natCast]
      refine⟨((max L kk:Nat),(y.frm,((y.frm.length:Int),(((k+1:Nat):Int),wv n V m2 lv2 y.to)))),?_,⟨k+1,m2,lv2,max L kk,by omega,rfl,gI,hE'.trans gE,hT,hmx.symm⟩,?_⟩
      .refine(bw (Zi hu1)).trans ((bw g1).trans ?_);refine(dm rfl).trans ((cH (aA ⟨by omega,by show(u:Int)<((List.length lv2:Nat):Int);rw[gI.ll];omega⟩)).trans ?_);have hsel:bO (@decide _ (Int.decLt (L:Int) (gt (.int .i64) lv2 (u:Int)))) (gt (.int .i64) lv2 (u:Int)) (L:Int)=((max L kk:Nat):Int):=by
        rw[aS (σ:=.int .i64) hlu];unfold bO;split
        .rename_i q;have q:=of_decide_eq_true q;have:max L kk=kk:=by omega
         rw[this]
        .rename_i q;have q:=of_decide_eq_false q;have:max L kk=L:=by omega
         rw[this]
       have e:∀a b a' b':Int,a=a'->b=b'->(some (.inl (a,(y.frm,((y.frm.length:Int),(b,wv n V m2 lv2 y.to))))):Option (TL zS.σs⊕Out zL))=some (.inl (a',(y.frm,((y.frm.length:Int),(b',wv n V m2 lv2 y.to))))):=by rintro _ _ _ _ rfl rfl;rfl
       exact e _ _ _ _ hsel (bf (x:=(k:Int)+1) (by omega))
      .show y.frm.length-((k+1:Nat):Int).toNat<y.frm.length-(k:Int).toNat;omega
     .left;refine⟨_,(bw (Zi hu1)).trans ((bw g1).trans ?_),.inl ⟨m2,lv2,rfl,u',hu',hno⟩⟩;exact(fb rfl).trans rfl
    .left;have hlen:y.nd.frm.length<=k:=by unfold aJ.nd;rw[List.length_map];omega
     rw[List.take_of_length_le hlen]at hT' hL;rw[dm (aw (by omega))];exact⟨_,rfl,.inr ⟨m',lv',L,rfl,hI',hE',hT',hL⟩⟩
   obtain⟨o,ho,hcase⟩:=hL11;rcases hcase with⟨m',lv',rfl,u',hu',hno⟩|⟨m',lv',L,rfl,hI',hE',hT',hL⟩
   .refine⟨false,m',lv',?_,.inr ⟨rfl,u',hu',hno⟩⟩;refine(bw e1).trans ((bw e2).trans ((bw e3).trans ((bw ho).trans ?_)));rfl
   .have hmxl:L<=3000:=by rw[hL];exact Nat.le_trans (afD hs.apart hI' hfr hT') hnl
    have c:=hI.close hs.apart hx (fun u hu=>(hs.hto _ hx).2 u hu) hfr h2 hk hI' hE' hT' (L:=(L:Int)) (by rw[hL]);have e5:=afE (n:=n) (V:=V) (F:=px F) L hmxl m' lv' y.to (by omega) hvs hI'.ll;have e6:=SY (n:=n) (of:=dj (aF n) V (aF n).length) (nd:=cG n) (lv:=bD lv' (y.to.map Int.toNat) ((L:Int)+1)) 2 y.to (by omega) hvs hI'.ml;refine⟨true,bD m' y.nd.to 2,bD lv' y.nd.to ((L:Int)+1),?_,.inl ⟨rfl,c.1,c.2.1,c.2.2⟩⟩;refine(bw e1).trans ((bw e2).trans ((bw e3).trans ((bw ho).trans ((bw e5).trans ?_))));exact(bw e6).trans rfl
  .rw[hk,dm (aw (by omega)),cH (aA ⟨by omega,by rw[hI.ml];omega⟩),fb (al rfl)];exact⟨false,m,lv,by rw[hof];rfl,.inr ⟨rfl,v,hv,fun k=>i9.none hs.apart (hD v hv hk) k⟩⟩
  .rw[hk,fb (al rfl)];exact⟨true,m,lv,by rw[hof];rfl,.inl ⟨rfl,hI,Ext.refl,.inl hk⟩⟩
theorem ada(m:aX)(i:Nat)(r:j3)(hr:m.reads[i]?=some r)(hw:0<=m.word/\m.word<=4000)(hv:-1099511627776<=r.var/\r.var<=1099511627776) :
  X9 (ak m,((i:Int),()))=some (bL r.var m.word.toNat,()):=by
 obtain⟨W,hW⟩:=Int.eq_ofNat_of_zero_le hw.1;have hi:=cr hr;have hr':(m.reads.map cq)[i]?=some (cq r):=by rw[List.getElem?_map,hr];rfl
 have hL:Ks ((i:Int),((0:Int),(m.addr,(m.word,(m.any,(m.reads.map cq,(m.writes.map cK,([],()))))))))=some (bL r.var m.word.toNat,()):=by
  unfold Ks;delta u8;rw[hW,Int.toNat_natCast];refine qb (fun k:Nat=>((i:Int),((k:Int),(m.addr,((W:Int),(m.any,(m.reads.map cq,(m.writes.map cK,(bL r.var k,()))))))))) W ?_ ?_ NN (aW (by omega))
  .intro k hk
   try dsimp only
   unfold AB;rw[fb (al (by omega)),cH (aA ⟨by omega,by rw[List.length_map];omega⟩),cH (iX (by simp[pI];omega) (by simp[pI];omega)),aS hr',show(cq r).1=r.var from rfl];rw[bf (x:=r.var+(k:Int)) (by omega),bf (x:=(k:Int)+1) (by omega),ZF];rfl
  .try dsimp only
   unfold AB;rw[dm (aw (by omega))];rfl
 show KO Ks (ak m) (i:Int)=_;unfold KO;rw[dm (aw (by omega)),JG,dm (aw (by simp only[ak,List.length_map,Int.ofNat_eq_natCast];omega))];exact(bw hL).trans rfl
theorem afm{l:Int}(h:0<=l/\l<=1000000){u:Nat}(hu:l / 2=(u:Int)):sX (l,())=some ((u:Int),()):=by show KW l=_;unfold KW;rw[Int.tdiv_eq_ediv_of_nonneg h.1,hu,bf (by omega)];rfl
def jT(L:List Int)(i:Int):Int:=gt (.int .i64) L i
theorem ry{L:List Int}{i:Nat}{x:Int}(h:L[i]?=some x):jT L (i:Int)=x:=aS (σ:=.int .i64) h
def bE(x:aP×aJ):cp.T:=(x.1.rd,((x.1.mem:Int),((x.1.pos:Int),(x.2.frm,(x.2.to,())))))
theorem adz{V:Nat}{B:Int}(x:aP×aJ)(out:List Int)(hB:∀u,u<=V->lat out u<=B)(hB0:0<=B/\B<=1000000000000)(hl:out.length=V+1)(hV:V<=2000)
  (hf:∀l∈x.2.frm,0<=l/\l<=2*(V:Int)+1) (hfl:x.2.frm.length<=100000):JZ (bE x,(out,()))=some (da out x.2.nd.frm 0,()):=by
 have hfr:∀k,x.2.nd.frm.drop k=(x.2.frm.drop k).map fun l=>(l / 2).toNat:=fun k=>by unfold aJ.nd;rw[List.map_drop]
 have hL:=jt (B:=fun d=>K3 sX d.1 d.2.1 d.2.2.1 d.2.2.2.1 d.2.2.2.2.1 d.2.2.2.2.2.1 d.2.2.2.2.2.2.1 d.2.2.2.2.2.2.2.1)
  (I:=fun d:TL sW.σs=>∃(k:Nat) (n:Int),d=(out,(n,((k:Int),bE x)))/\k<=x.2.frm.length/\0<=n/\n<=B/\da out (x.2.nd.frm.drop k) n=da out x.2.nd.frm 0)
  (Q:=fun o:Out sV=>(o=.inl ((-1:Int),())/\da out x.2.nd.frm 0 = -1)\/∃n:Int,o=.inr (n,())/\n<=B/\0<=n/\da out x.2.nd.frm 0=n+1)
  (μ:=fun d=>x.2.frm.length-d.2.2.1.toNat) ?_ NN (out,((0:Int),((0:Int),bE x))) ⟨0,0,rfl,by omega,by omega,hB0.1,by rw[List.drop_zero]⟩ (aW (by show _-_<=_;omega))
 .obtain⟨o,ho,hcase⟩:=hL;have ho':Zfs (out,((0:Int),((0:Int),bE x)))=some o:=ho;rcases hcase with⟨rfl,h⟩|⟨n,rfl,hn,hn0,h⟩
  .rw[h];exact af ho' rfl
  .rw[h];have e:∀a b:Int,a=b->(some (a,()):Option (Int×Unit))=some (b,()):=by rintro _ _ rfl;rfl
   exact af ho' (e _ _ (bf (x:=n+1) (by omega)))
 .rintro _ ⟨k,n,rfl,hk,h0,hn,hr⟩;by_cases hlt:k<x.2.frm.length
  .have hg:=List.getElem?_eq_getElem hlt;obtain⟨a1,a2⟩:=hf _ (List.getElem_mem hlt);obtain⟨u,hu⟩:=Int.eq_ofNat_of_zero_le (show 0<=x.2.frm[k] / 2 by omega);have huV:u<=V:=by omega
   have hlu:out[u]?=some (lat out u):=by unfold lat;rw[List.getD_eq_getElem?_getD,List.getElem?_eq_getElem (by omega)];rfl
   have e1:=afm (l:=x.2.frm[k]) ⟨a1,by omega⟩ hu;have hdrop:x.2.nd.frm.drop k=u::x.2.nd.frm.drop (k+1):=by rw[hfr,hfr,List.drop_eq_getElem_cons hlt,List.map_cons,hu];rfl
   rw[hdrop,da]at hr;by_cases hneg:lat out u<0
   .left;rw[if_pos hneg]at hr;refine⟨.inl ((-1:Int),()),?_,.inl ⟨rfl,hr.symm⟩⟩;refine av (al (show(k:Int)<((x.2.frm.length:Nat):Int) by omega)) (aj (aA ⟨show(0:Int)<=(k:Int) by omega,by show(k:Int)<((x.2.frm.length:Nat):Int);omega⟩) ?_);refine(bw (show sX (gt (.int .i64) x.2.frm (k:Int),())=some ((u:Int),()) by rw[aS (σ:=.int .i64) hg];exact e1)).trans ?_;refine aj (aA ⟨show(0:Int)<=(u:Int) by omega,by rw[hl];show(u:Int)<_;omega⟩) (av (al (show jT out (u:Int)<(0:Int) by rw[ry hlu];exact hneg)) rfl)
   .right;rw[if_neg hneg]at hr;have hBu:=hB u huV;refine⟨(out,((max n (lat out u):Int),(((k+1:Nat):Int),bE x))),?_,⟨k+1,max n (lat out u),rfl,by omega,by omega,by omega,hr⟩,?_⟩
    .refine av (al (show(k:Int)<((x.2.frm.length:Nat):Int) by omega)) (aj (aA ⟨show(0:Int)<=(k:Int) by omega,by show(k:Int)<((x.2.frm.length:Nat):Int);omega⟩) ?_);refine(bw (show sX (gt (.int .i64) x.2.frm (k:Int),())=some ((u:Int),()) by rw[aS (σ:=.int .i64) hg];exact e1)).trans ?_;refine aj (aA ⟨show(0:Int)<=(u:Int) by omega,by rw[hl];show(u:Int)<_;omega⟩) (ao (aw (show ¬jT out (u:Int)<(0:Int) by rw[ry hlu];exact hneg)) ?_);have e:∀a b a' b':Int,a=a'->b=b'->(some (.inl (out,(a,(b,bE x)))):Option (TL sW.σs⊕Out sV))=some (.inl (out,(a',(b',bE x)))):=by rintro _ _ _ _ rfl rfl;rfl
     refine e _ _ _ _ ?_ (bf (x:=(k:Int)+1) (by omega));show bO (decide (n<jT out (u:Int))) (jT out (u:Int)) n=_;rw[ry hlu];unfold bO;split
     .rename_i q;have q:=of_decide_eq_true q;show lat out u=_;omega
     .rename_i q;have q:=of_decide_eq_false q;show n=_;have q:¬n<lat out u:=q;omega
    .show x.2.frm.length-((k+1:Nat):Int).toNat<x.2.frm.length-(k:Int).toNat;omega
  .left;have hnil:x.2.nd.frm.drop k=[]:=by rw[hfr,List.drop_eq_nil_of_le (by omega)];rfl
   rw[hnil,da]at hr;exact⟨.inr (n,()),ao (aw (show ¬(k:Int)<((x.2.frm.length:Nat):Int) by omega)) rfl,.inr ⟨n,rfl,hn,h0,hr.symm⟩⟩
theorem ahr(l:List Int)(vs ws:List Nat)(x:Int):bD l (vs++ws) x=bD (bD l vs x) ws x:=by simp[bD,List.foldl_append]
theorem Mi{l:List Int}{x B:Int}(hx:x<=B):∀(vs:List Nat) {l:List Int},(∀u,lat l u<=B)->∀u,lat (bD l vs x) u<=B
 |[],l,h,u=>h u|v::vs,l,h,u=>by
  have:bD l (v::vs) x=bD (l.set v x) vs x:=rfl;rw[this];refine Mi (l:=l) hx vs (fun u=>?_) u;rw[S1];split
  .exact hx
  .exact h u
theorem Zx{out:List Int}{B:Int}(hB:∀u,lat out u<=B):∀(us:List Nat) (n:Int),n<=B->0<=B->da out us n<=B+1
 |[],n,h,h0=>by rw[da];omega|u::us,n,h,h0=>by
  rw[da];split
  .omega
  .exact Zx hB us _ (by have:=hB u;omega) h0
structure N6(N:List (aP×aJ))(V:Nat):Prop where
 v2:V<=2000
 len:N.length<=3000
 to:∀x∈N,x.2.to.length<=100000/\∀v∈x.2.to,0<=v/\v<=(V:Int)
 frm:∀x∈N,x.2.frm.length<=100000/\∀l∈x.2.frm,0<=l/\l<=2*(V:Int)+1
theorem agi{N:List (aP×aJ)}{V:Nat}(h6:N6 N V){i:Nat}{x:aP×aJ}(hx:N[i]?=some x)(out:List Int)(hl:out.length=V+1) :
  zZ (N.map bE,((i:Int),((0:Int),(out,()))))=some (N.map bE,((i:Int),(bD out x.2.nd.to (-1),()))):=by
 have hx':(N.map bE)[i]?=some (bE x):=by rw[List.getElem?_map,hx];rfl
 have hi:=cr hx';obtain⟨h1,h2⟩:=h6.to x (List.mem_of_getElem? hx);unfold zZ;delta u4;refine bN (fun k:Nat=>(N.map bE,((i:Int),((k:Int),(bD out ((x.2.to.take k).map Int.toNat) (-1),()))))) x.2.to.length rfl ?_ ?_ (aW (by omega))
 .intro k hk;have hv:=List.getElem?_eq_getElem hk;obtain⟨v0,v1⟩:=h2 _ (List.getElem_mem hk);obtain⟨v,hv2⟩:=Int.eq_ofNat_of_zero_le v0;rw[hv2]at hv v1
  try dsimp only
  unfold Ak;rw[cH (aA ⟨by omega,by omega⟩),aS hx'];refine av (al (show(k:Int)<((x.2.to.length:Nat):Int) by omega)) (aj (aA ⟨by omega,by omega⟩) (aj (aA ⟨show(0:Int)<=(k:Int) by omega,show(k:Int)<((x.2.to.length:Nat):Int) by omega⟩) ?_));have hg:jT x.2.to (k:Int)=(v:Int):=ry hv;refine aj (show ar (jT x.2.to (k:Int)) (List.length (bD out ((x.2.to.take k).map Int.toNat) (-1)))=true by rw[hg];exact aA ⟨by omega,by rw[iN,hl];omega⟩) ?_;have e:∀(a a':Int) (b b':List Int),a=a'->b=b'->(some (.inl (N.map bE,((i:Int),(a,(b,()))))):Option (TL zF.σs⊕Out zD))=some (.inl (N.map bE,((i:Int),(a',(b',()))))):=by rintro _ _ _ _ rfl rfl;rfl
  refine e _ _ _ _ (bf (x:=(k:Int)+1) (by omega)) ?_;rw[cg hv,List.map_append,List.map_cons,List.map_nil,tA];show List.set (bD out ((x.2.to.take k).map Int.toNat) (-1)) (jT x.2.to (k:Int)).toNat (-1)=_;rw[hg]
 .try dsimp only
  unfold Ak;rw[cH (aA ⟨by omega,by omega⟩),aS hx'];refine ao (aw (show ¬((x.2.to.length:Nat):Int)<((x.2.to.length:Nat):Int) by omega)) ?_;rw[List.take_length];rfl
theorem Qy{N:List (aP×aJ)}{V:Nat}(h6:N6 N V){i:Nat}{x:aP×aJ}(hx:N[i]?=some x)(a b c:Int)(out:List Int)(hl:out.length=V+1) :
  zG (N.map bE,(a,(b,((i:Int),(c,((0:Int),(out,())))))))=some (N.map bE,(a,(b,((i:Int),(bD out x.2.nd.to c,()))))):=by
 have hx':(N.map bE)[i]?=some (bE x):=by rw[List.getElem?_map,hx];rfl
 have hi:=cr hx';obtain⟨h1,h2⟩:=h6.to x (List.mem_of_getElem? hx);unfold zG;delta u7;refine bN (fun k:Nat=>(N.map bE,(a,(b,((i:Int),(c,((k:Int),(bD out ((x.2.to.take k).map Int.toNat) c,())))))))) x.2.to.length rfl ?_ ?_ (aW (by omega))
 .intro k hk;have hv:=List.getElem?_eq_getElem hk;obtain⟨v0,v1⟩:=h2 _ (List.getElem_mem hk);obtain⟨v,hv2⟩:=Int.eq_ofNat_of_zero_le v0;rw[hv2]at hv v1
  try dsimp only
  unfold z8;rw[cH (aA ⟨by omega,by omega⟩),aS hx'];refine av (al (show(k:Int)<((x.2.to.length:Nat):Int) by omega)) (aj (aA ⟨by omega,by omega⟩) (aj (aA ⟨show(0:Int)<=(k:Int) by omega,show(k:Int)<((x.2.to.length:Nat):Int) by omega⟩) ?_));have hg:jT x.2.to (k:Int)=(v:Int):=ry hv;refine aj (show ar (jT x.2.to (k:Int)) (List.length (bD out ((x.2.to.take k).map Int.toNat) c))=true by rw[hg];exact aA ⟨by omega,by rw[iN,hl];omega⟩) ?_;have e:∀(p p':Int) (q q':List Int),p=p'->q=q'->(some (.inl (N.map bE,(a,(b,((i:Int),(c,(p,(q,())))))))):Option (TL zB.σs⊕Out zA))=some (.inl (N.map bE,(a,(b,((i:Int),(c,(p',(q',())))))))):=by rintro _ _ _ _ rfl rfl;rfl
  refine e _ _ _ _ (bf (x:=(k:Int)+1) (by omega)) ?_;rw[cg hv,List.map_append,List.map_cons,List.map_nil,tA];show List.set (bD out ((x.2.to.take k).map Int.toNat) c) (jT x.2.to (k:Int)).toNat c=_;rw[hg]
 .try dsimp only
  unfold z8;rw[cH (aA ⟨by omega,by omega⟩),aS hx'];refine ao (aw (show ¬((x.2.to.length:Nat):Int)<((x.2.to.length:Nat):Int) by omega)) ?_;rw[List.take_length];rfl
theorem agh{N:List (aP×aJ)}{V:Nat}(h6:N6 N V)(out:List Int)(hl:out.length=V+1) :
  Kl (N.map bE,((0:Int),(out,())))=some (N.map bE,(bD out ((N.map (·.2.nd)).flatMap (·.to)) (-1),())):=by
 have hn:=h6.len;unfold Kl;delta u3;refine bN (fun i:Nat=>(N.map bE,((i:Int),(bD out (((N.take i).map (·.2.nd)).flatMap (·.to)) (-1),())))) N.length rfl ?_ ?_ (aW (by omega))
 .intro i hi;have hx:=List.getElem?_eq_getElem hi
  try dsimp only
  unfold Ap;refine av (al (show(i:Int)<(((N.map bE).length:Nat):Int) by rw[List.length_map];omega)) ((bw (agi h6 hx _ (by rw[iN,hl]))).trans ?_);have e:∀(p p':Int) (q q':List Int),p=p'->q=q'->(some (.inl (N.map bE,(p,(q,())))):Option (TL zQ.σs⊕Out zJ))=some (.inl (N.map bE,(p',(q',())))):=by rintro _ _ _ _ rfl rfl;rfl
  refine e _ _ _ _ (bf (x:=(i:Int)+1) (by omega)) ?_;rw[cg hx,List.map_append,List.flatMap_append,ahr];simp
 .try dsimp only
  unfold Ap;refine ao (aw (show ¬((N.length:Nat):Int)<(((N.map bE).length:Nat):Int) by rw[List.length_map];omega)) ?_;rw[List.take_length];rfl
theorem ag3(M:List Nd)(x:Nd)(out:List Int):fO (M++[x]) out=fj (fO M out) x:=by unfold fO;rw[List.foldl_append];rfl
theorem Lp:∀(M:List Nd) (out:List Int),(fO M out).length=out.length
 |[],out=>rfl|x::M,out=>by show(fO M (fj out x)).length=_;rw[Lp M,Y1]
theorem Zy(x:Nd):∀(M:List Nd) (out:List Int),dY (M++[x]) out=dY M out+(if da (fO M out) x.frm 0<0 then 1 else 0)
 |[],out=>by show(if da out x.frm 0<0 then 1 else 0)+0=0+_;rw[Nat.zero_add];rfl
 |y::M,out=>by show(if da out y.frm 0<0 then 1 else 0)+dY (M++[x]) (fj out y)=_;rw[Zy x M (fj out y)];show _=(if da out y.frm 0<0 then 1 else 0)+dY M (fj out y)+_;rw[Nat.add_assoc];rfl
theorem Mx:∀(M:List Nd) (out:List Int),dY M out<=M.length
 |[],out=>Nat.le_refl _|y::M,out=>by have:=Mx M (fj out y);show(if da out y.frm 0<0 then 1 else 0)+dY M (fj out y)<=M.length+1;split<;>omega
theorem LJ:∀(M:List Nd) {out:List Int}{B:Int},0<=B->(∀u,lat out u<=B)->∀u,lat (fO M out) u<=B+(M.length:Int)
 |[],out,B,h0,h,u=>by have:=h u;show lat out u<=B+((0:Nat):Int);omega|y::M,out,B,h0,h,u=>by have h1:∀u,lat (fj out y) u<=B+1:=Mi (l:=out) (Zx h y.frm 0 h0 h0) y.to (fun u=>by have:=h u;omega);have:=LJ M (out:=fj out y) (B:=B+1) (by omega) h1 u;show lat (fO M (fj out y)) u<=B+((M.length+1:Nat):Int);omega
theorem afB{N:List (aP×aJ)}{V:Nat}(h6:N6 N V){B:Int}(r:Int)(out:List Int)(hl:out.length=V+1)(hB:∀u,lat out u<=B)(hB0:0<=B/\B<=900000000000) :
  zX (N.map bE,((0:Int),(r,((0:Int),(out,())))))=some (N.map bE,((dY (N.map (·.2.nd)) out:Int),(r,(fO (N.map (·.2.nd)) out,())))):=by
 have hn:=h6.len;unfold zX;delta u5;refine bN (fun i:Nat=>(N.map bE,((dY ((N.take i).map (·.2.nd)) out:Int),(r,((i:Int),(fO ((N.take i).map (·.2.nd)) out,())))))) N.length rfl ?_ ?_ (aW (by omega))
 .intro i hi;have hx:=List.getElem?_eq_getElem hi;have hx':(N.map bE)[i]?=some (bE N[i]):=by rw[List.getElem?_map,hx];rfl
  obtain⟨f1,f2⟩:=h6.frm _ (List.getElem_mem hi);have hlen:((N.take i).map (fun x:aP×aJ=>x.2.nd)).length<=3000:=by rw[List.length_map,List.length_take];omega
  have hle:=Mx ((N.take i).map (fun x:aP×aJ=>x.2.nd)) out;have hb:=LJ ((N.take i).map (fun x:aP×aJ=>x.2.nd)) hB0.1 hB;have hrl:(fO ((N.take i).map (fun x:aP×aJ=>x.2.nd)) out).length=V+1:=by rw[Lp,hl]
  have e1:=adz (V:=V) (B:=B+(((N.take i).map (fun x:aP×aJ=>x.2.nd)).length:Int)) N[i] _ (fun u _=>hb u) ⟨by omega,by omega⟩ hrl h6.v2 f2 f1
  try dsimp only
  unfold Aa;refine av (al (show(i:Int)<(((N.map bE).length:Nat):Int) by rw[List.length_map];omega)) (aj (aA ⟨by omega,by rw[List.length_map];omega⟩) ?_);rw[aS hx'];refine(bw e1).trans ?_;have e:∀(p p' q q':Int) (s s':List Int),p=p'->q=q'->s=s'->(some (.inl (N.map bE,(p,(r,(q,(s,())))))):Option (TL zE.σs⊕Out zC))=some (.inl (N.map bE,(p',(r,(q',(s',())))))):=by rintro _ _ _ _ _ _ rfl rfl rfl;rfl
  have hs:fO ((N.take (i+1)).map (fun x:aP×aJ=>x.2.nd)) out=bD (fO ((N.take i).map (fun x:aP×aJ=>x.2.nd)) out) N[i].2.nd.to (da (fO ((N.take i).map (fun x:aP×aJ=>x.2.nd)) out) N[i].2.nd.frm 0):=by rw[cg hx,List.map_append];exact ag3 _ _ _
  have hc:dY ((N.take (i+1)).map (fun x:aP×aJ=>x.2.nd)) out=dY ((N.take i).map (fun x:aP×aJ=>x.2.nd)) out+(if da (fO ((N.take i).map (fun x:aP×aJ=>x.2.nd)) out) N[i].2.nd.frm 0<0 then 1 else 0):=by rw[cg hx,List.map_append];exact Zy _ _ _
  rw[hs,hc];by_cases hneg:da (fO ((N.take i).map (fun x:aP×aJ=>x.2.nd)) out) N[i].2.nd.frm 0<0
  .rw[if_pos hneg];refine av (al hneg) ((bw (Qy h6 hx _ r _ _ hrl)).trans ?_);exact e _ _ _ _ _ _ ((bf (x:=((dY ((N.take i).map (fun x:aP×aJ=>x.2.nd)) out:Nat):Int)+1) (by omega)).trans (by omega)) (bf (x:=(i:Int)+1) (by omega)) rfl
  .rw[if_neg hneg];refine ao (aw hneg) ((bw (Qy h6 hx _ r _ _ hrl)).trans ?_);exact e _ _ _ _ _ _ rfl (bf (x:=(i:Int)+1) (by omega)) rfl
 .try dsimp only
  unfold Aa;refine ao (aw (show ¬((N.length:Nat):Int)<(((N.map bE).length:Nat):Int) by rw[List.length_map];omega)) ?_;rw[List.take_length];rfl
theorem Zn(M:List Nd)(out:List Int):∀r,(fc M r out).length=out.length
 |0=>rfl|r+1=>by rw[fc,Lp,Zn M out r]
theorem Y3(M:List Nd){out:List Int}(h:∀u,lat out u<=0):∀r u,lat (fc M r out) u<=(r:Int)*(M.length:Int)
 |0,u=>by have:=h u;show lat out u<=((0:Nat):Int)*_;omega|r+1,u=>by
  have h1:=LJ M (out:=fc M r out) (B:=(r:Int)*(M.length:Int)) (Int.mul_nonneg (by omega) (by omega)) (Y3 M h r) u;rw[fc];have:((r+1:Nat):Int)*(M.length:Int)=(r:Int)*(M.length:Int)+(M.length:Int):=by rw[Int.natCast_add,Int.add_mul];simp
  omega
theorem afA{N:List (aP×aJ)}{V:Nat}(h6:N6 N V)(out:List Int)(hl:out.length=V+1)(hB:∀u,lat out u<=0) :
  Kj (N.map bE,((0:Int),((0:Int),(out,()))))=some ((dY (N.map (fun x:aP×aJ=>x.2.nd)) (fc (N.map (fun x:aP×aJ=>x.2.nd)) N.length out):Int),(fc (N.map (fun x:aP×aJ=>x.2.nd)) (N.length+1) out,())):=by
 have hn:=h6.len;unfold Kj;delta u4;refine bN (fun r:Nat=>(N.map bE,((match r with|0=>(0:Int)|r+1=>(dY (N.map (fun x:aP×aJ=>x.2.nd)) (fc (N.map (fun x:aP×aJ=>x.2.nd)) r out):Int)),((r:Int),(fc (N.map (fun x:aP×aJ=>x.2.nd)) r out,()))))) (N.length+1) rfl ?_ ?_ (aW (by omega))
 .intro r hr;have hb:=Y3 (N.map (fun x:aP×aJ=>x.2.nd)) hB r;have hm:(r:Int)*((N.map (fun x:aP×aJ=>x.2.nd)).length:Int)<=3000*3000:=by rw[List.length_map];exact Int.mul_le_mul (by omega) (by omega) (by omega) (by omega)
  have h0:0<=(r:Int)*((N.map (fun x:aP×aJ=>x.2.nd)).length:Int):=Int.mul_nonneg (by omega) (by omega);have e1:=afB h6 (r:Int) (fc (N.map (fun x:aP×aJ=>x.2.nd)) r out) (by rw[Zn,hl]) hb ⟨h0,by omega⟩
  try dsimp only
  unfold Ad;refine av (al (show(r:Int)<=(((N.map bE).length:Nat):Int) by rw[List.length_map];omega)) ((bw e1).trans ?_);have e:∀(p q q':Int) (s:List Int),q=q'->(some (.inl (N.map bE,(p,(q,(s,()))))):Option (TL zK.σs⊕Out zH))=some (.inl (N.map bE,(p,(q',(s,()))))):=by rintro _ _ _ _ rfl;rfl
  exact e _ _ _ _ (bf (x:=(r:Int)+1) (by omega))
 .try dsimp only
  unfold Ad;refine ao (aw (show ¬((N.length+1:Nat):Int)<=(((N.map bE).length:Nat):Int) by rw[List.length_map];omega)) ?_;rfl
def nt{α:Type}(n:au)(r:α):Int×List Int×List aa.T×List Int×List Int×List Int×List ab.T×List aa.T×α:=(n.vars,(n.inputs,(n.latches.map aB,(n.outputs,(n.bads,(n.constraints,(n.mems.map ak,(n.ands.map aY,r))))))))
abbrev W4:=List Int×List ag.T×List Int×List Int×Unit
def w4(of:List Int)(nd:List aP)(m lv:List Int):W4:=(of,(nd.map cd,(m,(lv,()))))
def fZ(k:Nat):List aP:=(List.range k).map fun i=>⟨false,0,i⟩
theorem Rx(k:Nat):fZ (k+1)=fZ k++[⟨false,0,k⟩]:=by unfold fZ;rw[List.range_succ,List.map_append];rfl
theorem pH(k:Nat):(fZ k).length=k:=by simp[fZ]
theorem agA(n:au)(of m lv:List Int)(hA:n.ands.length<=2000):AN ((n.ands.length:Int),((0:Int),nt n (nt n (w4 of [] m lv))))=some (nt n (nt n (w4 of (fZ n.ands.length) m lv))):=by
 unfold AN;delta nX;refine qb (fun k:Nat=>((n.ands.length:Int),((k:Int),nt n (nt n (w4 of (fZ k) m lv))))) n.ands.length ?_ ?_ NN (aW (by omega))
 .intro k hk;unfold nt w4
  try dsimp only
  unfold AW;refine av (al (by omega)) (aj (jj (L:=(fZ k).map cd) (by rw[List.length_map,pH];omega) (by decide)) ?_);rw[bf (x:=(k:Int)+1) (by omega),Rx,List.map_append];rfl
 .unfold nt w4
  try dsimp only
  unfold AW;rw[dm (aw (by omega))];rfl
def jl(j k:Nat):List aP:=(List.range k).map fun i=>⟨true,j,i⟩
theorem Sm(j k:Nat):jl j (k+1)=jl j k++[⟨true,j,k⟩]:=by unfold jl;rw[List.range_succ,List.map_append];rfl
theorem LV(j k:Nat):(jl j k).length=k:=by simp[jl]
theorem afX(n:au)(of m lv:List Int)(j M R:Nat)(pre:List aP)(hj:j<=4)(hM:M<=4)(hR:R<=4)(hp:pre.length<=3000) :
  AE ((j:Int),((M:Int),((j:Int),((R:Int),((0:Int),nt n (nt n (w4 of pre m lv)))))))=some ((M:Int),((j:Int),nt n (nt n (w4 of (pre++jl j R) m lv)))):=by
 unfold AE;refine bN (fun k:Nat=>((j:Int),((M:Int),((j:Int),((R:Int),((k:Int),nt n (nt n (w4 (of) (pre++jl j k) m lv)))))))) R (by rw[show jl j 0=[]from rfl,List.append_nil];rfl) ?_ ?_ (aW (by omega))
 .intro k hk;unfold nt w4
  try dsimp only
  unfold AS;refine av (al (by omega)) (aj (jj (L:=(pre++jl j k).map cd) (by rw[List.length_map,List.length_append,LV];omega) (by decide)) ?_);rw[bf (x:=(k:Int)+1) (by omega),Sm,<-List.append_assoc,List.map_append (l₁:=pre++jl j k)];rfl
 .unfold nt w4
  try dsimp only
  unfold AS;rw[dm (aw (by omega))];rfl
theorem LY(k:Nat):∀(l:List aX) (m:aX),fE k (l++[m])=fE k l++Pl.fh (k+l.length) m
 |[],m=>by simp[fE]|x::l,m=>by rw[List.cons_append,fE,fE,LY (k+1) l m,List.append_assoc,List.length_cons,show k+1+l.length=k+(l.length+1) by omega]
theorem agB(n:au)(of m lv:List Int)(hA:n.ands.length<=2000)(hM:n.mems.length<=4)(hR:∀M∈n.mems,M.reads.length<=4) :
  AM ((n.mems.length:Int),((0:Int),nt n (nt n (w4 of (fZ n.ands.length) m lv))))=some (nt n (w4 of (cG n) m lv)):=by
 have hlen:∀k,k<=n.mems.length->(fZ n.ands.length++fE 0 (n.mems.take k)).length<=3000:=by
  intro k hk;rw[List.length_append,pH,pF];have:=wi gB (n.mems.take k) 4 (fun M hM=>by unfold gB;rw[List.length_map];exact hR M (List.mem_of_mem_take hM));have h2:(n.mems.take k).length<=4:=by rw[List.length_take];omega
  omega
 unfold AM;delta nX;refine bN (fun k:Nat=>((n.mems.length:Int),((k:Int),nt n (nt n (w4 of (fZ n.ands.length++fE 0 (n.mems.take k)) m lv))))) n.mems.length (by rw[List.take_zero,show fE 0 []=[]from rfl,List.append_nil];rfl) ?_ ?_ (aW (by omega))
 .intro k hk;have hMk:=List.getElem?_eq_getElem hk;have hMk':(n.mems.map ak)[k]?=some (ak n.mems[k]):=by rw[List.getElem?_map,hMk];rfl
  have hrk:=hR _ (List.getElem_mem hk);unfold nt w4
  try dsimp only
  unfold AU;rw[fb (al (by omega)),cH (aA ⟨by omega,by rw[List.length_map];omega⟩),aS hMk'];have e:=afX n of m lv k n.mems.length n.mems[k].reads.length _ (by omega) hM hrk (hlen k (by omega));have hl:List.length (ak n.mems[k]).2.2.2.1=n.mems[k].reads.length:=List.length_map _;rw[hl];refine(bw e).trans ?_;have e2:fZ n.ands.length++fE 0 (n.mems.take (k+1))=fZ n.ands.length++fE 0 (n.mems.take k)++jl k n.mems[k].reads.length:=by rw[cg hMk,LY,List.append_assoc,List.length_take,Nat.min_eq_left (by omega),Nat.zero_add];rfl
  rw[e2];have hw:=bf (x:=(k:Int)+1) (by omega);show some (Sum.inl (_,(IntKind.wrap (.i64:IntKind) ((k:Int)+1),_)))=_;rw[hw];rfl
 .unfold nt w4
  try dsimp only
  unfold AU;rw[dm (aw (by omega)),List.take_length];rfl
theorem afZ(n:au)(V:Nat)(of m lv vs:List Int)(nd:List aP)(a b:Int)(k:Nat)(hk:k<=3000)(hln:vs.length<=100000)(hvs:∀v∈vs,0<=v/\v<=(V:Int))(hof:of.length=V+1) :
  AD ((k:Int),(a,(b,(vs,((vs.length:Int),((0:Int),nt n (w4 of nd m lv)))))))=some (a,(b,nt n (w4 (bD of (vs.map Int.toNat) ((k:Int)+1)) nd m lv))):=by
 unfold AD;delta BE;refine bN (fun j:Nat=>((k:Int),(a,(b,(vs,((vs.length:Int),((j:Int),nt n (w4 (bD of ((vs.take j).map Int.toNat) ((k:Int)+1)) nd m lv)))))))) vs.length rfl ?_ ?_ (aW (by omega))
 .intro j hj;have hv:=List.getElem?_eq_getElem hj;obtain⟨h0,h1⟩:=hvs _ (List.getElem_mem hj);obtain⟨v,hv2⟩:=Int.eq_ofNat_of_zero_le h0;rw[hv2]at hv h1;unfold nt w4
  try dsimp only
  unfold AQ;rw[fb (al (by omega)),cH (aA ⟨by omega,by omega⟩),aS (σ:=.int .i64) hv,cH (aA ⟨by omega,by rw[iN,hof];omega⟩),bf (x:=(j:Int)+1) (by omega),bf (x:=(k:Int)+1) (by omega)];rw[cg hv,List.map_append,List.map_cons,List.map_nil,tA];rfl
 .unfold nt w4
  try dsimp only
  unfold AQ;rw[dm (aw (by omega)),List.take_length];rfl
theorem afY{n:au}{V:Nat}(hs:bo n V)(ft:Fit n)(m lv:List Int):AL (((cG n).length:Int),((0:Int),nt n (w4 (List.replicate (V+1) 0) (cG n) m lv)))=some (wk n V m lv):=by
 have hnl:=Mh hs;have hV2:=hs.v2;have hnl2:(cG n).length=(aF n).length:=by rw[Y6];unfold aF;rw[List.length_map]
 have hmw:∀M∈n.mems,0<=M.word:=fun M hM=>by have:=hs.mems M hM;omega
 unfold AL;delta eJ;refine bN (fun k:Nat=>(((cG n).length:Int),((k:Int),nt n (w4 (dj (aF n) V k) (cG n) m lv)))) (cG n).length rfl ?_ ?_ (aW (by omega))
 .intro k hk;have hxd:=List.getElem?_eq_getElem hk;obtain⟨y,hy1,hy2⟩:=E5 n hxd;have hy:=List.mem_of_getElem? hy1;have hx:(aF n)[k]?=some y.nd:=by rw[Fb,hy1];rfl
  have hxd':((cG n).map cd)[k]?=some (cd (cG n)[k]):=by rw[List.getElem?_map,hxd];rfl
  have hvs:∀u∈y.to,0<=u/\u<=(V:Int):=fun u hu=>by have:=hs.toRng hy hu;omega
  have hlens:=Bd hs hy;have e1:=Rd (of:=dj (aF n) V k) (m:=m) (lv:=lv) (nd:=cG n) hy2 ft hmw;have e2:=afZ n V (dj (aF n) V k) m lv y.to (cG n) ((cG n).length:Int) (k:Int) k (by omega) (by omega) hvs (A8 _ _ _);unfold nt w4
  try dsimp only
  unfold AR;refine av (al (by omega)) (aj (aA ⟨by omega,by rw[List.length_map];omega⟩) ?_);rw[aS hxd'];refine af e1 (af e2 ?_);rw[Sp hx];have hw:=bf (x:=(k:Int)+1) (by omega);show some (Sum.inl (_,(IntKind.wrap (.i64:IntKind) ((k:Int)+1),_)))=_;rw[hw];rfl
 .unfold nt w4
  try dsimp only
  unfold AR;rw[dm (aw (by omega)),hnl2];rfl
theorem Xg{n:au}{V:Nat}(hs:bo n V)(ft:Fit n):Zo9 (nt n ())=some (wk n V (List.replicate (V+1) 0) (List.replicate (V+1) 0)):=by
 have hV2:=hs.v2;have hvars:=hs.vars;have e3:=agA n (List.replicate (V+1) 0) (List.replicate (V+1) 0) (List.replicate (V+1) 0) hs.lens.2.2.1;have e8:=agB n (List.replicate (V+1) 0) (List.replicate (V+1) 0) (List.replicate (V+1) 0) hs.lens.2.2.1 hs.lens.2.2.2.2 (fun M hM=>(hs.mems M hM).2.2.2.2.2.2.1);have e17:=afY hs ft (List.replicate (V+1) 0) (List.replicate (V+1) 0);have hw:IntKind.wrap (.i64:IntKind) (n.vars+1)=((V+1:Nat):Int):=by rw[hvars,bf (by omega)];omega
 show Lm sU AN AM AE AL AD n.vars n.inputs (n.latches.map aB) n.outputs n.bads n.constraints (n.mems.map ak) (n.ands.map aY)=_;unfold Lm;rw[hw];have hc:∀k:Int,0<=k->k<=8->both (decide ((0:Int)<=((V+1:Nat):Int))) (both (decide (((V+1:Nat):Int)<=((V+1:Nat):Int))) (decide (k*((V+1:Nat):Int)<=281474976710656)))=true:=by intro k h0 h8;rw[decide_eq_true (by omega),decide_eq_true (by omega),decide_eq_true (by have:k*((V+1:Nat):Int)<=8*((V+1:Nat):Int):=Int.mul_le_mul_of_nonneg_right h8 (by omega);omega)];rfl
 have e3':AN (((List.map aY n.ands).length:Int),((0:Int),nt n (nt n (w4 (List.replicate (V+1) 0) [] (List.replicate (V+1) 0) (List.replicate (V+1) 0)))))=some (nt n (nt n (w4 (List.replicate (V+1) 0) (fZ n.ands.length) (List.replicate (V+1) 0) (List.replicate (V+1) 0)))):=by rw[List.length_map];exact e3
 have e8':AM (((List.map ak n.mems).length:Int),((0:Int),nt n (nt n (w4 (List.replicate (V+1) 0) (fZ n.ands.length) (List.replicate (V+1) 0) (List.replicate (V+1) 0)))))=some (nt n (w4 (List.replicate (V+1) 0) (cG n) (List.replicate (V+1) 0) (List.replicate (V+1) 0))):=by rw[List.length_map];exact e8
 have e17':AL (((List.map cd (cG n)).length:Int),((0:Int),nt n (w4 (List.replicate (V+1) 0) (cG n) (List.replicate (V+1) 0) (List.replicate (V+1) 0))))=some (wk n V (List.replicate (V+1) 0) (List.replicate (V+1) 0)):=by rw[List.length_map];exact e17
 exact aj (hc 8 (by decide) (by decide)) (aj (hc 1 (by decide) (by decide)) (aj (hc 8 (by decide) (by decide)) (af e3' (af e8' (af e17' rfl)))))
theorem adn{V:Nat}{m:List Int}(h:V<=2000):fresh V m<NN:=by
 have z:∀(p:Nat->Bool) k,zc p k<=k:=by
  intro p k
  induction k with|zero=>exact Nat.le_refl _|succ k ih=>rw[zc];split<;>omega
 have:fresh V m<=V+1:=z _ _;exact aW (by omega)
theorem Qi{n:au}{V:Nat}(hs:bo n V)(ft:Fit n) :
  ∃m lv,Zhj (wk n V (List.replicate (V+1) 0) (List.replicate (V+1) 0))=some (de (aF n) V,wk n V m lv) /\
   (de (aF n) V=true->lv.length=V+1/\∀v,v<=V->∃k:Nat,lat lv v=(k:Int)/\bC (aF n) v k):=by
 have hV2:=hs.v2;have hL:=jt (B:=fun d=>K4 Kg d.1 d.2.1 d.2.2.1 d.2.2.2.1 d.2.2.2.2.1 d.2.2.2.2.2.1 d.2.2.2.2.2.2.1 d.2.2.2.2.2.2.2.1 d.2.2.2.2.2.2.2.2.1 d.2.2.2.2.2.2.2.2.2.1 d.2.2.2.2.2.2.2.2.2.2.1 d.2.2.2.2.2.2.2.2.2.2.2.1 d.2.2.2.2.2.2.2.2.2.2.2.2.1 d.2.2.2.2.2.2.2.2.2.2.2.2.2.1)
  (I:=fun d:Int×Int×WT=>∃(k:Nat) (m lv:List Int),d=(((V+1:Nat):Int),((k:Int),wk n V m lv))/\k<=V+1/\VI (aF n) V m lv/\(∀u,u<=V->lat m u≠1)/\(∀u,u<k->tl (aF n) m u))
  (Q:=fun o:Out z6=>(∃m lv,o=.inl (false,wk n V m lv)/\∃u,u<=V/\∀k,¬bC (aF n) u k)\/(∃m lv,o=.inr (wk n V m lv)/\VI (aF n) V m lv/\∀u,u<V+1->tl (aF n) m u))
  (μ:=fun d=>V+1-d.2.1.toNat) ?_ NN (((V+1:Nat):Int),((0:Int),wk n V (List.replicate (V+1) 0) (List.replicate (V+1) 0))) ⟨0,_,_,rfl,by omega,vi0,fun u hu=>by unfold lat;rw[List.getD_eq_getElem?_getD,List.getElem?_replicate];split<;>simp,fun u h=>by omega⟩ (aW (by omega))
 .obtain⟨o,ho,hcase⟩:=hL;have hlen:((List.length (dj (aF n) V (aF n).length):Nat):Int)=((V+1:Nat):Int):=by rw[A8]
  have ho':Zhi (((List.length (dj (aF n) V (aF n).length):Nat):Int),((0:Int),wk n V (List.replicate (V+1) 0) (List.replicate (V+1) 0)))=some o:=by rw[hlen];exact ho
  rcases hcase with⟨m,lv,rfl,u,hu,hno⟩|⟨m,lv,rfl,hI,hT⟩
  .have hf:de (aF n) V=false:=by
    cases h:de (aF n) V
    .rfl
    .obtain⟨kk,hkk⟩:=(oG hs.apart V).1 h u hu;exact absurd hkk (hno kk)
   rw[hf];exact⟨m,lv,af ho' rfl,fun h=>by cases h⟩
  .have hl:∀v,v<=V->∃k:Nat,lat lv v=(k:Int)/\bC (aF n) v k:=fun v hv=>wx hI hv (hT v (by omega));have ht:de (aF n) V=true:=(oG hs.apart V).2 fun v hv=>by obtain⟨k,_,h⟩:=hl v hv;exact⟨k,h⟩
   rw[ht];exact⟨m,lv,af ho' rfl,fun _=>⟨hI.ll,hl⟩⟩
 .rintro _ ⟨k,m,lv,rfl,hk,hI,hU,hT⟩;by_cases hlt:k<V+1
  .obtain⟨b,m2,lv2,e,hp⟩:=ad4 hs ft NN m lv k hI (fun u hu h=>absurd h (hU u hu)) (by omega) (adn hV2);have e':Kg ((k:Int),wk n V m lv)=some (b,wk n V m2 lv2):=e;rcases hp with⟨rfl,hI7,hE7,ht7⟩|⟨rfl,u',hu',hno⟩
   .right;refine⟨_,av (al (show(k:Int)<((V+1:Nat):Int) by omega)) (af e' (ao rfl rfl)),⟨k+1,m2,lv2,?_,by omega,hI7,fun u hu h=>hU u hu (hE7.b u hu h),fun u hu=>?_⟩,?_⟩
    .have e2:∀a a':Int,a=a'->(((V+1:Nat):Int),(a,wk n V m2 lv2))=(((V+1:Nat):Int),(a',wk n V m2 lv2)):=by rintro _ _ rfl;rfl
     exact e2 _ _ (bf (x:=(k:Int)+1) (by omega))
    .by_cases e:u=k
     .subst e;exact ht7
     .exact(EM hI hI7 hE7 (by omega) (hT u (by omega))).1
    .show V+1-(IntKind.wrap (.i64:IntKind) ((k:Int)+1)).toNat<V+1-(k:Int).toNat;rw[bf (x:=(k:Int)+1) (by omega)];omega
   .left;exact⟨_,av (al (show(k:Int)<((V+1:Nat):Int) by omega)) (af e' (av rfl rfl)),.inl ⟨m2,lv2,rfl,u',hu',hno⟩⟩
  .left;exact⟨_,ao (aw (show ¬(k:Int)<((V+1:Nat):Int) by omega)) rfl,.inr ⟨m,lv,rfl,hI,fun u hu=>hT u (by omega)⟩⟩
theorem pN{n:au}(ft:Fit n):Zfn (aQ n,())=some (bP n,()):=by
 have es:jc (aQ n,())=some (ca n,()):=by unfold jc;rw[show df ((aQ n,()):TL [ba]).1=n from jP n,wu ft];rfl
 by_cases h0:ca n=0
 .obtain⟨V,hs⟩:=lZ h0;have hV:n.vars.toNat=V:=by rw[hs.vars];rfl
  obtain⟨m,lv,ea,_⟩:=Qi hs ft;have ew:=Xg hs ft;cases hc:de (aF n) V
  .have et:tj (nt n ())=some (.inl ((8:Int),())):=by refine af es (ao (by rw[h0];rfl) (af ew (af ea (av (by rw[hc];rfl) rfl))))
   refine(af et rfl).trans ?_;unfold bP;rw[h0,hV,hc];rfl
  .have et:tj (nt n ())=some (.inr ((0:Int),wk n V m lv)):=by refine af es (ao (by rw[h0];rfl) (af ew (af ea (ao (by rw[hc];rfl) rfl))))
   refine(af et rfl).trans ?_;unfold bP;rw[h0,hV,hc];rfl
 .have et:tj (nt n ())=some (.inl (ca n,())):=by refine af es (av (by simp[h0]) rfl)
  refine(af et rfl).trans ?_;unfold bP;rw[if_pos h0];rfl
def A6(n:au)(k:Nat):List (aP×aJ):=(fZ k).zip ((n.ands.take k).map fm)
def M6(n:au)(k:Nat):List (aP×aJ):=(fE 0 (n.mems.take k)).zip ((n.mems.take k).flatMap gB)
def R6(j:Nat)(M:aX)(r:Nat):List (aP×aJ):=(jl j r).zip ((M.reads.take r).map (kQ M.word))
def n6(n:au):List (aP×aJ):=A6 n n.ands.length++M6 n n.mems.length
theorem ad7{n:au}{k:Nat}{a:cM}(h:n.ands[k]?=some a):A6 n (k+1)=A6 n k++[(⟨false,0,k⟩,fm a)]:=by unfold A6;rw[Rx,cg h,List.map_append,List.zip_append (by rw[pH,List.length_map,List.length_take];have:=cr h;omega)];rfl
theorem R7{n:au}{k:Nat}(h:k<=n.ands.length):(A6 n k).length=k:=by unfold A6;rw[List.length_zip,pH,List.length_map,List.length_take];omega
theorem ad9{j:Nat}{M:aX}{k:Nat}{r:j3}(h:M.reads[k]?=some r):R6 j M (k+1)=R6 j M k++[(⟨true,j,k⟩,kQ M.word r)]:=by unfold R6;rw[Sm,cg h,List.map_append,List.zip_append (by rw[LV,List.length_map,List.length_take];have:=cr h;omega)];rfl
theorem aie{j:Nat}{M:aX}{k:Nat}(h:k<=M.reads.length):(R6 j M k).length=k:=by unfold R6;rw[List.length_zip,LV,List.length_map,List.length_take];omega
theorem ad8{n:au}{k:Nat}{M:aX}(h:n.mems[k]?=some M):M6 n (k+1)=M6 n k++R6 k M M.reads.length:=by unfold M6 R6;rw[cg h,LY,List.flatMap_append,List.zip_append (by rw[pF])];have:=cr h;rw[List.length_take,Nat.min_eq_left (by omega),Nat.zero_add,List.take_length];simp only[List.flatMap_cons,List.flatMap_nil,List.append_nil];rfl
theorem afK(n:au)(hA:n.ands.length<=2000):Yh ((0:Int),nt n ([],()))=some (nt n ((A6 n n.ands.length).map bE,())):=by
 unfold Yh;delta gG;refine bN (fun k:Nat=>((k:Int),nt n ((A6 n k).map bE,()))) n.ands.length rfl ?_ ?_ (aW (by omega))
 .intro k hk;have ha:=List.getElem?_eq_getElem hk;have ha':(n.ands.map aY)[k]?=some (aY n.ands[k]):=by rw[List.getElem?_map,ha];rfl
  unfold nt
  try dsimp only
  unfold At;refine av (al (show(k:Int)<(((n.ands.map aY).length:Nat):Int) by rw[List.length_map];omega)) (aj (aA ⟨by omega,by rw[List.length_map];omega⟩) ?_);rw[aS ha'];refine aj (jj (L:=(A6 n k).map bE) (by rw[List.length_map,R7 (by omega)];omega) (by decide)) ?_;rw[bf (x:=(k:Int)+1) (by omega),ad7 ha,List.map_append (l₁:=A6 n k)];rfl
 .unfold nt
  try dsimp only
  unfold At;refine ao (aw (show ¬(n.ands.length:Int)<(((n.ands.map aY).length:Nat):Int) by rw[List.length_map];omega)) rfl
theorem aeT{n:au}{j:Nat}{M:aX}(hM:n.mems[j]?=some M)(hw:0<=M.word/\M.word<=4000)(hR:M.reads.length<=4)(hrv:∀r∈M.reads,-1099511627776<=r.var/\r.var<=1099511627776)(hj:j<=4)(pre:List (aP×aJ))(hp:pre.length<=3000) :
  Ke ((j:Int),((0:Int),nt n (pre.map bE,())))=some ((j:Int),nt n ((pre++R6 j M M.reads.length).map bE,())):=by
 have hM':(n.mems.map ak)[j]?=some (ak M):=by rw[List.getElem?_map,hM];rfl
 have hjl:=cr hM';unfold Ke;delta eH;refine bN (fun k:Nat=>((j:Int),((k:Int),nt n ((pre++R6 j M k).map bE,())))) M.reads.length (by rw[show R6 j M 0=[]from rfl,List.append_nil];rfl) ?_ ?_ (aW (by omega))
 .intro k hk;have hr:=List.getElem?_eq_getElem hk;have hr':(M.reads.map cq)[k]?=some (cq M.reads[k]):=by rw[List.getElem?_map,hr];rfl
  have e1:=ada M k _ hr hw (hrv _ (List.getElem_mem hk));unfold nt
  try dsimp only
  unfold Aj;rw[cH (aA ⟨by omega,by omega⟩),aS hM',show(ak M).2.2.2.1=M.reads.map cq from rfl];refine av (al (show(k:Int)<(((M.reads.map cq).length:Nat):Int) by rw[List.length_map];omega)) (aj (aA ⟨by omega,by omega⟩) (aj (aA ⟨by omega,by rw[List.length_map];omega⟩) (aj (aA ⟨by omega,by omega⟩) ?_)));rw[aS hr'];refine(bw e1).trans (aj (jj (L:=(pre++R6 j M k).map bE) (by rw[List.length_map,List.length_append,aie (by omega)];omega) (by decide)) ?_);rw[bf (x:=(k:Int)+1) (by omega),ad9 hr,<-List.append_assoc,List.map_append (l₁:=pre++R6 j M k)];rfl
 .unfold nt
  try dsimp only
  unfold Aj;rw[cH (aA ⟨by omega,by omega⟩),aS hM',show(ak M).2.2.2.1=M.reads.map cq from rfl];exact ao (aw (show ¬(M.reads.length:Int)<(((M.reads.map cq).length:Nat):Int) by rw[List.length_map];omega)) rfl
theorem aif(n:au)(k:Nat):(M6 n k).length=((n.mems.take k).flatMap gB).length:=by unfold M6;rw[List.length_zip,pF];omega
theorem md(n:au):(n6 n).map (fun x:aP×aJ=>x.2)=cP n:=by
 unfold n6 A6 M6 cP;rw[List.map_append,List.take_length,List.take_length];congr 1
 .exact List.map_snd_zip (by rw[pH,List.length_map];omega)
 .exact List.map_snd_zip (by rw[pF];omega)
theorem lT(n:au):(n6 n).map (fun x:aP×aJ=>x.2.nd)=aF n:=by unfold aF;rw[<-md,List.map_map];rfl
theorem vV{n:au}{V:Nat}(hs:bo n V):N6 (n6 n) V:=by
 have hm:∀x∈n6 n,x.2∈cP n:=fun x hx=>by rw[<-md];exact List.mem_map_of_mem hx
 refine⟨hs.v2,?_,fun x hx=>⟨?_,fun v hv=>?_⟩,fun x hx=>⟨?_,fun l hl=>?_⟩⟩
 .have h:=Mh hs;rw[<-lT,List.length_map]at h;exact h
 .have:=(Bd hs (hm x hx)).1;omega
 .have:=hs.toRng (hm x hx) hv;omega
 .have:=(Bd hs (hm x hx)).2;omega
 .have:=hs.Za8p (hm x hx) hl;omega
theorem aly{n:au}{V:Nat}(hs:bo n V)(ft:Fit n):XZ (aQ n,())=some ((n6 n).map bE,()):=by
 have hA:=hs.lens.2.2.1;have hMl:=hs.lens.2.2.2.2;have e3:=afK n hA;have hlen:∀k,k<=n.mems.length->(A6 n n.ands.length++M6 n k).length<=3000:=by
  intro k hk;rw[List.length_append,R7 (Nat.le_refl _),aif];have:=wi gB (n.mems.take k) 4 (fun M hM=>by unfold gB;rw[List.length_map];exact(hs.mems M (List.mem_of_mem_take hM)).2.2.2.2.2.2.1);have h2:(n.mems.take k).length<=4:=by rw[List.length_take];omega
  omega
 have e8:Yg ((0:Int),nt n ((A6 n n.ands.length).map bE,()))=some ((n6 n).map bE,()):=by
  unfold Yg;delta gG;refine bN (fun k:Nat=>((k:Int),nt n ((A6 n n.ands.length++M6 n k).map bE,()))) n.mems.length (by rw[show M6 n 0=[]from rfl,List.append_nil];rfl) ?_ ?_ (aW (by omega))
  .intro k hk;have hM:=List.getElem?_eq_getElem hk;have hm:=hs.mems _ (List.getElem_mem hk);have hfit:=ft.mems.2 _ (List.getElem_mem hk);have e11:=aeT hM ⟨by omega,by omega⟩ hm.2.2.2.2.2.2.1 (fun r hr=>⟨(hfit.rds r hr).2.1,(hfit.rds r hr).2.2.1⟩) (by omega) (A6 n n.ands.length++M6 n k) (hlen k (by omega));unfold nt
   try dsimp only
   unfold Ar;refine av (al (show(k:Int)<(((n.mems.map ak).length:Nat):Int) by rw[List.length_map];omega)) ((bw e11).trans ?_);have e:∀(p q:Int) (s s':List cp.T),p=q->s=s'->(some (.inl (p,nt n (s,()))):Option (TL zW.σs⊕Out zP))=some (.inl (q,nt n (s',()))):=by rintro _ _ _ _ rfl rfl;rfl
   exact e _ _ _ _ (bf (x:=(k:Int)+1) (by omega)) (by rw[ad8 hM,List.append_assoc]<;>rfl)
  .unfold nt
   try dsimp only
   unfold Ar;exact ao (aw (show ¬(n.mems.length:Int)<(((n.mems.map ak).length:Nat):Int) by rw[List.length_map];omega)) rfl
 exact af e3 (af e8 rfl)
theorem aih{n:au}{V:Nat}(hs:bo n V)(ft:Fit n)(h0:ca n=0) :
  Zfg (aQ n,())=some (if de (aF n) V then(fc (aF n) ((n6 n).length+1) (fu (aF n) V),(true,()))else([],(false,()))):=by
 have hV2:=hs.v2;have h6:=vV hs;have es:pw (aQ n,())=some (ca n,()):=by unfold pw jc;rw[show df ((aQ n,()):TL [ba]).1=n from jP n,wu ft];rfl
 have eN:=aly hs ft;have hw:IntKind.wrap (.i64:IntKind) (n.vars+1)=((V+1:Nat):Int):=by rw[hs.vars,bf (by omega)];omega
 have e6:=agh h6 (List.replicate (V+1) 0) (by simp);rw[lT]at e6;have hout:bD (List.replicate (V+1) 0) ((aF n).flatMap (·.to)) (-1)=fu (aF n) V:=rfl;rw[hout]at e6;have hol:(fu (aF n) V).length=V+1:=by unfold fu;rw[iN];simp
 have hob:∀u,lat (fu (aF n) V) u<=0:=by unfold fu;refine Mi (l:=List.replicate (V+1) 0) (by omega) _ (fun u=>?_);unfold lat;rw[List.getD_eq_getElem?_getD,List.getElem?_replicate];split<;>simp
 have e14:=afA h6 (fu (aF n) V) hol hob;rw[lT]at e14;have hNl:(n6 n).length=(aF n).length:=by rw[<-lT,List.length_map]
 have ht:=ag2 hs.apart hs.hin hs.hto;rw[<-hNl]at ht;have hle:=Mx (aF n) (fc (aF n) (n6 n).length (fu (aF n) V));show KE JZ XZ pw Kl zZ Kj zX zG (aQ n)=_;unfold KE;refine(bw es).trans (ao (by rw[h0];rfl) ?_);have hw':IntKind.wrap (.i64:IntKind) (@HAdd.hAdd Int Int Int _ (aQ n).1 (1:Int))=((V+1:Nat):Int):=hw;rw[hw'];refine aj (by show both (decide _) (both (decide _) (decide _))=true;rw[decide_eq_true (by omega),decide_eq_true (by omega),decide_eq_true (by show(8:Int)*_<=_;omega)];rfl) ((bw eN).trans ((bw e6).trans ((bw e14).trans ?_)));by_cases ha:de (aF n) V=true
 .have hz:=ht.2 ha;rw[if_pos ha];refine ao (aw (by show ¬(0:Int)<((dY (aF n) (fc (aF n) (n6 n).length (fu (aF n) V)):Nat):Int);rw[hz];omega)) rfl
 .have hz:dY (aF n) (fc (aF n) (n6 n).length (fu (aF n) V))≠0:=fun h=>ha (ht.1 h);rw[if_neg ha];refine av (al (by show(0:Int)<((dY (aF n) (fc (aF n) (n6 n).length (fu (aF n) V)):Nat):Int);omega)) rfl
theorem Br{n:au}(ft:Fit n):Zb7 (aQ n,())=some (bP n,()):=by
 have es:pw (aQ n,())=some (ca n,()):=by unfold pw jc;rw[show df ((aQ n,()):TL [ba]).1=n from jP n,wu ft];rfl
 by_cases h0:ca n=0
 .obtain⟨V,hs⟩:=lZ h0;have hV:n.vars.toNat=V:=by rw[hs.vars];rfl
  have eL:=aih hs ft h0;unfold bP;rw[h0,hV,if_neg (by simp)];by_cases ha:de (aF n) V=true
  .rw[if_pos ha]at eL;rw[if_pos ha];exact af es (ao (by rw[h0];rfl) (af eL (ao rfl rfl)))
  .rw[if_neg ha]at eL;rw[if_neg ha];exact af es (ao (by rw[h0];rfl) (af eL (av rfl rfl)))
 .unfold bP;rw[if_pos h0];exact af es (av (by simp[h0]) rfl)
end Go.Proofs.YtkcpdpplobhpaaaGreat.V
end
