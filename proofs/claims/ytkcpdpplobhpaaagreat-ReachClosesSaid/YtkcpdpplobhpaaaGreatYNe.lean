import Derived.Test.YtkcpdpplobhpaaaGreatYNd
set_option linter.unusedVariables false
set_option linter.unusedSimpArgs false
set_option linter.unnecessarySimpa false
section
namespace Go.Proofs.YtkcpdpplobhpaaaGreat.Pl
structure bA where
 rd:Bool
 mem:Nat
 pos:Nat
structure bo where
 to:List Int
 aS:List Int
def oS(a:eH):bo:=⟨[a.var],[a.a,a.b]⟩
def oI(word:Int)(r:mH):bo:=⟨cL r.var word.toNat,r.addr⟩
def ju(m:bB):List bo:=m.reads.map (oI m.word)
def fb(n:av):List bo:=n.aL.map oS++n.aa.flatMap ju
def iz(k:Nat)(m:bB):List bA:=(List.range m.reads.length).map fun i=>⟨true,k,i⟩
def iS(k:Nat):List bB->List bA
 |[]=>[]|m::l=>iz k m++iS (k+1) l
def dF(n:av):List bA:=(List.range n.aL.length).map (fun i=>⟨false,0,i⟩)++iS 0 n.aa
def bA.is(n:av)(x:bA)(i:bo):Prop:=(x.rd=false/\∃a,n.aL[x.pos]?=some a/\i=oS a)\/(x.rd=true/\∃m r,n.aa[x.mem]?=some m/\m.reads[x.pos]?=some r/\i=oI m.word r)
theorem ac1(n:List bB):∀(l:List bB) (k:Nat),(∀j,l[j]?=n[k+j]?)->∀(i:Nat) (x:bA),(iS k l)[i]?=some x->∃(m:bB) (r:mH),n[x.mem]?=some m/\m.reads[x.pos]?=some r/\(l.flatMap ju)[i]?=some (oI m.word r)/\x.rd=true:=by
 intro l
 induction l with
 |nil=>intro k _ i x h;simp[iS]at h|cons m l ih=>
  intro k hk i x h;rw[iS]at h;rw[List.flatMap_cons];have hl1:(iz k m).length=m.reads.length:=by simp[iz]
  have hl2:(ju m).length=m.reads.length:=by simp[ju]
  by_cases hi:i<m.reads.length
  .rw[List.getElem?_append_left (by omega)]at h;rw[List.getElem?_append_left (by omega)];unfold iz at h;rw[List.getElem?_map,List.getElem?_range hi]at h;injection h with h;subst h;have:=hk 0;rw[Nat.add_zero]at this;refine⟨m,m.reads[i],by rw[<-this];rfl,List.getElem?_eq_getElem hi,?_,rfl⟩;unfold ju;rw[List.getElem?_map,List.getElem?_eq_getElem hi];rfl
  .rw[List.getElem?_append_right (by omega)]at h;rw[List.getElem?_append_right (by omega)];rw[hl1]at h;rw[hl2];exact ih (k+1) (fun j=>by have:=hk (j+1);rw[show k+1+j=k+(j+1) by omega,<-this];rfl) _ x h
theorem sT:∀(l:List bB) (k:Nat),(iS k l).length=(l.flatMap ju).length:=by
 intro l
 induction l with|nil=>intro k;rfl|cons m l ih=>intro k;rw[iS,List.flatMap_cons,List.length_append,List.length_append,ih];simp[iz,ju]
theorem Zuw(n:av):(dF n).length=(fb n).length:=by unfold dF fb;simp only[List.length_append,sT];simp
theorem GM(n:av){i:Nat}{x:bA}(h:(dF n)[i]?=some x):∃y,(fb n)[i]?=some y/\x.is n y:=by
 unfold dF at h;unfold fb;have hl1:((List.range n.aL.length).map (fun i=>(⟨false,0,i⟩:bA))).length=n.aL.length:=by simp
 have hl2:(n.aL.map oS).length=n.aL.length:=by simp
 by_cases hi:i<n.aL.length
 .rw[List.getElem?_append_left (by omega)]at h;rw[List.getElem?_append_left (by omega)];rw[List.getElem?_map,List.getElem?_range hi]at h;injection h with h;subst h;rw[List.getElem?_map,List.getElem?_eq_getElem hi];exact⟨_,rfl,.inl ⟨rfl,_,List.getElem?_eq_getElem hi,rfl⟩⟩
 .rw[List.getElem?_append_right (by omega)]at h;rw[List.getElem?_append_right (by omega)];rw[hl1]at h;rw[hl2];obtain⟨m,r,h1,h2,h3,h4⟩:=ac1 n.aa n.aa 0 (fun j=>by simp) _ x h;exact⟨_,h3,.inr ⟨h4,m,r,h1,h2,rfl⟩⟩
def bo.nd(x:bo):Nd:=⟨x.aS.map fun l=>(l / 2).toNat,x.to.map Int.toNat⟩
def aV(n:av):List Nd:=(fb n).map bo.nd
theorem ag8{V:Int}:∀(l pre:List Int),pre.Nodup->(∀x∈pre,1<=x/\x<=V)->dup V pre l=0->(pre++l).Nodup/\∀x∈pre++l,1<=x/\x<=V:=by
 intro l
 induction l with
 |nil=>intro pre h1 h2 _;simpa using⟨h1,h2⟩|cons v l ih=>
  intro pre h1 h2 h;rw[dup]at h;by_cases ha:v<1\/V<v
  .rw[if_pos ha]at h;omega
  .rw[if_neg ha]at h;by_cases hc:pre.contains v=true
   .rw[if_pos hc]at h;omega
   .rw[if_neg hc]at h;have hn:v∉pre:=by simpa using hc
    have:=ih (pre++[v]) (by
     rw[List.nodup_append];exact⟨h1,by simp,fun a ha' b hb=>by simp at hb;subst hb;rintro rfl;exact hn ha'⟩) (fun x hx=>by
     rcases List.mem_append.1 hx with hx|hx
     .exact h2 x hx
     .simp at hx;subst hx;omega) h
    simpa using this
structure cj(n:av)(V:Nat):Prop where
 vars:n.vars=(V:Int)
 v2:V<=2000
 nodup:(de n).Nodup
 OB:∀x∈de n,1<=x/\x<=(V:Int)
 lits:∀l∈dm n,0<=l/\l / 2<=(V:Int)
 aa:∀m∈n.aa,1<=m.addr/\m.addr<=62/\1<=m.word/\m.word<=64/\(∀r∈m.reads,(r.addr.length:Int)=m.addr)/\(∀x∈m.writes,(x.addr.length:Int)=m.addr/\(x.data.length:Int)=m.word)/\m.reads.length<=4/\m.writes.length<=4
 init:∀l∈n.aw,0<=l.init/\l.init<=2
 lens:n.aM.length<=2000/\n.aw.length<=2000/\n.aL.length<=2000/\n.bI.length+n.bh.length+n.constraints.length<=1000/\n.aa.length<=4
theorem any_false{α:Type}{p:α->Bool}{l:List α}(h:¬l.any p=true):∀x∈l,p x=false:=by
 intro x hx;cases hp:p x
 .rfl
 .exact absurd (List.any_eq_true.2 ⟨x,hx,hp⟩) h
theorem oM{n:av}(h:dt n=0):∃V,cj n V:=by
 unfold dt at h;by_cases h1:jT n=true
 .rw[if_pos h1]at h;omega
 rw[if_neg h1]at h;by_cases h2:n.aa.any fH=true
 .rw[if_pos h2]at h;omega
 rw[if_neg h2]at h;by_cases h3:n.aw.any iR=true
 .rw[if_pos h3]at h;omega
 rw[if_neg h3]at h;by_cases h4:dup n.vars [] (de n)≠0
 .rw[if_pos h4]at h;exact absurd h h4
 rw[if_neg h4]at h;by_cases h5:(dm n).any (kp n.vars)=true
 .rw[if_pos h5]at h;omega
 unfold jT at h1;rw[Bool.or_eq_true,not_or]at h1;obtain⟨h1a,h1b⟩:=h1;have h1a':¬(n.vars<0\/2000<n.vars\/2000<n.aM.length\/2000<n.aw.length\/2000<n.aL.length\/1000<n.bI.length+n.bh.length+n.constraints.length\/4<n.aa.length):=by simpa using h1a
 obtain⟨V,hV⟩:=Int.eq_ofNat_of_zero_le (show 0<=n.vars by omega);obtain⟨d1,d2⟩:=ag8 (V:=n.vars) (de n) [] (by simp) (by simp) (by omega);simp only[List.nil_append]at d1 d2;refine⟨V,hV,by omega,d1,fun x hx=>hV▸d2 x hx,fun l hl=>?_,fun m hm=>?_,fun l hl=>?_,⟨by omega,by omega,by omega,by omega,by omega⟩⟩
 .have:=any_false h5 l hl;unfold kp at this;have:¬(l<0\/n.vars<l / 2):=by simpa using this
  omega
 .have hw:=any_false h2 m hm;have hp:=any_false h1b m hm;unfold ik at hp;have hp:¬(4<m.reads.length\/4<m.writes.length):=by simpa using hp
  unfold fH at hw;rw[Bool.or_eq_false_iff,Bool.or_eq_false_iff]at hw;obtain⟨⟨w1,w2⟩,w3⟩:=hw;have w1:¬(m.addr<1\/62<m.addr\/m.word<1\/64<m.word):=by simpa using w1
  refine⟨by omega,by omega,by omega,by omega,fun r hr=>?_,fun x hx=>?_,by omega,by omega⟩
  .have:=any_false (p:=lW m) (by rw[w2];simp) r hr;unfold lW at this;simpa using this
  .have:=any_false (p:=kg m) (by rw[w3];simp) x hx;unfold kg at this;rw[Bool.or_eq_false_iff]at this;exact⟨by simpa using this.1,by simpa using this.2⟩
 .have:=any_false h3 l hl;unfold iR at this;have:¬(l.init<0\/2<l.init):=by simpa using this
  omega
theorem SP(n:av):(fb n).flatMap bo.to=n.aL.map (·.var)++n.aa.flatMap ns:=by
 unfold fb;rw[List.flatMap_append];congr 1
 .induction n.aL with|nil=>rfl|cons a l ih=>rw[List.map_cons,List.flatMap_cons,ih];rfl
 .rw[List.flatMap_assoc];congr 1;funext m;unfold ju ns;rw[List.flatMap_map];rfl
theorem af5{α:Type}{f:α->List Int}:∀{l:List α},(l.flatMap f).Nodup->∀{i j:Nat}{x y:α}{v:Int},l[i]?=some x->l[j]?=some y->v∈f x->v∈f y->i=j:=by
 intro l
 induction l with
 |nil=>intro _ i j x y v h;simp at h|cons a l ih=>
  intro hn i j x y v hi hj hx hy;rw[List.flatMap_cons,List.nodup_append]at hn;obtain⟨h1,h2,h3⟩:=hn;cases i with
  |zero=>cases j with|zero=>rfl|succ j=>simp at hi hj;subst hi;exact absurd rfl (h3 v hx v (List.mem_flatMap.2 ⟨y,List.mem_of_getElem? hj,hy⟩))
  |succ i=>cases j with|zero=>simp at hi hj;subst hj;exact absurd rfl (h3 v hy v (List.mem_flatMap.2 ⟨x,List.mem_of_getElem? hi,hx⟩))|succ j=>simp at hi hj;rw[ih h2 hi hj hx hy]
section
variable{n:av}{V:Nat}
theorem cj.aev(s:cj n V):((fb n).flatMap bo.to).Nodup:=by rw[SP];have:=s.nodup;unfold de at this;rw[List.append_assoc,List.nodup_append]at this;have:=this.2.1;rw[List.nodup_append]at this |-;exact⟨this.2.1,this.1,fun a ha b hb e=>this.2.2 b hb a ha e.symm⟩
theorem cj.lV(s:cj n V){x:bo}(hx:x∈fb n){v:Int}(hv:v∈x.to):1<=v/\v<=(V:Int):=by have:v∈(fb n).flatMap bo.to:=List.mem_flatMap.2 ⟨x,hx,hv⟩;rw[SP]at this;refine s.OB v ?_;unfold de;rcases List.mem_append.1 this with h|h<;>simp[h]
theorem cj.GZ(s:cj n V){x:bo}(hx:x∈fb n){l:Int}(hl:l∈x.aS):0<=l/\l / 2<=(V:Int):=by
 refine s.lits l ?_;unfold fb at hx;unfold dm;rcases List.mem_append.1 hx with hx|hx
 .obtain⟨a,ha,rfl⟩:=List.mem_map.1 hx;have:l∈n.aL.flatMap ma:=List.mem_flatMap.2 ⟨a,ha,hl⟩;simp[this]
 .obtain⟨m,hm,hx⟩:=List.mem_flatMap.1 hx;obtain⟨r,hr,rfl⟩:=List.mem_map.1 hx;have:l∈n.aa.flatMap mV:=List.mem_flatMap.2 ⟨m,hm,by unfold mV;exact List.mem_append.2 (.inl (List.mem_flatMap.2 ⟨r,hr,hl⟩))⟩;simp[this]
theorem cj.Lr(s:cj n V){x:bo}(hx:x∈fb n):x.to≠[]:=by
 unfold fb at hx;rcases List.mem_append.1 hx with hx|hx
 .obtain⟨a,ha,rfl⟩:=List.mem_map.1 hx;simp[oS]
 .obtain⟨m,hm,hx⟩:=List.mem_flatMap.1 hx;obtain⟨r,hr,rfl⟩:=List.mem_map.1 hx;have:=(s.aa m hm).2.2.1;unfold oI cL;simp;omega
theorem GR{i:Nat}:(aV n)[i]?=((fb n)[i]?).map bo.nd:=by unfold aV;rw[List.getElem?_map]
theorem T8{x:Nd}(h:x∈aV n):∃y∈fb n,x=y.nd:=by unfold aV at h;obtain⟨y,h1,h2⟩:=List.mem_map.1 h;exact⟨y,h1,h2.symm⟩
theorem cj.apart(s:cj n V):ez (aV n):=by
 intro i j x y v hi hj hx hy;rw[GR]at hi hj;obtain⟨x',hi',rfl⟩:=Option.map_eq_some_iff.1 hi;obtain⟨y',hj',rfl⟩:=Option.map_eq_some_iff.1 hj;obtain⟨a,ha,e1⟩:=List.mem_map.1 hx;obtain⟨b,hb,e2⟩:=List.mem_map.1 hy;have r1:=s.lV (List.mem_of_getElem? hi') ha;have r2:=s.lV (List.mem_of_getElem? hj') hb;have:a=b:=by omega
 subst this;exact af5 s.aev hi' hj' ha hb
theorem cj.aT(s:cj n V):∀x∈aV n,∀u∈x.aS,u<=V:=by intro x hx u hu;obtain⟨y,hy,rfl⟩:=T8 hx;obtain⟨l,hl,rfl⟩:=List.mem_map.1 hu;have:=s.GZ hy hl;omega
theorem cj.fu(s:cj n V):∀x∈aV n,x.to≠[]/\∀v∈x.to,v<=V:=by intro x hx;obtain⟨y,hy,rfl⟩:=T8 hx;refine⟨by have:=s.Lr hy;unfold bo.nd;simpa using this,fun v hv=>?_⟩;obtain⟨l,hl,rfl⟩:=List.mem_map.1 hv;have:=s.lV hy hl;omega
end
def cK(n:av):Int:=if dt n≠0 then dt n else if eI (aV n) n.vars.toNat then 0 else 8
def zc(p:Nat->Bool):Nat->Nat
 |0=>0|k+1=>(if p k then 1 else 0)+zc p k
theorem SA{p q:Nat->Bool}:∀k,(∀v,v<k->p v=true->q v=true)->zc p k<=zc q k:=by
 intro k
 induction k with
 |zero=>intro _;exact Nat.le_refl _|succ k ih=>
  intro h;have h1:=ih fun v hv=>h v (by omega);have h2:=h k (by omega);simp only[zc];cases hp:p k
  .simp;omega
  .rw[h2 hp];simp;omega
theorem af2{p q:Nat->Bool}{v:Nat}:∀k,v<k->q v=true->p v=false->(∀v,v<k->p v=true->q v=true)->zc p k<zc q k:=by
 intro k
 induction k with
 |zero=>intro h;omega|succ k ih=>
  intro hv hq hp h;simp only[zc];by_cases e:v=k
  .subst e;have h1:=SA (p:=p) (q:=q) v fun v hv=>h v (by omega);rw[hq,hp];simp;omega
  .have h1:=ih (by omega) hq hp fun v hv=>h v (by omega);have h2:=h k (by omega);cases hp:p k
   .simp;omega
   .rw[h2 hp];simp;omega
def fresh(V:Nat)(m:List Int):Nat:=zc (fun v=>ax m v == 0) (V+1)
section
variable{N:List Nd}{V:Nat}{m lv m' lv' m'' lv'':List Int}
structure VI(N:List Nd)(V:Nat)(m lv:List Int):Prop where
 ml:m.length=V+1
 ll:lv.length=V+1
 kd:∀v,v<=V->ax m v=0\/ax m v=1\/ax m v=2
 vz:∀x∈N,∀u∈x.to,∀v∈x.to,ax m u=ax m v
 free:∀v,v<=V->(∀x∈N,v∉x.to)->ax m v=0/\ax lv v=0
 done:∀v,v<=V->ax m v=2->∃k:Nat,ax lv v=(k:Int)/\cJ N v k
structure Ext(V:Nat)(m lv m' lv':List Int):Prop where
 a:∀u,u<=V->ax m u=1->ax m' u=1
 b:∀u,u<=V->ax m' u=1->ax m u=1
 c:∀u,u<=V->ax m u=2->ax m' u=2/\ax lv' u=ax lv u
theorem Ext.refl:Ext V m lv m lv:=⟨fun _ _ h=>h,fun _ _ h=>h,fun _ _ h=>⟨h,rfl⟩⟩
theorem Ext.trans(h:Ext V m lv m' lv')(k:Ext V m' lv' m'' lv''):Ext V m lv m'' lv'':=⟨fun u hu h1=>k.a u hu (h.a u hu h1),fun u hu h1=>h.b u hu (k.b u hu h1),fun u hu h1=>⟨(k.c u hu (h.c u hu h1).1).1,by rw[(k.c u hu (h.c u hu h1).1).2,(h.c u hu h1).2]⟩⟩
def tl(N:List Nd)(m:List Int)(u:Nat):Prop:=ax m u=2\/∀x∈N,u∉x.to
theorem Gy(i:VI N V m lv)(i':VI N V m' lv')(h:Ext V m lv m' lv'){u:Nat}(hu:u<=V)(t:tl N m u):tl N m' u/\ax lv' u=ax lv u:=by
 rcases t with t|t
 .exact⟨.inl (h.c u hu t).1,(h.c u hu t).2⟩
 .exact⟨.inr t,by rw[(i.free u hu t).2,(i'.free u hu t).2]⟩
theorem y1(i:VI N V m lv){u:Nat}(hu:u<=V)(t:tl N m u):∃k:Nat,ax lv u=(k:Int)/\cJ N u k:=by
 rcases t with t|t
 .exact i.done u hu t
 .exact⟨0,by rw[(i.free u hu t).2];rfl,.free u t⟩
theorem ahu(i:VI N V m lv)(i':VI N V m' lv')(h:Ext V m lv m' lv'):fresh V m'<=fresh V m:=by
 refine SA _ fun v hv hz=>?_;have hv:v<=V:=by omega
 have hz:ax m' v=0:=by simpa using hz
 rcases i.kd v hv with h0|h0|h0
 .simpa using h0
 .have:=h.a v hv h0;omega
 .have:=(h.c v hv h0).1;omega
theorem VI.under(ap:ez N)(i:VI N V m lv){x:Nd}(hx:x∈N)(fu:∀v∈x.to,v<=V){v:Nat}(hv:v∈x.to)(h0:ax m v=0):VI N V (cw m x.to 1) lv:=by
 refine⟨by rw[kz,i.ml],i.ll,fun u hu=>?_,fun y hy a ha b hb=>?_,fun u hu hf=>?_,fun u hu h2=>?_⟩
 .rw[dY];split
  .exact .inr (.inl rfl)
  .exact i.kd u hu
 .rw[dY,dY];by_cases e:y=x
  .subst e;rw[if_pos ⟨ha,by rw[i.ml];have:=fu a ha;omega⟩,if_pos ⟨hb,by rw[i.ml];have:=fu b hb;omega⟩]
  .rw[if_neg fun h=>e (ap.same hy hx ha h.1),if_neg fun h=>e (ap.same hy hx hb h.1)];exact i.vz y hy a ha b hb
 .rw[dY,if_neg fun h=>hf x hx h.1];exact i.free u hu hf
 .rw[dY]at h2;split at h2
  .omega
  .exact i.done u hu h2
theorem agC(i:VI N V m lv){x:Nd}(hx:x∈N){v:Nat}(hv:v∈x.to)(hV:v<=V)(h0:ax m v=0):fresh V (cw m x.to 1)<fresh V m:=by
 refine af2 (v:=v) _ (by omega) (by simpa using h0) ?_ fun u hu hz=>?_
 .rw[dY,if_pos ⟨hv,by rw[i.ml];omega⟩];rfl
 .have hz:ax (cw m x.to 1) u=0:=by simpa using hz
  rw[dY]at hz;split at hz
  .omega
  .simpa using hz
theorem VI.close(ap:ez N)(i0:VI N V m lv){x:Nd}(hx:x∈N)(fu:∀v∈x.to,v<=V)(aT:∀u∈x.aS,u<=V){v:Nat}(hv:v∈x.to)(h0:ax m v=0)
  (i:VI N V m' lv') (h:Ext V (cw m x.to 1) lv m' lv') (ht:∀u∈x.aS,tl N m' u) {L:Int}(hL:L=((mx (x.aS.map fun u=>(ax lv' u).toNat):Nat):Int)) :
  VI N V (cw m' x.to 2) (cw lv' x.to (L+1))/\Ext V m lv (cw m' x.to 2) (cw lv' x.to (L+1))/\tl N (cw m' x.to 2) v:=by
 have hml:=i.ml;have hll:=i.ll;have hlev:∀u∈x.aS,cJ N u (ax lv' u).toNat:=fun u hu=>by obtain⟨k,h1,h2⟩:=y1 i (aT u hu) (ht u hu);rw[h1];simpa using h2
 have hm0:∀u∈x.to,ax m u=0:=fun u hu=>by rw[i0.vz x hx u hu v hv,h0]
 refine⟨⟨by rw[kz,hml],by rw[kz,hll],fun u hu=>?_,fun y hy a ha b hb=>?_,fun u hu hf=>?_,fun u hu h2=>?_⟩,⟨fun u hu h1=>?_,fun u hu h1=>?_,fun u hu h2=>?_⟩,?_⟩
 .rw[dY];split
  .exact .inr (.inr rfl)
  .exact i.kd u hu
 .rw[dY,dY];by_cases e:y=x
  .subst e;rw[if_pos ⟨ha,by rw[hml];have:=fu a ha;omega⟩,if_pos ⟨hb,by rw[hml];have:=fu b hb;omega⟩]
  .rw[if_neg fun h=>e (ap.same hy hx ha h.1),if_neg fun h=>e (ap.same hy hx hb h.1)];exact i.vz y hy a ha b hb
 .rw[dY,if_neg fun h=>hf x hx h.1,dY,if_neg fun h=>hf x hx h.1];exact i.free u hu hf
 .by_cases hux:u∈x.to
  .refine⟨mx (x.aS.map fun u=>(ax lv' u).toNat)+1,?_,.node x u _ hx hux hlev⟩;rw[dY,if_pos ⟨hux,by rw[hll];omega⟩,hL];rfl
  .rw[dY,if_neg fun h=>hux h.1]at h2;rw[dY,if_neg fun h=>hux h.1];exact i.done u hu h2
 .have hux:u∉x.to:=fun hux=>by have:=hm0 u hux;omega
  rw[dY,if_neg fun h=>hux h.1];refine h.a u hu ?_;rw[dY,if_neg fun h=>hux h.1];exact h1
 .rw[dY]at h1;split at h1
  .omega
  .rename_i hn;have hux:u∉x.to:=fun hux=>hn ⟨hux,by rw[hml];omega⟩;have:=h.b u hu h1
   rwa [dY,if_neg fun h=>hux h.1]at this
 .have hux:u∉x.to:=fun hux=>by have:=hm0 u hux;omega
  have:=h.c u hu (by rw[dY,if_neg fun h=>hux h.1];exact h2);rw[dY,if_neg fun h=>hux h.1,dY,if_neg fun h=>hux h.1];exact this
 .refine .inl ?_;rw[dY,if_pos ⟨hv,by rw[hml];have:=fu v hv;omega⟩]
theorem ahC{x:Nd}(hx:x∈N){v l:Nat}(hv:v∈x.to)(hl:l∈x.aS)(hd:∀u,u<=V->ax m u=1->lg N u v):∀u,u<=V->ax (cw m x.to 1) u=1->lg N u l:=by
 intro u hu h;rw[dY]at h;split at h
 .rename_i hc;exact .one x u l hx hc.1 hl
 .exact .more x u v l (hd u hu h) hx hv hl
theorem vi0:VI N V (List.replicate (V+1) 0) (List.replicate (V+1) 0):=by
 have hz:∀v,ax (List.replicate (V+1) 0) v=0:=fun v=>by unfold ax;rw[List.getD_eq_getElem?_getD,List.getElem?_replicate];split<;>rfl
 exact⟨by simp,by simp,fun v _=>.inl (hz v),fun x _ u _ v _=>by rw[hz,hz],fun v _ _=>⟨hz v,hz v⟩,fun v _ h=>by rw[hz]at h;omega⟩
def eW(N:List Nd)(V:Nat):Nat->List Int
 |0=>List.replicate (V+1) 0|k+1=>match N[k]? with|some x=>cw (eW N V k) x.to ((k:Int)+1)|none=>eW N V k
theorem Du(N:List Nd)(V:Nat):∀k,(eW N V k).length=V+1:=by
 intro k
 induction k with|zero=>simp[eW]|succ k ih=>rw[eW];cases N[k]?<;>simp[kz,ih]
theorem Tx{k:Nat}{x:Nd}(h:N[k]?=some x):eW N V (k+1)=cw (eW N V k) x.to ((k:Int)+1):=by rw[eW,h]
theorem ae4(ap:ez N)(fu:∀x∈N,∀v∈x.to,v<=V):∀k v,v<=V->(ax (eW N V k) v=0/\∀i x,i<k->N[i]?=some x->v∉x.to)\/∃i x,i<k/\N[i]?=some x/\v∈x.to/\ax (eW N V k) v=(i:Int)+1:=by
 intro k
 induction k with
 |zero=>intro v _;left;refine⟨?_,fun i x h=>by omega⟩;unfold eW ax;rw[List.getD_eq_getElem?_getD,List.getElem?_replicate];split<;>rfl|succ k ih=>
  intro v hv;cases hk:N[k]? with
  |none=>
   rw[eW,hk];rcases ih v hv with⟨h1,h2⟩|⟨i,x,h1,h2,h3,h4⟩
   .left;refine⟨h1,fun i x hi hx=>?_⟩;by_cases e:i=k
    .subst e;rw[hk]at hx;cases hx
    .exact h2 i x (by omega) hx
   .exact .inr ⟨i,x,by omega,h2,h3,h4⟩
  |some y=>
   rw[Tx hk,dY];by_cases hvy:v∈y.to
   .rw[if_pos ⟨hvy,by rw[Du];omega⟩];exact .inr ⟨k,y,by omega,hk,hvy,rfl⟩
   .rw[if_neg fun h=>hvy h.1];rcases ih v hv with⟨h1,h2⟩|⟨i,x,h1,h2,h3,h4⟩
    .left;refine⟨h1,fun i x hi hx=>?_⟩;by_cases e:i=k
     .subst e;rw[hk]at hx;injection hx with hx;subst hx;exact hvy
     .exact h2 i x (by omega) hx
    .exact .inr ⟨i,x,by omega,h2,h3,h4⟩
theorem afK(ap:ez N)(fu:∀x∈N,∀v∈x.to,v<=V){v:Nat}(hv:v<=V):(ax (eW N V N.length) v=0/\∀x∈N,v∉x.to)\/∃(i:Nat) (x:Nd),N[i]?=some x/\v∈x.to/\ax (eW N V N.length) v=(i:Int)+1:=by
 rcases ae4 ap fu N.length v hv with⟨h1,h2⟩|⟨i,x,h1,h2,h3,h4⟩
 .left;refine⟨h1,fun x hx=>?_⟩;obtain⟨i,hi,rfl⟩:=List.getElem_of_mem hx;exact h2 i _ hi (List.getElem?_eq_getElem hi)
 .exact .inr ⟨i,x,h2,h3,h4⟩
theorem age{l:List Nat}{k u:Nat}{f:Nat->Nat}(h:l[k]?=some u):mx ((l.take (k+1)).map f)=max (mx ((l.take k).map f)) (f u):=by rw[df h,List.map_append];exact ad6 _ _
end
end Go.Proofs.YtkcpdpplobhpaaaGreat.Pl
end
section
namespace Go.Proofs.YtkcpdpplobhpaaaGreat.V
open Go Go.RowKit Go.Proofs.YtkcpdpplobhpaaaGreat.Pl
theorem Zz0(v:Int)(k:Nat):cL v (k+1)=cL v k++[v+(k:Int)]:=by unfold cL;rw[List.range_succ,List.map_append];rfl
theorem sW(v:Int)(k:Nat):(cL v k).length=k:=by simp[cL]
theorem Tg(m:bB)(i:Nat)(r:mH)(hr:m.reads[i]?=some r)(hw:0<=m.word/\m.word<=4000)(hv:-1099511627776<=r.var/\r.var<=1099511627776) :
  Ni (aq m,((i:Int),()))=some (cL r.var m.word.toNat,()):=by
 obtain⟨W,hW⟩:=Int.eq_ofNat_of_zero_le hw.1;have hi:=dr hr;have hr':(m.reads.map dv)[i]?=some (dv r):=by rw[List.getElem?_map,hr];rfl
 have hL:Nc ((i:Int),(m.word,((0:Int),(m.addr,(m.word,(m.any,(m.reads.map dv,(m.writes.map dI,([],())))))))))=some (cL r.var m.word.toNat,()):=by
  unfold Nc;delta u9;rw[hW,Int.toNat_natCast];refine tt (fun k:Nat=>((i:Int),((W:Int),((k:Int),(m.addr,((W:Int),(m.any,(m.reads.map dv,(m.writes.map dI,(cL r.var k,())))))))))) W ?_ ?_ NN (bt (by omega))
  .intro k hk
   try dsimp only
   unfold Dr;rw[ie (aj (by omega)),dG (aN ⟨by omega,by rw[List.length_map];omega⟩),dG (kh (by simp[sW];omega) (by simp[sW];omega)),bn hr',show(dv r).1=r.var from rfl];rw[bJ (x:=r.var+(k:Int)) (by omega),bJ (x:=(k:Int)+1) (by omega),Zz0];rfl
  .try dsimp only
   unfold Dr;rw[eY (au (by omega))];rfl
 show NI Nc (aq m) (i:Int)=_;unfold NI;rw[eY (au (by omega)),Lo,eY (au (by simp only[aq,List.length_map,Int.ofNat_eq_natCast];omega))];exact(bP hL).trans rfl
def cU(x:bA):ah.T:=(x.rd,((x.mem:Int),((x.pos:Int),())))
abbrev WT:=Int×List Int×List ae.T×List Int×List Int×List Int×List ab.T×List ae.T×List Int×List ah.T×List Int×List Int×Unit
def lO(n:av)(of:List Int)(nd:List bA)(m lv:List Int):WT:=(n.vars,(n.aM,(n.aw.map bK,(n.bI,(n.bh,(n.constraints,(n.aa.map aq,(n.aL.map dg,(of,(nd.map cU,(m,(lv,()))))))))))))
theorem adJ{n:av}{of m lv:List Int}{nd:List bA}{x:bA}{i:bo}(h:x.is n i):Zx (x.rd,((x.mem:Int),((x.pos:Int),lO n of nd m lv)))=some (i.aS,lO n of nd m lv):=by
 show MO x.rd (x.mem:Int) (x.pos:Int) n.vars n.aM (n.aw.map bK) n.bI n.bh n.constraints (n.aa.map aq) (n.aL.map dg) of (nd.map cU) m lv=_;unfold MO;rcases h with⟨h,a,ha,rfl⟩|⟨h,M,r,hM,hr,rfl⟩
 .have ha':(n.aL.map dg)[x.pos]?=some (dg a):=by rw[List.getElem?_map,ha];rfl
  have hl:=dr ha';rw[h,eY rfl,dG (aN ⟨by omega,by omega⟩),bn ha'];rfl
 .have hM':(n.aa.map aq)[x.mem]?=some (aq M):=by rw[List.getElem?_map,hM];rfl
  have hr':(M.reads.map dv)[x.pos]?=some (dv r):=by rw[List.getElem?_map,hr];rfl
  have hl:=dr hM';have hl2:=dr hr';rw[h,ie rfl,dG (aN ⟨by omega,by omega⟩),bn hM',show(aq M).2.2.2.1=M.reads.map dv from rfl,dG (aN ⟨by omega,by omega⟩),bn hr'];rfl
theorem Sw{n:av}{of m lv:List Int}{nd:List bA}{x:bA}{i:bo}(h:x.is n i)(ft:Fit n)(hw:∀M∈n.aa,0<=M.word) :
  vR (x.rd,((x.mem:Int),((x.pos:Int),lO n of nd m lv)))=some (i.to,lO n of nd m lv):=by
 show wh Ni x.rd (x.mem:Int) (x.pos:Int) n.vars n.aM (n.aw.map bK) n.bI n.bh n.constraints (n.aa.map aq) (n.aL.map dg) of (nd.map cU) m lv=_;unfold wh;rcases h with⟨h,a,ha,rfl⟩|⟨h,M,r,hM,hr,rfl⟩
 .have ha':(n.aL.map dg)[x.pos]?=some (dg a):=by rw[List.getElem?_map,ha];rfl
  have hl:=dr ha';rw[h,eY rfl,dG (aN ⟨by omega,by omega⟩),bn ha'];rfl
 .have hM':(n.aa.map aq)[x.mem]?=some (aq M):=by rw[List.getElem?_map,hM];rfl
  have hl:=dr hM';have hmem:=List.mem_of_getElem? hM;have hf:=ft.aa.2 M hmem;have hr2:=hf.jV r (List.mem_of_getElem? hr);rw[h,ie rfl,dG (aN ⟨by omega,by omega⟩),bn hM'];exact(bP (Tg M x.pos r hr ⟨hw M hmem,hf.word.2⟩ ⟨hr2.2.1,hr2.2.2.1⟩)).trans rfl
theorem Ub{n:av}{of m lv:List Int}{nd:List bA}{V:Nat}(a:Int)(vs:List Int)(hln:vs.length<=100000)(hvs:∀v∈vs,0<=v/\v<=(V:Int))(hm:m.length=V+1) :
  Zv (a,(vs,lO n of nd m lv))=some (vs,lO n of nd (cw m (vs.map Int.toNat) a) lv):=by
 have hL:Me (a,(vs,((vs.length:Int),((0:Int),(vs,lO n of nd m lv)))))=some (vs,lO n of nd (cw m (vs.map Int.toNat) a) lv):=by
  unfold Me;delta mF;refine tt (fun k:Nat=>(a,(vs,((vs.length:Int),((k:Int),(vs,lO n of nd (cw m ((vs.take k).map Int.toNat) a) lv)))))) vs.length ?_ ?_ NN (bt (by omega))
  .intro k hk;unfold lO
   try dsimp only
   unfold CN;have hv:=List.getElem?_eq_getElem hk;obtain⟨h0,h1⟩:=hvs _ (List.getElem_mem hk);obtain⟨v,hv2⟩:=Int.eq_ofNat_of_zero_le h0;rw[hv2]at hv h1;rw[ie (aj (by omega)),dG (aN ⟨by omega,by omega⟩),bn (σ:=.int .i64) hv,dG (aN ⟨by omega,by rw[kz,hm];omega⟩),bJ (x:=(k:Int)+1) (by omega)];rw[df hv,List.map_append,List.map_cons,List.map_nil,wB];rfl
  .unfold lO
   try dsimp only
   unfold CN;rw[eY (au (by omega)),List.take_length];rfl
 show Mu Me a vs n.vars n.aM (n.aw.map bK) n.bI n.bh n.constraints (n.aa.map aq) (n.aL.map dg) of (nd.map cU) m lv=_;unfold Mu;exact(bP hL).trans rfl
end Go.Proofs.YtkcpdpplobhpaaaGreat.V
end
section
namespace Go.Proofs.YtkcpdpplobhpaaaGreat.Pl
theorem uH{l:List Int}{v:Nat}(h:v<l.length):l[v]?=some (ax l v):=by unfold ax;rw[List.getD_eq_getElem?_getD,List.getElem?_eq_getElem h];rfl
theorem adI{n:av}{V:Nat}(hs:cj n V){y:bo}(hy:y∈fb n){k:Nat}{l:Int}(h:y.aS[k]?=some l):∃u:Nat,l / 2=(u:Int)/\u<=V/\y.nd.aS[k]?=some u/\0<=l/\l<=2*V+1:=by have:=hs.GZ hy (List.mem_of_getElem? h);refine⟨(l / 2).toNat,by omega,by omega,?_,by omega,by omega⟩;unfold bo.nd;rw[List.getElem?_map,h];rfl
theorem Dz{n:av}{V:Nat}(hs:cj n V){y:bo}(hy:y∈fb n):y.to.length<=64/\y.aS.length<=62:=by
 unfold fb at hy;rcases List.mem_append.1 hy with hy|hy
 .obtain⟨a,ha,rfl⟩:=List.mem_map.1 hy;simp[oS]
 .obtain⟨m,hm,hy⟩:=List.mem_flatMap.1 hy;obtain⟨r,hr,rfl⟩:=List.mem_map.1 hy;have h1:=hs.aa m hm;have h2:=h1.2.2.2.2.1 r hr;unfold oI cL;simp;omega
theorem ad5{N:List Nd}{V:Nat}{m lv m' lv':List Int}(i:VI N V m lv)(i':VI N V m' lv')(h:Ext V m lv m' lv'){l:List Nat}(hl:∀u∈l,u<=V)(ht:∀u∈l,tl N m u) :
  mx (l.map fun u=>(ax lv' u).toNat)=mx (l.map fun u=>(ax lv u).toNat):=by
 rw[Zti fun u hu=>by rw[(Gy i i' h (hl u hu) (ht u hu)).2]]
theorem aeT{N:List Nd}(ap:ez N){V:Nat}{m lv:List Int}(i:VI N V m lv){l:List Nat}(hl:∀u∈l,u<=V)(ht:∀u∈l,tl N m u):mx (l.map fun u=>(ax lv u).toNat)<=N.length:=by refine Sn fun z hz=>?_;obtain⟨u,hu,rfl⟩:=List.mem_map.1 hz;obtain⟨k,h1,h2⟩:=y1 i (hl u hu) (ht u hu);rw[h1];have:=h2.le ap;simpa using this
theorem yU{α β:Type}(f:α->List β):∀(l:List α) (k:Nat),(∀x∈l,(f x).length<=k)->(l.flatMap f).length<=l.length*k:=by
 intro l k
 induction l with|nil=>intro _;simp|cons x l ih=>intro h;rw[List.flatMap_cons,List.length_append,List.length_cons,Nat.succ_mul];have h1:=ih fun y hy=>h y (by simp[hy]);have h2:=h x (by simp);omega
theorem N9{n:av}{V:Nat}(hs:cj n V):(aV n).length<=3000:=by unfold aV fb;rw[List.length_map,List.length_append,List.length_map];have h1:=hs.lens;have h2:=yU ju n.aa 4 (fun m hm=>by unfold ju;rw[List.length_map];exact(hs.aa m hm).2.2.2.2.2.2.1);omega
end Go.Proofs.YtkcpdpplobhpaaaGreat.Pl
end
section
namespace Go.Proofs.YtkcpdpplobhpaaaGreat.V
open Go Go.RowKit Go.Proofs.YtkcpdpplobhpaaaGreat.Pl
theorem Ti(l:Int):we (l,())=some (l / 2,()):=by show NJ l=_;unfold NJ;rw[Int.fdiv_eq_ediv_of_nonneg _ (by decide)];rfl
theorem Zwy{l q:Int}(h:l / 2=q):we (l,())=some (q,()):=by rw[Ti,h]
def af3(n:av)(V:Nat)(m lv:List Int)(v:Nat)(b:Bool)(m' lv':List Int):Prop:=(b=true/\VI (aV n) V m' lv'/\Ext V m lv m' lv'/\tl (aV n) m' v)\/(b=false/\∃u,u<=V/\∀k,¬cJ (aV n) u k)
def wk(n:av)(V:Nat)(m lv:List Int):WT:=lO n (eW (aV n) V (aV n).length) (dF n) m lv
abbrev WV:=Int×List Int×List ae.T×List Int×List Int×List Int×List ab.T×List ae.T×List Int×List ah.T×List Int×List Int×List Int×Unit
def wv(n:av)(V:Nat)(m lv vs:List Int):WV:=(n.vars,(n.aM,(n.aw.map bK,(n.bI,(n.bh,(n.constraints,(n.aa.map aq,(n.aL.map dg,(eW (aV n) V (aV n).length,((dF n).map cU,(m,(lv,(vs,())))))))))))))
theorem aeX{n:av}{V:Nat}{F:TL Ly.σs->Option (Out B6)}(L:Nat)(hL:L<=3000)(m lv vs:List Int)(hln:vs.length<=100000)(hvs:∀v∈vs,0<=v/\v<=(V:Int))(hm:lv.length=V+1) :
  Mg F ((L:Int),(vs,((vs.length:Int),((0:Int),wv n V m lv vs))))=some (wv n V m (cw lv (vs.map Int.toNat) ((L:Int)+1)) vs):=by
 unfold Mg;refine tt (fun k:Nat=>((L:Int),(vs,((vs.length:Int),((k:Int),wv n V m (cw lv ((vs.take k).map Int.toNat) ((L:Int)+1)) vs))))) vs.length ?_ ?_ NN (bt (by omega))
 .intro k hk;unfold wv
  try dsimp only
  unfold CU;have hv:=List.getElem?_eq_getElem hk;obtain⟨h0,h1⟩:=hvs _ (List.getElem_mem hk);obtain⟨v,hv2⟩:=Int.eq_ofNat_of_zero_le h0;rw[hv2]at hv h1;rw[ie (aj (by omega)),dG (aN ⟨by omega,by omega⟩),bn (σ:=.int .i64) hv,dG (aN ⟨by omega,by rw[kz,hm];omega⟩),bJ (x:=(k:Int)+1) (by omega),bJ (x:=(L:Int)+1) (by omega)];rw[df hv,List.map_append,List.map_cons,List.map_nil,wB];rfl
 .unfold wv
  try dsimp only
  unfold CU;rw[eY (au (by omega)),List.take_length];rfl
theorem adn{n:av}{V:Nat}(hs:cj n V)(ft:Fit n):∀(F:Nat) (m lv:List Int) (v:Nat),VI (aV n) V m lv->(∀u,u<=V->ax m u=1->lg (aV n) u v)->v<=V->fresh V m<F ->
  ∃b m' lv',sM F ((v:Int),wk n V m lv)=some (b,wk n V m' lv')/\af3 n V m lv v b m' lv':=by
 intro F
 induction F with
 |zero=>intro m lv v _ _ _ h;omega|succ F ih=>
  intro m lv v hI hD hv hF;have hV2:=hs.v2;have hnl:=N9 hs;have hmw:∀M∈n.aa,0<=M.word:=fun M hM=>by have:=hs.aa M hM;omega
  obtain⟨of,hof⟩:∃of,of=eW (aV n) V (aV n).length:=⟨_,rfl⟩;have hofl:of.length=V+1:=by rw[hof];exact Du _ _ _
  have hofv:of[v]?=some (ax of v):=uH (by omega);have hmv:m[v]?=some (ax m v):=uH (by rw[hI.ml];omega);show ∃b m' lv',ML we (sM F) Zx Zv vR (Mh (sM F)) (Mg (sM F)) (v:Int) n.vars n.aM (n.aw.map bK) n.bI n.bh n.constraints (n.aa.map aq) (n.aL.map dg) (eW (aV n) V (aV n).length) ((dF n).map cU) m lv=_/\_;rw[<-hof];unfold ML;rw[dG (aN ⟨by omega,by omega⟩),bn (σ:=.int .i64) hofv];rcases afK hs.apart (fun x hx=>(hs.fu x hx).2) hv with⟨h1,h2⟩|⟨i,x,h1,h2,h3⟩
  .rw[<-hof]at h1;rw[h1,ie (aj rfl)];exact⟨true,m,lv,by rw[hof];rfl,.inl ⟨rfl,hI,Ext.refl,.inr h2⟩⟩
  rw[<-hof]at h3;rw[h3,eY (au (by omega)),dG (aN ⟨by omega,by rw[hI.ml];omega⟩),Lo,bn (σ:=.int .u8) hmv];rcases hI.kd v hv with hk|hk|hk
  .-- its node's literals
   subst hof;have hil:=dr h1;have hnl2:(dF n).length=(aV n).length:=by rw[Zuw];unfold aV;rw[List.length_map]
   obtain⟨xd,hxd⟩:∃xd,(dF n)[i]?=some xd:=⟨_,List.getElem?_eq_getElem (by omega)⟩;obtain⟨y,hy1,hy2⟩:=GM n hxd;have hxy:x=y.nd:=by rw[GR,hy1]at h1;simpa using h1.symm
   subst hxy;have hy:=List.mem_of_getElem? hy1;have hx:=List.mem_of_getElem? h1;have hxd':((dF n).map cU)[i]?=some (cU xd):=by rw[List.getElem?_map,hxd];rfl
   have hvs:∀u∈y.to,0<=u/\u<=(V:Int):=fun u hu=>by have:=hs.lV hy hu;omega
   have hlens:=Dz hs hy;have hfr:∀u∈y.nd.aS,u<=V:=fun u hu=>hs.aT _ hx u hu;have hI5:=hI.under hs.apart hx (fun u hu=>(hs.fu _ hx).2 u hu) h2 hk;rw[hk,eY (au (by omega)),dG (aN ⟨by omega,by rw[hI.ml];omega⟩),eY (au (by omega)),dG (aN ⟨by omega,by omega⟩)];rw[show((i:Int)+1-1)=(i:Int) by omega,bJ (x:=(i:Int)) (by omega),dG (aN ⟨by omega,by rw[List.length_map];omega⟩),bn hxd'];have e1:=Sw (of:=eW (aV n) V (aV n).length) (m:=m) (lv:=lv) (nd:=dF n) hy2 ft hmw;have e2:=Ub (n:=n) (of:=eW (aV n) V (aV n).length) (nd:=dF n) (lv:=lv) 1 y.to (by omega) hvs hI.ml;have e3:=adJ (n:=n) (of:=eW (aV n) V (aV n).length) (nd:=dF n) (m:=cw m (y.to.map Int.toNat) 1) (lv:=lv) hy2;have hL11:∃o,Mh (sM F) ((0:Int),(y.aS,((y.aS.length:Int),((0:Int),wv n V (cw m y.nd.to 1) lv y.to))))=some o /\
     ((∃m' lv',o=.inl (false,wk n V m' lv')/\∃u,u<=V/\∀k,¬cJ (aV n) u k) \/
      ∃(m' lv':List Int) (L:Nat),o=.inr ((L:Int),wv n V m' lv' y.to)/\VI (aV n) V m' lv'/\Ext V (cw m y.nd.to 1) lv m' lv'/\(∀u∈y.nd.aS,tl (aV n) m' u)/\L=mx (y.nd.aS.map fun u=>(ax lv' u).toNat)):=by
    unfold Mh;refine lZ (fun d=>∃(k:Nat) (m' lv':List Int) (L:Nat),k<=y.aS.length/\d=((L:Int),(y.aS,((y.aS.length:Int),((k:Int),wv n V m' lv' y.to))))/\VI (aV n) V m' lv'/\Ext V (cw m y.nd.to 1) lv m' lv' /\
     (∀u∈y.nd.aS.take k,tl (aV n) m' u)/\L=mx ((y.nd.aS.take k).map fun u=>(ax lv' u).toNat)) _ (fun d=>y.aS.length-d.2.2.2.1.toNat) ?_ NN _ ⟨0,_,lv,0,Nat.zero_le _,rfl,hI5,Ext.refl,by simp,rfl⟩ (bt (by have:=hlens.2;omega))
    rintro d ⟨k,m',lv',L,hk',rfl,hI',hE',hT',hL⟩;unfold wv
    try dsimp only
    unfold MV;by_cases hlt:k<y.aS.length
    .have hl:=List.getElem?_eq_getElem hlt;obtain⟨u,hu1,hu2,hu3,hl0,hl1⟩:=adI hs hy hl;have hlt2:fresh V m'<F:=by have h1:=ahu hI5 hI' hE';have h2:=agC hI hx h2 hv hk;omega
     have hdep:∀t,t<=V->ax m' t=1->lg (aV n) t u:=fun t ht h=>ahC hx h2 (List.mem_of_getElem? hu3) hD t ht (hE'.b t ht h);obtain⟨b,m2,lv2,g1,g2⟩:=ih m' lv' u hI' hdep hu2 hlt2;rw[ie (aj (by omega)),dG (aN ⟨by omega,by omega⟩),bn (σ:=.int .i64) hl];rcases g2 with⟨rfl,gI,gE,gT⟩|⟨rfl,u',hu',hno⟩
     .right;obtain⟨kk,hk1,hk2⟩:=y1 gI hu2 gT;have hkl:=Nat.le_trans (hk2.le hs.apart) hnl;have hlu:lv2[u]?=some (kk:Int):=by rw[<-hk1];exact uH (by rw[gI.ll];omega)
      have hT:∀u'∈y.nd.aS.take (k+1),tl (aV n) m2 u':=fun u' h'=>by
       rw[df hu3]at h';rcases List.mem_append.1 h' with h'|h'
       .exact(Gy hI' gI gE (hfr u' (List.mem_of_mem_take h')) (hT' u' h')).1
       .simp at h';subst h';exact gT
      have hmx:mx ((y.nd.aS.take (k+1)).map fun u=>(ax lv2 u).toNat)=max L kk:=by rw[age hu3,ad5 hI' gI gE (fun u hu=>hfr u (List.mem_of_mem_take hu)) hT',<-hL,hk1,Int.toNat_natCast]
      refine⟨((max L kk:Nat),(y.aS,((y.aS.length:Int),(((k+1:Nat):Int),wv n V m2 lv2 y.to)))),?_,⟨k+1,m2,lv2,max L kk,by omega,rfl,gI,hE'.trans gE,hT,hmx.symm⟩,?_⟩
      .refine(bP (Zwy hu1)).trans ((bP g1).trans ?_);refine(eY rfl).trans ((dG (aN ⟨by omega,by show(u:Int)<((List.length lv2:Nat):Int);rw[gI.ll];omega⟩)).trans ?_);have hsel:cN (@decide _ (Int.decLt (L:Int) (gt (.int .i64) lv2 (u:Int)))) (gt (.int .i64) lv2 (u:Int)) (L:Int)=((max L kk:Nat):Int):=by
        rw[bn (σ:=.int .i64) hlu];unfold cN;split
        .rename_i q;have q:=of_decide_eq_true q;have:max L kk=kk:=by omega
         rw[this]
        .rename_i q;have q:=of_decide_eq_false q;have:max L kk=L:=by omega
         rw[this]
       have e:∀a b a' b':Int,a=a'->b=b'->(some (.inl (a,(y.aS,((y.aS.length:Int),(b,wv n V m2 lv2 y.to))))):Option (TL Cw.σs⊕Out Cm))=some (.inl (a',(y.aS,((y.aS.length:Int),(b',wv n V m2 lv2 y.to))))):=by rintro _ _ _ _ rfl rfl;rfl
       exact e _ _ _ _ hsel (bJ (x:=(k:Int)+1) (by omega))
      .show y.aS.length-((k+1:Nat):Int).toNat<y.aS.length-(k:Int).toNat;omega
     .left;refine⟨_,(bP (Zwy hu1)).trans ((bP g1).trans ?_),.inl ⟨m2,lv2,rfl,u',hu',hno⟩⟩;exact(ie rfl).trans rfl
    .left;have hlen:y.nd.aS.length<=k:=by unfold bo.nd;rw[List.length_map];omega
     rw[List.take_of_length_le hlen]at hT' hL;rw[eY (au (by omega))];exact⟨_,rfl,.inr ⟨m',lv',L,rfl,hI',hE',hT',hL⟩⟩
   obtain⟨o,ho,hcase⟩:=hL11;rcases hcase with⟨m',lv',rfl,u',hu',hno⟩|⟨m',lv',L,rfl,hI',hE',hT',hL⟩
   .refine⟨false,m',lv',?_,.inr ⟨rfl,u',hu',hno⟩⟩;refine(bP e1).trans ((bP e2).trans ((bP e3).trans ((bP ho).trans ?_)));rfl
   .have hmxl:L<=3000:=by rw[hL];exact Nat.le_trans (aeT hs.apart hI' hfr hT') hnl
    have c:=hI.close hs.apart hx (fun u hu=>(hs.fu _ hx).2 u hu) hfr h2 hk hI' hE' hT' (L:=(L:Int)) (by rw[hL]);have e5:=aeX (n:=n) (V:=V) (F:=sM F) L hmxl m' lv' y.to (by omega) hvs hI'.ll;have e6:=Ub (n:=n) (of:=eW (aV n) V (aV n).length) (nd:=dF n) (lv:=cw lv' (y.to.map Int.toNat) ((L:Int)+1)) 2 y.to (by omega) hvs hI'.ml;refine⟨true,cw m' y.nd.to 2,cw lv' y.nd.to ((L:Int)+1),?_,.inl ⟨rfl,c.1,c.2.1,c.2.2⟩⟩;refine(bP e1).trans ((bP e2).trans ((bP e3).trans ((bP ho).trans ((bP e5).trans ?_))));exact(bP e6).trans rfl
  .rw[hk,eY (au (by omega)),dG (aN ⟨by omega,by rw[hI.ml];omega⟩),ie (aj rfl)];exact⟨false,m,lv,by rw[hof];rfl,.inr ⟨rfl,v,hv,fun k=>lg.none hs.apart (hD v hv hk) k⟩⟩
  .rw[hk,ie (aj rfl)];exact⟨true,m,lv,by rw[hof];rfl,.inl ⟨rfl,hI,Ext.refl,.inl hk⟩⟩
theorem acB(m:bB)(i:Nat)(r:mH)(hr:m.reads[i]?=some r)(hw:0<=m.word/\m.word<=4000)(hv:-1099511627776<=r.var/\r.var<=1099511627776) :
  Zw (aq m,((i:Int),()))=some (cL r.var m.word.toNat,()):=by
 obtain⟨W,hW⟩:=Int.eq_ofNat_of_zero_le hw.1;have hi:=dr hr;have hr':(m.reads.map dv)[i]?=some (dv r):=by rw[List.getElem?_map,hr];rfl
 have hL:Mn ((i:Int),((0:Int),(m.addr,(m.word,(m.any,(m.reads.map dv,(m.writes.map dI,([],()))))))))=some (cL r.var m.word.toNat,()):=by
  unfold Mn;delta u8;rw[hW,Int.toNat_natCast];refine tt (fun k:Nat=>((i:Int),((k:Int),(m.addr,((W:Int),(m.any,(m.reads.map dv,(m.writes.map dI,(cL r.var k,()))))))))) W ?_ ?_ NN (bt (by omega))
  .intro k hk
   try dsimp only
   unfold C3;rw[ie (aj (by omega)),dG (aN ⟨by omega,by rw[List.length_map];omega⟩),dG (kh (by simp[sW];omega) (by simp[sW];omega)),bn hr',show(dv r).1=r.var from rfl];rw[bJ (x:=r.var+(k:Int)) (by omega),bJ (x:=(k:Int)+1) (by omega),Zz0];rfl
  .try dsimp only
   unfold C3;rw[eY (au (by omega))];rfl
 show MM Mn (aq m) (i:Int)=_;unfold MM;rw[eY (au (by omega)),Lo,eY (au (by simp only[aq,List.length_map,Int.ofNat_eq_natCast];omega))];exact(bP hL).trans rfl
theorem aeE{l:Int}(h:0<=l/\l<=1000000){u:Nat}(hu:l / 2=(u:Int)):vU (l,())=some ((u:Int),()):=by show MU l=_;unfold MU;rw[Int.tdiv_eq_ediv_of_nonneg h.1,hu,bJ (by omega)];rfl
def mB(L:List Int)(i:Int):Int:=gt (.int .i64) L i
theorem uF{L:List Int}{i:Nat}{x:Int}(h:L[i]?=some x):mB L (i:Int)=x:=bn (σ:=.int .i64) h
def cE(x:bA×bo):dk.T:=(x.1.rd,((x.1.mem:Int),((x.1.pos:Int),(x.2.aS,(x.2.to,())))))
theorem acW{V:Nat}{B:Int}(x:bA×bo)(out:List Int)(hB:∀u,u<=V->ax out u<=B)(hB0:0<=B/\B<=1000000000000)(hl:out.length=V+1)(hV:V<=2000)
  (hf:∀l∈x.2.aS,0<=l/\l<=2*(V:Int)+1) (hfl:x.2.aS.length<=100000):LD (cE x,(out,()))=some (eD out x.2.nd.aS 0,()):=by
 have hfr:∀k,x.2.nd.aS.drop k=(x.2.aS.drop k).map fun l=>(l / 2).toNat:=fun k=>by unfold bo.nd;rw[List.map_drop]
 have hL:=lZ (B:=fun d=>MY vU d.1 d.2.1 d.2.2.1 d.2.2.2.1 d.2.2.2.2.1 d.2.2.2.2.2.1 d.2.2.2.2.2.2.1 d.2.2.2.2.2.2.2.1)
  (I:=fun d:TL vT.σs=>∃(k:Nat) (n:Int),d=(out,(n,((k:Int),cE x)))/\k<=x.2.aS.length/\0<=n/\n<=B/\eD out (x.2.nd.aS.drop k) n=eD out x.2.nd.aS 0)
  (Q:=fun o:Out vS=>(o=.inl ((-1:Int),())/\eD out x.2.nd.aS 0 = -1)\/∃n:Int,o=.inr (n,())/\n<=B/\0<=n/\eD out x.2.nd.aS 0=n+1)
  (μ:=fun d=>x.2.aS.length-d.2.2.1.toNat) ?_ NN (out,((0:Int),((0:Int),cE x))) ⟨0,0,rfl,by omega,by omega,hB0.1,by rw[List.drop_zero]⟩ (bt (by show _-_<=_;omega))
 .obtain⟨o,ho,hcase⟩:=hL;have ho':Zfs (out,((0:Int),((0:Int),cE x)))=some o:=ho;rcases hcase with⟨rfl,h⟩|⟨n,rfl,hn,hn0,h⟩
  .rw[h];exact ag ho' rfl
  .rw[h];have e:∀a b:Int,a=b->(some (a,()):Option (Int×Unit))=some (b,()):=by rintro _ _ rfl;rfl
   exact ag ho' (e _ _ (bJ (x:=n+1) (by omega)))
 .rintro _ ⟨k,n,rfl,hk,h0,hn,hr⟩;by_cases hlt:k<x.2.aS.length
  .have hg:=List.getElem?_eq_getElem hlt;obtain⟨a1,a2⟩:=hf _ (List.getElem_mem hlt);obtain⟨u,hu⟩:=Int.eq_ofNat_of_zero_le (show 0<=x.2.aS[k] / 2 by omega);have huV:u<=V:=by omega
   have hlu:out[u]?=some (ax out u):=by unfold ax;rw[List.getD_eq_getElem?_getD,List.getElem?_eq_getElem (by omega)];rfl
   have e1:=aeE (l:=x.2.aS[k]) ⟨a1,by omega⟩ hu;have hdrop:x.2.nd.aS.drop k=u::x.2.nd.aS.drop (k+1):=by rw[hfr,hfr,List.drop_eq_getElem_cons hlt,List.map_cons,hu];rfl
   rw[hdrop,eD]at hr;by_cases hneg:ax out u<0
   .left;rw[if_pos hneg]at hr;refine⟨.inl ((-1:Int),()),?_,.inl ⟨rfl,hr.symm⟩⟩;refine ao (aj (show(k:Int)<((x.2.aS.length:Nat):Int) by omega)) (ak (aN ⟨show(0:Int)<=(k:Int) by omega,by show(k:Int)<((x.2.aS.length:Nat):Int);omega⟩) ?_);refine(bP (show vU (gt (.int .i64) x.2.aS (k:Int),())=some ((u:Int),()) by rw[bn (σ:=.int .i64) hg];exact e1)).trans ?_;refine ak (aN ⟨show(0:Int)<=(u:Int) by omega,by rw[hl];show(u:Int)<_;omega⟩) (ao (aj (show mB out (u:Int)<(0:Int) by rw[uF hlu];exact hneg)) rfl)
   .right;rw[if_neg hneg]at hr;have hBu:=hB u huV;refine⟨(out,((max n (ax out u):Int),(((k+1:Nat):Int),cE x))),?_,⟨k+1,max n (ax out u),rfl,by omega,by omega,by omega,hr⟩,?_⟩
    .refine ao (aj (show(k:Int)<((x.2.aS.length:Nat):Int) by omega)) (ak (aN ⟨show(0:Int)<=(k:Int) by omega,by show(k:Int)<((x.2.aS.length:Nat):Int);omega⟩) ?_);refine(bP (show vU (gt (.int .i64) x.2.aS (k:Int),())=some ((u:Int),()) by rw[bn (σ:=.int .i64) hg];exact e1)).trans ?_;refine ak (aN ⟨show(0:Int)<=(u:Int) by omega,by rw[hl];show(u:Int)<_;omega⟩) (af (au (show ¬mB out (u:Int)<(0:Int) by rw[uF hlu];exact hneg)) ?_);have e:∀a b a' b':Int,a=a'->b=b'->(some (.inl (out,(a,(b,cE x)))):Option (TL vT.σs⊕Out vS))=some (.inl (out,(a',(b',cE x)))):=by rintro _ _ _ _ rfl rfl;rfl
     refine e _ _ _ _ ?_ (bJ (x:=(k:Int)+1) (by omega));show cN (decide (n<mB out (u:Int))) (mB out (u:Int)) n=_;rw[uF hlu];unfold cN;split
     .rename_i q;have q:=of_decide_eq_true q;show ax out u=_;omega
     .rename_i q;have q:=of_decide_eq_false q;show n=_;have q:¬n<ax out u:=q;omega
    .show x.2.aS.length-((k+1:Nat):Int).toNat<x.2.aS.length-(k:Int).toNat;omega
  .left;have hnil:x.2.nd.aS.drop k=[]:=by rw[hfr,List.drop_eq_nil_of_le (by omega)];rfl
   rw[hnil,eD]at hr;exact⟨.inr (n,()),af (au (show ¬(k:Int)<((x.2.aS.length:Nat):Int) by omega)) rfl,.inr ⟨n,rfl,hn,h0,hr.symm⟩⟩
theorem agQ(l:List Int)(vs ws:List Nat)(x:Int):cw l (vs++ws) x=cw (cw l vs x) ws x:=by simp[cw,List.foldl_append]
theorem Oa{l:List Int}{x B:Int}(hx:x<=B):∀(vs:List Nat) {l:List Int},(∀u,ax l u<=B)->∀u,ax (cw l vs x) u<=B
 |[],l,h,u=>h u|v::vs,l,h,u=>by
  have:cw l (v::vs) x=cw (l.set v x) vs x:=rfl;rw[this];refine Oa (l:=l) hx vs (fun u=>?_) u;rw[Uf];split
  .exact hx
  .exact h u
theorem Zyk{out:List Int}{B:Int}(hB:∀u,ax out u<=B):∀(us:List Nat) (n:Int),n<=B->0<=B->eD out us n<=B+1
 |[],n,h,h0=>by rw[eD];omega|u::us,n,h,h0=>by
  rw[eD];split
  .omega
  .exact Zyk hB us _ (by have:=hB u;omega) h0
structure N6(N:List (bA×bo))(V:Nat):Prop where
 v2:V<=2000
 len:N.length<=3000
 to:∀x∈N,x.2.to.length<=100000/\∀v∈x.2.to,0<=v/\v<=(V:Int)
 aS:∀x∈N,x.2.aS.length<=100000/\∀l∈x.2.aS,0<=l/\l<=2*(V:Int)+1
theorem afG{N:List (bA×bo)}{V:Nat}(h6:N6 N V){i:Nat}{x:bA×bo}(hx:N[i]?=some x)(out:List Int)(hl:out.length=V+1) :
  CH (N.map cE,((i:Int),((0:Int),(out,()))))=some (N.map cE,((i:Int),(cw out x.2.nd.to (-1),()))):=by
 have hx':(N.map cE)[i]?=some (cE x):=by rw[List.getElem?_map,hx];rfl
 have hi:=dr hx';obtain⟨h1,h2⟩:=h6.to x (List.mem_of_getElem? hx);unfold CH;delta u4;refine cP (fun k:Nat=>(N.map cE,((i:Int),((k:Int),(cw out ((x.2.to.take k).map Int.toNat) (-1),()))))) x.2.to.length rfl ?_ ?_ (bt (by omega))
 .intro k hk;have hv:=List.getElem?_eq_getElem hk;obtain⟨v0,v1⟩:=h2 _ (List.getElem_mem hk);obtain⟨v,hv2⟩:=Int.eq_ofNat_of_zero_le v0;rw[hv2]at hv v1
  try dsimp only
  unfold CS;rw[dG (aN ⟨by omega,by omega⟩),bn hx'];refine ao (aj (show(k:Int)<((x.2.to.length:Nat):Int) by omega)) (ak (aN ⟨by omega,by omega⟩) (ak (aN ⟨show(0:Int)<=(k:Int) by omega,show(k:Int)<((x.2.to.length:Nat):Int) by omega⟩) ?_));have hg:mB x.2.to (k:Int)=(v:Int):=uF hv;refine ak (show aA (mB x.2.to (k:Int)) (List.length (cw out ((x.2.to.take k).map Int.toNat) (-1)))=true by rw[hg];exact aN ⟨by omega,by rw[kz,hl];omega⟩) ?_;have e:∀(a a':Int) (b b':List Int),a=a'->b=b'->(some (.inl (N.map cE,((i:Int),(a,(b,()))))):Option (TL Ce.σs⊕Out Ca))=some (.inl (N.map cE,((i:Int),(a',(b',()))))):=by rintro _ _ _ _ rfl rfl;rfl
  refine e _ _ _ _ (bJ (x:=(k:Int)+1) (by omega)) ?_;rw[df hv,List.map_append,List.map_cons,List.map_nil,wB];show List.set (cw out ((x.2.to.take k).map Int.toNat) (-1)) (mB x.2.to (k:Int)).toNat (-1)=_;rw[hg]
 .try dsimp only
  unfold CS;rw[dG (aN ⟨by omega,by omega⟩),bn hx'];refine af (au (show ¬((x.2.to.length:Nat):Int)<((x.2.to.length:Nat):Int) by omega)) ?_;rw[List.take_length];rfl
theorem Rx{N:List (bA×bo)}{V:Nat}(h6:N6 N V){i:Nat}{x:bA×bo}(hx:N[i]?=some x)(a b c:Int)(out:List Int)(hl:out.length=V+1) :
  Ch (N.map cE,(a,(b,((i:Int),(c,((0:Int),(out,())))))))=some (N.map cE,(a,(b,((i:Int),(cw out x.2.nd.to c,()))))):=by
 have hx':(N.map cE)[i]?=some (cE x):=by rw[List.getElem?_map,hx];rfl
 have hi:=dr hx';obtain⟨h1,h2⟩:=h6.to x (List.mem_of_getElem? hx);unfold Ch;delta u7;refine cP (fun k:Nat=>(N.map cE,(a,(b,((i:Int),(c,((k:Int),(cw out ((x.2.to.take k).map Int.toNat) c,())))))))) x.2.to.length rfl ?_ ?_ (bt (by omega))
 .intro k hk;have hv:=List.getElem?_eq_getElem hk;obtain⟨v0,v1⟩:=h2 _ (List.getElem_mem hk);obtain⟨v,hv2⟩:=Int.eq_ofNat_of_zero_le v0;rw[hv2]at hv v1
  try dsimp only
  unfold CK;rw[dG (aN ⟨by omega,by omega⟩),bn hx'];refine ao (aj (show(k:Int)<((x.2.to.length:Nat):Int) by omega)) (ak (aN ⟨by omega,by omega⟩) (ak (aN ⟨show(0:Int)<=(k:Int) by omega,show(k:Int)<((x.2.to.length:Nat):Int) by omega⟩) ?_));have hg:mB x.2.to (k:Int)=(v:Int):=uF hv;refine ak (show aA (mB x.2.to (k:Int)) (List.length (cw out ((x.2.to.take k).map Int.toNat) c))=true by rw[hg];exact aN ⟨by omega,by rw[kz,hl];omega⟩) ?_;have e:∀(p p':Int) (q q':List Int),p=p'->q=q'->(some (.inl (N.map cE,(a,(b,((i:Int),(c,(p,(q,())))))))):Option (TL B8.σs⊕Out B7))=some (.inl (N.map cE,(a,(b,((i:Int),(c,(p',(q',())))))))):=by rintro _ _ _ _ rfl rfl;rfl
  refine e _ _ _ _ (bJ (x:=(k:Int)+1) (by omega)) ?_;rw[df hv,List.map_append,List.map_cons,List.map_nil,wB];show List.set (cw out ((x.2.to.take k).map Int.toNat) c) (mB x.2.to (k:Int)).toNat c=_;rw[hg]
 .try dsimp only
  unfold CK;rw[dG (aN ⟨by omega,by omega⟩),bn hx'];refine af (au (show ¬((x.2.to.length:Nat):Int)<((x.2.to.length:Nat):Int) by omega)) ?_;rw[List.take_length];rfl
theorem afF{N:List (bA×bo)}{V:Nat}(h6:N6 N V)(out:List Int)(hl:out.length=V+1) :
  Mf (N.map cE,((0:Int),(out,())))=some (N.map cE,(cw out ((N.map (·.2.nd)).flatMap (·.to)) (-1),())):=by
 have hn:=h6.len;unfold Mf;delta u3;refine cP (fun i:Nat=>(N.map cE,((i:Int),(cw out (((N.take i).map (·.2.nd)).flatMap (·.to)) (-1),())))) N.length rfl ?_ ?_ (bt (by omega))
 .intro i hi;have hx:=List.getElem?_eq_getElem hi
  try dsimp only
  unfold CT;refine ao (aj (show(i:Int)<(((N.map cE).length:Nat):Int) by rw[List.length_map];omega)) ((bP (afG h6 hx _ (by rw[kz,hl]))).trans ?_);have e:∀(p p':Int) (q q':List Int),p=p'->q=q'->(some (.inl (N.map cE,(p,(q,())))):Option (TL Cr.σs⊕Out Ck))=some (.inl (N.map cE,(p',(q',())))):=by rintro _ _ _ _ rfl rfl;rfl
  refine e _ _ _ _ (bJ (x:=(i:Int)+1) (by omega)) ?_;rw[df hx,List.map_append,List.flatMap_append,agQ];simp
 .try dsimp only
  unfold CT;refine af (au (show ¬((N.length:Nat):Int)<(((N.map cE).length:Nat):Int) by rw[List.length_map];omega)) ?_;rw[List.take_length];rfl
theorem agu(M:List Nd)(x:Nd)(out:List Int):i7 (M++[x]) out=iA (i7 M out) x:=by unfold i7;rw[List.foldl_append];rfl
theorem Nw:∀(M:List Nd) (out:List Int),(i7 M out).length=out.length
 |[],out=>rfl|x::M,out=>by show(i7 M (iA out x)).length=_;rw[Nw M,Zun]
theorem Zyn(x:Nd):∀(M:List Nd) (out:List Int),gj (M++[x]) out=gj M out+(if eD (i7 M out) x.aS 0<0 then 1 else 0)
 |[],out=>by show(if eD out x.aS 0<0 then 1 else 0)+0=0+_;rw[Nat.zero_add];rfl
 |y::M,out=>by show(if eD out y.aS 0<0 then 1 else 0)+gj (M++[x]) (iA out y)=_;rw[Zyn x M (iA out y)];show _=(if eD out y.aS 0<0 then 1 else 0)+gj M (iA out y)+_;rw[Nat.add_assoc];rfl
theorem Oo:∀(M:List Nd) (out:List Int),gj M out<=M.length
 |[],out=>Nat.le_refl _|y::M,out=>by have:=Oo M (iA out y);show(if eD out y.aS 0<0 then 1 else 0)+gj M (iA out y)<=M.length+1;split<;>omega
theorem NM:∀(M:List Nd) {out:List Int}{B:Int},0<=B->(∀u,ax out u<=B)->∀u,ax (i7 M out) u<=B+(M.length:Int)
 |[],out,B,h0,h,u=>by have:=h u;show ax out u<=B+((0:Nat):Int);omega|y::M,out,B,h0,h,u=>by have h1:∀u,ax (iA out y) u<=B+1:=Oa (l:=out) (Zyk h y.aS 0 h0 h0) y.to (fun u=>by have:=h u;omega);have:=NM M (out:=iA out y) (B:=B+1) (by omega) h1 u;show ax (i7 M (iA out y)) u<=B+((M.length+1:Nat):Int);omega
theorem aeR{N:List (bA×bo)}{V:Nat}(h6:N6 N V){B:Int}(r:Int)(out:List Int)(hl:out.length=V+1)(hB:∀u,ax out u<=B)(hB0:0<=B/\B<=900000000000) :
  CC (N.map cE,((0:Int),(r,((0:Int),(out,())))))=some (N.map cE,((gj (N.map (·.2.nd)) out:Int),(r,(i7 (N.map (·.2.nd)) out,())))):=by
 have hn:=h6.len;unfold CC;delta u5;refine cP (fun i:Nat=>(N.map cE,((gj ((N.take i).map (·.2.nd)) out:Int),(r,((i:Int),(i7 ((N.take i).map (·.2.nd)) out,())))))) N.length rfl ?_ ?_ (bt (by omega))
 .intro i hi;have hx:=List.getElem?_eq_getElem hi;have hx':(N.map cE)[i]?=some (cE N[i]):=by rw[List.getElem?_map,hx];rfl
  obtain⟨f1,f2⟩:=h6.aS _ (List.getElem_mem hi);have hlen:((N.take i).map (fun x:bA×bo=>x.2.nd)).length<=3000:=by rw[List.length_map,List.length_take];omega
  have hle:=Oo ((N.take i).map (fun x:bA×bo=>x.2.nd)) out;have hb:=NM ((N.take i).map (fun x:bA×bo=>x.2.nd)) hB0.1 hB;have hrl:(i7 ((N.take i).map (fun x:bA×bo=>x.2.nd)) out).length=V+1:=by rw[Nw,hl]
  have e1:=acW (V:=V) (B:=B+(((N.take i).map (fun x:bA×bo=>x.2.nd)).length:Int)) N[i] _ (fun u _=>hb u) ⟨by omega,by omega⟩ hrl h6.v2 f2 f1
  try dsimp only
  unfold CL;refine ao (aj (show(i:Int)<(((N.map cE).length:Nat):Int) by rw[List.length_map];omega)) (ak (aN ⟨by omega,by rw[List.length_map];omega⟩) ?_);rw[bn hx'];refine(bP e1).trans ?_;have e:∀(p p' q q':Int) (s s':List Int),p=p'->q=q'->s=s'->(some (.inl (N.map cE,(p,(r,(q,(s,())))))):Option (TL Cb.σs⊕Out B9))=some (.inl (N.map cE,(p',(r,(q',(s',())))))):=by rintro _ _ _ _ _ _ rfl rfl rfl;rfl
  have hs:i7 ((N.take (i+1)).map (fun x:bA×bo=>x.2.nd)) out=cw (i7 ((N.take i).map (fun x:bA×bo=>x.2.nd)) out) N[i].2.nd.to (eD (i7 ((N.take i).map (fun x:bA×bo=>x.2.nd)) out) N[i].2.nd.aS 0):=by rw[df hx,List.map_append];exact agu _ _ _
  have hc:gj ((N.take (i+1)).map (fun x:bA×bo=>x.2.nd)) out=gj ((N.take i).map (fun x:bA×bo=>x.2.nd)) out+(if eD (i7 ((N.take i).map (fun x:bA×bo=>x.2.nd)) out) N[i].2.nd.aS 0<0 then 1 else 0):=by rw[df hx,List.map_append];exact Zyn _ _ _
  rw[hs,hc];by_cases hneg:eD (i7 ((N.take i).map (fun x:bA×bo=>x.2.nd)) out) N[i].2.nd.aS 0<0
  .rw[if_pos hneg];refine ao (aj hneg) ((bP (Rx h6 hx _ r _ _ hrl)).trans ?_);exact e _ _ _ _ _ _ ((bJ (x:=((gj ((N.take i).map (fun x:bA×bo=>x.2.nd)) out:Nat):Int)+1) (by omega)).trans (by omega)) (bJ (x:=(i:Int)+1) (by omega)) rfl
  .rw[if_neg hneg];refine af (au hneg) ((bP (Rx h6 hx _ r _ _ hrl)).trans ?_);exact e _ _ _ _ _ _ rfl (bJ (x:=(i:Int)+1) (by omega)) rfl
 .try dsimp only
  unfold CL;refine af (au (show ¬((N.length:Nat):Int)<(((N.map cE).length:Nat):Int) by rw[List.length_map];omega)) ?_;rw[List.take_length];rfl
theorem Zy8(M:List Nd)(out:List Int):∀r,(ij M r out).length=out.length
 |0=>rfl|r+1=>by rw[ij,Nw,Zy8 M out r]
theorem Zuq(M:List Nd){out:List Int}(h:∀u,ax out u<=0):∀r u,ax (ij M r out) u<=(r:Int)*(M.length:Int)
 |0,u=>by have:=h u;show ax out u<=((0:Nat):Int)*_;omega|r+1,u=>by
  have h1:=NM M (out:=ij M r out) (B:=(r:Int)*(M.length:Int)) (Int.mul_nonneg (by omega) (by omega)) (Zuq M h r) u;rw[ij];have:((r+1:Nat):Int)*(M.length:Int)=(r:Int)*(M.length:Int)+(M.length:Int):=by rw[Int.natCast_add,Int.add_mul];simp
  omega
theorem aeQ{N:List (bA×bo)}{V:Nat}(h6:N6 N V)(out:List Int)(hl:out.length=V+1)(hB:∀u,ax out u<=0) :
  Md (N.map cE,((0:Int),((0:Int),(out,()))))=some ((gj (N.map (fun x:bA×bo=>x.2.nd)) (ij (N.map (fun x:bA×bo=>x.2.nd)) N.length out):Int),(ij (N.map (fun x:bA×bo=>x.2.nd)) (N.length+1) out,())):=by
 have hn:=h6.len;unfold Md;delta u4;refine cP (fun r:Nat=>(N.map cE,((match r with|0=>(0:Int)|r+1=>(gj (N.map (fun x:bA×bo=>x.2.nd)) (ij (N.map (fun x:bA×bo=>x.2.nd)) r out):Int)),((r:Int),(ij (N.map (fun x:bA×bo=>x.2.nd)) r out,()))))) (N.length+1) rfl ?_ ?_ (bt (by omega))
 .intro r hr;have hb:=Zuq (N.map (fun x:bA×bo=>x.2.nd)) hB r;have hm:(r:Int)*((N.map (fun x:bA×bo=>x.2.nd)).length:Int)<=3000*3000:=by rw[List.length_map];exact Int.mul_le_mul (by omega) (by omega) (by omega) (by omega)
  have h0:0<=(r:Int)*((N.map (fun x:bA×bo=>x.2.nd)).length:Int):=Int.mul_nonneg (by omega) (by omega);have e1:=aeR h6 (r:Int) (ij (N.map (fun x:bA×bo=>x.2.nd)) r out) (by rw[Zy8,hl]) hb ⟨h0,by omega⟩
  try dsimp only
  unfold CM;refine ao (aj (show(r:Int)<=(((N.map cE).length:Nat):Int) by rw[List.length_map];omega)) ((bP e1).trans ?_);have e:∀(p q q':Int) (s:List Int),q=q'->(some (.inl (N.map cE,(p,(q,(s,()))))):Option (TL Cl.σs⊕Out Ci))=some (.inl (N.map cE,(p,(q',(s,()))))):=by rintro _ _ _ _ rfl;rfl
  exact e _ _ _ _ (bJ (x:=(r:Int)+1) (by omega))
 .try dsimp only
  unfold CM;refine af (au (show ¬((N.length+1:Nat):Int)<=(((N.map cE).length:Nat):Int) by rw[List.length_map];omega)) ?_;rfl
def nt{α:Type}(n:av)(r:α):Int×List Int×List ae.T×List Int×List Int×List Int×List ab.T×List ae.T×α:=(n.vars,(n.aM,(n.aw.map bK,(n.bI,(n.bh,(n.constraints,(n.aa.map aq,(n.aL.map dg,r))))))))
abbrev W4:=List Int×List ah.T×List Int×List Int×Unit
def w4(of:List Int)(nd:List bA)(m lv:List Int):W4:=(of,(nd.map cU,(m,(lv,()))))
def jv(k:Nat):List bA:=(List.range k).map fun i=>⟨false,0,i⟩
theorem SQ(k:Nat):jv (k+1)=jv k++[⟨false,0,k⟩]:=by unfold jv;rw[List.range_succ,List.map_append];rfl
theorem sV(k:Nat):(jv k).length=k:=by simp[jv]
theorem af0(n:av)(of m lv:List Int)(hA:n.aL.length<=2000):Dd ((n.aL.length:Int),((0:Int),nt n (nt n (w4 of [] m lv))))=some (nt n (nt n (w4 of (jv n.aL.length) m lv))):=by
 unfold Dd;delta qU;refine tt (fun k:Nat=>((n.aL.length:Int),((k:Int),nt n (nt n (w4 of (jv k) m lv))))) n.aL.length ?_ ?_ NN (bt (by omega))
 .intro k hk;unfold nt w4
  try dsimp only
  unfold Dk;refine ao (aj (by omega)) (ak (oh (L:=(jv k).map cU) (by rw[List.length_map,sV];omega) (by decide)) ?_);rw[bJ (x:=(k:Int)+1) (by omega),SQ,List.map_append];rfl
 .unfold nt w4
  try dsimp only
  unfold Dk;rw[eY (au (by omega))];rfl
def lK(j k:Nat):List bA:=(List.range k).map fun i=>⟨true,j,i⟩
theorem Tu(j k:Nat):lK j (k+1)=lK j k++[⟨true,j,k⟩]:=by unfold lK;rw[List.range_succ,List.map_append];rfl
theorem NW(j k:Nat):(lK j k).length=k:=by simp[lK]
theorem afl(n:av)(of m lv:List Int)(j M R:Nat)(pre:List bA)(hj:j<=4)(hM:M<=4)(hR:R<=4)(hp:pre.length<=3000) :
  C5 ((j:Int),((M:Int),((j:Int),((R:Int),((0:Int),nt n (nt n (w4 of pre m lv)))))))=some ((M:Int),((j:Int),nt n (nt n (w4 of (pre++lK j R) m lv)))):=by
 unfold C5;refine cP (fun k:Nat=>((j:Int),((M:Int),((j:Int),((R:Int),((k:Int),nt n (nt n (w4 (of) (pre++lK j k) m lv)))))))) R (by rw[show lK j 0=[]from rfl,List.append_nil];rfl) ?_ ?_ (bt (by omega))
 .intro k hk;unfold nt w4
  try dsimp only
  unfold Di;refine ao (aj (by omega)) (ak (oh (L:=(pre++lK j k).map cU) (by rw[List.length_map,List.length_append,NW];omega) (by decide)) ?_);rw[bJ (x:=(k:Int)+1) (by omega),Tu,<-List.append_assoc,List.map_append (l₁:=pre++lK j k)];rfl
 .unfold nt w4
  try dsimp only
  unfold Di;rw[eY (au (by omega))];rfl
theorem NY(k:Nat):∀(l:List bB) (m:bB),iS k (l++[m])=iS k l++Pl.iz (k+l.length) m
 |[],m=>by simp[iS]|x::l,m=>by rw[List.cons_append,iS,iS,NY (k+1) l m,List.append_assoc,List.length_cons,show k+1+l.length=k+(l.length+1) by omega]
theorem af1(n:av)(of m lv:List Int)(hA:n.aL.length<=2000)(hM:n.aa.length<=4)(hR:∀M∈n.aa,M.reads.length<=4) :
  Dc ((n.aa.length:Int),((0:Int),nt n (nt n (w4 of (jv n.aL.length) m lv))))=some (nt n (w4 of (dF n) m lv)):=by
 have hlen:∀k,k<=n.aa.length->(jv n.aL.length++iS 0 (n.aa.take k)).length<=3000:=by
  intro k hk;rw[List.length_append,sV,sT];have:=yU ju (n.aa.take k) 4 (fun M hM=>by unfold ju;rw[List.length_map];exact hR M (List.mem_of_mem_take hM));have h2:(n.aa.take k).length<=4:=by rw[List.length_take];omega
  omega
 unfold Dc;delta qU;refine cP (fun k:Nat=>((n.aa.length:Int),((k:Int),nt n (nt n (w4 of (jv n.aL.length++iS 0 (n.aa.take k)) m lv))))) n.aa.length (by rw[List.take_zero,show iS 0 []=[]from rfl,List.append_nil];rfl) ?_ ?_ (bt (by omega))
 .intro k hk;have hMk:=List.getElem?_eq_getElem hk;have hMk':(n.aa.map aq)[k]?=some (aq n.aa[k]):=by rw[List.getElem?_map,hMk];rfl
  have hrk:=hR _ (List.getElem_mem hk);unfold nt w4
  try dsimp only
  unfold Dj;rw[ie (aj (by omega)),dG (aN ⟨by omega,by rw[List.length_map];omega⟩),bn hMk'];have e:=afl n of m lv k n.aa.length n.aa[k].reads.length _ (by omega) hM hrk (hlen k (by omega));have hl:List.length (aq n.aa[k]).2.2.2.1=n.aa[k].reads.length:=List.length_map _;rw[hl];refine(bP e).trans ?_;have e2:jv n.aL.length++iS 0 (n.aa.take (k+1))=jv n.aL.length++iS 0 (n.aa.take k)++lK k n.aa[k].reads.length:=by rw[df hMk,NY,List.append_assoc,List.length_take,Nat.min_eq_left (by omega),Nat.zero_add];rfl
  rw[e2];have hw:=bJ (x:=(k:Int)+1) (by omega);show some (Sum.inl (_,(IntKind.wrap (.i64:IntKind) ((k:Int)+1),_)))=_;rw[hw];rfl
 .unfold nt w4
  try dsimp only
  unfold Dj;rw[eY (au (by omega)),List.take_length];rfl
theorem afn(n:av)(V:Nat)(of m lv vs:List Int)(nd:List bA)(a b:Int)(k:Nat)(hk:k<=3000)(hln:vs.length<=100000)(hvs:∀v∈vs,0<=v/\v<=(V:Int))(hof:of.length=V+1) :
  C4 ((k:Int),(a,(b,(vs,((vs.length:Int),((0:Int),nt n (w4 of nd m lv)))))))=some (a,(b,nt n (w4 (cw of (vs.map Int.toNat) ((k:Int)+1)) nd m lv))):=by
 unfold C4;delta DY;refine cP (fun j:Nat=>((k:Int),(a,(b,(vs,((vs.length:Int),((j:Int),nt n (w4 (cw of ((vs.take j).map Int.toNat) ((k:Int)+1)) nd m lv)))))))) vs.length rfl ?_ ?_ (bt (by omega))
 .intro j hj;have hv:=List.getElem?_eq_getElem hj;obtain⟨h0,h1⟩:=hvs _ (List.getElem_mem hj);obtain⟨v,hv2⟩:=Int.eq_ofNat_of_zero_le h0;rw[hv2]at hv h1;unfold nt w4
  try dsimp only
  unfold Dg;rw[ie (aj (by omega)),dG (aN ⟨by omega,by omega⟩),bn (σ:=.int .i64) hv,dG (aN ⟨by omega,by rw[kz,hof];omega⟩),bJ (x:=(j:Int)+1) (by omega),bJ (x:=(k:Int)+1) (by omega)];rw[df hv,List.map_append,List.map_cons,List.map_nil,wB];rfl
 .unfold nt w4
  try dsimp only
  unfold Dg;rw[eY (au (by omega)),List.take_length];rfl
theorem afm{n:av}{V:Nat}(hs:cj n V)(ft:Fit n)(m lv:List Int):Db (((dF n).length:Int),((0:Int),nt n (w4 (List.replicate (V+1) 0) (dF n) m lv)))=some (wk n V m lv):=by
 have hnl:=N9 hs;have hV2:=hs.v2;have hnl2:(dF n).length=(aV n).length:=by rw[Zuw];unfold aV;rw[List.length_map]
 have hmw:∀M∈n.aa,0<=M.word:=fun M hM=>by have:=hs.aa M hM;omega
 unfold Db;delta gN;refine cP (fun k:Nat=>(((dF n).length:Int),((k:Int),nt n (w4 (eW (aV n) V k) (dF n) m lv)))) (dF n).length rfl ?_ ?_ (bt (by omega))
 .intro k hk;have hxd:=List.getElem?_eq_getElem hk;obtain⟨y,hy1,hy2⟩:=GM n hxd;have hy:=List.mem_of_getElem? hy1;have hx:(aV n)[k]?=some y.nd:=by rw[GR,hy1];rfl
  have hxd':((dF n).map cU)[k]?=some (cU (dF n)[k]):=by rw[List.getElem?_map,hxd];rfl
  have hvs:∀u∈y.to,0<=u/\u<=(V:Int):=fun u hu=>by have:=hs.lV hy hu;omega
  have hlens:=Dz hs hy;have e1:=Sw (of:=eW (aV n) V k) (m:=m) (lv:=lv) (nd:=dF n) hy2 ft hmw;have e2:=afn n V (eW (aV n) V k) m lv y.to (dF n) ((dF n).length:Int) (k:Int) k (by omega) (by omega) hvs (Du _ _ _);unfold nt w4
  try dsimp only
  unfold Dh;refine ao (aj (by omega)) (ak (aN ⟨by omega,by rw[List.length_map];omega⟩) ?_);rw[bn hxd'];refine ag e1 (ag e2 ?_);rw[Tx hx];have hw:=bJ (x:=(k:Int)+1) (by omega);show some (Sum.inl (_,(IntKind.wrap (.i64:IntKind) ((k:Int)+1),_)))=_;rw[hw];rfl
 .unfold nt w4
  try dsimp only
  unfold Dh;rw[eY (au (by omega)),hnl2];rfl
theorem YJ{n:av}{V:Nat}(hs:cj n V)(ft:Fit n):Zo9 (nt n ())=some (wk n V (List.replicate (V+1) 0) (List.replicate (V+1) 0)):=by
 have hV2:=hs.v2;have hvars:=hs.vars;have e3:=af0 n (List.replicate (V+1) 0) (List.replicate (V+1) 0) (List.replicate (V+1) 0) hs.lens.2.2.1;have e8:=af1 n (List.replicate (V+1) 0) (List.replicate (V+1) 0) (List.replicate (V+1) 0) hs.lens.2.2.1 hs.lens.2.2.2.2 (fun M hM=>(hs.aa M hM).2.2.2.2.2.2.1);have e17:=afm hs ft (List.replicate (V+1) 0) (List.replicate (V+1) 0);have hw:IntKind.wrap (.i64:IntKind) (n.vars+1)=((V+1:Nat):Int):=by rw[hvars,bJ (by omega)];omega
 show Nt vR Dd Dc C5 Db C4 n.vars n.aM (n.aw.map bK) n.bI n.bh n.constraints (n.aa.map aq) (n.aL.map dg)=_;unfold Nt;rw[hw];have hc:∀k:Int,0<=k->k<=8->both (decide ((0:Int)<=((V+1:Nat):Int))) (both (decide (((V+1:Nat):Int)<=((V+1:Nat):Int))) (decide (k*((V+1:Nat):Int)<=281474976710656)))=true:=by intro k h0 h8;rw[decide_eq_true (by omega),decide_eq_true (by omega),decide_eq_true (by have:k*((V+1:Nat):Int)<=8*((V+1:Nat):Int):=Int.mul_le_mul_of_nonneg_right h8 (by omega);omega)];rfl
 have e3':Dd (((List.map dg n.aL).length:Int),((0:Int),nt n (nt n (w4 (List.replicate (V+1) 0) [] (List.replicate (V+1) 0) (List.replicate (V+1) 0)))))=some (nt n (nt n (w4 (List.replicate (V+1) 0) (jv n.aL.length) (List.replicate (V+1) 0) (List.replicate (V+1) 0)))):=by rw[List.length_map];exact e3
 have e8':Dc (((List.map aq n.aa).length:Int),((0:Int),nt n (nt n (w4 (List.replicate (V+1) 0) (jv n.aL.length) (List.replicate (V+1) 0) (List.replicate (V+1) 0)))))=some (nt n (w4 (List.replicate (V+1) 0) (dF n) (List.replicate (V+1) 0) (List.replicate (V+1) 0))):=by rw[List.length_map];exact e8
 have e17':Db (((List.map cU (dF n)).length:Int),((0:Int),nt n (w4 (List.replicate (V+1) 0) (dF n) (List.replicate (V+1) 0) (List.replicate (V+1) 0))))=some (wk n V (List.replicate (V+1) 0) (List.replicate (V+1) 0)):=by rw[List.length_map];exact e17
 exact ak (hc 8 (by decide) (by decide)) (ak (hc 1 (by decide) (by decide)) (ak (hc 8 (by decide) (by decide)) (ag e3' (ag e8' (ag e17' rfl)))))
theorem acM{V:Nat}{m:List Int}(h:V<=2000):fresh V m<NN:=by
 have z:∀(p:Nat->Bool) k,zc p k<=k:=by
  intro p k
  induction k with|zero=>exact Nat.le_refl _|succ k ih=>rw[zc];split<;>omega
 have:fresh V m<=V+1:=z _ _;exact bt (by omega)
theorem Rj{n:av}{V:Nat}(hs:cj n V)(ft:Fit n) :
  ∃m lv,Zhj (wk n V (List.replicate (V+1) 0) (List.replicate (V+1) 0))=some (eI (aV n) V,wk n V m lv) /\
   (eI (aV n) V=true->lv.length=V+1/\∀v,v<=V->∃k:Nat,ax lv v=(k:Int)/\cJ (aV n) v k):=by
 have hV2:=hs.v2;have hL:=lZ (B:=fun d=>MZ Ma d.1 d.2.1 d.2.2.1 d.2.2.2.1 d.2.2.2.2.1 d.2.2.2.2.2.1 d.2.2.2.2.2.2.1 d.2.2.2.2.2.2.2.1 d.2.2.2.2.2.2.2.2.1 d.2.2.2.2.2.2.2.2.2.1 d.2.2.2.2.2.2.2.2.2.2.1 d.2.2.2.2.2.2.2.2.2.2.2.1 d.2.2.2.2.2.2.2.2.2.2.2.2.1 d.2.2.2.2.2.2.2.2.2.2.2.2.2.1)
  (I:=fun d:Int×Int×WT=>∃(k:Nat) (m lv:List Int),d=(((V+1:Nat):Int),((k:Int),wk n V m lv))/\k<=V+1/\VI (aV n) V m lv/\(∀u,u<=V->ax m u≠1)/\(∀u,u<k->tl (aV n) m u))
  (Q:=fun o:Out CI=>(∃m lv,o=.inl (false,wk n V m lv)/\∃u,u<=V/\∀k,¬cJ (aV n) u k)\/(∃m lv,o=.inr (wk n V m lv)/\VI (aV n) V m lv/\∀u,u<V+1->tl (aV n) m u))
  (μ:=fun d=>V+1-d.2.1.toNat) ?_ NN (((V+1:Nat):Int),((0:Int),wk n V (List.replicate (V+1) 0) (List.replicate (V+1) 0))) ⟨0,_,_,rfl,by omega,vi0,fun u hu=>by unfold ax;rw[List.getD_eq_getElem?_getD,List.getElem?_replicate];split<;>simp,fun u h=>by omega⟩ (bt (by omega))
 .obtain⟨o,ho,hcase⟩:=hL;have hlen:((List.length (eW (aV n) V (aV n).length):Nat):Int)=((V+1:Nat):Int):=by rw[Du]
  have ho':Zhi (((List.length (eW (aV n) V (aV n).length):Nat):Int),((0:Int),wk n V (List.replicate (V+1) 0) (List.replicate (V+1) 0)))=some o:=by rw[hlen];exact ho
  rcases hcase with⟨m,lv,rfl,u,hu,hno⟩|⟨m,lv,rfl,hI,hT⟩
  .have hf:eI (aV n) V=false:=by
    cases h:eI (aV n) V
    .rfl
    .obtain⟨kk,hkk⟩:=(yX hs.apart V).1 h u hu;exact absurd hkk (hno kk)
   rw[hf];exact⟨m,lv,ag ho' rfl,fun h=>by cases h⟩
  .have hl:∀v,v<=V->∃k:Nat,ax lv v=(k:Int)/\cJ (aV n) v k:=fun v hv=>y1 hI hv (hT v (by omega));have ht:eI (aV n) V=true:=(yX hs.apart V).2 fun v hv=>by obtain⟨k,_,h⟩:=hl v hv;exact⟨k,h⟩
   rw[ht];exact⟨m,lv,ag ho' rfl,fun _=>⟨hI.ll,hl⟩⟩
 .rintro _ ⟨k,m,lv,rfl,hk,hI,hU,hT⟩;by_cases hlt:k<V+1
  .obtain⟨b,m2,lv2,e,hp⟩:=adn hs ft NN m lv k hI (fun u hu h=>absurd h (hU u hu)) (by omega) (acM hV2);have e':Ma ((k:Int),wk n V m lv)=some (b,wk n V m2 lv2):=e;rcases hp with⟨rfl,hI7,hE7,ht7⟩|⟨rfl,u',hu',hno⟩
   .right;refine⟨_,ao (aj (show(k:Int)<((V+1:Nat):Int) by omega)) (ag e' (af rfl rfl)),⟨k+1,m2,lv2,?_,by omega,hI7,fun u hu h=>hU u hu (hE7.b u hu h),fun u hu=>?_⟩,?_⟩
    .have e2:∀a a':Int,a=a'->(((V+1:Nat):Int),(a,wk n V m2 lv2))=(((V+1:Nat):Int),(a',wk n V m2 lv2)):=by rintro _ _ rfl;rfl
     exact e2 _ _ (bJ (x:=(k:Int)+1) (by omega))
    .by_cases e:u=k
     .subst e;exact ht7
     .exact(Gy hI hI7 hE7 (by omega) (hT u (by omega))).1
    .show V+1-(IntKind.wrap (.i64:IntKind) ((k:Int)+1)).toNat<V+1-(k:Int).toNat;rw[bJ (x:=(k:Int)+1) (by omega)];omega
   .left;exact⟨_,ao (aj (show(k:Int)<((V+1:Nat):Int) by omega)) (ag e' (ao rfl rfl)),.inl ⟨m2,lv2,rfl,u',hu',hno⟩⟩
  .left;exact⟨_,af (au (show ¬(k:Int)<((V+1:Nat):Int) by omega)) rfl,.inr ⟨m,lv,rfl,hI,fun u hu=>hT u (by omega)⟩⟩
theorem pf{n:av}(ft:Fit n):Zfn (ba n,())=some (cK n,()):=by
 have es:lr (ba n,())=some (dt n,()):=by unfold lr;rw[show dO ((ba n,()):TL [bf]).1=n from lG n,y0 ft];rfl
 by_cases h0:dt n=0
 .obtain⟨V,hs⟩:=oM h0;have hV:n.vars.toNat=V:=by rw[hs.vars];rfl
  obtain⟨m,lv,ea,_⟩:=Rj hs ft;have ew:=YJ hs ft;cases hc:eI (aV n) V
  .have et:wj (nt n ())=some (.inl ((8:Int),())):=by refine ag es (af (by rw[h0];rfl) (ag ew (ag ea (ao (by rw[hc];rfl) rfl))))
   refine(ag et rfl).trans ?_;unfold cK;rw[h0,hV,hc];rfl
  .have et:wj (nt n ())=some (.inr ((0:Int),wk n V m lv)):=by refine ag es (af (by rw[h0];rfl) (ag ew (ag ea (af (by rw[hc];rfl) rfl))))
   refine(ag et rfl).trans ?_;unfold cK;rw[h0,hV,hc];rfl
 .have et:wj (nt n ())=some (.inl (dt n,())):=by refine ag es (ao (by simp[h0]) rfl)
  refine(ag et rfl).trans ?_;unfold cK;rw[if_pos h0];rfl
def A6(n:av)(k:Nat):List (bA×bo):=(jv k).zip ((n.aL.take k).map oS)
def M6(n:av)(k:Nat):List (bA×bo):=(iS 0 (n.aa.take k)).zip ((n.aa.take k).flatMap ju)
def R6(j:Nat)(M:bB)(r:Nat):List (bA×bo):=(lK j r).zip ((M.reads.take r).map (oI M.word))
def n6(n:av):List (bA×bo):=A6 n n.aL.length++M6 n n.aa.length
theorem ads{n:av}{k:Nat}{a:eH}(h:n.aL[k]?=some a):A6 n (k+1)=A6 n k++[(⟨false,0,k⟩,oS a)]:=by unfold A6;rw[SQ,df h,List.map_append,List.zip_append (by rw[sV,List.length_map,List.length_take];have:=dr h;omega)];rfl
theorem Te{n:av}{k:Nat}(h:k<=n.aL.length):(A6 n k).length=k:=by unfold A6;rw[List.length_zip,sV,List.length_map,List.length_take];omega
theorem adu{j:Nat}{M:bB}{k:Nat}{r:mH}(h:M.reads[k]?=some r):R6 j M (k+1)=R6 j M k++[(⟨true,j,k⟩,oI M.word r)]:=by unfold R6;rw[Tu,df h,List.map_append,List.zip_append (by rw[NW,List.length_map,List.length_take];have:=dr h;omega)];rfl
theorem ahH{j:Nat}{M:bB}{k:Nat}(h:k<=M.reads.length):(R6 j M k).length=k:=by unfold R6;rw[List.length_zip,NW,List.length_map,List.length_take];omega
theorem adt{n:av}{k:Nat}{M:bB}(h:n.aa[k]?=some M):M6 n (k+1)=M6 n k++R6 k M M.reads.length:=by unfold M6 R6;rw[df h,NY,List.flatMap_append,List.zip_append (by rw[sT])];have:=dr h;rw[List.length_take,Nat.min_eq_left (by omega),Nat.zero_add,List.take_length];simp only[List.flatMap_cons,List.flatMap_nil,List.append_nil];rfl
theorem ae3(n:av)(hA:n.aL.length<=2000):ZE ((0:Int),nt n ([],()))=some (nt n ((A6 n n.aL.length).map cE,())):=by
 unfold ZE;delta lM;refine cP (fun k:Nat=>((k:Int),nt n ((A6 n k).map cE,()))) n.aL.length rfl ?_ ?_ (bt (by omega))
 .intro k hk;have ha:=List.getElem?_eq_getElem hk;have ha':(n.aL.map dg)[k]?=some (dg n.aL[k]):=by rw[List.getElem?_map,ha];rfl
  unfold nt
  try dsimp only
  unfold CW;refine ao (aj (show(k:Int)<(((n.aL.map dg).length:Nat):Int) by rw[List.length_map];omega)) (ak (aN ⟨by omega,by rw[List.length_map];omega⟩) ?_);rw[bn ha'];refine ak (oh (L:=(A6 n k).map cE) (by rw[List.length_map,Te (by omega)];omega) (by decide)) ?_;rw[bJ (x:=(k:Int)+1) (by omega),ads ha,List.map_append (l₁:=A6 n k)];rfl
 .unfold nt
  try dsimp only
  unfold CW;refine af (au (show ¬(n.aL.length:Int)<(((n.aL.map dg).length:Nat):Int) by rw[List.length_map];omega)) rfl
theorem aeb{n:av}{j:Nat}{M:bB}(hM:n.aa[j]?=some M)(hw:0<=M.word/\M.word<=4000)(hR:M.reads.length<=4)(hrv:∀r∈M.reads,-1099511627776<=r.var/\r.var<=1099511627776)(hj:j<=4)(pre:List (bA×bo))(hp:pre.length<=3000) :
  LV ((j:Int),((0:Int),nt n (pre.map cE,())))=some ((j:Int),nt n ((pre++R6 j M M.reads.length).map cE,())):=by
 have hM':(n.aa.map aq)[j]?=some (aq M):=by rw[List.getElem?_map,hM];rfl
 have hjl:=dr hM';unfold LV;delta jE;refine cP (fun k:Nat=>((j:Int),((k:Int),nt n ((pre++R6 j M k).map cE,())))) M.reads.length (by rw[show R6 j M 0=[]from rfl,List.append_nil];rfl) ?_ ?_ (bt (by omega))
 .intro k hk;have hr:=List.getElem?_eq_getElem hk;have hr':(M.reads.map dv)[k]?=some (dv M.reads[k]):=by rw[List.getElem?_map,hr];rfl
  have e1:=acB M k _ hr hw (hrv _ (List.getElem_mem hk));unfold nt
  try dsimp only
  unfold CR;rw[dG (aN ⟨by omega,by omega⟩),bn hM',show(aq M).2.2.2.1=M.reads.map dv from rfl];refine ao (aj (show(k:Int)<(((M.reads.map dv).length:Nat):Int) by rw[List.length_map];omega)) (ak (aN ⟨by omega,by omega⟩) (ak (aN ⟨by omega,by rw[List.length_map];omega⟩) (ak (aN ⟨by omega,by omega⟩) ?_)));rw[bn hr'];refine(bP e1).trans (ak (oh (L:=(pre++R6 j M k).map cE) (by rw[List.length_map,List.length_append,ahH (by omega)];omega) (by decide)) ?_);rw[bJ (x:=(k:Int)+1) (by omega),adu hr,<-List.append_assoc,List.map_append (l₁:=pre++R6 j M k)];rfl
 .unfold nt
  try dsimp only
  unfold CR;rw[dG (aN ⟨by omega,by omega⟩),bn hM',show(aq M).2.2.2.1=M.reads.map dv from rfl];exact af (au (show ¬(M.reads.length:Int)<(((M.reads.map dv).length:Nat):Int) by rw[List.length_map];omega)) rfl
theorem ahI(n:av)(k:Nat):(M6 n k).length=((n.aa.take k).flatMap ju).length:=by unfold M6;rw[List.length_zip,sT];omega
theorem sc(n:av):(n6 n).map (fun x:bA×bo=>x.2)=fb n:=by
 unfold n6 A6 M6 fb;rw[List.map_append,List.take_length,List.take_length];congr 1
 .exact List.map_snd_zip (by rw[sV,List.length_map];omega)
 .exact List.map_snd_zip (by rw[sT];omega)
theorem rH(n:av):(n6 n).map (fun x:bA×bo=>x.2.nd)=aV n:=by unfold aV;rw[<-sc,List.map_map];rfl
theorem yH{n:av}{V:Nat}(hs:cj n V):N6 (n6 n) V:=by
 have hm:∀x∈n6 n,x.2∈fb n:=fun x hx=>by rw[<-sc];exact List.mem_map_of_mem hx
 refine⟨hs.v2,?_,fun x hx=>⟨?_,fun v hv=>?_⟩,fun x hx=>⟨?_,fun l hl=>?_⟩⟩
 .have h:=N9 hs;rw[<-rH,List.length_map]at h;exact h
 .have:=(Dz hs (hm x hx)).1;omega
 .have:=hs.lV (hm x hx) hv;omega
 .have:=(Dz hs (hm x hx)).2;omega
 .have:=hs.GZ (hm x hx) hl;omega
theorem ak5{n:av}{V:Nat}(hs:cj n V)(ft:Fit n):Zs (ba n,())=some ((n6 n).map cE,()):=by
 have hA:=hs.lens.2.2.1;have hMl:=hs.lens.2.2.2.2;have e3:=ae3 n hA;have hlen:∀k,k<=n.aa.length->(A6 n n.aL.length++M6 n k).length<=3000:=by
  intro k hk;rw[List.length_append,Te (Nat.le_refl _),ahI];have:=yU ju (n.aa.take k) 4 (fun M hM=>by unfold ju;rw[List.length_map];exact(hs.aa M (List.mem_of_mem_take hM)).2.2.2.2.2.2.1);have h2:(n.aa.take k).length<=4:=by rw[List.length_take];omega
  omega
 have e8:ZD ((0:Int),nt n ((A6 n n.aL.length).map cE,()))=some ((n6 n).map cE,()):=by
  unfold ZD;delta lM;refine cP (fun k:Nat=>((k:Int),nt n ((A6 n n.aL.length++M6 n k).map cE,()))) n.aa.length (by rw[show M6 n 0=[]from rfl,List.append_nil];rfl) ?_ ?_ (bt (by omega))
  .intro k hk;have hM:=List.getElem?_eq_getElem hk;have hm:=hs.aa _ (List.getElem_mem hk);have hfit:=ft.aa.2 _ (List.getElem_mem hk);have e11:=aeb hM ⟨by omega,by omega⟩ hm.2.2.2.2.2.2.1 (fun r hr=>⟨(hfit.jV r hr).2.1,(hfit.jV r hr).2.2.1⟩) (by omega) (A6 n n.aL.length++M6 n k) (hlen k (by omega));unfold nt
   try dsimp only
   unfold CV;refine ao (aj (show(k:Int)<(((n.aa.map aq).length:Nat):Int) by rw[List.length_map];omega)) ((bP e11).trans ?_);have e:∀(p q:Int) (s s':List dk.T),p=q->s=s'->(some (.inl (p,nt n (s,()))):Option (TL CB.σs⊕Out Cq))=some (.inl (q,nt n (s',()))):=by rintro _ _ _ _ rfl rfl;rfl
   exact e _ _ _ _ (bJ (x:=(k:Int)+1) (by omega)) (by rw[adt hM,List.append_assoc]<;>rfl)
  .unfold nt
   try dsimp only
   unfold CV;exact af (au (show ¬(n.aa.length:Int)<(((n.aa.map aq).length:Nat):Int) by rw[List.length_map];omega)) rfl
 exact ag e3 (ag e8 rfl)
theorem ahJ{n:av}{V:Nat}(hs:cj n V)(ft:Fit n)(h0:dt n=0) :
  Zfg (ba n,())=some (if eI (aV n) V then(ij (aV n) ((n6 n).length+1) (iF (aV n) V),(true,()))else([],(false,()))):=by
 have hV2:=hs.v2;have h6:=yH hs;have es:sL (ba n,())=some (dt n,()):=by unfold sL lr;rw[show dO ((ba n,()):TL [bf]).1=n from lG n,y0 ft];rfl
 have eN:=ak5 hs ft;have hw:IntKind.wrap (.i64:IntKind) (n.vars+1)=((V+1:Nat):Int):=by rw[hs.vars,bJ (by omega)];omega
 have e6:=afF h6 (List.replicate (V+1) 0) (by simp);rw[rH]at e6;have hout:cw (List.replicate (V+1) 0) ((aV n).flatMap (·.to)) (-1)=iF (aV n) V:=rfl;rw[hout]at e6;have hol:(iF (aV n) V).length=V+1:=by unfold iF;rw[kz];simp
 have hob:∀u,ax (iF (aV n) V) u<=0:=by unfold iF;refine Oa (l:=List.replicate (V+1) 0) (by omega) _ (fun u=>?_);unfold ax;rw[List.getD_eq_getElem?_getD,List.getElem?_replicate];split<;>simp
 have e14:=aeQ h6 (iF (aV n) V) hol hob;rw[rH]at e14;have hNl:(n6 n).length=(aV n).length:=by rw[<-rH,List.length_map]
 have ht:=agt hs.apart hs.aT hs.fu;rw[<-hNl]at ht;have hle:=Oo (aV n) (ij (aV n) (n6 n).length (iF (aV n) V));show MA LD Zs sL Mf CH Md CC Ch (ba n)=_;unfold MA;refine(bP es).trans (af (by rw[h0];rfl) ?_);have hw':IntKind.wrap (.i64:IntKind) (@HAdd.hAdd Int Int Int _ (ba n).1 (1:Int))=((V+1:Nat):Int):=hw;rw[hw'];refine ak (by show both (decide _) (both (decide _) (decide _))=true;rw[decide_eq_true (by omega),decide_eq_true (by omega),decide_eq_true (by show(8:Int)*_<=_;omega)];rfl) ((bP eN).trans ((bP e6).trans ((bP e14).trans ?_)));by_cases ha:eI (aV n) V=true
 .have hz:=ht.2 ha;rw[if_pos ha];refine af (au (by show ¬(0:Int)<((gj (aV n) (ij (aV n) (n6 n).length (iF (aV n) V)):Nat):Int);rw[hz];omega)) rfl
 .have hz:gj (aV n) (ij (aV n) (n6 n).length (iF (aV n) V))≠0:=fun h=>ha (ht.1 h);rw[if_neg ha];refine ao (aj (by show(0:Int)<((gj (aV n) (ij (aV n) (n6 n).length (iF (aV n) V)):Nat):Int);omega)) rfl
theorem DN{n:av}(ft:Fit n):Zb7 (ba n,())=some (cK n,()):=by
 have es:sL (ba n,())=some (dt n,()):=by unfold sL lr;rw[show dO ((ba n,()):TL [bf]).1=n from lG n,y0 ft];rfl
 by_cases h0:dt n=0
 .obtain⟨V,hs⟩:=oM h0;have hV:n.vars.toNat=V:=by rw[hs.vars];rfl
  have eL:=ahJ hs ft h0;unfold cK;rw[h0,hV,if_neg (by simp)];by_cases ha:eI (aV n) V=true
  .rw[if_pos ha]at eL;rw[if_pos ha];exact ag es (af (by rw[h0];rfl) (ag eL (af rfl rfl)))
  .rw[if_neg ha]at eL;rw[if_neg ha];exact ag es (af (by rw[h0];rfl) (ag eL (ao rfl rfl)))
 .unfold cK;rw[if_pos h0];exact ag es (ao (by simp[h0]) rfl)
