import Derived.Test.YtmkbdfidnfmgmaaGreatWTa
set_option linter.all false
section
namespace Go.Proofs.YtmkbdfidnfmgmaaGreat.Pl
inductive uC(n:ak):Int->Int->Prop
 |aJ {l:dJ}:l∈n.ag->uC n l.var l.next
 |node {x:cx}{v l:Int}:x∈dj n->v∈x.to->l∈x.bj->uC n v l
 |mem {m:cf}{v l:Int}:m∈n.ae->v∈fv m->l∈fi m->uC n v l
inductive iD(n:ak):Nat->Prop
 |base {l:Int}:l∈n.aN++n.constraints->0<l / 2->iD n (l / 2).toNat
 |step {p:Nat}{l:Int}:iD n p->uC n (p:Int) l->0<l / 2->iD n (l / 2).toNat
structure Clo(n:ak)(S:Nat->Prop):Prop where
 base:∀l∈n.aN++n.constraints,0<l / 2->S (l / 2).toNat
 step:∀(p:Nat) (l:Int),S p->uC n (p:Int) l->0<l / 2->S (l / 2).toNat
variable{n:ak}{p:Nat}
theorem Xz{S:Nat->Prop}(h:Clo n S)(k:iD n p):S p:=by induction k with|base a b=>exact h.base _ a b|step _ b c ih=>exact h.step _ _ ih b c
def On(m:md)(p:Nat):Prop:=m.getD p false=true
variable{m:md}
theorem ZD(h:On m p):p<m.length:=by
 unfold On at h
 grind
variable{i:Nat}
theorem kL:On (m.set i true) p↔On m p\/(i=p/\p<m.length):=by
 unfold On
 grind
theorem Ek{m':md}(hl:m.length=m'.length)(h:∀p,On m p↔On m' p):m=m':=by
 refine atK hl fun i h1 h2=>?_;have:=h i;unfold On at this
 grind
def vh(m:md)(l:Int):md:=if 0<l / 2 then m.set (l / 2).toNat true else m
def jH(m:md)(ls:jp):md:=ls.foldl vh m
theorem Xw(m:md)(l:Int):(vh m l).length=m.length:=by
 unfold vh
 grind
theorem vD:∀(ls:jp) (m:md),(jH m ls).length=m.length
 |[],_=>rfl|l::ls,m=>(vD ls (vh m l)).trans (Xw m l)
theorem alp{l:Int}:On (vh m l) p↔On m p\/(0<l / 2/\(l / 2).toNat=p/\p<m.length):=by
 unfold vh;split
 .rename_i h;rw[kL];simp[h]
 .rename_i h;simp[h]
theorem yu:∀{ls:jp}{m:md}{p:Nat},On (jH m ls) p↔On m p\/∃l∈ls,0<l / 2/\(l / 2).toNat=p/\p<m.length
 |[],m,p=>by show On m p↔_;simp|l::ls,m,p=>by show On (jH (vh m l) ls) p↔_;rw[yu,alp,Xw];simp[or_assoc]
theorem aiR(m:md)(a b:jp):jH m (a++b)=jH (jH m a) b:=asd ..
inductive j9 where
 |aJ (l:dJ)
 |vj (x:cV×cx) (v:Int)
 |mem (i:Nat) (m:cf)
abbrev S2:=md×md
def j9.run(s:S2):j9->S2
 |.aJ l=>bif s.1.getD l.var.toNat false then(jH s.1 [l.next],s.2)else s|.vj x v=>bif s.1.getD v.toNat false then(jH s.1 x.2.bj,bif x.1.rd then s.2.set x.1.mem true else s.2)else s|.mem i m=>bif s.2.getD i false then(jH s.1 (fi m),s.2)else s
theorem MO(s:S2)(l:dJ):(j9.aJ l).run s=bif s.1.getD l.var.toNat false then(jH s.1 [l.next],s.2)else s:=rfl
theorem Ec(s:S2)(x:cV×cx)(v:Int):(j9.vj x v).run s=bif s.1.getD v.toNat false then(jH s.1 x.2.bj,bif x.1.rd then s.2.set x.1.mem true else s.2)else s:=rfl
theorem MP(s:S2)(i:Nat)(m:cf):(j9.mem i m).run s=bif s.2.getD i false then(jH s.1 (fi m),s.2)else s:=rfl
def mr(n:ak):List j9:=n.ag.map .aJ++(((eH n).zip (dj n)).flatMap (fun x=>x.2.to.map (.vj x))++n.ae.zipIdx.map fun x=>.mem x.2 x.1)
def oM(n:ak)(s:S2):S2:=(mr n).foldl j9.run s
def pG(n:ak):Nat->S2->S2
 |0,s=>s|k+1,s=>pG n k (oM n s)
structure kC(s t:S2):Prop where
 l1:s.1.length=t.1.length
 l2:s.2.length=t.2.length
 h1:∀p,On s.1 p->On t.1 p
 h2:∀p,On s.2 p->On t.2 p
theorem kC.refl(s:S2):kC s s:=⟨rfl,rfl,fun _ h=>h,fun _ h=>h⟩
variable{t:S2}{s:S2}
theorem kC.trans{u:S2}(a:kC s t)(b:kC t u):kC s u:=⟨a.l1.trans b.l1,a.l2.trans b.l2,fun p h=>b.h1 p (a.h1 p h),fun p h=>b.h2 p (a.h2 p h)⟩
theorem kC.arv(a:kC s t)(b:kC t s):s=t:=Prod.ext (Ek a.l1 fun p=>⟨a.h1 p,b.h1 p⟩) (Ek a.l2 fun p=>⟨a.h2 p,b.h2 p⟩)
theorem mS(m k k':md)(ls:jp)(hl:k.length=k'.length)(h:∀p,On k p->On k' p):kC (m,k) (jH m ls,k'):=⟨(vD _ _).symm,hl,fun p q=>yu.2 (.inl q),h⟩
theorem Y9(s:S2):∀f:j9,kC s (f.run s)
 |.aJ l=>by
  rw[MO];cases s.1.getD l.var.toNat false
  .exact kC.refl s
  .exact mS _ _ _ _ rfl fun _ h=>h
 |.vj x v=>by
  rw[Ec];cases s.1.getD v.toNat false
  .exact kC.refl s
  .cases x.1.rd
   .exact mS _ _ _ _ rfl fun _ h=>h
   .exact mS _ _ _ _ (acl ..).symm fun _ h=>kL.2 (.inl h)
 |.mem i m=>by
  rw[MP];cases s.2.getD i false
  .exact kC.refl s
  .exact mS _ _ _ _ rfl fun _ h=>h
theorem Eb:∀(fs:List j9) (s:S2),kC s (fs.foldl j9.run s)
 |[],s=>kC.refl s|f::fs,s=>(Y9 s f).trans (Eb fs _)
theorem X1:∀(fs:List j9) (s:S2),fs.foldl j9.run s=s->∀f∈fs,f.run s=s
 |[],s,_=>by simp|f::fs,s,h=>by
  have h:fs.foldl j9.run (f.run s)=s:=h;have a:=Y9 s f;have b:=Eb fs (f.run s);rw[h]at b;have e:f.run s=s:=b.arv a;rw[e]at h;intro g hg;rcases GE.1 hg with rfl|hg
  .exact e
  .exact X1 fs s h g hg
structure pc(n:ak)(s:S2):Prop where
 h1:∀p,On s.1 p->iD n p
 h2:∀(i:Nat) (m:cf),On s.2 i->n.ae[i]?=some m->∃p:Nat,iD n p/\(p:Int)∈fv m
theorem yr{ls:jp}(h:∀p,On m p->iD n p)(hl:∀l∈ls,0<l / 2->iD n (l / 2).toNat):∀p,On (jH m ls) p->iD n p:=by
 intro p hp;rcases yu.1 hp with hp|⟨l,h1,h2,rfl,_⟩
 .exact h p hp
 .exact hl l h1 h2
variable{f:j9}
theorem akL(h:f∈mr n):(∃l∈n.ag,f=.aJ l)\/(∃x v,x∈(eH n).zip (dj n)/\v∈x.2.to/\f=.vj x v)\/∃i m,n.ae[i]?=some m/\f=.mem i m:=by
 unfold mr at h
 grind
theorem alT{x:cV×cx}(h:x∈(eH n).zip (dj n)):x.1.is n x.2/\x.2∈dj n:=by
 obtain⟨i,hi⟩:=Fr h;rw[arQ]at hi;obtain⟨y,h1,h2⟩:=za n hi.1
 grind
theorem alJ(hs:pc n s)(pos:∀x∈dj n,∀v∈x.to,0<=v)(posL:∀l∈n.ag,0<=l.var)(hf:f∈mr n):pc n (f.run s):=by
 rcases akL hf with⟨l,h,rfl⟩|⟨x,v,h,hv,rfl⟩|⟨i,m,h,rfl⟩
 .rw[MO];cases q:s.1.getD l.var.toNat false
  .exact hs
  .refine⟨yr hs.h1 fun y hy h0=>?_,hs.h2⟩;have e:y=l.next:=by grind
   subst e;refine .step (hs.h1 _ q) ?_ h0;rw[arS (posL l h)];exact .aJ h
 .obtain⟨h1,h2⟩:=alT h;rw[Ec];cases q:s.1.getD v.toNat false
  .exact hs
  .have e:((v.toNat:Nat):Int)=v:=arS (pos _ h2 v hv);refine⟨yr hs.h1 fun y hy h0=>.step (hs.h1 _ q) (by rw[e];exact .node h2 hv hy) h0,fun i m hi hm=>?_⟩;rcases h1 with⟨hr,a,ha,ex⟩|⟨hr,M,r,hM,hr2,ex⟩
   .rw[hr]at hi;exact hs.h2 i m hi hm
   .rw[hr]at hi;rcases kL.1 hi with hi|⟨rfl,_⟩
    .exact hs.h2 i m hi hm
    .rw[hM]at hm;cases hm;refine⟨v.toNat,hs.h1 _ q,?_⟩;rw[e];rw[ex]at hv;exact rg.2 ⟨r,dy hr2,hv⟩
 .rw[MP];cases q:s.2.getD i false
  .exact hs
  .obtain⟨p,h1,h2⟩:=hs.h2 i m q h;exact⟨yr hs.h1 fun y hy h0=>.step h1 (.mem (dy h) h2 hy) h0,hs.h2⟩
theorem Yp{n:ak}(pos:∀x∈dj n,∀v∈x.to,0<=v)(posL:∀l∈n.ag,0<=l.var):∀(fs:List j9) (s:S2),(∀f∈fs,f∈mr n)->pc n s->pc n (fs.foldl j9.run s)
 |[],s,_,h=>h|f::fs,s,hf,h=>Yp pos posL fs _ (fun g hg=>hf g (FS _ hg)) (alJ h pos posL (hf f IN))
structure Zl(n:ak)(s:S2):Prop where
 c:Clo n (On s.1)
 h2:∀(i:Nat) (m:cf) (p:Nat),On s.1 p->n.ae[i]?=some m->(p:Int)∈fv m->On s.2 i
theorem aiX{m:cf}(h:n.ae[i]?=some m):j9.mem i m∈mr n:=by unfold mr;simp only[rc,ro];exact .inr (.inr ⟨(m,i),arH.2 h,rfl⟩)
theorem ai6{x:cx}{v:Int}(h:x∈dj n)(hv:v∈x.to):∃y:cV,(y,x)∈(eH n).zip (dj n)/\j9.vj (y,x) v∈mr n:=by
 obtain⟨i,hi⟩:=Fr h;have hl:=(ut.1 hi).1;rw[<-JF]at hl;have hz:(((eH n).zip (dj n)))[i]?=some ((eH n)[i],x):=arQ.2 ⟨ba hl,hi⟩;refine⟨_,dy hz,?_⟩;unfold mr
 grind
theorem Yv:∀(l:List cf) (k i:Nat) (m:cf) (r:jz),l[i]?=some m->r∈m.reads->∃y:cV,y.rd=true/\y.mem=k+i/\∃j:Nat,(iN k l)[j]?=some y/\(l.flatMap j4)[j]?=some (kj m.word r)
 |[],k,i,m,r,h,_=>by simp at h|m0::l,k,0,m,r,h,hr=>by
  simp only[Fd,cM]at h;subst h;obtain⟨j,hj⟩:=Fr hr;have hl:=(ut.1 hj).1;refine⟨⟨true,k,j⟩,rfl,rfl,j,?_,?_⟩
  .rw[iN,Pi (by simp[ja];exact hl)];unfold ja
   grind
  .rw[AT,Pi (by simp[j4];exact hl)];unfold j4;rw[ct,hj];rfl
 |m0::l,k,i+1,m,r,h,hr=>by
  have h':l[i]?=some m:=by simpa using h
  obtain⟨y,h1,h2,j,h3,h4⟩:=Yv l (k+1) i m r h' hr;have e1:(ja k m0).length=m0.reads.length:=by simp[ja]
  have e2:(j4 m0).length=m0.reads.length:=by simp[j4]
  refine⟨y,h1,atO,m0.reads.length+j,?_,?_⟩
  .rw[iN,WF atO,e1,atC];exact h3
  grind
theorem Yg{m:cf}{r:jz}(h:n.ae[i]?=some m)(hr:r∈m.reads):∃y:cV,y.rd=true/\y.mem=i/\(y,kj m.word r)∈(eH n).zip (dj n):=by
 obtain⟨y,h1,h2,j,h3,h4⟩:=Yv n.ae 0 i m r h hr;refine⟨y,h1,atO,List.mem_of_getElem? (i:=n.aj.length+j) (arQ.2 ⟨?_,?_⟩)⟩
 .unfold eH
  grind
 .unfold dj
  grind
variable{V:Nat}
theorem ajZ(hs:bR n V)(hl:s.1.length=V+1)(hl2:s.2.length=n.ae.length)(hb:∀l∈n.aN++n.constraints,0<l / 2->On s.1 (l / 2).toNat)(hf:∀f∈mr n,f.run s=s):Zl n s:=by
 have rd:∀(i:Nat) (m:cf) (p:Nat),On s.1 p->n.ae[i]?=some m->(p:Int)∈fv m->On s.2 i:=by
  intro i m p hp hm hv;obtain⟨r,hr,hv⟩:=rg.1 hv;obtain⟨y,h1,h2,h3⟩:=Yg hm hr;have hst:j9.vj (y,kj m.word r) (p:Int)∈mr n:=by unfold mr;simp only[rc,rg,ro];exact .inr (.inl ⟨_,h3,(p:Int),hv,rfl⟩)
  have:=hf _ hst;rw[Ec]at this;rw[Ne,show s.1.getD p false=true from hp,cond_true]at this;have h5:=PP Prod.snd this;simp only[h1,cond_true,h2]at h5;rw[<-h5];exact kL.2 (.inr ⟨rfl,by rw[hl2];exact(ut.1 hm).1⟩)
 have fix:∀ls:jp,(∀l∈ls,l∈bJ n)->jH s.1 ls=s.1->∀l∈ls,0<l / 2->On s.1 (l / 2).toNat:=by intro ls hls e l hl0 h0;rw[<-e];refine yu.2 (.inr ⟨l,hl0,h0,rfl,?_⟩);have:=(hs.lits l (hls l hl0)).2;rw[hl];omega
 refine⟨⟨hb,fun p l hp hq h0=>?_⟩,rd⟩;generalize hv:(p:Int)=v at hq;cases hq with
 |@aJ x hx=>
  have:=hf (.aJ x) (by unfold mr;simp only[rc,ro];exact .inl ⟨x,hx,rfl⟩);rw[MO]at this;rw[<-hv,Ne,show s.1.getD p false=true from hp,cond_true]at this;exact fix [x.next] (fun l hl=>by
   have e:l=x.next:=by simpa using hl
   subst e;unfold bJ
   grind) (PP Prod.fst this) _ atQ h0
 |@node x _ _ hx hv2 hl2=>
  obtain⟨y,h1,h2⟩:=ai6 hx hv2;have:=hf _ h2;rw[Ec]at this;rw[<-hv,Ne,show s.1.getD p false=true from hp,cond_true]at this;refine fix x.bj (fun l hl=>?_) (PP Prod.fst this) _ hl2 h0;unfold bJ;simp only[rc,rg];unfold dj at hx;rcases rc.1 hx with hx|hx
  .obtain⟨a,ha,rfl⟩:=ro.1 hx;exact .inr ⟨a,ha,hl⟩
  .obtain⟨m,hm,hx⟩:=rg.1 hx;obtain⟨r,hr,rfl⟩:=ro.1 hx;exact .inl (.inr ⟨m,hm,AC _ (rg.2 ⟨r,hr,hl⟩)⟩)
 |@mem m _ _ hm hv2 hl2=>obtain⟨i,hi⟩:=Fr hm;have:=hf _ (aiX hi);rw[MP]at this;rw[show s.2.getD i false=true from rd i m p hp hi (by rw[hv];exact hv2),cond_true]at this;refine fix (fi m) (fun l hl=>?_) (PP Prod.fst this) _ hl2 h0;unfold bJ;simp only[rc,rg];exact .inl (.inr ⟨m,hm,hl⟩)
theorem count_le:∀{m m':md},m.length=m'.length->(∀p,On m p->On m' p)->m.count true<=m'.count true/\(m.count true=m'.count true->m=m'):=by
 intro m
 induction m with
 |nil=>
  intro m' hl _
  grind
 |cons b m ih=>
  intro m' hl h;cases m' with
  |nil=>cases hl
  |cons b' m'=>
   obtain⟨h1,h2⟩:=ih (m':=m') (by grind) fun p hp=>h (p+1) hp;have h0:b=true->b'=true:=h 0
   grind
theorem XA{n:ak}:∀(k:Nat) (s:S2),(oM n s=s->pG n k s=s)
 |0,s,_=>rfl|k+1,s,h=>by show pG n k (oM n s)=s;rw[h];exact XA k s h
theorem Xq{n:ak}:∀(k:Nat) (s:S2),s.1.length+s.2.length<s.1.count true+s.2.count true+k->oM n (pG n k s)=pG n k s
 |0,s,h=>by grind|k+1,s,h=>by
  show oM n (pG n k (oM n s))=pG n k (oM n s);by_cases q:oM n s=s
  .rw[q,XA k s q,q]
  .have hle:kC s (oM n s):=Eb _ _;have c1:=count_le hle.l1 hle.h1;have c2:=count_le hle.l2 hle.h2;refine Xq k (oM n s) ?_;rw[<-hle.l1,<-hle.l2]
   grind
theorem XP{n:ak}:∀(k:Nat) (s:S2),kC s (pG n k s)
 |0,s=>kC.refl s|k+1,s=>(Eb (mr n) s).trans (XP k (oM n s))
theorem XO{n:ak}(pos:∀x∈dj n,∀v∈x.to,0<=v)(posL:∀l∈n.ag,0<=l.var):∀(k:Nat) (s:S2),pc n s->pc n (pG n k s)
 |0,s,h=>h|k+1,s,h=>XO pos posL k _ (Yp pos posL (mr n) s (fun _ h=>h) h)
structure iZ(n:ak)(V:Nat)(s:S2):Prop where
 l1:s.1.length=V+1
 l2:s.2.length=n.ae.length
 h1:∀p,On s.1 p↔iD n p
 h2:∀(i:Nat) (m:cf),n.ae[i]?=some m->(On s.2 i↔∃p:Nat,iD n p/\(p:Int)∈fv m)
theorem iZ.one(a:iZ n V s)(b:iZ n V t):s=t:=by
 refine Prod.ext (Ek (a.l1.trans b.l1.symm) fun p=>(a.h1 p).trans (b.h1 p).symm) (Ek (a.l2.trans b.l2.symm) fun i=>?_);by_cases q:i<n.ae.length
 .have hm:=ba q;exact(a.h2 i _ hm).trans (b.h2 i _ hm).symm
 .constructor
  .intro h;have:=ZD h;rw[a.l2]at this;omega
  .intro h;have:=ZD h;rw[b.l2]at this;omega
theorem XI(hl:s.1.length=V+1)(hl2:s.2.length=n.ae.length)(a:pc n s)(b:Zl n s):iZ n V s:=⟨hl,hl2,fun p=>⟨a.h1 p,Xz b.c⟩,fun i m hm=>⟨fun h=>a.h2 i m h hm,fun⟨p,h1,h2⟩=>b.h2 i m p (Xz b.c h1) hm h2⟩⟩
def oL(n:ak)(V:Nat):S2:=pG n (V+n.ae.length+2) (jH (jH (List.replicate (V+1) false) n.aN) n.constraints,List.replicate n.ae.length false)
theorem pI{k:Nat}:¬On (List.replicate k false) p:=by
 unfold On
 grind
theorem aia(hs:bR n V):iZ n V (oL n V):=by
 have pos:∀x∈dj n,∀v∈x.to,0<=v:=fun x hx v hv=>by have:=(hs.mf hx hv).1;omega
 have posL:∀l∈n.ag,0<=l.var:=fun l hl=>by have:=(hs.dY l.var (by unfold aX;grind)).1;omega
 have h0:pc n (jH (jH (List.replicate (V+1) false) n.aN) n.constraints,List.replicate n.ae.length false):=by refine⟨?_,fun i m h=>absurd h pI⟩;refine yr (yr (fun p h=>absurd h pI) fun l hl h0=>.base (AC _ hl) h0) fun l hl h0=>.base (EQ _ hl) h0
 have hl:=XP (n:=n) (V+n.ae.length+2) (jH (jH (List.replicate (V+1) false) n.aN) n.constraints,List.replicate n.ae.length false);have e1:(oL n V).1.length=V+1:=by rw[oL,<-hl.l1,vD,vD,gp]
 have e2:(oL n V).2.length=n.ae.length:=by rw[oL,<-hl.l2,gp]
 refine XI e1 e2 (XO pos posL _ _ h0) (ajZ hs e1 e2 (fun l hl0 h0=>hl.h1 _ ?_) (X1 _ _ (Xq _ _ ?_)))
 .rw[<-aiR];refine yu.2 (.inr ⟨l,hl0,h0,rfl,?_⟩);have bz:l∈bJ n:=by
   unfold bJ
   grind
  have:=(hs.lits l bz).2;rw[gp];omega
 .rw[vD,vD,gp,gp];omega
end Go.Proofs.YtmkbdfidnfmgmaaGreat.Pl
end
section
namespace Go.Proofs.YtmkbdfidnfmgmaaGreat.V
open Go Go.RowKit Go.Proofs.YtmkbdfidnfmgmaaGreat.Pl
def rv(ts:jp)(v:Int):Int:=gt .I ts v
def rl(ts:jp)(l:Int):Int:=2*rv ts (l / 2)+l % 2
def jV(ts:jp)(x:dJ):dJ:=⟨rv ts x.var,rl ts x.next,x.init⟩
def jU(ts:jp)(x:dU):dU:=⟨rv ts x.var,rl ts x.a,rl ts x.b⟩
def lO(ts:jp)(x:jz):jz:=⟨rv ts x.var,x.addr.map (rl ts)⟩
def ni(ts:jp)(x:l6):l6:=⟨rl ts x.on,x.addr.map (rl ts),x.data.map (rl ts)⟩
def i9(ts:jp)(m:cf):cf:=⟨m.addr,m.word,m.any,m.reads.map (lO ts),m.writes.map (ni ts)⟩
def iu(ts:jp)(n:ak):ak:=⟨n.vars,n.al.map (rv ts),n.ag.map (jV ts),n.aZ.map (rl ts),n.aN.map (rl ts),n.constraints.map (rl ts),n.ae.map (i9 ts),n.aj.map (jU ts)⟩
def uq(ts:jp)(w:Int)(r:jz):Bool:=(List.range w.toNat).all fun i=>decide (rv ts (r.var+((i:Nat):Int))=rv ts r.var+((i:Nat):Int))
def sb(ts:jp)(m:cf):Bool:=(List.range m.reads.length).all fun k=>uq ts m.word (m.reads.getD k ⟨0,[]⟩)
structure jE(ts:jp)(V:Nat):Prop where
 len:ts.length=V+1
 zero:rv ts 0=0
 dY:∀v:Nat,1<=v->v<=V->1<=rv ts (v:Int)/\rv ts (v:Int)<=(V:Int)
 inj:∀u v:Nat,1<=u->u<v->v<=V->rv ts (u:Int)≠rv ts (v:Int)
variable{v:Int}
theorem jE.le{ts:jp}{V:Nat}(F:jE ts V)(h0:0<=v)(h:v<=(V:Int)):0<=rv ts v/\rv ts v<=(V:Int):=by
 obtain⟨k,rfl⟩:=BY h0;rcases ST k with q|q
 .subst q;have:rv ts (Int.ofNat 0)=0:=F.zero;rw[show((0:Nat):Int)=Int.ofNat 0 from rfl,this];omega
 .have:=F.dY k q atO;omega
def zO(ts:jp)(i:cx):cx:=⟨i.to.map (rv ts),i.bj.map (rl ts)⟩
def sg(ts:jp)(v:Nat):Nat:=(rv ts (v:Int)).toNat
def vi(ts:jp)(x:Nd):Nd:=⟨x.bj.map (sg ts),x.to.map (sg ts)⟩
variable{u:Int}
theorem jE.Hy{ts:jp}{V:Nat}(F:jE ts V)(u0:0<=u)(u1:u<=(V:Int))(v0:0<=v)(v1:v<=(V:Int))(h:rv ts u=rv ts v):u=v:=by
 obtain⟨a,rfl⟩:=BY u0;obtain⟨b,rfl⟩:=BY v0;have z:rv ts ((0:Nat):Int)=0:=F.zero;have pos:∀k:Nat,1<=k->k<=V->rv ts (k:Int)≠0:=fun k a b=>by have:=F.dY k a b;omega
 rcases Nat.lt_trichotomy a b with q|q|q
 .exfalso;rcases ST a with q0|q0
  .subst q0;exact pos b atO atO (h.symm.trans z)
  .exact F.inj a b q0 q atO h
 .rw[q]
 .exfalso;rcases ST b with q0|q0
  .subst q0;exact pos a atO atO (h.trans z)
  .exact F.inj b a q0 q atO h.symm
theorem jE.pos{ts:jp}{V:Nat}(F:jE ts V)(u0:1<=u)(u1:u<=(V:Int)):1<=rv ts u/\rv ts u<=(V:Int):=by obtain⟨a,rfl⟩:=BY (show 0<=u by omega);exact F.dY a atO atO
variable{l:Int}
theorem yD{ts:jp}:rl ts l / 2=rv ts (l / 2)/\rl ts l % 2=l % 2:=by unfold rl;omega
theorem jE.lit{ts:jp}{V:Nat}(F:jE ts V)(h0:0<=l)(h1:l / 2<=(V:Int)):0<=rl ts l/\rl ts l / 2<=(V:Int):=by have:=F.le (v:=l / 2) atO h1;rw[yD.1];unfold rl;omega
variable{β:Type}{α:Type}
theorem tU{α' β':Type}{h:α->α'}{g:α->List β}{g':α'->List β'}{k:β->β'}:∀L:List α,(∀x∈L,g' (h x)=(g x).map k)->(L.map h).flatMap g'=(L.flatMap g).map k:=by
 intro L
 induction L with|nil=>intro _;rfl|cons x L ih=>intro H;rw[arI,AT,AT,d7,H x atQ,ih (fun y hy=>H y (by simp[hy]))]
theorem ajK:∀L:List (α×β),(L.map (fun x=>x.1)).zip (L.map (fun x=>x.2))=L:=by
 intro L
 induction L with|nil=>rfl|cons x L ih=>rw[arI,arI,List.zip_cons_cons,ih]
theorem ajU{ts:jp}{V:Nat}(F:jE ts V):∀(l pre:jp),(∀x∈l,1<=x/\x<=(V:Int))->(∀x∈pre,1<=x/\x<=(V:Int))->dup (V:Int) (pre.map (rv ts)) (l.map (rv ts))=dup (V:Int) pre l:=by
 intro l
 induction l with
 |nil=>intro pre _ _;show dup _ _ []=_;unfold dup;rw[aP]|cons v l ih=>
  intro pre h1 h2;obtain⟨v1,v2⟩:=h1 v atQ;obtain⟨w1,w2⟩:=F.pos v1 v2;show(if rv ts v<1\/(V:Int)<rv ts v then(5:Int)else if(pre.map (rv ts)).contains (rv ts v)then 6 else dup (V:Int) (pre.map (rv ts)++[rv ts v]) (l.map (rv ts)))=(if v<1\/(V:Int)<v then(5:Int)else if pre.contains v then 6 else dup (V:Int) (pre++[v]) l);rw[BT (show ¬(rv ts v<1\/(V:Int)<rv ts v) by omega),BT (show ¬(v<1\/(V:Int)<v) by omega)];have hc:(pre.map (rv ts)).contains (rv ts v)=pre.contains v:=by
   rw[atD,List.contains_iff_mem,List.contains_iff_mem,ro];constructor
   .rintro⟨u,hu,he⟩;have:=h2 u hu;rw[<-F.Hy atO this.2 atO v2 he];exact hu
   .exact fun hu=>⟨v,hu,rfl⟩
  rw[hc];split
  .rfl
  .have:=ih (pre++[v]) (fun x hx=>h1 x (by simp[hx])) (fun x hx=>by
    rw[rc]at hx;rcases hx with hx|hx
    .exact h2 x hx
    .obtain rfl:=NE.1 hx;exact⟨v1,v2⟩)
   rw[d7]at this;exact this
section
variable{n:ak}{V:Nat}(hs:bR n V){ts:jp}(F:jE ts V)(C:∀m∈n.ae,sb ts m=true)
include hs F C
theorem Yn{m:cf}(hm:m∈n.ae){r:jz}(hr:r∈m.reads):bZ (rv ts r.var) m.word.toNat=(bZ r.var m.word.toNat).map (rv ts):=by have h:=C m hm;unfold sb at h;obtain⟨k,hk,rfl⟩:=arO hr;have h:=(In.1 h) k (Id.2 hk);rw[eu,ba hk]at h;have h:uq ts m.word m.reads[k]=true:=h;unfold uq at h;unfold bZ;rw[Fn];refine are fun i hi=>?_;exact(aig ((In.1 h) i hi)).symm
theorem ahS:dj (iu ts n)=(dj n).map (zO ts):=by unfold dj;show(n.aj.map (jU ts)).map jZ++(n.ae.map (i9 ts)).flatMap j4=_;rw[d7,Fn,Fn];congr 1;refine tU n.ae fun m hm=>?_;unfold j4 i9;rw[Fn,Fn];refine are fun r hr=>?_;show kj m.word (lO ts r)=zO ts (kj m.word r);unfold kj lO zO;rw[Yn hs F C (m:=m) hm hr]
theorem Ma:aX (iu ts n)=(aX n).map (rv ts):=by unfold aX;show n.al.map (rv ts)++(n.ag.map (jV ts)).map (·.var)++(n.ae.map (i9 ts)).flatMap fv++(n.aj.map (jU ts)).map (·.var)=_;rw[d7,d7,d7,Fn,Fn,Fn,Fn];congr 2;refine tU n.ae fun m hm=>?_;unfold fv;exact tU (h:=lO ts) m.reads fun r hr=>Yn hs F C (m:=m) hm hr
omit C in
theorem W6:bJ (iu ts n)=(bJ n).map (rl ts):=by
 unfold bJ;show(n.ag.map (jV ts)).map (·.next)++n.aZ.map (rl ts)++n.aN.map (rl ts)++n.constraints.map (rl ts)++(n.ae.map (i9 ts)).flatMap fi++(n.aj.map (jU ts)).flatMap js=_;rw[d7,d7,d7,d7,d7,Fn,Fn];congr 1
 .congr 1;refine tU n.ae fun m hm=>?_;unfold fi;show(m.reads.map (lO ts)).flatMap (·.addr)++(m.writes.map (ni ts)).flatMap iP=_;rw[d7];congr 1
  .exact tU (h:=lO ts) m.reads fun r hr=>rfl
  .refine tU (h:=ni ts) m.writes fun w hw=>?_;unfold iP ni;rw[arI,d7]
 .exact tU (h:=jU ts) n.aj fun a ha=>rfl
theorem XT(h0:cZ n=0):cZ (iu ts n)=0:=by
 have e1:lK (iu ts n)=lK n:=by
  unfold lK;have hp:(iu ts n).ae.any jS=n.ae.any jS:=by show(n.ae.map (i9 ts)).any jS=_;rw[atc];congr 1;funext m;show jS (i9 ts m)=jS m;unfold jS i9;simp only[aP]
  rw[hp];unfold iu;simp only[aP]
 have e2:(iu ts n).ae.any iO=n.ae.any iO:=by
  show(n.ae.map (i9 ts)).any iO=_;rw[atc];congr 1;funext m;show iO (i9 ts m)=iO m;unfold iO;show(_||(m.reads.map (lO ts)).any (mF (i9 ts m))||(m.writes.map (ni ts)).any (nj (i9 ts m)))=_;rw[atc,atc];have a1:mF (i9 ts m)∘lO ts=mF m:=by funext r;show((((r.addr.map (rl ts)).length:Nat):Int) != m.addr)=_;rw[aP];rfl
  have a2:nj (i9 ts m)∘ni ts=nj m:=by funext r;show((((r.addr.map (rl ts)).length:Nat):Int) != m.addr||(((r.data.map (rl ts)).length:Nat):Int) != m.word)=_;rw[aP,aP];rfl
  rw[a1,a2];rfl
 have e3:(iu ts n).ag.any ki=n.ag.any ki:=by show(n.ag.map (jV ts)).any ki=_;rw[atc];rfl
 have e4:dup (iu ts n).vars [] (aX (iu ts n))=dup n.vars [] (aX n):=by rw[Ma hs F C];show dup n.vars [] _=_;rw[hs.vars];exact ajU F (aX n) [] hs.dY (fun x hx=>by cases hx)
 have e5:(bJ (iu ts n)).any (iG (iu ts n).vars)=false:=by rw[W6 hs F,Bool.eq_false_iff];intro h;obtain⟨l,hl,hb⟩:=asC.1 h;obtain⟨x,hx,rfl⟩:=ro.1 hl;obtain⟨x0,x1⟩:=hs.lits x hx;have:=F.lit x0 x1;have hb:=aig hb;have hv:(iu ts n).vars=(V:Int):=hs.vars;rw[hv]at hb;omega
 unfold cZ at h0 |-;rw[e1,e2,e3,e4,e5];by_cases h1:lK n=true
 .rw[IO h1]at h0;exact absurd h0 atS
 rw[BT h1]at h0 |-;by_cases h2:n.ae.any iO=true
 .rw[IO h2]at h0;exact absurd h0 atS
 rw[BT h2]at h0 |-;by_cases h3:n.ag.any ki=true
 .rw[IO h3]at h0;exact absurd h0 atS
 rw[BT h3]at h0 |-;by_cases h4:dup n.vars [] (aX n)≠0
 .rw[IO h4]at h0;exact absurd h0 h4
 rw[BT h4];rfl
theorem MQ(h0:cZ n=0):bR (iu ts n) V:=by
 obtain⟨V',h⟩:=zd (XT hs F C h0);have:=h.vars;have h2:(iu ts n).vars=(V:Int):=hs.vars;obtain rfl:V'=V:=by rw[h2]at this;omega
 exact h
theorem MI:aY (iu ts n)=(aY n).map (vi ts):=by
 unfold aY;rw[ahS hs F C,Fn,Fn];refine are fun i hi=>?_;show cx.nd (zO ts i)=vi ts i.nd;unfold cx.nd zO vi;simp only[Fn];refine Nd.mk.injEq ..▸⟨?_,?_⟩
 .refine are fun l hl=>?_;obtain⟨l0,l1⟩:=hs.zf hi hl;show(rl ts l / 2).toNat=sg ts (l / 2).toNat;unfold sg;rw[yD.1,show(((l / 2).toNat:Nat):Int)=l / 2 by omega]
 .refine are fun v hv=>?_;have:=hs.mf hi hv;show(rv ts v).toNat=sg ts v.toNat;unfold sg;rw[show((v.toNat:Nat):Int)=v by omega]
omit hs C in
theorem Za{u v:Nat}(hu:u<=V)(hv:v<=V)(h:sg ts u=sg ts v):u=v:=by have a:=F.le (v:=(u:Int)) atO atO;have b:=F.le (v:=(v:Int)) atO atO;unfold sg at h;have:=F.Hy (u:=(u:Int)) (v:=(v:Int)) atO atO atO atO atO;omega
theorem aj8{v k:Nat}(h:dB (aY n) v k):v<=V->dB (aY (iu ts n)) (sg ts v) k:=by
 induction h with
 |free v h=>intro hv;refine dB.free _ fun x hx hm=>?_;rw[MI hs F C]at hx;obtain⟨y,hy,rfl⟩:=ro.1 hx;obtain⟨u,hu,he⟩:=ro.1 hm;have:=(hs.ef y hy).2 u hu;obtain rfl:=Za F this hv he;exact h y hy hu
 |node x v f hx hv h ih=>
  intro hvV;have hx':vi ts x∈aY (iu ts n):=by rw[MI hs F C];exact AI hx
  have hv':sg ts v∈(vi ts x).to:=AI hv;have hf:∃f':Nat->Nat,∀u,u<=V->f' (sg ts u)=f u:=by
   classical
   refine⟨fun w=>if q:∃u,u<=V/\sg ts u=w then f q.choose else 0,fun u hu=>?_⟩;have q:∃u',u'<=V/\sg ts u'=sg ts u:=⟨u,hu,rfl⟩;show(if q:∃u',u'<=V/\sg ts u'=sg ts u then f q.choose else 0)=f u;rw[dif_pos q,Za F q.choose_spec.1 hu q.choose_spec.2]
  obtain⟨f',hf'⟩:=hf;have:=dB.node (N:=aY (iu ts n)) (vi ts x) (sg ts v) f' hx' hv' (fun u hu=>by obtain⟨w,hw,rfl⟩:=ro.1 hu;have hwV:=hs.bz x hx w hw;rw[hf' w hwV];exact ih w hw hwV);have hm:(vi ts x).bj.map f'=x.bj.map f:=by show(x.bj.map (sg ts)).map f'=_;rw[Fn];exact are fun u hu=>hf' u (hs.bz x hx u hu)
  rw[hm]at this;exact this
theorem Ym(h0:cZ n=0)(ha:dT (aY n) V=true):dT (aY (iu ts n)) V=true:=by
 have hs':=MQ hs F C h0;rw[jL hs'.apart];intro w hw;by_cases q:∃x∈aY (iu ts n),w∈x.to
 .obtain⟨x,hx,hm⟩:=q;rw[MI hs F C]at hx;obtain⟨y,hy,rfl⟩:=ro.1 hx;obtain⟨u,hu,rfl⟩:=ro.1 hm;have hu':=(hs.ef y hy).2 u hu;obtain⟨k,hk⟩:=(jL hs.apart V).1 ha u hu';exact⟨k,aj8 hs F C hk hu'⟩
 .exact⟨0,dB.free w fun x hx hm=>q ⟨x,hx,hm⟩⟩
end
variable{m:cf}{k:Nat}{r:jz}
set_option maxRecDepth 10000
theorem XZ{V:Int}:∀(l pre:jp),(pre++l).Nodup->(∀x∈l,1<=x/\x<=V)->V<=((pre++l).length:Int)->dup V pre l=0
 |[],pre,_,_,h=>by rw[d6]at h;rw[dup,BT atO]|v::l,pre,hn,hr,h=>by
  obtain⟨r1,r2⟩:=hr v (IN ..);have hc:pre.contains v=false:=by
   cases q:pre.contains v
   .rfl
   .have hv:v∈pre:=by simpa using q
    rw[rx]at hn;exact absurd rfl (hn.2.2 v hv v (IN ..))
  have e:pre++v::l=(pre++[v])++l:=atQ
  rw[dup,BT atO,BT (by rw[hc];simp)];exact XZ l (pre++[v]) (by rw[<-e];exact hn) (fun x hx=>hr x (FS _ hx)) (by rw[<-e];exact h)
theorem Yo{V:Int}:∀(l pre:jp),dup V pre l=0->V<=((pre++l).length:Int)
 |[],pre,h=>by
  rw[dup]at h;rw[d6];by_cases q:(pre.length:Int)<V
  .rw[IO q]at h;omega
  .omega
 |v::l,pre,h=>by
  rw[dup]at h;by_cases q:v<1\/V<v
  .rw[IO q]at h;omega
  rw[BT q]at h;by_cases q2:pre.contains v=true
  .rw[IO q2]at h;omega
  rw[BT q2]at h;have:=Yo l (pre++[v]) h;rw[bB]at this;exact this
theorem aio{n:ak}(h:cZ n=0):dup n.vars [] (aX n)=0:=by
 unfold cZ at h;by_cases h1:lK n=true
 .rw[IO h1]at h;omega
 rw[BT h1]at h;by_cases h2:n.ae.any iO=true
 .rw[IO h2]at h;omega
 rw[BT h2]at h;by_cases h3:n.ag.any ki=true
 .rw[IO h3]at h;omega
 rw[BT h3]at h;by_cases h4:dup n.vars [] (aX n)≠0
 .rw[IO h4]at h;exact absurd h h4
 .omega
theorem yo{n:ak}{V:Nat}(hs:bR n V)(h:cZ n=0):V<=(aX n).length/\∀v:Nat,1<=v->v<=V->(v:Int)∈aX n:=by
 have h1:=Yo (aX n) [] (aio h);rw[hs.vars,UV]at h1;have h1:V<=(aX n).length:=atO
 exact⟨h1,(yj V (aX n) hs.nodup hs.dY).2 h1⟩
theorem vQ{p:α->Bool}{l:List α}(h:∀x∈l,p x=false):l.any p=false:=by rw[Bool.eq_false_iff];intro q;obtain⟨x,hx,hp⟩:=asC.1 q;rw[h x hx]at hp;cases hp
theorem D5{m:ak}{V:Nat}(hs:bR m V)(hl:V<=(aX m).length):cZ m=0:=by
 have e1:lK m=false:=by unfold lK;rw[vQ (p:=jS) (fun x hx=>by unfold jS;obtain⟨_,_,_,_,_,_,h1,h2⟩:=hs.ae x hx;exact eY atO)];obtain⟨l1,l2,l3,l4,l5⟩:=hs.lens;have:=hs.vars;have:=hs.v2;rw[eY atO];rfl
 have e2:m.ae.any iO=false:=vQ (fun x hx=>by obtain⟨a1,a2,w1,w2,hr,hw,_,_⟩:=hs.ae x hx;unfold iO;rw[eY atO,vQ (p:=mF x) (fun r h=>by unfold mF;rw[hr r h];simp),vQ (p:=nj x) (fun w h=>by obtain⟨h1,h2⟩:=hw w h;unfold nj;rw[h1,h2];simp)];rfl);have e3:m.ag.any ki=false:=vQ (fun x hx=>by have:=hs.init x hx;unfold ki;exact eY atO);have e4:dup m.vars [] (aX m)=0:=by rw[hs.vars];exact XZ _ [] (by rw[UV];exact hs.nodup) hs.dY (by rw[UV];omega)
 have e5:(bJ m).any (iG m.vars)=false:=vQ (fun x hx=>by have:=hs.lits x hx;have hv:=hs.vars;unfold iG;exact eY atO);unfold cZ;rw[e1,e2,e3,BT atS,BT atS,BT atS,BT atO,e5];rfl
def Good(N:List Nd)(v:Nat):Prop:=∃k,dB N v k
variable{N:List Nd}
theorem Mm{v:Nat}(h:∀x∈N,v∉x.to):Good N v:=⟨0,.free v h⟩
variable{x:Nd}
theorem XG{v:Nat}(hx:x∈N)(hv:v∈x.to)(h:∀u∈x.bj,Good N u):Good N v:=by
 classical
 exact⟨_,.node x v (fun u=>if q:Good N u then Classical.choose q else 0) hx hv (fun u hu=>by show dB N u (if q:Good N u then Classical.choose q else 0);rw[dif_pos (h u hu)];exact Classical.choose_spec (h u hu))⟩
section
variable{n:ak}{V:Nat}(hs:bR n V)
include hs
theorem rS(h0:cZ n=0)(h:∀v,v<=V->Good (aY n) v):Pl.eZ n=0:=by unfold Pl.eZ;rw[BT atO,hs.vars,Ne,IO ((jL hs.apart V).2 h)]
end
theorem ahG{n:ak}(h:Pl.eZ n=0):∃V,bR n V/\cZ n=0/\dT (aY n) V=true:=by
 unfold Pl.eZ at h;by_cases h0:cZ n≠0
 .rw[IO h0]at h;exact absurd h h0
 rw[BT h0]at h;have h0:cZ n=0:=atO
 obtain⟨V,hs⟩:=zd h0;refine⟨V,hs,h0,?_⟩;rw[hs.vars,Ne]at h;by_cases q:dT (aY n) V=true
 .exact q
 .rw[BT q]at h;omega
theorem vV(ts:jp)(v:Int):rv ts v=ts.getD v.toNat 0:=rfl
def gN(t:jp)(k:Int):jp->jp
 |[]=>t|v::L=>gN (t.set v.toNat k) (k+1) L
theorem tO:∀(L t:jp) (k:Int),(gN t k L).length=t.length
 |[],_,_=>rfl|v::L,t,k=>(tO L _ _).trans (acl ..)
theorem Yf:∀(L M t:jp) (k:Int),gN t k (L++M)=gN (gN t k L) (k+L.length) M
 |[],M,t,k=>by simp[gN]|v::L,M,t,k=>by
  show gN (t.set v.toNat k) (k+1) (L++M)=_;rw[Yf L M];show _=gN (gN (t.set v.toNat k) (k+1) L) _ M
  grind
theorem DJ:∀(L t:jp) (k:Int) (p:Nat),(∀x∈L,x.toNat≠p)->(gN t k L).getD p 0=t.getD p 0
 |[],_,_,_,_=>rfl|v::L,t,k,p,h=>by show(gN (t.set v.toNat k) (k+1) L).getD p 0=_;rw[DJ L _ _ _ fun x hx=>h x (FS _ hx),eu,eu,atu (h v IN)]
theorem MM:∀(L t:jp) (k:Int) (i:Nat) (v:Int),L.Nodup->(∀x∈L,0<=x/\x.toNat<t.length)->L[i]?=some v->(gN t k L).getD v.toNat 0=k+(i:Int)
 |[],_,_,i,_,_,_,h=>by simp at h|u::L,t,k,0,v,hn,hr,h=>by simp only[Fd,cM]at h;subst h;rw[arU]at hn;show(gN (t.set u.toNat k) (k+1) L).getD u.toNat 0=_;rw[DJ L _ _ _ fun x hx e=>by grind,eu,arK (hr u IN).2];simp|u::L,t,k,i+1,v,hn,hr,h=>by
  have h:L[i]?=some v:=by grind
  rw[arU]at hn;show(gN (t.set u.toNat k) (k+1) L).getD v.toNat 0=_;rw[MM L _ _ i v hn.2 (fun x hx=>by grind) h];omega
variable{L:List α}
theorem ajx(f:α->List β){M:List α}(h:L.Sublist M):(L.flatMap f).Sublist (M.flatMap f):=by induction h with|slnil=>exact List.Sublist.refl _|cons a _ ih=>rw[AT];grind|cons_cons a _ ih=>rw[AT,AT];grind
theorem Mk(L:List α)(d:α):(List.range L.length).map (fun i=>L.getD i d)=L:=by
 refine atK atQ fun i h1 h2=>?_
 grind
def qS{α:Type}(L:List α)(p:Nat->Bool):mt:=(List.range L.length).filter p
def pick{α:Type}(L:List α)(d:α)(p:Nat->Bool):List α:=(qS L p).map fun i=>L.getD i d
theorem Mu(L:List α)(d:α)(p:Nat->Bool):(pick L d p).Sublist L:=by have:=(atd (p:=p) (l:=List.range L.length)).map (fun i=>L.getD i d);rw[Mk]at this;exact this
theorem Mt{d:α}{p:Nat->Bool}{x:α}:x∈pick L d p↔∃i,L[i]?=some x/\p i=true:=by
 unfold pick qS;simp only[ro,arg,Id]
 grind
theorem DC(L:List α)(d:α)(q:α->Bool):pick L d (fun i=>q (L.getD i d))=L.filter q:=by
 have h:L.filter q=((List.range L.length).map fun i=>L.getD i d).filter q:=by rw[Mk]
 rw[h,List.filter_map];rfl
def nv:cf:=⟨0,0,false,[],[]⟩
def kv(s:S2)(v:Int):Bool:=s.1.getD v.toNat false
def bV(n:ak)(s:S2):ak:=⟨n.vars,n.al.filter (kv s),n.ag.filter (fun l=>kv s l.var),[],n.aN,n.constraints,pick n.ae nv (fun i=>s.2.getD i false),n.aj.filter (fun a=>kv s a.var)⟩
def dF(n:ak)(s:S2):jp:=aX (bV n s)
theorem vS(n:ak)(s:S2):(dF n s).Sublist (aX n):=by unfold dF aX;exact((atd.append (atd.map _)).append (ajx _ (Mu ..))).append (atd.map _)
section
variable{n:ak}{V:Nat}(hs:bR n V)
include hs
theorem Ye{p:Nat}(h:uC n p l):l∈bJ n:=by
 unfold bJ;simp only[rc,rg,ro];generalize hv:(p:Int)=v at h;cases h with
 |aJ h=>exact .inl (.inl (.inl (.inl (.inl ⟨_,h,rfl⟩))))|@node x _ _ hx _ hl=>
  unfold dj at hx;rcases rc.1 hx with hx|hx
  .obtain⟨a,ha,rfl⟩:=ro.1 hx;exact .inr ⟨a,ha,hl⟩
  .obtain⟨m,hm,hx⟩:=rg.1 hx;obtain⟨r,hr,rfl⟩:=ro.1 hx;exact .inl (.inr ⟨m,hm,AC _ (rg.2 ⟨r,hr,hl⟩)⟩)
 |@mem m _ _ hm _ hl=>exact .inl (.inr ⟨m,hm,hl⟩)
theorem ai9{p:Nat}(h:iD n p):1<=p/\p<=V:=by
 cases h with
 |@base l hl h0=>
  have:l∈bJ n:=by
   unfold bJ
   grind
  have:=(hs.lits l this).2;omega
 |@step p l _ hp h0=>have:=(hs.lits l (Ye hs hp)).2;omega
variable{s:S2}(M:iZ n V s)
include M
theorem yB:kv s v=true↔iD n v.toNat:=M.h1 v.toNat
theorem stays(h0:cZ n=0){p:Nat}(h:iD n p):(p:Int)∈dF n s:=by
 obtain⟨h1,h2⟩:=ai9 hs h;have hd:=(yo hs h0).2 p h1 h2;unfold dF aX bV;unfold aX at hd;simp only[rc,ro,rg,arg]at hd |-;rcases hd with((hd|⟨l,hl,e⟩)|⟨m,hm,hv⟩)|⟨a,hl,e⟩
 .exact .inl (.inl (.inl ⟨hd,(yB hs M).2 h⟩))
 .exact .inl (.inl (.inr ⟨l,⟨hl,(yB hs M).2 (by grind)⟩,e⟩))
 .obtain⟨i,hi⟩:=Fr hm;exact .inl (.inr ⟨m,Mt.2 ⟨i,hi,(M.h2 i m hi).2 ⟨p,h,hv⟩⟩,hv⟩)
 .exact .inr ⟨a,⟨hl,(yB hs M).2 (by grind)⟩,e⟩
theorem DQ(h:l∈bJ (bV n s)):l∈bJ n/\(0<l / 2->iD n (l / 2).toNat):=by
 unfold bJ bV at h;simp only[rc,ro,rg,arg,atL,or_false]at h;have pos:∀x∈aX n,((x.toNat:Nat):Int)=x:=fun x hx=>arS (by have:=(hs.dY x hx).1;omega);have key:∀{v:Int},v∈aX n->iD n v.toNat->uC n v l->l∈bJ n/\(0<l / 2->iD n (l / 2).toNat):=fun{v} hv hp hq=>by have e:=pos v hv;rw[<-e]at hq;exact⟨Ye hs hq,fun h0=>.step hp hq h0⟩
 rcases h with(((⟨x,⟨hx,hk⟩,rfl⟩|hb)|hc)|⟨m,hm,hl⟩)|⟨a,⟨hx,hk⟩,hl⟩
 .exact key (by unfold aX;grind) ((yB hs M).1 hk) (.aJ hx)
 .refine⟨?_,fun h0=>.base (AC _ hb) h0⟩;unfold bJ
  grind
 .refine⟨?_,fun h0=>.base (EQ _ hc) h0⟩;unfold bJ
  grind
 .obtain⟨i,hi,ho⟩:=Mt.1 hm;have hm:=dy hi;obtain⟨p,h1,h2⟩:=(M.h2 i m hi).1 ho;exact key (v:=(p:Int)) (by unfold aX;grind) h1 (.mem hm h2 hl)
 .refine key (by unfold aX;grind) ((yB hs M).1 hk) (.node (x:=jZ a) ?_ (by simp[jZ]) hl);unfold dj
  grind
def pR(n:ak)(s:S2)(V:Nat):jp:=((List.range (V+1)).filter fun v:Nat=>decide (1<=v)&&!(dF n s).contains (v:Int)).map fun v:Nat=>(v:Int)
omit hs M in
theorem DX:v∈pR n s V↔1<=v/\v<=(V:Int)/\v∉dF n s:=by
 unfold pR;simp only[ro,arg,Id,act,IR,atH,List.contains_eq_mem,ate];constructor
 .rintro⟨a,⟨h1,h2,h3⟩,rfl⟩;exact⟨atO,atO,h3⟩
 .rintro⟨h1,h2,h3⟩;exact⟨v.toNat,⟨atO,atO,by rw[arS atO];exact h3⟩,arS atO⟩
def jr(n:ak)(s:S2)(V:Nat):jp:=dF n s++pR n s V
omit M in
theorem tY:(jr n s V).Nodup/\(∀x∈jr n s V,1<=x/\x<=(V:Int))/\(jr n s V).length=V/\∀v:Nat,1<=v->v<=V->(v:Int)∈jr n s V:=by
 have h1:(jr n s V).Nodup:=by unfold jr;rw[rx];refine⟨hs.nodup.sublist (vS n s),?_,fun a ha b hb e=>(DX.1 hb).2.2 (e▸ha)⟩;unfold pR;rw[arN,asu];exact(List.nodup_range.filter _).imp fun{a b} h e=>h atO
 have h2:∀x∈jr n s V,1<=x/\x<=(V:Int):=fun x hx=>by
  rcases rc.1 hx with h|h
  .exact hs.dY x ((vS n s).subset h)
  .exact⟨(DX.1 h).1,(DX.1 h).2.1⟩
 have h3:∀v:Nat,1<=v->v<=V->(v:Int)∈jr n s V:=fun v a b=>by
  by_cases q:(v:Int)∈dF n s
  .exact AC _ q
  .exact EQ _ (DX.2 ⟨atO,atO,q⟩)
 refine⟨h1,h2,Nat.le_antisymm (yj V _ h1 h2).1 ?_,h3⟩;have:=Ztp V ((jr n s V).map Int.toNat) fun j a b=>ro.2 ⟨(j:Int),h3 j a b,atO⟩;rw[aP]at this;exact this
def mA(n:ak)(s:S2)(V:Nat):ak:={ bV n s with al:=(bV n s).al++pR n s V }
omit hs M in
theorem X6:aX (mA n s V)=(bV n s).al++pR n s V++((bV n s).ag.map (·.var)++(bV n s).ae.flatMap fv++(bV n s).aj.map (·.var)):=by unfold aX mA;simp only[bB]
omit hs M in
theorem DO:(aX (mA n s V)).Perm (jr n s V):=by
 rw[X6];unfold jr dF;have e:aX (bV n s)=(bV n s).al++((bV n s).ag.map (·.var)++(bV n s).ae.flatMap fv++(bV n s).aj.map (·.var)):=by unfold aX;simp only[bB]
 rw[e];generalize (bV n s).ag.map (·.var)++(bV n s).ae.flatMap fv++(bV n s).aj.map (·.var)=R;rw[bB,bB];exact asv _ List.perm_append_comm
omit M in
theorem Yx(h:m∈(bV n s).ae):m∈n.ae:=(Mu ..).subset h
theorem DY:bR (bV n s) V:=by
 have hl:∀l∈(bV n s).ag,l∈n.ag:=fun l h=>(arg.1 h).1;obtain⟨a1,a2,a3,a4,a5⟩:=hs.lens;refine⟨hs.vars,hs.v2,hs.nodup.sublist (vS n s),fun x hx=>hs.dY x ((vS n s).subset hx),fun l h=>hs.lits l (DQ hs M h).1,fun m hm=>hs.ae m (Yx hs hm),fun l h=>hs.init l (hl l h),?_,?_,?_,?_,?_⟩
 .have:(bV n s).al.length<=n.al.length:=List.filter_sublist.length_le;omega
 .have:(bV n s).ag.length<=n.ag.length:=List.filter_sublist.length_le;omega
 .have:(bV n s).aj.length<=n.aj.length:=List.filter_sublist.length_le;omega
 .show 0+n.aN.length+n.constraints.length<=1000;omega
 .have:(bV n s).ae.length<=n.ae.length:=(Mu ..).length_le;omega
theorem vL:bR (mA n s V) V:=by
 have P:=DY hs M;have E:=tY hs (s:=s);obtain⟨a1,a2,a3,a4,a5⟩:=P.lens;refine⟨hs.vars,hs.v2,DO.symm.nodup E.1,fun x hx=>E.2.1 x (DO.subset hx),fun l h=>P.lits l h,P.ae,P.init,?_,a2,a3,a4,a5⟩;have h1:(mA n s V).al.length<=(aX (mA n s V)).length:=by
  rw[X6];show((bV n s).al++pR n s V).length<=_
  grind
 rw[DO.length_eq,E.2.2.1]at h1;have:=hs.v2;omega
theorem Mh:cZ (mA n s V)=0:=D5 (vL hs M) (by rw[DO.length_eq,(tY hs).2.2.1];exact rt _)
omit M in
theorem Xv(h:x∈aY (mA n s V)):x∈aY n:=by
 obtain⟨y,hy,rfl⟩:=ze h;refine AI ?_;unfold dj at hy |-;rcases rc.1 hy with hy|hy
 .obtain⟨a,ha,rfl⟩:=ro.1 hy;exact AC _ (AI (arg.1 ha).1)
 .obtain⟨m,hm,hx⟩:=rg.1 hy;exact EQ _ (rg.2 ⟨m,Yx hs hm,hx⟩)
omit M in
theorem ah5{v:Nat}(h:dB (aY n) v k):Good (aY (mA n s V)) v:=by
 induction h with
 |free v h=>exact Mm fun x hx=>h x (Xv hs hx)|node x v f hx hv _ ih=>
  by_cases q:∃y∈aY (mA n s V),v∈y.to
  .obtain⟨y,hy,hv2⟩:=q;obtain rfl:=hs.apart.same (Xv hs hy) hx hv2 hv;exact XG hy hv ih
  .exact Mm fun y hy hv2=>q ⟨y,hy,hv2⟩
theorem X3(ha:dT (aY n) V=true):dT (aY (mA n s V)) V=true:=by rw[jL (vL hs M).apart];intro v hv;obtain⟨k,hk⟩:=(jL hs.apart V).1 ha v hv;exact ah5 hs hk
theorem ahK(ha:dT (aY n) V=true):Pl.eZ (mA n s V)=0:=by refine rS (vL hs M) (Mh hs M) fun v hv=>?_;exact(jL (vL hs M).apart V).1 (X3 hs M ha) v hv
def eW(n:ak)(s:S2)(V:Nat):jp:=gN (List.replicate (V+1) 0) 1 (jr n s V)
omit M in
theorem rV{i:Nat}(h:(jr n s V)[i]?=some v):rv (eW n s V) v=1+(i:Int):=by have E:=tY hs (s:=s);rw[vV];exact MM _ _ _ i v E.1 (fun x hx=>by have:=E.2.1 x hx;rw[gp];omega) h
omit M in
theorem MC:rv (eW n s V) 0=0:=by have E:=tY hs (s:=s);rw[vV];unfold eW;rw[DJ _ _ _ _ fun x hx=>by have:=E.2.1 x hx;omega];rfl
omit M in
theorem tX:jE (eW n s V) V:=by
 have E:=tY hs (s:=s);have at_:∀v:Nat,1<=v->v<=V->∃i,(jr n s V)[i]?=some (v:Int)/\i<V:=fun v a b=>by obtain⟨i,hi⟩:=Fr (E.2.2.2 v a b);have:=(ut.1 hi).1;rw[E.2.2.1]at this;exact⟨i,hi,this⟩
 refine⟨?_,MC hs,fun v a b=>?_,fun u v a b c e=>?_⟩
 .unfold eW;rw[tO,gp]
 .obtain⟨i,hi,h⟩:=at_ v a b;rw[rV hs hi];omega
 .obtain⟨i,hi,h⟩:=at_ u a atO;obtain⟨j,hj,k⟩:=at_ v atO c;rw[rV hs hi,rV hs hj]at e;have:i=j:=atO
  subst this;rw[hi]at hj;have:=Do hj;omega
omit hs M in
theorem infix_cons{ts L A B:jp}(E:∀(i:Nat) (v:Int),L[i]?=some v->rv ts v=1+(i:Int)){w:Nat}(h:L=A++(bZ v w++B)){i:Nat}(hi:i<w):rv ts (v+(i:Int))=rv ts v+(i:Int):=by have key:∀j,j<w->rv ts (v+(j:Int))=1+((A.length+j:Nat):Int):=fun j hj=>E _ _ (by rw[h,WF atO,atC,Pi (by simp[bZ];exact hj)];unfold bZ;rw[ct,arT hj];rfl);have h1:=key i hi;have h2:=key 0 atO;rw[show v+((0:Nat):Int)=v by omega]at h2;rw[h1,h2];omega
omit hs M in
theorem DH{m:ak}{M:cf}(hM:M∈m.ae)(hr:r∈M.reads):∃A B,aX m=A++(bZ r.var M.word.toNat++B):=by
 obtain⟨a,b,e⟩:=asI hM;obtain⟨c,d,f⟩:=asI hr;refine⟨m.al++m.ag.map (·.var)++(a.flatMap fv++c.flatMap fun r=>bZ r.var M.word.toNat),(d.flatMap fun r=>bZ r.var M.word.toNat)++(b.flatMap fv++m.aj.map (·.var)),?_⟩;unfold aX;rw[e,OF,AT];have:fv M=c.flatMap (fun r=>bZ r.var M.word.toNat)++(bZ r.var M.word.toNat++d.flatMap fun r=>bZ r.var M.word.toNat):=by unfold fv;rw[f,OF,AT]
 rw[this];simp only[bB]
omit M in
theorem D6:∀m∈(bV n s).ae,sb (eW n s V) m=true:=by intro m hm;unfold sb;rw[In];intro k hk;rw[Id]at hk;unfold uq;rw[In];intro i hi;rw[Id]at hi;rw[eu,ba hk,Option.getD_some];obtain⟨A,B,e⟩:=DH (m:=bV n s) hm (By hk);exact dt (infix_cons (L:=jr n s V) (A:=A) (B:=B++pR n s V) (fun i v h=>rV hs h) (by unfold jr dF;rw[e];simp only[bB]) hi)
def ij(n:ak)(s:S2)(V:Nat):ak:={ iu (eW n s V) (bV n s)with vars:=((dF n s).length:Int) }
theorem XS:aX (ij n s V)=(List.range (dF n s).length).map fun i:Nat=>((i:Int)+1):=by
 have h:=Ma (DY hs M) (tX hs) (D6 hs);have h2:aX (ij n s V)=(dF n s).map (rv (eW n s V)):=h;rw[h2];refine atK atQ fun i h1 h3=>?_;rw[aP]at h1;rw[ath,ath,List.getElem_range,rV hs (i:=i)]
 .omega
 .unfold jr
  grind
theorem MT:(dF n s).length<=V:=by
 have:=(tY hs (s:=s)).2.2.1;unfold jr at this
 grind
theorem ain(h0:cZ n=0)(h:l∈bJ (bV n s)):0<=rl (eW n s V) l/\rl (eW n s V) l / 2<=((dF n s).length:Int):=by
 obtain⟨h1,h2⟩:=DQ hs M h;have hr:=hs.lits l h1;refine⟨((tX hs).lit hr.1 hr.2).1,?_⟩;rw[yD.1];by_cases q:0<l / 2
 .have:=stays hs M h0 (h2 q);rw[arS atO]at this;obtain⟨i,hi⟩:=Fr this;have hl:=(ut.1 hi).1;rw[rV hs (i:=i) (by unfold jr;grind)];omega
 .rw[show l / 2=0 by omega,MC hs];omega
theorem tS(h0:cZ n=0):bR (ij n s V) (dF n s).length:=by
 have P:=DY hs M;obtain⟨a1,a2,a3,a4,a5⟩:=P.lens;have hd:=XS hs M;refine⟨rfl,IS (MT hs M) hs.v2,?_,?_,?_,?_,?_,?_⟩
 .rw[hd,arN,asu];exact List.nodup_range.imp fun{a b} h e=>h atO
 .intro x hx
  grind
 .intro l hl;have e:bJ (ij n s V)=(bJ (bV n s)).map (rl (eW n s V)):=W6 P (tX hs);rw[e]at hl;obtain⟨x,hx,rfl⟩:=ro.1 hl;exact ain hs M h0 hx
 .intro m hm;obtain⟨x,hx,rfl⟩:=ro.1 (show m∈(bV n s).ae.map (i9 (eW n s V))from hm);obtain⟨b1,b2,b3,b4,b5,b6,b7,b8⟩:=P.ae x hx;refine⟨b1,b2,b3,b4,fun r hr=>?_,fun w hw=>?_,?_,?_⟩
  .obtain⟨y,hy,rfl⟩:=ro.1 (show r∈x.reads.map (lO (eW n s V))from hr);show((y.addr.map _).length:Int)=_;rw[aP];exact b5 y hy
  .obtain⟨y,hy,rfl⟩:=ro.1 (show w∈x.writes.map (ni (eW n s V))from hw);show((y.addr.map _).length:Int)=_/\((y.data.map _).length:Int)=_;rw[aP,aP];exact b6 y hy
  .show(x.reads.map (lO (eW n s V))).length<=_
   grind
  .show(x.writes.map (ni (eW n s V))).length<=_;rw[aP];exact b8
 .intro l hl;obtain⟨x,hx,rfl⟩:=ro.1 (show l∈(bV n s).ag.map (jV (eW n s V))from hl);exact P.init x hx
 .refine⟨?_,?_,?_,?_,?_⟩
  .show((bV n s).al.map (rv (eW n s V))).length<=_;rw[aP];exact a1
  .show((bV n s).ag.map (jV (eW n s V))).length<=_;rw[aP];exact a2
  .show((bV n s).aj.map (jU (eW n s V))).length<=_;rw[aP];exact a3
  .show(([]:jp).map (rl (eW n s V))).length+((bV n s).aN.map (rl (eW n s V))).length+((bV n s).constraints.map (rl (eW n s V))).length<=1000
   grind
  .show((bV n s).ae.map (i9 (eW n s V))).length<=_;rw[aP];exact a5
theorem vF(h0:cZ n=0):cZ (ij n s V)=0:=D5 (tS hs M h0) (by rw[XS hs M];simp)
theorem ahB(h0:cZ n=0)(ha:dT (aY n) V=true):Pl.eZ (ij n s V)=0:=by refine rS (tS hs M h0) (vF hs M h0) fun v hv=>?_;have hf:=vL hs M;have h1:=Ym hf (tX hs) (D6 hs) (Mh hs M) (X3 hs M ha);have h2:=MQ hf (tX hs) (D6 hs) (Mh hs M);exact(jL h2.apart V).1 h1 v (IS hv (MT hs M))
end
theorem Xc{α:Type}(f:α->Int)(L:List α):∀K:Nat,((List.range K).flatMap fun i:Nat=>L.filter fun x=>decide (f x=(i:Int)+1)).Perm (L.filter fun x=>decide (1<=f x/\f x<=(K:Int)))
 |0=>by
  have:(L.filter fun x=>decide (1<=f x/\f x<=((0:Nat):Int)))=[]:=atj.2 fun x _=>by simp;omega
  rw[this];exact List.Perm.refl _
 |K+1=>by
  rw[asg,OF,AT,arZ,d6];refine((Xc f L K).append_right _).trans ?_;have h:=List.filter_append_perm (fun x=>decide (f x<=(K:Int))) (L.filter fun x=>decide (1<=f x/\f x<=((K+1:Nat):Int)));rw[List.filter_filter,List.filter_filter]at h;have e1:(fun x=>decide (f x<=(K:Int))&&decide (1<=f x/\f x<=((K+1:Nat):Int)))=fun x=>decide (1<=f x/\f x<=(K:Int)):=by funext x;rw[<-Bool.decide_and];exact decide_eq_decide.2 atO
  have e2:(fun x=>(!decide (f x<=(K:Int)))&&decide (1<=f x/\f x<=((K+1:Nat):Int)))=fun x=>decide (f x=(K:Int)+1):=by
   funext x
   grind
  rw[e1,e2]at h;exact h
def uJ:dU:=⟨0,0,0⟩
def jo(n:ak)(V:Nat):List dU:=((cG n V).filter fun x=>!x.1.rd).map fun x=>n.aj.getD x.1.pos uJ
def jb(n:ak)(V:Nat):ak:={ n with aj:=jo n V }
theorem X9:∀(l:List cf) (k:Nat) (x:cV),x∈iN k l->x.rd=true
 |[],_,_,h=>by simp[iN]at h|m::l,k,x,h=>by
  rw[iN]at h;rcases rc.1 h with h|h
  .unfold Pl.ja at h
   grind
  .exact X9 l _ x h
theorem ahC(n:ak):((n6 n).filter fun x=>!x.1.rd).map (fun x=>n.aj.getD x.1.pos uJ)=n.aj:=by
 have e:((n6 n).filter fun x=>!x.1.rd).map (fun x=>n.aj.getD x.1.pos uJ)=(((n6 n).map fun x=>x.1).filter fun x=>!x.rd).map fun x=>n.aj.getD x.pos uJ:=by rw[List.filter_map,Fn];rfl
 rw[e,Ei];unfold eH;rw[asa];have e2:(iN 0 n.ae).filter (fun x=>!x.rd)=[]:=atj.2 fun x hx=>by rw[X9 _ _ x hx];simp
 have e3:((List.range n.aj.length).map fun i=>(⟨false,0,i⟩:cV)).filter (fun x=>!x.rd)=(List.range n.aj.length).map fun i=>⟨false,0,i⟩:=List.filter_eq_self.2 fun x hx=>by grind
 rw[e2,e3,d6,Fn];exact Mk n.aj uJ
theorem aib{V:Nat}{L:jp}(h1:L.Nodup)(h2:∀x∈L,1<=x/\x<=(V:Int))(h3:V<=L.length):jE (gN (List.replicate (V+1) 0) 1 L) V/\∀(i:Nat) (v:Int),L[i]?=some v->rv (gN (List.replicate (V+1) 0) 1 L) v=1+(i:Int):=by
 have hc:=yj V L h1 h2;have hL:L.length=V:=Nat.le_antisymm hc.1 h3;have hat:∀(i:Nat) (v:Int),L[i]?=some v->rv (gN (List.replicate (V+1) 0) 1 L) v=1+(i:Int):=fun i v h=>by rw[vV];exact MM _ _ _ i v h1 (fun x hx=>by have:=h2 x hx;rw[gp];omega) h
 have at_:∀v:Nat,1<=v->v<=V->∃i,L[i]?=some (v:Int)/\i<V:=fun v a b=>by
  obtain⟨i,hi⟩:=Fr (hc.2 h3 v a b)
  grind
 refine⟨⟨?_,?_,fun v a b=>?_,fun u v a b c e=>?_⟩,hat⟩
 .rw[tO,gp]
 .rw[vV,DJ _ _ _ _ fun x hx=>by have:=h2 x hx;omega];rfl
 .obtain⟨i,hi,h⟩:=at_ v a b;rw[hat _ _ hi];omega
 grind
theorem aj7{N':List Nd}(h:∀x,x∈N↔x∈N'){v:Nat}(l:dB N v k):dB N' v k:=by induction l with|free v hf=>exact .free v fun x hx=>hf x ((h x).2 hx)|node x v f hx hv _ ih=>exact .node x v f ((h x).1 hx) hv ih
section
variable{n:ak}{V:Nat}(hs:bR n V)(ha:dT (aY n) V=true)
include hs ha
theorem ai7:(cG n V).Perm (n6 n):=by have h:=Xc (fun x:cV×cx=>lk (lvl n V) x.2) (n6 n) (n6 n).length;have e:((n6 n).filter fun x=>decide (1<=lk (lvl n V) x.2/\lk (lvl n V) x.2<=((n6 n).length:Int)))=n6 n:=List.filter_eq_self.2 fun x hx=>dt (MY hs ha hx);rw[e]at h;exact h
theorem DT:(jo n V).Perm n.aj:=by have h:=((ai7 hs ha).filter fun x=>!x.1.rd).map fun x=>n.aj.getD x.1.pos uJ;rw[ahC]at h;exact h
theorem Mz:(aX (jb n V)).Perm (aX n):=by unfold aX jb;exact asv _ ((DT hs ha).map _)
theorem rT:bR (jb n V) V:=by
 have hp:=DT hs ha;refine⟨hs.vars,hs.v2,(Mz hs ha).symm.nodup hs.nodup,fun x hx=>hs.dY x ((Mz hs ha).subset hx),fun l hl=>hs.lits l ?_,hs.ae,hs.init,?_⟩
 .unfold bJ jb at hl;unfold bJ;simp only[rc,rg]at hl |-
  grind
 .obtain⟨a1,a2,a3,a4,a5⟩:=hs.lens;exact⟨a1,a2,by show(jo n V).length<=2000;rw[hp.length_eq];exact a3,a4,a5⟩
theorem DK(h0:cZ n=0):cZ (jb n V)=0:=D5 (rT hs ha) (by rw[(Mz hs ha).length_eq];exact(yo hs h0).1)
theorem ahX(x:Nd):x∈aY n↔x∈aY (jb n V):=by
 have hp:=DT hs ha;have e:(dj (jb n V)).Perm (dj n):=by unfold dj jb;exact(hp.map _).append_right _
 exact((e.map cx.nd).mem_iff).symm
theorem Yk:dT (aY (jb n V)) V=true:=by rw[jL (rT hs ha).apart];intro v hv;obtain⟨k,hk⟩:=(jL hs.apart V).1 ha v hv;exact⟨k,aj7 (ahX hs ha) hk⟩
theorem ahW(h0:cZ n=0):Pl.eZ (jb n V)=0:=by refine rS (rT hs ha) (DK hs ha h0) fun v hv=>?_;exact(jL (rT hs ha).apart V).1 (Yk hs ha) v hv
def j6(n:ak)(V:Nat):jp:=gN (List.replicate (V+1) 0) 1 (aX (jb n V))
theorem yl(h0:cZ n=0):jE (j6 n V) V/\∀(i:Nat) (v:Int),(aX (jb n V))[i]?=some v->rv (j6 n V) v=1+(i:Int):=by have S:=rT hs ha;exact aib S.nodup S.dY (yo S (DK hs ha h0)).1
theorem Mr(h0:cZ n=0):∀m∈(jb n V).ae,sb (j6 n V) m=true:=by intro m hm;unfold sb;rw[In];intro k hk;rw[Id]at hk;unfold uq;rw[In];intro i hi;rw[Id]at hi;rw[eu,ba hk,Option.getD_some];obtain⟨A,B,e⟩:=DH (m:=jb n V) hm (By hk);exact dt (infix_cons (yl hs ha h0).2 e hi)
def jc(a:dU):dU:=⟨a.var,max a.a a.b,min a.a a.b⟩
def mq(n:ak)(V:Nat):ak:=iu (j6 n V) (jb n V)
def sU(n:ak)(V:Nat):ak:={ mq n V with aj:=(mq n V).aj.map jc }
theorem ako(h0:cZ n=0):aX (sU n V)=(List.range V).map fun i:Nat=>(i:Int)+1:=by
 have S:=rT hs ha;have F:=yl hs ha h0;have h:=Ma S F.1 (Mr hs ha h0);have h2:aX (sU n V)=(aX (jb n V)).map (rv (j6 n V)):=by rw[<-h];unfold aX sU mq;simp only[Fn];rfl
 have hl:(aX (jb n V)).length=V:=Nat.le_antisymm (yj V _ S.nodup S.dY).1 (yo S (DK hs ha h0)).1;rw[h2];refine atK (by simp[hl]) fun i h1 h3=>?_
 grind
end
end Go.Proofs.YtmkbdfidnfmgmaaGreat.V
end
section
namespace Go.Proofs.YtmkbdfidnfmgmaaGreat.Pl
inductive kU(n:ak)(ls:jp):Nat->Prop
 |base {l:Int}:l∈ls->0<l / 2->kU n ls (l / 2).toNat
 |step {p:Nat}{x:cx}{l:Int}:kU n ls p->x∈dj n->(p:Int)∈x.to->l∈x.bj->0<l / 2->kU n ls (l / 2).toNat
def qU(n:ak)(S:Nat->Prop):Prop:=∀(p:Nat) (x:cx) (l:Int),S p->x∈dj n->(p:Int)∈x.to->l∈x.bj->0<l / 2->S (l / 2).toNat
theorem akM(n:ak)(ls:jp):qU n (kU n ls):=fun _ _ _ h a b c d=>.step h a b c d
variable{n:ak}{p:Nat}{ls:jp}
theorem tT{S:Nat->Prop}(h:qU n S)(hb:∀l∈ls,0<l / 2->S (l / 2).toNat)(k:kU n ls p):S p:=by induction k with|base a b=>exact hb _ a b|step _ a b c d ih=>exact h _ _ _ ih a b c d
theorem YE{ls':jp}(h:∀l∈ls,l∈ls')(k:kU n ls p):kU n ls' p:=tT (akM n ls') (fun l a b=>.base (h l a) b) k
open Classical in
noncomputable def nB(n:ak)(V:Nat)(ls:jp):jp:=((List.range (V+1)).filter fun v:Nat=>decide (kU n ls v)).map fun v:Nat=>(v:Int)
def cS(m:md)(L:jp):md:=L.foldl (fun m v=>m.set v.toNat true) m
theorem yd:∀(L:jp) (m:md),(cS m L).length=m.length
 |[],_=>rfl|v::L,m=>(yd L _).trans (acl ..)
theorem yx:∀{L:jp}{m:md}{p:Nat},On (cS m L) p↔On m p\/∃v∈L,v.toNat=p/\p<m.length
 |[],m,p=>by show On m p↔_;simp|v::L,m,p=>by show On (cS (m.set v.toNat true) L) p↔_;rw[yx,kL,acl];simp[or_assoc]
variable{m:md}
theorem DS{i:Nat}(h:i<m.length)(ho:¬On m i):(m.set i true).count false+1=m.count false:=by
 unfold On at ho
 grind
structure qK(n:ak)(V:Nat)(ls:jp)(m:md)(left:jp)(m':md)(left':jp):Prop where
 len:m'.length=m.length
 on:∀p,On m' p↔On m p\/kU n ls p
 new:∃N,left'=left++N/\(∀v∈N,1<=v/\v<=(V:Int)/\On m' v.toNat)/\(∀p,On m' p->On m p\/(p:Int)∈N)/\m'.count false+N.length=m.count false
def jn(m:md)(ls:jp):jp:=ls.filter fun x=>decide (0<x / 2)&&!m.getD (x / 2).toNat false
noncomputable def o8(n:ak)(V:Nat)(m:md)(ls:jp):jp:=(nB n V (jn m ls)).filter fun v=>!m.getD v.toNat false
theorem XB:∀{L:jp}{m:md},(L.map Int.toNat).Nodup->(∀v∈L,v.toNat<m.length/\¬On m v.toNat)->(cS m L).count false+L.length=m.count false
 |[],_,_,_=>by simp[cS]|v::L,m,hn,h=>by
  rw[arI,arU]at hn;obtain⟨h1,h2⟩:=h v IN;have ih:=XB (L:=L) (m:=m.set v.toNat true) hn.2 fun u hu=>by
   obtain⟨h3,h4⟩:=h u (FS _ hu);refine⟨by grind,fun q=>?_⟩;rcases kL.1 q with q|⟨q,_⟩
   .exact h4 q
   grind
  have:=DS h1 h2;show(cS (m.set v.toNat true) L).count false+(L.length+1)=_;omega
variable{V:Nat}
theorem MA{v:Int}:v∈nB n V ls↔0<=v/\v<=(V:Int)/\kU n ls v.toNat:=by
 unfold nB
 grind
theorem XD(n:ak)(V:Nat)(ls:jp):((nB n V ls).map Int.toNat).Nodup:=by
 unfold nB;rw[Fn];have:(Int.toNat∘fun v:Nat=>(v:Int))=id:=by grind
 rw[this,List.map_id];exact List.nodup_range.filter _
theorem YD(hs:bR n V)(hl:∀l∈ls,l / 2<=(V:Int))(h:kU n ls p):1<=p/\p<=V:=by cases h with|@base l a b=>have:=hl l a;omega|@step q x l _ a b c d=>have:=(hs.zf a c).2;omega
theorem alm(hs:bR n V)(hl:∀l∈ls,l / 2<=(V:Int))(hm:m.length=V+1)(hc:qU n (On m))(left:jp):qK n V ls m left (cS m (o8 n V m ls)) (left++o8 n V m ls):=by
 have hsm:∀l∈jn m ls,l∈ls:=fun l h=>(arg.1 h).1;have hl2:∀l∈jn m ls,l / 2<=(V:Int):=fun l h=>hl l (hsm l h);have nl:∀{v:Int},v∈o8 n V m ls↔(0<=v/\v<=(V:Int)/\kU n (jn m ls) v.toNat)/\¬On m v.toNat:=fun{v}=>by unfold o8;rw[arg,MA];unfold On;simp
 have key:∀p,kU n ls p->On m p\/kU n (jn m ls) p:=fun p h=>by
  refine tT (S:=fun p=>On m p\/kU n (jn m ls) p) ?_ ?_ h
  .intro p x l hp a b c d;rcases hp with hp|hp
   .exact .inl (hc p x l hp a b c d)
   .exact .inr (.step hp a b c d)
  .intro l a b;by_cases q:On m (l / 2).toNat
   .exact .inl q
   .refine .inr (.base (arg.2 ⟨a,?_⟩) b);unfold On at q
    grind
 have on_:∀p,On (cS m (o8 n V m ls)) p↔On m p\/kU n ls p:=fun p=>by
  rw[yx];constructor
  .rintro(h|⟨v,h1,rfl,h2⟩)
   .exact .inl h
   .exact .inr (YE hsm (nl.1 h1).1.2.2)
  .rintro(h|h)
   .exact .inl h
   .by_cases q:On m p
    .exact .inl q
    .rcases key p h with h2|h2
     .exact .inl h2
     .have:=YD hs hl2 h2;exact .inr ⟨(p:Int),nl.2 ⟨⟨atO,atO,by rw[Ne];exact h2⟩,by rw[Ne];exact q⟩,atQ,atO⟩
 refine⟨yd _ _,on_,o8 n V m ls,rfl,fun v hv=>?_,fun p hp=>?_,?_⟩
 .obtain⟨⟨h1,h2,h3⟩,h4⟩:=nl.1 hv;have:=YD hs hl2 h3;exact⟨atO,h2,(on_ _).2 (.inr (YE hsm h3))⟩
 .by_cases q:On m p
  .exact .inl q
  .rcases yx.1 hp with h|⟨v,h1,rfl,_⟩
   .exact absurd h q
   .refine .inr ?_;rw[arS (nl.1 h1).1.1];exact h1
 .refine XB ?_ fun v hv=>?_
  .exact(List.Sublist.map Int.toNat atd).nodup (XD n V _)
  grind
def ug(n:ak)(m ms:md)(p:Nat):Prop:=(∀l∈n.ag,l.var=(p:Int)->0<l.next / 2->On m (l.next / 2).toNat)/\∀(i:Nat) (M:cf),n.ae[i]?=some M->(p:Int)∈fv M->On ms i
structure PI(n:ak)(V:Nat)(m ms:md)(left:jp):Prop where
 len:m.length=V+1
 mQ:ms.length=n.ae.length
 kY:pc n (m,ms)
 iV:qU n (On m)
 oC:∀v∈left,1<=v/\v<=(V:Int)/\On m v.toNat
 jB:∀p,On m p->(p:Int)∈left\/ug n m ms p
 mem:∀(i:Nat) (M:cf),On ms i->n.ae[i]?=some M->∀l∈fi M,0<l / 2->On m (l / 2).toNat
def todo(m:md)(left:jp):Nat:=m.count false+left.length
variable{left:jp}{left':jp}{m':md}
theorem qK.todo(h:qK n V ls m left m' left'):todo m' left'=todo m left:=by
 obtain⟨N,rfl,_,_,h4⟩:=h.new;unfold Pl.todo
 grind
variable{ms:md}
theorem ug.mono{ms':md}(h:ug n m ms p)(h1:∀q,On m q->On m' q)(h2:∀q,On ms q->On ms' q):ug n m' ms' p:=⟨fun l a b c=>h1 _ (h.1 l a b c),fun i M a b=>h2 _ (h.2 i M a b)⟩
theorem qK.iV(h:qK n V ls m left m' left')(hc:qU n (On m)):qU n (On m'):=by
 intro p x l hp a b c d;rcases(h.on p).1 hp with hp|hp
 .exact(h.on _).2 (.inl (hc p x l hp a b c d))
 .exact(h.on _).2 (.inr (.step hp a b c d))
theorem PI.mark(I:PI n V m ms left)(h:qK n V ls m left m' left')(hp:∀l∈ls,0<l / 2->iD n (l / 2).toNat):PI n V m' ms left':=by
 obtain⟨N,rfl,h2,h3,h4⟩:=h.new;have up:∀q,On m q->On m' q:=fun q k=>(h.on q).2 (.inl k);refine⟨h.len.trans I.len,I.mQ,⟨fun p k=>?_,I.kY.h2⟩,h.iV I.iV,fun v hv=>?_,fun p k=>?_,fun i M a b l c d=>up _ (I.mem i M a b l c d)⟩
 .rcases(h.on p).1 k with k|k
  .exact I.kY.h1 p k
  .refine tT (S:=iD n) (fun p x l k a b c d=>.step k (.node a b c) d) hp k
 .rcases rc.1 hv with hv|hv
  .obtain⟨a,b,c⟩:=I.oC v hv;exact⟨a,b,up _ c⟩
  .exact h2 v hv
 .rcases h3 p k with k|k
  .rcases I.jB p k with q|q
   .exact .inl (AC _ q)
   .exact .inr (q.mono up fun _ x=>x)
  grind
theorem PI.full(I:PI n V m ms [])(hb:∀l∈n.aN++n.constraints,0<l / 2->On m (l / 2).toNat):iZ n V (m,ms):=by have hd:∀p,On m p->ug n m ms p:=fun p h=>(I.jB p h).resolve_left atQ;refine XI I.len I.mQ I.kY ⟨⟨hb,fun p l hp hq h0=>?_⟩,fun i M p hp hM hv=>(hd p hp).2 i M hM hv⟩;generalize hv:(p:Int)=v at hq;cases hq with|@aJ x hx=>exact(hd p hp).1 x hx hv.symm h0|node hx hv2 hl=>exact I.iV p _ l hp hx (hv▸hv2) hl h0|@mem M _ _ hM hv2 hl=>obtain⟨i,hi⟩:=Fr hM;exact I.mem i M ((hd p hp).2 i M hi (hv▸hv2)) hi l hl h0
structure PJ(n:ak)(V:Nat)(j:Nat)(m ms:md)(left:jp):Prop where
 len:m.length=V+1
 mQ:ms.length=n.ae.length
 kY:pc n (m,ms)
 iV:qU n (On m)
 oC:∀v∈left,1<=v/\v<=(V:Int)/\On m v.toNat
 jB:∀p,On m p->(p:Int)∈left\/ug n m ms p
 mem:∀(i:Nat) (M:cf),i≠j->On ms i->n.ae[i]?=some M->∀l∈fi M,0<l / 2->On m (l / 2).toNat
variable{j:Nat}
theorem PJ.mark(I:PJ n V j m ms left)(h:qK n V ls m left m' left')(hp:∀l∈ls,0<l / 2->iD n (l / 2).toNat):PJ n V j m' ms left':=by
 obtain⟨N,rfl,h2,h3,h4⟩:=h.new;have up:∀q,On m q->On m' q:=fun q k=>(h.on q).2 (.inl k);refine⟨h.len.trans I.len,I.mQ,⟨fun p k=>?_,I.kY.h2⟩,h.iV I.iV,fun v hv=>?_,fun p k=>?_,fun i M e a b l c d=>up _ (I.mem i M e a b l c d)⟩
 .rcases(h.on p).1 k with k|k
  .exact I.kY.h1 p k
  .refine tT (S:=iD n) (fun p x l k a b c d=>.step k (.node a b c) d) hp k
 .rcases rc.1 hv with hv|hv
  .obtain⟨a,b,c⟩:=I.oC v hv;exact⟨a,b,up _ c⟩
  .exact h2 v hv
 .rcases h3 p k with k|k
  .rcases I.jB p k with q|q
   .exact .inl (AC _ q)
   .exact .inr (q.mono up fun _ x=>x)
  grind
variable{M:cf}
theorem PJ.leave(I:PJ n V j m ms left)(hM:n.ae[j]?=some M)(h:∀l∈fi M,0<l / 2->On m (l / 2).toNat):PI n V m ms left:=
 ⟨I.len,I.mQ,I.kY,I.iV,I.oC,I.jB,fun i M' ho hM'=>by
  by_cases e:i=j
  .subst e
   grind
  .exact I.mem i M' e ho hM'⟩
structure PK(n:ak)(V:Nat)(v:Nat)(m ms:md)(left:jp):Prop where
 on:On m v
 len:m.length=V+1
 mQ:ms.length=n.ae.length
 kY:pc n (m,ms)
 iV:qU n (On m)
 oC:∀v∈left,1<=v/\v<=(V:Int)/\On m v.toNat
 jB:∀p,On m p->p≠v->(p:Int)∈left\/ug n m ms p
 mem:∀(i:Nat) (M:cf),On ms i->n.ae[i]?=some M->∀l∈fi M,0<l / 2->On m (l / 2).toNat
variable{v:Nat}
theorem PI.pop(I:PI n V m ms (left++[(v:Int)])):PK n V v m ms left:=by
 have hv:=I.oC (v:Int) atQ;rw[Ne]at hv;refine⟨hv.2.2,I.len,I.mQ,I.kY,I.iV,fun u hu=>I.oC u (AC _ hu),fun p h e=>?_,I.mem⟩;rcases I.jB p h with q|q
 .rcases rc.1 q with q|q
  .exact .inl q
  grind
 .exact .inr q
theorem PK.aJ(I:PK n V v m ms left)(hs:bR n V){l:dJ}(hl:l∈n.ag)(hv:l.var=(v:Int))(one:∀l'∈n.ag,l'.var=(v:Int)->l'=l)(no:∀M∈n.ae,(v:Int)∉fv M)(h:qK n V [l.next] m left m' left'):PI n V m' ms left':=by
 have hp:iD n v:=I.kY.h1 v I.on;have hp2:∀x∈[l.next],0<x / 2->iD n (x / 2).toNat:=fun x hx h0=>by
  have e:x=l.next:=by grind
  subst e;exact .step hp (hv▸.aJ hl) h0
 obtain⟨N,rfl,h2,h3,h4⟩:=h.new;have up:∀q,On m q->On m' q:=fun q k=>(h.on q).2 (.inl k);refine⟨h.len.trans I.len,I.mQ,⟨fun p k=>?_,I.kY.h2⟩,h.iV I.iV,fun u hu=>?_,fun p k=>?_,fun i M a b l c d=>up _ (I.mem i M a b l c d)⟩
 .rcases(h.on p).1 k with k|k
  .exact I.kY.h1 p k
  .refine tT (S:=iD n) (fun p x l k a b c d=>.step k (.node a b c) d) hp2 k
 .rcases rc.1 hu with hv|hv
  .obtain⟨a,b,c⟩:=I.oC u hv;exact⟨a,b,up _ c⟩
  .exact h2 u hv
 .rcases h3 p k with k|k
  .by_cases e:p=v
   .subst e;refine .inr ⟨fun l' a b c=>?_,fun i M a b=>absurd b (no M (dy a))⟩;rw[one l' a b]at c |-;exact(h.on _).2 (.inr (.base atQ c))
   .rcases I.jB p k e with q|q
    .exact .inl (AC _ q)
    .exact .inr (q.mono up fun _ x=>x)
  grind
theorem PK.none(I:PK n V v m ms left)(no1:∀l∈n.ag,l.var≠(v:Int))(no:∀M∈n.ae,(v:Int)∉fv M):PI n V m ms left:=by
 refine⟨I.len,I.mQ,I.kY,I.iV,I.oC,fun p k=>?_,I.mem⟩;by_cases e:p=v
 .subst e;exact .inr ⟨fun l' a b=>absurd b (no1 l' a),fun i M a b=>absurd b (no M (dy a))⟩
 .exact I.jB p k e
theorem PK.alo(I:PK n V v m ms left)(no1:∀l∈n.ag,l.var≠(v:Int))(one:∀(i:Nat) (M:cf),n.ae[i]?=some M->(v:Int)∈fv M->i=j)(hj:On ms j):PI n V m ms left:=by
 refine⟨I.len,I.mQ,I.kY,I.iV,I.oC,fun p k=>?_,I.mem⟩;by_cases e:p=v
 .subst e;exact .inr ⟨fun l' a b=>absurd b (no1 l' a),fun i M a b=>by grind⟩
 .exact I.jB p k e
theorem PK.akg(I:PK n V v m ms left)(no1:∀l∈n.ag,l.var≠(v:Int))(hM:n.ae[j]?=some M)(hv:(v:Int)∈fv M)(one:∀(i:Nat) (M:cf),n.ae[i]?=some M->(v:Int)∈fv M->i=j):PJ n V j m (ms.set j true) left:=by
 have up:∀q,On ms q->On (ms.set j true) q:=fun q k=>kL.2 (.inl k);have hj:j<ms.length:=by rw[I.mQ];grind
 refine⟨I.len,by rw[acl];exact I.mQ,⟨I.kY.h1,fun i M' h hM'=>?_⟩,I.iV,I.oC,fun p h=>?_,fun i M' e h a=>?_⟩
 .rcases kL.1 h with h|⟨rfl,_⟩
  .exact I.kY.h2 i M' h hM'
  .rw[hM]at hM';cases hM';exact⟨v,I.kY.h1 v I.on,hv⟩
 .by_cases e:p=v
  .subst e;exact .inr ⟨fun l' a b=>absurd b (no1 l' a),fun i M a b=>by rw[one i M a b];exact kL.2 (.inr ⟨rfl,hj⟩)⟩
  .rcases I.jB p h e with q|q
   .exact .inl q
   .exact .inr (q.mono (fun _ x=>x) up)
 .rcases kL.1 h with h|⟨rfl,_⟩
  .exact I.mem i M' h a
  .exact absurd rfl e
theorem pi0:PI n V (List.replicate (V+1) false) (List.replicate n.ae.length false) []:=⟨gp ..,gp ..,⟨fun p h=>absurd h pI,fun i M h=>absurd h pI⟩,fun p x l h=>absurd h pI,fun v h=>by simp at h,fun p h=>absurd h pI,fun i M h=>absurd h pI⟩
inductive qi(n:ak)(v:Nat):Nat->Prop
 |refl:0<v->qi n v v
 |step {p:Nat}{x:cx}{l:Int}:qi n v p->x∈dj n->(p:Int)∈x.to->l∈x.bj->0<l / 2->qi n v (l / 2).toNat
theorem qi.trans{u:Nat}(a:qi n u v)(b:qi n v p):qi n u p:=by induction b with|refl _=>exact a|step _ h1 h2 h3 h4 ih=>exact .step ih h1 h2 h3 h4
structure gK(n:ak)(m:md)(ls:jp)(m':md):Prop where
 len:m'.length=m.length
 sub:∀p,On m' p->On m p\/∃l∈ls,0<l / 2/\qi n (l / 2).toNat p
 up:∀p,On m p->On m' p
 has:∀l∈ls,0<l / 2->On m' (l / 2).toNat
 iV:∀p,On m' p->¬On m p->∀(x:cx) (l:Int),x∈dj n->(p:Int)∈x.to->l∈x.bj->0<l / 2->On m' (l / 2).toNat
 l8:m'.count false<=m.count false
theorem gK.nil:gK n m [] m:=⟨rfl,fun p h=>.inl h,fun p h=>h,fun l h=>by simp at h,fun p h k=>absurd h k,rt _⟩
theorem gK.app{m1 m2:md}{a b:jp}(h:gK n m a m1)(k:gK n m1 b m2):gK n m (a++b) m2:=by
 refine⟨k.len.trans h.len,fun p hp=>?_,fun p hp=>k.up p (h.up p hp),fun l hl h0=>?_,fun p hp hn x l h1 h2 h3 h4=>?_,IS k.l8 h.l8⟩
 .rcases k.sub p hp with hp|⟨l,h1,h2⟩
  .rcases h.sub p hp with hp|⟨l,h1,h2⟩
   .exact .inl hp
   .exact .inr ⟨l,AC _ h1,h2⟩
  .exact .inr ⟨l,EQ _ h1,h2⟩
 .rcases rc.1 hl with hl|hl
  .exact k.up _ (h.has l hl h0)
  .exact k.has l hl h0
 .by_cases q:On m1 p
  .exact k.up _ (h.iV p q hn x l h1 h2 h3 h4)
  .exact k.iV p hp q x l h1 h2 h3 h4
variable{l:Int}
theorem gK.there(h:l / 2<1\/On m (l / 2).toNat):gK n m [l] m:=
 ⟨rfl,fun p h=>.inl h,fun p h=>h,fun x hx h0=>by
  have e:x=l:=by simpa using hx
  subst e;rcases h with h|h
  .omega
  .exact h,fun p h k=>absurd h k,rt _⟩
theorem gK.free(h0:0<l / 2)(hl:(l / 2).toNat<m.length)(hn:¬On m (l / 2).toNat)(hf:∀x∈dj n,l / 2∉x.to):gK n m [l] (m.set (l / 2).toNat true):=by
 refine⟨acl ..,fun p hp=>?_,fun p hp=>kL.2 (.inl hp),fun x hx _=>?_,fun p hp hq x y h1 h2=>?_,by have:=DS hl hn;omega⟩
 .rcases kL.1 hp with hp|⟨rfl,_⟩
  .exact .inl hp
  .exact .inr ⟨l,atQ,h0,.refl atO⟩
 .have e:x=l:=by simpa using hx
  subst e;exact kL.2 (.inr ⟨rfl,hl⟩)
 .rcases kL.1 hp with hp|⟨rfl,_⟩
  .exact absurd hp hq
  .rw[arS atO]at h2;exact absurd h2 (hf x h1)
theorem gK.node{x:cx}(one:∀y∈dj n,l / 2∈y.to->y=x)(hx:x∈dj n)(hv:l / 2∈x.to)(h0:0<l / 2)(hl:(l / 2).toNat<m.length)(hn:¬On m (l / 2).toNat)(h:gK n (m.set (l / 2).toNat true) x.bj m'):gK n m [l] m':=by
 refine⟨h.len.trans (acl ..),fun p hp=>?_,fun p hp=>h.up p (kL.2 (.inl hp)),fun y hy _=>?_,fun p hp hq y z h1 h2 h3 h4=>?_,by have:=DS hl hn;have:=h.l8;omega⟩
 .rcases h.sub p hp with hp|⟨y,h1,h2,h3⟩
  .rcases kL.1 hp with hp|⟨rfl,_⟩
   .exact .inl hp
   .exact .inr ⟨l,atQ,h0,.refl atO⟩
  .refine .inr ⟨l,atQ,h0,qi.trans (.step (.refl atO) hx ?_ h1 h2) h3⟩;rw[arS atO];exact hv
 .have e:y=l:=by simpa using hy
  subst e;exact h.up _ (kL.2 (.inr ⟨rfl,hl⟩))
 .by_cases q:p=(l / 2).toNat
  .subst q;rw[arS atO]at h2;obtain rfl:=one y h1 h2;exact h.has z h3 h4
  .refine h.iV p hp (fun k=>?_) y z h1 h2 h3 h4;rcases kL.1 k with k|⟨k,_⟩
   .exact hq k
   .exact q k.symm
theorem aku(hl:l∈ls)(h0:0<l / 2)(h:qi n (l / 2).toNat p):kU n ls p:=by induction h with|refl _=>exact .base hl h0|step _ a b c d ih=>exact .step ih a b c d
theorem gK.sup(h:gK n (List.replicate (V+1) false) ls m)(p:Nat):On m p↔kU n ls p:=by
 constructor
 .intro hp;rcases h.sub p hp with hp|⟨l,h1,h2,h3⟩
  .exact absurd hp pI
  .exact aku h1 h2 h3
 .exact tT (fun p x l hp a b c d=>h.iV p hp pI x l a b c d) h.has
open Classical in
theorem gK.list(h:gK n (List.replicate (V+1) false) ls m):((List.range (V+1)).filter fun v=>m.getD v false).map (fun v:Nat=>(v:Int))=nB n V ls:=by
 unfold nB;congr 1;refine List.filter_congr fun v _=>?_;have:=h.sup v;unfold On at this;by_cases q:m.getD v false=true
 .rw[q];exact(dt (this.1 q)).symm
 .have q':m.getD v false=false:=by simpa using q
  rw[q'];exact(eY fun k=>q (this.2 k)).symm
