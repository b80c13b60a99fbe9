import Derived.Test.YtmkbdfidnfmgmaaGreatKTa
set_option linter.all false
section
namespace Go.Proofs.YtmkbdfidnfmgmaaGreat.Pl
inductive tf(n:aB):Int->Int->Prop
 |aT {l:dI}:l∈n.ah->tf n l.var l.next
 |node {x:cg}{v l:Int}:x∈dt n->v∈x.to->l∈x.bq->tf n v l
 |mem {m:cC}{v l:Int}:m∈n.af->v∈dy m->l∈dU m->tf n v l
inductive im(n:aB):Nat->Prop
 |base {l:Int}:l∈n.aU++n.constraints->0<l / 2->im n (l / 2).toNat
 |step {p:Nat}{l:Int}:im n p->tf n (p:Int) l->0<l / 2->im n (l / 2).toNat
structure Clo(n:aB)(S:Nat->Prop):Prop where
 base:∀l∈n.aU++n.constraints,0<l / 2->S (l / 2).toNat
 step:∀(p:Nat) (l:Int),S p->tf n (p:Int) l->0<l / 2->S (l / 2).toNat
variable{p:Nat}{n:aB}
theorem ZY{S:Nat->Prop}(h:Clo n S)(k:im n p):S p:=by induction k with|base a b=>exact h.base _ a b|step _ b c ih=>exact h.step _ _ ih b c
def On(m:kw)(p:Nat):Prop:=m.getD p false=true
variable{m:kw}
theorem ab8(h:On m p):p<m.length:=by
 unfold On at h
 grind
variable{i:Nat}
theorem jS:On (m.set i true) p↔On m p\/(i=p/\p<m.length):=by
 unfold On
 grind
theorem Fj{m':kw}(hl:m.length=m'.length)(h:∀p,On m p↔On m' p):m=m':=by
 refine atW hl fun i h1 h2=>?_;have:=h i;unfold On at this
 grind
def o9(m:kw)(l:Int):kw:=if 0<l / 2 then m.set (l / 2).toNat true else m
def du(m:kw)(ls:jp):kw:=ls.foldl o9 m
theorem ZX(m:kw)(l:Int):(o9 m l).length=m.length:=by
 unfold o9
 grind
theorem jv:∀(ls:jp) (m:kw),(du m ls).length=m.length
 |[],_=>rfl|l::ls,m=>(jv ls (o9 m l)).trans (ZX m l)
theorem anw{l:Int}:On (o9 m l) p↔On m p\/(0<l / 2/\(l / 2).toNat=p/\p<m.length):=by
 unfold o9;split
 .rename_i h;rw[jS];simp[h]
 .rename_i h;simp[h]
theorem xj:∀{ls:jp}{m:kw}{p:Nat},On (du m ls) p↔On m p\/∃l∈ls,0<l / 2/\(l / 2).toNat=p/\p<m.length
 |[],m,p=>by show On m p↔_;simp|l::ls,m,p=>by show On (du (o9 m l) ls) p↔_;rw[xj,anw,ZX];simp[or_assoc]
theorem sG(m:kw)(a b:jp):du m (a++b)=du (du m a) b:=aso ..
inductive cT where
 |aT (l:dI)
 |iS (x:cU×cg) (v:Int)
 |mem (i:Nat) (m:cC)
abbrev S2:=kw×kw
def cT.run(s:S2):cT->S2
 |.aT l=>bif s.1.getD l.var.toNat false then(du s.1 [l.next],s.2)else s|.iS x v=>bif s.1.getD v.toNat false then(du s.1 x.2.bq,bif x.1.rd then s.2.set x.1.mem true else s.2)else s|.mem i m=>bif s.2.getD i false then(du s.1 (dU m),s.2)else s
theorem Fa(s:S2)(l:dI):(cT.aT l).run s=bif s.1.getD l.var.toNat false then(du s.1 [l.next],s.2)else s:=rfl
theorem xl(s:S2)(x:cU×cg)(v:Int):(cT.iS x v).run s=bif s.1.getD v.toNat false then(du s.1 x.2.bq,bif x.1.rd then s.2.set x.1.mem true else s.2)else s:=rfl
theorem Fb(s:S2)(i:Nat)(m:cC):(cT.mem i m).run s=bif s.2.getD i false then(du s.1 (dU m),s.2)else s:=rfl
def kU(n:aB):List cT:=n.ah.map .aT++(((d7 n).zip (dt n)).flatMap (fun x=>x.2.to.map (.iS x))++n.af.zipIdx.map fun x=>.mem x.2 x.1)
def j9(n:aB)(s:S2):S2:=(kU n).foldl cT.run s
def jw(n:aB):Nat->S2->S2
 |0,s=>s|k+1,s=>jw n k (j9 n s)
structure j5(s t:S2):Prop where
 l1:s.1.length=t.1.length
 l2:s.2.length=t.2.length
 h1:∀p,On s.1 p->On t.1 p
 h2:∀p,On s.2 p->On t.2 p
theorem j5.refl(s:S2):j5 s s:=⟨rfl,rfl,fun _ h=>h,fun _ h=>h⟩
variable{s:S2}{t:S2}
theorem j5.trans{u:S2}(a:j5 s t)(b:j5 t u):j5 s u:=⟨a.l1.trans b.l1,a.l2.trans b.l2,fun p h=>b.h1 p (a.h1 p h),fun p h=>b.h2 p (a.h2 p h)⟩
theorem j5.ar5(a:j5 s t)(b:j5 t s):s=t:=Prod.ext (Fj a.l1 fun p=>⟨a.h1 p,b.h1 p⟩) (Fj a.l2 fun p=>⟨a.h2 p,b.h2 p⟩)
theorem lY(m k k':kw)(ls:jp)(hl:k.length=k'.length)(h:∀p,On k p->On k' p):j5 (m,k) (du m ls,k'):=⟨(jv _ _).symm,hl,fun p q=>xj.2 (.inl q),h⟩
theorem abG(s:S2):∀f:cT,j5 s (f.run s)
 |.aT l=>by
  rw[Fa];cases s.1.getD l.var.toNat false
  .exact j5.refl s
  .exact lY _ _ _ _ rfl fun _ h=>h
 |.iS x v=>by
  rw[xl];cases s.1.getD v.toNat false
  .exact j5.refl s
  .cases x.1.rd
   .exact lY _ _ _ _ rfl fun _ h=>h
   .exact lY _ _ _ _ (aig ..).symm fun _ h=>jS.2 (.inl h)
 |.mem i m=>by
  rw[Fb];cases s.2.getD i false
  .exact j5.refl s
  .exact lY _ _ _ _ rfl fun _ h=>h
theorem oh:∀(fs:List cT) (s:S2),j5 s (fs.foldl cT.run s)
 |[],s=>j5.refl s|f::fs,s=>(abG s f).trans (oh fs _)
theorem aav:∀(fs:List cT) (s:S2),fs.foldl cT.run s=s->∀f∈fs,f.run s=s
 |[],s,_=>by simp|f::fs,s,h=>by
  have h:fs.foldl cT.run (f.run s)=s:=h;have a:=abG s f;have b:=oh fs (f.run s);rw[h]at b;have e:f.run s=s:=b.ar5 a;rw[e]at h;intro g hg;rcases Fn.1 hg with rfl|hg
  .exact e
  .exact aav fs s h g hg
structure nV(n:aB)(s:S2):Prop where
 h1:∀p,On s.1 p->im n p
 h2:∀(i:Nat) (m:cC),On s.2 i->n.af[i]?=some m->∃p:Nat,im n p/\(p:Int)∈dy m
theorem xh{ls:jp}(h:∀p,On m p->im n p)(hl:∀l∈ls,0<l / 2->im n (l / 2).toNat):∀p,On (du m ls) p->im n p:=by
 intro p hp;rcases xj.1 hp with hp|⟨l,h1,h2,rfl,_⟩
 .exact h p hp
 .exact hl l h1 h2
variable{f:cT}
theorem amQ(h:f∈kU n):(∃l∈n.ah,f=.aT l)\/(∃x v,x∈(d7 n).zip (dt n)/\v∈x.2.to/\f=.iS x v)\/∃i m,n.af[i]?=some m/\f=.mem i m:=by
 unfold kU at h
 grind
theorem an0{x:cU×cg}(h:x∈(d7 n).zip (dt n)):x.1.is n x.2/\x.2∈dt n:=by
 obtain⟨i,hi⟩:=LT h;rw[atK]at hi;obtain⟨y,h1,h2⟩:=xU n hi.1
 grind
theorem anT(hs:nV n s)(pos:∀x∈dt n,∀v∈x.to,0<=v)(posL:∀l∈n.ah,0<=l.var)(hf:f∈kU n):nV n (f.run s):=by
 rcases amQ hf with⟨l,h,rfl⟩|⟨x,v,h,hv,rfl⟩|⟨i,m,h,rfl⟩
 .rw[Fa];cases q:s.1.getD l.var.toNat false
  .exact hs
  .refine⟨xh hs.h1 fun y hy h0=>?_,hs.h2⟩;have e:y=l.next:=by grind
   subst e;refine .step (hs.h1 _ q) ?_ h0;rw[asx (posL l h)];exact .aT h
 .obtain⟨h1,h2⟩:=an0 h;rw[xl];cases q:s.1.getD v.toNat false
  .exact hs
  .have e:((v.toNat:Nat):Int)=v:=asx (pos _ h2 v hv);refine⟨xh hs.h1 fun y hy h0=>.step (hs.h1 _ q) (by rw[e];exact .node h2 hv hy) h0,fun i m hi hm=>?_⟩;rcases h1 with⟨hr,a,ha,ex⟩|⟨hr,M,r,hM,hr2,ex⟩
   .rw[hr]at hi;exact hs.h2 i m hi hm
   .rw[hr]at hi;rcases jS.1 hi with hi|⟨rfl,_⟩
    .exact hs.h2 i m hi hm
    .rw[hM]at hm;cases hm;refine⟨v.toNat,hs.h1 _ q,?_⟩;rw[e];rw[ex]at hv;exact rc.2 ⟨r,d5 hr2,hv⟩
 .rw[Fb];cases q:s.2.getD i false
  .exact hs
  .obtain⟨p,h1,h2⟩:=hs.h2 i m q h;exact⟨xh hs.h1 fun y hy h0=>.step h1 (.mem (d5 h) h2 hy) h0,hs.h2⟩
theorem aaW{n:aB}(pos:∀x∈dt n,∀v∈x.to,0<=v)(posL:∀l∈n.ah,0<=l.var):∀(fs:List cT) (s:S2),(∀f∈fs,f∈kU n)->nV n s->nV n (fs.foldl cT.run s)
 |[],s,_,h=>h|f::fs,s,hf,h=>aaW pos posL fs _ (fun g hg=>hf g (Id _ hg)) (anT h pos posL (hf f Pi))
structure abP(n:aB)(s:S2):Prop where
 c:Clo n (On s.1)
 h2:∀(i:Nat) (m:cC) (p:Nat),On s.1 p->n.af[i]?=some m->(p:Int)∈dy m->On s.2 i
theorem ak8{m:cC}(h:n.af[i]?=some m):cT.mem i m∈kU n:=by unfold kU;simp only[qr,rt];exact .inr (.inr ⟨(m,i),arg.2 h,rfl⟩)
theorem alh{x:cg}{v:Int}(h:x∈dt n)(hv:v∈x.to):∃y:cU,(y,x)∈(d7 n).zip (dt n)/\cT.iS (y,x) v∈kU n:=by
 obtain⟨i,hi⟩:=LT h;have hl:=(rg.1 hi).1;rw[<-JE]at hl;have hz:(((d7 n).zip (dt n)))[i]?=some ((d7 n)[i],x):=atK.2 ⟨bA hl,hi⟩;refine⟨_,d5 hz,?_⟩;unfold kU
 grind
theorem aaZ:∀(l:List cC) (k i:Nat) (m:cC) (r:fh),l[i]?=some m->r∈m.reads->∃y:cU,y.rd=true/\y.mem=k+i/\∃j:Nat,(iC k l)[j]?=some y/\(l.flatMap iY)[j]?=some (lK m.word r)
 |[],k,i,m,r,h,_=>by simp at h|m0::l,k,0,m,r,h,hr=>by
  simp only[FS,dm]at h;subst h;obtain⟨j,hj⟩:=LT hr;have hl:=(rg.1 hj).1;refine⟨⟨true,k,j⟩,rfl,rfl,j,?_,?_⟩
  .rw[iC,Ne (by simp[iI];exact hl)];unfold iI
   grind
  .rw[ww,Ne (by simp[iY];exact hl)];unfold iY;rw[cW,hj];rfl
 |m0::l,k,i+1,m,r,h,hr=>by
  have h':l[i]?=some m:=by simpa using h
  obtain⟨y,h1,h2,j,h3,h4⟩:=aaZ l (k+1) i m r h' hr;have e1:(iI k m0).length=m0.reads.length:=by simp[iI]
  have e2:(iY m0).length=m0.reads.length:=by simp[iY]
  refine⟨y,h1,auc,m0.reads.length+j,?_,?_⟩
  .rw[iC,In auc,e1,aty];exact h3
  grind
theorem aln{m:cC}{r:fh}(h:n.af[i]?=some m)(hr:r∈m.reads):∃y:cU,y.rd=true/\y.mem=i/\(y,lK m.word r)∈(d7 n).zip (dt n):=by
 obtain⟨y,h1,h2,j,h3,h4⟩:=aaZ n.af 0 i m r h hr;refine⟨y,h1,auc,List.mem_of_getElem? (i:=n.ag.length+j) (atK.2 ⟨?_,?_⟩)⟩
 .unfold d7
  grind
 .unfold dt
  grind
variable{V:Nat}
theorem al1(hs:cA n V)(hl:s.1.length=V+1)(hl2:s.2.length=n.af.length)(hb:∀l∈n.aU++n.constraints,0<l / 2->On s.1 (l / 2).toNat)(hf:∀f∈kU n,f.run s=s):abP n s:=by
 have rd:∀(i:Nat) (m:cC) (p:Nat),On s.1 p->n.af[i]?=some m->(p:Int)∈dy m->On s.2 i:=by
  intro i m p hp hm hv;obtain⟨r,hr,hv⟩:=rc.1 hv;obtain⟨y,h1,h2,h3⟩:=aln hm hr;have hst:cT.iS (y,lK m.word r) (p:Int)∈kU n:=by unfold kU;simp only[qr,rc,rt];exact .inr (.inl ⟨_,h3,(p:Int),hv,rfl⟩)
  have:=hf _ hst;rw[xl]at this;rw[ST,show s.1.getD p false=true from hp,cond_true]at this;have h5:=OF Prod.snd this;simp only[h1,cond_true,h2]at h5;rw[<-h5];exact jS.2 (.inr ⟨rfl,by rw[hl2];exact(rg.1 hm).1⟩)
 have fix:∀ls:jp,(∀l∈ls,l∈cL n)->du s.1 ls=s.1->∀l∈ls,0<l / 2->On s.1 (l / 2).toNat:=by intro ls hls e l hl0 h0;rw[<-e];refine xj.2 (.inr ⟨l,hl0,h0,rfl,?_⟩);have:=(hs.lits l (hls l hl0)).2;rw[hl];omega
 refine⟨⟨hb,fun p l hp hq h0=>?_⟩,rd⟩;generalize hv:(p:Int)=v at hq;cases hq with
 |@aT x hx=>
  have:=hf (.aT x) (by unfold kU;simp only[qr,rt];exact .inl ⟨x,hx,rfl⟩);rw[Fa]at this;rw[<-hv,ST,show s.1.getD p false=true from hp,cond_true]at this;exact fix [x.next] (fun l hl=>by
   have e:l=x.next:=by simpa using hl
   subst e;unfold cL
   grind) (OF Prod.fst this) _ aue h0
 |@node x _ _ hx hv2 hl2=>
  obtain⟨y,h1,h2⟩:=alh hx hv2;have:=hf _ h2;rw[xl]at this;rw[<-hv,ST,show s.1.getD p false=true from hp,cond_true]at this;refine fix x.bq (fun l hl=>?_) (OF Prod.fst this) _ hl2 h0;unfold cL;simp only[qr,rc];unfold dt at hx;rcases qr.1 hx with hx|hx
  .obtain⟨a,ha,rfl⟩:=rt.1 hx;exact .inr ⟨a,ha,hl⟩
  .obtain⟨m,hm,hx⟩:=rc.1 hx;obtain⟨r,hr,rfl⟩:=rt.1 hx;exact .inl (.inr ⟨m,hm,AI _ (rc.2 ⟨r,hr,hl⟩)⟩)
 |@mem m _ _ hm hv2 hl2=>obtain⟨i,hi⟩:=LT hm;have:=hf _ (ak8 hi);rw[Fb]at this;rw[show s.2.getD i false=true from rd i m p hp hi (by rw[hv];exact hv2),cond_true]at this;refine fix (dU m) (fun l hl=>?_) (OF Prod.fst this) _ hl2 h0;unfold cL;simp only[qr,rc];exact .inl (.inr ⟨m,hm,hl⟩)
theorem count_le:∀{m m':kw},m.length=m'.length->(∀p,On m p->On m' p)->m.count true<=m'.count true/\(m.count true=m'.count true->m=m'):=by
 intro m
 induction m with
 |nil=>
  intro m' hl _
  grind
 |cons b m ih=>
  intro m' hl h;cases m' with
  |nil=>cases hl
  |cons b' m'=>
   obtain⟨h1,h2⟩:=ih (m':=m') (by grind) fun p hp=>h (p+1) hp;have h0:b=true->b'=true:=h 0
   grind
theorem ZZ{n:aB}:∀(k:Nat) (s:S2),(j9 n s=s->jw n k s=s)
 |0,s,_=>rfl|k+1,s,h=>by show jw n k (j9 n s)=s;rw[h];exact ZZ k s h
theorem ZT{n:aB}:∀(k:Nat) (s:S2),s.1.length+s.2.length<s.1.count true+s.2.count true+k->j9 n (jw n k s)=jw n k s
 |0,s,h=>by grind|k+1,s,h=>by
  show j9 n (jw n k (j9 n s))=jw n k (j9 n s);by_cases q:j9 n s=s
  .rw[q,ZZ k s q,q]
  .have hle:j5 s (j9 n s):=oh _ _;have c1:=count_le hle.l1 hle.h1;have c2:=count_le hle.l2 hle.h2;refine ZT k (j9 n s) ?_;rw[<-hle.l1,<-hle.l2]
   grind
theorem EU{n:aB}:∀(k:Nat) (s:S2),j5 s (jw n k s)
 |0,s=>j5.refl s|k+1,s=>(oh (kU n) s).trans (EU k (j9 n s))
theorem aaj{n:aB}(pos:∀x∈dt n,∀v∈x.to,0<=v)(posL:∀l∈n.ah,0<=l.var):∀(k:Nat) (s:S2),nV n s->nV n (jw n k s)
 |0,s,h=>h|k+1,s,h=>aaj pos posL k _ (aaW pos posL (kU n) s (fun _ h=>h) h)
structure jk(n:aB)(V:Nat)(s:S2):Prop where
 l1:s.1.length=V+1
 l2:s.2.length=n.af.length
 h1:∀p,On s.1 p↔im n p
 h2:∀(i:Nat) (m:cC),n.af[i]?=some m->(On s.2 i↔∃p:Nat,im n p/\(p:Int)∈dy m)
theorem jk.one(a:jk n V s)(b:jk n V t):s=t:=by
 refine Prod.ext (Fj (a.l1.trans b.l1.symm) fun p=>(a.h1 p).trans (b.h1 p).symm) (Fj (a.l2.trans b.l2.symm) fun i=>?_);by_cases q:i<n.af.length
 .have hm:=bA q;exact(a.h2 i _ hm).trans (b.h2 i _ hm).symm
 .constructor
  .intro h;have:=ab8 h;rw[a.l2]at this;omega
  .intro h;have:=ab8 h;rw[b.l2]at this;omega
theorem aac(hl:s.1.length=V+1)(hl2:s.2.length=n.af.length)(a:nV n s)(b:abP n s):jk n V s:=⟨hl,hl2,fun p=>⟨a.h1 p,ZY b.c⟩,fun i m hm=>⟨fun h=>a.h2 i m h hm,fun⟨p,h1,h2⟩=>b.h2 i m p (ZY b.c h1) hm h2⟩⟩
def lg(n:aB)(V:Nat):S2:=jw n (V+n.af.length+2) (du (du (List.replicate (V+1) false) n.aU) n.constraints,List.replicate n.af.length false)
theorem nE{k:Nat}:¬On (List.replicate k false) p:=by
 unfold On
 grind
theorem aag(hs:cA n V):jk n V (lg n V):=by
 have pos:∀x∈dt n,∀v∈x.to,0<=v:=fun x hx v hv=>by have:=(hs.mI hx hv).1;omega
 have posL:∀l∈n.ah,0<=l.var:=fun l hl=>by have:=(hs.eJ l.var (by unfold bp;grind)).1;omega
 have h0:nV n (du (du (List.replicate (V+1) false) n.aU) n.constraints,List.replicate n.af.length false):=by refine⟨?_,fun i m h=>absurd h nE⟩;refine xh (xh (fun p h=>absurd h nE) fun l hl h0=>.base (AI _ hl) h0) fun l hl h0=>.base (Fd _ hl) h0
 have hl:=EU (n:=n) (V+n.af.length+2) (du (du (List.replicate (V+1) false) n.aU) n.constraints,List.replicate n.af.length false);have e1:(lg n V).1.length=V+1:=by rw[lg,<-hl.l1,jv,jv,fx]
 have e2:(lg n V).2.length=n.af.length:=by rw[lg,<-hl.l2,fx]
 refine aac e1 e2 (aaj pos posL _ _ h0) (al1 hs e1 e2 (fun l hl0 h0=>hl.h1 _ ?_) (aav _ _ (ZT _ _ ?_)))
 .rw[<-sG];refine xj.2 (.inr ⟨l,hl0,h0,rfl,?_⟩);have aS:l∈cL n:=by
   unfold cL
   grind
  have:=(hs.lits l aS).2;rw[fx];omega
 .rw[jv,jv,fx,fx];omega
end Go.Proofs.YtmkbdfidnfmgmaaGreat.Pl
end
section
namespace Go.Proofs.YtmkbdfidnfmgmaaGreat.V
open Go Go.RowKit Go.Proofs.YtmkbdfidnfmgmaaGreat.Pl
def rv(ts:jp)(v:Int):Int:=gt .I ts v
def rl(ts:jp)(l:Int):Int:=2*rv ts (l / 2)+l % 2
def fF(ts:jp)(x:dI):dI:=⟨rv ts x.var,rl ts x.next,x.init⟩
def fO(ts:jp)(x:dM):dM:=⟨rv ts x.var,rl ts x.a,rl ts x.b⟩
def ia(ts:jp)(x:fh):fh:=⟨rv ts x.var,x.addr.map (rl ts)⟩
def iJ(ts:jp)(x:n5):n5:=⟨rl ts x.on,x.addr.map (rl ts),x.data.map (rl ts)⟩
def fG(ts:jp)(m:cC):cC:=⟨m.addr,m.word,m.any,m.reads.map (ia ts),m.writes.map (iJ ts)⟩
def eS(ts:jp)(n:aB):aB:=⟨n.vars,n.ax.map (rv ts),n.ah.map (fF ts),n.bk.map (rl ts),n.aU.map (rl ts),n.constraints.map (rl ts),n.af.map (fG ts),n.ag.map (fO ts)⟩
def pH(ts:jp)(w:Int)(r:fh):Bool:=(List.range w.toNat).all fun i=>decide (rv ts (r.var+((i:Nat):Int))=rv ts r.var+((i:Nat):Int))
def mg(ts:jp)(m:cC):Bool:=(List.range m.reads.length).all fun k=>pH ts m.word (m.reads.getD k ⟨0,[]⟩)
structure jb(ts:jp)(V:Nat):Prop where
 len:ts.length=V+1
 zero:rv ts 0=0
 eJ:∀v:Nat,1<=v->v<=V->1<=rv ts (v:Int)/\rv ts (v:Int)<=(V:Int)
 inj:∀u v:Nat,1<=u->u<v->v<=V->rv ts (u:Int)≠rv ts (v:Int)
variable{v:Int}
theorem jb.le{ts:jp}{V:Nat}(F:jb ts V)(h0:0<=v)(h:v<=(V:Int)):0<=rv ts v/\rv ts v<=(V:Int):=by
 obtain⟨k,rfl⟩:=By h0;rcases Or k with q|q
 .subst q;have:rv ts (Int.ofNat 0)=0:=F.zero;rw[show((0:Nat):Int)=Int.ofNat 0 from rfl,this];omega
 .have:=F.eJ k q auc;omega
section
variable{n:aB}{V:Nat}(hs:cA n V){ts:jp}(F:jb ts V)
include hs F
theorem E2{m:cC}(hm:m∈n.af){r:fh}(hr:r∈m.reads):1<=r.var/\r.var+m.word-1<=(V:Int):=by
 obtain⟨m1,m2,m3,m4,_⟩:=hs.af m hm;have hd:∀i:Nat,i<m.word.toNat->r.var+(i:Int)∈bp n:=by intro i hi;unfold bp;simp only[qr];refine .inl (.inr (rc.2 ⟨m,hm,?_⟩));unfold dy;refine rc.2 ⟨r,hr,?_⟩;unfold cM;exact rt.2 ⟨i,act.2 hi,rfl⟩
 have a:=hs.eJ _ (hd 0 auc);have b:=hs.eJ _ (hd (m.word.toNat-1) auc);omega
theorem aah{m:cC}(hm:m∈n.af){r:fh}(hr:r∈m.reads):∀l∈r.addr,0<=l/\l / 2<=(V:Int):=by intro l hl;refine hs.lits l ?_;unfold cL;simp only[qr];refine .inl (.inr (rc.2 ⟨m,hm,?_⟩));unfold dU;rw[qr];exact .inl (rc.2 ⟨r,hr,hl⟩)
theorem aar{m:cC}(hm:m∈n.af){w:n5}(hw:w∈m.writes):(0<=w.on/\w.on / 2<=(V:Int))/\(∀l∈w.addr,0<=l/\l / 2<=(V:Int))/\∀l∈w.data,0<=l/\l / 2<=(V:Int):=by have aS:∀l∈eF w,0<=l/\l / 2<=(V:Int):=fun l hl=>hs.lits l (by unfold cL;simp only[qr];refine .inl (.inr (rc.2 ⟨m,hm,?_⟩));unfold dU;rw[qr];exact .inr (rc.2 ⟨w,hw,hl⟩));exact⟨aS _ (by unfold eF;simp),fun l hl=>aS _ (by unfold eF;simp[hl]),fun l hl=>aS _ (by unfold eF;simp[hl])⟩
theorem abo:∀v∈n.ax,1<=v/\v<=(V:Int):=fun v hv=>hs.eJ v (by unfold bp;simp[hv])
theorem aaT:∀l∈n.ah,(1<=l.var/\l.var<=(V:Int))/\0<=l.next/\l.next / 2<=(V:Int):=fun l hl=>⟨hs.eJ _ (by unfold bp;simp only[qr,rt];exact .inl (.inl (.inr ⟨l,hl,rfl⟩))),hs.lits _ (by unfold cL;simp only[qr,rt];exact .inl (.inl (.inl (.inl (.inl ⟨l,hl,rfl⟩)))))⟩
theorem Og:∀a∈n.ag,(1<=a.var/\a.var<=(V:Int))/\(0<=a.a/\a.a / 2<=(V:Int))/\0<=a.b/\a.b / 2<=(V:Int):=fun a ha=>by have hl:∀l∈fH a,0<=l/\l / 2<=(V:Int):=fun l hl=>hs.lits _ (by unfold cL;simp only[qr];exact .inr (rc.2 ⟨a,ha,hl⟩));exact⟨hs.eJ _ (by unfold bp;simp only[qr,rt];exact .inr ⟨a,ha,rfl⟩),hl _ (by unfold fH;simp),hl _ (by unfold fH;simp)⟩
theorem aa4:(∀l∈n.bk,0<=l/\l / 2<=(V:Int))/\(∀l∈n.aU,0<=l/\l / 2<=(V:Int))/\∀l∈n.constraints,0<=l/\l / 2<=(V:Int):=by refine⟨fun l hl=>hs.lits l ?_,fun l hl=>hs.lits l ?_,fun l hl=>hs.lits l ?_⟩<;>unfold cL<;>simp[hl]
end
variable{r:fh}{m:cC}
def yz(ts:jp)(i:cg):cg:=⟨i.to.map (rv ts),i.bq.map (rl ts)⟩
def sg(ts:jp)(v:Nat):Nat:=(rv ts (v:Int)).toNat
def tW(ts:jp)(x:Nd):Nd:=⟨x.bq.map (sg ts),x.to.map (sg ts)⟩
variable{u:Int}
theorem jb.af8{ts:jp}{V:Nat}(F:jb ts V)(u0:0<=u)(u1:u<=(V:Int))(v0:0<=v)(v1:v<=(V:Int))(h:rv ts u=rv ts v):u=v:=by
 obtain⟨a,rfl⟩:=By u0;obtain⟨b,rfl⟩:=By v0;have z:rv ts ((0:Nat):Int)=0:=F.zero;have pos:∀k:Nat,1<=k->k<=V->rv ts (k:Int)≠0:=fun k a b=>by have:=F.eJ k a b;omega
 rcases Nat.lt_trichotomy a b with q|q|q
 .exfalso;rcases Or a with q0|q0
  .subst q0;exact pos b auc auc (h.symm.trans z)
  .exact F.inj a b q0 q auc h
 .rw[q]
 .exfalso;rcases Or b with q0|q0
  .subst q0;exact pos a auc auc (h.trans z)
  .exact F.inj b a q0 q auc h.symm
theorem jb.pos{ts:jp}{V:Nat}(F:jb ts V)(u0:1<=u)(u1:u<=(V:Int)):1<=rv ts u/\rv ts u<=(V:Int):=by obtain⟨a,rfl⟩:=By (show 0<=u by omega);exact F.eJ a auc auc
variable{l:Int}
theorem OC{ts:jp}:rl ts l / 2=rv ts (l / 2)/\rl ts l % 2=l % 2:=by unfold rl;omega
theorem jb.lit{ts:jp}{V:Nat}(F:jb ts V)(h0:0<=l)(h1:l / 2<=(V:Int)):0<=rl ts l/\rl ts l / 2<=(V:Int):=by have:=F.le (v:=l / 2) auc h1;rw[OC.1];unfold rl;omega
variable{α:Type}{β:Type}
theorem sE{α' β':Type}{h:α->α'}{g:α->List β}{g':α'->List β'}{k:β->β'}:∀L:List α,(∀x∈L,g' (h x)=(g x).map k)->(L.map h).flatMap g'=(L.flatMap g).map k:=by
 intro L
 induction L with|nil=>intro _;rfl|cons x L ih=>intro H;rw[UV,ww,ww,cH,H x aue,ih (fun y hy=>H y (by simp[hy]))]
theorem alK:∀L:List (α×β),(L.map (fun x=>x.1)).zip (L.map (fun x=>x.2))=L:=by
 intro L
 induction L with|nil=>rfl|cons x L ih=>rw[UV,UV,List.zip_cons_cons,ih]
theorem alX{ts:jp}{V:Nat}(F:jb ts V):∀(l pre:jp),(∀x∈l,1<=x/\x<=(V:Int))->(∀x∈pre,1<=x/\x<=(V:Int))->dup (V:Int) (pre.map (rv ts)) (l.map (rv ts))=dup (V:Int) pre l:=by
 intro l
 induction l with
 |nil=>intro pre _ _;show dup _ _ []=_;unfold dup;rw[aG]|cons v l ih=>
  intro pre h1 h2;obtain⟨v1,v2⟩:=h1 v aue;obtain⟨w1,w2⟩:=F.pos v1 v2;show(if rv ts v<1\/(V:Int)<rv ts v then(5:Int)else if(pre.map (rv ts)).contains (rv ts v)then 6 else dup (V:Int) (pre.map (rv ts)++[rv ts v]) (l.map (rv ts)))=(if v<1\/(V:Int)<v then(5:Int)else if pre.contains v then 6 else dup (V:Int) (pre++[v]) l);rw[Fr (show ¬(rv ts v<1\/(V:Int)<rv ts v) by omega),Fr (show ¬(v<1\/(V:Int)<v) by omega)];have hc:(pre.map (rv ts)).contains (rv ts v)=pre.contains v:=by
   rw[atR,List.contains_iff_mem,List.contains_iff_mem,rt];constructor
   .rintro⟨u,hu,he⟩;have:=h2 u hu;rw[<-F.af8 auc this.2 auc v2 he];exact hu
   .exact fun hu=>⟨v,hu,rfl⟩
  rw[hc];split
  .rfl
  .have:=ih (pre++[v]) (fun x hx=>h1 x (by simp[hx])) (fun x hx=>by
    rw[qr]at hx;rcases hx with hx|hx
    .exact h2 x hx
    .obtain rfl:=GE.1 hx;exact⟨v1,v2⟩)
   rw[cH]at this;exact this
section
variable{n:aB}{V:Nat}(hs:cA n V){ts:jp}(F:jb ts V)(C:∀m∈n.af,mg ts m=true)
include hs F C
theorem aaS(hm:m∈n.af)(hr:r∈m.reads):cM (rv ts r.var) m.word.toNat=(cM r.var m.word.toNat).map (rv ts):=by have h:=C m hm;unfold mg at h;obtain⟨k,hk,rfl⟩:=ash hr;have h:=(acl.1 h) k (act.2 hk);rw[ff,bA hk]at h;have h:pH ts m.word m.reads[k]=true:=h;unfold pH at h;unfold cM;rw[IR];refine WF fun i hi=>?_;exact(asl ((acl.1 h) i hi)).symm
theorem akd:dt (eS ts n)=(dt n).map (yz ts):=by unfold dt;show(n.ag.map (fO ts)).map kS++(n.af.map (fG ts)).flatMap iY=_;rw[cH,IR,IR];congr 1;refine sE n.af fun m hm=>?_;unfold iY fG;rw[IR,IR];refine WF fun r hr=>?_;show lK m.word (ia ts r)=yz ts (lK m.word r);unfold lK ia yz;rw[aaS hs F C (m:=m) hm hr]
theorem NM:bp (eS ts n)=(bp n).map (rv ts):=by unfold bp;show n.ax.map (rv ts)++(n.ah.map (fF ts)).map (·.var)++(n.af.map (fG ts)).flatMap dy++(n.ag.map (fO ts)).map (·.var)=_;rw[cH,cH,cH,IR,IR,IR,IR];congr 2;refine sE n.af fun m hm=>?_;unfold dy;exact sE (h:=ia ts) m.reads fun r hr=>aaS hs F C (m:=m) hm hr
omit C in
theorem ZG:cL (eS ts n)=(cL n).map (rl ts):=by
 unfold cL;show(n.ah.map (fF ts)).map (·.next)++n.bk.map (rl ts)++n.aU.map (rl ts)++n.constraints.map (rl ts)++(n.af.map (fG ts)).flatMap dU++(n.ag.map (fO ts)).flatMap fH=_;rw[cH,cH,cH,cH,cH,IR,IR];congr 1
 .congr 1;refine sE n.af fun m hm=>?_;unfold dU;show(m.reads.map (ia ts)).flatMap (·.addr)++(m.writes.map (iJ ts)).flatMap eF=_;rw[cH];congr 1
  .exact sE (h:=ia ts) m.reads fun r hr=>rfl
  .refine sE (h:=iJ ts) m.writes fun w hw=>?_;unfold eF iJ;rw[UV,cH]
 .exact sE (h:=fO ts) n.ag fun a ha=>rfl
theorem aao(h0:da n=0):da (eS ts n)=0:=by
 have e1:ij (eS ts n)=ij n:=by
  unfold ij;have hp:(eS ts n).af.any gU=n.af.any gU:=by show(n.af.map (fG ts)).any gU=_;rw[atx];congr 1;funext m;show gU (fG ts m)=gU m;unfold gU fG;simp only[aG]
  rw[hp];unfold eS;simp only[aG]
 have e2:(eS ts n).af.any fZ=n.af.any fZ:=by
  show(n.af.map (fG ts)).any fZ=_;rw[atx];congr 1;funext m;show fZ (fG ts m)=fZ m;unfold fZ;show(_||(m.reads.map (ia ts)).any (kF (fG ts m))||(m.writes.map (iJ ts)).any (ke (fG ts m)))=_;rw[atx,atx];have a1:kF (fG ts m)∘ia ts=kF m:=by funext r;show((((r.addr.map (rl ts)).length:Nat):Int) != m.addr)=_;rw[aG];rfl
  have a2:ke (fG ts m)∘iJ ts=ke m:=by funext r;show((((r.addr.map (rl ts)).length:Nat):Int) != m.addr||(((r.data.map (rl ts)).length:Nat):Int) != m.word)=_;rw[aG,aG];rfl
  rw[a1,a2];rfl
 have e3:(eS ts n).ah.any jc=n.ah.any jc:=by show(n.ah.map (fF ts)).any jc=_;rw[atx];rfl
 have e4:dup (eS ts n).vars [] (bp (eS ts n))=dup n.vars [] (bp n):=by rw[NM hs F C];show dup n.vars [] _=_;rw[hs.vars];exact alX F (bp n) [] hs.eJ (fun x hx=>by cases hx)
 have e5:(cL (eS ts n)).any (gi (eS ts n).vars)=false:=by rw[ZG hs F,Bool.eq_false_iff];intro h;obtain⟨l,hl,hb⟩:=asQ.1 h;obtain⟨x,hx,rfl⟩:=rt.1 hl;obtain⟨x0,x1⟩:=hs.lits x hx;have:=F.lit x0 x1;have hb:=asl hb;have hv:(eS ts n).vars=(V:Int):=hs.vars;rw[hv]at hb;omega
 unfold da at h0 |-;rw[e1,e2,e3,e4,e5];by_cases h1:ij n=true
 .rw[IO h1]at h0;exact absurd h0 auf
 rw[Fr h1]at h0 |-;by_cases h2:n.af.any fZ=true
 .rw[IO h2]at h0;exact absurd h0 auf
 rw[Fr h2]at h0 |-;by_cases h3:n.ah.any jc=true
 .rw[IO h3]at h0;exact absurd h0 auf
 rw[Fr h3]at h0 |-;by_cases h4:dup n.vars [] (bp n)≠0
 .rw[IO h4]at h0;exact absurd h0 h4
 rw[Fr h4];rfl
theorem Oo(h0:da n=0):cA (eS ts n) V:=by
 obtain⟨V',h⟩:=uS (aao hs F C h0);have:=h.vars;have h2:(eS ts n).vars=(V:Int):=hs.vars;obtain rfl:V'=V:=by rw[h2]at this;omega
 exact h
theorem Ol:bh (eS ts n)=(bh n).map (tW ts):=by
 unfold bh;rw[akd hs F C,IR,IR];refine WF fun i hi=>?_;show cg.nd (yz ts i)=tW ts i.nd;unfold cg.nd yz tW;simp only[IR];refine Nd.mk.injEq ..▸⟨?_,?_⟩
 .refine WF fun l hl=>?_;obtain⟨l0,l1⟩:=hs.uT hi hl;show(rl ts l / 2).toNat=sg ts (l / 2).toNat;unfold sg;rw[OC.1,show(((l / 2).toNat:Nat):Int)=l / 2 by omega]
 .refine WF fun v hv=>?_;have:=hs.mI hi hv;show(rv ts v).toNat=sg ts v.toNat;unfold sg;rw[show((v.toNat:Nat):Int)=v by omega]
omit hs C in
theorem abH{u v:Nat}(hu:u<=V)(hv:v<=V)(h:sg ts u=sg ts v):u=v:=by have a:=F.le (v:=(u:Int)) auc auc;have b:=F.le (v:=(v:Int)) auc auc;unfold sg at h;have:=F.af8 (u:=(u:Int)) (v:=(v:Int)) auc auc auc auc auc;omega
theorem al8{v k:Nat}(h:dC (bh n) v k):v<=V->dC (bh (eS ts n)) (sg ts v) k:=by
 induction h with
 |free v h=>intro hv;refine dC.free _ fun x hx hm=>?_;rw[Ol hs F C]at hx;obtain⟨y,hy,rfl⟩:=rt.1 hx;obtain⟨u,hu,he⟩:=rt.1 hm;have:=(hs.d8 y hy).2 u hu;obtain rfl:=abH F this hv he;exact h y hy hu
 |node x v f hx hv h ih=>
  intro hvV;have hx':tW ts x∈bh (eS ts n):=by rw[Ol hs F C];exact AT hx
  have hv':sg ts v∈(tW ts x).to:=AT hv;have hf:∃f':Nat->Nat,∀u,u<=V->f' (sg ts u)=f u:=by
   classical
   refine⟨fun w=>if q:∃u,u<=V/\sg ts u=w then f q.choose else 0,fun u hu=>?_⟩;have q:∃u',u'<=V/\sg ts u'=sg ts u:=⟨u,hu,rfl⟩;show(if q:∃u',u'<=V/\sg ts u'=sg ts u then f q.choose else 0)=f u;rw[dif_pos q,abH F q.choose_spec.1 hu q.choose_spec.2]
  obtain⟨f',hf'⟩:=hf;have:=dC.node (N:=bh (eS ts n)) (tW ts x) (sg ts v) f' hx' hv' (fun u hu=>by obtain⟨w,hw,rfl⟩:=rt.1 hu;have hwV:=hs.aS x hx w hw;rw[hf' w hwV];exact ih w hw hwV);have hm:(tW ts x).bq.map f'=x.bq.map f:=by show(x.bq.map (sg ts)).map f'=_;rw[IR];exact WF fun u hu=>hf' u (hs.aS x hx u hu)
  rw[hm]at this;exact this
theorem aaR(h0:da n=0)(ha:dO (bh n) V=true):dO (bh (eS ts n)) V=true:=by
 have hs':=Oo hs F C h0;rw[jW hs'.apart];intro w hw;by_cases q:∃x∈bh (eS ts n),w∈x.to
 .obtain⟨x,hx,hm⟩:=q;rw[Ol hs F C]at hx;obtain⟨y,hy,rfl⟩:=rt.1 hx;obtain⟨u,hu,rfl⟩:=rt.1 hm;have hu':=(hs.d8 y hy).2 u hu;obtain⟨k,hk⟩:=(jW hs.apart V).1 ha u hu';exact⟨k,al8 hs F C hk hu'⟩
 .exact⟨0,dC.free w fun x hx hm=>q ⟨x,hx,hm⟩⟩
end
variable{k:Nat}
set_option maxRecDepth 10000
theorem aat{V:Int}:∀(l pre:jp),(pre++l).Nodup->(∀x∈l,1<=x/\x<=V)->V<=((pre++l).length:Int)->dup V pre l=0
 |[],pre,_,_,h=>by rw[di]at h;rw[dup,Fr auc]|v::l,pre,hn,hr,h=>by
  obtain⟨r1,r2⟩:=hr v (Pi ..);have hc:pre.contains v=false:=by
   cases q:pre.contains v
   .rfl
   .have hv:v∈pre:=by simpa using q
    rw[rx]at hn;exact absurd rfl (hn.2.2 v hv v (Pi ..))
  have e:pre++v::l=(pre++[v])++l:=aue
  rw[dup,Fr auc,Fr (by rw[hc];simp)];exact aat l (pre++[v]) (by rw[<-e];exact hn) (fun x hx=>hr x (Id _ hx)) (by rw[<-e];exact h)
theorem aaV{V:Int}:∀(l pre:jp),dup V pre l=0->V<=((pre++l).length:Int)
 |[],pre,h=>by
  rw[dup]at h;rw[di];by_cases q:(pre.length:Int)<V
  .rw[IO q]at h;omega
  .omega
 |v::l,pre,h=>by
  rw[dup]at h;by_cases q:v<1\/V<v
  .rw[IO q]at h;omega
  rw[Fr q]at h;by_cases q2:pre.contains v=true
  .rw[IO q2]at h;omega
  rw[Fr q2]at h;have:=aaV l (pre++[v]) h;rw[bM]at this;exact this
theorem akC{n:aB}(h:da n=0):dup n.vars [] (bp n)=0:=by
 unfold da at h;by_cases h1:ij n=true
 .rw[IO h1]at h;omega
 rw[Fr h1]at h;by_cases h2:n.af.any fZ=true
 .rw[IO h2]at h;omega
 rw[Fr h2]at h;by_cases h3:n.ah.any jc=true
 .rw[IO h3]at h;omega
 rw[Fr h3]at h;by_cases h4:dup n.vars [] (bp n)≠0
 .rw[IO h4]at h;exact absurd h h4
 .omega
theorem uD{n:aB}{V:Nat}(hs:cA n V)(h:da n=0):V<=(bp n).length/\∀v:Nat,1<=v->v<=V->(v:Int)∈bp n:=by
 have h1:=aaV (bp n) [] (akC h);rw[hs.vars,PP]at h1;have h1:V<=(bp n).length:=auc
 exact⟨h1,(sD V (bp n) hs.nodup hs.eJ).2 h1⟩
theorem uF{p:α->Bool}{l:List α}(h:∀x∈l,p x=false):l.any p=false:=by rw[Bool.eq_false_iff];intro q;obtain⟨x,hx,hp⟩:=asQ.1 q;rw[h x hx]at hp;cases hp
theorem E5{m:aB}{V:Nat}(hs:cA m V)(hl:V<=(bp m).length):da m=0:=by
 have e1:ij m=false:=by unfold ij;rw[uF (p:=gU) (fun x hx=>by unfold gU;obtain⟨_,_,_,_,_,_,h1,h2⟩:=hs.af x hx;exact jC auc)];obtain⟨l1,l2,l3,l4,l5⟩:=hs.lens;have:=hs.vars;have:=hs.v2;rw[jC auc];rfl
 have e2:m.af.any fZ=false:=uF (fun x hx=>by obtain⟨a1,a2,w1,w2,hr,hw,_,_⟩:=hs.af x hx;unfold fZ;rw[jC auc,uF (p:=kF x) (fun r h=>by unfold kF;rw[hr r h];simp),uF (p:=ke x) (fun w h=>by obtain⟨h1,h2⟩:=hw w h;unfold ke;rw[h1,h2];simp)];rfl);have e3:m.ah.any jc=false:=uF (fun x hx=>by have:=hs.init x hx;unfold jc;exact jC auc);have e4:dup m.vars [] (bp m)=0:=by rw[hs.vars];exact aat _ [] (by rw[PP];exact hs.nodup) hs.eJ (by rw[PP];omega)
 have e5:(cL m).any (gi m.vars)=false:=uF (fun x hx=>by have:=hs.lits x hx;have hv:=hs.vars;unfold gi;exact jC auc);unfold da;rw[e1,e2,e3,Fr auf,Fr auf,Fr auf,Fr auc,e5];rfl
def Good(N:List Nd)(v:Nat):Prop:=∃k,dC N v k
variable{N:List Nd}
theorem NY{v:Nat}(h:∀x∈N,v∉x.to):Good N v:=⟨0,.free v h⟩
variable{x:Nd}
theorem aaa{v:Nat}(hx:x∈N)(hv:v∈x.to)(h:∀u∈x.bq,Good N u):Good N v:=by
 classical
 exact⟨_,.node x v (fun u=>if q:Good N u then Classical.choose q else 0) hx hv (fun u hu=>by show dC N u (if q:Good N u then Classical.choose q else 0);rw[dif_pos (h u hu)];exact Classical.choose_spec (h u hu))⟩
section
variable{n:aB}{V:Nat}(hs:cA n V)
include hs
theorem w7(h0:da n=0)(h:∀v,v<=V->Good (bh n) v):Pl.gV n=0:=by unfold Pl.gV;rw[Fr auc,hs.vars,ST,IO ((jW hs.apart V).2 h)]
end
theorem aj5{n:aB}(h:Pl.gV n=0):∃V,cA n V/\da n=0/\dO (bh n) V=true:=by
 unfold Pl.gV at h;by_cases h0:da n≠0
 .rw[IO h0]at h;exact absurd h h0
 rw[Fr h0]at h;have h0:da n=0:=auc
 obtain⟨V,hs⟩:=uS h0;refine⟨V,hs,h0,?_⟩;rw[hs.vars,ST]at h;by_cases q:dO (bh n) V=true
 .exact q
 .rw[Fr q]at h;omega
theorem ot(ts:jp)(v:Int):rv ts v=ts.getD v.toNat 0:=rfl
def fB(t:jp)(k:Int):jp->jp
 |[]=>t|v::L=>fB (t.set v.toNat k) (k+1) L
theorem oe:∀(L t:jp) (k:Int),(fB t k L).length=t.length
 |[],_,_=>rfl|v::L,t,k=>(oe L _ _).trans (aig ..)
theorem N7:∀(L M t:jp) (k:Int),fB t k (L++M)=fB (fB t k L) (k+L.length) M
 |[],M,t,k=>by simp[fB]|v::L,M,t,k=>by
  show fB (t.set v.toNat k) (k+1) (L++M)=_;rw[N7 L M];show _=fB (fB (t.set v.toNat k) (k+1) L) _ M
  grind
theorem ur:∀(L t:jp) (k:Int) (p:Nat),(∀x∈L,x.toNat≠p)->(fB t k L).getD p 0=t.getD p 0
 |[],_,_,_,_=>rfl|v::L,t,k,p,h=>by show(fB (t.set v.toNat k) (k+1) L).getD p 0=_;rw[ur L _ _ _ fun x hx=>h x (Id _ hx),ff,ff,List.getElem?_set_ne (h v Pi)]
theorem E9:∀(L t:jp) (k:Int) (i:Nat) (v:Int),L.Nodup->(∀x∈L,0<=x/\x.toNat<t.length)->L[i]?=some v->(fB t k L).getD v.toNat 0=k+(i:Int)
 |[],_,_,i,_,_,_,h=>by simp at h|u::L,t,k,0,v,hn,hr,h=>by simp only[FS,dm]at h;subst h;rw[att]at hn;show(fB (t.set u.toNat k) (k+1) L).getD u.toNat 0=_;rw[ur L _ _ _ fun x hx e=>by grind,ff,asE (hr u Pi).2];simp|u::L,t,k,i+1,v,hn,hr,h=>by
  have h:L[i]?=some v:=by grind
  rw[att]at hn;show(fB (t.set u.toNat k) (k+1) L).getD v.toNat 0=_;rw[E9 L _ _ i v hn.2 (fun x hx=>by grind) h];omega
variable{L:List α}
theorem alC(f:α->List β){M:List α}(h:L.Sublist M):(L.flatMap f).Sublist (M.flatMap f):=by induction h with|slnil=>exact List.Sublist.refl _|cons a _ ih=>rw[ww];grind|cons_cons a _ ih=>rw[ww,ww];grind
theorem NU(L:List α)(d:α):(List.range L.length).map (fun i=>L.getD i d)=L:=by
 refine atW aue fun i h1 h2=>?_
 grind
def qV{α:Type}(L:List α)(p:Nat->Bool):md:=(List.range L.length).filter p
def pick{α:Type}(L:List α)(d:α)(p:Nat->Bool):List α:=(qV L p).map fun i=>L.getD i d
theorem N5(L:List α)(d:α)(p:Nat->Bool):(pick L d p).Sublist L:=by have:=(asI (p:=p) (l:=List.range L.length)).map (fun i=>L.getD i d);rw[NU]at this;exact this
theorem aaH{d:α}{p:Nat->Bool}{x:α}:x∈pick L d p↔∃i,L[i]?=some x/\p i=true:=by
 unfold pick qV;simp only[rt,asv,act]
 grind
theorem ZS(L:List α)(d:α)(q:α->Bool):pick L d (fun i=>q (L.getD i d))=L.filter q:=by
 have h:L.filter q=((List.range L.length).map fun i=>L.getD i d).filter q:=by rw[NU]
 rw[h,List.filter_map];rfl
def oJ:cC:=⟨0,0,false,[],[]⟩
def kv(s:S2)(v:Int):Bool:=s.1.getD v.toNat false
def cz(n:aB)(s:S2):aB:=⟨n.vars,n.ax.filter (kv s),n.ah.filter (fun l=>kv s l.var),[],n.aU,n.constraints,pick n.af oJ (fun i=>s.2.getD i false),n.ag.filter (fun a=>kv s a.var)⟩
def dF(n:aB)(s:S2):jp:=bp (cz n s)
theorem qM(n:aB)(s:S2):(dF n s).Sublist (bp n):=by unfold dF bp;exact((asI.append (asI.map _)).append (alC _ (N5 ..))).append (asI.map _)
section
variable{n:aB}{V:Nat}(hs:cA n V)
include hs
theorem aaJ{p:Nat}(h:tf n p l):l∈cL n:=by
 unfold cL;simp only[qr,rc,rt];generalize hv:(p:Int)=v at h;cases h with
 |aT h=>exact .inl (.inl (.inl (.inl (.inl ⟨_,h,rfl⟩))))|@node x _ _ hx _ hl=>
  unfold dt at hx;rcases qr.1 hx with hx|hx
  .obtain⟨a,ha,rfl⟩:=rt.1 hx;exact .inr ⟨a,ha,hl⟩
  .obtain⟨m,hm,hx⟩:=rc.1 hx;obtain⟨r,hr,rfl⟩:=rt.1 hx;exact .inl (.inr ⟨m,hm,AI _ (rc.2 ⟨r,hr,hl⟩)⟩)
 |@mem m _ _ hm _ hl=>exact .inl (.inr ⟨m,hm,hl⟩)
theorem alj{p:Nat}(h:im n p):1<=p/\p<=V:=by
 cases h with
 |@base l hl h0=>
  have:l∈cL n:=by
   unfold cL
   grind
  have:=(hs.lits l this).2;omega
 |@step p l _ hp h0=>have:=(hs.lits l (aaJ hs hp)).2;omega
variable{s:S2}(M:jk n V s)
include M
theorem xo:kv s v=true↔im n v.toNat:=M.h1 v.toNat
theorem stays(h0:da n=0){p:Nat}(h:im n p):(p:Int)∈dF n s:=by
 obtain⟨h1,h2⟩:=alj hs h;have hd:=(uD hs h0).2 p h1 h2;unfold dF bp cz;unfold bp at hd;simp only[qr,rt,rc,asv]at hd |-;rcases hd with((hd|⟨l,hl,e⟩)|⟨m,hm,hv⟩)|⟨a,hl,e⟩
 .exact .inl (.inl (.inl ⟨hd,(xo hs M).2 h⟩))
 .exact .inl (.inl (.inr ⟨l,⟨hl,(xo hs M).2 (by grind)⟩,e⟩))
 .obtain⟨i,hi⟩:=LT hm;exact .inl (.inr ⟨m,aaH.2 ⟨i,hi,(M.h2 i m hi).2 ⟨p,h,hv⟩⟩,hv⟩)
 .exact .inr ⟨a,⟨hl,(xo hs M).2 (by grind)⟩,e⟩
theorem NZ(h:l∈cL (cz n s)):l∈cL n/\(0<l / 2->im n (l / 2).toNat):=by
 unfold cL cz at h;simp only[qr,rt,rc,asv,atX,or_false]at h;have pos:∀x∈bp n,((x.toNat:Nat):Int)=x:=fun x hx=>asx (by have:=(hs.eJ x hx).1;omega);have key:∀{v:Int},v∈bp n->im n v.toNat->tf n v l->l∈cL n/\(0<l / 2->im n (l / 2).toNat):=fun{v} hv hp hq=>by have e:=pos v hv;rw[<-e]at hq;exact⟨aaJ hs hq,fun h0=>.step hp hq h0⟩
 rcases h with(((⟨x,⟨hx,hk⟩,rfl⟩|hb)|hc)|⟨m,hm,hl⟩)|⟨a,⟨hx,hk⟩,hl⟩
 .exact key (by unfold bp;grind) ((xo hs M).1 hk) (.aT hx)
 .refine⟨?_,fun h0=>.base (AI _ hb) h0⟩;unfold cL
  grind
 .refine⟨?_,fun h0=>.base (Fd _ hc) h0⟩;unfold cL
  grind
 .obtain⟨i,hi,ho⟩:=aaH.1 hm;have hm:=d5 hi;obtain⟨p,h1,h2⟩:=(M.h2 i m hi).1 ho;exact key (v:=(p:Int)) (by unfold bp;grind) h1 (.mem hm h2 hl)
 .refine key (by unfold bp;grind) ((xo hs M).1 hk) (.node (x:=kS a) ?_ (by simp[kS]) hl);unfold dt
  grind
def pM(n:aB)(s:S2)(V:Nat):jp:=((List.range (V+1)).filter fun v:Nat=>decide (1<=v)&&!(dF n s).contains (v:Int)).map fun v:Nat=>(v:Int)
omit hs M in
theorem xc:v∈pM n s V↔1<=v/\v<=(V:Int)/\v∉dF n s:=by
 unfold pM;simp only[rt,asv,act,asp,IS,Bool.not_eq_true',List.contains_eq_mem,decide_eq_false_iff_not];constructor
 .rintro⟨a,⟨h1,h2,h3⟩,rfl⟩;exact⟨auc,auc,h3⟩
 .rintro⟨h1,h2,h3⟩;exact⟨v.toNat,⟨auc,auc,by rw[asx auc];exact h3⟩,asx auc⟩
def jn(n:aB)(s:S2)(V:Nat):jp:=dF n s++pM n s V
omit M in
theorem sJ:(jn n s V).Nodup/\(∀x∈jn n s V,1<=x/\x<=(V:Int))/\(jn n s V).length=V/\∀v:Nat,1<=v->v<=V->(v:Int)∈jn n s V:=by
 have h1:(jn n s V).Nodup:=by unfold jn;rw[rx];refine⟨hs.nodup.sublist (qM n s),?_,fun a ha b hb e=>(xc.1 hb).2.2 (e▸ha)⟩;unfold pM;rw[atc,atu];exact(List.nodup_range.filter _).imp fun{a b} h e=>h auc
 have h2:∀x∈jn n s V,1<=x/\x<=(V:Int):=fun x hx=>by
  rcases qr.1 hx with h|h
  .exact hs.eJ x ((qM n s).subset h)
  .exact⟨(xc.1 h).1,(xc.1 h).2.1⟩
 have h3:∀v:Nat,1<=v->v<=V->(v:Int)∈jn n s V:=fun v a b=>by
  by_cases q:(v:Int)∈dF n s
  .exact AI _ q
  .exact Fd _ (xc.2 ⟨auc,auc,q⟩)
 refine⟨h1,h2,Nat.le_antisymm (sD V _ h1 h2).1 ?_,h3⟩;have:=TZ V ((jn n s V).map Int.toNat) fun j a b=>rt.2 ⟨(j:Int),h3 j a b,auc⟩;rw[aG]at this;exact this
def lI(n:aB)(s:S2)(V:Nat):aB:={ cz n s with ax:=(cz n s).ax++pM n s V }
omit hs M in
theorem aay:bp (lI n s V)=(cz n s).ax++pM n s V++((cz n s).ah.map (·.var)++(cz n s).af.flatMap dy++(cz n s).ag.map (·.var)):=by unfold bp lI;simp only[bM]
omit hs M in
theorem ER:(bp (lI n s V)).Perm (jn n s V):=by
 rw[aay];unfold jn dF;have e:bp (cz n s)=(cz n s).ax++((cz n s).ah.map (·.var)++(cz n s).af.flatMap dy++(cz n s).ag.map (·.var)):=by unfold bp;simp only[bM]
 rw[e];generalize (cz n s).ah.map (·.var)++(cz n s).af.flatMap dy++(cz n s).ag.map (·.var)=R;rw[bM,bM];exact asU _ List.perm_append_comm
omit M in
theorem aa1(h:m∈(cz n s).af):m∈n.af:=(N5 ..).subset h
theorem uB:cA (cz n s) V:=by
 have hl:∀l∈(cz n s).ah,l∈n.ah:=fun l h=>(asv.1 h).1;obtain⟨a1,a2,a3,a4,a5⟩:=hs.lens;refine⟨hs.vars,hs.v2,hs.nodup.sublist (qM n s),fun x hx=>hs.eJ x ((qM n s).subset hx),fun l h=>hs.lits l (NZ hs M h).1,fun m hm=>hs.af m (aa1 hs hm),fun l h=>hs.init l (hl l h),?_,?_,?_,?_,?_⟩
 .have:(cz n s).ax.length<=n.ax.length:=List.filter_sublist.length_le;omega
 .have:(cz n s).ah.length<=n.ah.length:=List.filter_sublist.length_le;omega
 .have:(cz n s).ag.length<=n.ag.length:=List.filter_sublist.length_le;omega
 .show 0+n.aU.length+n.constraints.length<=1000;omega
 .have:(cz n s).af.length<=n.af.length:=(N5 ..).length_le;omega
theorem ux:cA (lI n s V) V:=by
 have P:=uB hs M;have E:=sJ hs (s:=s);obtain⟨a1,a2,a3,a4,a5⟩:=P.lens;refine⟨hs.vars,hs.v2,ER.symm.nodup E.1,fun x hx=>E.2.1 x (ER.subset hx),fun l h=>P.lits l h,P.af,P.init,?_,a2,a3,a4,a5⟩;have h1:(lI n s V).ax.length<=(bp (lI n s V)).length:=by
  rw[aay];show((cz n s).ax++pM n s V).length<=_
  grind
 rw[ER.length_eq,E.2.2.1]at h1;have:=hs.v2;omega
theorem NS:da (lI n s V)=0:=E5 (ux hs M) (by rw[ER.length_eq,(sJ hs).2.2.1];exact ro _)
omit M in
theorem ZW(h:x∈bh (lI n s V)):x∈bh n:=by
 obtain⟨y,hy,rfl⟩:=xV h;refine AT ?_;unfold dt at hy |-;rcases qr.1 hy with hy|hy
 .obtain⟨a,ha,rfl⟩:=rt.1 hy;exact AI _ (AT (asv.1 ha).1)
 .obtain⟨m,hm,hx⟩:=rc.1 hy;exact Fd _ (rc.2 ⟨m,aa1 hs hm,hx⟩)
omit M in
theorem akk{v:Nat}(h:dC (bh n) v k):Good (bh (lI n s V)) v:=by
 induction h with
 |free v h=>exact NY fun x hx=>h x (ZW hs hx)|node x v f hx hv _ ih=>
  by_cases q:∃y∈bh (lI n s V),v∈y.to
  .obtain⟨y,hy,hv2⟩:=q;obtain rfl:=hs.apart.same (ZW hs hy) hx hv2 hv;exact aaa hy hv ih
  .exact NY fun y hy hv2=>q ⟨y,hy,hv2⟩
theorem aax(ha:dO (bh n) V=true):dO (bh (lI n s V)) V=true:=by rw[jW (ux hs M).apart];intro v hv;obtain⟨k,hk⟩:=(jW hs.apart V).1 ha v hv;exact akk hs hk
theorem aj7(ha:dO (bh n) V=true):Pl.gV (lI n s V)=0:=by refine w7 (ux hs M) (NS hs M) fun v hv=>?_;exact(jW (ux hs M).apart V).1 (aax hs M ha) v hv
def gd(n:aB)(s:S2)(V:Nat):jp:=fB (List.replicate (V+1) 0) 1 (jn n s V)
omit M in
theorem uI{i:Nat}(h:(jn n s V)[i]?=some v):rv (gd n s V) v=1+(i:Int):=by have E:=sJ hs (s:=s);rw[ot];exact E9 _ _ _ i v E.1 (fun x hx=>by have:=E.2.1 x hx;rw[fx];omega) h
omit M in
theorem aaP:rv (gd n s V) 0=0:=by have E:=sJ hs (s:=s);rw[ot];unfold gd;rw[ur _ _ _ _ fun x hx=>by have:=E.2.1 x hx;omega];rfl
omit M in
theorem sI:jb (gd n s V) V:=by
 have E:=sJ hs (s:=s);have at_:∀v:Nat,1<=v->v<=V->∃i,(jn n s V)[i]?=some (v:Int)/\i<V:=fun v a b=>by obtain⟨i,hi⟩:=LT (E.2.2.2 v a b);have:=(rg.1 hi).1;rw[E.2.2.1]at this;exact⟨i,hi,this⟩
 refine⟨?_,aaP hs,fun v a b=>?_,fun u v a b c e=>?_⟩
 .unfold gd;rw[oe,fx]
 .obtain⟨i,hi,h⟩:=at_ v a b;rw[uI hs hi];omega
 .obtain⟨i,hi,h⟩:=at_ u a auc;obtain⟨j,hj,k⟩:=at_ v auc c;rw[uI hs hi,uI hs hj]at e;have:i=j:=auc
  subst this;rw[hi]at hj;have:=BY hj;omega
omit hs M in
theorem infix_cons{ts L A B:jp}(E:∀(i:Nat) (v:Int),L[i]?=some v->rv ts v=1+(i:Int)){w:Nat}(h:L=A++(cM v w++B)){i:Nat}(hi:i<w):rv ts (v+(i:Int))=rv ts v+(i:Int):=by have key:∀j,j<w->rv ts (v+(j:Int))=1+((A.length+j:Nat):Int):=fun j hj=>E _ _ (by rw[h,In auc,aty,Ne (by simp[cM];exact hj)];unfold cM;rw[cW,atd hj];rfl);have h1:=key i hi;have h2:=key 0 auc;rw[show v+((0:Nat):Int)=v by omega]at h2;rw[h1,h2];omega
omit hs M in
theorem ZV{m:aB}{M:cC}(hM:M∈m.af)(hr:r∈M.reads):∃A B,bp m=A++(cM r.var M.word.toNat++B):=by
 obtain⟨a,b,e⟩:=atD hM;obtain⟨c,d,f⟩:=atD hr;refine⟨m.ax++m.ah.map (·.var)++(a.flatMap dy++c.flatMap fun r=>cM r.var M.word.toNat),(d.flatMap fun r=>cM r.var M.word.toNat)++(b.flatMap dy++m.ag.map (·.var)),?_⟩;unfold bp;rw[e,BT,ww];have:dy M=c.flatMap (fun r=>cM r.var M.word.toNat)++(cM r.var M.word.toNat++d.flatMap fun r=>cM r.var M.word.toNat):=by unfold dy;rw[f,BT,ww]
 rw[this];simp only[bM]
omit M in
theorem E6:∀m∈(cz n s).af,mg (gd n s V) m=true:=by intro m hm;unfold mg;rw[acl];intro k hk;rw[act]at hk;unfold pH;rw[acl];intro i hi;rw[act]at hi;rw[ff,bA hk,Option.getD_some];obtain⟨A,B,e⟩:=ZV (m:=cz n s) hm (ut hk);exact fm (infix_cons (L:=jn n s V) (A:=A) (B:=B++pM n s V) (fun i v h=>uI hs h) (by unfold jn dF;rw[e];simp only[bM]) hi)
def lH(n:aB)(s:S2)(V:Nat):aB:={ eS (gd n s V) (cz n s)with vars:=((dF n s).length:Int) }
theorem aam:bp (lH n s V)=(List.range (dF n s).length).map fun i:Nat=>((i:Int)+1):=by
 have h:=NM (uB hs M) (sI hs) (E6 hs);have h2:bp (lH n s V)=(dF n s).map (rv (gd n s V)):=h;rw[h2];refine atW aue fun i h1 h3=>?_;rw[aG]at h1;rw[atA,atA,List.getElem_range,uI hs (i:=i)]
 .omega
 .unfold jn
  grind
theorem Fe:(dF n s).length<=V:=by
 have:=(sJ hs (s:=s)).2.2.1;unfold jn at this
 grind
theorem akB(h0:da n=0)(h:l∈cL (cz n s)):0<=rl (gd n s V) l/\rl (gd n s V) l / 2<=((dF n s).length:Int):=by
 obtain⟨h1,h2⟩:=NZ hs M h;have hr:=hs.lits l h1;refine⟨((sI hs).lit hr.1 hr.2).1,?_⟩;rw[OC.1];by_cases q:0<l / 2
 .have:=stays hs M h0 (h2 q);rw[asx auc]at this;obtain⟨i,hi⟩:=LT this;have hl:=(rg.1 hi).1;rw[uI hs (i:=i) (by unfold jn;grind)];omega
 .rw[show l / 2=0 by omega,aaP hs];omega
theorem uw(h0:da n=0):cA (lH n s V) (dF n s).length:=by
 have P:=uB hs M;obtain⟨a1,a2,a3,a4,a5⟩:=P.lens;have hd:=aam hs M;refine⟨rfl,EQ (Fe hs M) hs.v2,?_,?_,?_,?_,?_,?_⟩
 .rw[hd,atc,atu];exact List.nodup_range.imp fun{a b} h e=>h auc
 .intro x hx
  grind
 .intro l hl;have e:cL (lH n s V)=(cL (cz n s)).map (rl (gd n s V)):=ZG P (sI hs);rw[e]at hl;obtain⟨x,hx,rfl⟩:=rt.1 hl;exact akB hs M h0 hx
 .intro m hm;obtain⟨x,hx,rfl⟩:=rt.1 (show m∈(cz n s).af.map (fG (gd n s V))from hm);obtain⟨b1,b2,b3,b4,b5,b6,b7,b8⟩:=P.af x hx;refine⟨b1,b2,b3,b4,fun r hr=>?_,fun w hw=>?_,?_,?_⟩
  .obtain⟨y,hy,rfl⟩:=rt.1 (show r∈x.reads.map (ia (gd n s V))from hr);show((y.addr.map _).length:Int)=_;rw[aG];exact b5 y hy
  .obtain⟨y,hy,rfl⟩:=rt.1 (show w∈x.writes.map (iJ (gd n s V))from hw);show((y.addr.map _).length:Int)=_/\((y.data.map _).length:Int)=_;rw[aG,aG];exact b6 y hy
  .show(x.reads.map (ia (gd n s V))).length<=_
   grind
  .show(x.writes.map (iJ (gd n s V))).length<=_;rw[aG];exact b8
 .intro l hl;obtain⟨x,hx,rfl⟩:=rt.1 (show l∈(cz n s).ah.map (fF (gd n s V))from hl);exact P.init x hx
 .refine⟨?_,?_,?_,?_,?_⟩
  .show((cz n s).ax.map (rv (gd n s V))).length<=_;rw[aG];exact a1
  .show((cz n s).ah.map (fF (gd n s V))).length<=_;rw[aG];exact a2
  .show((cz n s).ag.map (fO (gd n s V))).length<=_;rw[aG];exact a3
  .show(([]:jp).map (rl (gd n s V))).length+((cz n s).aU.map (rl (gd n s V))).length+((cz n s).constraints.map (rl (gd n s V))).length<=1000
   grind
  .show((cz n s).af.map (fG (gd n s V))).length<=_;rw[aG];exact a5
theorem wO(h0:da n=0):da (lH n s V)=0:=E5 (uw hs M h0) (by rw[aam hs M];simp)
theorem ajZ(h0:da n=0)(ha:dO (bh n) V=true):Pl.gV (lH n s V)=0:=by refine w7 (uw hs M h0) (wO hs M h0) fun v hv=>?_;have hf:=ux hs M;have h1:=aaR hf (sI hs) (E6 hs) (NS hs M) (aax hs M ha);have h2:=Oo hf (sI hs) (E6 hs) (NS hs M);exact(jW h2.apart V).1 h1 v (EQ hv (Fe hs M))
def zu(n:aB)(s:S2)(V:Nat):jp:=fB (List.replicate (V+1) 0) 1 (dF n s)
omit M in
theorem abJ(h:v=0\/v∈dF n s):rv (zu n s V) v=rv (gd n s V) v:=by
 rw[ot,ot];unfold zu gd jn;rw[N7];refine(ur _ _ _ _ fun x hx e=>?_).symm;obtain⟨h1,h2,h3⟩:=xc.1 hx;rcases h with rfl|h
 .omega
 .have:=hs.eJ v ((qM n s).subset h);exact h3 (by rw[show x=v by omega];exact h)
end
theorem akq{a b:jp}{m:aB}(hw:∀x∈m.af,1<=x.word)(h1:∀v∈bp m,rv a v=rv b v)(h2:∀l∈cL m,rl a l=rl b l):eS a m=eS b m:=by
 unfold bp at h1;unfold cL at h2;simp only[qr,rt,rc]at h1 h2;unfold eS;congr 1
 .exact WF fun v hv=>h1 v (.inl (.inl (.inl hv)))
 .refine WF fun l hl=>?_;unfold fF;rw[h1 l.var (.inl (.inl (.inr ⟨l,hl,rfl⟩))),h2 l.next (.inl (.inl (.inl (.inl (.inl ⟨l,hl,rfl⟩)))))]
 .exact WF fun l hl=>h2 l (.inl (.inl (.inl (.inl (.inr hl)))))
 .exact WF fun l hl=>h2 l (.inl (.inl (.inl (.inr hl))))
 .exact WF fun l hl=>h2 l (.inl (.inl (.inr hl)))
 .refine WF fun x hx=>?_;have hl:∀l∈dU x,rl a l=rl b l:=fun l hl=>h2 l (.inl (.inr ⟨x,hx,hl⟩));unfold dU at hl;simp only[qr,rc]at hl;unfold fG;congr 1
  .refine WF fun r hr=>?_;unfold ia;rw[h1 r.var (.inl (.inr ⟨x,hx,rc.2 ⟨r,hr,rt.2 ⟨0,act.2 (by grind),aue⟩⟩⟩))];congr 1;exact WF fun l h=>hl l (.inl ⟨r,hr,h⟩)
  .refine WF fun w hw2=>?_;unfold iJ;have hl2:∀l∈eF w,rl a l=rl b l:=fun l h=>hl l (.inr ⟨w,hw2,h⟩);unfold eF at hl2
   simp_all
 .refine WF fun x hx=>?_;have hl:∀l∈fH x,rl a l=rl b l:=fun l hl=>h2 l (.inr ⟨x,hx,hl⟩);unfold fO;rw[h1 x.var (.inr ⟨x,hx,rfl⟩),hl x.a (by simp[fH]),hl x.b (by simp[fH])]
theorem akD{n:aB}{V:Nat}(hs:cA n V){s:S2}(M:jk n V s)(h0:da n=0):{ eS (zu n s V) (cz n s)with vars:=((dF n s).length:Int) }=lH n s V:=by
 have P:=uB hs M;have:eS (zu n s V) (cz n s)=eS (gd n s V) (cz n s):=akq (fun x hx=>(P.af x hx).2.2.1) (fun v hv=>abJ hs (.inr hv)) fun l hl=>by
  obtain⟨h1,h2⟩:=NZ hs M hl;unfold rl;rw[abJ hs];by_cases q:0<l / 2
  .have:=stays hs M h0 (h2 q)
   grind
  .have:=(hs.lits l h1).1;exact .inl auc
 unfold lH;rw[this]
theorem ZK{α:Type}(f:α->Int)(L:List α):∀K:Nat,((List.range K).flatMap fun i:Nat=>L.filter fun x=>decide (f x=(i:Int)+1)).Perm (L.filter fun x=>decide (1<=f x/\f x<=(K:Int)))
 |0=>by
  have:(L.filter fun x=>decide (1<=f x/\f x<=((0:Nat):Int)))=[]:=atB.2 fun x _=>by simp;omega
  rw[this];exact List.Perm.refl _
 |K+1=>by
  rw[asA,BT,ww,NE,di];refine((ZK f L K).append_right _).trans ?_;have h:=List.filter_append_perm (fun x=>decide (f x<=(K:Int))) (L.filter fun x=>decide (1<=f x/\f x<=((K+1:Nat):Int)));rw[List.filter_filter,List.filter_filter]at h;have e1:(fun x=>decide (f x<=(K:Int))&&decide (1<=f x/\f x<=((K+1:Nat):Int)))=fun x=>decide (1<=f x/\f x<=(K:Int)):=by funext x;rw[<-Bool.decide_and];exact decide_eq_decide.2 auc
  have e2:(fun x=>(!decide (f x<=(K:Int)))&&decide (1<=f x/\f x<=((K+1:Nat):Int)))=fun x=>decide (f x=(K:Int)+1):=by
   funext x
   grind
  rw[e1,e2]at h;exact h
theorem Zu{α:Type}(f:α->Int)(L:List α):∀K:Nat,((List.range K).flatMap fun i:Nat=>L.filter fun x=>decide (f x=(i:Int)+1)).Pairwise fun x y=>f x<=f y
 |0=>List.Pairwise.nil|K+1=>by
  rw[asA,BT,ww,NE,di,List.pairwise_append];refine⟨Zu f L K,?_,fun x hx y hy=>?_⟩
  .refine List.pairwise_iff_forall_sublist.2 fun{a b} h=>?_
   grind
  grind
def rn:dM:=⟨0,0,0⟩
def eZ(n:aB)(V:Nat):List dM:=((kH n V).filter fun x=>!x.1.rd).map fun x=>n.ag.getD x.1.pos rn
def fY(n:aB)(V:Nat):aB:={ n with ag:=eZ n V }
theorem aaB:∀(l:List cC) (k:Nat) (x:cU),x∈iC k l->x.rd=true
 |[],_,_,h=>by simp[iC]at h|m::l,k,x,h=>by
  rw[iC]at h;rcases qr.1 h with h|h
  .unfold Pl.iI at h
   grind
  .exact aaB l _ x h
theorem aj1(n:aB):((n6 n).filter fun x=>!x.1.rd).map (fun x=>n.ag.getD x.1.pos rn)=n.ag:=by
 have e:((n6 n).filter fun x=>!x.1.rd).map (fun x=>n.ag.getD x.1.pos rn)=(((n6 n).map fun x=>x.1).filter fun x=>!x.rd).map fun x=>n.ag.getD x.pos rn:=by rw[List.filter_map,IR];rfl
 rw[e,Fh];unfold d7;rw[are];have e2:(iC 0 n.af).filter (fun x=>!x.rd)=[]:=atB.2 fun x hx=>by rw[aaB _ _ x hx];simp
 have e3:((List.range n.ag.length).map fun i=>(⟨false,0,i⟩:cU)).filter (fun x=>!x.rd)=(List.range n.ag.length).map fun i=>⟨false,0,i⟩:=List.filter_eq_self.2 fun x hx=>by grind
 rw[e2,e3,di,IR];exact NU n.ag rn
theorem akp{V:Nat}{L:jp}(h1:L.Nodup)(h2:∀x∈L,1<=x/\x<=(V:Int))(h3:V<=L.length):jb (fB (List.replicate (V+1) 0) 1 L) V/\∀(i:Nat) (v:Int),L[i]?=some v->rv (fB (List.replicate (V+1) 0) 1 L) v=1+(i:Int):=by
 have hc:=sD V L h1 h2;have hL:L.length=V:=Nat.le_antisymm hc.1 h3;have hat:∀(i:Nat) (v:Int),L[i]?=some v->rv (fB (List.replicate (V+1) 0) 1 L) v=1+(i:Int):=fun i v h=>by rw[ot];exact E9 _ _ _ i v h1 (fun x hx=>by have:=h2 x hx;rw[fx];omega) h
 have at_:∀v:Nat,1<=v->v<=V->∃i,L[i]?=some (v:Int)/\i<V:=fun v a b=>by
  obtain⟨i,hi⟩:=LT (hc.2 h3 v a b)
  grind
 refine⟨⟨?_,?_,fun v a b=>?_,fun u v a b c e=>?_⟩,hat⟩
 .rw[oe,fx]
 .rw[ot,ur _ _ _ _ fun x hx=>by have:=h2 x hx;omega];rfl
 .obtain⟨i,hi,h⟩:=at_ v a b;rw[hat _ _ hi];omega
 grind
theorem al7{N':List Nd}(h:∀x,x∈N↔x∈N'){v:Nat}(l:dC N v k):dC N' v k:=by induction l with|free v hf=>exact .free v fun x hx=>hf x ((h x).2 hx)|node x v f hx hv _ ih=>exact .node x v f ((h x).1 hx) hv ih
section
variable{n:aB}{V:Nat}(hs:cA n V)(ha:dO (bh n) V=true)
include hs ha
theorem aaF:(kH n V).Perm (n6 n):=by have h:=ZK (fun x:cU×cg=>lk (lvl n V) x.2) (n6 n) (n6 n).length;have e:((n6 n).filter fun x=>decide (1<=lk (lvl n V) x.2/\lk (lvl n V) x.2<=((n6 n).length:Int)))=n6 n:=List.filter_eq_self.2 fun x hx=>fm (abx hs ha hx);rw[e]at h;exact h
theorem wY:(eZ n V).Perm n.ag:=by have h:=((aaF hs ha).filter fun x=>!x.1.rd).map fun x=>n.ag.getD x.1.pos rn;rw[aj1]at h;exact h
theorem Oc:(bp (fY n V)).Perm (bp n):=by unfold bp fY;exact asU _ ((wY hs ha).map _)
theorem og:cA (fY n V) V:=by
 have hp:=wY hs ha;refine⟨hs.vars,hs.v2,(Oc hs ha).symm.nodup hs.nodup,fun x hx=>hs.eJ x ((Oc hs ha).subset hx),fun l hl=>hs.lits l ?_,hs.af,hs.init,?_⟩
 .unfold cL fY at hl;unfold cL;simp only[qr,rc]at hl |-
  grind
 .obtain⟨a1,a2,a3,a4,a5⟩:=hs.lens;exact⟨a1,a2,by show(eZ n V).length<=2000;rw[hp.length_eq];exact a3,a4,a5⟩
theorem wU(h0:da n=0):da (fY n V)=0:=E5 (og hs ha) (by rw[(Oc hs ha).length_eq];exact(uD hs h0).1)
theorem akh(x:Nd):x∈bh n↔x∈bh (fY n V):=by
 have hp:=wY hs ha;have e:(dt (fY n V)).Perm (dt n):=by unfold dt fY;exact(hp.map _).append_right _
 exact((e.map cg.nd).mem_iff).symm
theorem aaN:dO (bh (fY n V)) V=true:=by rw[jW (og hs ha).apart];intro v hv;obtain⟨k,hk⟩:=(jW hs.apart V).1 ha v hv;exact⟨k,al7 (akh hs ha) hk⟩
theorem Z6(h0:da n=0):Pl.gV (fY n V)=0:=by refine w7 (og hs ha) (wU hs ha h0) fun v hv=>?_;exact(jW (og hs ha).apart V).1 (aaN hs ha) v hv
def jI(n:aB)(V:Nat):jp:=fB (List.replicate (V+1) 0) 1 (bp (fY n V))
theorem uA(h0:da n=0):jb (jI n V) V/\∀(i:Nat) (v:Int),(bp (fY n V))[i]?=some v->rv (jI n V) v=1+(i:Int):=by have S:=og hs ha;exact akp S.nodup S.eJ (uD S (wU hs ha h0)).1
theorem E1(h0:da n=0):∀m∈(fY n V).af,mg (jI n V) m=true:=by intro m hm;unfold mg;rw[acl];intro k hk;rw[act]at hk;unfold pH;rw[acl];intro i hi;rw[act]at hi;rw[ff,bA hk,Option.getD_some];obtain⟨A,B,e⟩:=ZV (m:=fY n V) hm (ut hk);exact fm (infix_cons (uA hs ha h0).2 e hi)
def fw(a:dM):dM:=⟨a.var,max a.a a.b,min a.a a.b⟩
def j4(n:aB)(V:Nat):aB:=eS (jI n V) (fY n V)
def oK(n:aB)(V:Nat):aB:={ j4 n V with ag:=(j4 n V).ag.map fw }
theorem amp(h0:da n=0):bp (oK n V)=(List.range V).map fun i:Nat=>(i:Int)+1:=by
 have S:=og hs ha;have F:=uA hs ha h0;have h:=NM S F.1 (E1 hs ha h0);have h2:bp (oK n V)=(bp (fY n V)).map (rv (jI n V)):=by rw[<-h];unfold bp oK j4;simp only[IR];rfl
 have hl:(bp (fY n V)).length=V:=Nat.le_antisymm (sD V _ S.nodup S.eJ).1 (uD S (wU hs ha h0)).1;rw[h2];refine atW (by simp[hl]) fun i h1 h3=>?_
 grind
def vg(n:aB)(V:Nat)(a:dM):Int:=aT (lvl n V) a.var.toNat
theorem aj0:(eZ n V).Pairwise fun a b=>vg n V a<=vg n V b:=by
 unfold eZ;rw[atu];have h:=(Zu (fun x:cU×cg=>lk (lvl n V) x.2) (n6 n) (n6 n).length).sublist (asI (p:=fun x=>!x.1.rd));refine List.Pairwise.imp_of_mem ?_ h;intro a b ha2 hb2 hab;have key:∀x∈(kH n V).filter (fun x=>!x.1.rd),vg n V (n.ag.getD x.1.pos rn)=lk (lvl n V) x.2:=by
  intro x hx;obtain⟨h1,h2⟩:=asv.1 hx;have:=uO n ((aaF hs ha).subset h1);rcases this with⟨_,a,h3,h4⟩|⟨h3,_⟩
  .rw[ff,h3,h4];rfl
  .rw[h3]at h2;cases h2
 rw[key a ha2,key b hb2];exact hab
theorem aaE(h0:da n=0){a:dM}(hA:a∈n.ag)(hl:l=a.a\/l=a.b):rv (jI n V) (l / 2)<rv (jI n V) a.var:=by
 have S:=og hs ha;have F:=uA hs ha h0;have hp:=wY hs ha;have aS:l∈cL n:=by unfold cL;simp only[qr,rc];exact .inr ⟨a,hA,by rcases hl with rfl|rfl<;>simp[fH]⟩
 have hr:=hs.lits l aS;obtain⟨i,hi⟩:=LT (hp.symm.subset hA);have hdv:bp (fY n V)=(n.ax++n.ah.map (·.var)++n.af.flatMap dy)++(eZ n V).map (·.var):=rfl;generalize hG:n.ax++n.ah.map (·.var)++n.af.flatMap dy=G at hdv;have hav:rv (jI n V) a.var=1+((G.length+i:Nat):Int):=F.2 _ _ (by rw[hdv,In auc,aty,cW,hi];rfl);by_cases q:l / 2=0
 .rw[q,F.1.zero,hav];omega
 .obtain⟨j,hj⟩:=LT ((uD S (wU hs ha h0)).2 (l / 2).toNat auc auc);rw[asx auc]at hj;rw[F.2 _ _ hj,hav];by_cases q2:j<G.length
  .omega
  .rw[hdv,In auc,cW]at hj;obtain⟨b,hb,e⟩:=asy.1 hj;have hbm:=hp.subset (d5 hb);have hav2:=hs.eJ a.var (by unfold bp;simp only[qr,rt];exact .inr ⟨a,hA,rfl⟩);obtain⟨k,hk⟩:=(jW hs.apart V).1 ha a.var.toNat auc;have hnd:(kS a).nd∈bh n:=AT (by unfold dt;exact AI _ (AT hA));obtain⟨k',hk',hlev⟩:=hk.bq hs.apart hnd (by simp[cg.nd,kS]) (u:=(l / 2).toNat) (by simp only[cg.nd,kS,UV,asr];rcases hl with rfl|rfl<;>simp);have e1:vg n V a=(k:Int):=Ff hs auc hk;have e2:vg n V b=(k':Int):=by unfold vg;rw[e];exact Ff hs auc hlev
   have hsrt:=asN.1 (aj0 hs ha);obtain⟨hi1,hi2⟩:=rg.1 hi;obtain⟨hb1,hb2⟩:=rg.1 hb;by_cases q3:i<j-G.length
   .have:=hsrt i (j-G.length) hi1 hb1 q3;rw[hi2,hb2,e1,e2]at this;omega
   .by_cases q4:i=j-G.length
    .subst q4;rw[hi]at hb;cases hb;rw[e1]at e2;omega
    .omega
theorem akn(h0:da n=0):∀a∈(oK n V).ag,a.a<2*a.var/\a.b<=a.a:=by intro a h;obtain⟨b,hb,rfl⟩:=rt.1 (show a∈(j4 n V).ag.map fw from h);obtain⟨c,hc,rfl⟩:=rt.1 (show b∈(eZ n V).map (fO (jI n V))from hb);have hc:=(wY hs ha).subset hc;have h1:=aaE hs ha h0 hc (.inl rfl);have h2:=aaE hs ha h0 hc (.inr rfl);show max (rl (jI n V) c.a) (rl (jI n V) c.b)<2*rv (jI n V) c.var/\min (rl (jI n V) c.a) (rl (jI n V) c.b)<=max (rl (jI n V) c.a) (rl (jI n V) c.b);unfold rl;omega
end
end Go.Proofs.YtmkbdfidnfmgmaaGreat.V
end
section
namespace Go.Proofs.YtmkbdfidnfmgmaaGreat.Pl
inductive kp(n:aB)(ls:jp):Nat->Prop
 |base {l:Int}:l∈ls->0<l / 2->kp n ls (l / 2).toNat
 |step {p:Nat}{x:cg}{l:Int}:kp n ls p->x∈dt n->(p:Int)∈x.to->l∈x.bq->0<l / 2->kp n ls (l / 2).toNat
def pS(n:aB)(S:Nat->Prop):Prop:=∀(p:Nat) (x:cg) (l:Int),S p->x∈dt n->(p:Int)∈x.to->l∈x.bq->0<l / 2->S (l / 2).toNat
theorem amR(n:aB)(ls:jp):pS n (kp n ls):=fun _ _ _ h a b c d=>.step h a b c d
variable{p:Nat}{n:aB}{ls:jp}
theorem sB{S:Nat->Prop}(h:pS n S)(hb:∀l∈ls,0<l / 2->S (l / 2).toNat)(k:kp n ls p):S p:=by induction k with|base a b=>exact hb _ a b|step _ a b c d ih=>exact h _ _ _ ih a b c d
theorem abb{ls':jp}(h:∀l∈ls,l∈ls')(k:kp n ls p):kp n ls' p:=sB (amR n ls') (fun l a b=>.base (h l a) b) k
open Classical in
noncomputable def mw(n:aB)(V:Nat)(ls:jp):jp:=((List.range (V+1)).filter fun v:Nat=>decide (kp n ls v)).map fun v:Nat=>(v:Int)
def dp(m:kw)(L:jp):kw:=L.foldl (fun m v=>m.set v.toNat true) m
theorem wN:∀(L:jp) (m:kw),(dp m L).length=m.length
 |[],_=>rfl|v::L,m=>(wN L _).trans (aig ..)
theorem xm:∀{L:jp}{m:kw}{p:Nat},On (dp m L) p↔On m p\/∃v∈L,v.toNat=p/\p<m.length
 |[],m,p=>by show On m p↔_;simp|v::L,m,p=>by show On (dp (m.set v.toNat true) L) p↔_;rw[xm,jS,aig];simp[or_assoc]
variable{m:kw}
theorem EV{i:Nat}(h:i<m.length)(ho:¬On m i):(m.set i true).count false+1=m.count false:=by
 unfold On at ho
 grind
structure pC(n:aB)(V:Nat)(ls:jp)(m:kw)(left:jp)(m':kw)(left':jp):Prop where
 len:m'.length=m.length
 on:∀p,On m' p↔On m p\/kp n ls p
 new:∃N,left'=left++N/\(∀v∈N,1<=v/\v<=(V:Int)/\On m' v.toNat)/\(∀p,On m' p->On m p\/(p:Int)∈N)/\m'.count false+N.length=m.count false
def iW(m:kw)(ls:jp):jp:=ls.filter fun x=>decide (0<x / 2)&&!m.getD (x / 2).toNat false
noncomputable def nS(n:aB)(V:Nat)(m:kw)(ls:jp):jp:=(mw n V (iW m ls)).filter fun v=>!m.getD v.toNat false
theorem Z4:∀{L:jp}{m:kw},(L.map Int.toNat).Nodup->(∀v∈L,v.toNat<m.length/\¬On m v.toNat)->(dp m L).count false+L.length=m.count false
 |[],_,_,_=>by simp[dp]|v::L,m,hn,h=>by
  rw[UV,att]at hn;obtain⟨h1,h2⟩:=h v Pi;have ih:=Z4 (L:=L) (m:=m.set v.toNat true) hn.2 fun u hu=>by
   obtain⟨h3,h4⟩:=h u (Id _ hu);refine⟨by grind,fun q=>?_⟩;rcases jS.1 q with q|⟨q,_⟩
   .exact h4 q
   grind
  have:=EV h1 h2;show(dp (m.set v.toNat true) L).count false+(L.length+1)=_;omega
variable{V:Nat}
theorem Od{v:Int}:v∈mw n V ls↔0<=v/\v<=(V:Int)/\kp n ls v.toNat:=by
 unfold mw
 grind
theorem Z7(n:aB)(V:Nat)(ls:jp):((mw n V ls).map Int.toNat).Nodup:=by
 unfold mw;rw[IR];have:(Int.toNat∘fun v:Nat=>(v:Int))=id:=by grind
 rw[this,List.map_id];exact List.nodup_range.filter _
theorem aba(hs:cA n V)(hl:∀l∈ls,l / 2<=(V:Int))(h:kp n ls p):1<=p/\p<=V:=by cases h with|@base l a b=>have:=hl l a;omega|@step q x l _ a b c d=>have:=(hs.uT a c).2;omega
theorem ant(hs:cA n V)(hl:∀l∈ls,l / 2<=(V:Int))(hm:m.length=V+1)(hc:pS n (On m))(left:jp):pC n V ls m left (dp m (nS n V m ls)) (left++nS n V m ls):=by
 have hsm:∀l∈iW m ls,l∈ls:=fun l h=>(asv.1 h).1;have hl2:∀l∈iW m ls,l / 2<=(V:Int):=fun l h=>hl l (hsm l h);have nl:∀{v:Int},v∈nS n V m ls↔(0<=v/\v<=(V:Int)/\kp n (iW m ls) v.toNat)/\¬On m v.toNat:=fun{v}=>by unfold nS;rw[asv,Od];unfold On;simp
 have key:∀p,kp n ls p->On m p\/kp n (iW m ls) p:=fun p h=>by
  refine sB (S:=fun p=>On m p\/kp n (iW m ls) p) ?_ ?_ h
  .intro p x l hp a b c d;rcases hp with hp|hp
   .exact .inl (hc p x l hp a b c d)
   .exact .inr (.step hp a b c d)
  .intro l a b;by_cases q:On m (l / 2).toNat
   .exact .inl q
   .refine .inr (.base (asv.2 ⟨a,?_⟩) b);unfold On at q
    grind
 have on_:∀p,On (dp m (nS n V m ls)) p↔On m p\/kp n ls p:=fun p=>by
  rw[xm];constructor
  .rintro(h|⟨v,h1,rfl,h2⟩)
   .exact .inl h
   .exact .inr (abb hsm (nl.1 h1).1.2.2)
  .rintro(h|h)
   .exact .inl h
   .by_cases q:On m p
    .exact .inl q
    .rcases key p h with h2|h2
     .exact .inl h2
     .have:=aba hs hl2 h2;exact .inr ⟨(p:Int),nl.2 ⟨⟨auc,auc,by rw[ST];exact h2⟩,by rw[ST];exact q⟩,aue,auc⟩
 refine⟨wN _ _,on_,nS n V m ls,rfl,fun v hv=>?_,fun p hp=>?_,?_⟩
 .obtain⟨⟨h1,h2,h3⟩,h4⟩:=nl.1 hv;have:=aba hs hl2 h3;exact⟨auc,h2,(on_ _).2 (.inr (abb hsm h3))⟩
 .by_cases q:On m p
  .exact .inl q
  .rcases xm.1 hp with h|⟨v,h1,rfl,_⟩
   .exact absurd h q
   .refine .inr ?_;rw[asx (nl.1 h1).1.1];exact h1
 .refine Z4 ?_ fun v hv=>?_
  .exact(List.Sublist.map Int.toNat asI).nodup (Z7 n V _)
  grind
def sR(n:aB)(m ms:kw)(p:Nat):Prop:=(∀l∈n.ah,l.var=(p:Int)->0<l.next / 2->On m (l.next / 2).toNat)/\∀(i:Nat) (M:cC),n.af[i]?=some M->(p:Int)∈dy M->On ms i
structure PI(n:aB)(V:Nat)(m ms:kw)(left:jp):Prop where
 len:m.length=V+1
 lO:ms.length=n.af.length
 ku:nV n (m,ms)
 iF:pS n (On m)
 ni:∀v∈left,1<=v/\v<=(V:Int)/\On m v.toNat
 je:∀p,On m p->(p:Int)∈left\/sR n m ms p
 mem:∀(i:Nat) (M:cC),On ms i->n.af[i]?=some M->∀l∈dU M,0<l / 2->On m (l / 2).toNat
def todo(m:kw)(left:jp):Nat:=m.count false+left.length
variable{left':jp}{m':kw}{left:jp}
theorem pC.todo(h:pC n V ls m left m' left'):todo m' left'=todo m left:=by
 obtain⟨N,rfl,_,_,h4⟩:=h.new;unfold Pl.todo
 grind
variable{ms:kw}
theorem sR.mono{ms':kw}(h:sR n m ms p)(h1:∀q,On m q->On m' q)(h2:∀q,On ms q->On ms' q):sR n m' ms' p:=⟨fun l a b c=>h1 _ (h.1 l a b c),fun i M a b=>h2 _ (h.2 i M a b)⟩
theorem pC.iF(h:pC n V ls m left m' left')(hc:pS n (On m)):pS n (On m'):=by
 intro p x l hp a b c d;rcases(h.on p).1 hp with hp|hp
 .exact(h.on _).2 (.inl (hc p x l hp a b c d))
 .exact(h.on _).2 (.inr (.step hp a b c d))
theorem PI.mark(I:PI n V m ms left)(h:pC n V ls m left m' left')(hp:∀l∈ls,0<l / 2->im n (l / 2).toNat):PI n V m' ms left':=by
 obtain⟨N,rfl,h2,h3,h4⟩:=h.new;have up:∀q,On m q->On m' q:=fun q k=>(h.on q).2 (.inl k);refine⟨h.len.trans I.len,I.lO,⟨fun p k=>?_,I.ku.h2⟩,h.iF I.iF,fun v hv=>?_,fun p k=>?_,fun i M a b l c d=>up _ (I.mem i M a b l c d)⟩
 .rcases(h.on p).1 k with k|k
  .exact I.ku.h1 p k
  .refine sB (S:=im n) (fun p x l k a b c d=>.step k (.node a b c) d) hp k
 .rcases qr.1 hv with hv|hv
  .obtain⟨a,b,c⟩:=I.ni v hv;exact⟨a,b,up _ c⟩
  .exact h2 v hv
 .rcases h3 p k with k|k
  .rcases I.je p k with q|q
   .exact .inl (AI _ q)
   .exact .inr (q.mono up fun _ x=>x)
  grind
theorem PI.full(I:PI n V m ms [])(hb:∀l∈n.aU++n.constraints,0<l / 2->On m (l / 2).toNat):jk n V (m,ms):=by have hd:∀p,On m p->sR n m ms p:=fun p h=>(I.je p h).resolve_left aue;refine aac I.len I.lO I.ku ⟨⟨hb,fun p l hp hq h0=>?_⟩,fun i M p hp hM hv=>(hd p hp).2 i M hM hv⟩;generalize hv:(p:Int)=v at hq;cases hq with|@aT x hx=>exact(hd p hp).1 x hx hv.symm h0|node hx hv2 hl=>exact I.iF p _ l hp hx (hv▸hv2) hl h0|@mem M _ _ hM hv2 hl=>obtain⟨i,hi⟩:=LT hM;exact I.mem i M ((hd p hp).2 i M hi (hv▸hv2)) hi l hl h0
structure PJ(n:aB)(V:Nat)(j:Nat)(m ms:kw)(left:jp):Prop where
 len:m.length=V+1
 lO:ms.length=n.af.length
 ku:nV n (m,ms)
 iF:pS n (On m)
 ni:∀v∈left,1<=v/\v<=(V:Int)/\On m v.toNat
 je:∀p,On m p->(p:Int)∈left\/sR n m ms p
 mem:∀(i:Nat) (M:cC),i≠j->On ms i->n.af[i]?=some M->∀l∈dU M,0<l / 2->On m (l / 2).toNat
variable{j:Nat}
theorem PJ.mark(I:PJ n V j m ms left)(h:pC n V ls m left m' left')(hp:∀l∈ls,0<l / 2->im n (l / 2).toNat):PJ n V j m' ms left':=by
 obtain⟨N,rfl,h2,h3,h4⟩:=h.new;have up:∀q,On m q->On m' q:=fun q k=>(h.on q).2 (.inl k);refine⟨h.len.trans I.len,I.lO,⟨fun p k=>?_,I.ku.h2⟩,h.iF I.iF,fun v hv=>?_,fun p k=>?_,fun i M e a b l c d=>up _ (I.mem i M e a b l c d)⟩
 .rcases(h.on p).1 k with k|k
  .exact I.ku.h1 p k
  .refine sB (S:=im n) (fun p x l k a b c d=>.step k (.node a b c) d) hp k
 .rcases qr.1 hv with hv|hv
  .obtain⟨a,b,c⟩:=I.ni v hv;exact⟨a,b,up _ c⟩
  .exact h2 v hv
 .rcases h3 p k with k|k
  .rcases I.je p k with q|q
   .exact .inl (AI _ q)
   .exact .inr (q.mono up fun _ x=>x)
  grind
variable{M:cC}
theorem PJ.leave(I:PJ n V j m ms left)(hM:n.af[j]?=some M)(h:∀l∈dU M,0<l / 2->On m (l / 2).toNat):PI n V m ms left:=
 ⟨I.len,I.lO,I.ku,I.iF,I.ni,I.je,fun i M' ho hM'=>by
  by_cases e:i=j
  .subst e
   grind
  .exact I.mem i M' e ho hM'⟩
structure PK(n:aB)(V:Nat)(v:Nat)(m ms:kw)(left:jp):Prop where
 on:On m v
 len:m.length=V+1
 lO:ms.length=n.af.length
 ku:nV n (m,ms)
 iF:pS n (On m)
 ni:∀v∈left,1<=v/\v<=(V:Int)/\On m v.toNat
 je:∀p,On m p->p≠v->(p:Int)∈left\/sR n m ms p
 mem:∀(i:Nat) (M:cC),On ms i->n.af[i]?=some M->∀l∈dU M,0<l / 2->On m (l / 2).toNat
variable{v:Nat}
theorem PI.pop(I:PI n V m ms (left++[(v:Int)])):PK n V v m ms left:=by
 have hv:=I.ni (v:Int) aue;rw[ST]at hv;refine⟨hv.2.2,I.len,I.lO,I.ku,I.iF,fun u hu=>I.ni u (AI _ hu),fun p h e=>?_,I.mem⟩;rcases I.je p h with q|q
 .rcases qr.1 q with q|q
  .exact .inl q
  grind
 .exact .inr q
theorem PK.aT(I:PK n V v m ms left)(hs:cA n V){l:dI}(hl:l∈n.ah)(hv:l.var=(v:Int))(one:∀l'∈n.ah,l'.var=(v:Int)->l'=l)(no:∀M∈n.af,(v:Int)∉dy M)(h:pC n V [l.next] m left m' left'):PI n V m' ms left':=by
 have hp:im n v:=I.ku.h1 v I.on;have hp2:∀x∈[l.next],0<x / 2->im n (x / 2).toNat:=fun x hx h0=>by
  have e:x=l.next:=by grind
  subst e;exact .step hp (hv▸.aT hl) h0
 obtain⟨N,rfl,h2,h3,h4⟩:=h.new;have up:∀q,On m q->On m' q:=fun q k=>(h.on q).2 (.inl k);refine⟨h.len.trans I.len,I.lO,⟨fun p k=>?_,I.ku.h2⟩,h.iF I.iF,fun u hu=>?_,fun p k=>?_,fun i M a b l c d=>up _ (I.mem i M a b l c d)⟩
 .rcases(h.on p).1 k with k|k
  .exact I.ku.h1 p k
  .refine sB (S:=im n) (fun p x l k a b c d=>.step k (.node a b c) d) hp2 k
 .rcases qr.1 hu with hv|hv
  .obtain⟨a,b,c⟩:=I.ni u hv;exact⟨a,b,up _ c⟩
  .exact h2 u hv
 .rcases h3 p k with k|k
  .by_cases e:p=v
   .subst e;refine .inr ⟨fun l' a b c=>?_,fun i M a b=>absurd b (no M (d5 a))⟩;rw[one l' a b]at c |-;exact(h.on _).2 (.inr (.base aue c))
   .rcases I.je p k e with q|q
    .exact .inl (AI _ q)
    .exact .inr (q.mono up fun _ x=>x)
  grind
theorem PK.none(I:PK n V v m ms left)(no1:∀l∈n.ah,l.var≠(v:Int))(no:∀M∈n.af,(v:Int)∉dy M):PI n V m ms left:=by
 refine⟨I.len,I.lO,I.ku,I.iF,I.ni,fun p k=>?_,I.mem⟩;by_cases e:p=v
 .subst e;exact .inr ⟨fun l' a b=>absurd b (no1 l' a),fun i M a b=>absurd b (no M (d5 a))⟩
 .exact I.je p k e
theorem PK.anv(I:PK n V v m ms left)(no1:∀l∈n.ah,l.var≠(v:Int))(one:∀(i:Nat) (M:cC),n.af[i]?=some M->(v:Int)∈dy M->i=j)(hj:On ms j):PI n V m ms left:=by
 refine⟨I.len,I.lO,I.ku,I.iF,I.ni,fun p k=>?_,I.mem⟩;by_cases e:p=v
 .subst e;exact .inr ⟨fun l' a b=>absurd b (no1 l' a),fun i M a b=>by grind⟩
 .exact I.je p k e
theorem PK.amg(I:PK n V v m ms left)(no1:∀l∈n.ah,l.var≠(v:Int))(hM:n.af[j]?=some M)(hv:(v:Int)∈dy M)(one:∀(i:Nat) (M:cC),n.af[i]?=some M->(v:Int)∈dy M->i=j):PJ n V j m (ms.set j true) left:=by
 have up:∀q,On ms q->On (ms.set j true) q:=fun q k=>jS.2 (.inl k);have hj:j<ms.length:=by rw[I.lO];grind
 refine⟨I.len,by rw[aig];exact I.lO,⟨I.ku.h1,fun i M' h hM'=>?_⟩,I.iF,I.ni,fun p h=>?_,fun i M' e h a=>?_⟩
 .rcases jS.1 h with h|⟨rfl,_⟩
  .exact I.ku.h2 i M' h hM'
  .rw[hM]at hM';cases hM';exact⟨v,I.ku.h1 v I.on,hv⟩
 .by_cases e:p=v
  .subst e;exact .inr ⟨fun l' a b=>absurd b (no1 l' a),fun i M a b=>by rw[one i M a b];exact jS.2 (.inr ⟨rfl,hj⟩)⟩
  .rcases I.je p h e with q|q
   .exact .inl q
   .exact .inr (q.mono (fun _ x=>x) up)
 .rcases jS.1 h with h|⟨rfl,_⟩
  .exact I.mem i M' h a
  .exact absurd rfl e
theorem pi0:PI n V (List.replicate (V+1) false) (List.replicate n.af.length false) []:=⟨fx ..,fx ..,⟨fun p h=>absurd h nE,fun i M h=>absurd h nE⟩,fun p x l h=>absurd h nE,fun v h=>by simp at h,fun p h=>absurd h nE,fun i M h=>absurd h nE⟩
inductive oP(n:aB)(v:Nat):Nat->Prop
 |refl:0<v->oP n v v
 |step {p:Nat}{x:cg}{l:Int}:oP n v p->x∈dt n->(p:Int)∈x.to->l∈x.bq->0<l / 2->oP n v (l / 2).toNat
theorem oP.trans{u:Nat}(a:oP n u v)(b:oP n v p):oP n u p:=by induction b with|refl _=>exact a|step _ h1 h2 h3 h4 ih=>exact .step ih h1 h2 h3 h4
structure gD(n:aB)(m:kw)(ls:jp)(m':kw):Prop where
 len:m'.length=m.length
 sub:∀p,On m' p->On m p\/∃l∈ls,0<l / 2/\oP n (l / 2).toNat p
 up:∀p,On m p->On m' p
 has:∀l∈ls,0<l / 2->On m' (l / 2).toNat
 iF:∀p,On m' p->¬On m p->∀(x:cg) (l:Int),x∈dt n->(p:Int)∈x.to->l∈x.bq->0<l / 2->On m' (l / 2).toNat
 kY:m'.count false<=m.count false
theorem gD.nil:gD n m [] m:=⟨rfl,fun p h=>.inl h,fun p h=>h,fun l h=>by simp at h,fun p h k=>absurd h k,ro _⟩
theorem gD.app{m1 m2:kw}{a b:jp}(h:gD n m a m1)(k:gD n m1 b m2):gD n m (a++b) m2:=by
 refine⟨k.len.trans h.len,fun p hp=>?_,fun p hp=>k.up p (h.up p hp),fun l hl h0=>?_,fun p hp hn x l h1 h2 h3 h4=>?_,EQ k.kY h.kY⟩
 .rcases k.sub p hp with hp|⟨l,h1,h2⟩
  .rcases h.sub p hp with hp|⟨l,h1,h2⟩
   .exact .inl hp
   .exact .inr ⟨l,AI _ h1,h2⟩
  .exact .inr ⟨l,Fd _ h1,h2⟩
 .rcases qr.1 hl with hl|hl
  .exact k.up _ (h.has l hl h0)
  .exact k.has l hl h0
 .by_cases q:On m1 p
  .exact k.up _ (h.iF p q hn x l h1 h2 h3 h4)
  .exact k.iF p hp q x l h1 h2 h3 h4
variable{l:Int}
theorem gD.there(h:l / 2<1\/On m (l / 2).toNat):gD n m [l] m:=
 ⟨rfl,fun p h=>.inl h,fun p h=>h,fun x hx h0=>by
  have e:x=l:=by simpa using hx
  subst e;rcases h with h|h
  .omega
  .exact h,fun p h k=>absurd h k,ro _⟩
theorem gD.free(h0:0<l / 2)(hl:(l / 2).toNat<m.length)(hn:¬On m (l / 2).toNat)(hf:∀x∈dt n,l / 2∉x.to):gD n m [l] (m.set (l / 2).toNat true):=by
 refine⟨aig ..,fun p hp=>?_,fun p hp=>jS.2 (.inl hp),fun x hx _=>?_,fun p hp hq x y h1 h2=>?_,by have:=EV hl hn;omega⟩
 .rcases jS.1 hp with hp|⟨rfl,_⟩
  .exact .inl hp
  .exact .inr ⟨l,aue,h0,.refl auc⟩
 .have e:x=l:=by simpa using hx
  subst e;exact jS.2 (.inr ⟨rfl,hl⟩)
 .rcases jS.1 hp with hp|⟨rfl,_⟩
  .exact absurd hp hq
  .rw[asx auc]at h2;exact absurd h2 (hf x h1)
theorem gD.node{x:cg}(one:∀y∈dt n,l / 2∈y.to->y=x)(hx:x∈dt n)(hv:l / 2∈x.to)(h0:0<l / 2)(hl:(l / 2).toNat<m.length)(hn:¬On m (l / 2).toNat)(h:gD n (m.set (l / 2).toNat true) x.bq m'):gD n m [l] m':=by
 refine⟨h.len.trans (aig ..),fun p hp=>?_,fun p hp=>h.up p (jS.2 (.inl hp)),fun y hy _=>?_,fun p hp hq y z h1 h2 h3 h4=>?_,by have:=EV hl hn;have:=h.kY;omega⟩
 .rcases h.sub p hp with hp|⟨y,h1,h2,h3⟩
  .rcases jS.1 hp with hp|⟨rfl,_⟩
   .exact .inl hp
   .exact .inr ⟨l,aue,h0,.refl auc⟩
  .refine .inr ⟨l,aue,h0,oP.trans (.step (.refl auc) hx ?_ h1 h2) h3⟩;rw[asx auc];exact hv
 .have e:y=l:=by simpa using hy
  subst e;exact h.up _ (jS.2 (.inr ⟨rfl,hl⟩))
 .by_cases q:p=(l / 2).toNat
  .subst q;rw[asx auc]at h2;obtain rfl:=one y h1 h2;exact h.has z h3 h4
  .refine h.iF p hp (fun k=>?_) y z h1 h2 h3 h4;rcases jS.1 k with k|⟨k,_⟩
   .exact hq k
   .exact q k.symm
theorem amG(hl:l∈ls)(h0:0<l / 2)(h:oP n (l / 2).toNat p):kp n ls p:=by induction h with|refl _=>exact .base hl h0|step _ a b c d ih=>exact .step ih a b c d
theorem gD.sup(h:gD n (List.replicate (V+1) false) ls m)(p:Nat):On m p↔kp n ls p:=by
 constructor
 .intro hp;rcases h.sub p hp with hp|⟨l,h1,h2,h3⟩
  .exact absurd hp nE
  .exact amG h1 h2 h3
 .exact sB (fun p x l hp a b c d=>h.iF p hp nE x l a b c d) h.has
open Classical in
theorem gD.list(h:gD n (List.replicate (V+1) false) ls m):((List.range (V+1)).filter fun v=>m.getD v false).map (fun v:Nat=>(v:Int))=mw n V ls:=by
 unfold mw;congr 1;refine List.filter_congr fun v _=>?_;have:=h.sup v;unfold On at this;by_cases q:m.getD v false=true
 .rw[q];exact(fm (this.1 q)).symm
 .have q':m.getD v false=false:=by simpa using q
  rw[q'];exact(jC fun k=>q (this.2 k)).symm
