import Derived.Test.YtjflbmpepamfjaaGreatKNa
set_option linter.all false
section
namespace Go.Proofs.YtjflbmpepamfjaaGreat
open Go.RowKit Pl
structure UC(e:TypeId)(base:Nat)(w w':World):Prop where
 below:Below base w w'
 box:∀(c:Nat) (t:TypeId) (cs:Array Value),af w c t cs->t≠e->af w' c t cs
section
variable{e:TypeId}{base:Nat}{a b c:World}
theorem UC.size(h:UC e base a b):a.heap.size<=b.heap.size:=h.below.size
end
end Go.Proofs.YtjflbmpepamfjaaGreat
end
section
namespace Go.Proofs.YtjflbmpepamfjaaGreat.Pl
structure Nd where
 an:jp
 to:jp
def mx(l:jp):Nat:=l.foldl max 0
theorem arL(l:jp):∀a,a<=l.foldl max a:=by induction l with|nil=>intro a;exact pi _|cons x l ih=>intro a;grind
theorem ary(l:jp):∀a x,x∈l->x<=l.foldl max a:=by
 induction l with
 |nil=>intro a x h;cases h
 |cons y l ih=>
  intro a x h;rcases AT.1 h with rfl|h
  .exact rt (Nat.le_max_right a x) (arL l _)
  .exact ih _ x h
theorem Zx2(l:jp):∀a,l.foldl max a=a\/l.foldl max a∈l:=by
 induction l with
 |nil=>intro a;exact .inl rfl|cons y l ih=>
  intro a
  grind
variable{l:jp}
theorem QG{x:Nat}(h:x∈l):x<=mx l:=ary l 0 x h
theorem VF(l:jp):mx l=0\/mx l∈l:=Zx2 l 0
variable{k:Nat}
theorem QY(h:∀x∈l,x<=k):mx l<=k:=by
 rcases VF l with h1|h1
 .omega
 .exact h _ h1
theorem agv(l:jp)(x:Nat):mx (l++[x])=max (mx l) x:=by simp[mx,aFP]
def fg(N:List Nd):Prop:=∀(i j:Nat) (x y:Nd) (v:Nat),N[i]?=some x->N[j]?=some y->v∈x.to->v∈y.to->i=j
variable{x:Nd}{v:Nat}
theorem fg.same{N:List Nd}(ap:fg N){y:Nd}(hx:x∈N)(hy:y∈N)(h1:v∈x.to)(h2:v∈y.to):x=y:=by obtain⟨i,hi⟩:=aFd hx;obtain⟨j,hj⟩:=aFd hy;obtain rfl:=ap i j x y v hi hj h1 h2;rw[hi]at hj;injection hj
inductive cN(N:List Nd):Nat->Nat->Prop
 |free (v:Nat) (h:∀x∈N,v∉x.to):cN N v 0
 |node (x:Nd) (v:Nat) (f:Nat->Nat) (hx:x∈N) (hv:v∈x.to) (h:∀u∈x.an,cN N u (f u)):cN N v (mx (x.an.map f)+1)
section
variable{N:List Nd}
theorem cN.inv(ap:fg N)(h:cN N v k)(hx:x∈N)(hv:v∈x.to):∃f,(∀u∈x.an,cN N u (f u))/\k=mx (x.an.map f)+1:=by cases h with|free _ h=>exact absurd hv (h x hx)|node y _ f hy hv2 h=>obtain rfl:=ap.same hy hx hv2 hv;exact⟨f,h,rfl⟩
theorem Zti{f g:Nat->Nat}(h:∀u∈l,f u=g u):l.map f=l.map g:=aFW h
theorem cN.one(ap:fg N)(h:cN N v k):∀{k':Nat},cN N v k'->k=k':=by
 induction h with
 |free v h=>intro k' h';cases h' with|free _ _=>rfl|node x _ f hx hv _=>exact absurd hv (h x hx)
 |node x v f hx hv _ ih=>intro k' h';obtain⟨g,hg,rfl⟩:=h'.inv ap hx hv;rw[Zti fun u hu=>ih u hu (hg u hu)]
theorem cN.an(ap:fg N){u:Nat}(h:cN N v k)(hx:x∈N)(hv:v∈x.to)(hu:u∈x.an):∃k',k'<k/\cN N u k':=by obtain⟨f,hf,rfl⟩:=h.inv ap hx hv;exact⟨f u,Nat.lt_succ_of_le (QG (abs hu)),hf u hu⟩
theorem cN.wY{v':Nat}(ap:fg N)(h:cN N v k)(hx:x∈N)(hv:v∈x.to)(hv':v'∈x.to):cN N v' k:=by obtain⟨f,hf,rfl⟩:=h.inv ap hx hv;exact .node x v' f hx hv' hf
inductive mr(N:List Nd):Nat->Nat->Prop
 |one (x:Nd) (u v:Nat) (hx:x∈N) (hu:u∈x.to) (hv:v∈x.an):mr N u v
 |more (x:Nd) (u v t:Nat) (h:mr N u v) (hx:x∈N) (hv:v∈x.to) (ht:t∈x.an):mr N u t
theorem mr.lower(ap:fg N){u:Nat}(h:mr N u v):∀{k:Nat},cN N u k->∃k',k'<k/\cN N v k':=by induction h with|one x u v hx hu hv=>intro k hk;exact hk.an ap hx hu hv|more x u v t _ hx hv ht ih=>intro k hk;obtain⟨k1,h1,l1⟩:=ih hk;obtain⟨k2,h2,l2⟩:=l1.an ap hx hv ht;exact⟨k2,aGl,l2⟩
theorem mr.none(ap:fg N)(h:mr N v v)(k:Nat):¬cN N v k:=fun hk=>by obtain⟨k',h1,h2⟩:=h.lower ap hk;have:=hk.one ap h2;omega
theorem Ztp:∀(k:Nat) (L:jp),(∀j,1<=j->j<=k->j∈L)->k<=L.length:=by
 intro k
 induction k with
 |zero=>intro L _;exact AI _|succ k ih=>
  intro L h;have hm:=h (k+1) aGl (pi _);have h2:=ih (L.erase (k+1)) (fun j h1 h2=>(List.mem_erase_of_ne aGl).2 (h j h1 aGl))
  grind
theorem cN.air(ap:fg N)(h:cN N v k):∀j,1<=j->j<=k->∃x∈N,∃u∈x.to,cN N u j:=by
 induction h with
 |free v h=>intro j h1 h2;omega|node x v f hx hv h ih=>
  intro j h1 h2;by_cases e:j=mx (x.an.map f)+1
  .subst e;exact⟨x,hx,v,hv,.node x v f hx hv h⟩
  .rcases VF (x.an.map f)with h0|h0
   .omega
   grind
theorem cN.le(ap:fg N)(h:cN N v k):k<=N.length:=by
 have hlv:∃lv:Nd->Nat,∀x∈N,∀u∈x.to,∀j,cN N u j->lv x=j:=by refine⟨fun x=>Classical.epsilon fun j=>∃u∈x.to,cN N u j,fun x hx u hu j hj=>?_⟩;obtain⟨u',hu',hj'⟩:=Classical.epsilon_spec (p:=fun j=>∃u∈x.to,cN N u j) ⟨j,u,hu,hj⟩;exact(hj'.wY ap hx hu' hu).one ap hj
 obtain⟨lv,hlv⟩:=hlv;have:=Ztp k (N.map lv) (fun j h1 h2=>by
  obtain⟨x,hx,u,hu,hj⟩:=h.air ap j h1 h2
  grind)
 simpa using this
end
variable{u:Nat}{f:Nat->Nat}
def hasB(N:List Nd):Nat->Nat->Bool
 |0,v=>N.all fun x=>!x.to.contains v|f+1,v=>N.all fun x=>!x.to.contains v||x.an.all (hasB N f)
theorem VG{N:List Nd}(ap:fg N):∀(f v:Nat),hasB N f v=true↔∃k,k<=f/\cN N v k:=by
 intro f
 induction f with
 |zero=>
  intro v;constructor
  .intro h;refine⟨0,pi _,.free v fun x hx hv=>?_⟩;have:=aEY.1 h x hx;simp at this;exact this hv
  .rintro⟨k,hk,hl⟩;obtain rfl:k=0:=aGl
   refine aEY.2 fun x hx=>?_;simp;intro hv;obtain⟨g,_,h⟩:=hl.inv ap hx hv;omega
 |succ f ih=>
  intro v;constructor
  .intro h;by_cases hfree:∃x∈N,v∈x.to
   .obtain⟨x,hx,hv⟩:=hfree;have:=aEY.1 h x hx;simp[hv]at this;have hg:∃g:Nat->Nat,∀u∈x.an,g u<=f/\cN N u (g u):=by refine⟨fun u=>Classical.epsilon fun k=>k<=f/\cN N u k,fun u hu=>?_⟩;exact Classical.epsilon_spec ((ih u).1 (this u hu))
    obtain⟨g,hg⟩:=hg;refine⟨_,?_,.node x v g hx hv fun u hu=>(hg u hu).2⟩;have:mx (x.an.map g)<=f:=QY fun y hy=>by grind
    omega
   .exact⟨0,AI _,.free v fun x hx hv=>hfree ⟨x,hx,hv⟩⟩
  .rintro⟨k,hk,hl⟩;refine aEY.2 fun x hx=>?_;by_cases hv:v∈x.to
   .simp[hv];intro u hu;obtain⟨k',h1,h2⟩:=hl.an ap hx hv hu;exact(ih u).2 ⟨k',aGl,h2⟩
   .simp[hv]
def gN(N:List Nd)(V:Nat):Bool:=(List.range (V+1)).all (hasB N N.length)
theorem Ak{N:List Nd}(ap:fg N)(V:Nat):gN N V=true↔∀v,v<=V->∃k,cN N v k:=by
 unfold gN;rw[aEY];constructor
 .intro h v hv;obtain⟨k,_,hk⟩:=(VG ap _ v).1 (h v (aFT.2 aGl));exact⟨k,hk⟩
 .intro h v hv;obtain⟨k,hk⟩:=h v (by grind);exact(VG ap _ v).2 ⟨k,hk.le ap,hk⟩
/- round by round -/
def aC(l:io)(v:Nat):Int:=l.getD v 0
theorem Wo(l:io)(i j:Nat)(x:Int):aC (l.set i x) j=if i=j/\j<l.length then x else aC l j:=by
 unfold aC
 grind
def cG(l:io)(vs:jp)(x:Int):io:=vs.foldl (fun l v=>l.set v x) l
theorem lz(vs:jp)(x:Int):∀l,(cG l vs x).length=l.length:=by induction vs with|nil=>intro l;rfl|cons v vs ih=>intro l;show(cG (l.set v x) vs x).length=_;rw[ih,aFB]
theorem eY(vs:jp)(x:Int):∀(l:io) (j:Nat),aC (cG l vs x) j=if j∈vs/\j<l.length then x else aC l j:=by
 induction vs with
 |nil=>intro l j;simp[cG]|cons v vs ih=>
  intro l j;show aC (cG (l.set v x) vs x) j=_;rw[ih,aFB,Wo]
  grind
theorem xQ(l:io)(vs:jp)(v:Nat)(x:Int):cG l (vs++[v]) x=(cG l vs x).set v x:=by simp[cG,aFP]
def fj(out:io):jp->Int->Int
 |[],n=>n+1|u::us,n=>if aC out u<0 then -1 else fj out us (max n (aC out u))
variable{out:io}
theorem UX:∀{us:jp}{n:Nat},(∀u∈us,aC out u=(f u:Int))->fj out us n=(((us.map f).foldl max n:Nat):Int)+1:=by
 intro us
 induction us with
 |nil=>intro n _;rfl|cons u us ih=>
  intro n h;have hu:=h u aGn;rw[fj,rx aGl,hu]
  grind
theorem agq:∀{us:jp}{n:Int},u∈us->aC out u<0->fj out us n = -1:=by
 intro us
 induction us with
 |nil=>intro n h;cases h
 |cons y us ih=>
  intro n h hu;by_cases hy:aC out y<0
  .rw[fj,BY hy]
  .rw[fj,rx hy]
   grind
def iR(out:io)(x:Nd):io:=cG out x.to (fj out x.an 0)
theorem Zun(out:io)(x:Nd):(iR out x).length=out.length:=lz _ _ _
def jv(N:List Nd)(out:io):io:=N.foldl iR out
def iD:List Nd->io->Nat
 |[],_=>0|x::N,out=>(if fj out x.an 0<0 then 1 else 0)+iD N (iR out x)
def jt(N:List Nd):Nat->io->io
 |0,out=>out|r+1,out=>jv N (jt N r out)
structure Told(N:List Nd)(V r:Nat)(out:io):Prop where
 len:out.length=V+1
 is:∀v,v<=V->aC out v = -1\/∃k:Nat,aC out v=(k:Int)/\cN N v k
 up:∀v k,v<=V->k<=r->cN N v k->aC out v=(k:Int)
section
variable{N:List Nd}{V r:Nat}
theorem Told.level(ap:fg N)(aU:∀x∈N,∀u∈x.an,u<=V)(t:Told N V r out)(hx:x∈N)(hv:v∈x.to) :
  fj out x.an 0 = -1\/∃k:Nat,fj out x.an 0=(k:Int)/\cN N v k:=by
 by_cases hu:∃u∈x.an,aC out u<0
 .obtain⟨u,h1,h2⟩:=hu;exact .inl (agq h1 h2)
 .right;have hg:∀u∈x.an,aC out u=((aC out u).toNat:Int)/\cN N u (aC out u).toNat:=fun u h=>by
   rcases t.is u (aU x hx u h)with h1|⟨k,h1,h2⟩
   .exact absurd ⟨u,h,aGl⟩ hu
   grind
  refine⟨_,?_,.node x v (fun u=>(aC out u).toNat) hx hv fun u h=>(hg u h).2⟩;rw[show(0:Int)=((0:Nat):Int)from rfl,UX fun u h=>(hg u h).1];rfl
theorem Told.reach(ap:fg N)(aU:∀x∈N,∀u∈x.an,u<=V)(t:Told N V r out)(hx:x∈N)(hv:v∈x.to)(hk:k<=r+1)(hl:cN N v k) :
  fj out x.an 0=(k:Int):=by
 obtain⟨f,hf,rfl⟩:=hl.inv ap hx hv;have hs:∀u∈x.an,aC out u=(f u:Int):=fun u hu=>t.up u (f u) (aU x hx u hu) (by have:=QG (abs (f:=f) hu);omega) (hf u hu);rw[show(0:Int)=((0:Nat):Int)from rfl,UX hs];simp[mx]
theorem Told.step(ap:fg N)(aU:∀x∈N,∀u∈x.an,u<=V)(t:Told N V r out)(hx:x∈N):Told N V r (iR out x):=by
 refine⟨by rw[Zun,t.len],fun v hv=>?_,fun v k hv hk hl=>?_⟩
 .unfold iR;rw[eY];split
  .rename_i h;exact t.level ap aU hx h.1
  .exact t.is v hv
 .unfold iR;rw[eY];split
  .rename_i h;exact t.reach ap aU hx h.1 aGl hl
  .exact t.up v k hv hk hl
theorem Told.part(ap:fg N)(aU:∀x∈N,∀u∈x.an,u<=V):∀(M:List Nd) (D:Nat->Prop),(∀x∈M,x∈N)->∀{out:io},Told N V r out->(∀v k,v<=V->D v->k<=r+1->cN N v k->aC out v=(k:Int)) ->
  Told N V r (M.foldl iR out)/\∀v k,v<=V->(D v\/∃x∈M,v∈x.to)->k<=r+1->cN N v k->aC (M.foldl iR out) v=(k:Int):=by
 intro M
 induction M with
 |nil=>intro D _ out t hD;grind|cons x M ih=>
  intro D hM out t hD;have hx:x∈N:=hM x aGn;obtain⟨h1,h2⟩:=ih (fun v=>D v\/v∈x.to) (fun y hy=>hM y (by simp[hy])) (t.step ap aU hx) (fun v k hv hd hk hl=>by
   unfold iR;rw[eY];split
   .rename_i h;exact t.reach ap aU hx h.1 hk hl
   .rename_i h;rcases hd with hd|hd
    .exact hD v k hv hd hk hl
    .exact absurd ⟨hd,by rw[t.len];omega⟩ h)
  grind
theorem Told.round(ap:fg N)(aU:∀x∈N,∀u∈x.an,u<=V)(t:Told N V r out)(h0:∀v k,v<=V->(∀x∈N,v∉x.to)->cN N v k->aC out v=(k:Int)):Told N V (r+1) (jv N out):=by
 obtain⟨h1,h2⟩:=Told.part (r:=r) ap aU N (fun v=>∀x∈N,v∉x.to) (fun _ h=>h) t (fun v k hv hd _ hl=>h0 v k hv hd hl);refine⟨h1.len,h1.is,fun v k hv hk hl=>h2 v k hv ?_ hk hl⟩
 grind
theorem Told.free(ap:fg N)(t:Told N V r out)(hv:v<=V)(hf:∀x∈N,v∉x.to)(hl:cN N v k):aC out v=(k:Int):=by have:=hl.one ap (.free v hf);subst this;exact t.up v 0 hv (AI _) hl
theorem Told.rounds(ap:fg N)(aU:∀x∈N,∀u∈x.an,u<=V)(t:Told N V 0 out):∀r,Told N V r (jt N r out)
 |0=>t|r+1=>(Told.rounds ap aU t r).round ap aU fun v k hv hf hl=>(Told.rounds ap aU t r).free ap hv hf hl
def jX(N:List Nd)(V:Nat):io:=cG (List.replicate (V+1) 0) (N.flatMap (·.to)) (-1)
theorem Uv(ap:fg N):Told N V 0 (jX N V):=by
 have hl:(List.replicate (V+1) (0:Int)).length=V+1:=aGn
 have hz:∀v,aC (List.replicate (V+1) 0) v=0:=fun v=>by
  unfold aC
  grind
 refine⟨by unfold jX;rw[lz,hl],fun v hv=>?_,fun v k hv hk h=>?_⟩
 .unfold jX;rw[eY,hz];split
  .exact .inl rfl
  .rename_i h;exact .inr ⟨0,rfl,.free v fun x hx hvx=>h ⟨WP.2 ⟨x,hx,hvx⟩,aGl⟩⟩
 .obtain rfl:k=0:=aGl
  unfold jX;rw[eY,hz,rx]
  .rfl
  .rintro⟨h1,_⟩;obtain⟨x,hx,hvx⟩:=WP.1 h1;obtain⟨f,_,h2⟩:=h.inv ap hx hvx;omega
theorem qM(ap:fg N)(aU:∀x∈N,∀u∈x.an,u<=V):∀(M:List Nd),(∀x∈M,x∈N)->∀{out:io},Told N V r out->(iD M out=0->∀x∈M,∀v∈x.to,∃k,cN N v k)/\((∀x∈M,x.to≠[]/\∀v∈x.to,v<=V/\∃k,k<=r+1/\cN N v k)->iD M out=0):=by
 intro M
 induction M with
 |nil=>intro _ out _;exact⟨fun _ x hx=>(by cases hx),fun _=>rfl⟩
 |cons x M ih=>
  intro hM out t;have hx:x∈N:=hM x aGn;obtain⟨i1,i2⟩:=ih (fun y hy=>hM y (by simp[hy])) (t.step ap aU hx);constructor
  .intro h y hy v hv;simp only[iD]at h;rcases AT.1 hy with rfl|hy
   .rcases t.level ap aU hx hv with h1|⟨k,_,h2⟩
    .rw[BY aGl]at h;omega
    .exact⟨k,h2⟩
   .exact i1 aGl y hy v hv
  .intro h;obtain⟨h1,h2⟩:=h x aGn;obtain⟨v,vs,hvs⟩:=List.exists_cons_of_ne_nil h1;obtain⟨_,k,hk,hl⟩:=h2 v (by simp[hvs]);have:=t.reach ap aU hx (v:=v) (by simp[hvs]) hk hl;simp only[iD]
   grind
theorem arX(ap:fg N)(aU:∀x∈N,∀u∈x.an,u<=V)(ks:∀x∈N,x.to≠[]/\∀v∈x.to,v<=V):iD N (jt N N.length (jX N V))=0↔gN N V=true:=by
 obtain⟨h1,h2⟩:=qM (r:=N.length) ap aU N (fun _ h=>h) ((Uv ap).rounds ap aU N.length);rw[Ak ap];constructor
 .intro h v hv;by_cases hf:∃x∈N,v∈x.to
  .obtain⟨x,hx,hvx⟩:=hf;exact h1 h x hx v hvx
  .exact⟨0,.free v fun x hx hvx=>hf ⟨x,hx,hvx⟩⟩
 .intro h;refine h2 fun x hx=>⟨(ks x hx).1,fun v hv=>⟨(ks x hx).2 v hv,?_⟩⟩;obtain⟨k,hk⟩:=h v ((ks x hx).2 v hv);exact⟨k,Nat.le_succ_of_le (hk.le ap),hk⟩
theorem au5(ap:fg N)(aU:∀x∈N,∀u∈x.an,u<=V)(hv:v<=V)(hl:cN N v k):aC (jt N (N.length+1) (jX N V)) v=(k:Int):=((Uv ap).rounds ap aU (N.length+1)).up v k hv (Nat.le_succ_of_le (hl.le ap)) hl
