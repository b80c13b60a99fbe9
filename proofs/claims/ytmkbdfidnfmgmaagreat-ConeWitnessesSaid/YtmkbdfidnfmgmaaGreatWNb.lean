import Derived.Test.YtmkbdfidnfmgmaaGreatWNa
set_option linter.all false
section
namespace Go.Proofs.YtmkbdfidnfmgmaaGreat
open Go.RowKit Pl
structure nk(e:TypeId)(base:Nat)(w w':World):Prop where
 below:Below base w w'
 box:∀(c:Nat) (t:TypeId) (cs:Array Value),bg w c t cs->t≠e->bg w' c t cs
section
variable{e:TypeId}{base:Nat}{a b c:World}
theorem nk.refl(e:TypeId)(base:Nat)(w:World):nk e base w w:=⟨Below.refl _ _,fun _ _ _ h _=>h⟩
theorem nk.trans(h:nk e base a b)(k:nk e base b c):nk e base a c:=⟨h.below.trans k.below,fun x t cs hb ht=>k.box x t cs (h.box x t cs hb ht) ht⟩
theorem nk.app{size n:Nat}{v:Value}{xs:pi}(h:nk e base a b)(own:b.ownsRow base e size v n xs)(hb:base<=b.heap.size)(g:b.grownBy c v.ownBlock):nk e base a c:=
 h.trans ⟨⟨g.os,g.tape,g.output,g.size,fun i hi=>g.block i atO fun e=>by have:=(own.lt i e.symm).1;omega⟩,
  fun x t cs hB ht=>hB.grown g fun e=>AE own hB (fun e=>ht e.symm) e.symm⟩
theorem nk.size(h:nk e base a b):a.heap.size<=b.heap.size:=h.below.size
end
theorem ak3(m:aL)(w:World)(hok:m.cY w w.heap.size):bg (w.alloc (.cells m.cells.toArray 97)) w.heap.size 97 m.cells.toArray/\Below w.heap.size w (w.alloc (.cells m.cells.toArray 97))/\m.cY (w.alloc (.cells m.cells.toArray 97)) w.heap.size/\(w.alloc (.cells m.cells.toArray 97)).heap.size=w.heap.size+1:=
 have hb:=(Below.refl _ w).alloc (rt _) (.cells m.cells.toArray 97)
 ⟨bg.new _ _ _,hb,hok.below hb,atQ⟩
theorem bg.mem{w:World}{g:Nat}{m:aL}(h:bg w g 97 m.cells.toArray):w.cell? ⟨g,0,none⟩=some (.int .i64 m.addr)/\w.cell? ⟨g,1,none⟩=some (.int .i64 m.word)/\w.cell? ⟨g,2,none⟩=some (.bool m.any)/\w.cell? ⟨g,3,none⟩=some (.slice m.A m.reads.length m.c)/\w.cell? ⟨g,4,none⟩=some (.slice m.A2 m.writes.length m.c2):=⟨h.cell 0,h.cell 1,h.cell 2,h.cell 3,h.cell 4⟩
theorem Zmy(a b:jp):ints (a++b)=ints a++ints b:=by simp[ints]
theorem Zkb(a:jp):(ints a).length=a.length:=by simp[ints]
theorem Ztf{w:World}{base:Nat}{v:Value}{a:jp}{x:Int}{b:jp}(h:w.ownsRow base 3 1 v (a.length+1) (ints a++#[Value.int .i64 x].toList))(e:b=a++[x]):w.ownsRow base 3 1 v b.length (ints b):=by subst e;rw[Zmy,bU];exact h
theorem anx{base:Nat}{w w':World}(h:Below base w w'){b:Nat}(hb:b<base)(o:Nat):w'.cell? ⟨b,o,none⟩=w.cell? ⟨b,o,none⟩:=h.cell (p:=⟨b,o,none⟩) hb
end Go.Proofs.YtmkbdfidnfmgmaaGreat
end
section
namespace Go.Proofs.YtmkbdfidnfmgmaaGreat.Pl
structure Nd where
 bj:mt
 to:mt
def mx(l:mt):Nat:=l.foldl max 0
theorem amJ(l:mt):∀a,a<=l.foldl max a:=by induction l with|nil=>intro a;exact rt _|cons x l ih=>intro a;grind
theorem amu(l:mt):∀a x,x∈l->x<=l.foldl max a:=by
 induction l with
 |nil=>intro a x h;cases h
 |cons y l ih=>
  intro a x h;rcases GE.1 h with rfl|h
  .exact IS (Nat.le_max_right a x) (amJ l _)
  .exact ih _ x h
theorem Zx2(l:mt):∀a,l.foldl max a=a\/l.foldl max a∈l:=by
 induction l with
 |nil=>intro a;exact .inl rfl|cons y l ih=>
  intro a
  grind
variable{l:mt}
theorem Y2{x:Nat}(h:x∈l):x<=mx l:=amu l 0 x h
theorem aaG(l:mt):mx l=0\/mx l∈l:=Zx2 l 0
variable{k:Nat}
theorem Zx(h:∀x∈l,x<=k):mx l<=k:=by
 rcases aaG l with h1|h1
 .omega
 .exact h _ h1
theorem akj(l:mt)(x:Nat):mx (l++[x])=max (mx l) x:=by simp[mx,asd]
def ik(N:List Nd):Prop:=∀(i j:Nat) (x y:Nd) (v:Nat),N[i]?=some x->N[j]?=some y->v∈x.to->v∈y.to->i=j
variable{x:Nd}{v:Nat}
theorem ik.same{N:List Nd}(ap:ik N){y:Nd}(hx:x∈N)(hy:y∈N)(h1:v∈x.to)(h2:v∈y.to):x=y:=by obtain⟨i,hi⟩:=Fr hx;obtain⟨j,hj⟩:=Fr hy;obtain rfl:=ap i j x y v hi hj h1 h2;rw[hi]at hj;injection hj
inductive dB(N:List Nd):Nat->Nat->Prop
 |free (v:Nat) (h:∀x∈N,v∉x.to):dB N v 0
 |node (x:Nd) (v:Nat) (f:Nat->Nat) (hx:x∈N) (hv:v∈x.to) (h:∀u∈x.bj,dB N u (f u)):dB N v (mx (x.bj.map f)+1)
section
variable{N:List Nd}
theorem dB.inv(ap:ik N)(h:dB N v k)(hx:x∈N)(hv:v∈x.to):∃f,(∀u∈x.bj,dB N u (f u))/\k=mx (x.bj.map f)+1:=by cases h with|free _ h=>exact absurd hv (h x hx)|node y _ f hy hv2 h=>obtain rfl:=ap.same hy hx hv2 hv;exact⟨f,h,rfl⟩
theorem Zti{f g:Nat->Nat}(h:∀u∈l,f u=g u):l.map f=l.map g:=are h
theorem dB.one(ap:ik N)(h:dB N v k):∀{k':Nat},dB N v k'->k=k':=by
 induction h with
 |free v h=>intro k' h';cases h' with|free _ _=>rfl|node x _ f hx hv _=>exact absurd hv (h x hx)
 |node x v f hx hv _ ih=>intro k' h';obtain⟨g,hg,rfl⟩:=h'.inv ap hx hv;rw[Zti fun u hu=>ih u hu (hg u hu)]
theorem dB.bj(ap:ik N){u:Nat}(h:dB N v k)(hx:x∈N)(hv:v∈x.to)(hu:u∈x.bj):∃k',k'<k/\dB N u k':=by obtain⟨f,hf,rfl⟩:=h.inv ap hx hv;exact⟨f u,Nat.lt_succ_of_le (Y2 (AI hu)),hf u hu⟩
theorem dB.wL{v':Nat}(ap:ik N)(h:dB N v k)(hx:x∈N)(hv:v∈x.to)(hv':v'∈x.to):dB N v' k:=by obtain⟨f,hf,rfl⟩:=h.inv ap hx hv;exact .node x v' f hx hv' hf
inductive oh(N:List Nd):Nat->Nat->Prop
 |one (x:Nd) (u v:Nat) (hx:x∈N) (hu:u∈x.to) (hv:v∈x.bj):oh N u v
 |more (x:Nd) (u v t:Nat) (h:oh N u v) (hx:x∈N) (hv:v∈x.to) (ht:t∈x.bj):oh N u t
theorem oh.lower(ap:ik N){u:Nat}(h:oh N u v):∀{k:Nat},dB N u k->∃k',k'<k/\dB N v k':=by induction h with|one x u v hx hu hv=>intro k hk;exact hk.bj ap hx hu hv|more x u v t _ hx hv ht ih=>intro k hk;obtain⟨k1,h1,l1⟩:=ih hk;obtain⟨k2,h2,l2⟩:=l1.bj ap hx hv ht;exact⟨k2,atO,l2⟩
theorem oh.none(ap:ik N)(h:oh N v v)(k:Nat):¬dB N v k:=fun hk=>by obtain⟨k',h1,h2⟩:=h.lower ap hk;have:=hk.one ap h2;omega
theorem Ztp:∀(k:Nat) (L:mt),(∀j,1<=j->j<=k->j∈L)->k<=L.length:=by
 intro k
 induction k with
 |zero=>intro L _;exact GT _|succ k ih=>
  intro L h;have hm:=h (k+1) atO (rt _);have h2:=ih (L.erase (k+1)) (fun j h1 h2=>(List.mem_erase_of_ne atO).2 (h j h1 atO))
  grind
theorem dB.al3(ap:ik N)(h:dB N v k):∀j,1<=j->j<=k->∃x∈N,∃u∈x.to,dB N u j:=by
 induction h with
 |free v h=>intro j h1 h2;omega|node x v f hx hv h ih=>
  intro j h1 h2;by_cases e:j=mx (x.bj.map f)+1
  .subst e;exact⟨x,hx,v,hv,.node x v f hx hv h⟩
  .rcases aaG (x.bj.map f)with h0|h0
   .omega
   grind
theorem dB.le(ap:ik N)(h:dB N v k):k<=N.length:=by
 have hlv:∃lv:Nd->Nat,∀x∈N,∀u∈x.to,∀j,dB N u j->lv x=j:=by refine⟨fun x=>Classical.epsilon fun j=>∃u∈x.to,dB N u j,fun x hx u hu j hj=>?_⟩;obtain⟨u',hu',hj'⟩:=Classical.epsilon_spec (p:=fun j=>∃u∈x.to,dB N u j) ⟨j,u,hu,hj⟩;exact(hj'.wL ap hx hu' hu).one ap hj
 obtain⟨lv,hlv⟩:=hlv;have:=Ztp k (N.map lv) (fun j h1 h2=>by
  obtain⟨x,hx,u,hu,hj⟩:=h.al3 ap j h1 h2
  grind)
 simpa using this
end
variable{f:Nat->Nat}{u:Nat}
def hasB(N:List Nd):Nat->Nat->Bool
 |0,v=>N.all fun x=>!x.to.contains v|f+1,v=>N.all fun x=>!x.to.contains v||x.bj.all (hasB N f)
theorem aaH{N:List Nd}(ap:ik N):∀(f v:Nat),hasB N f v=true↔∃k,k<=f/\dB N v k:=by
 intro f
 induction f with
 |zero=>
  intro v;constructor
  .intro h;refine⟨0,rt _,.free v fun x hx hv=>?_⟩;have:=In.1 h x hx;simp at this;exact this hv
  .rintro⟨k,hk,hl⟩;obtain rfl:k=0:=atO
   refine In.2 fun x hx=>?_;simp;intro hv;obtain⟨g,_,h⟩:=hl.inv ap hx hv;omega
 |succ f ih=>
  intro v;constructor
  .intro h;by_cases hfree:∃x∈N,v∈x.to
   .obtain⟨x,hx,hv⟩:=hfree;have:=In.1 h x hx;simp[hv]at this;have hg:∃g:Nat->Nat,∀u∈x.bj,g u<=f/\dB N u (g u):=by refine⟨fun u=>Classical.epsilon fun k=>k<=f/\dB N u k,fun u hu=>?_⟩;exact Classical.epsilon_spec ((ih u).1 (this u hu))
    obtain⟨g,hg⟩:=hg;refine⟨_,?_,.node x v g hx hv fun u hu=>(hg u hu).2⟩;have:mx (x.bj.map g)<=f:=Zx fun y hy=>by grind
    omega
   .exact⟨0,GT _,.free v fun x hx hv=>hfree ⟨x,hx,hv⟩⟩
  .rintro⟨k,hk,hl⟩;refine In.2 fun x hx=>?_;by_cases hv:v∈x.to
   .simp[hv];intro u hu;obtain⟨k',h1,h2⟩:=hl.bj ap hx hv hu;exact(ih u).2 ⟨k',atO,h2⟩
   .simp[hv]
def dT(N:List Nd)(V:Nat):Bool:=(List.range (V+1)).all (hasB N N.length)
theorem jL{N:List Nd}(ap:ik N)(V:Nat):dT N V=true↔∀v,v<=V->∃k,dB N v k:=by
 unfold dT;rw[In];constructor
 .intro h v hv;obtain⟨k,_,hk⟩:=(aaH ap _ v).1 (h v (Id.2 atO));exact⟨k,hk⟩
 .intro h v hv;obtain⟨k,hk⟩:=h v (by grind);exact(aaH ap _ v).2 ⟨k,hk.le ap,hk⟩
/- round by round -/
def aJ(l:jp)(v:Nat):Int:=l.getD v 0
theorem anP(l:jp)(i j:Nat)(x:Int):aJ (l.set i x) j=if i=j/\j<l.length then x else aJ l j:=by
 unfold aJ
 grind
def fL(l:jp)(vs:mt)(x:Int):jp:=vs.foldl (fun l v=>l.set v x) l
theorem ru(vs:mt)(x:Int):∀l,(fL l vs x).length=l.length:=by induction vs with|nil=>intro l;rfl|cons v vs ih=>intro l;show(fL (l.set v x) vs x).length=_;rw[ih,acl]
theorem gC(vs:mt)(x:Int):∀(l:jp) (j:Nat),aJ (fL l vs x) j=if j∈vs/\j<l.length then x else aJ l j:=by
 induction vs with
 |nil=>intro l j;simp[fL]|cons v vs ih=>
  intro l j;show aJ (fL (l.set v x) vs x) j=_;rw[ih,acl,anP]
  grind
theorem SY(l:jp)(vs:mt)(v:Nat)(x:Int):fL l (vs++[v]) x=(fL l vs x).set v x:=by simp[fL,asd]
def qd(out:jp):mt->Int->Int
 |[],n=>n+1|u::us,n=>if aJ out u<0 then -1 else qd out us (max n (aJ out u))
variable{out:jp}
theorem aaa:∀{us:mt}{n:Nat},(∀u∈us,aJ out u=(f u:Int))->qd out us n=(((us.map f).foldl max n:Nat):Int)+1:=by
 intro us
 induction us with
 |nil=>intro n _;rfl|cons u us ih=>
  intro n h;have hu:=h u atQ;rw[qd,BT atO,hu]
  grind
theorem akc:∀{us:mt}{n:Int},u∈us->aJ out u<0->qd out us n = -1:=by
 intro us
 induction us with
 |nil=>intro n h;cases h
 |cons y us ih=>
  intro n h hu;by_cases hy:aJ out y<0
  .rw[qd,IO hy]
  .rw[qd,BT hy]
   grind
def si(out:jp)(x:Nd):jp:=fL out x.to (qd out x.bj 0)
theorem Zun(out:jp)(x:Nd):(si out x).length=out.length:=ru _ _ _
def Zl2(N:List Nd)(out:jp):jp:=N.foldl si out
def Ja(N:List Nd):Nat->jp->jp
 |0,out=>out|r+1,out=>Zl2 N (Ja N r out)
structure Told(N:List Nd)(V r:Nat)(out:jp):Prop where
 len:out.length=V+1
 is:∀v,v<=V->aJ out v = -1\/∃k:Nat,aJ out v=(k:Int)/\dB N v k
 up:∀v k,v<=V->k<=r->dB N v k->aJ out v=(k:Int)
section
variable{N:List Nd}{V r:Nat}
theorem Told.level(ap:ik N)(bz:∀x∈N,∀u∈x.bj,u<=V)(t:Told N V r out)(hx:x∈N)(hv:v∈x.to) :
  qd out x.bj 0 = -1\/∃k:Nat,qd out x.bj 0=(k:Int)/\dB N v k:=by
 by_cases hu:∃u∈x.bj,aJ out u<0
 .obtain⟨u,h1,h2⟩:=hu;exact .inl (akc h1 h2)
 .right;have hg:∀u∈x.bj,aJ out u=((aJ out u).toNat:Int)/\dB N u (aJ out u).toNat:=fun u h=>by
   rcases t.is u (bz x hx u h)with h1|⟨k,h1,h2⟩
   .exact absurd ⟨u,h,atO⟩ hu
   grind
  refine⟨_,?_,.node x v (fun u=>(aJ out u).toNat) hx hv fun u h=>(hg u h).2⟩;rw[show(0:Int)=((0:Nat):Int)from rfl,aaa fun u h=>(hg u h).1];rfl
theorem Told.reach(ap:ik N)(bz:∀x∈N,∀u∈x.bj,u<=V)(t:Told N V r out)(hx:x∈N)(hv:v∈x.to)(hk:k<=r+1)(hl:dB N v k) :
  qd out x.bj 0=(k:Int):=by
 obtain⟨f,hf,rfl⟩:=hl.inv ap hx hv;have hs:∀u∈x.bj,aJ out u=(f u:Int):=fun u hu=>t.up u (f u) (bz x hx u hu) (by have:=Y2 (AI (f:=f) hu);omega) (hf u hu);rw[show(0:Int)=((0:Nat):Int)from rfl,aaa hs];simp[mx]
theorem Told.step(ap:ik N)(bz:∀x∈N,∀u∈x.bj,u<=V)(t:Told N V r out)(hx:x∈N):Told N V r (si out x):=by
 refine⟨by rw[Zun,t.len],fun v hv=>?_,fun v k hv hk hl=>?_⟩
 .unfold si;rw[gC];split
  .rename_i h;exact t.level ap bz hx h.1
  .exact t.is v hv
 .unfold si;rw[gC];split
  .rename_i h;exact t.reach ap bz hx h.1 atO hl
  .exact t.up v k hv hk hl
theorem Told.part(ap:ik N)(bz:∀x∈N,∀u∈x.bj,u<=V):∀(M:List Nd) (D:Nat->Prop),(∀x∈M,x∈N)->∀{out:jp},Told N V r out->(∀v k,v<=V->D v->k<=r+1->dB N v k->aJ out v=(k:Int)) ->
  Told N V r (M.foldl si out)/\∀v k,v<=V->(D v\/∃x∈M,v∈x.to)->k<=r+1->dB N v k->aJ (M.foldl si out) v=(k:Int):=by
 intro M
 induction M with
 |nil=>intro D _ out t hD;grind|cons x M ih=>
  intro D hM out t hD;have hx:x∈N:=hM x atQ;obtain⟨h1,h2⟩:=ih (fun v=>D v\/v∈x.to) (fun y hy=>hM y (by simp[hy])) (t.step ap bz hx) (fun v k hv hd hk hl=>by
   unfold si;rw[gC];split
   .rename_i h;exact t.reach ap bz hx h.1 hk hl
   .rename_i h;rcases hd with hd|hd
    .exact hD v k hv hd hk hl
    .exact absurd ⟨hd,by rw[t.len];omega⟩ h)
  grind
theorem Told.round(ap:ik N)(bz:∀x∈N,∀u∈x.bj,u<=V)(t:Told N V r out)(h0:∀v k,v<=V->(∀x∈N,v∉x.to)->dB N v k->aJ out v=(k:Int)):Told N V (r+1) (Zl2 N out):=by
 obtain⟨h1,h2⟩:=Told.part (r:=r) ap bz N (fun v=>∀x∈N,v∉x.to) (fun _ h=>h) t (fun v k hv hd _ hl=>h0 v k hv hd hl);refine⟨h1.len,h1.is,fun v k hv hk hl=>h2 v k hv ?_ hk hl⟩
 grind
theorem Told.free(ap:ik N)(t:Told N V r out)(hv:v<=V)(hf:∀x∈N,v∉x.to)(hl:dB N v k):aJ out v=(k:Int):=by have:=hl.one ap (.free v hf);subst this;exact t.up v 0 hv (GT _) hl
theorem Told.rounds(ap:ik N)(bz:∀x∈N,∀u∈x.bj,u<=V)(t:Told N V 0 out):∀r,Told N V r (Ja N r out)
 |0=>t|r+1=>(Told.rounds ap bz t r).round ap bz fun v k hv hf hl=>(Told.rounds ap bz t r).free ap hv hf hl
def wM(N:List Nd)(V:Nat):jp:=fL (List.replicate (V+1) 0) (N.flatMap (·.to)) (-1)
theorem aml(ap:ik N):Told N V 0 (wM N V):=by
 have hl:(List.replicate (V+1) (0:Int)).length=V+1:=atQ
 have hz:∀v,aJ (List.replicate (V+1) 0) v=0:=fun v=>by
  unfold aJ
  grind
 refine⟨by unfold wM;rw[ru,hl],fun v hv=>?_,fun v k hv hk h=>?_⟩
 .unfold wM;rw[gC,hz];split
  .exact .inl rfl
  .rename_i h;exact .inr ⟨0,rfl,.free v fun x hx hvx=>h ⟨rg.2 ⟨x,hx,hvx⟩,atO⟩⟩
 .obtain rfl:k=0:=atO
  unfold wM;rw[gC,hz,BT]
  .rfl
  .rintro⟨h1,_⟩;obtain⟨x,hx,hvx⟩:=rg.1 h1;obtain⟨f,_,h2⟩:=h.inv ap hx hvx;omega
theorem aqx(ap:ik N)(bz:∀x∈N,∀u∈x.bj,u<=V)(hv:v<=V)(hl:dB N v k):aJ (Ja N (N.length+1) (wM N V)) v=(k:Int):=((aml ap).rounds ap bz (N.length+1)).up v k hv (Nat.le_succ_of_le (hl.le ap)) hl
