import Derived.Test.YtmkbdfidnfmgmaaGreatKNa
set_option linter.all false
section
namespace Go.Proofs.YtmkbdfidnfmgmaaGreat
open Go.RowKit Pl
structure mo(e:TypeId)(base:Nat)(w w':World):Prop where
 below:Below base w w'
 box:∀(c:Nat) (t:TypeId) (cs:Array Value),bD w c t cs->t≠e->bD w' c t cs
section
variable{e:TypeId}{base:Nat}{a b c:World}
theorem mo.refl(e:TypeId)(base:Nat)(w:World):mo e base w w:=⟨Below.refl _ _,fun _ _ _ h _=>h⟩
theorem mo.trans(h:mo e base a b)(k:mo e base b c):mo e base a c:=⟨h.below.trans k.below,fun x t cs hb ht=>k.box x t cs (h.box x t cs hb ht) ht⟩
theorem mo.app{size n:Nat}{v:Value}{xs:mt}(h:mo e base a b)(own:b.ownsRow base e size v n xs)(hb:base<=b.heap.size)(g:b.grownBy c v.ownBlock):mo e base a c:=
 h.trans ⟨⟨g.os,g.tape,g.output,g.size,fun i hi=>g.block i auc fun e=>by have:=(own.lt i e.symm).1;omega⟩,
  fun x t cs hB ht=>hB.grown g fun e=>yY own hB (fun e=>ht e.symm) e.symm⟩
theorem mo.size(h:mo e base a b):a.heap.size<=b.heap.size:=h.below.size
end
theorem am5(m:aQ)(w:World)(hok:m.dk w w.heap.size):bD (w.alloc (.cells m.cells.toArray 97)) w.heap.size 97 m.cells.toArray/\Below w.heap.size w (w.alloc (.cells m.cells.toArray 97))/\m.dk (w.alloc (.cells m.cells.toArray 97)) w.heap.size/\(w.alloc (.cells m.cells.toArray 97)).heap.size=w.heap.size+1:=
 have hb:=(Below.refl _ w).alloc (ro _) (.cells m.cells.toArray 97)
 ⟨bD.new _ _ _,hb,hok.below hb,aue⟩
theorem bD.mem{w:World}{g:Nat}{m:aQ}(h:bD w g 97 m.cells.toArray):w.cell? ⟨g,0,none⟩=some (.int .i64 m.addr)/\w.cell? ⟨g,1,none⟩=some (.int .i64 m.word)/\w.cell? ⟨g,2,none⟩=some (.bool m.any)/\w.cell? ⟨g,3,none⟩=some (.slice m.A m.reads.length m.c)/\w.cell? ⟨g,4,none⟩=some (.slice m.A2 m.writes.length m.c2):=⟨h.cell 0,h.cell 1,h.cell 2,h.cell 3,h.cell 4⟩
theorem Zmy(a b:jp):ints (a++b)=ints a++ints b:=by simp[ints]
theorem Zkb(a:jp):(ints a).length=a.length:=by simp[ints]
theorem Ztf{w:World}{base:Nat}{v:Value}{a:jp}{x:Int}{b:jp}(h:w.ownsRow base 3 1 v (a.length+1) (ints a++#[Value.int .i64 x].toList))(e:b=a++[x]):w.ownsRow base 3 1 v b.length (ints b):=by subst e;rw[Zmy,bF];exact h
theorem apI{base:Nat}{w w':World}(h:Below base w w'){b:Nat}(hb:b<base)(o:Nat):w'.cell? ⟨b,o,none⟩=w.cell? ⟨b,o,none⟩:=h.cell (p:=⟨b,o,none⟩) hb
end Go.Proofs.YtmkbdfidnfmgmaaGreat
end
section
namespace Go.Proofs.YtmkbdfidnfmgmaaGreat.Pl
structure Nd where
 bq:md
 to:md
def mx(l:md):Nat:=l.foldl max 0
theorem aoW(l:md):∀a,a<=l.foldl max a:=by induction l with|nil=>intro a;exact ro _|cons x l ih=>intro a;grind
theorem aoJ(l:md):∀a x,x∈l->x<=l.foldl max a:=by
 induction l with
 |nil=>intro a x h;cases h
 |cons y l ih=>
  intro a x h;rcases Fn.1 h with rfl|h
  .exact EQ (Nat.le_max_right a x) (aoW l _)
  .exact ih _ x h
theorem Zx2(l:md):∀a,l.foldl max a=a\/l.foldl max a∈l:=by
 induction l with
 |nil=>intro a;exact .inl rfl|cons y l ih=>
  intro a
  grind
variable{l:md}
theorem abz{x:Nat}(h:x∈l):x<=mx l:=aoJ l 0 x h
theorem adm(l:md):mx l=0\/mx l∈l:=Zx2 l 0
variable{k:Nat}
theorem ab1(h:∀x∈l,x<=k):mx l<=k:=by
 rcases adm l with h1|h1
 .omega
 .exact h _ h1
theorem amj(l:md)(x:Nat):mx (l++[x])=max (mx l) x:=by simp[mx,aso]
def gC(N:List Nd):Prop:=∀(i j:Nat) (x y:Nd) (v:Nat),N[i]?=some x->N[j]?=some y->v∈x.to->v∈y.to->i=j
variable{v:Nat}{x:Nd}
theorem gC.same{N:List Nd}(ap:gC N){y:Nd}(hx:x∈N)(hy:y∈N)(h1:v∈x.to)(h2:v∈y.to):x=y:=by obtain⟨i,hi⟩:=LT hx;obtain⟨j,hj⟩:=LT hy;obtain rfl:=ap i j x y v hi hj h1 h2;rw[hi]at hj;injection hj
inductive dC(N:List Nd):Nat->Nat->Prop
 |free (v:Nat) (h:∀x∈N,v∉x.to):dC N v 0
 |node (x:Nd) (v:Nat) (f:Nat->Nat) (hx:x∈N) (hv:v∈x.to) (h:∀u∈x.bq,dC N u (f u)):dC N v (mx (x.bq.map f)+1)
section
variable{N:List Nd}
theorem dC.inv(ap:gC N)(h:dC N v k)(hx:x∈N)(hv:v∈x.to):∃f,(∀u∈x.bq,dC N u (f u))/\k=mx (x.bq.map f)+1:=by cases h with|free _ h=>exact absurd hv (h x hx)|node y _ f hy hv2 h=>obtain rfl:=ap.same hy hx hv2 hv;exact⟨f,h,rfl⟩
theorem Zti{f g:Nat->Nat}(h:∀u∈l,f u=g u):l.map f=l.map g:=WF h
theorem dC.one(ap:gC N)(h:dC N v k):∀{k':Nat},dC N v k'->k=k':=by
 induction h with
 |free v h=>intro k' h';cases h' with|free _ _=>rfl|node x _ f hx hv _=>exact absurd hv (h x hx)
 |node x v f hx hv _ ih=>intro k' h';obtain⟨g,hg,rfl⟩:=h'.inv ap hx hv;rw[Zti fun u hu=>ih u hu (hg u hu)]
theorem dC.bq(ap:gC N){u:Nat}(h:dC N v k)(hx:x∈N)(hv:v∈x.to)(hu:u∈x.bq):∃k',k'<k/\dC N u k':=by obtain⟨f,hf,rfl⟩:=h.inv ap hx hv;exact⟨f u,Nat.lt_succ_of_le (abz (AT hu)),hf u hu⟩
theorem dC.yr{v':Nat}(ap:gC N)(h:dC N v k)(hx:x∈N)(hv:v∈x.to)(hv':v'∈x.to):dC N v' k:=by obtain⟨f,hf,rfl⟩:=h.inv ap hx hv;exact .node x v' f hx hv' hf
inductive mY(N:List Nd):Nat->Nat->Prop
 |one (x:Nd) (u v:Nat) (hx:x∈N) (hu:u∈x.to) (hv:v∈x.bq):mY N u v
 |more (x:Nd) (u v t:Nat) (h:mY N u v) (hx:x∈N) (hv:v∈x.to) (ht:t∈x.bq):mY N u t
theorem mY.lower(ap:gC N){u:Nat}(h:mY N u v):∀{k:Nat},dC N u k->∃k',k'<k/\dC N v k':=by induction h with|one x u v hx hu hv=>intro k hk;exact hk.bq ap hx hu hv|more x u v t _ hx hv ht ih=>intro k hk;obtain⟨k1,h1,l1⟩:=ih hk;obtain⟨k2,h2,l2⟩:=l1.bq ap hx hv ht;exact⟨k2,auc,l2⟩
theorem mY.none(ap:gC N)(h:mY N v v)(k:Nat):¬dC N v k:=fun hk=>by obtain⟨k',h1,h2⟩:=h.lower ap hk;have:=hk.one ap h2;omega
theorem TZ:∀(k:Nat) (L:md),(∀j,1<=j->j<=k->j∈L)->k<=L.length:=by
 intro k
 induction k with
 |zero=>intro L _;exact Do _|succ k ih=>
  intro L h;have hm:=h (k+1) auc (ro _);have h2:=ih (L.erase (k+1)) (fun j h1 h2=>(List.mem_erase_of_ne auc).2 (h j h1 auc))
  grind
theorem dC.an9(ap:gC N)(h:dC N v k):∀j,1<=j->j<=k->∃x∈N,∃u∈x.to,dC N u j:=by
 induction h with
 |free v h=>intro j h1 h2;omega|node x v f hx hv h ih=>
  intro j h1 h2;by_cases e:j=mx (x.bq.map f)+1
  .subst e;exact⟨x,hx,v,hv,.node x v f hx hv h⟩
  .rcases adm (x.bq.map f)with h0|h0
   .omega
   grind
theorem dC.le(ap:gC N)(h:dC N v k):k<=N.length:=by
 have hlv:∃lv:Nd->Nat,∀x∈N,∀u∈x.to,∀j,dC N u j->lv x=j:=by refine⟨fun x=>Classical.epsilon fun j=>∃u∈x.to,dC N u j,fun x hx u hu j hj=>?_⟩;obtain⟨u',hu',hj'⟩:=Classical.epsilon_spec (p:=fun j=>∃u∈x.to,dC N u j) ⟨j,u,hu,hj⟩;exact(hj'.yr ap hx hu' hu).one ap hj
 obtain⟨lv,hlv⟩:=hlv;have:=TZ k (N.map lv) (fun j h1 h2=>by
  obtain⟨x,hx,u,hu,hj⟩:=h.an9 ap j h1 h2
  grind)
 simpa using this
end
variable{f:Nat->Nat}{u:Nat}
def hasB(N:List Nd):Nat->Nat->Bool
 |0,v=>N.all fun x=>!x.to.contains v|f+1,v=>N.all fun x=>!x.to.contains v||x.bq.all (hasB N f)
theorem adn{N:List Nd}(ap:gC N):∀(f v:Nat),hasB N f v=true↔∃k,k<=f/\dC N v k:=by
 intro f
 induction f with
 |zero=>
  intro v;constructor
  .intro h;refine⟨0,ro _,.free v fun x hx hv=>?_⟩;have:=acl.1 h x hx;simp at this;exact this hv
  .rintro⟨k,hk,hl⟩;obtain rfl:k=0:=auc
   refine acl.2 fun x hx=>?_;simp;intro hv;obtain⟨g,_,h⟩:=hl.inv ap hx hv;omega
 |succ f ih=>
  intro v;constructor
  .intro h;by_cases hfree:∃x∈N,v∈x.to
   .obtain⟨x,hx,hv⟩:=hfree;have:=acl.1 h x hx;simp[hv]at this;have hg:∃g:Nat->Nat,∀u∈x.bq,g u<=f/\dC N u (g u):=by refine⟨fun u=>Classical.epsilon fun k=>k<=f/\dC N u k,fun u hu=>?_⟩;exact Classical.epsilon_spec ((ih u).1 (this u hu))
    obtain⟨g,hg⟩:=hg;refine⟨_,?_,.node x v g hx hv fun u hu=>(hg u hu).2⟩;have:mx (x.bq.map g)<=f:=ab1 fun y hy=>by grind
    omega
   .exact⟨0,Do _,.free v fun x hx hv=>hfree ⟨x,hx,hv⟩⟩
  .rintro⟨k,hk,hl⟩;refine acl.2 fun x hx=>?_;by_cases hv:v∈x.to
   .simp[hv];intro u hu;obtain⟨k',h1,h2⟩:=hl.bq ap hx hv hu;exact(ih u).2 ⟨k',auc,h2⟩
   .simp[hv]
def dO(N:List Nd)(V:Nat):Bool:=(List.range (V+1)).all (hasB N N.length)
theorem jW{N:List Nd}(ap:gC N)(V:Nat):dO N V=true↔∀v,v<=V->∃k,dC N v k:=by
 unfold dO;rw[acl];constructor
 .intro h v hv;obtain⟨k,_,hk⟩:=(adn ap _ v).1 (h v (act.2 auc));exact⟨k,hk⟩
 .intro h v hv;obtain⟨k,hk⟩:=h v (by grind);exact(adn ap _ v).2 ⟨k,hk.le ap,hk⟩
/- round by round -/
def aT(l:jp)(v:Nat):Int:=l.getD v 0
theorem adW(l:jp)(i j:Nat)(x:Int):aT (l.set i x) j=if i=j/\j<l.length then x else aT l j:=by
 unfold aT
 grind
def dT(l:jp)(vs:md)(x:Int):jp:=vs.foldl (fun l v=>l.set v x) l
theorem lT(vs:md)(x:Int):∀l,(dT l vs x).length=l.length:=by induction vs with|nil=>intro l;rfl|cons v vs ih=>intro l;show(dT (l.set v x) vs x).length=_;rw[ih,aig]
theorem gk(vs:md)(x:Int):∀(l:jp) (j:Nat),aT (dT l vs x) j=if j∈vs/\j<l.length then x else aT l j:=by
 induction vs with
 |nil=>intro l j;simp[dT]|cons v vs ih=>
  intro l j;show aT (dT (l.set v x) vs x) j=_;rw[ih,aig,adW]
  grind
theorem yT(l:jp)(vs:md)(v:Nat)(x:Int):dT l (vs++[v]) x=(dT l vs x).set v x:=by simp[dT,aso]
def gF(out:jp):md->Int->Int
 |[],n=>n+1|u::us,n=>if aT out u<0 then -1 else gF out us (max n (aT out u))
variable{out:jp}
theorem acQ:∀{us:md}{n:Nat},(∀u∈us,aT out u=(f u:Int))->gF out us n=(((us.map f).foldl max n:Nat):Int)+1:=by
 intro us
 induction us with
 |nil=>intro n _;rfl|cons u us ih=>
  intro n h;have hu:=h u aue;rw[gF,Fr auc,hu]
  grind
theorem ama:∀{us:md}{n:Int},u∈us->aT out u<0->gF out us n = -1:=by
 intro us
 induction us with
 |nil=>intro n h;cases h
 |cons y us ih=>
  intro n h hu;by_cases hy:aT out y<0
  .rw[gF,IO hy]
  .rw[gF,Fr hy]
   grind
def jT(out:jp)(x:Nd):jp:=dT out x.to (gF out x.bq 0)
theorem T9(out:jp)(x:Nd):(jT out x).length=out.length:=lT _ _ _
def jO(N:List Nd)(out:jp):jp:=N.foldl jT out
def jB:List Nd->jp->Nat
 |[],_=>0|x::N,out=>(if gF out x.bq 0<0 then 1 else 0)+jB N (jT out x)
def jt(N:List Nd):Nat->jp->jp
 |0,out=>out|r+1,out=>jO N (jt N r out)
structure Told(N:List Nd)(V r:Nat)(out:jp):Prop where
 len:out.length=V+1
 is:∀v,v<=V->aT out v = -1\/∃k:Nat,aT out v=(k:Int)/\dC N v k
 up:∀v k,v<=V->k<=r->dC N v k->aT out v=(k:Int)
section
variable{N:List Nd}{V r:Nat}
theorem Told.level(ap:gC N)(aS:∀x∈N,∀u∈x.bq,u<=V)(t:Told N V r out)(hx:x∈N)(hv:v∈x.to) :
  gF out x.bq 0 = -1\/∃k:Nat,gF out x.bq 0=(k:Int)/\dC N v k:=by
 by_cases hu:∃u∈x.bq,aT out u<0
 .obtain⟨u,h1,h2⟩:=hu;exact .inl (ama h1 h2)
 .right;have hg:∀u∈x.bq,aT out u=((aT out u).toNat:Int)/\dC N u (aT out u).toNat:=fun u h=>by
   rcases t.is u (aS x hx u h)with h1|⟨k,h1,h2⟩
   .exact absurd ⟨u,h,auc⟩ hu
   grind
  refine⟨_,?_,.node x v (fun u=>(aT out u).toNat) hx hv fun u h=>(hg u h).2⟩;rw[show(0:Int)=((0:Nat):Int)from rfl,acQ fun u h=>(hg u h).1];rfl
theorem Told.reach(ap:gC N)(aS:∀x∈N,∀u∈x.bq,u<=V)(t:Told N V r out)(hx:x∈N)(hv:v∈x.to)(hk:k<=r+1)(hl:dC N v k) :
  gF out x.bq 0=(k:Int):=by
 obtain⟨f,hf,rfl⟩:=hl.inv ap hx hv;have hs:∀u∈x.bq,aT out u=(f u:Int):=fun u hu=>t.up u (f u) (aS x hx u hu) (by have:=abz (AT (f:=f) hu);omega) (hf u hu);rw[show(0:Int)=((0:Nat):Int)from rfl,acQ hs];simp[mx]
theorem Told.step(ap:gC N)(aS:∀x∈N,∀u∈x.bq,u<=V)(t:Told N V r out)(hx:x∈N):Told N V r (jT out x):=by
 refine⟨by rw[T9,t.len],fun v hv=>?_,fun v k hv hk hl=>?_⟩
 .unfold jT;rw[gk];split
  .rename_i h;exact t.level ap aS hx h.1
  .exact t.is v hv
 .unfold jT;rw[gk];split
  .rename_i h;exact t.reach ap aS hx h.1 auc hl
  .exact t.up v k hv hk hl
theorem Told.part(ap:gC N)(aS:∀x∈N,∀u∈x.bq,u<=V):∀(M:List Nd) (D:Nat->Prop),(∀x∈M,x∈N)->∀{out:jp},Told N V r out->(∀v k,v<=V->D v->k<=r+1->dC N v k->aT out v=(k:Int)) ->
  Told N V r (M.foldl jT out)/\∀v k,v<=V->(D v\/∃x∈M,v∈x.to)->k<=r+1->dC N v k->aT (M.foldl jT out) v=(k:Int):=by
 intro M
 induction M with
 |nil=>intro D _ out t hD;grind|cons x M ih=>
  intro D hM out t hD;have hx:x∈N:=hM x aue;obtain⟨h1,h2⟩:=ih (fun v=>D v\/v∈x.to) (fun y hy=>hM y (by simp[hy])) (t.step ap aS hx) (fun v k hv hd hk hl=>by
   unfold jT;rw[gk];split
   .rename_i h;exact t.reach ap aS hx h.1 hk hl
   .rename_i h;rcases hd with hd|hd
    .exact hD v k hv hd hk hl
    .exact absurd ⟨hd,by rw[t.len];omega⟩ h)
  grind
theorem Told.round(ap:gC N)(aS:∀x∈N,∀u∈x.bq,u<=V)(t:Told N V r out)(h0:∀v k,v<=V->(∀x∈N,v∉x.to)->dC N v k->aT out v=(k:Int)):Told N V (r+1) (jO N out):=by
 obtain⟨h1,h2⟩:=Told.part (r:=r) ap aS N (fun v=>∀x∈N,v∉x.to) (fun _ h=>h) t (fun v k hv hd _ hl=>h0 v k hv hd hl);refine⟨h1.len,h1.is,fun v k hv hk hl=>h2 v k hv ?_ hk hl⟩
 grind
theorem Told.free(ap:gC N)(t:Told N V r out)(hv:v<=V)(hf:∀x∈N,v∉x.to)(hl:dC N v k):aT out v=(k:Int):=by have:=hl.one ap (.free v hf);subst this;exact t.up v 0 hv (Do _) hl
theorem Told.rounds(ap:gC N)(aS:∀x∈N,∀u∈x.bq,u<=V)(t:Told N V 0 out):∀r,Told N V r (jt N r out)
 |0=>t|r+1=>(Told.rounds ap aS t r).round ap aS fun v k hv hf hl=>(Told.rounds ap aS t r).free ap hv hf hl
def kI(N:List Nd)(V:Nat):jp:=dT (List.replicate (V+1) 0) (N.flatMap (·.to)) (-1)
theorem acd(ap:gC N):Told N V 0 (kI N V):=by
 have hl:(List.replicate (V+1) (0:Int)).length=V+1:=aue
 have hz:∀v,aT (List.replicate (V+1) 0) v=0:=fun v=>by
  unfold aT
  grind
 refine⟨by unfold kI;rw[lT,hl],fun v hv=>?_,fun v k hv hk h=>?_⟩
 .unfold kI;rw[gk,hz];split
  .exact .inl rfl
  .rename_i h;exact .inr ⟨0,rfl,.free v fun x hx hvx=>h ⟨rc.2 ⟨x,hx,hvx⟩,auc⟩⟩
 .obtain rfl:k=0:=auc
  unfold kI;rw[gk,hz,Fr]
  .rfl
  .rintro⟨h1,_⟩;obtain⟨x,hx,hvx⟩:=rc.1 h1;obtain⟨f,_,h2⟩:=h.inv ap hx hvx;omega
theorem tJ(ap:gC N)(aS:∀x∈N,∀u∈x.bq,u<=V):∀(M:List Nd),(∀x∈M,x∈N)->∀{out:jp},Told N V r out->(jB M out=0->∀x∈M,∀v∈x.to,∃k,dC N v k)/\((∀x∈M,x.to≠[]/\∀v∈x.to,v<=V/\∃k,k<=r+1/\dC N v k)->jB M out=0):=by
 intro M
 induction M with
 |nil=>intro _ out _;exact⟨fun _ x hx=>(by cases hx),fun _=>rfl⟩
 |cons x M ih=>
  intro hM out t;have hx:x∈N:=hM x aue;obtain⟨i1,i2⟩:=ih (fun y hy=>hM y (by simp[hy])) (t.step ap aS hx);constructor
  .intro h y hy v hv;simp only[jB]at h;rcases Fn.1 hy with rfl|hy
   .rcases t.level ap aS hx hv with h1|⟨k,_,h2⟩
    .rw[IO auc]at h;omega
    .exact⟨k,h2⟩
   .exact i1 auc y hy v hv
  .intro h;obtain⟨h1,h2⟩:=h x aue;obtain⟨v,vs,hvs⟩:=List.exists_cons_of_ne_nil h1;obtain⟨_,k,hk,hl⟩:=h2 v (by simp[hvs]);have:=t.reach ap aS hx (v:=v) (by simp[hvs]) hk hl;simp only[jB]
   grind
theorem ao5(ap:gC N)(aS:∀x∈N,∀u∈x.bq,u<=V)(d8:∀x∈N,x.to≠[]/\∀v∈x.to,v<=V):jB N (jt N N.length (kI N V))=0↔dO N V=true:=by
 obtain⟨h1,h2⟩:=tJ (r:=N.length) ap aS N (fun _ h=>h) ((acd ap).rounds ap aS N.length);rw[jW ap];constructor
 .intro h v hv;by_cases hf:∃x∈N,v∈x.to
  .obtain⟨x,hx,hvx⟩:=hf;exact h1 h x hx v hvx
  .exact⟨0,.free v fun x hx hvx=>hf ⟨x,hx,hvx⟩⟩
 .intro h;refine h2 fun x hx=>⟨(d8 x hx).1,fun v hv=>⟨(d8 x hx).2 v hv,?_⟩⟩;obtain⟨k,hk⟩:=h v ((d8 x hx).2 v hv);exact⟨k,Nat.le_succ_of_le (hk.le ap),hk⟩
theorem arF(ap:gC N)(aS:∀x∈N,∀u∈x.bq,u<=V)(hv:v<=V)(hl:dC N v k):aT (jt N (N.length+1) (kI N V)) v=(k:Int):=((acd ap).rounds ap aS (N.length+1)).up v k hv (Nat.le_succ_of_le (hl.le ap)) hl
