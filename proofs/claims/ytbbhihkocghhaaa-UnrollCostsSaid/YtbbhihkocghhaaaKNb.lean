import Derived.Test.YtbbhihkocghhaaaKNa
set_option linter.all false
section
namespace Go.Proofs.Ytbbhihkocghhaaa
open Go.RowKit Pl
structure Ks(e:TypeId)(base:Nat)(w w':World):Prop where
 below:Below base w w'
 box:∀(c:Nat) (t:TypeId) (cs:Array Value),av w c t cs->t≠e->av w' c t cs
section
variable{e:TypeId}{base:Nat}{a b c:World}
theorem Ks.size(h:Ks e base a b):a.heap.size<=b.heap.size:=h.below.size
end
end Go.Proofs.Ytbbhihkocghhaaa
end
section
namespace Go.Proofs.Ytbbhihkocghhaaa.Pl
structure Nd where
 ax:jp
 to:jp
def mx(l:jp):Nat:=l.foldl max 0
theorem Wy(l:jp):∀a,a<=l.foldl max a:=by induction l with|nil=>intro a;exact ol _|cons x l ih=>intro a;grind
theorem Wk(l:jp):∀a x,x∈l->x<=l.foldl max a:=by
 induction l with
 |nil=>intro a x h;cases h
 |cons y l ih=>
  intro a x h;rcases BY.1 h with rfl|h
  .exact pp (Nat.le_max_right a x) (Wy l _)
  .exact ih _ x h
theorem Zx2(l:jp):∀a,l.foldl max a=a\/l.foldl max a∈l:=by
 induction l with
 |nil=>intro a;exact .inl rfl|cons y l ih=>
  intro a
  grind
variable{l:jp}
theorem JX{x:Nat}(h:x∈l):x<=mx l:=Wk l 0 x h
theorem Lv(l:jp):mx l=0\/mx l∈l:=Zx2 l 0
variable{k:Nat}
theorem Kg(h:∀x∈l,x<=k):mx l<=k:=by
 rcases Lv l with h1|h1
 .omega
 .exact h _ h1
theorem Uh(l:jp)(x:Nat):mx (l++[x])=max (mx l) x:=by simp[mx,abX]
def dW(N:List Nd):Prop:=∀(i j:Nat) (x y:Nd) (v:Nat),N[i]?=some x->N[j]?=some y->v∈x.to->v∈y.to->i=j
variable{x:Nd}{v:Nat}
theorem dW.same{N:List Nd}(ap:dW N){y:Nd}(hx:x∈N)(hy:y∈N)(h1:v∈x.to)(h2:v∈y.to):x=y:=by obtain⟨i,hi⟩:=abb hx;obtain⟨j,hj⟩:=abb hy;obtain rfl:=ap i j x y v hi hj h1 h2;rw[hi]at hj;injection hj
inductive cw(N:List Nd):Nat->Nat->Prop
 |free (v:Nat) (h:∀x∈N,v∉x.to):cw N v 0
 |node (x:Nd) (v:Nat) (f:Nat->Nat) (hx:x∈N) (hv:v∈x.to) (h:∀u∈x.ax,cw N u (f u)):cw N v (mx (x.ax.map f)+1)
section
variable{N:List Nd}
theorem cw.inv(ap:dW N)(h:cw N v k)(hx:x∈N)(hv:v∈x.to):∃f,(∀u∈x.ax,cw N u (f u))/\k=mx (x.ax.map f)+1:=by cases h with|free _ h=>exact absurd hv (h x hx)|node y _ f hy hv2 h=>obtain rfl:=ap.same hy hx hv2 hv;exact⟨f,h,rfl⟩
theorem Qo{f g:Nat->Nat}(h:∀u∈l,f u=g u):l.map f=l.map g:=acd h
theorem cw.one(ap:dW N)(h:cw N v k):∀{k':Nat},cw N v k'->k=k':=by
 induction h with
 |free v h=>intro k' h';cases h' with|free _ _=>rfl|node x _ f hx hv _=>exact absurd hv (h x hx)
 |node x v f hx hv _ ih=>intro k' h';obtain⟨g,hg,rfl⟩:=h'.inv ap hx hv;rw[Qo fun u hu=>ih u hu (hg u hu)]
theorem cw.ax(ap:dW N){u:Nat}(h:cw N v k)(hx:x∈N)(hv:v∈x.to)(hu:u∈x.ax):∃k',k'<k/\cw N u k':=by obtain⟨f,hf,rfl⟩:=h.inv ap hx hv;exact⟨f u,Nat.lt_succ_of_le (JX (UV hu)),hf u hu⟩
theorem cw.sB{v':Nat}(ap:dW N)(h:cw N v k)(hx:x∈N)(hv:v∈x.to)(hv':v'∈x.to):cw N v' k:=by obtain⟨f,hf,rfl⟩:=h.inv ap hx hv;exact .node x v' f hx hv' hf
inductive kb(N:List Nd):Nat->Nat->Prop
 |one (x:Nd) (u v:Nat) (hx:x∈N) (hu:u∈x.to) (hv:v∈x.ax):kb N u v
 |more (x:Nd) (u v t:Nat) (h:kb N u v) (hx:x∈N) (hv:v∈x.to) (ht:t∈x.ax):kb N u t
theorem kb.lower(ap:dW N){u:Nat}(h:kb N u v):∀{k:Nat},cw N u k->∃k',k'<k/\cw N v k':=by induction h with|one x u v hx hu hv=>intro k hk;exact hk.ax ap hx hu hv|more x u v t _ hx hv ht ih=>intro k hk;obtain⟨k1,h1,l1⟩:=ih hk;obtain⟨k2,h2,l2⟩:=l1.ax ap hx hv ht;exact⟨k2,acs,l2⟩
theorem kb.none(ap:dW N)(h:kb N v v)(k:Nat):¬cw N v k:=fun hk=>by obtain⟨k',h1,h2⟩:=h.lower ap hk;have:=hk.one ap h2;omega
theorem Qp:∀(k:Nat) (L:jp),(∀j,1<=j->j<=k->j∈L)->k<=L.length:=by
 intro k
 induction k with
 |zero=>intro L _;exact Fn _|succ k ih=>
  intro L h;have hm:=h (k+1) acs (ol _);have h2:=ih (L.erase (k+1)) (fun j h1 h2=>(List.mem_erase_of_ne acs).2 (h j h1 acs))
  grind
theorem cw.VH(ap:dW N)(h:cw N v k):∀j,1<=j->j<=k->∃x∈N,∃u∈x.to,cw N u j:=by
 induction h with
 |free v h=>intro j h1 h2;omega|node x v f hx hv h ih=>
  intro j h1 h2;by_cases e:j=mx (x.ax.map f)+1
  .subst e;exact⟨x,hx,v,hv,.node x v f hx hv h⟩
  .rcases Lv (x.ax.map f)with h0|h0
   .omega
   grind
theorem cw.le(ap:dW N)(h:cw N v k):k<=N.length:=by
 have hlv:∃lv:Nd->Nat,∀x∈N,∀u∈x.to,∀j,cw N u j->lv x=j:=by refine⟨fun x=>Classical.epsilon fun j=>∃u∈x.to,cw N u j,fun x hx u hu j hj=>?_⟩;obtain⟨u',hu',hj'⟩:=Classical.epsilon_spec (p:=fun j=>∃u∈x.to,cw N u j) ⟨j,u,hu,hj⟩;exact(hj'.sB ap hx hu' hu).one ap hj
 obtain⟨lv,hlv⟩:=hlv;have:=Qp k (N.map lv) (fun j h1 h2=>by
  obtain⟨x,hx,u,hu,hj⟩:=h.VH ap j h1 h2
  grind)
 simpa using this
end
variable{f:Nat->Nat}{u:Nat}
def hasB(N:List Nd):Nat->Nat->Bool
 |0,v=>N.all fun x=>!x.to.contains v|f+1,v=>N.all fun x=>!x.to.contains v||x.ax.all (hasB N f)
theorem Lw{N:List Nd}(ap:dW N):∀(f v:Nat),hasB N f v=true↔∃k,k<=f/\cw N v k:=by
 intro f
 induction f with
 |zero=>
  intro v;constructor
  .intro h;refine⟨0,ol _,.free v fun x hx hv=>?_⟩;have:=abs.1 h x hx;simp at this;exact this hv
  .rintro⟨k,hk,hl⟩;obtain rfl:k=0:=acs
   refine abs.2 fun x hx=>?_;simp;intro hv;obtain⟨g,_,h⟩:=hl.inv ap hx hv;omega
 |succ f ih=>
  intro v;constructor
  .intro h;by_cases hfree:∃x∈N,v∈x.to
   .obtain⟨x,hx,hv⟩:=hfree;have:=abs.1 h x hx;simp[hv]at this;have hg:∃g:Nat->Nat,∀u∈x.ax,g u<=f/\cw N u (g u):=by refine⟨fun u=>Classical.epsilon fun k=>k<=f/\cw N u k,fun u hu=>?_⟩;exact Classical.epsilon_spec ((ih u).1 (this u hu))
    obtain⟨g,hg⟩:=hg;refine⟨_,?_,.node x v g hx hv fun u hu=>(hg u hu).2⟩;have:mx (x.ax.map g)<=f:=Kg fun y hy=>by grind
    omega
   .exact⟨0,Fn _,.free v fun x hx hv=>hfree ⟨x,hx,hv⟩⟩
  .rintro⟨k,hk,hl⟩;refine abs.2 fun x hx=>?_;by_cases hv:v∈x.to
   .simp[hv];intro u hu;obtain⟨k',h1,h2⟩:=hl.ax ap hx hv hu;exact(ih u).2 ⟨k',acs,h2⟩
   .simp[hv]
def fF(N:List Nd)(V:Nat):Bool:=(List.range (V+1)).all (hasB N N.length)
theorem vN{N:List Nd}(ap:dW N)(V:Nat):fF N V=true↔∀v,v<=V->∃k,cw N v k:=by
 unfold fF;rw[abs];constructor
 .intro h v hv;obtain⟨k,_,hk⟩:=(Lw ap _ v).1 (h v (List.mem_range.2 acs));exact⟨k,hk⟩
 .intro h v hv;obtain⟨k,hk⟩:=h v (by grind);exact(Lw ap _ v).2 ⟨k,hk.le ap,hk⟩
/- round by round -/
def aw(l:io)(v:Nat):Int:=l.getD v 0
theorem Ml(l:io)(i j:Nat)(x:Int):aw (l.set i x) j=if i=j/\j<l.length then x else aw l j:=by
 unfold aw
 grind
def cg(l:io)(vs:jp)(x:Int):io:=vs.foldl (fun l v=>l.set v x) l
theorem jK(vs:jp)(x:Int):∀l,(cg l vs x).length=l.length:=by induction vs with|nil=>intro l;rfl|cons v vs ih=>intro l;show(cg (l.set v x) vs x).length=_;rw[ih,abU]
theorem dO(vs:jp)(x:Int):∀(l:io) (j:Nat),aw (cg l vs x) j=if j∈vs/\j<l.length then x else aw l j:=by
 induction vs with
 |nil=>intro l j;simp[cg]|cons v vs ih=>
  intro l j;show aw (cg (l.set v x) vs x) j=_;rw[ih,abU,Ml]
  grind
theorem tp(l:io)(vs:jp)(v:Nat)(x:Int):cg l (vs++[v]) x=(cg l vs x).set v x:=by simp[cg,abX]
def dZ(out:io):jp->Int->Int
 |[],n=>n+1|u::us,n=>if aw out u<0 then -1 else dZ out us (max n (aw out u))
variable{out:io}
theorem KJ:∀{us:jp}{n:Nat},(∀u∈us,aw out u=(f u:Int))->dZ out us n=(((us.map f).foldl max n:Nat):Int)+1:=by
 intro us
 induction us with
 |nil=>intro n _;rfl|cons u us ih=>
  intro n h;have hu:=h u acv;rw[dZ,qr acs,hu]
  grind
theorem Ud:∀{us:jp}{n:Int},u∈us->aw out u<0->dZ out us n = -1:=by
 intro us
 induction us with
 |nil=>intro n h;cases h
 |cons y us ih=>
  intro n h hu;by_cases hy:aw out y<0
  .rw[dZ,ut hy]
  .rw[dZ,qr hy]
   grind
def gK(out:io)(x:Nd):io:=cg out x.to (dZ out x.ax 0)
theorem Qr(out:io)(x:Nd):(gK out x).length=out.length:=jK _ _ _
def iB(N:List Nd)(out:io):io:=N.foldl gK out
def gp:List Nd->io->Nat
 |[],_=>0|x::N,out=>(if dZ out x.ax 0<0 then 1 else 0)+gp N (gK out x)
def iw(N:List Nd):Nat->io->io
 |0,out=>out|r+1,out=>iB N (iw N r out)
structure Told(N:List Nd)(V r:Nat)(out:io):Prop where
 len:out.length=V+1
 is:∀v,v<=V->aw out v = -1\/∃k:Nat,aw out v=(k:Int)/\cw N v k
 up:∀v k,v<=V->k<=r->cw N v k->aw out v=(k:Int)
section
variable{N:List Nd}{V r:Nat}
theorem Told.level(ap:dW N)(aR:∀x∈N,∀u∈x.ax,u<=V)(t:Told N V r out)(hx:x∈N)(hv:v∈x.to) :
  dZ out x.ax 0 = -1\/∃k:Nat,dZ out x.ax 0=(k:Int)/\cw N v k:=by
 by_cases hu:∃u∈x.ax,aw out u<0
 .obtain⟨u,h1,h2⟩:=hu;exact .inl (Ud h1 h2)
 .right;have hg:∀u∈x.ax,aw out u=((aw out u).toNat:Int)/\cw N u (aw out u).toNat:=fun u h=>by
   rcases t.is u (aR x hx u h)with h1|⟨k,h1,h2⟩
   .exact absurd ⟨u,h,acs⟩ hu
   grind
  refine⟨_,?_,.node x v (fun u=>(aw out u).toNat) hx hv fun u h=>(hg u h).2⟩;rw[show(0:Int)=((0:Nat):Int)from rfl,KJ fun u h=>(hg u h).1];rfl
theorem Told.reach(ap:dW N)(aR:∀x∈N,∀u∈x.ax,u<=V)(t:Told N V r out)(hx:x∈N)(hv:v∈x.to)(hk:k<=r+1)(hl:cw N v k) :
  dZ out x.ax 0=(k:Int):=by
 obtain⟨f,hf,rfl⟩:=hl.inv ap hx hv;have hs:∀u∈x.ax,aw out u=(f u:Int):=fun u hu=>t.up u (f u) (aR x hx u hu) (by have:=JX (UV (f:=f) hu);omega) (hf u hu);rw[show(0:Int)=((0:Nat):Int)from rfl,KJ hs];simp[mx]
theorem Told.step(ap:dW N)(aR:∀x∈N,∀u∈x.ax,u<=V)(t:Told N V r out)(hx:x∈N):Told N V r (gK out x):=by
 refine⟨by rw[Qr,t.len],fun v hv=>?_,fun v k hv hk hl=>?_⟩
 .unfold gK;rw[dO];split
  .rename_i h;exact t.level ap aR hx h.1
  .exact t.is v hv
 .unfold gK;rw[dO];split
  .rename_i h;exact t.reach ap aR hx h.1 acs hl
  .exact t.up v k hv hk hl
theorem Told.part(ap:dW N)(aR:∀x∈N,∀u∈x.ax,u<=V):∀(M:List Nd) (D:Nat->Prop),(∀x∈M,x∈N)->∀{out:io},Told N V r out->(∀v k,v<=V->D v->k<=r+1->cw N v k->aw out v=(k:Int)) ->
  Told N V r (M.foldl gK out)/\∀v k,v<=V->(D v\/∃x∈M,v∈x.to)->k<=r+1->cw N v k->aw (M.foldl gK out) v=(k:Int):=by
 intro M
 induction M with
 |nil=>intro D _ out t hD;grind|cons x M ih=>
  intro D hM out t hD;have hx:x∈N:=hM x acv;obtain⟨h1,h2⟩:=ih (fun v=>D v\/v∈x.to) (fun y hy=>hM y (by simp[hy])) (t.step ap aR hx) (fun v k hv hd hk hl=>by
   unfold gK;rw[dO];split
   .rename_i h;exact t.reach ap aR hx h.1 hk hl
   .rename_i h;rcases hd with hd|hd
    .exact hD v k hv hd hk hl
    .exact absurd ⟨hd,by rw[t.len];omega⟩ h)
  grind
theorem Told.round(ap:dW N)(aR:∀x∈N,∀u∈x.ax,u<=V)(t:Told N V r out)(h0:∀v k,v<=V->(∀x∈N,v∉x.to)->cw N v k->aw out v=(k:Int)):Told N V (r+1) (iB N out):=by
 obtain⟨h1,h2⟩:=Told.part (r:=r) ap aR N (fun v=>∀x∈N,v∉x.to) (fun _ h=>h) t (fun v k hv hd _ hl=>h0 v k hv hd hl);refine⟨h1.len,h1.is,fun v k hv hk hl=>h2 v k hv ?_ hk hl⟩
 grind
theorem Told.free(ap:dW N)(t:Told N V r out)(hv:v<=V)(hf:∀x∈N,v∉x.to)(hl:cw N v k):aw out v=(k:Int):=by have:=hl.one ap (.free v hf);subst this;exact t.up v 0 hv (Fn _) hl
theorem Told.rounds(ap:dW N)(aR:∀x∈N,∀u∈x.ax,u<=V)(t:Told N V 0 out):∀r,Told N V r (iw N r out)
 |0=>t|r+1=>(Told.rounds ap aR t r).round ap aR fun v k hv hf hl=>(Told.rounds ap aR t r).free ap hv hf hl
def i3(N:List Nd)(V:Nat):io:=cg (List.replicate (V+1) 0) (N.flatMap (·.to)) (-1)
theorem Kp(ap:dW N):Told N V 0 (i3 N V):=by
 have hl:(List.replicate (V+1) (0:Int)).length=V+1:=acv
 have hz:∀v,aw (List.replicate (V+1) 0) v=0:=fun v=>by
  unfold aw
  grind
 refine⟨by unfold i3;rw[jK,hl],fun v hv=>?_,fun v k hv hk h=>?_⟩
 .unfold i3;rw[dO,hz];split
  .exact .inl rfl
  .rename_i h;exact .inr ⟨0,rfl,.free v fun x hx hvx=>h ⟨Or.2 ⟨x,hx,hvx⟩,acs⟩⟩
 .obtain rfl:k=0:=acs
  unfold i3;rw[dO,hz,qr]
  .rfl
  .rintro⟨h1,_⟩;obtain⟨x,hx,hvx⟩:=Or.1 h1;obtain⟨f,_,h2⟩:=h.inv ap hx hvx;omega
theorem nK(ap:dW N)(aR:∀x∈N,∀u∈x.ax,u<=V):∀(M:List Nd),(∀x∈M,x∈N)->∀{out:io},Told N V r out->(gp M out=0->∀x∈M,∀v∈x.to,∃k,cw N v k)/\((∀x∈M,x.to≠[]/\∀v∈x.to,v<=V/\∃k,k<=r+1/\cw N v k)->gp M out=0):=by
 intro M
 induction M with
 |nil=>intro _ out _;exact⟨fun _ x hx=>(by cases hx),fun _=>rfl⟩
 |cons x M ih=>
  intro hM out t;have hx:x∈N:=hM x acv;obtain⟨i1,i2⟩:=ih (fun y hy=>hM y (by simp[hy])) (t.step ap aR hx);constructor
  .intro h y hy v hv;simp only[gp]at h;rcases BY.1 hy with rfl|hy
   .rcases t.level ap aR hx hv with h1|⟨k,_,h2⟩
    .rw[ut acs]at h;omega
    .exact⟨k,h2⟩
   .exact i1 acs y hy v hv
  .intro h;obtain⟨h1,h2⟩:=h x acv;obtain⟨v,vs,hvs⟩:=List.exists_cons_of_ne_nil h1;obtain⟨_,k,hk,hl⟩:=h2 v (by simp[hvs]);have:=t.reach ap aR hx (v:=v) (by simp[hvs]) hk hl;simp only[gp]
   grind
theorem WM(ap:dW N)(aR:∀x∈N,∀u∈x.ax,u<=V)(jn:∀x∈N,x.to≠[]/\∀v∈x.to,v<=V):gp N (iw N N.length (i3 N V))=0↔fF N V=true:=by
 obtain⟨h1,h2⟩:=nK (r:=N.length) ap aR N (fun _ h=>h) ((Kp ap).rounds ap aR N.length);rw[vN ap];constructor
 .intro h v hv;by_cases hf:∃x∈N,v∈x.to
  .obtain⟨x,hx,hvx⟩:=hf;exact h1 h x hx v hvx
  .exact⟨0,.free v fun x hx hvx=>hf ⟨x,hx,hvx⟩⟩
 .intro h;refine h2 fun x hx=>⟨(jn x hx).1,fun v hv=>⟨(jn x hx).2 v hv,?_⟩⟩;obtain⟨k,hk⟩:=h v ((jn x hx).2 v hv);exact⟨k,Nat.le_succ_of_le (hk.le ap),hk⟩
theorem Z7(ap:dW N)(aR:∀x∈N,∀u∈x.ax,u<=V)(hv:v<=V)(hl:cw N v k):aw (iw N (N.length+1) (i3 N V)) v=(k:Int):=((Kp ap).rounds ap aR (N.length+1)).up v k hv (Nat.le_succ_of_le (hl.le ap)) hl
