import Derived.Test.YtkcpdpplobhpaaaGreatWMd
set_option linter.unusedVariables false
set_option linter.unusedSimpArgs false
set_option linter.unnecessarySimpa false
section
namespace Go.Proofs.YtkcpdpplobhpaaaGreat.V
open Go Go.RowKit
open Go.Proofs.YtkcpdpplobhpaaaGreat.Ev (Tr Tr.cI nth dI PE mE ue pY Fo fC looks tmpsOf xP nW tO jr oZ nG tS left mark xR rz fJ j8 oX oV)
def wf(h:Hp):Prop:=∀id o,h.tr.get id=some o->id<h.next
theorem wf.le{h h':Hp}(w:wf h)(old:∀id,id<h.next->h'.tr.get id=h.tr.get id):fl h h':=fun b o q=>by rw[old b (w b o q)];exact q
structure One(P:Program)(sh:TypeId->Option Sh)(ops:Array Oper)(o:Oper)(st st':St)(v:AV):Prop where
 next:st.h.next<=st'.h.next
 old:∀id,id<st.h.next->st'.h.tr.get id=st.h.tr.get id
 wf:wf st'.h
 same:∀t,o.dst≠some t->st'.T.get t=st.T.get t
 now:PN P sh ops st.h.next st'.T st'.h o v
 dst:∀t,o.dst=some t->st'.T.get t=some v
theorem aj9{R:Type}{P:Program}{sh:TypeId->Option Sh}{n:Nat}{ops:Array Oper}{o:Oper}{st:St}{k:St->Option R}{r:R}(e:Kr P sh n ops o st k=some r)
  (hl:∀t,o.dst=some t->t∉looks ops.toList o):∃st' v,k st'=some r/\(wf st.h->One P sh ops o st st' v):=by
 unfold Kr at e;obtain⟨b,T₁,e,hT₁,hw⟩:=ai8 e;have bj:∀{T':Tr AV}{v:AV},gm n T₁ o.dst v=some T'->(∀t∈looks ops.toList o,T'.get t=st.T.get t)/\(∀t,o.dst≠some t->T'.get t=st.T.get t)/\∀t,o.dst=some t->T'.get t=some v:=by
  intro T' v hs;have hg:=oY hs;refine⟨fun t ht=>?_,fun t ht=>?_,fun t ht=>?_⟩
  .rw[hg t,if_neg (fun q=>hl t q ht)];exact hT₁ t
  .rw[hg t,if_neg ht];exact hT₁ t
  .rw[hg t,if_pos ht]
 cases b with
 |false=>
  simp only[]at e;split at e<;>try cases e
  rename_i T' hs;obtain⟨k1,k2,k3⟩:=bj hs;refine⟨_,.cM [],e,fun w=>⟨aS _,fun _ _=>rfl,w,k2,.inl ⟨?_,rfl⟩,k3⟩⟩;rw[xO (ops:=ops) (T:=st.T) k1];exact hw
 |true=>
  simp only[]at e;split at e
  .rename_i g ob v ha;split at e<;>try cases e
   rename_i tr T' ht hs;obtain⟨hg,e⟩:=nB e;subst hg;obtain⟨k1,k2,k3⟩:=bj hs;have hgt:=Tr.cI FT st.h.tr st.h.next _ tr ht;obtain⟨m1,m2⟩:=FU ha;refine⟨_,v,e,fun w=>⟨by simp,?_,?_,k2,.inr (.inr ⟨?_,m1,st.h.next,ob,?_,?_,by simp,aS _⟩),k3⟩⟩
   .intro id hid;show tr.get id=_;rw[hgt id,if_neg (by omega)]
   .intro id o' q
    replace q:tr.get id=some o':=q
    rw[hgt id]at q;by_cases p:id=st.h.next
    .simp[p]
    .rw[if_neg p]at q;have:=w id o' q;simp only;omega
   .rw[xO (ops:=ops) (T:=st.T) k1];exact hw
   .refine QN ha (fun t q=>?_);show T'.get t=T₁.get t;rw[k1 t (nW q),hT₁ t]
   .show tr.get _=_;rw[hgt,if_pos rfl]
  .split at e<;>try cases e
   rename_i g v hr;split at e<;>try cases e
   rename_i T' hs;obtain⟨hg,e⟩:=nB e;subst hg;obtain⟨k1,k2,k3⟩:=bj hs;refine⟨_,v,e,fun w=>⟨aS _,fun _ _=>rfl,w,k2,.inr (.inl ⟨?_,?_,?_⟩),k3⟩⟩
   .rw[xO (ops:=ops) (T:=st.T) k1];exact hw
   .rename_i hna _;cases hm:fU o.op with|false=>rfl|true=>unfold mF at hr;unfold fU at hm;split at hm<;>first|(cases hm;done)|(rename_i hop;rw[hop]at hr;cases hr)
   .refine QL (fl.refl _) hr (fun t q=>?_);rw[k1 t (nW q),hT₁ t]
structure xw(P:Program)(sh:TypeId->Option Sh)(ops:Array Oper)(q:Nat)(os:List Oper)(ps:List PE)(st st':St):Prop where
 next:st.h.next<=st'.h.next
 old:∀id,id<st.h.next->st'.h.tr.get id=st.h.tr.get id
 wf:wf st'.h
 same:∀t,(∀(x:Nat) (o:Oper) (hi:Nat),os[x]?=some o->ps[x]?=some (.p q hi)->o.dst≠some t)->st'.T.get t=st.T.get t
 done:∀(x:Nat) (o:Oper) (hi:Nat),os[x]?=some o->ps[x]?=some (.p q hi)->∃v,PN P sh ops st.h.next st'.T st'.h o v/\∀t,o.dst=some t->st'.T.get t=some v
 uniq:∀(x y:Nat) (o o':Oper) (hi hi':Nat) (t t':Tmp) (v v':AV) (id:Nat),os[x]?=some o->os[y]?=some o'->ps[x]?=some (.p q hi)->ps[y]?=some (.p q hi')->fU o.op=true->fU o'.op=true ->
  o.dst=some t->o'.dst=some t'->st'.T.get t=some v->st'.T.get t'=some v'->kM v=some id->kM v'=some id->x=y
theorem PN.ids{P:Program}{sh:TypeId->Option Sh}{ops:Array Oper}{b:Nat}{T:Tr AV}{h:Hp}{o:Oper}{v:AV}(p:PN P sh ops b T h o v)(hm:fU o.op=true){id:Nat}(hi:kM v=some id):id<h.next/\b<=id:=by
 rcases p with⟨h1,rfl⟩|⟨h1,h2,h3⟩|⟨h1,h2,id',ob,h3,h4,h5,h6⟩
 .cases hi
 .rw[hm]at h2;cases h2
 .have:=(FU h3).2;simp only at this;rw[hi]at this;cases this;exact⟨h5,h6⟩
theorem VY{R:Type}{P:Program}{sh:TypeId->Option Sh}{n:Nat}{ops:Array Oper}{q:Nat}{k:St->Option R}{r:R}:∀{os:List Oper}{ps:List PE}{st:St},n9 P sh n ops q os ps st k=some r ->
  (∀(x y:Nat) (o o':Oper) (hi hi':Nat) (t:Tmp),os[x]?=some o->os[y]?=some o'->ps[x]?=some (.p q hi)->ps[y]?=some (.p q hi')->x<=y->o'.dst=some t->t∉looks ops.toList o) ->
  (∀(x y:Nat) (o o':Oper) (t:Tmp),os[x]?=some o->os[y]?=some o'->o.dst=some t->o'.dst=some t->x=y) ->
  ∃st',k st'=some r/\(wf st.h->xw P sh ops q os ps st st'):=by
 intro os
 induction os with
 |nil=>intro ps st e _ _;simp only[n9]at e;exact⟨st,e,fun w=>⟨aS _,fun _ _=>rfl,w,fun _ _=>rfl,fun x o hi h=>by simp at h,fun x y o o' hi hi' t t' v v' id h=>by simp at h⟩⟩|cons o os ih=>
  intro ps st e hL hD;cases ps with
  |nil=>simp only[n9]at e;exact⟨st,e,fun w=>⟨aS _,fun _ _=>rfl,w,fun _ _=>rfl,fun x o hi _ h=>by simp at h,fun x y o o' hi hi' t t' v v' id _ _ h=>by simp at h⟩⟩|cons pe ps=>
   simp only[n9]at e;have hL':∀(x y:Nat) (o o':Oper) (hi hi':Nat) (t:Tmp),os[x]?=some o->os[y]?=some o'->ps[x]?=some (.p q hi)->ps[y]?=some (.p q hi')->x<=y->o'.dst=some t->t∉looks ops.toList o:=fun x y o o' hi hi' t h1 h2 h3 h4 h5 h6=>hL (x+1) (y+1) o o' hi hi' t (by simpa using h1) (by simpa using h2) (by simpa using h3) (by simpa using h4) (by omega) h6;have hD':∀(x y:Nat) (o o':Oper) (t:Tmp),os[x]?=some o->os[y]?=some o'->o.dst=some t->o'.dst=some t->x=y:=fun x y o o' t h1 h2 h3 h4=>by have:=hD (x+1) (y+1) o o' t (by simpa using h1) (by simpa using h2) h3 h4;omega
   have skip:n9 P sh n ops q os ps st k=some r->(∀hi,pe≠.p q hi)->∃st',k st'=some r/\(wf st.h->xw P sh ops q (o::os) (pe::ps) st st'):=by
    intro e hne;obtain⟨st',h1,S'⟩:=ih e hL' hD';refine⟨st',h1,fun w=>?_⟩;have S:=S' w;refine⟨S.next,S.old,S.wf,?_,?_,?_⟩
    .intro t ht;exact S.same t (fun x o' hi h1 h2=>ht (x+1) o' hi (by simpa using h1) (by simpa using h2))
    .intro x o' hi h1 h2;cases x with|zero=>simp at h2;exact absurd h2 (hne hi)|succ x=>exact S.done x o' hi (by simpa using h1) (by simpa using h2)
    .intro x y o₁ o₂ hi hi' t t' v v' id h1 h2 h3 h4;cases x with|zero=>simp at h3;exact absurd h3 (hne hi)|succ x=>cases y with|zero=>simp at h4;exact absurd h4 (hne hi')|succ y=>intro a1 a2 a3 a4 a5 a6 a7 a8;rw[S.uniq x y o₁ o₂ hi hi' t t' v v' id (by simpa using h1) (by simpa using h2) (by simpa using h3) (by simpa using h4) a1 a2 a3 a4 a5 a6 a7 a8]
   cases pe with
   |w j=>exact skip e (fun hi h=>by cases h)
   |p lo hi=>
    simp only[]at e;cases hb:Nat.beq lo q with
    |false=>simp only[hb]at e;exact skip e (fun h' h=>by cases h;exact Nat.ne_of_beq_eq_false hb rfl)
    |true=>
     have:=bD hb;subst this;simp only[hb]at e;obtain⟨st₁,v₁,e,O'⟩:=aj9 e (fun t ht=>hL 0 0 o o hi hi t (by simp) (by simp) (by simp) (by simp) (aS _) ht);obtain⟨st',h1,S'⟩:=ih e hL' hD';refine⟨st',h1,fun w=>?_⟩;have O:=O' w;have S:=S' O.wf;have hle:fl st₁.h st'.h:=O.wf.le S.old;have hlook:∀t∈looks ops.toList o,st'.T.get t=st₁.T.get t:=fun t ht=>S.same t (fun x o' h' q1 q2 q3=>hL 0 (x+1) o o' hi h' t (by simp) (by simpa using q1) (by simp) (by simpa using q2) (by omega) q3 ht);have hdst:∀t,o.dst=some t->st'.T.get t=some v₁:=fun t ht=>by rw[S.same t (fun x o' h' q1 q2 q3=>by have:=hD 0 (x+1) o o' t (by simp) (by simpa using q1) ht q3;omega)];exact O.dst t ht
     have now₀:=O.now.congr hlook hle S.next (aS _);refine⟨dK O.next S.next,?_,S.wf,?_,?_,?_⟩
     .intro id hid;rw[S.old id (iS hid O.next),O.old id hid]
     .intro t ht;rw[S.same t (fun x o' h' q1 q2=>ht (x+1) o' h' (by simpa using q1) (by simpa using q2)),O.same t (ht 0 o hi (by simp) (by simp))]
     .intro x o' h' q1 q2;cases x with|zero=>simp at q1;subst q1;exact⟨v₁,now₀,hdst⟩|succ x=>obtain⟨v,p1,p2⟩:=S.done x o' h' (by simpa using q1) (by simpa using q2);exact⟨v,p1.congr (fun _ _=>rfl) (fl.refl _) (aS _) O.next,p2⟩
     .have cross:∀(y:Nat) (o₁ o₂:Oper) (hi':Nat) (t t':Tmp) (v v':AV) (id:Nat),o=o₁->os[y]?=some o₂->ps[y]?=some (.p lo hi')->fU o₁.op=true->fU o₂.op=true->o₁.dst=some t->o₂.dst=some t' ->
        st'.T.get t=some v->st'.T.get t'=some v'->kM v=some id->kM v'=some id->False:=by
       intro y o₁ o₂ hi' t t' v v' id e1 h2 h4 a1 a2 a3 a4 a5 a6 a7 a8;subst e1;rw[hdst t a3]at a5;cases a5;have b1:=O.now.ids a1 a7;obtain⟨v₂,p1,p2⟩:=S.done y o₂ hi' h2 h4;rw[p2 t' a4]at a6;cases a6;have b2:=p1.ids a2 a8;omega
      intro x y o₁ o₂ hi₁ hi₂ t t' v v' id h1 h2 h3 h4 a1 a2 a3 a4 a5 a6 a7 a8;cases x with
      |zero=>cases y with|zero=>rfl|succ y=>exact(cross y o₁ o₂ hi₂ t t' v v' id (by simpa using h1) (by simpa using h2) (by simpa using h4) a1 a2 a3 a4 a5 a6 a7 a8).elim
      |succ x=>cases y with|zero=>exact(cross x o₂ o₁ hi₁ t' t v' v id (by simpa using h2) (by simpa using h1) (by simpa using h3) a2 a1 a4 a3 a6 a5 a8 a7).elim|succ y=>rw[S.uniq x y o₁ o₂ hi₁ hi₂ t t' v v' id (by simpa using h1) (by simpa using h2) (by simpa using h3) (by simpa using h4) a1 a2 a3 a4 a5 a6 a7 a8]
def DX(P:Program)(ops:Array Oper)(q:Nat)(ch:Bool)(ts:List Nat)(st:St)(os:List Oper)(ps:List PE):Prop:=∀(x:Nat) (o:Oper) (lo hi:Nat),os[x]?=some o->ps[x]?=some (.p lo hi)->lo<q->q<=hi ->
 (∀t∈looks ops.toList o,t∉ts)/\(ch=true->fU o.op=false->kR ops st.T o=some false\/(kR ops st.T o=some true/\∃v,mF P st.T st.h o=some (true,v)/\∀t,o.dst=some t->st.T.get t=some v))
theorem Wv{R:Type}{P:Program}{ops:Array Oper}{q:Nat}{ch:Bool}{ts:List Nat}{st:St}{k:Option R}{r:R}:∀{os:List Oper}{ps:List PE},mI P ops q ch ts st os ps k=some r->k=some r/\DX P ops q ch ts st os ps
 |[],ps,e=>⟨by simpa[mI]using e,fun x o lo hi h=>by simp at h⟩|o::os,[],e=>⟨by simpa[mI]using e,fun x o lo hi _ h=>by simp at h⟩|o::os,pe::ps,e=>by
  simp only[mI]at e;have go:mI P ops q ch ts st os ps k=some r->(∀lo hi,pe=.p lo hi->lo<q->q<=hi->(∀t∈looks ops.toList o,t∉ts)/\(ch=true->fU o.op=false->kR ops st.T o=some false\/(kR ops st.T o=some true/\∃v,mF P st.T st.h o=some (true,v)/\∀t,o.dst=some t->st.T.get t=some v))) ->
    k=some r/\DX P ops q ch ts st (o::os) (pe::ps):=by
   intro e h;obtain⟨h1,h2⟩:=Wv e;refine⟨h1,?_⟩;intro x o' lo hi q1 q2;cases x with|zero=>simp at q1 q2;subst q1;exact h lo hi q2|succ x=>exact h2 x o' lo hi (by simpa using q1) (by simpa using q2)
  split at e
  .exact go e (fun lo hi h=>by cases h)
  .rename_i lo hi;split at e
   .split at e<;>try cases e
    rename_i hn;have hn:=Zwt hn;split at e
    .rename_i hm;split at e<;>try cases e
     .rename_i hw;split at e<;>try cases e
      .rename_i g v t hr hd;split at e<;>try cases e
       rename_i u hu;split at e<;>try cases e
       rename_i s hs;obtain⟨hg,e⟩:=nB e;obtain⟨hs',e⟩:=nB e;subst hg;subst hs';have:=V8 hs;subst this;exact go e (fun lo' hi' h _ _=>⟨hn,fun _ _=>.inr ⟨hw,u,hr,fun t' ht'=>by rw[hd]at ht';cases ht';exact hu⟩⟩)
      .rename_i g v hr hd;obtain⟨hg,e⟩:=nB e;subst hg;exact go e (fun lo' hi' h _ _=>⟨hn,fun _ _=>.inr ⟨hw,v,hr,fun t' ht'=>by rw[hd]at ht';cases ht'⟩⟩)
     .rename_i hw;exact go e (fun lo' hi' h _ _=>⟨hn,fun _ _=>.inl hw⟩)
    .rename_i hne;exact go e (fun lo' hi' h _ _=>⟨hn,fun h1 h2=>absurd h2 (hne h1)⟩)
   .rename_i hne;refine go e (fun lo' hi' h h1 h2=>?_);cases h;exact absurd (Nat.ble_eq_true_of_le h2) (hne (by rw[Nat.blt_eq];exact h1))
def Bo(P:Program)(sh:TypeId->Option Sh)(n:Nat)(ops:Array Oper)(pl:List PE):Nat->Nat->St->St->Prop
 |0,_,st,fin=>fin=st|r+1,q,st,fin=>∃(i:Nat) (o:Oper) (ch:Bool) (st₁ st₂:St) (b:Bool) (T:Tr AV) (v:AV),ops[i]?=some o/\pl[i]?=some (.w (q+1))/\(ch=false->fl st.h st₁.h)/\Bn ops st.T o b T/\gm n T o.dst v=some st₁.T /\
   ((b=true/\AJ P T st.h o v st₁.h)\/(b=false/\v=.cM []/\st₁.h=st.h))/\(wf st₁.h->xw P sh ops (q+1) ops.toList pl st₁ st₂)/\DX P ops (q+1) ch (dl o.dst++qh (q+1) ops.toList pl) st₂ ops.toList pl/\Bo P sh n ops pl r (q+1) st₂ fin
theorem W8{ops:Array Oper}{pl:List PE}{m:Nat}(hP:mE ops pl m){x y:Nat}{o o':Oper}{lo hi:Nat}{t:Tmp}(h1:ops[x]?=some o)(h2:ops[y]?=some o')(h3:pl[y]?=some (.p lo hi))(hxy:x<=y)(ht:o'.dst=some t):t∉looks ops.toList o:=by intro hl;have:=hP.below x o h1 y (hP.fresh x o h1 t hl y o' lo hi h2 h3 ht);omega
theorem WK{R:Type}{P:Program}{sh:TypeId->Option Sh}{call:iM R}(hc:kf P call){n:Nat}{ops:Array Oper}{pl:List PE}{m:Nat}(hP:mE ops pl m)
  (hD:∀(x y:Nat) (o o':Oper) (t:Tmp),ops.toList[x]?=some o->ops.toList[y]?=some o'->o.dst=some t->o'.dst=some t->x=y) {k:St->Option R}{r:R} :
  ∀(c q:Nat) (st:St),A4 P sh call n ops pl c q st k=some r->∃fin,k fin=some r/\Bo P sh n ops pl c q st fin
 |0,q,st,e=>⟨st,e,rfl⟩|c+1,q,st,e=>by
  simp only[A4]at e;split at e<;>try cases e
  rename_i o hf;obtain⟨i,h1,h2⟩:=tS hf;obtain⟨ch,st₁,b,T,v,e,hch,W,hT,A⟩:=Zyu hc e;obtain⟨st₂,e,S⟩:=VY e (fun x y o o' hi hi' t q1 q2 q3 q4 q5 q6=>W8 hP (by simpa using q1) (by simpa using q2) q4 q5 q6) hD;obtain⟨e,C⟩:=Wv e;obtain⟨fin,hk,rest⟩:=WK hc hP hD c (q+1) st₂ e;exact⟨fin,hk,i,o,ch,st₁,st₂,b,T,v,by simpa using h1,h2,hch,W,hT,A,S,C,rest⟩
end Go.Proofs.YtkcpdpplobhpaaaGreat.V
end
section
namespace Go.Proofs.YtkcpdpplobhpaaaGreat.Ev
open Go Go.RowKit
theorem PV{ops:Array Oper}{listed:Array Bool}{i:Nat}(h:i∈Region.ready .any ops listed) :
  listed.getD i true=false/\∃o,ops[i]?=some o/\∀e∈fC o,listed.getD e false=true:=by
 obtain⟨h1,o,ho,h2⟩:=mem_ready.1 h;refine⟨h1,o,ho,?_⟩;intro e he;obtain⟨x,hx,hb,rfl⟩:=FP.1 he;exact h2 x (Array.mem_toList_iff.1 hx) hb
theorem Zqg{ops:Array Oper}{listed:Array Bool}{i:Nat}{o:Oper}(h1:listed.getD i true=false)(ho:ops[i]?=some o)(h2:∀e∈fC o,listed.getD e false=true) :
  i∈Region.ready .any ops listed:=
 mem_ready.2 ⟨h1,o,ho,fun e he hb=>h2 e.on (FP.2 ⟨e,Array.mem_toList_iff.2 he,hb,rfl⟩)⟩
end Go.Proofs.YtkcpdpplobhpaaaGreat.Ev
end
section
namespace Go.Proofs.YtkcpdpplobhpaaaGreat.V
open Go Go.RowKit
open Go.Proofs.YtkcpdpplobhpaaaGreat.Ev (Tr Tr.cI nth dI PE mE ue pY Fo fC looks tmpsOf xP nW tO jr oZ nG tS left xR rz fJ j8 oX oV PV Zqg)
def Oz(ops:Array Oper)(pl:List PE)(q:Nat)(L:Nat->Bool)(t:Tmp):Prop:=∃(x:Nat) (o:Oper) (lo hi:Nat),ops[x]?=some o/\pl[x]?=some (.p lo hi)/\lo<=q/\L x=false/\o.dst=some t
structure Inv(P:Program)(sh:TypeId->Option Sh)(n:Nat)(ops:Array Oper)(pl:List PE)(X₀:Cx)(q:Nat)(L:Nat->Bool)(X:Cx)(a:Act)(st:St):Prop where
 size:a.tmps.size=n
 defers:a.defers=[]
 hX:X.h=st.h
 H:aF X
 E:aO X₀ X
 tmp:∀t v,st.T.get t=some v->¬Oz ops pl q L t->∃V,a.tmps[t]?=some V/\Rel X v V
 now:∀(i:Nat) (o:Oper) (lo hi:Nat),ops[i]?=some o->pl[i]?=some (.p lo hi)->lo<=q->q<=hi->L i=false->∃v,PN P sh ops X₀.h.next st.T st.h o v/\∀t,o.dst=some t->st.T.get t=some v
 nT:∀(i:Nat) (o:Oper) (lo hi:Nat) (t:Tmp) (v:AV) (id:Nat),ops[i]?=some o->pl[i]?=some (.p lo hi)->lo<=q->L i=false->fU o.op=true->o.dst=some t->st.T.get t=some v->kM v=some id ->
  X.s id=none/\id<st.h.next/\X₀.h.next<=id
 xk:∀(i j:Nat) (o o':Oper) (lo hi lo' hi':Nat) (t t':Tmp) (v v':AV) (id:Nat),ops[i]?=some o->ops[j]?=some o'->pl[i]?=some (.p lo hi)->pl[j]?=some (.p lo' hi')->lo<=q->lo'<=q->L i=false->L j=false ->
  fU o.op=true->fU o'.op=true->o.dst=some t->o'.dst=some t'->st.T.get t=some v->st.T.get t'=some v'->kM v=some id->kM v'=some id->i=j
 down:∀(z:Nat) (o:Oper),ops[z]?=some o->L z=true->∀e∈fC o,L e=true
 wl:∀(i j:Nat),pl[i]?=some (.w j)->(L i=true↔j<=q)
 lo:∀(i l h:Nat),pl[i]?=some (.p l h)->L i=true->l<=q
 hi:∀(i l h:Nat),pl[i]?=some (.p l h)->h<q->L i=true
theorem aj5{X:Cx}(H:aF X){h':Hp}(hn:X.h.next<=h'.next)(old:∀id,id<X.h.next->h'.tr.get id=X.h.tr.get id)(w:wf h'):aO X ⟨X.s,h',X.w,X.A⟩/\aF ⟨X.s,h',X.w,X.A⟩:=by
 have E:aO X ⟨X.s,h',X.w,X.A⟩:=by
  refine⟨rfl,rfl,rfl,aS _,fun _ _ h=>h,fun _ _ _ h=>h,hn,fun _ _ _=>rfl,?_,?_,fun i hi _=>old i hi,rfl⟩
  .rintro b ⟨i,o,c,h1,h2,h3⟩
   replace h1:h'.tr.get i=some o:=h1
   rw[old i (H.di i _ h2)]at h1;exact .inl ⟨i,o,c,h1,h2,h3⟩
  .intro j n hj h;rw[<-aaU (old j hj)];exact h
 refine⟨E,⟨?_,?_,w,?_,H.alt,?_⟩⟩
 .intro i o l h1 h2
  replace h1:h'.tr.get i=some o:=h1
  rw[old i (H.di i _ h2)]at h1;exact(H.obj i o l h1 h2).ext (E.eS H) (fun _ _=>rfl)
 .intro i j o o' b c c' h1 h2 h3 h4
  replace h1:h'.tr.get i=some o:=h1
  replace h2:h'.tr.get j=some o':=h2
  rw[old i (H.di i _ h3)]at h1;rw[old j (H.di j _ h4)]at h2;exact H.inj i j o o' b c c' h1 h2 h3 h4
 .intro i l h;exact iS (H.di i l h) hn
 .intro i o b c h1 h2
  replace h1:h'.tr.get i=some o:=h1
  rw[old i (H.di i _ h2)]at h1;exact H.loc i o b c h1 h2
section
variable{P:Program}{sh:TypeId->Option Sh}{n:Nat}{ops:Array Oper}{pl:List PE}{X₀:Cx}{q:Nat}{L:Nat->Bool}{X:Cx}{a:Act}{st:St}
theorem Inv.abK{k:Nat}(I:Inv P sh n ops pl X₀ q L X a st)(hP:mE ops pl k){i:Nat}{o:Oper}(ho:ops[i]?=some o)(hr:∀e∈fC o,L e=true){t:Tmp}(ht:t∈looks ops.toList o):¬Oz ops pl q L t:=by rintro⟨x,ox,l,h,p1,p2,p3,p4,p5⟩;have:=hr x (hP.fresh i o ho t ht x ox l h p1 p2 p5);rw[p4]at this;cases this
theorem Inv.aiC{k:Nat}(I:Inv P sh n ops pl X₀ q L X a st)(hP:mE ops pl k){i:Nat}{o:Oper}(ho:ops[i]?=some o)(hr:∀e∈fC o,L e=true)(hL:L i=false){l h:Nat}(hp:pl[i]?=some (.p l h)):l<=q/\q<=h:=by
 constructor
 .rcases hP.lo i o l h ho hp with r|⟨e,pe,h1,h2,h3⟩
  .omega
  .have hLe:=hr e h1;cases pe with|w j=>have:=(I.wl e j h2).1 hLe;simp only[PE.num]at h3;omega|p l' h'=>have:=I.lo e l' h' h2 hLe;simp only[PE.num]at h3;omega
 .rcases de h q with r|r
  .have:=I.hi i l h hp r;rw[hL]at this;cases this
  .exact r
theorem Inv.due{k:Nat}(I:Inv P sh n ops pl X₀ q L X a st)(hP:mE ops pl k){i:Nat}{o:Oper}(ho:ops[i]?=some o)(hr:∀e∈fC o,L e=true)
  (hw:pl[i]?=some (.w (q+1))):∀d (x l h:Nat),ops.size<=x+d->pl[x]?=some (.p l h)->h<=q->L x=true:=by
 have hk:q+1<=k:=(hP.w i o (q+1) ho hw).2.1;intro d
 induction d with
 |zero=>intro x l h hx hp _;have:=dz hp;rw[hP.len]at this;omega|succ d ih=>
  intro x l h hx hp hh;rcases hP.hi x l h hp with r|⟨z,oz,pe,h1,h2,h3,h4⟩
  .omega
  .have hxz:=hP.below z oz h1 x h3;have hz:L z=true\/z=i:=by
    rcases h4 with⟨j,rfl,hj⟩|⟨l',h',rfl,hh'⟩
    .rcases de q j with r|r
     .have:j=q+1:=by omega
      subst this;exact .inr (hP.uniq z i _ h2 hw)
     .exact .inl ((I.wl z j h2).2 r)
    .exact .inl (ih z l' h' (by omega) h2 (by omega))
   rcases hz with hz|rfl
   .exact I.down z oz h1 hz x h3
   .rw[ho]at h1;simp at h1;subst h1;exact hr x h3
theorem Inv.Q3{X':Cx}{i:Nat}{o:Oper}{l h:Nat}{V:Value}(I:Inv P sh n ops pl X₀ q L X a st)(hN:∀t,o.dst=some t->t<n)(ho:ops[i]?=some o)(hr:∀e∈fC o,L e=true)(hp:pl[i]?=some (.p l h))(hl:l<=q)
  (hX:X'.h=st.h) (H:aF X') (E:aO X₀ X') (Ex:gl X X') (hV:∀t,o.dst=some t->∃v,st.T.get t=some v/\Rel X' v V)
  (hs:∀(j:Nat) (o':Oper) (lo hi:Nat) (t:Tmp) (v:AV) (id:Nat),ops[j]?=some o'->pl[j]?=some (.p lo hi)->lo<=q->Ev.mark L i j=false->fU o'.op=true->o'.dst=some t->st.T.get t=some v->kM v=some id->X'.s id=none) :
  Inv P sh n ops pl X₀ q (Ev.mark L i) X' (a.put o.dst V) st:=by
 have nw:∀j,pl[i]?≠some (.w j):=fun j r=>by rw[hp]at r;cases r
 refine⟨?_,?_,hX,H,E,?_,?_,?_,?_,?_,?_,?_,?_⟩
 .cases hd:o.dst<;>simp[Act.put,I.size]
 .cases hd:o.dst<;>simp[Act.put,I.defers]
 .intro t v hv hn;by_cases hd:o.dst=some t
  .obtain⟨v',h1,h2⟩:=hV t hd;rw[hv]at h1;cases h1;have r:t<a.tmps.size:=by rw[I.size];exact hN t hd
   exact⟨V,by rw[hd];simp[Act.put,r],h2⟩
  .obtain⟨V',h1,h2⟩:=I.tmp t v hv (by
    rintro⟨x,ox,lo,hi,p1,p2,p3,p4,p5⟩;by_cases hxi:x=i
    .subst hxi;rw[ho]at p1;cases p1;exact hd p5
    .exact hn ⟨x,ox,lo,hi,p1,p2,p3,by unfold Ev.mark;rw[if_neg hxi];exact p4,p5⟩)
   refine⟨V',?_,h2.ext Ex⟩;cases hdd:o.dst with|none=>simpa[Act.put]using h1|some t'=>simp only[Act.put,Array.getElem?_setIfInBounds];rw[if_neg (fun r=>hd (by rw[hdd,r]))];exact h1
 .intro j o' lo hi h1 h2 h3 h4 h5;exact I.now j o' lo hi h1 h2 h3 h4 (oV h5).1
 .intro j o' lo hi t v id h1 h2 h3 h4 h5 h6 h7 h8;obtain⟨_,q2,q3⟩:=I.nT j o' lo hi t v id h1 h2 h3 (oV h4).1 h5 h6 h7 h8;exact⟨hs j o' lo hi t v id h1 h2 h3 h4 h5 h6 h7 h8,q2,q3⟩
 .intro x y o₁ o₂ lo hi lo' hi' t t' v v' id a1 a2 a3 a4 a5 a6 a7 a8;exact I.xk x y o₁ o₂ lo hi lo' hi' t t' v v' id a1 a2 a3 a4 a5 a6 (oV a7).1 (oV a8).1
 .intro z oz hz hL e he;by_cases hzi:z=i
  .subst hzi;rw[ho]at hz;cases hz;exact oX (hr e he)
  .unfold Ev.mark at hL;rw[if_neg hzi]at hL;exact oX (I.down z oz hz hL e he)
 .intro x j hx;have:x≠i:=by rintro rfl;exact nw j hx
  unfold Ev.mark;rw[if_neg this];exact I.wl x j hx
 .intro x l' h' hx hL;by_cases hxi:x=i
  .subst hxi;rw[hp]at hx;cases hx;exact hl
  .unfold Ev.mark at hL;rw[if_neg hxi]at hL;exact I.lo x l' h' hx hL
 .intro x l' h' hx hh;exact oX (I.hi x l' h' hx hh)
theorem Inv.step{k:Nat}(I:Inv P sh n ops pl X₀ q L X a st)(hP:mE ops pl k)(hM:∀(x:Nat) (o:Oper) (lo hi:Nat),ops[x]?=some o->pl[x]?=some (.p lo hi)->fU o.op=true->∃t,o.dst=some t){i:Nat}{o:Oper}(hN:∀t,o.dst=some t->t<n)
  (ho:ops[i]?=some o) (hr:∀e∈fC o,L e=true) (hL:L i=false) {l h:Nat}(hp:pl[i]?=some (.p l h)) {K:Act->World->Prop}{Q:Exit->Act->World->Prop}
  (hK:∀X' a',Inv P sh n ops pl X₀ q (Ev.mark L i) X' a' st->K a' X'.w):wpOp P ops Q i K a X.w:=by
 obtain⟨hlq,hqh⟩:=I.aiC hP ho hr hL hp;obtain⟨v,pn,hdst⟩:=I.now i o l h ho hp hlq hqh hL;have look:∀t∈looks ops.toList o,∀v,st.T.get t=some v->∃V,a.tmps[t]?=some V/\Rel X v V:=fun t ht v hv=>I.tmp t v hv (I.abK hP ho hr ht);have opnd:oJ X st.T a o.op:=Qp fun t ht u hu=>look t (nW ht) u hu;have bj:∀(j:Nat) (o':Oper) (lo hi:Nat) (t:Tmp) (v:AV) (id:Nat),ops[j]?=some o'->pl[j]?=some (.p lo hi)->lo<=q->Ev.mark L i j=false->fU o'.op=true->o'.dst=some t->st.T.get t=some v->kM v=some id->X.s id=none:=fun j o' lo hi t v id h1 h2 h3 h4 h5 h6 h7 h8=>(I.nT j o' lo hi t v id h1 h2 h3 (oV h4).1 h5 h6 h7 h8).1;unfold wpOp;rw[ho];simp only[];rcases pn with⟨hw,rfl⟩|⟨hw,hmk,hrd⟩|⟨hw,hmk,id,ob,ha,hid,hlt,hge⟩
 .rw[Qn hw look];simp only[Bool.false_eq_true,if_false];exact hK X _ (I.Q3 hN ho hr hp hlq I.hX I.H I.E (gl.refl X) (fun t ht=>⟨_,hdst t ht,[],rfl,rfl⟩) bj)
 .rw[Qn hw look];simp only[if_true];left;rw[<-I.hX]at hrd;obtain⟨V,hrun,hR⟩:=Zlk I.H hrd rfl opnd;unfold Oper.wp;rw[hrun];exact hK X _ (I.Q3 hN ho hr hp hlq I.hX I.H I.E (gl.refl X) (fun t ht=>⟨_,hdst t ht,hR⟩) bj)
 .rw[Qn hw look];simp only[if_true];left;obtain⟨td,htd⟩:=hM i o l h ho hp hmk;have hidv:=(FU ha).2;simp only at hidv;obtain⟨sn,_,_⟩:=I.nT i o l h td v id ho hp hlq hL hmk htd (hdst td htd) hidv;rw[<-I.hX]at ha hid hlt;obtain⟨c,ob',V,hrun,hm⟩:=Zx7 I.H ha rfl opnd;have Ex:=gl.real (c:=c) (ob:=ob') I.H sn;have M:Made X ⟨bZ X.s id (.at X.w.heap.size c),X.h,{ X.w with heap:=X.w.heap.push ob' },X.A⟩ id c ob ob':=⟨Ex,rfl,fG _ _ _,hid⟩;obtain⟨m1,m2⟩:=hm _ M;have H':=I.H.real (c:=c) (ob:=ob') sn hlt (fun o' h'=>by rw[hid]at h';cases h';exact m1);have E':aO X₀ ⟨bZ X.s id (.at X.w.heap.size c),X.h,{ X.w with heap:=X.w.heap.push ob' },X.A⟩:=by
   have E:=I.E;refine⟨E.os,E.tape,E.output,by have:=E.size;simp;omega,?_,?_,E.next,?_,?_,E.len,E.same,E.A⟩
   .intro j l' hj;have:=E.sg j l' hj;show bZ X.s id _ j=_;rw[dE _ _ _ (by rintro rfl;rw[sn]at this;cases this)];exact this
   .intro j l' hj h'
    replace h':bZ X.s id _ j=some l':=h'
    rw[dE _ _ _ (by omega)]at h';exact E.di j l' hj h'
   .intro b hb hn;have:=E.size;show(X.w.heap.push ob')[b]?=_;rw[Array.getElem?_push,if_neg (by omega)];exact E.frame b hb hn
   .rintro b ⟨j,o₁,c₁,h1,h2⟩;obtain⟨h2,h3⟩:=h2
    replace h2:bZ X.s id (.at X.w.heap.size c) j=some c₁:=h2
    by_cases hj:j=id
    .subst hj;rw[fG]at h2;cases h2;right;have:=E.size;have:b=X.w.heap.size:=h3;omega
    .rw[dE _ _ _ hj]at h2;exact E.bO b ⟨j,o₁,c₁,h1,h2,h3⟩
  unfold Oper.wp;rw[hrun];refine hK ⟨bZ X.s id (.at X.w.heap.size c),X.h,{ X.w with heap:=X.w.heap.push ob' },X.A⟩ _ (Inv.Q3 (X':=⟨bZ X.s id (.at X.w.heap.size c),X.h,{ X.w with heap:=X.w.heap.push ob' },X.A⟩) I hN ho hr hp hlq I.hX H' E' Ex (fun t ht=>⟨_,hdst t ht,m2⟩) ?_);intro j o' lo hi t v' id' h1 h2 h3 h4 h5 h6 h7 h8;obtain⟨hLj,hji⟩:=oV h4;have s':=(I.nT j o' lo hi t v' id' h1 h2 h3 hLj h5 h6 h7 h8).1;show bZ X.s id _ id'=none;rw[dE _ _ _ ?_]
  .exact s'
  .rintro rfl;exact hji (I.xk j i o' o lo hi l h t td v' v id' h1 ho h2 hp h3 hlq hLj hL h5 hmk h6 htd h7 (hdst td htd) h8 hidv)
theorem Inv.enter{st':St}{h₁:Hp}(hsz:a.tmps.size=n)(hdf:a.defers=[])(hX:X.h=h₁)(H:aF X)(E:aO X₀ X){T₁:Tr AV}(S:xw P sh ops q ops.toList pl ⟨T₁,h₁⟩ st')
  (tmp:∀t v,T₁.get t=some v->(∀(x:Nat) (o:Oper) (hi:Nat),ops[x]?=some o->pl[x]?=some (.p q hi)->o.dst≠some t)->¬Oz ops pl q L t->∃V,a.tmps[t]?=some V/\Rel X v V)
  (now:∀(i:Nat) (o:Oper) (lo hi:Nat),ops[i]?=some o->pl[i]?=some (.p lo hi)->lo<q->q<=hi->L i=false->∃v,PN P sh ops X₀.h.next st'.T st'.h o v/\∀t,o.dst=some t->st'.T.get t=some v)
  (nT:∀(i:Nat) (o:Oper) (lo hi:Nat) (t:Tmp) (v:AV) (id:Nat),ops[i]?=some o->pl[i]?=some (.p lo hi)->lo<q->L i=false->fU o.op=true->o.dst=some t->st'.T.get t=some v->kM v=some id ->
   X.s id=none/\id<h₁.next/\X₀.h.next<=id)
  (xk:∀(i j:Nat) (o o':Oper) (lo hi lo' hi':Nat) (t t':Tmp) (v v':AV) (id:Nat),ops[i]?=some o->ops[j]?=some o'->pl[i]?=some (.p lo hi)->pl[j]?=some (.p lo' hi')->lo<q->lo'<q->L i=false->L j=false ->
   fU o.op=true->fU o'.op=true->o.dst=some t->o'.dst=some t'->st'.T.get t=some v->st'.T.get t'=some v'->kM v=some id->kM v'=some id->i=j)
  (hun:∀(i hi:Nat),pl[i]?=some (.p q hi)->L i=false)
  (down:∀(z:Nat) (o:Oper),ops[z]?=some o->L z=true->∀e∈fC o,L e=true) (wl:∀(i j:Nat),pl[i]?=some (.w j)->(L i=true↔j<=q)) (lo:∀(i l h:Nat),pl[i]?=some (.p l h)->L i=true->l<=q)
  (hi:∀(i l h:Nat),pl[i]?=some (.p l h)->h<q->L i=true):Inv P sh n ops pl X₀ q L ⟨X.s,st'.h,X.w,X.A⟩ a st':=by
 subst hX;obtain⟨G,H'⟩:=aj5 H S.next S.old S.wf;have new:∀(i:Nat) (o:Oper) (hi:Nat) (t:Tmp) (v:AV) (id:Nat),ops[i]?=some o->pl[i]?=some (.p q hi)->fU o.op=true->o.dst=some t->st'.T.get t=some v->kM v=some id->id<st'.h.next/\X.h.next<=id:=by intro i o hi t v id h1 h2 h3 h4 h5 h6;obtain⟨u,p1,p2⟩:=S.done i o hi (by simpa using h1) h2;rw[p2 t h4]at h5;cases h5;exact p1.ids h3 h6
 refine⟨hsz,hdf,rfl,H',E.trans G,?_,?_,?_,?_,down,wl,lo,hi⟩
 .intro t v hv hn;have hne:∀(x:Nat) (o:Oper) (hi:Nat),ops[x]?=some o->pl[x]?=some (.p q hi)->o.dst≠some t:=fun x o hi h1 h2 h3=>hn ⟨x,o,q,hi,h1,h2,aS _,hun x hi h2,h3⟩;rw[S.same t (fun x o hi h1 h2=>hne x o hi (by simpa using h1) h2)]at hv;obtain⟨V,h1,h2⟩:=tmp t v hv hne hn;exact⟨V,h1,h2.ext (G.eS H)⟩
 .intro i o lo' hi' h1 h2 h3 h4 h5;rcases de lo' q with r|r
  .exact now i o lo' hi' h1 h2 r h4 h5
  .have:lo'=q:=by omega
   subst this;obtain⟨v,p1,p2⟩:=S.done i o hi' (by simpa using h1) h2;exact⟨v,p1.congr (fun _ _=>rfl) (fl.refl _) (aS _) E.next,p2⟩
 .intro i o lo' hi' t v id h1 h2 h3 h4 h5 h6 h7 h8;rcases de lo' q with r|r
  .obtain⟨p1,p2,p3⟩:=nT i o lo' hi' t v id h1 h2 r h4 h5 h6 h7 h8;exact⟨p1,iS p2 S.next,p3⟩
  .have:lo'=q:=by omega
   subst this;obtain⟨p1,p2⟩:=new i o hi' t v id h1 h2 h5 h6 h7 h8;refine⟨?_,p1,dK E.next p2⟩;show X.s id=none;cases hq:X.s id with|none=>rfl|some l=>have:=H.di id l hq;omega
 .intro i j o o' lo₁ hi₁ lo₂ hi₂ t t' v v' id a1 a2 a3 a4 a5 a6 a7 a8 a9 a10 a11 a12 a13 a14 a15 a16;rcases de lo₁ q with r|r<;>rcases de lo₂ q with r'|r'
  .exact xk i j o o' lo₁ hi₁ lo₂ hi₂ t t' v v' id a1 a2 a3 a4 r r' a7 a8 a9 a10 a11 a12 a13 a14 a15 a16
  .have:lo₂=q:=by omega
   subst this;have p1:=(nT i o lo₁ hi₁ t v id a1 a3 r a7 a9 a11 a13 a15).2.1;have p2:=(new j o' hi₂ t' v' id a2 a4 a10 a12 a14 a16).2;omega
  .have:lo₁=q:=by omega
   subst this;have p1:=(nT j o' lo₂ hi₂ t' v' id a2 a4 r' a8 a10 a12 a14 a16).2.1;have p2:=(new i o hi₁ t v id a1 a3 a9 a11 a13 a15).2;omega
  .have e1:lo₁=q:=by omega
   have e2:lo₂=q:=by omega
   subst e1;subst e2;exact S.uniq i j o o' hi₁ hi₂ t t' v v' id (by simpa using a1) (by simpa using a2) a3 a4 a9 a10 a11 a12 a13 a14 a15 a16
end
theorem aj1(L:Nat->Bool)(i:Nat):Ev.mark L i i=true:=by unfold Ev.mark;simp
theorem o7(L:Nat->Bool){i j:Nat}(h:j≠i):Ev.mark L i j=L j:=by unfold Ev.mark;rw[if_neg h]
section
variable{P:Program}{sh:TypeId->Option Sh}{n:Nat}{ops:Array Oper}{pl:List PE}{X₀:Cx}{q:Nat}{L:Nat->Bool}{X:Cx}{a:Act}{st:St}
theorem Inv.write{k:Nat}(I:Inv P sh n ops pl X₀ q L X a st)(hP:mE ops pl k)(hM:∀(x:Nat) (o:Oper) (lo hi:Nat),ops[x]?=some o->pl[x]?=some (.p lo hi)->fU o.op=true->∃t,o.dst=some t)
  (hD:∀(x y:Nat) (o o':Oper) (t:Tmp),ops[x]?=some o->ops[y]?=some o'->o.dst=some t->o'.dst=some t->x=y)
  {i:Nat}{o:Oper}(ho:ops[i]?=some o) (hr:∀e∈fC o,L e=true) (hL:L i=false) (hp:pl[i]?=some (.w (q+1)))
  {ch:Bool}{st₁ st₂:St}{b:Bool}{T:Tr AV}{v:AV}(hch:ch=false->fl st.h st₁.h) (W:Bn ops st.T o b T) (hT:gm n T o.dst v=some st₁.T)
  (hA:(b=true/\AJ P T st.h o v st₁.h)\/(b=false/\v=.cM []/\st₁.h=st.h)) (hS:wf st₁.h->xw P sh ops (q+1) ops.toList pl st₁ st₂)
  (hC:DX P ops (q+1) ch (dl o.dst++qh (q+1) ops.toList pl) st₂ ops.toList pl) {K:Act->World->Prop}{Q:Exit->Act->World->Prop}
  (hK:∀X' a',Inv P sh n ops pl X₀ (q+1) (Ev.mark L i) X' a' st₂->K a' X'.w):wpOp P ops Q i K a X.w:=by
 have look:∀t∈looks ops.toList o,∀v,st.T.get t=some v->∃V,a.tmps[t]?=some V/\Rel X v V:=fun t ht v hv=>I.tmp t v hv (I.abK hP ho hr ht);have opnd:oJ X T a o.op:=Qp fun t ht u hu=>look t (nW ht) u (W.get t u hu);have Tget:∀t,T.get t=st.T.get t:=by intro t;cases h:T.get t with|some u=>rw[W.get t u h]|none=>cases h':st.T.get t with|none=>rfl|some u=>rw[W.get' t u h']at h;cases h
 have hg:=oY hT;have fin:∀X' V,aO X X'->aF X'->X'.h=st₁.h->Rel X' v V->K (a.put o.dst V) X'.w:=by
  intro X' V E H' hh hv;have S:=hS (by rw[<-hh];exact H'.lt);have done:∀(x l h:Nat),pl[x]?=some (.p l h)->h<=q->L x=true:=fun x l h h1 h2=>I.due hP ho hr hp ops.size x l h (by omega) h1 h2;have xi:∀{x l h:Nat},pl[x]?=some (.p l h)->x≠i:=by rintro x l h h1 rfl;rw[hp]at h1;cases h1
  have T2:∀(x:Nat) (ox:Oper) (lo hi:Nat) (t:Tmp),ops[x]?=some ox->pl[x]?=some (.p lo hi)->lo<=q->ox.dst=some t->st₂.T.get t=st.T.get t:=by intro x ox lo hi t h1 h2 h3 h4;rw[S.same t (fun y oy hi' g1 g2 g3=>by have:=hD x y ox oy t h1 (by simpa using g1) h4 g3;subst this;rw[h2]at g2;cases g2;omega),hg t,if_neg (fun r=>xi h2 (hD x i ox o t h1 ho h4 r)),Tget t]
  have E':=I.E.trans E;refine hK ⟨X'.s,st₂.h,X'.w,X'.A⟩ _ (Inv.enter (X:=X') (h₁:=st₁.h) (T₁:=st₁.T) ?_ ?_ hh H' E' S ?_ ?_ ?_ ?_ ?_ ?_ ?_ ?_ ?_)
  .cases hd:o.dst<;>simp[Act.put,I.size]
  .cases hd:o.dst<;>simp[Act.put,I.defers]
  .intro t u hu hne hn;rw[hg t]at hu;by_cases hd:o.dst=some t
   .rw[if_pos hd]at hu;cases hu;have hlt:t<a.tmps.size:=by rw[I.size];rw[hd]at hT;exact JZ hT
    exact⟨V,by rw[hd];simp[Act.put,hlt],hv⟩
   .rw[if_neg hd,Tget t]at hu;obtain⟨V',h1,h2⟩:=I.tmp t u hu (by rintro⟨x,ox,lo,hi,p1,p2,p3,p4,p5⟩;exact hn ⟨x,ox,lo,hi,p1,p2,by omega,by rw[o7 L (xi p2)];exact p4,p5⟩);refine⟨V',?_,h2.ext (E.eS I.H)⟩;cases hdd:o.dst with|none=>simpa[Act.put]using h1|some t'=>simp only[Act.put,Array.getElem?_setIfInBounds];rw[if_neg (fun r=>hd (by rw[hdd,r]))];exact h1
  .intro x ox lo hi h1 h2 h3 h4 h5;rw[o7 L (xi h2)]at h5;obtain⟨u,pn,hdu⟩:=I.now x ox lo hi h1 h2 (by omega) (by omega) h5;obtain⟨c1,c2⟩:=hC x ox lo hi (by simpa using h1) h2 h3 h4;have hdst:∀t,ox.dst=some t->st₂.T.get t=some u:=fun t ht=>by rw[T2 x ox lo hi t h1 h2 (by omega) ht];exact hdu t ht
   have lk:∀t∈looks ops.toList ox,st₂.T.get t=st.T.get t:=by intro t ht;have hnot:=c1 t ht;rw[S.same t (fun y oy hi' g1 g2 g3=>hnot (List.mem_append.2 (.inr (Zwb g1 g2 g3)))),hg t,if_neg (fun r=>hnot (List.mem_append.2 (.inl (by rw[r];simp[dl])))),Tget t]
   have hw:=xO (ops:=ops) (T:=st.T) (T':=st₂.T) lk;rcases pn with⟨w1,rfl⟩|⟨w1,m1,r1⟩|⟨w1,m1,id,ob,ha,hid,hlt,hge⟩
   .exact⟨.cM [],.inl ⟨hw.trans w1,rfl⟩,hdst⟩
   .cases hc:ch with
    |false=>have hle:fl st.h st₂.h:=(hch hc).trans (fun b' o' q'=>by rw[S.old b' (by rw[<-hh]at q' |-;exact H'.lt b' o' q')];exact q');exact⟨u,.inr (.inl ⟨hw.trans w1,m1,QL hle r1 (fun t ht=>lk t (nW ht))⟩),hdst⟩|true=>
     rcases c2 hc m1 with g|⟨g,u',r2,d2⟩
     .rw[hw,w1]at g;cases g
     .exact⟨u',.inr (.inl ⟨g,m1,r2⟩),d2⟩
   .obtain⟨td,htd⟩:=hM x ox lo hi h1 h2 m1;have hidv:=(FU ha).2;simp only at hidv;obtain⟨sn,hlt',_⟩:=I.nT x ox lo hi td u id h1 h2 (by omega) h5 m1 htd (hdu td htd) hidv;have hob:st₂.h.tr.get id=some ob:=by have e1:=E.same id (by rw[I.hX];exact hlt') sn;rw[hh,I.hX,hid]at e1;have e2:=S.old id (by rw[<-hh]at e1 |-;exact H'.lt id ob e1);rw[e2];exact e1
    refine⟨u,.inr (.inr ⟨hw.trans w1,m1,id,ob,QN ha (fun t ht=>lk t (nW ht)),hob,S.wf id ob hob,hge⟩),hdst⟩
  .intro x ox lo hi t u id h1 h2 h3 h4 h5 h6 h7 h8;rw[o7 L (xi h2)]at h4;rw[T2 x ox lo hi t h1 h2 (by omega) h6]at h7;obtain⟨p1,p2,p3⟩:=I.nT x ox lo hi t u id h1 h2 (by omega) h4 h5 h6 h7 h8;refine⟨?_,?_,p3⟩
   .cases hq:X'.s id with|none=>rfl|some l=>have:=E.di id l (by rw[I.hX];exact p2) hq;rw[p1]at this;cases this
   .have:=E.next;rw[hh,I.hX]at this;omega
  .intro x y ox oy lo₁ hi₁ lo₂ hi₂ t t' u u' id a1 a2 a3 a4 a5 a6 a7 a8 a9 a10 a11 a12 a13 a14 a15 a16;rw[o7 L (xi a3)]at a7;rw[o7 L (xi a4)]at a8;rw[T2 x ox lo₁ hi₁ t a1 a3 (by omega) a11]at a13;rw[T2 y oy lo₂ hi₂ t' a2 a4 (by omega) a12]at a14;exact I.xk x y ox oy lo₁ hi₁ lo₂ hi₂ t t' u u' id a1 a2 a3 a4 (by omega) (by omega) a7 a8 a9 a10 a11 a12 a13 a14 a15 a16
  .intro x hi hx;rw[o7 L (xi hx)];cases hq:L x with|false=>rfl|true=>have:=I.lo x (q+1) hi hx hq;omega
  .intro z oz hz hLz e he;by_cases hzi:z=i
   .subst hzi;rw[ho]at hz;cases hz;exact oX (hr e he)
   .rw[o7 L hzi]at hLz;exact oX (I.down z oz hz hLz e he)
  .intro x j hx;by_cases hxi:x=i
   .subst hxi;rw[hp]at hx;cases hx;rw[aj1];exact⟨fun _=>aS _,fun _=>rfl⟩
   .rw[o7 L hxi,I.wl x j hx];constructor
    .intro r;omega
    .intro r;rcases de q j with s|s
     .have:j=q+1:=by omega
      subst this;exact absurd (hP.uniq x i _ hx hp) hxi
     .exact s
  .intro x l h hx hLx;rw[o7 L (xi hx)]at hLx;have:=I.lo x l h hx hLx;omega
  .intro x l h hx hh';exact oX (done x l h hx (by omega))
 unfold wpOp;rw[ho];simp only[];rw[W.is X a (fun j w oj t v hgd hj hd hv=>look t (tO (ops:=ops) hgd hj hd) v hv)];rcases hA with⟨rfl,A⟩|⟨rfl,rfl,hh⟩
 .simp only[if_true];left;exact A X a I.hX I.H opnd K Q (fun X' V h1 h2 h3 h4=>fin X' V h1 h2 h3 h4)
 .simp only[Bool.false_eq_true,if_false];exact fin X undef (aO.refl X) I.H (by rw[hh];exact I.hX) ⟨[],rfl,rfl⟩
end
theorem aiQ{P:Program}{sh:TypeId->Option Sh}{n:Nat}{ops:Array Oper}{pl:List PE}{k:Nat}(hP:mE ops pl k)(hM:∀(x:Nat) (o:Oper) (lo hi:Nat),ops[x]?=some o->pl[x]?=some (.p lo hi)->fU o.op=true->∃t,o.dst=some t)
  (hD:∀(x y:Nat) (o o':Oper) (t:Tmp),ops[x]?=some o->ops[y]?=some o'->o.dst=some t->o'.dst=some t->x=y) (hN:∀(x:Nat) (o:Oper) (t:Tmp),ops[x]?=some o->o.dst=some t->t<n)
  {X₀:Cx}{fin:St}{Q:Exit->Act->World->Prop}(hQ:∀X a,RF X n fin a->aO X₀ X->Q .normal a X.w) :
  ∀(fuel:Nat) (r q:Nat) (listed:Array Bool) (st:St) (X:Cx) (a:Act),q+r=k->Bo P sh n ops pl r q st fin->listed.size=ops.size->left ops.size (fun j=>listed.getD j false)<=fuel ->
   Inv P sh n ops pl X₀ q (fun j=>listed.getD j false) X a st->wpAny P .any ops Q fuel listed a X.w:=by
 have pJ:∀(listed:Array Bool),listed.size=ops.size->∀i,i<ops.size->listed.getD i true=listed.getD i false:=by intro listed hs i hi;simp[Array.getD_eq_getD_getElem?,show i<listed.size by omega]
 have fini:∀(r q:Nat) (listed:Array Bool) (st:St) (X:Cx) (a:Act),q+r=k->Bo P sh n ops pl r q st fin->listed.size=ops.size ->
   Inv P sh n ops pl X₀ q (fun j=>listed.getD j false) X a st->Region.ready .any ops listed=[]->Q .normal a X.w:=by
  intro r q listed st X a hqr ht hs I hrd;have all:∀i,i<ops.size->listed.getD i false=true:=by
   intro i
   induction i using Nat.strongRecOn with
   |_ i ih=>
    intro hi;cases hx:listed.getD i false with
    |true=>rfl|false=>
     have ho:ops[i]?=some ops[i]:=by simp[hi]
     have:i∈Region.ready .any ops listed:=Zqg (by rw[pJ listed hs i hi];exact hx) ho (fun e he=>ih e (hP.below i _ ho e he) (Nat.lt_trans (hP.below i _ ho e he) hi));rw[hrd]at this;cases this
  cases r with
  |succ r=>obtain⟨i,o,ch,st₁,st₂,b,T,v,h1,h2,_⟩:=ht;have:=(I.wl i (q+1) h2).1 (all i (fN h1));omega
  |zero=>have:fin=st:=ht;subst this;refine hQ X a ⟨I.hX,⟨I.size,I.defers,?_⟩,I.H⟩ I.E;intro t v hv;refine I.tmp t v hv ?_;rintro⟨x,o,lo,hi,p1,p2,p3,p4,p5⟩;simp only[]at p4;rw[all x (fN p1)]at p4;cases p4
 intro fuel
 induction fuel with
 |zero=>
  intro r q listed st X a hqr ht hs hl I;have hrd:Region.ready .any ops listed=[]:=by
   cases hx:Region.ready .any ops listed with
   |nil=>rfl|cons i l=>
    exfalso;obtain⟨h1,o,ho,_⟩:=PV (i:=i) (by rw[hx];simp);have hi:=fN ho;have h0:left ops.size (fun j=>listed.getD j false)=0:=by omega
    have h3:=rz h0 i hi;rw[pJ listed hs i hi]at h1;rw[h1]at h3;cases h3
  exact⟨hrd,fini r q listed st X a hqr ht hs I hrd⟩
 |succ fuel ih=>
  intro r q listed st X a hqr ht hs hl I;refine⟨fun hrd=>fini r q listed st X a hqr ht hs I hrd,?_⟩;intro i hi;obtain⟨h1,o,ho,h2⟩:=PV hi;have aY:=fN ho;rw[pJ listed hs i aY]at h1;have hL:(fun j=>(listed.setIfInBounds i true).getD j false)=Ev.mark (fun j=>listed.getD j false) i:=by
   funext j;unfold Ev.mark;by_cases hj:j=i
   .subst hj;simp[Array.getD_eq_getD_getElem?,Array.getElem?_setIfInBounds,show j<listed.size by omega]
   .rw[if_neg hj];exact getD_set_ne false (fun r=>hj r.symm)
  have hsz:(listed.setIfInBounds i true).size=ops.size:=by simp[hs]
  have hleft:left ops.size (fun j=>(listed.setIfInBounds i true).getD j false)<=fuel:=by rw[hL];have:=xR (L:=fun j=>listed.getD j false) (i:=i) h1 ops.size;rw[if_pos aY]at this;omega
  obtain⟨pe,hpe⟩:∃pe,pl[i]?=some pe:=⟨pl[i]'(by rw[hP.len];exact aY),by simp[hP.len,aY]⟩;cases pe with
  |p l h=>refine I.step hP hM (fun t htd=>hN i o t ho htd) ho h2 h1 hpe ?_;intro X' a' I';exact ih r q _ st X' a' hqr ht hsz hleft (by rw[hL];exact I')|w j=>
   have hj:j=q+1:=by
    obtain⟨w1,w2,w3⟩:=hP.w i o j ho hpe;have hn:¬j<=q:=fun r=>by have:=(I.wl i j hpe).2 r;rw[h1]at this;cases this
    rcases w3 with r|⟨e,pe,g1,g2,g3⟩
    .omega
    .have hLe:=h2 e g1;cases pe with|w j'=>have:=(I.wl e j' g2).1 hLe;simp only[PE.num]at g3;omega|p l' h'=>have:=I.lo e l' h' g2 hLe;simp only[PE.num]at g3;omega
   subst hj;have hk:=(hP.w i o (q+1) ho hpe).2.1;obtain⟨r,rfl⟩:∃r',r=r'+1:=⟨r-1,by omega⟩;obtain⟨i',o',ch,st₁,st₂,b,T,v,g1,g2,g3,g4,g5,g6,g7,g8,g9⟩:=ht;have:=hP.uniq i' i _ g2 hpe;subst this;rw[ho]at g1;cases g1;refine I.write hP hM hD ho h2 h1 hpe g3 g4 g5 g6 g7 g8 ?_;intro X' a' I';exact ih r (q+1) _ st₂ X' a' (by omega) g9 hsz hleft (by rw[hL];exact I')
def Jn(P:Program)(G:Cx->Prop)(base n:Nat)(c:Code)(st:St)(e:Ev.Ex)(st':St):Prop:=∀X₀ X a,(X₀.h.next=base/\G X₀)->aF X₀->aO X₀ X->RF X n st a->∀Q:Exit->Act->World->Prop,
 (∀X' a',RF X' n st' a'->aO X₀ X'->Q e.to a' X'.w)->c.wp P Q a X.w
theorem ae5{R:Type}{G:Cx->Prop}{P:Program}(hm:P.follows .mixedOrders=true){sh:TypeId->Option Sh}{call:iM R}(hc:kf P call){n base:Nat}{ops:Array Oper}{st:St}{k:St->Option R}{r:R}(e:Jr P sh call n ops st k=some r)(id:Nat) :
  ∃st',k st'=some r/\Jn P G base n (.region id ops true) st .normal st':=by
 unfold Jr at e;split at e<;>try cases e
 rename_i m hpk;split at e<;>try cases e
 rename_i hd hlt;have hP:=Fo hpk;obtain⟨d1,d2⟩:=Zyg hd (by rw[hP.len];simp);obtain⟨st₁,e,S'⟩:=VY e (fun x y o o' hi hi' t q1 q2 q3 q4 q5 q6=>W8 hP (by simpa using q1) (by simpa using q2) q4 q5 q6) d1;obtain⟨fin,hk,ht⟩:=WK hc hP d1 m 0 st₁ e;refine⟨fin,hk,?_⟩;intro X₀ X a hb hH hE RR Q hQ;refine wp_region_any hm ?_;have Hd:=RR.H.drew (X.w.drawn+1);have S:=S' (by rw[<-RR.h];exact RR.H.lt);have hgetD:∀j,(Array.replicate ops.size false).getD j false=false:=by intro j;simp only[Array.getD_eq_getD_getElem?,Array.getElem?_replicate];split<;>rfl
 have I:Inv P sh n ops (pY ops.toList) { X with w:={ X.w with drawn:=X.w.drawn+1 } } 0 (fun j=>(Array.replicate ops.size false).getD j false) ⟨X.s,st₁.h,{ X.w with drawn:=X.w.drawn+1 },X.A⟩ a st₁:=by
  refine Inv.enter (X:={ X with w:={ X.w with drawn:=X.w.drawn+1 } }) (h₁:=st.h) (T₁:=st.T) RR.T.size RR.T.defers RR.h Hd (aO.refl _) S ?_ ?_ ?_ ?_ (fun i hi _=>hgetD i) ?_ ?_ ?_ ?_
  .intro t v hv _ _;obtain⟨V,h1,h2⟩:=RR.T.get t v hv;exact⟨V,h1,h2.ext (gl.of_heap (X:=X) (w:={ X.w with drawn:=X.w.drawn+1 }) rfl)⟩
  .intro i o lo hi _ _ h;omega
  .intro i o lo hi t v id _ _ h;omega
  .intro i j o o' lo hi lo' hi' t t' v v' id _ _ _ _ h;omega
  .intro z o _ h;rw[hgetD]at h;cases h
  .intro i j hj;simp only[hgetD];have hlt':i<ops.size:=by rw[<-hP.len];exact dz hj
   have:=(hP.w i ops[i] j (by simp[hlt']) hj).1;constructor
   .intro r;cases r
   .intro r;omega
  .intro i l h _ hL;rw[hgetD]at hL;cases hL
  .intro i l h _ hh;omega
 have hleft:∀m (L:Nat->Bool),left m L<=m:=by
  intro m L
  induction m with|zero=>simp[left]|succ m ih=>simp only[left];split<;>omega
 refine aiQ (X₀:={ X with w:={ X.w with drawn:=X.w.drawn+1 } }) hP (fun x o lo hi h=>d2 x o lo hi (by simpa using h)) (fun x y o o' t h1 h2=>d1 x y o o' t (by simpa using h1) (by simpa using h2)) (fun x o t h1 h2=>QB hlt x o t (by simpa using h1) h2) ?_ ops.size m 0 _ st₁ _ a (by omega) ht (by simp) (hleft _ _) I;intro X' a' R' E';exact hQ X' a' R' (hE.trans ((aO.drew X _).trans E'))
open Go.Proofs.YtkcpdpplobhpaaaGreat.Ev (Tr Tr.cI nth dI)
def dG:List (Nat×Nat)->Nat->Option Nat
 |[],_=>none|p::l,j=>match Nat.beq p.1 j with|true=>some p.2|false=>dG l j
def Gg(base:Nat)(m:List (Nat×Nat))(j:Nat):Option Nat:=match Nat.blt j base with|true=>some j|false=>dG m j
def aiz(base j:Nat):Option Nat:=match Nat.blt j base with|true=>some j|false=>none
mutual
def jA(f:Nat->Option Nat):AV->Option AV
 |.bool b=>some (.bool b)|.int k n=>some (.int k n)|.str s=>some (.str s)|.ed=>some .ed|.bk=>some .bk|.fE=>some .fE|.fj=>some .fj|.fV=>some .fV|.jK=>some .jK|.ptr b o=>match f b with|some b=>some (.ptr b o)|none=>none
 |.dT b i z o=>match f b with|some b=>some (.dT b i z o)|none=>none
 |.fX σ d o=>some (.fX σ d o)|.hd b τ=>match f b with|some b=>some (.hd b τ)|none=>none
 |.vw b τ o l=>match f b with|some b=>some (.vw b τ o l)|none=>none
 |.fz τ L=>some (.fz τ L)|.ej τ z L=>some (.ej τ z L)|.mp b=>match f b with|some b=>some (.mp b)|none=>none
 |.dW b=>match f b with|some b=>some (.dW b)|none=>none
 |.rp b i=>match f b with|some b=>some (.rp b i)|none=>none
 |.ra b i=>match f b with|some b=>some (.ra b i)|none=>none
 |.func g x c=>match nj f x with
  |some x=>match nj f c with|some c=>some (.func g x c)|none=>none
  |none=>none
 |.agg l=>match nj f l with|some l=>some (.agg l)|none=>none
 |.cM l=>match nj f l with|some l=>some (.cM l)|none=>none
termination_by structural x=>x
def nj(f:Nat->Option Nat):List AV->Option (List AV)
 |[]=>some []|v::l=>match jA f v with
  |some v=>match nj f l with|some l=>some (v::l)|none=>none
  |none=>none
termination_by structural x=>x
end
def jz(f:Nat->Option Nat):bu->Option bu
 |.cells l ty=>match nj f l with|some l=>some (.cells l ty)|none=>none
 |.arr τ L ty=>some (.arr τ L ty)|.map κ σ M=>some (.map κ σ M)|.dL L ty=>some (.dL L ty)|.dV τ i L vs ty=>match nj f vs with|some vs=>some (.dV τ i L vs ty)|none=>none
structure Rn(f:Nat->Option Nat)(X X':Cx):Prop where
 sg:∀j i l,f j=some i->X.s j=some l->X'.s i=some l
 K:jl X.w X.out X'.w X'.out
 obj:∀j i n,f j=some i->rowOf X'.h.tr i=some n->rowOf X.h.tr j=some n
mutual
theorem J0{f:Nat->Option Nat}{X X':Cx}(E:Rn f X X'):∀{v v':AV}{V:Value},jA f v=some v'->Rel X v V->Rel X' v' V
 |.bool _,v',_,e,h|.int _ _,v',_,e,h|.str _,v',_,e,h|.ed,v',_,e,h|.bk,v',_,e,h|.fE,v',_,e,h|.fj,v',_,e,h|.fV,v',_,e,h|.jK,v',_,e,h=>by simp only[jA,bV]at e;subst e;exact h|.ptr b off,v',V,e,⟨x,c,h1,h2⟩=>by
  simp only[jA]at e;split at e<;>try cases e
  rename_i i hi;exact⟨x,c,E.sg _ _ _ hi h1,h2⟩
 |.dT b i z o,v',V,e,⟨x,c,h1,h2,h3⟩=>by
  simp only[jA]at e;split at e<;>try cases e
  rename_i b' hb;exact⟨x,c,E.sg _ _ _ hb h1,h2,fun n q=>h3 n (E.obj _ _ n hb q)⟩
 |.fX σ d o,v',V,e,⟨b,off,cs,h1,h2,h3,h4⟩=>by simp only[jA,bV]at e;subst e;obtain⟨k1,k2⟩:=h4.bj E.K h2;exact⟨b,off,cs,h1,k2,h3.bj E.K,k1⟩
 |.hd b τ,v',V,e,⟨l,h1,hc,h2⟩=>by
  simp only[jA]at e;split at e<;>try cases e
  rename_i b' hb;exact⟨l,E.sg _ _ _ hb h1,hc,fun n q=>h2 n (E.obj _ _ n hb q)⟩
 |.vw b τ off len,v',V,e,⟨l,a,c,h1,h2,h3,h4,h5,h6⟩=>by
  simp only[jA]at e;split at e<;>try cases e
  rename_i b' hb;exact⟨l,a,c,E.sg _ _ _ hb h1,h2,h3,h4,h5,fun n q=>h6 n (E.obj _ _ n hb q)⟩
 |.fz τ L,v',V,e,h=>by simp only[jA,bV]at e;subst e;exact Cs.bj E.K (σ:=.sl τ) h|.ej τ z L,v',V,e,h=>by simp only[jA,bV]at e;subst e;exact⟨Cs.bj E.K (σ:=.sl τ) h.1,h.2⟩|.mp b,v',V,e,⟨x,c,h1,h2⟩=>by
  simp only[jA]at e;split at e<;>try cases e
  rename_i i hi;exact⟨x,c,E.sg _ _ _ hi h1,h2⟩
 |.dW b,v',V,e,⟨l,h1,h2⟩=>by
  simp only[jA]at e;split at e<;>try cases e
  rename_i i hi;exact⟨l,E.sg _ _ _ hi h1,h2⟩
 |.rp b i,v',V,e,⟨x,c,m,p,h1,h2⟩=>by
  simp only[jA]at e;split at e<;>try cases e
  rename_i k hk;exact⟨x,c,m,p,E.sg _ _ _ hk h1,h2⟩
 |.ra b i,v',V,e,⟨x,c,m,h1,h2⟩=>by
  simp only[jA]at e;split at e<;>try cases e
  rename_i k hk;exact⟨x,c,m,E.sg _ _ _ hk h1,h2⟩
 |.func g x c,v',V,e,⟨xs,cs,h1,h2,h3⟩=>by
  simp only[jA]at e;split at e<;>try cases e
  rename_i x' hx;split at e<;>try cases e
  rename_i c' hc;exact⟨xs,cs,h1,qa E hx h2,qa E hc h3⟩
 |.agg l,v',V,e,⟨cs,h1,h2⟩=>by
  simp only[jA]at e;split at e<;>try cases e
  rename_i x' hx;exact⟨cs,h1,qa E hx h2⟩
 |.cM l,v',V,e,⟨cs,h1,h2⟩=>by
  simp only[jA]at e;split at e<;>try cases e
  rename_i x' hx;exact⟨cs,h1,qa E hx h2⟩
theorem qa{f:Nat->Option Nat}{X X':Cx}(E:Rn f X X'):∀{l l':List AV}{cs:List Value},nj f l=some l'->bB X l cs->bB X' l' cs
 |[],l',_,e,h=>by simp only[nj,bV]at e;subst e;exact h|x::l,l',_,e,⟨v,r,e2,h1,h2⟩=>by
  simp only[nj]at e;split at e<;>try cases e
  rename_i x' hx;split at e<;>try cases e
  rename_i l' hl;exact⟨v,r,e2,J0 E hx h1,qa E hl h2⟩
end
theorem abt{f:Nat->Option Nat}{o o':bu}(e:jz f o=some o'):o'.row=o.row:=by
 cases o with
 |cells l ty=>simp only[jz]at e;split at e<;>cases e;rfl
 |arr τ L ty=>simp only[jz,bV]at e;subst e;rfl|map κ σ M=>simp only[jz,bV]at e;subst e;rfl|dL L ty=>simp only[jz,bV]at e;subst e;rfl|dV τ i L vs ty=>simp only[jz]at e;split at e<;>cases e;rfl
theorem Xt{f:Nat->Option Nat}{X X':Cx}(E:Rn f X X')(hw:X'.w=X.w){l:Loc}{o o':bu}(e:jz f o=some o')(h:jc X l o):jc X' l o':=by
 cases o with
 |cells vs ty=>
  simp only[jz]at e;split at e<;>try cases e
  rename_i l' hl;obtain⟨b,c,cs,h1,h2,h3⟩:=h;exact⟨b,c,cs,h1,by rw[hw];exact h2,qa E hl h3⟩
 |arr τ L ty=>
  simp only[jz,bV]at e;subst e;cases l with
  |nil=>exact h|«at» b c=>obtain⟨cs,tail,h1,h2,h3,h4⟩:=h;exact⟨cs,tail,by rw[hw];exact h1,h2.mono (fun x d q=>q.bj E.K),h3,h4⟩
  |cE _ _ _=>exact h.elim
 |map κ σ M=>simp only[jz,bV]at e;subst e;obtain⟨x,c,es,clk,h1,h2,h3⟩:=h;exact⟨x,c,es,clk,h1,by rw[hw];exact h2,h3.bj E.K⟩
 |dL L ty=>simp only[jz,bV]at e;subst e;cases l with|nil=>exact h|«at» b c=>exact h.elim|cE b c m=>obtain⟨tail,ty',h1,h2,h3,h4⟩:=h;exact⟨tail,ty',by rw[hw];exact h1,h2,h3.ext E.K (fun p _=>by rw[hw];exact⟨rfl,rfl⟩),h4⟩
 |dV τ i L vs ty=>
  simp only[jz]at e;split at e<;>try cases e
  rename_i l' hl;obtain⟨b,c,pre,mid,post,tail,h0,h1,h2,h3,h4,h5⟩:=h;exact⟨b,c,pre,mid,post,tail,h0,by rw[hw];exact h1,h2.mono (fun x d q=>q.bj E.K),qa E hl h3,h4.mono (fun x d q=>q.bj E.K),h5⟩
def Jq(base:Nat)(h:Tr bu):Nat->Tr bu->Option (Tr bu)
 |0,t=>some t|k+1,t=>match Jq base h k t with
  |some t=>match h.get k with
   |some o=>match jz (aiz base) o with|some o=>Tr.set FT t k (some o)|none=>none
   |none=>some t
  |none=>none
def oa(f:Nat->Option Nat)(h:Tr bu):List (Nat×Nat)->Tr bu->Option (Tr bu)
 |[],t=>some t|p::m,t=>match oa f h m t with
  |some t=>match h.get p.1 with
   |some o=>match jz f o with|some o=>Tr.set FT t p.2 (some o)|none=>none
   |none=>some t
  |none=>none
def ux(f:Nat->Option Nat)(n:Nat)(T:Tr AV):List Tmp->Option (Tr AV)
 |[]=>some .nil|t::l=>match ux f n T l with
  |some T'=>match T.get t with
   |some v=>match jA f v with|some v=>gm n T' (some t) v|none=>none
   |none=>none
  |none=>none
def AU(j i:Nat):List (Nat×Nat)->Bool
 |[]=>true|p::m=>match Nat.beq p.1 j with|true=>false|false=>match Nat.beq p.2 i with|true=>false|false=>AU j i m
def Gf(base nx:Nat):List (Nat×Nat)->Bool
 |[]=>true|p::m=>match Nat.ble base p.1,Nat.ble base p.2,Nat.blt p.2 nx,AU p.1 p.2 m with|true,true,true,true=>Gf base nx m|_,_,_,_=>false
theorem Zyj{j i:Nat}:∀{m:List (Nat×Nat)},AU j i m=true->∀p∈m,p.1≠j/\p.2≠i
 |[],_,p,hp=>by cases hp
 |q::m,h,p,hp=>by
  simp only[AU]at h;split at h<;>try cases h
  rename_i h1;split at h<;>try cases h
  rename_i h2;rcases List.mem_cons.1 hp with rfl|hp
  .exact⟨Nat.ne_of_beq_eq_false h1,Nat.ne_of_beq_eq_false h2⟩
  .exact Zyj h p hp
structure pV(base nx:Nat)(m:List (Nat×Nat)):Prop where
 lo:∀p∈m,base<=p.1/\base<=p.2/\p.2<nx
 fst:∀p∈m,∀q∈m,p.1=q.1->p=q
 snd:∀p∈m,∀q∈m,p.2=q.2->p=q
theorem WU{base nx:Nat}:∀{m:List (Nat×Nat)},Gf base nx m=true->pV base nx m
 |[],_=>⟨fun p h=>(nomatch h),fun p h=>(nomatch h),fun p h=>(nomatch h)⟩
 |p::m,h=>by
  simp only[Gf]at h;split at h<;>try cases h
  rename_i h1 h2 h3 h4;have h1:=Nat.le_of_ble_eq_true h1;have h2:=Nat.le_of_ble_eq_true h2;rw[Nat.blt_eq]at h3;have h4:=Zyj h4;obtain⟨a,b,c⟩:=WU h;refine⟨?_,?_,?_⟩
  .intro q hq;rcases List.mem_cons.1 hq with rfl|hq
   .exact⟨h1,h2,h3⟩
   .exact a q hq
  .intro q hq r hr e;rcases List.mem_cons.1 hq with rfl|hq'
   .rcases List.mem_cons.1 hr with rfl|hr'
    .rfl
    .exact absurd e.symm (h4 r hr').1
   .rcases List.mem_cons.1 hr with rfl|hr'
    .exact absurd e (h4 q hq').1
    .exact b q hq' r hr' e
  .intro q hq r hr e;rcases List.mem_cons.1 hq with rfl|hq'
   .rcases List.mem_cons.1 hr with rfl|hr'
    .rfl
    .exact absurd e.symm (h4 r hr').2
   .rcases List.mem_cons.1 hr with rfl|hr'
    .exact absurd e (h4 q hq').2
    .exact c q hq' r hr' e
theorem ym:∀{m:List (Nat×Nat)}{j i:Nat},dG m j=some i->(j,i)∈m
 |[],j,i,h=>by simp[dG]at h|p::m,j,i,h=>by
  simp only[dG]at h;split at h
  .rename_i q;have:=bD q;simp only[bV]at h;subst this;subst h;exact List.mem_cons_self
  .exact eK _ (ym h)
theorem vN{base nx:Nat}{m:List (Nat×Nat)}(O:pV base nx m){j i:Nat}(h:(j,i)∈m):dG m j=some i:=by
 have:∀{l:List (Nat×Nat)},(∀p∈l,p∈m)->(j,i)∈l->dG l j=some i:=by
  intro l
  induction l with
  |nil=>intro _ q;cases q
  |cons p l ih=>
   intro hs q;simp only[dG];split
   .rename_i e;have e:=bD e;have:=O.fst p (hs p (by simp)) (j,i) h e;rw[this]
   .rename_i e;have e:=Nat.ne_of_beq_eq_false e;rcases List.mem_cons.1 q with r|r
    .rw[<-r]at e;exact absurd rfl e
    .exact ih (fun p hp=>hs p (by simp[hp])) r
 exact this (fun p hp=>hp) h
def inv:List (Nat×Nat)->Nat->Option Nat
 |[],_=>none|p::l,i=>if p.2=i then some p.1 else inv l i
theorem XM:∀{m:List (Nat×Nat)}{i j:Nat},inv m i=some j->(j,i)∈m
 |[],i,j,h=>by simp[inv]at h|p::m,i,j,h=>by
  simp only[inv]at h;split at h
  .rename_i q;simp only[bV]at h;subst q;subst h;exact List.mem_cons_self
  .exact eK _ (XM h)
theorem Jf{base nx:Nat}{m:List (Nat×Nat)}(O:pV base nx m){j i:Nat}(h:(j,i)∈m):inv m i=some j:=by
 have:∀{l:List (Nat×Nat)},(∀p∈l,p∈m)->(j,i)∈l->inv l i=some j:=by
  intro l
  induction l with
  |nil=>intro _ q;cases q
  |cons p l ih=>
   intro hs q;simp only[inv];split
   .rename_i e;have:=O.snd p (hs p (by simp)) (j,i) h e;rw[this]
   .rename_i e;rcases List.mem_cons.1 q with r|r
    .rw[<-r]at e;exact absurd rfl e
    .exact ih (fun p hp=>hs p (by simp[hp])) r
 exact this (fun p hp=>hp) h
theorem xY{f:Nat->Option Nat}{h:Tr bu}:∀{m:List (Nat×Nat)}{t t':Tr bu},oa f h m t=some t'->∀i,((∀p∈m,p.2≠i)->t'.get i=t.get i) /\
  ∀o',t'.get i=some o'->t.get i=some o'\/∃j o,(j,i)∈m/\h.get j=some o/\jz f o=some o'
 |[],t,t',e,i=>by simp only[oa,bV]at e;subst e;exact⟨fun _=>rfl,fun o' q=>.inl q⟩|p::m,t,t',e,i=>by
  simp only[oa]at e;split at e<;>try cases e
  rename_i t₁ h₁;obtain⟨i1,i2⟩:=xY h₁ i;have back:∀o',t₁.get i=some o'->t.get i=some o'\/∃j o,(j,i)∈p::m/\h.get j=some o/\jz f o=some o':=by
   intro o' q;rcases i2 o' q with q|⟨j,o,a,b,c⟩
   .exact .inl q
   .exact .inr ⟨j,o,eK _ a,b,c⟩
  split at e
  .rename_i o ho;split at e<;>try cases e
   rename_i o₁ hr;have hg:=Tr.cI _ _ _ _ _ e i;rw[hg];by_cases q:i=p.2
   .rw[if_pos q];refine⟨fun hn=>absurd q.symm (hn p List.mem_cons_self),?_⟩;intro o' r;cases r;exact .inr ⟨p.1,o,by rw[q];exact List.mem_cons_self,ho,hr⟩
   .rw[if_neg q];exact⟨fun hn=>i1 (fun p hp=>hn p (eK _ hp)),back⟩
  .simp only[bV]at e;subst e;exact⟨fun hn=>i1 (fun p hp=>hn p (eK _ hp)),back⟩
theorem J9{f:Nat->Option Nat}{n:Nat}{T:Tr AV}:∀{l:List Tmp}{T':Tr AV},ux f n T l=some T'->∀t v',T'.get t=some v'->∃v,T.get t=some v/\jA f v=some v'
 |[],T',e,t,v',h=>by simp only[ux,bV]at e;subst e;simp[Tr.get]at h|x::l,T',e,t,v',h=>by
  simp only[ux]at e;split at e<;>try cases e
  rename_i T₁ h₁;split at e<;>try cases e
  rename_i v hv;split at e<;>try cases e
  rename_i u hu;rw[oY e t]at h;by_cases q:x=t
  .subst q;rw[if_pos rfl]at h;cases h;exact⟨v,hv,hu⟩
  .rw[if_neg (by simpa using q)]at h;exact J9 h₁ t v' h
def xj(base n:Nat)(bj:List Tmp)(m:List (Nat×Nat))(nx:Nat)(st:St):Option St:=match Gf base nx m,Nat.ble base nx with
 |true,true=>match ux (Gg base m) n st.T bj,Jq base st.h.tr base .nil with
  |some T,some t=>match oa (Gg base m) st.h.tr m t with|some t=>some ⟨T,⟨t,nx⟩⟩|none=>none
  |_,_=>none
 |_,_=>none
open Go.Proofs.YtkcpdpplobhpaaaGreat.Ev (Tr Tr.cI nth dI Ex)
def jS:Code->Nat
 |.region id _ _=>id|.seq a _=>jS a|.block _ a=>jS a|.loop a=>jS a|.scope a=>jS a|_=>0
def tI(n:Nat):List (Tmp×Sh×TypeId)->St->Option St
 |[],st=>some st|p::l,st=>match st.T.get p.1 with
  |some v=>match v with
   |.bk=>match Tr.set FT st.h.tr st.h.next (some (.arr p.2.1 [] p.2.2))with
    |some t=>match gm n st.T (some p.1) (.hd st.h.next p.2.1)with|some T=>tI n l ⟨T,⟨t,st.h.next+1⟩⟩|none=>none
    |none=>none
   |_=>tI n l st
  |none=>none
abbrev lr(R:Type):=Nat->St->(Ex->St->Option R)->Option R
def fb:Code->List Code
 |.seq a b=>fb a++fb b|.cond _ a b=>fb a++fb b|.block _ a=>fb a|.loop a=>[a]|.scope a=>fb a|_=>[]
def DH(T:Tr AV)(c:Operand)(b:Bool):Option (Tr AV):=match c with|.tmp t=>Tr.set FT T t (some (.bool b))|_=>some T
section
variable{R:Type}(P:Program)(sh:TypeId->Option Sh)(call:iM R)(loops:lr R)(n:Nat)
def runK:Code->St->(Ex->St->Option R)->Option R
 |.skip,st,k=>k .normal st|.label _,st,k=>k .normal st|.region _ ops draw,st,k=>match draw with|false=>sI P sh call n ops ops.toList st (k .normal)|true=>Jr P sh call n ops st (k .normal)
 |.seq x y,st,k=>runK x st fun e st=>match e with|.normal=>runK y st k|.exit i=>k (.exit i) st|.ret=>k .ret st
 |.cond c x y,st,k=>match dp st.T c with
  |some v=>match v with
   |.bool b=>br b (match DH st.T c true with|some T=>runK x ⟨T,st.h⟩ k|none=>none) (match DH st.T c false with|some T=>runK y ⟨T,st.h⟩ k|none=>none)
   |_=>none
  |none=>none
 |.block id x,st,k=>runK x st fun e st=>match e with
  |.normal=>k .normal st|.exit i=>match Nat.beq i id with|true=>k .normal st|false=>k (.exit i) st
  |.ret=>k .ret st
 |.loop x,st,k=>loops (jS x) st k|.scope x,st,k=>runK x st k|.exit id,st,k=>k (.exit id) st|.ret,st,k=>k .ret st|_,_,_=>none
end
theorem JV{n:Nat}:∀{l:List (Tmp×Sh×TypeId)}{st st':St},tI n l st=some st'->∀{X:Cx}{a:Act},RF X n st a->∃X',X'.w=X.w/\RF X' n st' a/\aO X X'
 |[],st,st',e,X,a,R=>by simp only[tI,bV]at e;subst e;exact⟨X,rfl,R,aO.refl X⟩|p::l,st,st',e,X,a,R=>by
  simp only[tI]at e;split at e<;>try cases e
  rename_i v hv;split at e
  .split at e<;>try cases e
   rename_i t ht;split at e<;>try cases e
   rename_i T hT;have hX:=R.h;rw[<-hX]at ht;obtain⟨E,H'⟩:=aF.void R.H ht;have hg:=oY hT;have g0:=Tr.cI _ _ _ _ _ ht;obtain⟨X',h1,h2,h3⟩:=JV e (X:=⟨bZ X.s X.h.next .nil,⟨t,X.h.next+1⟩,X.w,X.A⟩) (a:=a) (by
    refine⟨by rw[hX],⟨R.T.size,R.T.defers,?_⟩,H'⟩;intro x u hu;rw[hg x]at hu;by_cases q:p.1=x
    .subst q;rw[if_pos rfl]at hu;cases hu;obtain⟨V,b1,b2⟩:=R.T.get _ _ hv;refine⟨V,b1,.nil,by rw[<-hX];exact fG _ _ _,?_,?_⟩
     .rw[show V=_ from b2];rfl
     .intro n' q;rw[<-hX]at q
      replace q:rowOf t X.h.next=some n':=q
      rw[jI (by rw[g0,if_pos rfl])]at q;cases q;rw[show V=_ from b2];rfl
    .rw[if_neg (by simpa using q)]at hu;obtain⟨V,b1,b2⟩:=R.T.get _ _ hu;exact⟨V,b1,b2.ext (E.eS R.H)⟩)
   exact⟨X',h1,h2,E.trans h3⟩
  .exact JV e R
def lO(P:Program)(G:Cx->Prop)(base n:Nat)(x:Code){R:Type}(g:St->(Ex->St->Option R)->Option R):Prop:=∀st k r,g st k=some r->∃e st',k e st'=some r/\Jn P G base n (.loop x) st e st'
theorem VZ{X:Cx}{n:Nat}{T T':Tr AV}{c:Operand}{a:Act}{b:Bool}(R:kI X n T a)(hv:dp T c=some (.bool b))(h:DH T c b=some T'):kI X n T' a:=by
 unfold DH at h;split at h
 .rename_i t;refine⟨R.size,R.defers,?_⟩;intro u x hu;rw[Tr.cI _ _ _ _ _ h u]at hu;by_cases q:u=t
  .subst q;rw[if_pos rfl]at hu;cases hu;exact R.get u _ hv
  .rw[if_neg q]at hu;exact R.get u x hu
 .cases h;exact R
theorem sH{X:Cx}{n:Nat}{T:Tr AV}{a:Act}(R:kI X n T a){c:Operand}{v:AV}(hv:dp T c=some v):Rel X v (a.eval c):=by
 cases c with
 |tmp t=>obtain⟨V,h1,h2⟩:=R.get t v hv;simpa[Act.eval,Array.getD_eq_getD_getElem?,h1]using h2
 |const u=>exact JU hv X|func f=>simp[dp]at hv;subst hv;exact⟨[],[],rfl,rfl,rfl⟩|global g=>simp[dp]at hv
theorem uw{R:Type}{G:Cx->Prop}{P:Program}(hm:P.follows .mixedOrders=true){sh:TypeId->Option Sh}{call:iM R}(hc:kf P call){loops:lr R}{base n:Nat} :
  ∀(c:Code),(∀x∈fb c,lO P G base n x (loops (jS x)))->∀(st:St) (k:Ex->St->Option R) (r:R),runK P sh call loops n c st k=some r->∃e st',k e st'=some r/\Jn P G base n c st e st':=by
 intro c
 induction c with
 |skip=>intro hl st k r e;exact⟨.normal,st,e,fun X₀ X a hb H₀ hE RR Q hQ=>wp_skip (hQ X a RR hE)⟩|label l=>intro hl st k r e;exact⟨.normal,st,e,fun X₀ X a hb H₀ hE RR Q hQ=>wp_label (hQ X a RR hE)⟩|exit id=>intro hl st k r e;exact⟨.exit id,st,e,fun X₀ X a hb H₀ hE RR Q hQ=>wp_exit (hQ X a RR hE)⟩|ret=>intro hl st k r e;exact⟨.ret,st,e,fun X₀ X a hb H₀ hE RR Q hQ=>wp_ret (hQ X a RR hE)⟩|region id ops draw=>
  intro hl st k r e;simp only[runK]at e;cases draw with
  |false=>simp only[]at e;obtain⟨st',hk,S⟩:=Wu hc ops.toList 0 st (k .normal) r e (by intro j;simp);refine⟨.normal,st',hk,?_⟩;intro X₀ X a hb H₀ hE RR Q hQ;refine wp_region ?_;have:=S X a RR Q (fun X' a' R' E'=>hQ X' a' R' (hE.trans E'));rw[List.range_eq_range'];simpa using this
  |true=>simp only[]at e;obtain⟨st',hk,S⟩:=ae5 hm hc (base:=base) e id;exact⟨.normal,st',hk,S⟩
 |seq x y ihx ihy=>
  intro hl st k r e;simp only[runK]at e;obtain⟨e₁,st₁,hk,S⟩:=ihx (fun x h=>hl x (by simp[fb,h])) _ _ _ e;cases e₁ with
  |normal=>simp only[]at hk;obtain⟨e₂,st₂,hk₂,S₂⟩:=ihy (fun x h=>hl x (by simp[fb,h])) _ _ _ hk;refine⟨e₂,st₂,hk₂,?_⟩;intro X₀ X a hb H₀ hE RR Q hQ;exact wp_seq (S X₀ X a hb H₀ hE RR _ (fun X' a' R' E'=>S₂ X₀ X' a' hb H₀ E' R' Q hQ))
  |exit i=>simp only[]at hk;exact⟨_,_,hk,fun X₀ X a hb H₀ hE RR Q hQ=>wp_seq (S X₀ X a hb H₀ hE RR _ (fun X' a' R' E'=>hQ X' a' R' E'))⟩|ret=>simp only[]at hk;exact⟨_,_,hk,fun X₀ X a hb H₀ hE RR Q hQ=>wp_seq (S X₀ X a hb H₀ hE RR _ (fun X' a' R' E'=>hQ X' a' R' E'))⟩
 |cond c x y ihx ihy=>
  intro hl st k r e;simp only[runK]at e;split at e<;>try cases e
  rename_i v hv;split at e<;>try cases e
  rename_i b;rcases Jp e with⟨rfl,e2⟩|⟨rfl,e2⟩
  .split at e2<;>try cases e2
   rename_i T hT;obtain⟨e₁,st₁,hk,S⟩:=ihx (fun x h=>hl x (by simp[fb,h])) _ _ _ e2;exact⟨e₁,st₁,hk,fun X₀ X a hb H₀ hE RR Q hQ=>wp_cond_true (sH RR.T hv) (S X₀ X a hb H₀ hE ⟨RR.h,VZ RR.T hv hT,RR.H⟩ Q hQ)⟩
  .split at e2<;>try cases e2
   rename_i T hT;obtain⟨e₁,st₁,hk,S⟩:=ihy (fun x h=>hl x (by simp[fb,h])) _ _ _ e2;exact⟨e₁,st₁,hk,fun X₀ X a hb H₀ hE RR Q hQ=>wp_cond_false (sH RR.T hv) (S X₀ X a hb H₀ hE ⟨RR.h,VZ RR.T hv hT,RR.H⟩ Q hQ)⟩
 |block id x ih=>
  intro hl st k r e;simp only[runK]at e;obtain⟨e₁,st₁,hk,S⟩:=ih (fun x h=>hl x (by simpa[fb]using h)) _ _ _ e;cases e₁ with
  |normal=>exact⟨_,_,hk,fun X₀ X a hb H₀ hE RR Q hQ=>wp_block (S X₀ X a hb H₀ hE RR _ (fun X' a' R' E'=>hQ X' a' R' E'))⟩|ret=>exact⟨_,_,hk,fun X₀ X a hb H₀ hE RR Q hQ=>wp_block (S X₀ X a hb H₀ hE RR _ (fun X' a' R' E'=>hQ X' a' R' E'))⟩|exit i=>
   simp only[]at hk;split at hk
   .rename_i q;have q:=bD q;refine⟨_,_,hk,fun X₀ X a hb H₀ hE RR Q hQ=>wp_block (S X₀ X a hb H₀ hE RR _ (fun X' a' R' E'=>?_))⟩;simp only[Ex.to,Exit.inBlock,if_pos q];exact hQ X' a' R' E'
   .rename_i q;have q:=Nat.ne_of_beq_eq_false q;refine⟨_,_,hk,fun X₀ X a hb H₀ hE RR Q hQ=>wp_block (S X₀ X a hb H₀ hE RR _ (fun X' a' R' E'=>?_))⟩;simp only[Ex.to,Exit.inBlock,if_neg q];exact hQ X' a' R' E'
 |loop x ih=>intro hl st k r e;simp only[runK]at e;exact hl x (by simp[fb]) st k r e|scope x ih=>intro hl st k r e;simp only[runK]at e;obtain⟨e₁,st₁,hk,S⟩:=ih (fun x h=>hl x (by simpa[fb]using h)) _ _ _ e;refine⟨e₁,st₁,hk,fun X₀ X a hb H₀ hE RR Q hQ=>wp_scope_straight (S X₀ X a hb H₀ hE RR _ (fun X' a' R' E'=>?_))⟩;have:=hQ X' a' R' E';cases e₁<;>exact this
 |_=>intro hl st k r e;simp[runK]at e
def k7(w:World)(A:Nat->Prop):(l:List Sh)->TL l->List Value->Prop
 |[],_,vs=>vs=[]|σ::l,d,vs=>∃V r,vs=V::r/\ju w A σ d.1 V/\k7 w A l d.2 r
def lM:List Value->Value
 |[v]=>v|l=>.tuple (List.toArray l)
def pR:List AV->AV
 |[v]=>v|l=>.cM l
def yn:(l:List Sh)->TL l->List AV
 |[],_=>[]|σ::l,d=>Bl σ d.1::yn l d.2
theorem yb{X:Cx}:∀{l:List Sh}{d:TL l}{vs:List Value},k7 X.w X.out l d vs->bB X (yn l d) vs
 |[],_,vs,h=>h|σ::l,d,vs,⟨V,r,e,h1,h2⟩=>⟨V,r,e,FM h1,yb h2⟩
theorem k7.bj{w w':World}{A A':Nat->Prop}(K:jl w A w' A'):∀{l:List Sh}{d:TL l}{vs:List Value},k7 w A l d vs->k7 w' A' l d vs
 |[],_,vs,h=>h|σ::l,d,vs,⟨V,r,e,h1,h2⟩=>⟨V,r,e,h1.bj K,h2.bj K⟩
def mo(kl:Bool)(h:Hp):(l:List Sh)->List AV->Option (TL l×Hp)
 |[],vs=>match vs with|[]=>some ((),h)|_=>none
 |σ::l,vs=>match vs with
  |v::vs=>match qZ kl h σ v with
   |some (d,h)=>match mo kl h l vs with|some (e,h)=>some ((d,e),h)|none=>none
   |none=>none
  |[]=>none
theorem vL{kl:Bool}:∀{l:List Sh}{X:Cx}(H:aF X) {vs:List AV}{d:TL l}{h':Hp},mo kl X.h l vs=some (d,h')->∀{cs:List Value},bB X vs cs ->
  fL X h'/\k7 X.w (Cx.out ⟨X.s,h',X.w,X.A⟩) l d cs
 |[],X,H,vs,d,h',e,cs,R=>by simp only[mo]at e;split at e<;>cases e;exact⟨fL.refl H,R⟩
 |σ::l,X,H,vs,d,h',e,cs,R=>by
  simp only[mo]at e;split at e<;>try cases e
  rename_i v vs;split at e<;>try cases e
  rename_i d₁ h₁ e₁;split at e<;>cases e;rename_i d₂ e₂;obtain⟨V,r,rfl,R1,R2⟩:=R;obtain⟨F₁,o₁⟩:=Ke H e₁ R1;obtain⟨F₂,o₂⟩:=vL (X:=⟨X.s,h₁,X.w,X.A⟩) F₁.H e₂ (R2.ext (F₁.E.eS H));exact⟨F₁.trans F₂,V,r,rfl,o₁.bj F₂.E.keeps,o₂⟩
def Comes(P:Program)(f:FuncId)(σs τs:List Sh)(F:TL σs->Option (TL τs)):Prop:=
 (∃fn c,P.funcs[f]?=some fn/\(fn.name == "runtime.NumGoroutine")=false/\fn.body=some c) /\
 ∀d x,F d=some x->∀(w:World) (A:Nat->Prop) (args:List Value),(∀b,A b->b<w.heap.size)->k7 w A σs d args ->
  Calls P f (List.toArray args) w fun e w'=>∃vs,e=.returned (lM vs)/\Below w.heap.size w w'/\k7 w' A τs x vs
def ao{α R:Type}(x:Option α)(k:α->Option R):Option R:=match x with|some a=>k a|none=>none
theorem vY{α R:Type}{x:Option α}{k:α->Option R}{r:R}(h:ao x k=some r):∃a,x=some a/\k a=some r:=by
 cases x with
 |none=>cases h
 |some a=>exact⟨a,rfl,h⟩
structure Spec where
 σs:List Sh
 τs:List Sh
 F:TL σs->Option (TL τs)
abbrev vp:=FuncId->Option Spec
def Ka(P:Program)(S:vp):Prop:=∀f s,S f=some s->Comes P f s.σs s.τs s.F
mutual
def plain:Sh->Bool
 |.sl _=>false|.agg l=>qi l|_=>true
termination_by structural x=>x
def qi:List Sh->Bool
 |[]=>true|s::l=>match plain s with|true=>qi l|false=>false
termination_by structural x=>x
end
mutual
theorem Bk{w w':World}{A A':Nat->Prop}:∀{σ:Sh}{d:σ.T}{cs:List Value},plain σ=true->Cs w A σ d cs->Cs w' A' σ d cs
 |.int k,n,cs,_,h=>h|.bool,b,cs,_,h=>h|.str,s,cs,_,h=>h|.agg l,d,cs,hp,h=>Wc (l:=l) hp h|.sl s,L,cs,hp,h=>by cases hp
theorem Wc{w w':World}{A A':Nat->Prop}:∀{l:List Sh}{d:TL l}{cs:List Value},qi l=true->gZ w A l d cs->gZ w' A' l d cs
 |[],_,cs,_,h=>h|s::l,d,cs,hp,⟨c,r,e,h1,h2⟩=>by
  simp only[qi]at hp;split at hp<;>try cases hp
  rename_i hs;exact⟨c,r,e,Bk hs h1,Wc hp h2⟩
end
theorem Zyd{w w':World}{A A':Nat->Prop}:∀{l:List Sh}{d:TL l}{vs:List Value},qi l=true->k7 w A l d vs->k7 w' A' l d vs
 |[],_,vs,_,h=>h|s::l,d,vs,hp,⟨V,r,e,h1,h2⟩=>by
  simp only[qi]at hp;split at hp<;>try cases hp
  rename_i hs;exact⟨V,r,e,⟨Bk hs h1.1,h1.2⟩,Zyd hp h2⟩
def JH{R:Type}(S:vp):iM R:=fun f vs h k=>match S f with
 |some s=>match mo (qi s.τs) h s.σs vs with|some (d,_)=>ao (s.F d) fun x=>k false (pR (yn s.τs x)) h|none=>match mo true h s.σs vs with|some (d,h')=>ao (s.F d) fun x=>k true (pR (yn s.τs x)) h'|none=>none
 |none=>none
mutual
theorem Wr{h:Hp}:∀{σ:Sh}{l:List AV}{d:σ.T}{r:List AV}{h':Hp},fi false h σ l=some (d,r,h')->h'=h
 |.int k,l,d,r,h',e=>by
  simp only[fi]at e;split at e<;>try cases e
  split at e<;>cases e;rfl
 |.bool,l,d,r,h',e=>by simp only[fi]at e;split at e<;>cases e;rfl
 |.str,l,d,r,h',e=>by simp only[fi]at e;split at e<;>cases e;rfl
 |.agg ss,l,d,r,h',e=>Zyp (ss:=ss) e|.sl s,l,d,r,h',e=>by
  simp only[fi]at e;split at e<;>try cases e
  .rfl
  .split at e<;>cases e;rfl
  .split at e<;>try cases e
   split at e<;>try cases e
   contradiction
  .split at e<;>try cases e
   split at e<;>try cases e
   contradiction
theorem Zyp{h:Hp}:∀{ss:List Sh}{l:List AV}{d:TL ss}{r:List AV}{h':Hp},kL false h ss l=some (d,r,h')->h'=h
 |[],l,d,r,h',e=>by simp only[kL,bV]at e;cases e;rfl
 |s::ss,l,d,r,h',e=>by
  simp only[kL]at e;split at e<;>try cases e
  rename_i d₁ r₁ h₁ e₁;split at e<;>cases e;rename_i e₂;have:=Wr e₁;subst this;exact Zyp e₂
end
theorem Zyq{h:Hp}:∀{l:List Sh}{vs:List AV}{d:TL l}{h':Hp},mo false h l vs=some (d,h')->h'=h
 |[],vs,d,h',e=>by simp only[mo]at e;split at e<;>cases e;rfl
 |σ::l,vs,d,h',e=>by
  simp only[mo]at e;split at e<;>try cases e
  rename_i v vs;split at e<;>try cases e
  rename_i d₁ h₁ e₁;split at e<;>cases e;rename_i e₂;have:h₁=h:=by
   unfold qZ at e₁;split at e₁
   case h_3=>cases e₁
   all_goals
    split at e₁<;>try cases e₁
    rename_i e₃;split at e₁<;>cases e₁;exact Wr e₃
  subst this;exact Zyq e₂
theorem Bh{X:Cx}:∀{l:List AV}{cs:List Value},bB X l cs->Rel X (pR l) (lM cs)
 |[],cs,h=>by rw[show cs=[]from h];exact⟨[],rfl,rfl⟩|[v],cs,⟨V,r,e,h1,h2⟩=>by rw[show r=[]from h2]at e;rw[e];exact h1|v::u::l,cs,⟨V,r,e,h1,⟨V',r',e',h2,h3⟩⟩=>by subst e';subst e;exact⟨V::V'::r',rfl,V,V'::r',rfl,h1,V',r',rfl,h2,h3⟩
theorem afT{R:Type}{P:Program}{S:vp}(hS:Ka P S):kf P (JH (R:=R) S):=by
 intro f vs h k r e;unfold JH at e;split at e<;>try cases e
 rename_i s hs;obtain⟨hf,hp⟩:=hS f s hs;split at e
 case h_2=>
  split at e<;>try cases e
  rename_i d h' hd;obtain⟨x,hx,hk⟩:=vY e;refine⟨true,_,h',hk,(fun q=>by cases q),hf,?_⟩;intro X args hX H hR;subst hX;obtain⟨F,hA⟩:=vL H hd hR;refine(hp d x hx X.w (Cx.out ⟨X.s,h',X.w,X.A⟩) args (fun b hb=>hb.elim (F.H.alt b) F.H.vX) hA).mono ?_;rintro e w' ⟨us,rfl,B,hA'⟩;have E:aO ⟨X.s,h',X.w,X.A⟩ ⟨X.s,h',w',X.A⟩:=⟨B.os,B.tape,B.output,B.size,fun _ _ h=>h,fun _ _ _ h=>h,aS _,fun b hb _=>B.block b hb,fun b h=>.inl h,fun j n _ h=>h,fun _ _ _=>rfl,rfl⟩;refine⟨⟨X.s,h',w',X.A⟩,lM us,rfl,rfl,rfl,?_,F.E.trans E,Bh (yb hA')⟩;refine⟨?_,F.H.inj,F.H.lt,F.H.di,fun b hb=>iS (F.H.alt b hb) B.size,F.H.loc⟩;intro i o l h1 h2;refine(F.H.obj i o l h1 h2).ext (E.eS F.H) ?_;intro b hb;exact B.block b (F.H.jj h1 h2 hb)
 rename_i d h' hd;obtain⟨x,hx,hk⟩:=vY e;refine⟨false,_,h,hk,fun _=>fl.refl h,hf,?_⟩;intro X args hX H hR;subst hX;obtain⟨F,hA⟩:=vL H hd hR;have hout:∀b,Cx.out ⟨X.s,h',X.w,X.A⟩ b->X.out b:=by
  rintro b (q|⟨i,o,c,h1,h2⟩)
  .exact .inl q
  .exact .inr ⟨i,o,c,F.sub i o h1,h2⟩
 refine(hp d x hx X.w (Cx.out ⟨X.s,h',X.w,X.A⟩) args (fun b hb=>(hout b hb).elim (H.alt b) H.vX) hA).mono ?_;rintro e w' ⟨us,rfl,B,hA'⟩;have hw:∀b o,X.w.heap[b]?=some o->w'.heap[b]?=some o:=fun b o q=>by rw[B.block b (fN q)];exact q
 have E:aO X ⟨X.s,X.h,w',X.A⟩:=⟨B.os,B.tape,B.output,B.size,fun _ _ h=>h,fun _ _ _ h=>h,aS _,fun b hb _=>B.block b hb,fun b h=>.inl h,fun j n _ h=>h,fun _ _ _=>rfl,rfl⟩;have hA'':k7 w' X.out s.τs x us:=by cases hpl:qi s.τs with|true=>exact Zyd hpl hA'|false=>rw[hpl]at hd;have:=Zyq hd;subst this;exact hA'
 refine⟨⟨X.s,X.h,w',X.A⟩,lM us,rfl,rfl,rfl,?_,E,Bh (yb hA'')⟩;refine⟨?_,H.inj,H.lt,H.di,fun b hb=>iS (H.alt b hb) B.size,H.loc⟩;intro i o l h1 h2;refine(H.obj i o l h1 h2).ext (E.eS H) ?_;intro b hb;exact B.block b (H.jj h1 h2 hb)
def kX(n:Nat):List AV->Nat->Tr AV->Option (Tr AV)
 |[],_,T=>some T|v::l,i,T=>match gm n T (some i) v with|some T=>kX n l (i+1) T|none=>none
theorem Zpk{n:Nat}:∀{vs:List AV}{i:Nat}{T T':Tr AV},kX n vs i T=some T'->∀t v,T'.get t=some v->(i<=t/\vs[t-i]?=some v)\/T.get t=some v
 |[],i,T,T',h,t,v,hv=>by simp[kX]at h;subst h;exact .inr hv|x::l,i,T,T',h,t,v,hv=>by
  simp only[kX]at h;split at h<;>try cases h
  rename_i T₁ h₁;rcases Zpk h t v hv with⟨hi,hl⟩|hT
  .left;refine⟨by omega,?_⟩;rw[show t-i=(t-(i+1))+1 by omega];simpa using hl
  .rw[oY h₁ t]at hT;by_cases q:i=t
   .subst q;simp at hT;subst hT;left;simp
   .rw[if_neg (by simpa using q)]at hT;exact .inr hT
theorem Wm{n:Nat}:∀{vs:List AV}{i:Nat}{T T':Tr AV},kX n vs i T=some T'->vs=[]\/i+vs.length<=n
 |[],i,T,T',h=>.inl rfl|x::l,i,T,T',h=>by
  right;simp only[kX]at h;split at h<;>try cases h
  rename_i T₁ h₁;have:i+1<=n:=JZ h₁;rcases Wm h with q|q
  .subst q;simp;omega
  .simp;omega
theorem uc{X:Cx}(H:aF X){n:Nat}{vs:List AV}{T:Tr AV}(h:kX n vs 0 .nil=some T){args:List Value}(R:bB X vs args) :
  RF X n ⟨T,X.h⟩ { tmps:=List.toArray args++Array.replicate (n-(List.toArray args).size) undef,defers:=[] }:=by
 have hL:=R.length;have hn:args.length<=n:=by
  rcases Wm h with q|q
  .subst q;simp at hL;simp[hL]
  .omega
 refine⟨rfl,⟨by simp;omega,rfl,?_⟩,H⟩;intro t u hu;rcases Zpk h t u hu with⟨_,h1⟩|h1
 .simp only[Nat.sub_zero]at h1;obtain⟨V,h2,h3⟩:=R.get h1;refine⟨V,?_,h3⟩;have hlt:t<args.length:=by
   rcases de t args.length with q|q
   .exact q
   .rw[ep q]at h2;cases h2
  rw[Array.getElem?_append_left (by simpa using hlt)];simpa using h2
 .simp[Tr.get]at h1
def lV(P:Program)(st:St):List ResultVar->Option (List AV)
 |[]=>some []|r::l=>match(match r with
   |.tmp t=>st.T.get t|.cell a t=>match st.T.get a with
    |some u=>match rC P st.h t u with|some (true,v)=>some v|_=>none
    |none=>none)with
  |some v=>match lV P st l with|some vs=>some (v::vs)|none=>none
  |none=>none
theorem ajg{X:Cx}{P:Program}{u v:AV}{U V:Value}{t:TypeId}(H:aF X)(e:rC P X.h t u=some (true,v))(R:Rel X u U)(hr:(Instr.loadAt t U).run P X.w=.ok V X.w) :
  (do loadVar t (<- asAddr U):Sem Value).run P X.w=.ok V X.w:=by
 unfold rC at e;split at e<;>try cases e
 rename_i g l o hc;split at e<;>try cases e
 obtain⟨b,off,c,ty,fr,cs,rfl,h1,h2,h3⟩:=Zxc H hc rfl R;simp only[Instr.loadAt,Instr.sureAddr,asAddr,Sem.run_bind,Sem.run_pure,Result.andThen_ok]at hr |-;exact hr
theorem Ztb{P:Program}{st:St}{X:Cx}{n:Nat}{a:Act}(R:RF X n st a)(f:ResultVar->Sem Value)
  (hf:∀r,f r=match r with|.tmp t=>pure (a.tmps.getD t undef)|.cell x t=>do loadVar t (<- asAddr (a.tmps.getD x undef))) :
  ∀{l:List ResultVar}{vs:List AV},lV P st l=some vs->∃Vs,(l.mapM f).run P X.w=.ok Vs X.w/\bB X vs Vs
 |[],vs,h=>by simp[lV]at h;subst h;exact⟨[],rfl,rfl⟩|r::l,vs,h=>by
  simp only[lV]at h;split at h<;>try cases h
  rename_i v hv;split at h<;>try cases h
  rename_i vs' hl;obtain⟨Vs,ih,hR⟩:=Ztb R f hf hl;have h1:∃V,(f r).run P X.w=.ok V X.w/\Rel X v V:=by
   rw[hf r];cases r with
   |tmp t=>obtain⟨V,g1,g2⟩:=R.T.get t v hv;exact⟨V,by simp[Array.getD_eq_getD_getElem?,g1],g2⟩
   |cell x t=>
    simp only[]at hv |-;split at hv<;>try cases hv
    rename_i u hu;split at hv<;>cases hv;rename_i hv;obtain⟨U,g1,g2⟩:=R.T.get x u hu;have hX:=R.h;rw[<-hX]at hv;obtain⟨V,hr,hR⟩:=Zpo R.H hv rfl g2;refine⟨V,?_,hR⟩;have hx':a.tmps.getD x undef=U:=by simp[Array.getD_eq_getD_getElem?,g1]
    rw[hx'];exact ajg R.H hv g2 hr
  obtain⟨V,h1,h2⟩:=h1;refine⟨V::Vs,?_,V,Vs,rfl,h2,hR⟩;rw[List.mapM_cons];simp only[Sem.run_bind,h1,Result.andThen_ok,ih,Sem.run_pure]
theorem FF{P:Program}{st:St}{X:Cx}{n:Nat}{a:Act}(R:RF X n st a){fn:Func}{vs:List AV}(h:lV P st fn.results.toList=some vs) :
  ∃Vs,(results fn a.tmps).run P X.w=.ok (lM Vs) X.w/\bB X vs Vs:=by
 obtain⟨Vs,h1,hR⟩:=Ztb R _ (fun r=>rfl) h;refine⟨Vs,?_,hR⟩;unfold results;rw[Sem.run_bind,Array.mapM_eq_mapM_toList,Sem.run_map];have h2:(List.mapM (fun x=>match x with|.tmp t=>pure (a.tmps.getD t undef)|.cell x t=>do loadVar t (<- asAddr (a.tmps.getD x undef)):ResultVar->Sem Value) fn.results.toList).run P X.w=.ok Vs X.w:=h1;refine(congrArg (fun r=>((Result.andThen r _).andThen _)) h2).trans ?_;simp only[Result.andThen_ok,Sem.run_pure];congr 1
 match Vs with|[]=>simp[lM]|[v]=>simp[lM]|u::v::l=>simp[lM]
inductive LA where
 |int (k:IntKind)
 |bool
 |str
 |fz (τ:Sh)
 |ed
 |bk
 |fE
 |fj
 |fV
 |jK
 |ej (τ:Sh)
 |fX (σ:Sh) (o:Nat)
 |dT (b z o:Nat)
 |rp (b:Nat)
 |ptr (b off:Nat)
 |hd (b:Nat) (τ:Sh)
 |mp (b:Nat)
 |dW (b:Nat)
 |func (f:FuncId) (x c:List LA)
 |agg (l:List LA)
 |cM (l:List LA)
mutual
def σA:LA->List Sh->List Sh
 |.int k,r=>.int k::r|.bool,r=>.bool::r|.str,r=>.str::r|.fz τ,r=>.sl τ::r|.ed,r=>r|.bk,r=>r|.fE,r=>r|.fj,r=>r|.fV,r=>r|.jK,r=>r|.ej τ,r=>.bool::.sl τ::r|.fX σ _,r=>σ::r|.dT _ _ _,r=>.int .i64::r|.rp _,r=>.int .i64::r|.ptr _ _,r=>r|.hd _ _,r=>r|.mp _,r=>r|.dW _,r=>r|.func _ x c,r=>iz x (iz c r)|.agg l,r=>iz l r|.cM l,r=>iz l r
termination_by structural x=>x
def iz:List LA->List Sh->List Sh
 |[],r=>r|a::l,r=>σA a (iz l r)
termination_by structural x=>x
end
mutual
def nU:(a:LA)->(r:List Sh)->TL (σA a r)->AV×TL r
 |.int k,r,d=>(.int k d.1,d.2)|.bool,r,d=>(.bool d.1,d.2)|.str,r,d=>(.str d.1,d.2)|.fz τ,r,d=>(.fz τ d.1,d.2)|.ed,r,d=>(.ed,d)|.bk,r,d=>(.bk,d)|.fE,r,d=>(.fE,d)|.fj,r,d=>(.fj,d)|.fV,r,d=>(.fV,d)|.jK,r,d=>(.jK,d)|.ej τ,r,d=>(.ej τ d.1 d.2.1,d.2.2)|.fX σ o,r,d=>(.fX σ d.1 o,d.2)|.dT b z o,r,d=>(.dT b (Int.toNat d.1) z o,d.2)|.rp b,r,d=>(.rp b (Int.toNat d.1),d.2)|.ptr b o,r,d=>(.ptr b o,d)|.hd b τ,r,d=>(.hd b τ,d)|.mp b,r,d=>(.mp b,d)|.dW b,r,d=>(.dW b,d)|.func f x c,r,d=>(.func f (iP x (iz c r) d).1 (iP c r (iP x (iz c r) d).2).1,(iP c r (iP x (iz c r) d).2).2)|.agg l,r,d=>(.agg (iP l r d).1,(iP l r d).2)|.cM l,r,d=>(.cM (iP l r d).1,(iP l r d).2)
termination_by structural x=>x
def iP:(l:List LA)->(r:List Sh)->TL (iz l r)->List AV×TL r
 |[],r,d=>([],d)|a::l,r,d=>((nU a (iz l r) d).1::(iP l r (nU a (iz l r) d).2).1,(iP l r (nU a (iz l r) d).2).2)
termination_by structural x=>x
end
def abC(k:IntKind):AV->Option Int
 |.int k' n=>match Nat.beq (Ev.IntKind.num k') (Ev.IntKind.num k)with|true=>some n|false=>none
 |_=>none
def Vz:AV->Option Bool
 |.bool b=>some b|_=>none
def abG:AV->Option ByteArray
 |.str s=>some s|_=>none
def gFz(τ:Sh):AV->Option (List τ.T)
 |.fz τ' L=>match e:τ'.eqv τ with|true=>some (jW e L)|false=>none
 |.bk=>some []|_=>none
def aib{σ τ:Sh}(h:σ.eqv τ=true)(d:σ.T):τ.T:=Sh.fK h▸d
def Oh(σ:Sh)(o:Nat):AV->Option σ.T
 |.fX σ' d o'=>match e:σ'.eqv σ,Nat.beq o' o with|true,true=>some (aib e d)|_,_=>none
 |_=>none
theorem afi{σ:Sh}{o:Nat}{v:AV}{d:σ.T}(h:Oh σ o v=some d){X:Cx}{V:Value}(R:Rel X v V):Rel X (.fX σ d o) V:=by
 unfold Oh at h;split at h<;>try cases h
 rename_i σ' d' o';split at h<;>try cases h
 rename_i e q;have q:=bD q;subst q;obtain rfl:=Sh.fK e;exact R
def tz:LA->AV->Bool
 |.ed,v=>match v with|.ed=>true|_=>false
 |.bk,v=>match v with|.bk=>true|_=>false
 |.fE,v=>match v with|.fE=>true|_=>false
 |.fj,v=>match v with|.fj=>true|_=>false
 |.fV,v=>match v with|.fV=>true|_=>false
 |_,_=>false
def Jz(b z o:Nat):AV->Option Int
 |.dT b' i z' o'=>match Nat.beq b' b,Nat.beq z' z,Nat.beq o' o with|true,true,true=>some (Int.ofNat i)|_,_,_=>none
 |_=>none
def QZ(b:Nat):AV->Option Int
 |.rp b' i=>match Nat.beq b' b with|true=>some (Int.ofNat i)|_=>none
 |_=>none
theorem agx{b:Nat}{v:AV}{n:Int}(h:QZ b v=some n):v=.rp b n.toNat:=by
 unfold QZ at h;split at h<;>try cases h
 split at h<;>cases h;rename_i h1;rw[bD h1];rfl
theorem anP{b z o:Nat}{v:AV}{n:Int}(h:Jz b z o v=some n):v=.dT b n.toNat z o:=by
 unfold Jz at h;split at h<;>try cases h
 split at h<;>cases h;rename_i h1 h2 h3;rw[bD h1,bD h2,bD h3];rfl
def abE(b o:Nat):AV->Bool
 |.ptr b' o'=>match Nat.beq b' b with|true=>Nat.beq o' o|false=>false
 |_=>false
def gHd(b:Nat):AV->Bool
 |.hd b' _=>Nat.beq b' b|_=>false
def gMp(b:Nat):AV->Bool
 |.mp b'=>Nat.beq b' b|_=>false
def abF(b:Nat):AV->Bool
 |.dW b'=>Nat.beq b' b|_=>false
def VA(f:FuncId):AV->Option (List AV×List AV)
 |.func f' x c=>match Nat.beq f' f with|true=>some (x,c)|false=>none
 |_=>none
def abA:AV->Option (List AV)
 |.agg l=>some l|_=>none
def abH:AV->Option (List AV)
 |.cM l=>some l|_=>none
def mU{α β:Type}(x:Option α)(d:β):Option (α×β):=match x with|some a=>some (a,d)|none=>none
def nA{β:Type}(x:Bool)(d:β):Option β:=match x with|true=>some d|false=>none
theorem n4{α β:Type}{x:Option α}{d:β}{y:α×β}(h:mU x d=some y):x=some y.1/\y.2=d:=by
 cases x with
 |none=>cases h
 |some a=>cases h;exact⟨rfl,rfl⟩
theorem nX{β:Type}{x:Bool}{d y:β}(h:nA x d=some y):x=true/\y=d:=by
 cases x with
 |false=>cases h
 |true=>cases h;exact⟨rfl,rfl⟩
mutual
def tA:(a:LA)->(r:List Sh)->AV->TL r->Option (TL (σA a r))
 |.int k,r,v,d=>mU (abC k v) d|.bool,r,v,d=>mU (Vz v) d|.str,r,v,d=>mU (abG v) d|.fz τ,r,v,d=>mU (gFz τ v) d|.ed,r,v,d=>nA (tz .ed v) d|.bk,r,v,d=>nA (tz .bk v) d|.fE,r,v,d=>nA (tz .fE v) d|.fj,r,v,d=>nA (tz .fj v) d|.fV,r,v,d=>nA (tz .fV v) d|.jK,r,v,d=>nA (one v) d|.ej τ,r,v,d=>none|.fX σ o,r,v,d=>mU (Oh σ o v) d|.dT b z o,r,v,d=>mU (Jz b z o v) d|.rp b,r,v,d=>mU (QZ b v) d|.ptr b o,r,v,d=>nA (abE b o v) d|.hd b τ,r,v,d=>nA (gHd b v) d|.mp b,r,v,d=>nA (gMp b v) d|.dW b,r,v,d=>nA (abF b v) d|.func f x c,r,v,d=>match VA f v with
  |some p=>match l6 c r p.2 d with|some d=>l6 x (iz c r) p.1 d|none=>none
  |none=>none
 |.agg l,r,v,d=>match abA v with|some l'=>l6 l r l' d|none=>none
 |.cM l,r,v,d=>match abH v with|some l'=>l6 l r l' d|none=>none
termination_by structural x=>x
def l6:(l:List LA)->(r:List Sh)->List AV->TL r->Option (TL (iz l r))
 |[],r,vs,d=>match vs with|[]=>some d|_=>none
 |a::l,r,vs,d=>match vs with
  |v::vs=>match l6 l r vs d with|some d=>tA a (iz l r) v d|none=>none
  |[]=>none
termination_by structural x=>x
end
theorem ye{a:LA}{v:AV}(h:tz a v=true)(X:Cx)(V:Value)(R:Rel X v V)(r:List Sh)(d:TL (σA a r)):Rel X (nU a r d).1 V:=by cases a<;>cases v<;>first|exact R|cases h
mutual
theorem W5:∀(a:LA) (r:List Sh) (v:AV) (d:TL r) (d':TL (σA a r)),tA a r v d=some d'->(nU a r d').2=d/\∀X V,Rel X v V->Rel X (nU a r d').1 V
 |.int k,r,v,d,d',e=>by
  obtain⟨h1,h2⟩:=n4 (y:=d') e;refine⟨h2,fun X V h=>?_⟩;unfold abC at h1;split at h1
  .split at h1
   .rename_i hk;have hk:=Ev.IntKind.uh (bD hk);subst hk;have h1:=Option.some.inj h1;show V=.int _ d'.1;rw[<-h1];exact h
   .exact absurd h1 (by simp)
  .exact absurd h1 (by simp)
 |.bool,r,v,d,d',e=>by
  obtain⟨h1,h2⟩:=n4 (y:=d') e;refine⟨h2,fun X V h=>?_⟩;unfold Vz at h1;split at h1
  .have h1:=Option.some.inj h1;show V=.bool d'.1;rw[<-h1];exact h
  .exact absurd h1 (by simp)
 |.str,r,v,d,d',e=>by
  obtain⟨h1,h2⟩:=n4 (y:=d') e;refine⟨h2,fun X V h=>?_⟩;unfold abG at h1;split at h1
  .have h1:=Option.some.inj h1;show V=.string d'.1;rw[<-h1];exact h
  .exact absurd h1 (by simp)
 |.fz τ,r,v,d,d',e=>by
  obtain⟨h1,h2⟩:=n4 (y:=d') e;refine⟨h2,fun X V h=>?_⟩;unfold gFz at h1;show Cs X.w X.out (.sl τ) d'.1 [V];split at h1
  .split at h1
   .rename_i he;have h1:=Option.some.inj h1;rw[<-h1];exact FW he h
   .exact absurd h1 (by simp)
  .have h1:=Option.some.inj h1;rw[<-h1,show V=_ from h];exact⟨none,0,0,rfl,rfl,aS _,fun q=>absurd rfl q⟩
  .exact absurd h1 (by simp)
 |.ed,r,v,d,d',e=>by obtain⟨h1,h2⟩:=nX (y:=d') e;exact⟨h2,fun X V h=>ye h1 X V h r d'⟩
 |.bk,r,v,d,d',e=>by obtain⟨h1,h2⟩:=nX (y:=d') e;exact⟨h2,fun X V h=>ye h1 X V h r d'⟩
 |.fE,r,v,d,d',e=>by obtain⟨h1,h2⟩:=nX (y:=d') e;exact⟨h2,fun X V h=>ye h1 X V h r d'⟩
 |.fj,r,v,d,d',e=>by obtain⟨h1,h2⟩:=nX (y:=d') e;exact⟨h2,fun X V h=>ye h1 X V h r d'⟩
 |.fV,r,v,d,d',e=>by obtain⟨h1,h2⟩:=nX (y:=d') e;exact⟨h2,fun X V h=>ye h1 X V h r d'⟩
 |.jK,r,v,d,d',e=>by obtain⟨h1,h2⟩:=nX (y:=d') e;exact⟨h2,fun X V h=>Xu h1 h⟩
 |.ej τ,r,v,d,d',e=>by cases e
 |.fX σ o,r,v,d,d',e=>by obtain⟨h1,h2⟩:=n4 (y:=d') e;exact⟨h2,fun X V h=>afi h1 h⟩
 |.dT b z o,r,v,d,d',e=>by obtain⟨h1,h2⟩:=n4 (y:=d') e;refine⟨h2,fun X V h=>?_⟩;have:=anP h1;subst this;exact h
 |.rp b,r,v,d,d',e=>by obtain⟨h1,h2⟩:=n4 (y:=d') e;refine⟨h2,fun X V h=>?_⟩;have:=agx h1;subst this;exact h
 |.ptr b o,r,v,d,d',e=>by
  obtain⟨h1,h2⟩:=nX (y:=d') e;refine⟨h2,fun X V h=>?_⟩;unfold abE at h1;split at h1
  .split at h1
   .rename_i q;have q:=bD q;have h1:=bD h1;subst q;subst h1;exact h
   .cases h1
  .cases h1
 |.hd b τ,r,v,d,d',e=>by
  obtain⟨h1,h2⟩:=nX (y:=d') e;refine⟨h2,fun X V h=>?_⟩;unfold gHd at h1;split at h1
  .have h1:=bD h1;subst h1;exact h
  .cases h1
 |.mp b,r,v,d,d',e=>by
  obtain⟨h1,h2⟩:=nX (y:=d') e;refine⟨h2,fun X V h=>?_⟩;unfold gMp at h1;split at h1
  .have h1:=bD h1;subst h1;exact h
  .cases h1
 |.dW b,r,v,d,d',e=>by
  obtain⟨h1,h2⟩:=nX (y:=d') e;refine⟨h2,fun X V h=>?_⟩;unfold abF at h1;split at h1
  .have h1:=bD h1;subst h1;exact h
  .cases h1
 |.func f x c,r,v,d,d',e=>by
  unfold tA at e;split at e<;>try cases e
  rename_i p hp;split at e<;>try cases e
  rename_i d₁ h₁;obtain⟨a1,a2⟩:=rD c r p.2 d d₁ h₁;obtain⟨b1,b2⟩:=rD x (iz c r) p.1 d₁ d' e;refine⟨by show(iP c r (iP x (iz c r) d').2).2=d;rw[b1,a1],?_⟩;intro X V h;unfold VA at hp;split at hp<;>try cases hp
  split at hp<;>cases hp;rename_i q;have q:=bD q;subst q;obtain⟨xs,cs,h1,h2,h3⟩:=h;refine⟨xs,cs,h1,b2 X _ h2,?_⟩;rw[b1];exact a2 X _ h3
 |.agg l,r,v,d,d',e=>by
  unfold tA at e;split at e<;>try cases e
  rename_i p hp;obtain⟨a1,a2⟩:=rD l r p d d' e;refine⟨a1,?_⟩;intro X V h;unfold abA at hp;split at hp<;>cases hp;obtain⟨cs,h1,h2⟩:=h;exact⟨cs,h1,a2 X _ h2⟩
 |.cM l,r,v,d,d',e=>by
  unfold tA at e;split at e<;>try cases e
  rename_i p hp;obtain⟨a1,a2⟩:=rD l r p d d' e;refine⟨a1,?_⟩;intro X V h;unfold abH at hp;split at hp<;>cases hp;obtain⟨cs,h1,h2⟩:=h;exact⟨cs,h1,a2 X _ h2⟩
theorem rD:∀(l:List LA) (r:List Sh) (vs:List AV) (d:TL r) (d':TL (iz l r)),l6 l r vs d=some d'->(iP l r d').2=d/\∀X cs,bB X vs cs->bB X (iP l r d').1 cs
 |[],r,vs,d,d',e=>by
  unfold l6 at e;split at e
  .have e:d=d':=Option.some.inj e;exact⟨e.symm,fun X V h=>h⟩
  .cases e
 |a::l,r,vs,d,d',e=>by
  unfold l6 at e;split at e<;>try cases e
  rename_i v vs;split at e<;>try cases e
  rename_i d₁ h₁;obtain⟨a1,a2⟩:=rD l r vs d d₁ h₁;obtain⟨b1,b2⟩:=W5 a (iz l r) v d₁ d' e;refine⟨by show(iP l r (nU a (iz l r) d').2).2=d;rw[b1,a1],?_⟩;rintro X cs ⟨V,t,rfl,h1,h2⟩;refine⟨V,t,rfl,b2 X V h1,?_⟩;show bB X (iP l r (nU a (iz l r) d').2).1 t;rw[b1];exact a2 X _ h2
end
inductive LO where
 |cells (l:List LA) (ty:TypeId)
 |arr (τ:Sh) (ty:TypeId)
 |map (κ:IntKind) (σ:Sh)
 |dL (ty:TypeId)
 |dV (τ:Sh) (l:List LA) (ty:TypeId)
def aiA:Sh:=.agg [.int .i64,.int .i64,.sl (.agg [.int .u64,.int .u64])]
def σO:LO->List Sh->List Sh
 |.cells l _,r=>iz l r|.arr τ _,r=>.sl τ::r|.map κ σ,r=>.sl (.agg [.int κ,σ])::r|.dL _,r=>.sl aiA::r|.dV τ l _,r=>.int .i64::.sl τ::iz l r
def tD:(o:LO)->(r:List Sh)->TL (σO o r)->bu×TL r
 |.cells l ty,r,d=>(.cells (iP l r d).1 ty,(iP l r d).2)|.arr τ ty,r,d=>(.arr τ d.1 ty,d.2)|.map κ σ,r,d=>(.map κ σ d.1,d.2)|.dL ty,r,d=>(.dL d.1 ty,d.2)|.dV τ l ty,r,d=>(.dV τ (Int.toNat d.1) d.2.1 (iP l r d.2.2).1 ty,(iP l r d.2.2).2)
def Kp(ty:TypeId):bu->Option (List AV)
 |.cells vs ty'=>match Nat.beq ty' ty with|true=>some vs|false=>none
 |_=>none
def abB(τ:Sh)(ty:TypeId):bu->Option (List τ.T)
 |.arr τ' L ty'=>match e:τ'.eqv τ,Nat.beq ty' ty with|true,true=>some (jW e L)|_,_=>none
 |_=>none
def aia{σ τ:Sh}(h:σ.eqv τ=true)(M:dN σ):dN τ:=Sh.fK h▸M
def abD(κ:IntKind)(σ:Sh):bu->Option (dN σ)
 |.map κ' σ' M=>match e:σ'.eqv σ,kC κ' κ with|true,true=>some (aia e M)|_,_=>none
 |_=>none
def VB(ty:TypeId):bu->Option (List eu)
 |.dL L ty'=>match Nat.beq ty' ty with|true=>some L|false=>none
 |_=>none
def DC(τ:Sh)(ty:TypeId):bu->Option (Nat×List τ.T×List AV)
 |.dV τ' i L vs ty'=>match e:τ'.eqv τ,Nat.beq ty' ty with|true,true=>some (i,jW e L,vs)|_,_=>none
 |_=>none
theorem agw{τ:Sh}{ty:TypeId}{v:bu}{p:Nat×List τ.T×List AV}(h:DC τ ty v=some p):v=.dV τ p.1 p.2.1 p.2.2 ty:=by
 unfold DC at h;split at h<;>try cases h
 rename_i τ' i L vs ty';split at h
 .rename_i he hty;have hty:=bD hty;subst hty;have:=Sh.fK he;subst this;have h:=Option.some.inj h;rw[<-h];rfl
 .cases h
def Oj:(o:LO)->(r:List Sh)->bu->TL r->Option (TL (σO o r))
 |.cells l ty,r,v,d=>match Kp ty v with|some vs=>l6 l r vs d|none=>none
 |.arr τ ty,r,v,d=>mU (abB τ ty v) d|.map κ σ,r,v,d=>mU (abD κ σ v) d|.dL ty,r,v,d=>mU (VB ty v) d|.dV τ l ty,r,v,d=>match DC τ ty v with
  |some p=>match l6 l r p.2.2 d with|some d=>some (Int.ofNat p.1,(p.2.1,d))|none=>none
  |none=>none
structure Lay where
 T:List (Tmp×LA)
 h:List (Nat×LO)
 nx:Nat
def σT:List (Tmp×LA)->List Sh->List Sh
 |[],r=>r|p::l,r=>σA p.2 (σT l r)
def σH:List (Nat×LO)->List Sh->List Sh
 |[],r=>r|p::l,r=>σO p.2 (σH l r)
def Lay.σs(l:Lay):List Sh:=σT l.T (σH l.h [])
def DG(n:Nat):(l:List (Tmp×LA))->(r:List Sh)->TL (σT l r)->Option (Tr AV×TL r)
 |[],r,d=>some (.nil,d)|p::l,r,d=>match DG n l r (nU p.2 (σT l r) d).2 with
  |some (T,d')=>match gm n T (some p.1) (nU p.2 (σT l r) d).1 with|some T=>some (T,d')|none=>none
  |none=>none
def xl:(l:List (Nat×LO))->(r:List Sh)->TL (σH l r)->Option (Tr bu)
 |[],r,d=>some .nil|p::l,r,d=>match xl l r (tD p.2 (σH l r) d).2 with|some t=>Tr.set FT t p.1 (some (tD p.2 (σH l r) d).1)|none=>none
def pJ(T:Tr AV):(l:List (Tmp×LA))->(r:List Sh)->TL r->Option (TL (σT l r))
 |[],r,d=>some d|p::l,r,d=>match pJ T l r d with
  |some d=>match T.get p.1 with|some v=>tA p.2 (σT l r) v d|none=>none
  |none=>none
def DD(t:Tr bu):(l:List (Nat×LO))->(r:List Sh)->TL r->Option (TL (σH l r))
 |[],r,d=>some d|p::l,r,d=>match DD t l r d with
  |some d=>match t.get p.1 with|some v=>Oj p.2 (σH l r) v d|none=>none
  |none=>none
def Lay.put(n:Nat)(l:Lay)(d:TL l.σs):Option St:=match DG n l.T (σH l.h []) d with
 |some (T,d)=>match xl l.h [] d with|some t=>some ⟨T,⟨t,l.nx⟩⟩|none=>none
 |none=>none
def Lay.get(l:Lay)(st:St):Option (TL l.σs):=match DD st.h.tr l.h [] ()with|some d=>pJ st.T l.T (σH l.h []) d|none=>none
theorem WZ{n:Nat}{T₀:Tr AV}:∀{l:List (Tmp×LA)}{r:List Sh}{d:TL r}{d':TL (σT l r)},pJ T₀ l r d=some d'->∀{T:Tr AV}{d₂:TL r},DG n l r d'=some (T,d₂)->d₂=d /\
  ∀t v',T.get t=some v'->∃v,T₀.get t=some v/\∀X V,Rel X v V->Rel X v' V
 |[],r,d,d',e,T,d₂,h=>by have e:d=d':=Option.some.inj e;have h:(Tr.nil,d')=(T,d₂):=Option.some.inj h;have h1:Tr.nil=T:=congrArg Prod.fst h;have h2:d'=d₂:=congrArg Prod.snd h;subst h1;exact⟨h2.symm.trans e.symm,fun t v' q=>by simp[Tr.get]at q⟩|p::l,r,d,d',e,T,d₂,h=>by
  simp only[pJ]at e;split at e<;>try cases e
  rename_i d₁ h₁;split at e<;>try cases e
  rename_i v hv;obtain⟨a1,a2⟩:=W5 _ _ _ _ _ e;simp only[DG]at h;split at h<;>try cases h
  rename_i T₁ d₃ hp;rw[a1]at hp;obtain⟨b1,b2⟩:=WZ h₁ hp;split at h<;>cases h;rename_i hs;refine⟨b1,?_⟩;intro t v' q;rw[oY hs t]at q;by_cases r:p.1=t
  .subst r;rw[if_pos rfl]at q;cases q;exact⟨v,hv,a2⟩
  .rw[if_neg (by simpa using r)]at q;exact b2 t v' q
def sr(o o':bu):Prop:=(∀X l,jc X l o->jc X l o')/\∀n,o'.row=some n->o.row=some n
theorem anj(τ:Sh)(l:List LA)(ty:TypeId)(r:List Sh)(v:bu)(d:TL r)(d':TL (σO (.dV τ l ty) r))(e:Oj (.dV τ l ty) r v d=some d'):(tD (.dV τ l ty) r d').2=d/\sr v (tD (.dV τ l ty) r d').1:=by
 have e2:(match DC τ ty v with
  |some p=>match l6 l r p.2.2 d with|some d=>some (Int.ofNat p.1,(p.2.1,d))|none=>none
  |none=>none)=some d':=e
 split at e2<;>try cases e2
 rename_i p hv;split at e2<;>try cases e2
 rename_i d₁ h₁;obtain⟨a1,a2⟩:=rD _ _ _ _ _ h₁;have hv:=agw hv;subst hv;refine⟨a1,?_,fun n q=>q⟩;rintro X l' ⟨b,c,pre,mid,post,tail,h0,h1,h2,h3,h4⟩;exact⟨b,c,pre,mid,post,tail,h0,h1,h2,a2 X mid h3,h4⟩
theorem afj:∀(o:LO) (r:List Sh) (v:bu) (d:TL r) (d':TL (σO o r)),Oj o r v d=some d'->(tD o r d').2=d/\sr v (tD o r d').1
 |.cells l ty,r,v,d,d',e=>by
  have e2:(match Kp ty v with|some vs=>l6 l r vs d|none=>none)=some d':=e;split at e2<;>try cases e2
  rename_i vs hv;unfold Kp at hv;split at hv<;>try cases hv
  split at hv<;>cases hv;rename_i h;have h:=bD h;subst h;obtain⟨a1,a2⟩:=rD _ _ _ _ _ e2;refine⟨a1,?_,fun n q=>by cases q⟩;rintro X l' ⟨b,c,cs,h1,h2,h3⟩;exact⟨b,c,cs,h1,h2,a2 X cs h3⟩
 |.arr τ ty,r,v,d,d',e=>by
  obtain⟨h1,h2⟩:=n4 (y:=d') e;refine⟨h2,?_⟩;show sr v (.arr τ d'.1 ty);unfold abB at h1;split at h1<;>try cases h1
  rename_i τ' L ty';split at h1
  .rename_i he hty;have h1:=Option.some.inj h1;rw[<-h1];have hty:=bD hty;subst hty;have:=Sh.fK he;subst this;exact⟨fun X l h=>h,fun n q=>q⟩
  .cases h1
 |.map κ σ,r,v,d,d',e=>by
  obtain⟨h1,h2⟩:=n4 (y:=d') e;refine⟨h2,?_⟩;show sr v (.map κ σ d'.1);unfold abD at h1;split at h1<;>try cases h1
  rename_i κ' σ' M;split at h1
  .rename_i he hk;have h1:=Option.some.inj h1;rw[<-h1];have hk:=mD hk;subst hk;have:=Sh.fK he;subst this;exact⟨fun X l h=>h,fun n q=>by cases q⟩
  .cases h1
 |.dL ty,r,v,d,d',e=>by
  obtain⟨h1,h2⟩:=n4 (y:=d') e;refine⟨h2,?_⟩;show sr v (.dL d'.1 ty);unfold VB at h1;split at h1<;>try cases h1
  rename_i L ty';split at h1
  .rename_i hty;have h1:=Option.some.inj h1;rw[<-h1];have hty:=bD hty;subst hty;exact⟨fun X l h=>h,fun n q=>by cases q⟩
  .cases h1
 |.dV τ l ty,r,v,d,d',e=>anj τ l ty r v d d' e
theorem W2{t₀:Tr bu}:∀{l:List (Nat×LO)}{r:List Sh}{d:TL r}{d':TL (σH l r)},DD t₀ l r d=some d'->∀{t:Tr bu},xl l r d'=some t ->
  ∀i o',t.get i=some o'->∃o,t₀.get i=some o/\sr o o'
 |[],r,d,d',e,t,h=>by simp only[xl,bV]at h;subst h;exact fun i o' q=>by simp[Tr.get]at q|p::l,r,d,d',e,t,h=>by
  simp only[DD]at e;split at e<;>try cases e
  rename_i d₁ h₁;split at e<;>try cases e
  rename_i v hv;obtain⟨a1,a2⟩:=afj _ _ _ _ _ e;simp only[xl]at h;split at h<;>try cases h
  rename_i t₁ hp;rw[a1]at hp;have ih:=W2 h₁ hp;intro i o' q;rw[Tr.cI _ _ _ _ _ h i]at q;by_cases r:i=p.1
  .subst r;rw[if_pos rfl]at q;cases q;exact⟨v,hv,a2⟩
  .rw[if_neg r]at q;exact ih i o' q
