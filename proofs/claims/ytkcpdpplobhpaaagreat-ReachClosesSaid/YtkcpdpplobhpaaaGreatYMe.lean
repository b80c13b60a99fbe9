import Derived.Test.YtkcpdpplobhpaaaGreatYMd
set_option linter.unusedVariables false
set_option linter.unusedSimpArgs false
set_option linter.unnecessarySimpa false
section
namespace Go.Proofs.YtkcpdpplobhpaaaGreat.V
open Go Go.RowKit
open Go.Proofs.YtkcpdpplobhpaaaGreat.Ev (Tr Tr.ca nth db PE lx ta pb Df dU looks tmpsOf wt nf sN iD od mI sO left mark wy qD dZ jl oa n9)
def wf(h:Hp):Prop:=∀id o,h.tr.get id=some o->id<h.next
theorem wf.le{h h':Hp}(w:wf h)(old:∀id,id<h.next->h'.tr.get id=h.tr.get id):dL h h':=fun b o q=>by rw[old b (w b o q)];exact q
structure One(P:Program)(sh:TypeId->Option Sh)(ops:Array Oper)(o:Oper)(st st':St)(v:AV):Prop where
 next:st.h.next<=st'.h.next
 old:∀id,id<st.h.next->st'.h.tr.get id=st.h.tr.get id
 wf:wf st'.h
 same:∀t,o.dst≠some t->st'.T.get t=st.T.get t
 now:PN P sh ops st.h.next st'.T st'.h o v
 dst:∀t,o.dst=some t->st'.T.get t=some v
theorem ahx{R:Type}{P:Program}{sh:TypeId->Option Sh}{n:Nat}{ops:Array Oper}{o:Oper}{st:St}{k:St->Option R}{r:R}(e:G4 P sh n ops o st k=some r)
  (hl:∀t,o.dst=some t->t∉looks ops.toList o):∃st' v,k st'=some r/\(wf st.h->One P sh ops o st st' v):=by
 unfold G4 at e;obtain⟨b,T₁,e,hT₁,hw⟩:=agr e;have aX:∀{T':Tr AV}{v:AV},fl n T₁ o.dst v=some T'->(∀t∈looks ops.toList o,T'.get t=st.T.get t)/\(∀t,o.dst≠some t->T'.get t=st.T.get t)/\∀t,o.dst=some t->T'.get t=some v:=by
  intro T' v hs;have hg:=oc hs;refine⟨fun t ht=>?_,fun t ht=>?_,fun t ht=>?_⟩
  .rw[hg t,if_neg (fun q=>hl t q ht)];exact hT₁ t
  .rw[hg t,if_neg ht];exact hT₁ t
  .rw[hg t,if_pos ht]
 cases b with
 |false=>
  simp only[]at e;split at e<;>try cases e
  rename_i T' hs;obtain⟨k1,k2,k3⟩:=aX hs;refine⟨_,.cg [],e,fun w=>⟨Nat.le_refl _,fun _ _=>rfl,w,k2,.inl ⟨?_,rfl⟩,k3⟩⟩;rw[wo (ops:=ops) (T:=st.T) k1];exact hw
 |true=>
  simp only[]at e;split at e
  .rename_i g ob v ha;split at e<;>try cases e
   rename_i tr T' ht hs;obtain⟨hg,e⟩:=mv e;subst hg;obtain⟨k1,k2,k3⟩:=aX hs;have hgt:=Tr.ca FT st.h.tr st.h.next _ tr ht;obtain⟨m1,m2⟩:=DK ha;refine⟨_,v,e,fun w=>⟨by simp,?_,?_,k2,.inr (.inr ⟨?_,m1,st.h.next,ob,?_,?_,by simp,Nat.le_refl _⟩),k3⟩⟩
   .intro id hid;show tr.get id=_;rw[hgt id,if_neg (by omega)]
   .intro id o' q
    replace q:tr.get id=some o':=q
    rw[hgt id]at q;by_cases p:id=st.h.next
    .simp[p]
    .rw[if_neg p]at q;have:=w id o' q;simp only;omega
   .rw[wo (ops:=ops) (T:=st.T) k1];exact hw
   .refine Oe ha (fun t q=>?_);show T'.get t=T₁.get t;rw[k1 t (nf q),hT₁ t]
   .show tr.get _=_;rw[hgt,if_pos rfl]
  .split at e<;>try cases e
   rename_i g v hr;split at e<;>try cases e
   rename_i T' hs;obtain⟨hg,e⟩:=mv e;subst hg;obtain⟨k1,k2,k3⟩:=aX hs;refine⟨_,v,e,fun w=>⟨Nat.le_refl _,fun _ _=>rfl,w,k2,.inr (.inl ⟨?_,?_,?_⟩),k3⟩⟩
   .rw[wo (ops:=ops) (T:=st.T) k1];exact hw
   .rename_i hna _;cases hm:eE o.op with|false=>rfl|true=>unfold lB at hr;unfold eE at hm;split at hm<;>first|(cases hm;done)|(rename_i hop;rw[hop]at hr;cases hr)
   .refine Oc (dL.refl _) hr (fun t q=>?_);rw[k1 t (nf q),hT₁ t]
structure vP(P:Program)(sh:TypeId->Option Sh)(ops:Array Oper)(q:Nat)(os:List Oper)(ps:List PE)(st st':St):Prop where
 next:st.h.next<=st'.h.next
 old:∀id,id<st.h.next->st'.h.tr.get id=st.h.tr.get id
 wf:wf st'.h
 same:∀t,(∀(x:Nat) (o:Oper) (hi:Nat),os[x]?=some o->ps[x]?=some (.p q hi)->o.dst≠some t)->st'.T.get t=st.T.get t
 done:∀(x:Nat) (o:Oper) (hi:Nat),os[x]?=some o->ps[x]?=some (.p q hi)->∃v,PN P sh ops st.h.next st'.T st'.h o v/\∀t,o.dst=some t->st'.T.get t=some v
 uniq:∀(x y:Nat) (o o':Oper) (hi hi':Nat) (t t':Tmp) (v v':AV) (id:Nat),os[x]?=some o->os[y]?=some o'->ps[x]?=some (.p q hi)->ps[y]?=some (.p q hi')->eE o.op=true->eE o'.op=true ->
  o.dst=some t->o'.dst=some t'->st'.T.get t=some v->st'.T.get t'=some v'->jR v=some id->jR v'=some id->x=y
theorem PN.ids{P:Program}{sh:TypeId->Option Sh}{ops:Array Oper}{b:Nat}{T:Tr AV}{h:Hp}{o:Oper}{v:AV}(p:PN P sh ops b T h o v)(hm:eE o.op=true){id:Nat}(hi:jR v=some id):id<h.next/\b<=id:=by
 rcases p with⟨h1,rfl⟩|⟨h1,h2,h3⟩|⟨h1,h2,id',ob,h3,h4,h5,h6⟩
 .cases hi
 .rw[hm]at h2;cases h2
 .have:=(DK h3).2;simp only at this;rw[hi]at this;cases this;exact⟨h5,h6⟩
theorem SE{R:Type}{P:Program}{sh:TypeId->Option Sh}{n:Nat}{ops:Array Oper}{q:Nat}{k:St->Option R}{r:R}:∀{os:List Oper}{ps:List PE}{st:St},nk P sh n ops q os ps st k=some r ->
  (∀(x y:Nat) (o o':Oper) (hi hi':Nat) (t:Tmp),os[x]?=some o->os[y]?=some o'->ps[x]?=some (.p q hi)->ps[y]?=some (.p q hi')->x<=y->o'.dst=some t->t∉looks ops.toList o) ->
  (∀(x y:Nat) (o o':Oper) (t:Tmp),os[x]?=some o->os[y]?=some o'->o.dst=some t->o'.dst=some t->x=y) ->
  ∃st',k st'=some r/\(wf st.h->vP P sh ops q os ps st st'):=by
 intro os
 induction os with
 |nil=>intro ps st e _ _;simp only[nk]at e;exact⟨st,e,fun w=>⟨Nat.le_refl _,fun _ _=>rfl,w,fun _ _=>rfl,fun x o hi h=>by simp at h,fun x y o o' hi hi' t t' v v' id h=>by simp at h⟩⟩|cons o os ih=>
  intro ps st e hL hD;cases ps with
  |nil=>simp only[nk]at e;exact⟨st,e,fun w=>⟨Nat.le_refl _,fun _ _=>rfl,w,fun _ _=>rfl,fun x o hi _ h=>by simp at h,fun x y o o' hi hi' t t' v v' id _ _ h=>by simp at h⟩⟩|cons pe ps=>
   simp only[nk]at e;have hL':∀(x y:Nat) (o o':Oper) (hi hi':Nat) (t:Tmp),os[x]?=some o->os[y]?=some o'->ps[x]?=some (.p q hi)->ps[y]?=some (.p q hi')->x<=y->o'.dst=some t->t∉looks ops.toList o:=fun x y o o' hi hi' t h1 h2 h3 h4 h5 h6=>hL (x+1) (y+1) o o' hi hi' t (by simpa using h1) (by simpa using h2) (by simpa using h3) (by simpa using h4) (by omega) h6;have hD':∀(x y:Nat) (o o':Oper) (t:Tmp),os[x]?=some o->os[y]?=some o'->o.dst=some t->o'.dst=some t->x=y:=fun x y o o' t h1 h2 h3 h4=>by have:=hD (x+1) (y+1) o o' t (by simpa using h1) (by simpa using h2) h3 h4;omega
   have skip:nk P sh n ops q os ps st k=some r->(∀hi,pe≠.p q hi)->∃st',k st'=some r/\(wf st.h->vP P sh ops q (o::os) (pe::ps) st st'):=by
    intro e hne;obtain⟨st',h1,S'⟩:=ih e hL' hD';refine⟨st',h1,fun w=>?_⟩;have S:=S' w;refine⟨S.next,S.old,S.wf,?_,?_,?_⟩
    .intro t ht;exact S.same t (fun x o' hi h1 h2=>ht (x+1) o' hi (by simpa using h1) (by simpa using h2))
    .intro x o' hi h1 h2;cases x with|zero=>simp at h2;exact absurd h2 (hne hi)|succ x=>exact S.done x o' hi (by simpa using h1) (by simpa using h2)
    .intro x y o₁ o₂ hi hi' t t' v v' id h1 h2 h3 h4;cases x with|zero=>simp at h3;exact absurd h3 (hne hi)|succ x=>cases y with|zero=>simp at h4;exact absurd h4 (hne hi')|succ y=>intro a1 a2 a3 a4 a5 a6 a7 a8;rw[S.uniq x y o₁ o₂ hi hi' t t' v v' id (by simpa using h1) (by simpa using h2) (by simpa using h3) (by simpa using h4) a1 a2 a3 a4 a5 a6 a7 a8]
   cases pe with
   |w j=>exact skip e (fun hi h=>by cases h)
   |p lo hi=>
    simp only[]at e;cases hb:Nat.beq lo q with
    |false=>simp only[hb]at e;exact skip e (fun h' h=>by cases h;exact Nat.ne_of_beq_eq_false hb rfl)
    |true=>
     have:=Nat.eq_of_beq_eq_true hb;subst this;simp only[hb]at e;obtain⟨st₁,v₁,e,O'⟩:=ahx e (fun t ht=>hL 0 0 o o hi hi t (by simp) (by simp) (by simp) (by simp) (Nat.le_refl _) ht);obtain⟨st',h1,S'⟩:=ih e hL' hD';refine⟨st',h1,fun w=>?_⟩;have O:=O' w;have S:=S' O.wf;have hle:dL st₁.h st'.h:=O.wf.le S.old;have hlook:∀t∈looks ops.toList o,st'.T.get t=st₁.T.get t:=fun t ht=>S.same t (fun x o' h' q1 q2 q3=>hL 0 (x+1) o o' hi h' t (by simp) (by simpa using q1) (by simp) (by simpa using q2) (by omega) q3 ht);have hdst:∀t,o.dst=some t->st'.T.get t=some v₁:=fun t ht=>by rw[S.same t (fun x o' h' q1 q2 q3=>by have:=hD 0 (x+1) o o' t (by simp) (by simpa using q1) ht q3;omega)];exact O.dst t ht
     have now₀:=O.now.congr hlook hle S.next (Nat.le_refl _);refine⟨Nat.le_trans O.next S.next,?_,S.wf,?_,?_,?_⟩
     .intro id hid;rw[S.old id (Nat.lt_of_lt_of_le hid O.next),O.old id hid]
     .intro t ht;rw[S.same t (fun x o' h' q1 q2=>ht (x+1) o' h' (by simpa using q1) (by simpa using q2)),O.same t (ht 0 o hi (by simp) (by simp))]
     .intro x o' h' q1 q2;cases x with|zero=>simp at q1;subst q1;exact⟨v₁,now₀,hdst⟩|succ x=>obtain⟨v,p1,p2⟩:=S.done x o' h' (by simpa using q1) (by simpa using q2);exact⟨v,p1.congr (fun _ _=>rfl) (dL.refl _) (Nat.le_refl _) O.next,p2⟩
     .have cross:∀(y:Nat) (o₁ o₂:Oper) (hi':Nat) (t t':Tmp) (v v':AV) (id:Nat),o=o₁->os[y]?=some o₂->ps[y]?=some (.p lo hi')->eE o₁.op=true->eE o₂.op=true->o₁.dst=some t->o₂.dst=some t' ->
        st'.T.get t=some v->st'.T.get t'=some v'->jR v=some id->jR v'=some id->False:=by
       intro y o₁ o₂ hi' t t' v v' id e1 h2 h4 a1 a2 a3 a4 a5 a6 a7 a8;subst e1;rw[hdst t a3]at a5;cases a5;have b1:=O.now.ids a1 a7;obtain⟨v₂,p1,p2⟩:=S.done y o₂ hi' h2 h4;rw[p2 t' a4]at a6;cases a6;have b2:=p1.ids a2 a8;omega
      intro x y o₁ o₂ hi₁ hi₂ t t' v v' id h1 h2 h3 h4 a1 a2 a3 a4 a5 a6 a7 a8;cases x with
      |zero=>cases y with|zero=>rfl|succ y=>exact(cross y o₁ o₂ hi₂ t t' v v' id (by simpa using h1) (by simpa using h2) (by simpa using h4) a1 a2 a3 a4 a5 a6 a7 a8).elim
      |succ x=>cases y with|zero=>exact(cross x o₂ o₁ hi₁ t' t v' v id (by simpa using h2) (by simpa using h1) (by simpa using h3) a2 a1 a4 a3 a6 a5 a8 a7).elim|succ y=>rw[S.uniq x y o₁ o₂ hi₁ hi₂ t t' v v' id (by simpa using h1) (by simpa using h2) (by simpa using h3) (by simpa using h4) a1 a2 a3 a4 a5 a6 a7 a8]
def B3(P:Program)(ops:Array Oper)(q:Nat)(ch:Bool)(ts:List Nat)(st:St)(os:List Oper)(ps:List PE):Prop:=∀(x:Nat) (o:Oper) (lo hi:Nat),os[x]?=some o->ps[x]?=some (.p lo hi)->lo<q->q<=hi ->
 (∀t∈looks ops.toList o,t∉ts)/\(ch=true->eE o.op=false->jS ops st.T o=some false\/(jS ops st.T o=some true/\∃v,lB P st.T st.h o=some (true,v)/\∀t,o.dst=some t->st.T.get t=some v))
theorem S8{R:Type}{P:Program}{ops:Array Oper}{q:Nat}{ch:Bool}{ts:List Nat}{st:St}{k:Option R}{r:R}:∀{os:List Oper}{ps:List PE},lF P ops q ch ts st os ps k=some r->k=some r/\B3 P ops q ch ts st os ps
 |[],ps,e=>⟨by simpa[lF]using e,fun x o lo hi h=>by simp at h⟩|o::os,[],e=>⟨by simpa[lF]using e,fun x o lo hi _ h=>by simp at h⟩|o::os,pe::ps,e=>by
  simp only[lF]at e;have go:lF P ops q ch ts st os ps k=some r->(∀lo hi,pe=.p lo hi->lo<q->q<=hi->(∀t∈looks ops.toList o,t∉ts)/\(ch=true->eE o.op=false->jS ops st.T o=some false\/(jS ops st.T o=some true/\∃v,lB P st.T st.h o=some (true,v)/\∀t,o.dst=some t->st.T.get t=some v))) ->
    k=some r/\B3 P ops q ch ts st (o::os) (pe::ps):=by
   intro e h;obtain⟨h1,h2⟩:=S8 e;refine⟨h1,?_⟩;intro x o' lo hi q1 q2;cases x with|zero=>simp at q1 q2;subst q1;exact h lo hi q2|succ x=>exact h2 x o' lo hi (by simpa using q1) (by simpa using q2)
  split at e
  .exact go e (fun lo hi h=>by cases h)
  .rename_i lo hi;split at e
   .split at e<;>try cases e
    rename_i hn;have hn:=Zwt hn;split at e
    .rename_i hm;split at e<;>try cases e
     .rename_i hw;split at e<;>try cases e
      .rename_i g v t hr hd;split at e<;>try cases e
       rename_i u hu;split at e<;>try cases e
       rename_i s hs;obtain⟨hg,e⟩:=mv e;obtain⟨hs',e⟩:=mv e;subst hg;subst hs';have:=SI hs;subst this;exact go e (fun lo' hi' h _ _=>⟨hn,fun _ _=>.inr ⟨hw,u,hr,fun t' ht'=>by rw[hd]at ht';cases ht';exact hu⟩⟩)
      .rename_i g v hr hd;obtain⟨hg,e⟩:=mv e;subst hg;exact go e (fun lo' hi' h _ _=>⟨hn,fun _ _=>.inr ⟨hw,v,hr,fun t' ht'=>by rw[hd]at ht';cases ht'⟩⟩)
     .rename_i hw;exact go e (fun lo' hi' h _ _=>⟨hn,fun _ _=>.inl hw⟩)
    .rename_i hne;exact go e (fun lo' hi' h _ _=>⟨hn,fun h1 h2=>absurd h2 (hne h1)⟩)
   .rename_i hne;refine go e (fun lo' hi' h h1 h2=>?_);cases h;exact absurd (Nat.ble_eq_true_of_le h2) (hne (by rw[Nat.blt_eq];exact h1))
def y7(P:Program)(sh:TypeId->Option Sh)(n:Nat)(ops:Array Oper)(pl:List PE):Nat->Nat->St->St->Prop
 |0,_,st,fin=>fin=st|r+1,q,st,fin=>∃(i:Nat) (o:Oper) (ch:Bool) (st₁ st₂:St) (b:Bool) (T:Tr AV) (v:AV),ops[i]?=some o/\pl[i]?=some (.w (q+1))/\(ch=false->dL st.h st₁.h)/\y6 ops st.T o b T/\fl n T o.dst v=some st₁.T /\
   ((b=true/\yz P T st.h o v st₁.h)\/(b=false/\v=.cg []/\st₁.h=st.h))/\(wf st₁.h->vP P sh ops (q+1) ops.toList pl st₁ st₂)/\B3 P ops (q+1) ch (dl o.dst++pq (q+1) ops.toList pl) st₂ ops.toList pl/\y7 P sh n ops pl r (q+1) st₂ fin
theorem TG{ops:Array Oper}{pl:List PE}{m:Nat}(hP:lx ops pl m){x y:Nat}{o o':Oper}{lo hi:Nat}{t:Tmp}(h1:ops[x]?=some o)(h2:ops[y]?=some o')(h3:pl[y]?=some (.p lo hi))(hxy:x<=y)(ht:o'.dst=some t):t∉looks ops.toList o:=by intro hl;have:=hP.below x o h1 y (hP.fresh x o h1 t hl y o' lo hi h2 h3 ht);omega
theorem Tn{R:Type}{P:Program}{sh:TypeId->Option Sh}{call:gC R}(hc:jq P call){n:Nat}{ops:Array Oper}{pl:List PE}{m:Nat}(hP:lx ops pl m)
  (hD:∀(x y:Nat) (o o':Oper) (t:Tmp),ops.toList[x]?=some o->ops.toList[y]?=some o'->o.dst=some t->o'.dst=some t->x=y) {k:St->Option R}{r:R} :
  ∀(c q:Nat) (st:St),yP P sh call n ops pl c q st k=some r->∃fin,k fin=some r/\y7 P sh n ops pl c q st fin
 |0,q,st,e=>⟨st,e,rfl⟩|c+1,q,st,e=>by
  simp only[yP]at e;split at e<;>try cases e
  rename_i o hf;obtain⟨i,h1,h2⟩:=sO hf;obtain⟨ch,st₁,b,T,v,e,hch,W,hT,A⟩:=Zyu hc e;obtain⟨st₂,e,S⟩:=SE e (fun x y o o' hi hi' t q1 q2 q3 q4 q5 q6=>TG hP (by simpa using q1) (by simpa using q2) q4 q5 q6) hD;obtain⟨e,C⟩:=S8 e;obtain⟨fin,hk,rest⟩:=Tn hc hP hD c (q+1) st₂ e;exact⟨fin,hk,i,o,ch,st₁,st₂,b,T,v,by simpa using h1,h2,hch,W,hT,A,S,C,rest⟩
end Go.Proofs.YtkcpdpplobhpaaaGreat.V
end
section
namespace Go.Proofs.YtkcpdpplobhpaaaGreat.Ev
open Go Go.RowKit
theorem Nf{ops:Array Oper}{listed:Array Bool}{i:Nat}(h:i∈Region.ready .any ops listed) :
  listed.getD i true=false/\∃o,ops[i]?=some o/\∀e∈dU o,listed.getD e false=true:=by
 obtain⟨h1,o,ho,h2⟩:=mem_ready.1 h;refine⟨h1,o,ho,?_⟩;intro e he;obtain⟨x,hx,hb,rfl⟩:=DH.1 he;exact h2 x (Array.mem_toList_iff.1 hx) hb
theorem Zqg{ops:Array Oper}{listed:Array Bool}{i:Nat}{o:Oper}(h1:listed.getD i true=false)(ho:ops[i]?=some o)(h2:∀e∈dU o,listed.getD e false=true) :
  i∈Region.ready .any ops listed:=
 mem_ready.2 ⟨h1,o,ho,fun e he hb=>h2 e.on (DH.2 ⟨e,Array.mem_toList_iff.2 he,hb,rfl⟩)⟩
end Go.Proofs.YtkcpdpplobhpaaaGreat.Ev
end
section
namespace Go.Proofs.YtkcpdpplobhpaaaGreat.V
open Go Go.RowKit
open Go.Proofs.YtkcpdpplobhpaaaGreat.Ev (Tr Tr.ca nth db PE lx ta pb Df dU looks tmpsOf wt nf sN iD od mI sO left wy qD dZ jl oa n9 Nf Zqg)
def Lx(ops:Array Oper)(pl:List PE)(q:Nat)(L:Nat->Bool)(t:Tmp):Prop:=∃(x:Nat) (o:Oper) (lo hi:Nat),ops[x]?=some o/\pl[x]?=some (.p lo hi)/\lo<=q/\L x=false/\o.dst=some t
structure Inv(P:Program)(sh:TypeId->Option Sh)(n:Nat)(ops:Array Oper)(pl:List PE)(X₀:Cx)(q:Nat)(L:Nat->Bool)(X:Cx)(a:Act)(st:St):Prop where
 size:a.tmps.size=n
 defers:a.defers=[]
 hX:X.h=st.h
 H:aI X
 E:aP X₀ X
 tmp:∀t v,st.T.get t=some v->¬Lx ops pl q L t->∃V,a.tmps[t]?=some V/\Rel X v V
 now:∀(i:Nat) (o:Oper) (lo hi:Nat),ops[i]?=some o->pl[i]?=some (.p lo hi)->lo<=q->q<=hi->L i=false->∃v,PN P sh ops X₀.h.next st.T st.h o v/\∀t,o.dst=some t->st.T.get t=some v
 mW:∀(i:Nat) (o:Oper) (lo hi:Nat) (t:Tmp) (v:AV) (id:Nat),ops[i]?=some o->pl[i]?=some (.p lo hi)->lo<=q->L i=false->eE o.op=true->o.dst=some t->st.T.get t=some v->jR v=some id ->
  X.s id=none/\id<st.h.next/\X₀.h.next<=id
 vE:∀(i j:Nat) (o o':Oper) (lo hi lo' hi':Nat) (t t':Tmp) (v v':AV) (id:Nat),ops[i]?=some o->ops[j]?=some o'->pl[i]?=some (.p lo hi)->pl[j]?=some (.p lo' hi')->lo<=q->lo'<=q->L i=false->L j=false ->
  eE o.op=true->eE o'.op=true->o.dst=some t->o'.dst=some t'->st.T.get t=some v->st.T.get t'=some v'->jR v=some id->jR v'=some id->i=j
 down:∀(z:Nat) (o:Oper),ops[z]?=some o->L z=true->∀e∈dU o,L e=true
 wl:∀(i j:Nat),pl[i]?=some (.w j)->(L i=true↔j<=q)
 lo:∀(i l h:Nat),pl[i]?=some (.p l h)->L i=true->l<=q
 hi:∀(i l h:Nat),pl[i]?=some (.p l h)->h<q->L i=true
theorem aht{X:Cx}(H:aI X){h':Hp}(hn:X.h.next<=h'.next)(old:∀id,id<X.h.next->h'.tr.get id=X.h.tr.get id)(w:wf h'):aP X ⟨X.s,h',X.w,X.A⟩/\aI ⟨X.s,h',X.w,X.A⟩:=by
 have E:aP X ⟨X.s,h',X.w,X.A⟩:=by
  refine⟨rfl,rfl,rfl,Nat.le_refl _,fun _ _ h=>h,fun _ _ _ h=>h,hn,fun _ _ _=>rfl,?_,?_,fun i hi _=>old i hi,rfl⟩
  .rintro b ⟨i,o,c,h1,h2,h3⟩
   replace h1:h'.tr.get i=some o:=h1
   rw[old i (H.cD i _ h2)]at h1;exact .inl ⟨i,o,c,h1,h2,h3⟩
  .intro j n hj h;rw[<-Yc (old j hj)];exact h
 refine⟨E,⟨?_,?_,w,?_,H.alt,?_⟩⟩
 .intro i o l h1 h2
  replace h1:h'.tr.get i=some o:=h1
  rw[old i (H.cD i _ h2)]at h1;exact(H.obj i o l h1 h2).ext (E.dA H) (fun _ _=>rfl)
 .intro i j o o' b c c' h1 h2 h3 h4
  replace h1:h'.tr.get i=some o:=h1
  replace h2:h'.tr.get j=some o':=h2
  rw[old i (H.cD i _ h3)]at h1;rw[old j (H.cD j _ h4)]at h2;exact H.inj i j o o' b c c' h1 h2 h3 h4
 .intro i l h;exact Nat.lt_of_lt_of_le (H.cD i l h) hn
 .intro i o b c h1 h2
  replace h1:h'.tr.get i=some o:=h1
  rw[old i (H.cD i _ h2)]at h1;exact H.loc i o b c h1 h2
section
variable{P:Program}{sh:TypeId->Option Sh}{n:Nat}{ops:Array Oper}{pl:List PE}{X₀:Cx}{q:Nat}{L:Nat->Bool}{X:Cx}{a:Act}{st:St}
theorem Inv.Y3{k:Nat}(I:Inv P sh n ops pl X₀ q L X a st)(hP:lx ops pl k){i:Nat}{o:Oper}(ho:ops[i]?=some o)(hr:∀e∈dU o,L e=true){t:Tmp}(ht:t∈looks ops.toList o):¬Lx ops pl q L t:=by rintro⟨x,ox,l,h,p1,p2,p3,p4,p5⟩;have:=hr x (hP.fresh i o ho t ht x ox l h p1 p2 p5);rw[p4]at this;cases this
theorem Inv.afW{k:Nat}(I:Inv P sh n ops pl X₀ q L X a st)(hP:lx ops pl k){i:Nat}{o:Oper}(ho:ops[i]?=some o)(hr:∀e∈dU o,L e=true)(hL:L i=false){l h:Nat}(hp:pl[i]?=some (.p l h)):l<=q/\q<=h:=by
 constructor
 .rcases hP.lo i o l h ho hp with r|⟨e,pe,h1,h2,h3⟩
  .omega
  .have hLe:=hr e h1;cases pe with|w j=>have:=(I.wl e j h2).1 hLe;simp only[PE.num]at h3;omega|p l' h'=>have:=I.lo e l' h' h2 hLe;simp only[PE.num]at h3;omega
 .rcases Nat.lt_or_ge h q with r|r
  .have:=I.hi i l h hp r;rw[hL]at this;cases this
  .exact r
theorem Inv.due{k:Nat}(I:Inv P sh n ops pl X₀ q L X a st)(hP:lx ops pl k){i:Nat}{o:Oper}(ho:ops[i]?=some o)(hr:∀e∈dU o,L e=true)
  (hw:pl[i]?=some (.w (q+1))):∀d (x l h:Nat),ops.size<=x+d->pl[x]?=some (.p l h)->h<=q->L x=true:=by
 have hk:q+1<=k:=(hP.w i o (q+1) ho hw).2.1;intro d
 induction d with
 |zero=>intro x l h hx hp _;have:=dr hp;rw[hP.len]at this;omega|succ d ih=>
  intro x l h hx hp hh;rcases hP.hi x l h hp with r|⟨z,oz,pe,h1,h2,h3,h4⟩
  .omega
  .have hxz:=hP.below z oz h1 x h3;have hz:L z=true\/z=i:=by
    rcases h4 with⟨j,rfl,hj⟩|⟨l',h',rfl,hh'⟩
    .rcases Nat.lt_or_ge q j with r|r
     .have:j=q+1:=by omega
      subst this;exact .inr (hP.uniq z i _ h2 hw)
     .exact .inl ((I.wl z j h2).2 r)
    .exact .inl (ih z l' h' (by omega) h2 (by omega))
   rcases hz with hz|rfl
   .exact I.down z oz h1 hz x h3
   .rw[ho]at h1;simp at h1;subst h1;exact hr x h3
theorem Inv.OA{X':Cx}{i:Nat}{o:Oper}{l h:Nat}{V:Value}(I:Inv P sh n ops pl X₀ q L X a st)(hN:∀t,o.dst=some t->t<n)(ho:ops[i]?=some o)(hr:∀e∈dU o,L e=true)(hp:pl[i]?=some (.p l h))(hl:l<=q)
  (hX:X'.h=st.h) (H:aI X') (E:aP X₀ X') (Ex:fj X X') (hV:∀t,o.dst=some t->∃v,st.T.get t=some v/\Rel X' v V)
  (hs:∀(j:Nat) (o':Oper) (lo hi:Nat) (t:Tmp) (v:AV) (id:Nat),ops[j]?=some o'->pl[j]?=some (.p lo hi)->lo<=q->Ev.mark L i j=false->eE o'.op=true->o'.dst=some t->st.T.get t=some v->jR v=some id->X'.s id=none) :
  Inv P sh n ops pl X₀ q (Ev.mark L i) X' (a.put o.dst V) st:=by
 have nw:∀j,pl[i]?≠some (.w j):=fun j r=>by rw[hp]at r;cases r
 refine⟨?_,?_,hX,H,E,?_,?_,?_,?_,?_,?_,?_,?_⟩
 .cases hd:o.dst<;>simp[Act.put,I.size]
 .cases hd:o.dst<;>simp[Act.put,I.defers]
 .intro t v hv hn;by_cases hd:o.dst=some t
  .obtain⟨v',h1,h2⟩:=hV t hd;rw[hv]at h1;cases h1;have r:t<a.tmps.size:=by rw[I.size];exact hN t hd
   exact⟨V,by rw[hd];simp[Act.put,r],h2⟩
  .obtain⟨V',h1,h2⟩:=I.tmp t v hv (by
    rintro⟨x,ox,lo,hi,p1,p2,p3,p4,p5⟩;by_cases hxi:x=i
    .subst hxi;rw[ho]at p1;cases p1;exact hd p5
    .exact hn ⟨x,ox,lo,hi,p1,p2,p3,by unfold Ev.mark;rw[if_neg hxi];exact p4,p5⟩)
   refine⟨V',?_,h2.ext Ex⟩;cases hdd:o.dst with|none=>simpa[Act.put]using h1|some t'=>simp only[Act.put,Array.getElem?_setIfInBounds];rw[if_neg (fun r=>hd (by rw[hdd,r]))];exact h1
 .intro j o' lo hi h1 h2 h3 h4 h5;exact I.now j o' lo hi h1 h2 h3 h4 (n9 h5).1
 .intro j o' lo hi t v id h1 h2 h3 h4 h5 h6 h7 h8;obtain⟨_,q2,q3⟩:=I.mW j o' lo hi t v id h1 h2 h3 (n9 h4).1 h5 h6 h7 h8;exact⟨hs j o' lo hi t v id h1 h2 h3 h4 h5 h6 h7 h8,q2,q3⟩
 .intro x y o₁ o₂ lo hi lo' hi' t t' v v' id a1 a2 a3 a4 a5 a6 a7 a8;exact I.vE x y o₁ o₂ lo hi lo' hi' t t' v v' id a1 a2 a3 a4 a5 a6 (n9 a7).1 (n9 a8).1
 .intro z oz hz hL e he;by_cases hzi:z=i
  .subst hzi;rw[ho]at hz;cases hz;exact oa (hr e he)
  .unfold Ev.mark at hL;rw[if_neg hzi]at hL;exact oa (I.down z oz hz hL e he)
 .intro x j hx;have:x≠i:=by rintro rfl;exact nw j hx
  unfold Ev.mark;rw[if_neg this];exact I.wl x j hx
 .intro x l' h' hx hL;by_cases hxi:x=i
  .subst hxi;rw[hp]at hx;cases hx;exact hl
  .unfold Ev.mark at hL;rw[if_neg hxi]at hL;exact I.lo x l' h' hx hL
 .intro x l' h' hx hh;exact oa (I.hi x l' h' hx hh)
theorem Inv.step{k:Nat}(I:Inv P sh n ops pl X₀ q L X a st)(hP:lx ops pl k)(hM:∀(x:Nat) (o:Oper) (lo hi:Nat),ops[x]?=some o->pl[x]?=some (.p lo hi)->eE o.op=true->∃t,o.dst=some t){i:Nat}{o:Oper}(hN:∀t,o.dst=some t->t<n)
  (ho:ops[i]?=some o) (hr:∀e∈dU o,L e=true) (hL:L i=false) {l h:Nat}(hp:pl[i]?=some (.p l h)) {K:Act->World->Prop}{Q:Exit->Act->World->Prop}
  (hK:∀X' a',Inv P sh n ops pl X₀ q (Ev.mark L i) X' a' st->K a' X'.w):wpOp P ops Q i K a X.w:=by
 obtain⟨hlq,hqh⟩:=I.afW hP ho hr hL hp;obtain⟨v,pn,hdst⟩:=I.now i o l h ho hp hlq hqh hL;have look:∀t∈looks ops.toList o,∀v,st.T.get t=some v->∃V,a.tmps[t]?=some V/\Rel X v V:=fun t ht v hv=>I.tmp t v hv (I.Y3 hP ho hr ht);have opnd:nN X st.T a o.op:=NO fun t ht u hu=>look t (nf ht) u hu;have aX:∀(j:Nat) (o':Oper) (lo hi:Nat) (t:Tmp) (v:AV) (id:Nat),ops[j]?=some o'->pl[j]?=some (.p lo hi)->lo<=q->Ev.mark L i j=false->eE o'.op=true->o'.dst=some t->st.T.get t=some v->jR v=some id->X.s id=none:=fun j o' lo hi t v id h1 h2 h3 h4 h5 h6 h7 h8=>(I.mW j o' lo hi t v id h1 h2 h3 (n9 h4).1 h5 h6 h7 h8).1;unfold wpOp;rw[ho];simp only[];rcases pn with⟨hw,rfl⟩|⟨hw,hmk,hrd⟩|⟨hw,hmk,id,ob,ha,hid,hlt,hge⟩
 .rw[NL hw look];simp only[Bool.false_eq_true,if_false];exact hK X _ (I.OA hN ho hr hp hlq I.hX I.H I.E (fj.refl X) (fun t ht=>⟨_,hdst t ht,[],rfl,rfl⟩) aX)
 .rw[NL hw look];simp only[if_true];left;rw[<-I.hX]at hrd;obtain⟨V,hrun,hR⟩:=Z7 I.H hrd rfl opnd;unfold Oper.wp;rw[hrun];exact hK X _ (I.OA hN ho hr hp hlq I.hX I.H I.E (fj.refl X) (fun t ht=>⟨_,hdst t ht,hR⟩) aX)
 .rw[NL hw look];simp only[if_true];left;obtain⟨td,htd⟩:=hM i o l h ho hp hmk;have hidv:=(DK ha).2;simp only at hidv;obtain⟨sn,_,_⟩:=I.mW i o l h td v id ho hp hlq hL hmk htd (hdst td htd) hidv;rw[<-I.hX]at ha hid hlt;obtain⟨c,ob',V,hrun,hm⟩:=Zx7 I.H ha rfl opnd;have Ex:=fj.real (c:=c) (ob:=ob') I.H sn;have M:Made X ⟨bE X.s id (.at X.w.heap.size c),X.h,{ X.w with heap:=X.w.heap.push ob' },X.A⟩ id c ob ob':=⟨Ex,rfl,dX _ _ _,hid⟩;obtain⟨m1,m2⟩:=hm _ M;have H':=I.H.real (c:=c) (ob:=ob') sn hlt (fun o' h'=>by rw[hid]at h';cases h';exact m1);have E':aP X₀ ⟨bE X.s id (.at X.w.heap.size c),X.h,{ X.w with heap:=X.w.heap.push ob' },X.A⟩:=by
   have E:=I.E;refine⟨E.os,E.tape,E.output,by have:=E.size;simp;omega,?_,?_,E.next,?_,?_,E.len,E.same,E.A⟩
   .intro j l' hj;have:=E.sg j l' hj;show bE X.s id _ j=_;rw[cY _ _ _ (by rintro rfl;rw[sn]at this;cases this)];exact this
   .intro j l' hj h'
    replace h':bE X.s id _ j=some l':=h'
    rw[cY _ _ _ (by omega)]at h';exact E.cD j l' hj h'
   .intro b hb hn;have:=E.size;show(X.w.heap.push ob')[b]?=_;rw[Array.getElem?_push,if_neg (by omega)];exact E.frame b hb hn
   .rintro b ⟨j,o₁,c₁,h1,h2⟩;obtain⟨h2,h3⟩:=h2
    replace h2:bE X.s id (.at X.w.heap.size c) j=some c₁:=h2
    by_cases hj:j=id
    .subst hj;rw[dX]at h2;cases h2;right;have:=E.size;have:b=X.w.heap.size:=h3;omega
    .rw[cY _ _ _ hj]at h2;exact E.bu b ⟨j,o₁,c₁,h1,h2,h3⟩
  unfold Oper.wp;rw[hrun];refine hK ⟨bE X.s id (.at X.w.heap.size c),X.h,{ X.w with heap:=X.w.heap.push ob' },X.A⟩ _ (Inv.OA (X':=⟨bE X.s id (.at X.w.heap.size c),X.h,{ X.w with heap:=X.w.heap.push ob' },X.A⟩) I hN ho hr hp hlq I.hX H' E' Ex (fun t ht=>⟨_,hdst t ht,m2⟩) ?_);intro j o' lo hi t v' id' h1 h2 h3 h4 h5 h6 h7 h8;obtain⟨hLj,hji⟩:=n9 h4;have s':=(I.mW j o' lo hi t v' id' h1 h2 h3 hLj h5 h6 h7 h8).1;show bE X.s id _ id'=none;rw[cY _ _ _ ?_]
  .exact s'
  .rintro rfl;exact hji (I.vE j i o' o lo hi l h t td v' v id' h1 ho h2 hp h3 hlq hLj hL h5 hmk h6 htd h7 (hdst td htd) h8 hidv)
theorem Inv.enter{st':St}{h₁:Hp}(hsz:a.tmps.size=n)(hdf:a.defers=[])(hX:X.h=h₁)(H:aI X)(E:aP X₀ X){T₁:Tr AV}(S:vP P sh ops q ops.toList pl ⟨T₁,h₁⟩ st')
  (tmp:∀t v,T₁.get t=some v->(∀(x:Nat) (o:Oper) (hi:Nat),ops[x]?=some o->pl[x]?=some (.p q hi)->o.dst≠some t)->¬Lx ops pl q L t->∃V,a.tmps[t]?=some V/\Rel X v V)
  (now:∀(i:Nat) (o:Oper) (lo hi:Nat),ops[i]?=some o->pl[i]?=some (.p lo hi)->lo<q->q<=hi->L i=false->∃v,PN P sh ops X₀.h.next st'.T st'.h o v/\∀t,o.dst=some t->st'.T.get t=some v)
  (mW:∀(i:Nat) (o:Oper) (lo hi:Nat) (t:Tmp) (v:AV) (id:Nat),ops[i]?=some o->pl[i]?=some (.p lo hi)->lo<q->L i=false->eE o.op=true->o.dst=some t->st'.T.get t=some v->jR v=some id ->
   X.s id=none/\id<h₁.next/\X₀.h.next<=id)
  (vE:∀(i j:Nat) (o o':Oper) (lo hi lo' hi':Nat) (t t':Tmp) (v v':AV) (id:Nat),ops[i]?=some o->ops[j]?=some o'->pl[i]?=some (.p lo hi)->pl[j]?=some (.p lo' hi')->lo<q->lo'<q->L i=false->L j=false ->
   eE o.op=true->eE o'.op=true->o.dst=some t->o'.dst=some t'->st'.T.get t=some v->st'.T.get t'=some v'->jR v=some id->jR v'=some id->i=j)
  (hun:∀(i hi:Nat),pl[i]?=some (.p q hi)->L i=false)
  (down:∀(z:Nat) (o:Oper),ops[z]?=some o->L z=true->∀e∈dU o,L e=true) (wl:∀(i j:Nat),pl[i]?=some (.w j)->(L i=true↔j<=q)) (lo:∀(i l h:Nat),pl[i]?=some (.p l h)->L i=true->l<=q)
  (hi:∀(i l h:Nat),pl[i]?=some (.p l h)->h<q->L i=true):Inv P sh n ops pl X₀ q L ⟨X.s,st'.h,X.w,X.A⟩ a st':=by
 subst hX;obtain⟨G,H'⟩:=aht H S.next S.old S.wf;have new:∀(i:Nat) (o:Oper) (hi:Nat) (t:Tmp) (v:AV) (id:Nat),ops[i]?=some o->pl[i]?=some (.p q hi)->eE o.op=true->o.dst=some t->st'.T.get t=some v->jR v=some id->id<st'.h.next/\X.h.next<=id:=by intro i o hi t v id h1 h2 h3 h4 h5 h6;obtain⟨u,p1,p2⟩:=S.done i o hi (by simpa using h1) h2;rw[p2 t h4]at h5;cases h5;exact p1.ids h3 h6
 refine⟨hsz,hdf,rfl,H',E.trans G,?_,?_,?_,?_,down,wl,lo,hi⟩
 .intro t v hv hn;have hne:∀(x:Nat) (o:Oper) (hi:Nat),ops[x]?=some o->pl[x]?=some (.p q hi)->o.dst≠some t:=fun x o hi h1 h2 h3=>hn ⟨x,o,q,hi,h1,h2,Nat.le_refl _,hun x hi h2,h3⟩;rw[S.same t (fun x o hi h1 h2=>hne x o hi (by simpa using h1) h2)]at hv;obtain⟨V,h1,h2⟩:=tmp t v hv hne hn;exact⟨V,h1,h2.ext (G.dA H)⟩
 .intro i o lo' hi' h1 h2 h3 h4 h5;rcases Nat.lt_or_ge lo' q with r|r
  .exact now i o lo' hi' h1 h2 r h4 h5
  .have:lo'=q:=by omega
   subst this;obtain⟨v,p1,p2⟩:=S.done i o hi' (by simpa using h1) h2;exact⟨v,p1.congr (fun _ _=>rfl) (dL.refl _) (Nat.le_refl _) E.next,p2⟩
 .intro i o lo' hi' t v id h1 h2 h3 h4 h5 h6 h7 h8;rcases Nat.lt_or_ge lo' q with r|r
  .obtain⟨p1,p2,p3⟩:=mW i o lo' hi' t v id h1 h2 r h4 h5 h6 h7 h8;exact⟨p1,Nat.lt_of_lt_of_le p2 S.next,p3⟩
  .have:lo'=q:=by omega
   subst this;obtain⟨p1,p2⟩:=new i o hi' t v id h1 h2 h5 h6 h7 h8;refine⟨?_,p1,Nat.le_trans E.next p2⟩;show X.s id=none;cases hq:X.s id with|none=>rfl|some l=>have:=H.cD id l hq;omega
 .intro i j o o' lo₁ hi₁ lo₂ hi₂ t t' v v' id a1 a2 a3 a4 a5 a6 a7 a8 a9 a10 a11 a12 a13 a14 a15 a16;rcases Nat.lt_or_ge lo₁ q with r|r<;>rcases Nat.lt_or_ge lo₂ q with r'|r'
  .exact vE i j o o' lo₁ hi₁ lo₂ hi₂ t t' v v' id a1 a2 a3 a4 r r' a7 a8 a9 a10 a11 a12 a13 a14 a15 a16
  .have:lo₂=q:=by omega
   subst this;have p1:=(mW i o lo₁ hi₁ t v id a1 a3 r a7 a9 a11 a13 a15).2.1;have p2:=(new j o' hi₂ t' v' id a2 a4 a10 a12 a14 a16).2;omega
  .have:lo₁=q:=by omega
   subst this;have p1:=(mW j o' lo₂ hi₂ t' v' id a2 a4 r' a8 a10 a12 a14 a16).2.1;have p2:=(new i o hi₁ t v id a1 a3 a9 a11 a13 a15).2;omega
  .have e1:lo₁=q:=by omega
   have e2:lo₂=q:=by omega
   subst e1;subst e2;exact S.uniq i j o o' hi₁ hi₂ t t' v v' id (by simpa using a1) (by simpa using a2) a3 a4 a9 a10 a11 a12 a13 a14 a15 a16
end
theorem ahp(L:Nat->Bool)(i:Nat):Ev.mark L i i=true:=by unfold Ev.mark;simp
theorem og(L:Nat->Bool){i j:Nat}(h:j≠i):Ev.mark L i j=L j:=by unfold Ev.mark;rw[if_neg h]
section
variable{P:Program}{sh:TypeId->Option Sh}{n:Nat}{ops:Array Oper}{pl:List PE}{X₀:Cx}{q:Nat}{L:Nat->Bool}{X:Cx}{a:Act}{st:St}
theorem Inv.write{k:Nat}(I:Inv P sh n ops pl X₀ q L X a st)(hP:lx ops pl k)(hM:∀(x:Nat) (o:Oper) (lo hi:Nat),ops[x]?=some o->pl[x]?=some (.p lo hi)->eE o.op=true->∃t,o.dst=some t)
  (hD:∀(x y:Nat) (o o':Oper) (t:Tmp),ops[x]?=some o->ops[y]?=some o'->o.dst=some t->o'.dst=some t->x=y)
  {i:Nat}{o:Oper}(ho:ops[i]?=some o) (hr:∀e∈dU o,L e=true) (hL:L i=false) (hp:pl[i]?=some (.w (q+1)))
  {ch:Bool}{st₁ st₂:St}{b:Bool}{T:Tr AV}{v:AV}(hch:ch=false->dL st.h st₁.h) (W:y6 ops st.T o b T) (hT:fl n T o.dst v=some st₁.T)
  (hA:(b=true/\yz P T st.h o v st₁.h)\/(b=false/\v=.cg []/\st₁.h=st.h)) (hS:wf st₁.h->vP P sh ops (q+1) ops.toList pl st₁ st₂)
  (hC:B3 P ops (q+1) ch (dl o.dst++pq (q+1) ops.toList pl) st₂ ops.toList pl) {K:Act->World->Prop}{Q:Exit->Act->World->Prop}
  (hK:∀X' a',Inv P sh n ops pl X₀ (q+1) (Ev.mark L i) X' a' st₂->K a' X'.w):wpOp P ops Q i K a X.w:=by
 have look:∀t∈looks ops.toList o,∀v,st.T.get t=some v->∃V,a.tmps[t]?=some V/\Rel X v V:=fun t ht v hv=>I.tmp t v hv (I.Y3 hP ho hr ht);have opnd:nN X T a o.op:=NO fun t ht u hu=>look t (nf ht) u (W.get t u hu);have Tget:∀t,T.get t=st.T.get t:=by intro t;cases h:T.get t with|some u=>rw[W.get t u h]|none=>cases h':st.T.get t with|none=>rfl|some u=>rw[W.get' t u h']at h;cases h
 have hg:=oc hT;have fin:∀X' V,aP X X'->aI X'->X'.h=st₁.h->Rel X' v V->K (a.put o.dst V) X'.w:=by
  intro X' V E H' hh hv;have S:=hS (by rw[<-hh];exact H'.lt);have done:∀(x l h:Nat),pl[x]?=some (.p l h)->h<=q->L x=true:=fun x l h h1 h2=>I.due hP ho hr hp ops.size x l h (by omega) h1 h2;have xi:∀{x l h:Nat},pl[x]?=some (.p l h)->x≠i:=by rintro x l h h1 rfl;rw[hp]at h1;cases h1
  have T2:∀(x:Nat) (ox:Oper) (lo hi:Nat) (t:Tmp),ops[x]?=some ox->pl[x]?=some (.p lo hi)->lo<=q->ox.dst=some t->st₂.T.get t=st.T.get t:=by intro x ox lo hi t h1 h2 h3 h4;rw[S.same t (fun y oy hi' g1 g2 g3=>by have:=hD x y ox oy t h1 (by simpa using g1) h4 g3;subst this;rw[h2]at g2;cases g2;omega),hg t,if_neg (fun r=>xi h2 (hD x i ox o t h1 ho h4 r)),Tget t]
  have E':=I.E.trans E;refine hK ⟨X'.s,st₂.h,X'.w,X'.A⟩ _ (Inv.enter (X:=X') (h₁:=st₁.h) (T₁:=st₁.T) ?_ ?_ hh H' E' S ?_ ?_ ?_ ?_ ?_ ?_ ?_ ?_ ?_)
  .cases hd:o.dst<;>simp[Act.put,I.size]
  .cases hd:o.dst<;>simp[Act.put,I.defers]
  .intro t u hu hne hn;rw[hg t]at hu;by_cases hd:o.dst=some t
   .rw[if_pos hd]at hu;cases hu;have hlt:t<a.tmps.size:=by rw[I.size];rw[hd]at hT;exact Gz hT
    exact⟨V,by rw[hd];simp[Act.put,hlt],hv⟩
   .rw[if_neg hd,Tget t]at hu;obtain⟨V',h1,h2⟩:=I.tmp t u hu (by rintro⟨x,ox,lo,hi,p1,p2,p3,p4,p5⟩;exact hn ⟨x,ox,lo,hi,p1,p2,by omega,by rw[og L (xi p2)];exact p4,p5⟩);refine⟨V',?_,h2.ext (E.dA I.H)⟩;cases hdd:o.dst with|none=>simpa[Act.put]using h1|some t'=>simp only[Act.put,Array.getElem?_setIfInBounds];rw[if_neg (fun r=>hd (by rw[hdd,r]))];exact h1
  .intro x ox lo hi h1 h2 h3 h4 h5;rw[og L (xi h2)]at h5;obtain⟨u,pn,hdu⟩:=I.now x ox lo hi h1 h2 (by omega) (by omega) h5;obtain⟨c1,c2⟩:=hC x ox lo hi (by simpa using h1) h2 h3 h4;have hdst:∀t,ox.dst=some t->st₂.T.get t=some u:=fun t ht=>by rw[T2 x ox lo hi t h1 h2 (by omega) ht];exact hdu t ht
   have lk:∀t∈looks ops.toList ox,st₂.T.get t=st.T.get t:=by intro t ht;have hnot:=c1 t ht;rw[S.same t (fun y oy hi' g1 g2 g3=>hnot (List.mem_append.2 (.inr (Zwb g1 g2 g3)))),hg t,if_neg (fun r=>hnot (List.mem_append.2 (.inl (by rw[r];simp[dl])))),Tget t]
   have hw:=wo (ops:=ops) (T:=st.T) (T':=st₂.T) lk;rcases pn with⟨w1,rfl⟩|⟨w1,m1,r1⟩|⟨w1,m1,id,ob,ha,hid,hlt,hge⟩
   .exact⟨.cg [],.inl ⟨hw.trans w1,rfl⟩,hdst⟩
   .cases hc:ch with
    |false=>have hle:dL st.h st₂.h:=(hch hc).trans (fun b' o' q'=>by rw[S.old b' (by rw[<-hh]at q' |-;exact H'.lt b' o' q')];exact q');exact⟨u,.inr (.inl ⟨hw.trans w1,m1,Oc hle r1 (fun t ht=>lk t (nf ht))⟩),hdst⟩|true=>
     rcases c2 hc m1 with g|⟨g,u',r2,d2⟩
     .rw[hw,w1]at g;cases g
     .exact⟨u',.inr (.inl ⟨g,m1,r2⟩),d2⟩
   .obtain⟨td,htd⟩:=hM x ox lo hi h1 h2 m1;have hidv:=(DK ha).2;simp only at hidv;obtain⟨sn,hlt',_⟩:=I.mW x ox lo hi td u id h1 h2 (by omega) h5 m1 htd (hdu td htd) hidv;have hob:st₂.h.tr.get id=some ob:=by have e1:=E.same id (by rw[I.hX];exact hlt') sn;rw[hh,I.hX,hid]at e1;have e2:=S.old id (by rw[<-hh]at e1 |-;exact H'.lt id ob e1);rw[e2];exact e1
    refine⟨u,.inr (.inr ⟨hw.trans w1,m1,id,ob,Oe ha (fun t ht=>lk t (nf ht)),hob,S.wf id ob hob,hge⟩),hdst⟩
  .intro x ox lo hi t u id h1 h2 h3 h4 h5 h6 h7 h8;rw[og L (xi h2)]at h4;rw[T2 x ox lo hi t h1 h2 (by omega) h6]at h7;obtain⟨p1,p2,p3⟩:=I.mW x ox lo hi t u id h1 h2 (by omega) h4 h5 h6 h7 h8;refine⟨?_,?_,p3⟩
   .cases hq:X'.s id with|none=>rfl|some l=>have:=E.cD id l (by rw[I.hX];exact p2) hq;rw[p1]at this;cases this
   .have:=E.next;rw[hh,I.hX]at this;omega
  .intro x y ox oy lo₁ hi₁ lo₂ hi₂ t t' u u' id a1 a2 a3 a4 a5 a6 a7 a8 a9 a10 a11 a12 a13 a14 a15 a16;rw[og L (xi a3)]at a7;rw[og L (xi a4)]at a8;rw[T2 x ox lo₁ hi₁ t a1 a3 (by omega) a11]at a13;rw[T2 y oy lo₂ hi₂ t' a2 a4 (by omega) a12]at a14;exact I.vE x y ox oy lo₁ hi₁ lo₂ hi₂ t t' u u' id a1 a2 a3 a4 (by omega) (by omega) a7 a8 a9 a10 a11 a12 a13 a14 a15 a16
  .intro x hi hx;rw[og L (xi hx)];cases hq:L x with|false=>rfl|true=>have:=I.lo x (q+1) hi hx hq;omega
  .intro z oz hz hLz e he;by_cases hzi:z=i
   .subst hzi;rw[ho]at hz;cases hz;exact oa (hr e he)
   .rw[og L hzi]at hLz;exact oa (I.down z oz hz hLz e he)
  .intro x j hx;by_cases hxi:x=i
   .subst hxi;rw[hp]at hx;cases hx;rw[ahp];exact⟨fun _=>Nat.le_refl _,fun _=>rfl⟩
   .rw[og L hxi,I.wl x j hx];constructor
    .intro r;omega
    .intro r;rcases Nat.lt_or_ge q j with s|s
     .have:j=q+1:=by omega
      subst this;exact absurd (hP.uniq x i _ hx hp) hxi
     .exact s
  .intro x l h hx hLx;rw[og L (xi hx)]at hLx;have:=I.lo x l h hx hLx;omega
  .intro x l h hx hh';exact oa (done x l h hx (by omega))
 unfold wpOp;rw[ho];simp only[];rw[W.is X a (fun j w oj t v hgd hj hd hv=>look t (sN (ops:=ops) hgd hj hd) v hv)];rcases hA with⟨rfl,A⟩|⟨rfl,rfl,hh⟩
 .simp only[if_true];left;exact A X a I.hX I.H opnd K Q (fun X' V h1 h2 h3 h4=>fin X' V h1 h2 h3 h4)
 .simp only[Bool.false_eq_true,if_false];exact fin X undef (aP.refl X) I.H (by rw[hh];exact I.hX) ⟨[],rfl,rfl⟩
end
theorem af7{P:Program}{sh:TypeId->Option Sh}{n:Nat}{ops:Array Oper}{pl:List PE}{k:Nat}(hP:lx ops pl k)(hM:∀(x:Nat) (o:Oper) (lo hi:Nat),ops[x]?=some o->pl[x]?=some (.p lo hi)->eE o.op=true->∃t,o.dst=some t)
  (hD:∀(x y:Nat) (o o':Oper) (t:Tmp),ops[x]?=some o->ops[y]?=some o'->o.dst=some t->o'.dst=some t->x=y) (hN:∀(x:Nat) (o:Oper) (t:Tmp),ops[x]?=some o->o.dst=some t->t<n)
  {X₀:Cx}{fin:St}{Q:Exit->Act->World->Prop}(hQ:∀X a,RF X n fin a->aP X₀ X->Q .normal a X.w) :
  ∀(fuel:Nat) (r q:Nat) (listed:Array Bool) (st:St) (X:Cx) (a:Act),q+r=k->y7 P sh n ops pl r q st fin->listed.size=ops.size->left ops.size (fun j=>listed.getD j false)<=fuel ->
   Inv P sh n ops pl X₀ q (fun j=>listed.getD j false) X a st->wpAny P .any ops Q fuel listed a X.w:=by
 have oW:∀(listed:Array Bool),listed.size=ops.size->∀i,i<ops.size->listed.getD i true=listed.getD i false:=by intro listed hs i hi;simp[Array.getD_eq_getD_getElem?,show i<listed.size by omega]
 have fini:∀(r q:Nat) (listed:Array Bool) (st:St) (X:Cx) (a:Act),q+r=k->y7 P sh n ops pl r q st fin->listed.size=ops.size ->
   Inv P sh n ops pl X₀ q (fun j=>listed.getD j false) X a st->Region.ready .any ops listed=[]->Q .normal a X.w:=by
  intro r q listed st X a hqr ht hs I hrd;have all:∀i,i<ops.size->listed.getD i false=true:=by
   intro i
   induction i using Nat.strongRecOn with
   |_ i ih=>
    intro hi;cases hx:listed.getD i false with
    |true=>rfl|false=>
     have ho:ops[i]?=some ops[i]:=by simp[hi]
     have:i∈Region.ready .any ops listed:=Zqg (by rw[oW listed hs i hi];exact hx) ho (fun e he=>ih e (hP.below i _ ho e he) (Nat.lt_trans (hP.below i _ ho e he) hi));rw[hrd]at this;cases this
  cases r with
  |succ r=>obtain⟨i,o,ch,st₁,st₂,b,T,v,h1,h2,_⟩:=ht;have:=(I.wl i (q+1) h2).1 (all i (ej h1));omega
  |zero=>have:fin=st:=ht;subst this;refine hQ X a ⟨I.hX,⟨I.size,I.defers,?_⟩,I.H⟩ I.E;intro t v hv;refine I.tmp t v hv ?_;rintro⟨x,o,lo,hi,p1,p2,p3,p4,p5⟩;simp only[]at p4;rw[all x (ej p1)]at p4;cases p4
 intro fuel
 induction fuel with
 |zero=>
  intro r q listed st X a hqr ht hs hl I;have hrd:Region.ready .any ops listed=[]:=by
   cases hx:Region.ready .any ops listed with
   |nil=>rfl|cons i l=>
    exfalso;obtain⟨h1,o,ho,_⟩:=Nf (i:=i) (by rw[hx];simp);have hi:=ej ho;have h0:left ops.size (fun j=>listed.getD j false)=0:=by omega
    have h3:=qD h0 i hi;rw[oW listed hs i hi]at h1;rw[h1]at h3;cases h3
  exact⟨hrd,fini r q listed st X a hqr ht hs I hrd⟩
 |succ fuel ih=>
  intro r q listed st X a hqr ht hs hl I;refine⟨fun hrd=>fini r q listed st X a hqr ht hs I hrd,?_⟩;intro i hi;obtain⟨h1,o,ho,h2⟩:=Nf hi;have aT:=ej ho;rw[oW listed hs i aT]at h1;have hL:(fun j=>(listed.setIfInBounds i true).getD j false)=Ev.mark (fun j=>listed.getD j false) i:=by
   funext j;unfold Ev.mark;by_cases hj:j=i
   .subst hj;simp[Array.getD_eq_getD_getElem?,Array.getElem?_setIfInBounds,show j<listed.size by omega]
   .rw[if_neg hj];exact getD_set_ne false (fun r=>hj r.symm)
  have hsz:(listed.setIfInBounds i true).size=ops.size:=by simp[hs]
  have hleft:left ops.size (fun j=>(listed.setIfInBounds i true).getD j false)<=fuel:=by rw[hL];have:=wy (L:=fun j=>listed.getD j false) (i:=i) h1 ops.size;rw[if_pos aT]at this;omega
  obtain⟨pe,hpe⟩:∃pe,pl[i]?=some pe:=⟨pl[i]'(by rw[hP.len];exact aT),by simp[hP.len,aT]⟩;cases pe with
  |p l h=>refine I.step hP hM (fun t htd=>hN i o t ho htd) ho h2 h1 hpe ?_;intro X' a' I';exact ih r q _ st X' a' hqr ht hsz hleft (by rw[hL];exact I')|w j=>
   have hj:j=q+1:=by
    obtain⟨w1,w2,w3⟩:=hP.w i o j ho hpe;have hn:¬j<=q:=fun r=>by have:=(I.wl i j hpe).2 r;rw[h1]at this;cases this
    rcases w3 with r|⟨e,pe,g1,g2,g3⟩
    .omega
    .have hLe:=h2 e g1;cases pe with|w j'=>have:=(I.wl e j' g2).1 hLe;simp only[PE.num]at g3;omega|p l' h'=>have:=I.lo e l' h' g2 hLe;simp only[PE.num]at g3;omega
   subst hj;have hk:=(hP.w i o (q+1) ho hpe).2.1;obtain⟨r,rfl⟩:∃r',r=r'+1:=⟨r-1,by omega⟩;obtain⟨i',o',ch,st₁,st₂,b,T,v,g1,g2,g3,g4,g5,g6,g7,g8,g9⟩:=ht;have:=hP.uniq i' i _ g2 hpe;subst this;rw[ho]at g1;cases g1;refine I.write hP hM hD ho h2 h1 hpe g3 g4 g5 g6 g7 g8 ?_;intro X' a' I';exact ih r (q+1) _ st₂ X' a' (by omega) g9 hsz hleft (by rw[hL];exact I')
def FN(P:Program)(G:Cx->Prop)(base n:Nat)(c:Code)(st:St)(e:Ev.Ex)(st':St):Prop:=∀X₀ X a,(X₀.h.next=base/\G X₀)->aI X₀->aP X₀ X->RF X n st a->∀Q:Exit->Act->World->Prop,
 (∀X' a',RF X' n st' a'->aP X₀ X'->Q e.to a' X'.w)->c.wp P Q a X.w
theorem acD{R:Type}{G:Cx->Prop}{P:Program}(hm:P.follows .mixedOrders=true){sh:TypeId->Option Sh}{call:gC R}(hc:jq P call){n base:Nat}{ops:Array Oper}{st:St}{k:St->Option R}{r:R}(e:FQ P sh call n ops st k=some r)(id:Nat) :
  ∃st',k st'=some r/\FN P G base n (.region id ops true) st .normal st':=by
 unfold FQ at e;split at e<;>try cases e
 rename_i m hpk;split at e<;>try cases e
 rename_i hd hlt;have hP:=Df hpk;obtain⟨d1,d2⟩:=Zyg hd (by rw[hP.len];simp);obtain⟨st₁,e,S'⟩:=SE e (fun x y o o' hi hi' t q1 q2 q3 q4 q5 q6=>TG hP (by simpa using q1) (by simpa using q2) q4 q5 q6) d1;obtain⟨fin,hk,ht⟩:=Tn hc hP d1 m 0 st₁ e;refine⟨fin,hk,?_⟩;intro X₀ X a hb hH hE RR Q hQ;refine wp_region_any hm ?_;have Hd:=RR.H.drew (X.w.drawn+1);have S:=S' (by rw[<-RR.h];exact RR.H.lt);have hgetD:∀j,(Array.replicate ops.size false).getD j false=false:=by intro j;simp only[Array.getD_eq_getD_getElem?,Array.getElem?_replicate];split<;>rfl
 have I:Inv P sh n ops (pb ops.toList) { X with w:={ X.w with drawn:=X.w.drawn+1 } } 0 (fun j=>(Array.replicate ops.size false).getD j false) ⟨X.s,st₁.h,{ X.w with drawn:=X.w.drawn+1 },X.A⟩ a st₁:=by
  refine Inv.enter (X:={ X with w:={ X.w with drawn:=X.w.drawn+1 } }) (h₁:=st.h) (T₁:=st.T) RR.T.size RR.T.defers RR.h Hd (aP.refl _) S ?_ ?_ ?_ ?_ (fun i hi _=>hgetD i) ?_ ?_ ?_ ?_
  .intro t v hv _ _;obtain⟨V,h1,h2⟩:=RR.T.get t v hv;exact⟨V,h1,h2.ext (fj.of_heap (X:=X) (w:={ X.w with drawn:=X.w.drawn+1 }) rfl)⟩
  .intro i o lo hi _ _ h;omega
  .intro i o lo hi t v id _ _ h;omega
  .intro i j o o' lo hi lo' hi' t t' v v' id _ _ _ _ h;omega
  .intro z o _ h;rw[hgetD]at h;cases h
  .intro i j hj;simp only[hgetD];have hlt':i<ops.size:=by rw[<-hP.len];exact dr hj
   have:=(hP.w i ops[i] j (by simp[hlt']) hj).1;constructor
   .intro r;cases r
   .intro r;omega
  .intro i l h _ hL;rw[hgetD]at hL;cases hL
  .intro i l h _ hh;omega
 have hleft:∀m (L:Nat->Bool),left m L<=m:=by
  intro m L
  induction m with|zero=>simp[left]|succ m ih=>simp only[left];split<;>omega
 refine af7 (X₀:={ X with w:={ X.w with drawn:=X.w.drawn+1 } }) hP (fun x o lo hi h=>d2 x o lo hi (by simpa using h)) (fun x y o o' t h1 h2=>d1 x y o o' t (by simpa using h1) (by simpa using h2)) (fun x o t h1 h2=>N2 hlt x o t (by simpa using h1) h2) ?_ ops.size m 0 _ st₁ _ a (by omega) ht (by simp) (hleft _ _) I;intro X' a' R' E';exact hQ X' a' R' (hE.trans ((aP.drew X _).trans E'))
open Go.Proofs.YtkcpdpplobhpaaaGreat.Ev (Tr Tr.ca nth db)
def cZ:List (Nat×Nat)->Nat->Option Nat
 |[],_=>none|p::l,j=>match Nat.beq p.1 j with|true=>some p.2|false=>cZ l j
def DX(base:Nat)(m:List (Nat×Nat))(j:Nat):Option Nat:=match Nat.blt j base with|true=>some j|false=>cZ m j
def afQ(base j:Nat):Option Nat:=match Nat.blt j base with|true=>some j|false=>none
mutual
def iO(f:Nat->Option Nat):AV->Option AV
 |.bool b=>some (.bool b)|.int k n=>some (.int k n)|.str s=>some (.str s)|.di=>some .di|.bz=>some .bz|.dR=>some .dR|.dK=>some .dK|.eJ=>some .eJ|.iZ=>some .iZ|.ptr b o=>match f b with|some b=>some (.ptr b o)|none=>none
 |.dw b i z o=>match f b with|some b=>some (.dw b i z o)|none=>none
 |.eO σ d o=>some (.eO σ d o)|.hd b τ=>match f b with|some b=>some (.hd b τ)|none=>none
 |.vw b τ o l=>match f b with|some b=>some (.vw b τ o l)|none=>none
 |.fz τ L=>some (.fz τ L)|.dz τ z L=>some (.dz τ z L)|.mp b=>match f b with|some b=>some (.mp b)|none=>none
 |.cT b=>match f b with|some b=>some (.cT b)|none=>none
 |.rp b i=>match f b with|some b=>some (.rp b i)|none=>none
 |.ra b i=>match f b with|some b=>some (.ra b i)|none=>none
 |.func g x c=>match mf f x with
  |some x=>match mf f c with|some c=>some (.func g x c)|none=>none
  |none=>none
 |.agg l=>match mf f l with|some l=>some (.agg l)|none=>none
 |.cg l=>match mf f l with|some l=>some (.cg l)|none=>none
termination_by structural x=>x
def mf(f:Nat->Option Nat):List AV->Option (List AV)
 |[]=>some []|v::l=>match iO f v with
  |some v=>match mf f l with|some l=>some (v::l)|none=>none
  |none=>none
termination_by structural x=>x
end
def iN(f:Nat->Option Nat):bc->Option bc
 |.cells l ty=>match mf f l with|some l=>some (.cells l ty)|none=>none
 |.arr τ L ty=>some (.arr τ L ty)|.map κ σ M=>some (.map κ σ M)|.cQ L ty=>some (.cQ L ty)|.du τ i L vs ty=>match mf f vs with|some vs=>some (.du τ i L vs ty)|none=>none
structure Rn(f:Nat->Option Nat)(X X':Cx):Prop where
 sg:∀j i l,f j=some i->X.s j=some l->X'.s i=some l
 K:iu X.w X.out X'.w X'.out
 obj:∀j i n,f j=some i->rowOf X'.h.tr i=some n->rowOf X.h.tr j=some n
mutual
theorem GA{f:Nat->Option Nat}{X X':Cx}(E:Rn f X X'):∀{v v':AV}{V:Value},iO f v=some v'->Rel X v V->Rel X' v' V
 |.bool _,v',_,e,h|.int _ _,v',_,e,h|.str _,v',_,e,h|.di,v',_,e,h|.bz,v',_,e,h|.dR,v',_,e,h|.dK,v',_,e,h|.eJ,v',_,e,h|.iZ,v',_,e,h=>by simp only[iO,Option.some.injEq]at e;subst e;exact h|.ptr b off,v',V,e,⟨x,c,h1,h2⟩=>by
  simp only[iO]at e;split at e<;>try cases e
  rename_i i hi;exact⟨x,c,E.sg _ _ _ hi h1,h2⟩
 |.dw b i z o,v',V,e,⟨x,c,h1,h2,h3⟩=>by
  simp only[iO]at e;split at e<;>try cases e
  rename_i b' hb;exact⟨x,c,E.sg _ _ _ hb h1,h2,fun n q=>h3 n (E.obj _ _ n hb q)⟩
 |.eO σ d o,v',V,e,⟨b,off,cs,h1,h2,h3,h4⟩=>by simp only[iO,Option.some.injEq]at e;subst e;obtain⟨k1,k2⟩:=h4.aX E.K h2;exact⟨b,off,cs,h1,k2,h3.aX E.K,k1⟩
 |.hd b τ,v',V,e,⟨l,h1,hc,h2⟩=>by
  simp only[iO]at e;split at e<;>try cases e
  rename_i b' hb;exact⟨l,E.sg _ _ _ hb h1,hc,fun n q=>h2 n (E.obj _ _ n hb q)⟩
 |.vw b τ off len,v',V,e,⟨l,a,c,h1,h2,h3,h4,h5,h6⟩=>by
  simp only[iO]at e;split at e<;>try cases e
  rename_i b' hb;exact⟨l,a,c,E.sg _ _ _ hb h1,h2,h3,h4,h5,fun n q=>h6 n (E.obj _ _ n hb q)⟩
 |.fz τ L,v',V,e,h=>by simp only[iO,Option.some.injEq]at e;subst e;exact Cs.aX E.K (σ:=.sl τ) h|.dz τ z L,v',V,e,h=>by simp only[iO,Option.some.injEq]at e;subst e;exact⟨Cs.aX E.K (σ:=.sl τ) h.1,h.2⟩|.mp b,v',V,e,⟨x,c,h1,h2⟩=>by
  simp only[iO]at e;split at e<;>try cases e
  rename_i i hi;exact⟨x,c,E.sg _ _ _ hi h1,h2⟩
 |.cT b,v',V,e,⟨l,h1,h2⟩=>by
  simp only[iO]at e;split at e<;>try cases e
  rename_i i hi;exact⟨l,E.sg _ _ _ hi h1,h2⟩
 |.rp b i,v',V,e,⟨x,c,m,p,h1,h2⟩=>by
  simp only[iO]at e;split at e<;>try cases e
  rename_i k hk;exact⟨x,c,m,p,E.sg _ _ _ hk h1,h2⟩
 |.ra b i,v',V,e,⟨x,c,m,h1,h2⟩=>by
  simp only[iO]at e;split at e<;>try cases e
  rename_i k hk;exact⟨x,c,m,E.sg _ _ _ hk h1,h2⟩
 |.func g x c,v',V,e,⟨xs,cs,h1,h2,h3⟩=>by
  simp only[iO]at e;split at e<;>try cases e
  rename_i x' hx;split at e<;>try cases e
  rename_i c' hc;exact⟨xs,cs,h1,pg E hx h2,pg E hc h3⟩
 |.agg l,v',V,e,⟨cs,h1,h2⟩=>by
  simp only[iO]at e;split at e<;>try cases e
  rename_i x' hx;exact⟨cs,h1,pg E hx h2⟩
 |.cg l,v',V,e,⟨cs,h1,h2⟩=>by
  simp only[iO]at e;split at e<;>try cases e
  rename_i x' hx;exact⟨cs,h1,pg E hx h2⟩
theorem pg{f:Nat->Option Nat}{X X':Cx}(E:Rn f X X'):∀{l l':List AV}{cs:List Value},mf f l=some l'->bk X l cs->bk X' l' cs
 |[],l',_,e,h=>by simp only[mf,Option.some.injEq]at e;subst e;exact h|x::l,l',_,e,⟨v,r,e2,h1,h2⟩=>by
  simp only[mf]at e;split at e<;>try cases e
  rename_i x' hx;split at e<;>try cases e
  rename_i l' hl;exact⟨v,r,e2,GA E hx h1,pg E hl h2⟩
end
theorem YL{f:Nat->Option Nat}{o o':bc}(e:iN f o=some o'):o'.row=o.row:=by
 cases o with
 |cells l ty=>simp only[iN]at e;split at e<;>cases e;rfl
 |arr τ L ty=>simp only[iN,Option.some.injEq]at e;subst e;rfl|map κ σ M=>simp only[iN,Option.some.injEq]at e;subst e;rfl|cQ L ty=>simp only[iN,Option.some.injEq]at e;subst e;rfl|du τ i L vs ty=>simp only[iN]at e;split at e<;>cases e;rfl
theorem T4{f:Nat->Option Nat}{X X':Cx}(E:Rn f X X')(hw:X'.w=X.w){l:Loc}{o o':bc}(e:iN f o=some o')(h:gY X l o):gY X' l o':=by
 cases o with
 |cells vs ty=>
  simp only[iN]at e;split at e<;>try cases e
  rename_i l' hl;obtain⟨b,c,cs,h1,h2,h3⟩:=h;exact⟨b,c,cs,h1,by rw[hw];exact h2,pg E hl h3⟩
 |arr τ L ty=>
  simp only[iN,Option.some.injEq]at e;subst e;cases l with
  |nil=>exact h|«at» b c=>obtain⟨cs,tail,h1,h2,h3,h4⟩:=h;exact⟨cs,tail,by rw[hw];exact h1,h2.mono (fun x d q=>q.aX E.K),h3,h4⟩
  |bO _ _ _=>exact h.elim
 |map κ σ M=>simp only[iN,Option.some.injEq]at e;subst e;obtain⟨x,c,es,clk,h1,h2,h3⟩:=h;exact⟨x,c,es,clk,h1,by rw[hw];exact h2,h3.aX E.K⟩
 |cQ L ty=>simp only[iN,Option.some.injEq]at e;subst e;cases l with|nil=>exact h|«at» b c=>exact h.elim|bO b c m=>obtain⟨tail,ty',h1,h2,h3,h4⟩:=h;exact⟨tail,ty',by rw[hw];exact h1,h2,h3.ext E.K (fun p _=>by rw[hw];exact⟨rfl,rfl⟩),h4⟩
 |du τ i L vs ty=>
  simp only[iN]at e;split at e<;>try cases e
  rename_i l' hl;obtain⟨b,c,pre,mid,post,tail,h0,h1,h2,h3,h4,h5⟩:=h;exact⟨b,c,pre,mid,post,tail,h0,by rw[hw];exact h1,h2.mono (fun x d q=>q.aX E.K),pg E hl h3,h4.mono (fun x d q=>q.aX E.K),h5⟩
def FP(base:Nat)(h:Tr bc):Nat->Tr bc->Option (Tr bc)
 |0,t=>some t|k+1,t=>match FP base h k t with
  |some t=>match h.get k with
   |some o=>match iN (afQ base) o with|some o=>Tr.set FT t k (some o)|none=>none
   |none=>some t
  |none=>none
def nm(f:Nat->Option Nat)(h:Tr bc):List (Nat×Nat)->Tr bc->Option (Tr bc)
 |[],t=>some t|p::m,t=>match nm f h m t with
  |some t=>match h.get p.1 with
   |some o=>match iN f o with|some o=>Tr.set FT t p.2 (some o)|none=>none
   |none=>some t
  |none=>none
def tz(f:Nat->Option Nat)(n:Nat)(T:Tr AV):List Tmp->Option (Tr AV)
 |[]=>some .nil|t::l=>match tz f n T l with
  |some T'=>match T.get t with
   |some v=>match iO f v with|some v=>fl n T' (some t) v|none=>none
   |none=>none
  |none=>none
def yJ(j i:Nat):List (Nat×Nat)->Bool
 |[]=>true|p::m=>match Nat.beq p.1 j with|true=>false|false=>match Nat.beq p.2 i with|true=>false|false=>yJ j i m
def DW(base nx:Nat):List (Nat×Nat)->Bool
 |[]=>true|p::m=>match Nat.ble base p.1,Nat.ble base p.2,Nat.blt p.2 nx,yJ p.1 p.2 m with|true,true,true,true=>DW base nx m|_,_,_,_=>false
theorem Zyj{j i:Nat}:∀{m:List (Nat×Nat)},yJ j i m=true->∀p∈m,p.1≠j/\p.2≠i
 |[],_,p,hp=>by cases hp
 |q::m,h,p,hp=>by
  simp only[yJ]at h;split at h<;>try cases h
  rename_i h1;split at h<;>try cases h
  rename_i h2;rcases List.mem_cons.1 hp with rfl|hp
  .exact⟨Nat.ne_of_beq_eq_false h1,Nat.ne_of_beq_eq_false h2⟩
  .exact Zyj h p hp
structure o8(base nx:Nat)(m:List (Nat×Nat)):Prop where
 lo:∀p∈m,base<=p.1/\base<=p.2/\p.2<nx
 fst:∀p∈m,∀q∈m,p.1=q.1->p=q
 snd:∀p∈m,∀q∈m,p.2=q.2->p=q
theorem Tw{base nx:Nat}:∀{m:List (Nat×Nat)},DW base nx m=true->o8 base nx m
 |[],_=>⟨fun p h=>(nomatch h),fun p h=>(nomatch h),fun p h=>(nomatch h)⟩
 |p::m,h=>by
  simp only[DW]at h;split at h<;>try cases h
  rename_i h1 h2 h3 h4;have h1:=Nat.le_of_ble_eq_true h1;have h2:=Nat.le_of_ble_eq_true h2;rw[Nat.blt_eq]at h3;have h4:=Zyj h4;obtain⟨a,b,c⟩:=Tw h;refine⟨?_,?_,?_⟩
  .intro q hq;rcases List.mem_cons.1 hq with rfl|hq
   .exact⟨h1,h2,h3⟩
   .exact a q hq
  .intro q hq r hr e;rcases List.mem_cons.1 hq with rfl|hq'
   .rcases List.mem_cons.1 hr with rfl|hr'
    .rfl
    .exact absurd e.symm (h4 r hr').1
   .rcases List.mem_cons.1 hr with rfl|hr'
    .exact absurd e (h4 q hq').1
    .exact b q hq' r hr' e
  .intro q hq r hr e;rcases List.mem_cons.1 hq with rfl|hq'
   .rcases List.mem_cons.1 hr with rfl|hr'
    .rfl
    .exact absurd e.symm (h4 r hr').2
   .rcases List.mem_cons.1 hr with rfl|hr'
    .exact absurd e (h4 q hq').2
    .exact c q hq' r hr' e
theorem wU:∀{m:List (Nat×Nat)}{j i:Nat},cZ m j=some i->(j,i)∈m
 |[],j,i,h=>by simp[cZ]at h|p::m,j,i,h=>by
  simp only[cZ]at h;split at h
  .rename_i q;have:=Nat.eq_of_beq_eq_true q;simp only[Option.some.injEq]at h;subst this;subst h;exact List.mem_cons_self
  .exact List.mem_cons_of_mem _ (wU h)
theorem uz{base nx:Nat}{m:List (Nat×Nat)}(O:o8 base nx m){j i:Nat}(h:(j,i)∈m):cZ m j=some i:=by
 have:∀{l:List (Nat×Nat)},(∀p∈l,p∈m)->(j,i)∈l->cZ l j=some i:=by
  intro l
  induction l with
  |nil=>intro _ q;cases q
  |cons p l ih=>
   intro hs q;simp only[cZ];split
   .rename_i e;have e:=Nat.eq_of_beq_eq_true e;have:=O.fst p (hs p (by simp)) (j,i) h e;rw[this]
   .rename_i e;have e:=Nat.ne_of_beq_eq_false e;rcases List.mem_cons.1 q with r|r
    .rw[<-r]at e;exact absurd rfl e
    .exact ih (fun p hp=>hs p (by simp[hp])) r
 exact this (fun p hp=>hp) h
def inv:List (Nat×Nat)->Nat->Option Nat
 |[],_=>none|p::l,i=>if p.2=i then some p.1 else inv l i
theorem Uo:∀{m:List (Nat×Nat)}{i j:Nat},inv m i=some j->(j,i)∈m
 |[],i,j,h=>by simp[inv]at h|p::m,i,j,h=>by
  simp only[inv]at h;split at h
  .rename_i q;simp only[Option.some.injEq]at h;subst q;subst h;exact List.mem_cons_self
  .exact List.mem_cons_of_mem _ (Uo h)
theorem FL{base nx:Nat}{m:List (Nat×Nat)}(O:o8 base nx m){j i:Nat}(h:(j,i)∈m):inv m i=some j:=by
 have:∀{l:List (Nat×Nat)},(∀p∈l,p∈m)->(j,i)∈l->inv l i=some j:=by
  intro l
  induction l with
  |nil=>intro _ q;cases q
  |cons p l ih=>
   intro hs q;simp only[inv];split
   .rename_i e;have:=O.snd p (hs p (by simp)) (j,i) h e;rw[this]
   .rename_i e;rcases List.mem_cons.1 q with r|r
    .rw[<-r]at e;exact absurd rfl e
    .exact ih (fun p hp=>hs p (by simp[hp])) r
 exact this (fun p hp=>hp) h
theorem wE{f:Nat->Option Nat}{h:Tr bc}:∀{m:List (Nat×Nat)}{t t':Tr bc},nm f h m t=some t'->∀i,((∀p∈m,p.2≠i)->t'.get i=t.get i) /\
  ∀o',t'.get i=some o'->t.get i=some o'\/∃j o,(j,i)∈m/\h.get j=some o/\iN f o=some o'
 |[],t,t',e,i=>by simp only[nm,Option.some.injEq]at e;subst e;exact⟨fun _=>rfl,fun o' q=>.inl q⟩|p::m,t,t',e,i=>by
  simp only[nm]at e;split at e<;>try cases e
  rename_i t₁ h₁;obtain⟨i1,i2⟩:=wE h₁ i;have back:∀o',t₁.get i=some o'->t.get i=some o'\/∃j o,(j,i)∈p::m/\h.get j=some o/\iN f o=some o':=by
   intro o' q;rcases i2 o' q with q|⟨j,o,a,b,c⟩
   .exact .inl q
   .exact .inr ⟨j,o,List.mem_cons_of_mem _ a,b,c⟩
  split at e
  .rename_i o ho;split at e<;>try cases e
   rename_i o₁ hr;have hg:=Tr.ca _ _ _ _ _ e i;rw[hg];by_cases q:i=p.2
   .rw[if_pos q];refine⟨fun hn=>absurd q.symm (hn p List.mem_cons_self),?_⟩;intro o' r;cases r;exact .inr ⟨p.1,o,by rw[q];exact List.mem_cons_self,ho,hr⟩
   .rw[if_neg q];exact⟨fun hn=>i1 (fun p hp=>hn p (List.mem_cons_of_mem _ hp)),back⟩
  .simp only[Option.some.injEq]at e;subst e;exact⟨fun hn=>i1 (fun p hp=>hn p (List.mem_cons_of_mem _ hp)),back⟩
theorem GJ{f:Nat->Option Nat}{n:Nat}{T:Tr AV}:∀{l:List Tmp}{T':Tr AV},tz f n T l=some T'->∀t v',T'.get t=some v'->∃v,T.get t=some v/\iO f v=some v'
 |[],T',e,t,v',h=>by simp only[tz,Option.some.injEq]at e;subst e;simp[Tr.get]at h|x::l,T',e,t,v',h=>by
  simp only[tz]at e;split at e<;>try cases e
  rename_i T₁ h₁;split at e<;>try cases e
  rename_i v hv;split at e<;>try cases e
  rename_i u hu;rw[oc e t]at h;by_cases q:x=t
  .subst q;rw[if_pos rfl]at h;cases h;exact⟨v,hv,hu⟩
  .rw[if_neg (by simpa using q)]at h;exact GJ h₁ t v' h
def vC(base n:Nat)(aX:List Tmp)(m:List (Nat×Nat))(nx:Nat)(st:St):Option St:=match DW base nx m,Nat.ble base nx with
 |true,true=>match tz (DX base m) n st.T aX,FP base st.h.tr base .nil with
  |some T,some t=>match nm (DX base m) st.h.tr m t with|some t=>some ⟨T,⟨t,nx⟩⟩|none=>none
  |_,_=>none
 |_,_=>none
open Go.Proofs.YtkcpdpplobhpaaaGreat.Ev (Tr Tr.ca nth db Ex)
def jb:Code->Nat
 |.region id _ _=>id|.seq a _=>jb a|.block _ a=>jb a|.loop a=>jb a|.scope a=>jb a|_=>0
def sH(n:Nat):List (Tmp×Sh×TypeId)->St->Option St
 |[],st=>some st|p::l,st=>match st.T.get p.1 with
  |some v=>match v with
   |.bz=>match Tr.set FT st.h.tr st.h.next (some (.arr p.2.1 [] p.2.2))with
    |some t=>match fl n st.T (some p.1) (.hd st.h.next p.2.1)with|some T=>sH n l ⟨T,⟨t,st.h.next+1⟩⟩|none=>none
    |none=>none
   |_=>sH n l st
  |none=>none
abbrev ka(R:Type):=Nat->St->(Ex->St->Option R)->Option R
def dC:Code->List Code
 |.seq a b=>dC a++dC b|.cond _ a b=>dC a++dC b|.block _ a=>dC a|.loop a=>[a]|.scope a=>dC a|_=>[]
def BO(T:Tr AV)(c:Operand)(b:Bool):Option (Tr AV):=match c with|.tmp t=>Tr.set FT T t (some (.bool b))|_=>some T
section
variable{R:Type}(P:Program)(sh:TypeId->Option Sh)(call:gC R)(loops:ka R)(n:Nat)
def runK:Code->St->(Ex->St->Option R)->Option R
 |.skip,st,k=>k .normal st|.label _,st,k=>k .normal st|.region _ ops draw,st,k=>match draw with|false=>rL P sh call n ops ops.toList st (k .normal)|true=>FQ P sh call n ops st (k .normal)
 |.seq x y,st,k=>runK x st fun e st=>match e with|.normal=>runK y st k|.exit i=>k (.exit i) st|.ret=>k .ret st
 |.cond c x y,st,k=>match cH st.T c with
  |some v=>match v with
   |.bool b=>br b (match BO st.T c true with|some T=>runK x ⟨T,st.h⟩ k|none=>none) (match BO st.T c false with|some T=>runK y ⟨T,st.h⟩ k|none=>none)
   |_=>none
  |none=>none
 |.block id x,st,k=>runK x st fun e st=>match e with
  |.normal=>k .normal st|.exit i=>match Nat.beq i id with|true=>k .normal st|false=>k (.exit i) st
  |.ret=>k .ret st
 |.loop x,st,k=>loops (jb x) st k|.scope x,st,k=>runK x st k|.exit id,st,k=>k (.exit id) st|.ret,st,k=>k .ret st|_,_,_=>none
end
theorem Gv{n:Nat}:∀{l:List (Tmp×Sh×TypeId)}{st st':St},sH n l st=some st'->∀{X:Cx}{a:Act},RF X n st a->∃X',X'.w=X.w/\RF X' n st' a/\aP X X'
 |[],st,st',e,X,a,R=>by simp only[sH,Option.some.injEq]at e;subst e;exact⟨X,rfl,R,aP.refl X⟩|p::l,st,st',e,X,a,R=>by
  simp only[sH]at e;split at e<;>try cases e
  rename_i v hv;split at e
  .split at e<;>try cases e
   rename_i t ht;split at e<;>try cases e
   rename_i T hT;have hX:=R.h;rw[<-hX]at ht;obtain⟨E,H'⟩:=aI.void R.H ht;have hg:=oc hT;have g0:=Tr.ca _ _ _ _ _ ht;obtain⟨X',h1,h2,h3⟩:=Gv e (X:=⟨bE X.s X.h.next .nil,⟨t,X.h.next+1⟩,X.w,X.A⟩) (a:=a) (by
    refine⟨by rw[hX],⟨R.T.size,R.T.defers,?_⟩,H'⟩;intro x u hu;rw[hg x]at hu;by_cases q:p.1=x
    .subst q;rw[if_pos rfl]at hu;cases hu;obtain⟨V,b1,b2⟩:=R.T.get _ _ hv;refine⟨V,b1,.nil,by rw[<-hX];exact dX _ _ _,?_,?_⟩
     .rw[show V=_ from b2];rfl
     .intro n' q;rw[<-hX]at q
      replace q:rowOf t X.h.next=some n':=q
      rw[iW (by rw[g0,if_pos rfl])]at q;cases q;rw[show V=_ from b2];rfl
    .rw[if_neg (by simpa using q)]at hu;obtain⟨V,b1,b2⟩:=R.T.get _ _ hu;exact⟨V,b1,b2.ext (E.dA R.H)⟩)
   exact⟨X',h1,h2,E.trans h3⟩
  .exact Gv e R
def ku(P:Program)(G:Cx->Prop)(base n:Nat)(x:Code){R:Type}(g:St->(Ex->St->Option R)->Option R):Prop:=∀st k r,g st k=some r->∃e st',k e st'=some r/\FN P G base n (.loop x) st e st'
theorem SF{X:Cx}{n:Nat}{T T':Tr AV}{c:Operand}{a:Act}{b:Bool}(R:jK X n T a)(hv:cH T c=some (.bool b))(h:BO T c b=some T'):jK X n T' a:=by
 unfold BO at h;split at h
 .rename_i t;refine⟨R.size,R.defers,?_⟩;intro u x hu;rw[Tr.ca _ _ _ _ _ h u]at hu;by_cases q:u=t
  .subst q;rw[if_pos rfl]at hu;cases hu;exact R.get u _ hv
  .rw[if_neg q]at hu;exact R.get u x hu
 .cases h;exact R
theorem rK{X:Cx}{n:Nat}{T:Tr AV}{a:Act}(R:jK X n T a){c:Operand}{v:AV}(hv:cH T c=some v):Rel X v (a.eval c):=by
 cases c with
 |tmp t=>obtain⟨V,h1,h2⟩:=R.get t v hv;simpa[Act.eval,Array.getD_eq_getD_getElem?,h1]using h2
 |const u=>exact Gu hv X|func f=>simp[cH]at hv;subst hv;exact⟨[],[],rfl,rfl,rfl⟩|global g=>simp[cH]at hv
theorem tw{R:Type}{G:Cx->Prop}{P:Program}(hm:P.follows .mixedOrders=true){sh:TypeId->Option Sh}{call:gC R}(hc:jq P call){loops:ka R}{base n:Nat} :
  ∀(c:Code),(∀x∈dC c,ku P G base n x (loops (jb x)))->∀(st:St) (k:Ex->St->Option R) (r:R),runK P sh call loops n c st k=some r->∃e st',k e st'=some r/\FN P G base n c st e st':=by
 intro c
 induction c with
 |skip=>intro hl st k r e;exact⟨.normal,st,e,fun X₀ X a hb H₀ hE RR Q hQ=>wp_skip (hQ X a RR hE)⟩|label l=>intro hl st k r e;exact⟨.normal,st,e,fun X₀ X a hb H₀ hE RR Q hQ=>wp_label (hQ X a RR hE)⟩|exit id=>intro hl st k r e;exact⟨.exit id,st,e,fun X₀ X a hb H₀ hE RR Q hQ=>wp_exit (hQ X a RR hE)⟩|ret=>intro hl st k r e;exact⟨.ret,st,e,fun X₀ X a hb H₀ hE RR Q hQ=>wp_ret (hQ X a RR hE)⟩|region id ops draw=>
  intro hl st k r e;simp only[runK]at e;cases draw with
  |false=>simp only[]at e;obtain⟨st',hk,S⟩:=S7 hc ops.toList 0 st (k .normal) r e (by intro j;simp);refine⟨.normal,st',hk,?_⟩;intro X₀ X a hb H₀ hE RR Q hQ;refine wp_region ?_;have:=S X a RR Q (fun X' a' R' E'=>hQ X' a' R' (hE.trans E'));rw[List.range_eq_range'];simpa using this
  |true=>simp only[]at e;obtain⟨st',hk,S⟩:=acD hm hc (base:=base) e id;exact⟨.normal,st',hk,S⟩
 |seq x y ihx ihy=>
  intro hl st k r e;simp only[runK]at e;obtain⟨e₁,st₁,hk,S⟩:=ihx (fun x h=>hl x (by simp[dC,h])) _ _ _ e;cases e₁ with
  |normal=>simp only[]at hk;obtain⟨e₂,st₂,hk₂,S₂⟩:=ihy (fun x h=>hl x (by simp[dC,h])) _ _ _ hk;refine⟨e₂,st₂,hk₂,?_⟩;intro X₀ X a hb H₀ hE RR Q hQ;exact wp_seq (S X₀ X a hb H₀ hE RR _ (fun X' a' R' E'=>S₂ X₀ X' a' hb H₀ E' R' Q hQ))
  |exit i=>simp only[]at hk;exact⟨_,_,hk,fun X₀ X a hb H₀ hE RR Q hQ=>wp_seq (S X₀ X a hb H₀ hE RR _ (fun X' a' R' E'=>hQ X' a' R' E'))⟩|ret=>simp only[]at hk;exact⟨_,_,hk,fun X₀ X a hb H₀ hE RR Q hQ=>wp_seq (S X₀ X a hb H₀ hE RR _ (fun X' a' R' E'=>hQ X' a' R' E'))⟩
 |cond c x y ihx ihy=>
  intro hl st k r e;simp only[runK]at e;split at e<;>try cases e
  rename_i v hv;split at e<;>try cases e
  rename_i b;rcases FO e with⟨rfl,e2⟩|⟨rfl,e2⟩
  .split at e2<;>try cases e2
   rename_i T hT;obtain⟨e₁,st₁,hk,S⟩:=ihx (fun x h=>hl x (by simp[dC,h])) _ _ _ e2;exact⟨e₁,st₁,hk,fun X₀ X a hb H₀ hE RR Q hQ=>wp_cond_true (rK RR.T hv) (S X₀ X a hb H₀ hE ⟨RR.h,SF RR.T hv hT,RR.H⟩ Q hQ)⟩
  .split at e2<;>try cases e2
   rename_i T hT;obtain⟨e₁,st₁,hk,S⟩:=ihy (fun x h=>hl x (by simp[dC,h])) _ _ _ e2;exact⟨e₁,st₁,hk,fun X₀ X a hb H₀ hE RR Q hQ=>wp_cond_false (rK RR.T hv) (S X₀ X a hb H₀ hE ⟨RR.h,SF RR.T hv hT,RR.H⟩ Q hQ)⟩
 |block id x ih=>
  intro hl st k r e;simp only[runK]at e;obtain⟨e₁,st₁,hk,S⟩:=ih (fun x h=>hl x (by simpa[dC]using h)) _ _ _ e;cases e₁ with
  |normal=>exact⟨_,_,hk,fun X₀ X a hb H₀ hE RR Q hQ=>wp_block (S X₀ X a hb H₀ hE RR _ (fun X' a' R' E'=>hQ X' a' R' E'))⟩|ret=>exact⟨_,_,hk,fun X₀ X a hb H₀ hE RR Q hQ=>wp_block (S X₀ X a hb H₀ hE RR _ (fun X' a' R' E'=>hQ X' a' R' E'))⟩|exit i=>
   simp only[]at hk;split at hk
   .rename_i q;have q:=Nat.eq_of_beq_eq_true q;refine⟨_,_,hk,fun X₀ X a hb H₀ hE RR Q hQ=>wp_block (S X₀ X a hb H₀ hE RR _ (fun X' a' R' E'=>?_))⟩;simp only[Ex.to,Exit.inBlock,if_pos q];exact hQ X' a' R' E'
   .rename_i q;have q:=Nat.ne_of_beq_eq_false q;refine⟨_,_,hk,fun X₀ X a hb H₀ hE RR Q hQ=>wp_block (S X₀ X a hb H₀ hE RR _ (fun X' a' R' E'=>?_))⟩;simp only[Ex.to,Exit.inBlock,if_neg q];exact hQ X' a' R' E'
 |loop x ih=>intro hl st k r e;simp only[runK]at e;exact hl x (by simp[dC]) st k r e|scope x ih=>intro hl st k r e;simp only[runK]at e;obtain⟨e₁,st₁,hk,S⟩:=ih (fun x h=>hl x (by simpa[dC]using h)) _ _ _ e;refine⟨e₁,st₁,hk,fun X₀ X a hb H₀ hE RR Q hQ=>wp_scope_straight (S X₀ X a hb H₀ hE RR _ (fun X' a' R' E'=>?_))⟩;have:=hQ X' a' R' E';cases e₁<;>exact this
 |_=>intro hl st k r e;simp[runK]at e
def jZ(w:World)(A:Nat->Prop):(l:List Sh)->TL l->List Value->Prop
 |[],_,vs=>vs=[]|σ::l,d,vs=>∃V r,vs=V::r/\iH w A σ d.1 V/\jZ w A l d.2 r
def ks:List Value->Value
 |[v]=>v|l=>.tuple (List.toArray l)
def o0:List AV->AV
 |[v]=>v|l=>.cg l
def wV:(l:List Sh)->TL l->List AV
 |[],_=>[]|σ::l,d=>y4 σ d.1::wV l d.2
theorem wG{X:Cx}:∀{l:List Sh}{d:TL l}{vs:List Value},jZ X.w X.out l d vs->bk X (wV l d) vs
 |[],_,vs,h=>h|σ::l,d,vs,⟨V,r,e,h1,h2⟩=>⟨V,r,e,DE h1,wG h2⟩
theorem jZ.aX{w w':World}{A A':Nat->Prop}(K:iu w A w' A'):∀{l:List Sh}{d:TL l}{vs:List Value},jZ w A l d vs->jZ w' A' l d vs
 |[],_,vs,h=>h|σ::l,d,vs,⟨V,r,e,h1,h2⟩=>⟨V,r,e,h1.aX K,h2.aX K⟩
def k8(kl:Bool)(h:Hp):(l:List Sh)->List AV->Option (TL l×Hp)
 |[],vs=>match vs with|[]=>some ((),h)|_=>none
 |σ::l,vs=>match vs with
  |v::vs=>match qn kl h σ v with
   |some (d,h)=>match k8 kl h l vs with|some (e,h)=>some ((d,e),h)|none=>none
   |none=>none
  |[]=>none
theorem ux{kl:Bool}:∀{l:List Sh}{X:Cx}(H:aI X) {vs:List AV}{d:TL l}{h':Hp},k8 kl X.h l vs=some (d,h')->∀{cs:List Value},bk X vs cs ->
  ef X h'/\jZ X.w (Cx.out ⟨X.s,h',X.w,X.A⟩) l d cs
 |[],X,H,vs,d,h',e,cs,R=>by simp only[k8]at e;split at e<;>cases e;exact⟨ef.refl H,R⟩
 |σ::l,X,H,vs,d,h',e,cs,R=>by
  simp only[k8]at e;split at e<;>try cases e
  rename_i v vs;split at e<;>try cases e
  rename_i d₁ h₁ e₁;split at e<;>cases e;rename_i d₂ e₂;obtain⟨V,r,rfl,R1,R2⟩:=R;obtain⟨F₁,o₁⟩:=GN H e₁ R1;obtain⟨F₂,o₂⟩:=ux (X:=⟨X.s,h₁,X.w,X.A⟩) F₁.H e₂ (R2.ext (F₁.E.dA H));exact⟨F₁.trans F₂,V,r,rfl,o₁.aX F₂.E.keeps,o₂⟩
def Comes(P:Program)(f:FuncId)(σs τs:List Sh)(F:TL σs->Option (TL τs)):Prop:=
 (∃fn c,P.funcs[f]?=some fn/\(fn.name == "runtime.NumGoroutine")=false/\fn.body=some c) /\
 ∀d x,F d=some x->∀(w:World) (A:Nat->Prop) (args:List Value),(∀b,A b->b<w.heap.size)->jZ w A σs d args ->
  Calls P f (List.toArray args) w fun e w'=>∃vs,e=.returned (ks vs)/\Below w.heap.size w w'/\jZ w' A τs x vs
def ar{α R:Type}(x:Option α)(k:α->Option R):Option R:=match x with|some a=>k a|none=>none
theorem uJ{α R:Type}{x:Option α}{k:α->Option R}{r:R}(h:ar x k=some r):∃a,x=some a/\k a=some r:=by
 cases x with
 |none=>cases h
 |some a=>exact⟨a,rfl,h⟩
structure Spec where
 σs:List Sh
 τs:List Sh
 F:TL σs->Option (TL τs)
abbrev ue:=FuncId->Option Spec
def GK(P:Program)(S:ue):Prop:=∀f s,S f=some s->Comes P f s.σs s.τs s.F
mutual
def plain:Sh->Bool
 |.sl _=>false|.agg l=>pt l|_=>true
termination_by structural x=>x
def pt:List Sh->Bool
 |[]=>true|s::l=>match plain s with|true=>pt l|false=>false
termination_by structural x=>x
end
mutual
theorem y2{w w':World}{A A':Nat->Prop}:∀{σ:Sh}{d:σ.T}{cs:List Value},plain σ=true->Cs w A σ d cs->Cs w' A' σ d cs
 |.int k,n,cs,_,h=>h|.bool,b,cs,_,h=>h|.str,s,cs,_,h=>h|.agg l,d,cs,hp,h=>SM (l:=l) hp h|.sl s,L,cs,hp,h=>by cases hp
theorem SM{w w':World}{A A':Nat->Prop}:∀{l:List Sh}{d:TL l}{cs:List Value},pt l=true->fQ w A l d cs->fQ w' A' l d cs
 |[],_,cs,_,h=>h|s::l,d,cs,hp,⟨c,r,e,h1,h2⟩=>by
  simp only[pt]at hp;split at hp<;>try cases hp
  rename_i hs;exact⟨c,r,e,y2 hs h1,SM hp h2⟩
end
theorem Zyd{w w':World}{A A':Nat->Prop}:∀{l:List Sh}{d:TL l}{vs:List Value},pt l=true->jZ w A l d vs->jZ w' A' l d vs
 |[],_,vs,_,h=>h|s::l,d,vs,hp,⟨V,r,e,h1,h2⟩=>by
  simp only[pt]at hp;split at hp<;>try cases hp
  rename_i hs;exact⟨V,r,e,⟨y2 hs h1.1,h1.2⟩,Zyd hp h2⟩
def Gf{R:Type}(S:ue):gC R:=fun f vs h k=>match S f with
 |some s=>match k8 (pt s.τs) h s.σs vs with|some (d,_)=>ar (s.F d) fun x=>k false (o0 (wV s.τs x)) h|none=>match k8 true h s.σs vs with|some (d,h')=>ar (s.F d) fun x=>k true (o0 (wV s.τs x)) h'|none=>none
 |none=>none
mutual
theorem S5{h:Hp}:∀{σ:Sh}{l:List AV}{d:σ.T}{r:List AV}{h':Hp},dJ false h σ l=some (d,r,h')->h'=h
 |.int k,l,d,r,h',e=>by
  simp only[dJ]at e;split at e<;>try cases e
  split at e<;>cases e;rfl
 |.bool,l,d,r,h',e=>by simp only[dJ]at e;split at e<;>cases e;rfl
 |.str,l,d,r,h',e=>by simp only[dJ]at e;split at e<;>cases e;rfl
 |.agg ss,l,d,r,h',e=>Zyp (ss:=ss) e|.sl s,l,d,r,h',e=>by
  simp only[dJ]at e;split at e<;>try cases e
  .rfl
  .split at e<;>cases e;rfl
  .split at e<;>try cases e
   split at e<;>try cases e
   contradiction
  .split at e<;>try cases e
   split at e<;>try cases e
   contradiction
theorem Zyp{h:Hp}:∀{ss:List Sh}{l:List AV}{d:TL ss}{r:List AV}{h':Hp},jQ false h ss l=some (d,r,h')->h'=h
 |[],l,d,r,h',e=>by simp only[jQ,Option.some.injEq]at e;cases e;rfl
 |s::ss,l,d,r,h',e=>by
  simp only[jQ]at e;split at e<;>try cases e
  rename_i d₁ r₁ h₁ e₁;split at e<;>cases e;rename_i e₂;have:=S5 e₁;subst this;exact Zyp e₂
end
theorem Zyq{h:Hp}:∀{l:List Sh}{vs:List AV}{d:TL l}{h':Hp},k8 false h l vs=some (d,h')->h'=h
 |[],vs,d,h',e=>by simp only[k8]at e;split at e<;>cases e;rfl
 |σ::l,vs,d,h',e=>by
  simp only[k8]at e;split at e<;>try cases e
  rename_i v vs;split at e<;>try cases e
  rename_i d₁ h₁ e₁;split at e<;>cases e;rename_i e₂;have:h₁=h:=by
   unfold qn at e₁;split at e₁
   case h_3=>cases e₁
   all_goals
    split at e₁<;>try cases e₁
    rename_i e₃;split at e₁<;>cases e₁;exact S5 e₃
  subst this;exact Zyq e₂
theorem yZ{X:Cx}:∀{l:List AV}{cs:List Value},bk X l cs->Rel X (o0 l) (ks cs)
 |[],cs,h=>by rw[show cs=[]from h];exact⟨[],rfl,rfl⟩|[v],cs,⟨V,r,e,h1,h2⟩=>by rw[show r=[]from h2]at e;rw[e];exact h1|v::u::l,cs,⟨V,r,e,h1,⟨V',r',e',h2,h3⟩⟩=>by subst e';subst e;exact⟨V::V'::r',rfl,V,V'::r',rfl,h1,V',r',rfl,h2,h3⟩
theorem ada{R:Type}{P:Program}{S:ue}(hS:GK P S):jq P (Gf (R:=R) S):=by
 intro f vs h k r e;unfold Gf at e;split at e<;>try cases e
 rename_i s hs;obtain⟨hf,hp⟩:=hS f s hs;split at e
 case h_2=>
  split at e<;>try cases e
  rename_i d h' hd;obtain⟨x,hx,hk⟩:=uJ e;refine⟨true,_,h',hk,(fun q=>by cases q),hf,?_⟩;intro X args hX H hR;subst hX;obtain⟨F,hA⟩:=ux H hd hR;refine(hp d x hx X.w (Cx.out ⟨X.s,h',X.w,X.A⟩) args (fun b hb=>hb.elim (F.H.alt b) F.H.uI) hA).mono ?_;rintro e w' ⟨us,rfl,B,hA'⟩;have E:aP ⟨X.s,h',X.w,X.A⟩ ⟨X.s,h',w',X.A⟩:=⟨B.os,B.tape,B.output,B.size,fun _ _ h=>h,fun _ _ _ h=>h,Nat.le_refl _,fun b hb _=>B.block b hb,fun b h=>.inl h,fun j n _ h=>h,fun _ _ _=>rfl,rfl⟩;refine⟨⟨X.s,h',w',X.A⟩,ks us,rfl,rfl,rfl,?_,F.E.trans E,yZ (wG hA')⟩;refine⟨?_,F.H.inj,F.H.lt,F.H.cD,fun b hb=>Nat.lt_of_lt_of_le (F.H.alt b hb) B.size,F.H.loc⟩;intro i o l h1 h2;refine(F.H.obj i o l h1 h2).ext (E.dA F.H) ?_;intro b hb;exact B.block b (F.H.iq h1 h2 hb)
 rename_i d h' hd;obtain⟨x,hx,hk⟩:=uJ e;refine⟨false,_,h,hk,fun _=>dL.refl h,hf,?_⟩;intro X args hX H hR;subst hX;obtain⟨F,hA⟩:=ux H hd hR;have hout:∀b,Cx.out ⟨X.s,h',X.w,X.A⟩ b->X.out b:=by
  rintro b (q|⟨i,o,c,h1,h2⟩)
  .exact .inl q
  .exact .inr ⟨i,o,c,F.sub i o h1,h2⟩
 refine(hp d x hx X.w (Cx.out ⟨X.s,h',X.w,X.A⟩) args (fun b hb=>(hout b hb).elim (H.alt b) H.uI) hA).mono ?_;rintro e w' ⟨us,rfl,B,hA'⟩;have hw:∀b o,X.w.heap[b]?=some o->w'.heap[b]?=some o:=fun b o q=>by rw[B.block b (ej q)];exact q
 have E:aP X ⟨X.s,X.h,w',X.A⟩:=⟨B.os,B.tape,B.output,B.size,fun _ _ h=>h,fun _ _ _ h=>h,Nat.le_refl _,fun b hb _=>B.block b hb,fun b h=>.inl h,fun j n _ h=>h,fun _ _ _=>rfl,rfl⟩;have hA'':jZ w' X.out s.τs x us:=by cases hpl:pt s.τs with|true=>exact Zyd hpl hA'|false=>rw[hpl]at hd;have:=Zyq hd;subst this;exact hA'
 refine⟨⟨X.s,X.h,w',X.A⟩,ks us,rfl,rfl,rfl,?_,E,yZ (wG hA'')⟩;refine⟨?_,H.inj,H.lt,H.cD,fun b hb=>Nat.lt_of_lt_of_le (H.alt b hb) B.size,H.loc⟩;intro i o l h1 h2;refine(H.obj i o l h1 h2).ext (E.dA H) ?_;intro b hb;exact B.block b (H.iq h1 h2 hb)
def jX(n:Nat):List AV->Nat->Tr AV->Option (Tr AV)
 |[],_,T=>some T|v::l,i,T=>match fl n T (some i) v with|some T=>jX n l (i+1) T|none=>none
theorem Zpk{n:Nat}:∀{vs:List AV}{i:Nat}{T T':Tr AV},jX n vs i T=some T'->∀t v,T'.get t=some v->(i<=t/\vs[t-i]?=some v)\/T.get t=some v
 |[],i,T,T',h,t,v,hv=>by simp[jX]at h;subst h;exact .inr hv|x::l,i,T,T',h,t,v,hv=>by
  simp only[jX]at h;split at h<;>try cases h
  rename_i T₁ h₁;rcases Zpk h t v hv with⟨hi,hl⟩|hT
  .left;refine⟨by omega,?_⟩;rw[show t-i=(t-(i+1))+1 by omega];simpa using hl
  .rw[oc h₁ t]at hT;by_cases q:i=t
   .subst q;simp at hT;subst hT;left;simp
   .rw[if_neg (by simpa using q)]at hT;exact .inr hT
theorem SZ{n:Nat}:∀{vs:List AV}{i:Nat}{T T':Tr AV},jX n vs i T=some T'->vs=[]\/i+vs.length<=n
 |[],i,T,T',h=>.inl rfl|x::l,i,T,T',h=>by
  right;simp only[jX]at h;split at h<;>try cases h
  rename_i T₁ h₁;have:i+1<=n:=Gz h₁;rcases SZ h with q|q
  .subst q;simp;omega
  .simp;omega
theorem sZ{X:Cx}(H:aI X){n:Nat}{vs:List AV}{T:Tr AV}(h:jX n vs 0 .nil=some T){args:List Value}(R:bk X vs args) :
  RF X n ⟨T,X.h⟩ { tmps:=List.toArray args++Array.replicate (n-(List.toArray args).size) undef,defers:=[] }:=by
 have hL:=R.length;have hn:args.length<=n:=by
  rcases SZ h with q|q
  .subst q;simp at hL;simp[hL]
  .omega
 refine⟨rfl,⟨by simp;omega,rfl,?_⟩,H⟩;intro t u hu;rcases Zpk h t u hu with⟨_,h1⟩|h1
 .simp only[Nat.sub_zero]at h1;obtain⟨V,h2,h3⟩:=R.get h1;refine⟨V,?_,h3⟩;have hlt:t<args.length:=by
   rcases Nat.lt_or_ge t args.length with q|q
   .exact q
   .rw[List.getElem?_eq_none q]at h2;cases h2
  rw[Array.getElem?_append_left (by simpa using hlt)];simpa using h2
 .simp[Tr.get]at h1
def kG(P:Program)(st:St):List ResultVar->Option (List AV)
 |[]=>some []|r::l=>match(match r with
   |.tmp t=>st.T.get t|.cell a t=>match st.T.get a with
    |some u=>match qG P st.h t u with|some (true,v)=>some v|_=>none
    |none=>none)with
  |some v=>match kG P st l with|some vs=>some (v::vs)|none=>none
  |none=>none
theorem agy{X:Cx}{P:Program}{u v:AV}{U V:Value}{t:TypeId}(H:aI X)(e:qG P X.h t u=some (true,v))(R:Rel X u U)(hr:(Instr.loadAt t U).run P X.w=.ok V X.w) :
  (do loadVar t (<- asAddr U):Sem Value).run P X.w=.ok V X.w:=by
 unfold qG at e;split at e<;>try cases e
 rename_i g l o hc;split at e<;>try cases e
 obtain⟨b,off,c,ty,fr,cs,rfl,h1,h2,h3⟩:=Zxc H hc rfl R;simp only[Instr.loadAt,Instr.sureAddr,asAddr,Sem.run_bind,Sem.run_pure,Result.andThen_ok]at hr |-;exact hr
theorem Ztb{P:Program}{st:St}{X:Cx}{n:Nat}{a:Act}(R:RF X n st a)(f:ResultVar->Sem Value)
  (hf:∀r,f r=match r with|.tmp t=>pure (a.tmps.getD t undef)|.cell x t=>do loadVar t (<- asAddr (a.tmps.getD x undef))) :
  ∀{l:List ResultVar}{vs:List AV},kG P st l=some vs->∃Vs,(l.mapM f).run P X.w=.ok Vs X.w/\bk X vs Vs
 |[],vs,h=>by simp[kG]at h;subst h;exact⟨[],rfl,rfl⟩|r::l,vs,h=>by
  simp only[kG]at h;split at h<;>try cases h
  rename_i v hv;split at h<;>try cases h
  rename_i vs' hl;obtain⟨Vs,ih,hR⟩:=Ztb R f hf hl;have h1:∃V,(f r).run P X.w=.ok V X.w/\Rel X v V:=by
   rw[hf r];cases r with
   |tmp t=>obtain⟨V,g1,g2⟩:=R.T.get t v hv;exact⟨V,by simp[Array.getD_eq_getD_getElem?,g1],g2⟩
   |cell x t=>
    simp only[]at hv |-;split at hv<;>try cases hv
    rename_i u hu;split at hv<;>cases hv;rename_i hv;obtain⟨U,g1,g2⟩:=R.T.get x u hu;have hX:=R.h;rw[<-hX]at hv;obtain⟨V,hr,hR⟩:=Zpo R.H hv rfl g2;refine⟨V,?_,hR⟩;have hx':a.tmps.getD x undef=U:=by simp[Array.getD_eq_getD_getElem?,g1]
    rw[hx'];exact agy R.H hv g2 hr
  obtain⟨V,h1,h2⟩:=h1;refine⟨V::Vs,?_,V,Vs,rfl,h2,hR⟩;rw[List.mapM_cons];simp only[Sem.run_bind,h1,Result.andThen_ok,ih,Sem.run_pure]
theorem Dx{P:Program}{st:St}{X:Cx}{n:Nat}{a:Act}(R:RF X n st a){fn:Func}{vs:List AV}(h:kG P st fn.results.toList=some vs) :
  ∃Vs,(results fn a.tmps).run P X.w=.ok (ks Vs) X.w/\bk X vs Vs:=by
 obtain⟨Vs,h1,hR⟩:=Ztb R _ (fun r=>rfl) h;refine⟨Vs,?_,hR⟩;unfold results;rw[Sem.run_bind,Array.mapM_eq_mapM_toList,Sem.run_map];have h2:(List.mapM (fun x=>match x with|.tmp t=>pure (a.tmps.getD t undef)|.cell x t=>do loadVar t (<- asAddr (a.tmps.getD x undef)):ResultVar->Sem Value) fn.results.toList).run P X.w=.ok Vs X.w:=h1;refine(congrArg (fun r=>((Result.andThen r _).andThen _)) h2).trans ?_;simp only[Result.andThen_ok,Sem.run_pure];congr 1
 match Vs with|[]=>simp[ks]|[v]=>simp[ks]|u::v::l=>simp[ks]
inductive LA where
 |int (k:IntKind)
 |bool
 |str
 |fz (τ:Sh)
 |di
 |bz
 |dR
 |dK
 |eJ
 |iZ
 |dz (τ:Sh)
 |eO (σ:Sh) (o:Nat)
 |dw (b z o:Nat)
 |rp (b:Nat)
 |ptr (b off:Nat)
 |hd (b:Nat) (τ:Sh)
 |mp (b:Nat)
 |cT (b:Nat)
 |func (f:FuncId) (x c:List LA)
 |agg (l:List LA)
 |cg (l:List LA)
mutual
def σA:LA->List Sh->List Sh
 |.int k,r=>.int k::r|.bool,r=>.bool::r|.str,r=>.str::r|.fz τ,r=>.sl τ::r|.di,r=>r|.bz,r=>r|.dR,r=>r|.dK,r=>r|.eJ,r=>r|.iZ,r=>r|.dz τ,r=>.bool::.sl τ::r|.eO σ _,r=>σ::r|.dw _ _ _,r=>.int .i64::r|.rp _,r=>.int .i64::r|.ptr _ _,r=>r|.hd _ _,r=>r|.mp _,r=>r|.cT _,r=>r|.func _ x c,r=>gg x (gg c r)|.agg l,r=>gg l r|.cg l,r=>gg l r
termination_by structural x=>x
def gg:List LA->List Sh->List Sh
 |[],r=>r|a::l,r=>σA a (gg l r)
termination_by structural x=>x
end
mutual
def mX:(a:LA)->(r:List Sh)->TL (σA a r)->AV×TL r
 |.int k,r,d=>(.int k d.1,d.2)|.bool,r,d=>(.bool d.1,d.2)|.str,r,d=>(.str d.1,d.2)|.fz τ,r,d=>(.fz τ d.1,d.2)|.di,r,d=>(.di,d)|.bz,r,d=>(.bz,d)|.dR,r,d=>(.dR,d)|.dK,r,d=>(.dK,d)|.eJ,r,d=>(.eJ,d)|.iZ,r,d=>(.iZ,d)|.dz τ,r,d=>(.dz τ d.1 d.2.1,d.2.2)|.eO σ o,r,d=>(.eO σ d.1 o,d.2)|.dw b z o,r,d=>(.dw b (Int.toNat d.1) z o,d.2)|.rp b,r,d=>(.rp b (Int.toNat d.1),d.2)|.ptr b o,r,d=>(.ptr b o,d)|.hd b τ,r,d=>(.hd b τ,d)|.mp b,r,d=>(.mp b,d)|.cT b,r,d=>(.cT b,d)|.func f x c,r,d=>(.func f (gF x (gg c r) d).1 (gF c r (gF x (gg c r) d).2).1,(gF c r (gF x (gg c r) d).2).2)|.agg l,r,d=>(.agg (gF l r d).1,(gF l r d).2)|.cg l,r,d=>(.cg (gF l r d).1,(gF l r d).2)
termination_by structural x=>x
def gF:(l:List LA)->(r:List Sh)->TL (gg l r)->List AV×TL r
 |[],r,d=>([],d)|a::l,r,d=>((mX a (gg l r) d).1::(gF l r (mX a (gg l r) d).2).1,(gF l r (mX a (gg l r) d).2).2)
termination_by structural x=>x
end
def YU(k:IntKind):AV->Option Int
 |.int k' n=>match Nat.beq (Ev.IntKind.num k') (Ev.IntKind.num k)with|true=>some n|false=>none
 |_=>none
def Sc:AV->Option Bool
 |.bool b=>some b|_=>none
def YY:AV->Option ByteArray
 |.str s=>some s|_=>none
def gFz(τ:Sh):AV->Option (List τ.T)
 |.fz τ' L=>match e:τ'.eqv τ with|true=>some (jd e L)|false=>none
 |.bz=>some []|_=>none
def afy{σ τ:Sh}(h:σ.eqv τ=true)(d:σ.T):τ.T:=Sh.ed h▸d
def Li(σ:Sh)(o:Nat):AV->Option σ.T
 |.eO σ' d o'=>match e:σ'.eqv σ,Nat.beq o' o with|true,true=>some (afy e d)|_,_=>none
 |_=>none
theorem acN{σ:Sh}{o:Nat}{v:AV}{d:σ.T}(h:Li σ o v=some d){X:Cx}{V:Value}(R:Rel X v V):Rel X (.eO σ d o) V:=by
 unfold Li at h;split at h<;>try cases h
 rename_i σ' d' o';split at h<;>try cases h
 rename_i e q;have q:=Nat.eq_of_beq_eq_true q;subst q;obtain rfl:=Sh.ed e;exact R
def sx:LA->AV->Bool
 |.di,v=>match v with|.di=>true|_=>false
 |.bz,v=>match v with|.bz=>true|_=>false
 |.dR,v=>match v with|.dR=>true|_=>false
 |.dK,v=>match v with|.dK=>true|_=>false
 |.eJ,v=>match v with|.eJ=>true|_=>false
 |_,_=>false
def FZ(b z o:Nat):AV->Option Int
 |.dw b' i z' o'=>match Nat.beq b' b,Nat.beq z' z,Nat.beq o' o with|true,true,true=>some (Int.ofNat i)|_,_,_=>none
 |_=>none
def Ou(b:Nat):AV->Option Int
 |.rp b' i=>match Nat.beq b' b with|true=>some (Int.ofNat i)|_=>none
 |_=>none
theorem adL{b:Nat}{v:AV}{n:Int}(h:Ou b v=some n):v=.rp b n.toNat:=by
 unfold Ou at h;split at h<;>try cases h
 split at h<;>cases h;rename_i h1;rw[Nat.eq_of_beq_eq_true h1];rfl
theorem alp{b z o:Nat}{v:AV}{n:Int}(h:FZ b z o v=some n):v=.dw b n.toNat z o:=by
 unfold FZ at h;split at h<;>try cases h
 split at h<;>cases h;rename_i h1 h2 h3;rw[Nat.eq_of_beq_eq_true h1,Nat.eq_of_beq_eq_true h2,Nat.eq_of_beq_eq_true h3];rfl
def YW(b o:Nat):AV->Bool
 |.ptr b' o'=>match Nat.beq b' b with|true=>Nat.beq o' o|false=>false
 |_=>false
def gHd(b:Nat):AV->Bool
 |.hd b' _=>Nat.beq b' b|_=>false
def gMp(b:Nat):AV->Bool
 |.mp b'=>Nat.beq b' b|_=>false
def YX(b:Nat):AV->Bool
 |.cT b'=>Nat.beq b' b|_=>false
def Sd(f:FuncId):AV->Option (List AV×List AV)
 |.func f' x c=>match Nat.beq f' f with|true=>some (x,c)|false=>none
 |_=>none
def YS:AV->Option (List AV)
 |.agg l=>some l|_=>none
def YZ:AV->Option (List AV)
 |.cg l=>some l|_=>none
def lT{α β:Type}(x:Option α)(d:β):Option (α×β):=match x with|some a=>some (a,d)|none=>none
def mu{β:Type}(x:Bool)(d:β):Option β:=match x with|true=>some d|false=>none
theorem ni{α β:Type}{x:Option α}{d:β}{y:α×β}(h:lT x d=some y):x=some y.1/\y.2=d:=by
 cases x with
 |none=>cases h
 |some a=>cases h;exact⟨rfl,rfl⟩
theorem ng{β:Type}{x:Bool}{d y:β}(h:mu x d=some y):x=true/\y=d:=by
 cases x with
 |false=>cases h
 |true=>cases h;exact⟨rfl,rfl⟩
mutual
def sy:(a:LA)->(r:List Sh)->AV->TL r->Option (TL (σA a r))
 |.int k,r,v,d=>lT (YU k v) d|.bool,r,v,d=>lT (Sc v) d|.str,r,v,d=>lT (YY v) d|.fz τ,r,v,d=>lT (gFz τ v) d|.di,r,v,d=>mu (sx .di v) d|.bz,r,v,d=>mu (sx .bz v) d|.dR,r,v,d=>mu (sx .dR v) d|.dK,r,v,d=>mu (sx .dK v) d|.eJ,r,v,d=>mu (sx .eJ v) d|.iZ,r,v,d=>mu (one v) d|.dz τ,r,v,d=>none|.eO σ o,r,v,d=>lT (Li σ o v) d|.dw b z o,r,v,d=>lT (FZ b z o v) d|.rp b,r,v,d=>lT (Ou b v) d|.ptr b o,r,v,d=>mu (YW b o v) d|.hd b τ,r,v,d=>mu (gHd b v) d|.mp b,r,v,d=>mu (gMp b v) d|.cT b,r,v,d=>mu (YX b v) d|.func f x c,r,v,d=>match Sd f v with
  |some p=>match kP c r p.2 d with|some d=>kP x (gg c r) p.1 d|none=>none
  |none=>none
 |.agg l,r,v,d=>match YS v with|some l'=>kP l r l' d|none=>none
 |.cg l,r,v,d=>match YZ v with|some l'=>kP l r l' d|none=>none
termination_by structural x=>x
def kP:(l:List LA)->(r:List Sh)->List AV->TL r->Option (TL (gg l r))
 |[],r,vs,d=>match vs with|[]=>some d|_=>none
 |a::l,r,vs,d=>match vs with
  |v::vs=>match kP l r vs d with|some d=>sy a (gg l r) v d|none=>none
  |[]=>none
termination_by structural x=>x
end
theorem wJ{a:LA}{v:AV}(h:sx a v=true)(X:Cx)(V:Value)(R:Rel X v V)(r:List Sh)(d:TL (σA a r)):Rel X (mX a r d).1 V:=by cases a<;>cases v<;>first|exact R|cases h
mutual
theorem TD:∀(a:LA) (r:List Sh) (v:AV) (d:TL r) (d':TL (σA a r)),sy a r v d=some d'->(mX a r d').2=d/\∀X V,Rel X v V->Rel X (mX a r d').1 V
 |.int k,r,v,d,d',e=>by
  obtain⟨h1,h2⟩:=ni (y:=d') e;refine⟨h2,fun X V h=>?_⟩;unfold YU at h1;split at h1
  .split at h1
   .rename_i hk;have hk:=Ev.IntKind.tf (Nat.eq_of_beq_eq_true hk);subst hk;have h1:=Option.some.inj h1;show V=.int _ d'.1;rw[<-h1];exact h
   .exact absurd h1 (by simp)
  .exact absurd h1 (by simp)
 |.bool,r,v,d,d',e=>by
  obtain⟨h1,h2⟩:=ni (y:=d') e;refine⟨h2,fun X V h=>?_⟩;unfold Sc at h1;split at h1
  .have h1:=Option.some.inj h1;show V=.bool d'.1;rw[<-h1];exact h
  .exact absurd h1 (by simp)
 |.str,r,v,d,d',e=>by
  obtain⟨h1,h2⟩:=ni (y:=d') e;refine⟨h2,fun X V h=>?_⟩;unfold YY at h1;split at h1
  .have h1:=Option.some.inj h1;show V=.string d'.1;rw[<-h1];exact h
  .exact absurd h1 (by simp)
 |.fz τ,r,v,d,d',e=>by
  obtain⟨h1,h2⟩:=ni (y:=d') e;refine⟨h2,fun X V h=>?_⟩;unfold gFz at h1;show Cs X.w X.out (.sl τ) d'.1 [V];split at h1
  .split at h1
   .rename_i he;have h1:=Option.some.inj h1;rw[<-h1];exact DM he h
   .exact absurd h1 (by simp)
  .have h1:=Option.some.inj h1;rw[<-h1,show V=_ from h];exact⟨none,0,0,rfl,rfl,Nat.le_refl _,fun q=>absurd rfl q⟩
  .exact absurd h1 (by simp)
 |.di,r,v,d,d',e=>by obtain⟨h1,h2⟩:=ng (y:=d') e;exact⟨h2,fun X V h=>wJ h1 X V h r d'⟩
 |.bz,r,v,d,d',e=>by obtain⟨h1,h2⟩:=ng (y:=d') e;exact⟨h2,fun X V h=>wJ h1 X V h r d'⟩
 |.dR,r,v,d,d',e=>by obtain⟨h1,h2⟩:=ng (y:=d') e;exact⟨h2,fun X V h=>wJ h1 X V h r d'⟩
 |.dK,r,v,d,d',e=>by obtain⟨h1,h2⟩:=ng (y:=d') e;exact⟨h2,fun X V h=>wJ h1 X V h r d'⟩
 |.eJ,r,v,d,d',e=>by obtain⟨h1,h2⟩:=ng (y:=d') e;exact⟨h2,fun X V h=>wJ h1 X V h r d'⟩
 |.iZ,r,v,d,d',e=>by obtain⟨h1,h2⟩:=ng (y:=d') e;exact⟨h2,fun X V h=>T5 h1 h⟩
 |.dz τ,r,v,d,d',e=>by cases e
 |.eO σ o,r,v,d,d',e=>by obtain⟨h1,h2⟩:=ni (y:=d') e;exact⟨h2,fun X V h=>acN h1 h⟩
 |.dw b z o,r,v,d,d',e=>by obtain⟨h1,h2⟩:=ni (y:=d') e;refine⟨h2,fun X V h=>?_⟩;have:=alp h1;subst this;exact h
 |.rp b,r,v,d,d',e=>by obtain⟨h1,h2⟩:=ni (y:=d') e;refine⟨h2,fun X V h=>?_⟩;have:=adL h1;subst this;exact h
 |.ptr b o,r,v,d,d',e=>by
  obtain⟨h1,h2⟩:=ng (y:=d') e;refine⟨h2,fun X V h=>?_⟩;unfold YW at h1;split at h1
  .split at h1
   .rename_i q;have q:=Nat.eq_of_beq_eq_true q;have h1:=Nat.eq_of_beq_eq_true h1;subst q;subst h1;exact h
   .cases h1
  .cases h1
 |.hd b τ,r,v,d,d',e=>by
  obtain⟨h1,h2⟩:=ng (y:=d') e;refine⟨h2,fun X V h=>?_⟩;unfold gHd at h1;split at h1
  .have h1:=Nat.eq_of_beq_eq_true h1;subst h1;exact h
  .cases h1
 |.mp b,r,v,d,d',e=>by
  obtain⟨h1,h2⟩:=ng (y:=d') e;refine⟨h2,fun X V h=>?_⟩;unfold gMp at h1;split at h1
  .have h1:=Nat.eq_of_beq_eq_true h1;subst h1;exact h
  .cases h1
 |.cT b,r,v,d,d',e=>by
  obtain⟨h1,h2⟩:=ng (y:=d') e;refine⟨h2,fun X V h=>?_⟩;unfold YX at h1;split at h1
  .have h1:=Nat.eq_of_beq_eq_true h1;subst h1;exact h
  .cases h1
 |.func f x c,r,v,d,d',e=>by
  unfold sy at e;split at e<;>try cases e
  rename_i p hp;split at e<;>try cases e
  rename_i d₁ h₁;obtain⟨a1,a2⟩:=qH c r p.2 d d₁ h₁;obtain⟨b1,b2⟩:=qH x (gg c r) p.1 d₁ d' e;refine⟨by show(gF c r (gF x (gg c r) d').2).2=d;rw[b1,a1],?_⟩;intro X V h;unfold Sd at hp;split at hp<;>try cases hp
  split at hp<;>cases hp;rename_i q;have q:=Nat.eq_of_beq_eq_true q;subst q;obtain⟨xs,cs,h1,h2,h3⟩:=h;refine⟨xs,cs,h1,b2 X _ h2,?_⟩;rw[b1];exact a2 X _ h3
 |.agg l,r,v,d,d',e=>by
  unfold sy at e;split at e<;>try cases e
  rename_i p hp;obtain⟨a1,a2⟩:=qH l r p d d' e;refine⟨a1,?_⟩;intro X V h;unfold YS at hp;split at hp<;>cases hp;obtain⟨cs,h1,h2⟩:=h;exact⟨cs,h1,a2 X _ h2⟩
 |.cg l,r,v,d,d',e=>by
  unfold sy at e;split at e<;>try cases e
  rename_i p hp;obtain⟨a1,a2⟩:=qH l r p d d' e;refine⟨a1,?_⟩;intro X V h;unfold YZ at hp;split at hp<;>cases hp;obtain⟨cs,h1,h2⟩:=h;exact⟨cs,h1,a2 X _ h2⟩
theorem qH:∀(l:List LA) (r:List Sh) (vs:List AV) (d:TL r) (d':TL (gg l r)),kP l r vs d=some d'->(gF l r d').2=d/\∀X cs,bk X vs cs->bk X (gF l r d').1 cs
 |[],r,vs,d,d',e=>by
  unfold kP at e;split at e
  .have e:d=d':=Option.some.inj e;exact⟨e.symm,fun X V h=>h⟩
  .cases e
 |a::l,r,vs,d,d',e=>by
  unfold kP at e;split at e<;>try cases e
  rename_i v vs;split at e<;>try cases e
  rename_i d₁ h₁;obtain⟨a1,a2⟩:=qH l r vs d d₁ h₁;obtain⟨b1,b2⟩:=TD a (gg l r) v d₁ d' e;refine⟨by show(gF l r (mX a (gg l r) d').2).2=d;rw[b1,a1],?_⟩;rintro X cs ⟨V,t,rfl,h1,h2⟩;refine⟨V,t,rfl,b2 X V h1,?_⟩;show bk X (gF l r (mX a (gg l r) d').2).1 t;rw[b1];exact a2 X _ h2
end
inductive LO where
 |cells (l:List LA) (ty:TypeId)
 |arr (τ:Sh) (ty:TypeId)
 |map (κ:IntKind) (σ:Sh)
 |cQ (ty:TypeId)
 |du (τ:Sh) (l:List LA) (ty:TypeId)
def afT:Sh:=.agg [.int .i64,.int .i64,.sl (.agg [.int .u64,.int .u64])]
def σO:LO->List Sh->List Sh
 |.cells l _,r=>gg l r|.arr τ _,r=>.sl τ::r|.map κ σ,r=>.sl (.agg [.int κ,σ])::r|.cQ _,r=>.sl afT::r|.du τ l _,r=>.int .i64::.sl τ::gg l r
def sB:(o:LO)->(r:List Sh)->TL (σO o r)->bc×TL r
 |.cells l ty,r,d=>(.cells (gF l r d).1 ty,(gF l r d).2)|.arr τ ty,r,d=>(.arr τ d.1 ty,d.2)|.map κ σ,r,d=>(.map κ σ d.1,d.2)|.cQ ty,r,d=>(.cQ d.1 ty,d.2)|.du τ l ty,r,d=>(.du τ (Int.toNat d.1) d.2.1 (gF l r d.2.2).1 ty,(gF l r d.2.2).2)
def GY(ty:TypeId):bc->Option (List AV)
 |.cells vs ty'=>match Nat.beq ty' ty with|true=>some vs|false=>none
 |_=>none
def YT(τ:Sh)(ty:TypeId):bc->Option (List τ.T)
 |.arr τ' L ty'=>match e:τ'.eqv τ,Nat.beq ty' ty with|true,true=>some (jd e L)|_,_=>none
 |_=>none
def afx{σ τ:Sh}(h:σ.eqv τ=true)(M:cV σ):cV τ:=Sh.ed h▸M
def YV(κ:IntKind)(σ:Sh):bc->Option (cV σ)
 |.map κ' σ' M=>match e:σ'.eqv σ,jH κ' κ with|true,true=>some (afx e M)|_,_=>none
 |_=>none
def Se(ty:TypeId):bc->Option (List cW)
 |.cQ L ty'=>match Nat.beq ty' ty with|true=>some L|false=>none
 |_=>none
def BJ(τ:Sh)(ty:TypeId):bc->Option (Nat×List τ.T×List AV)
 |.du τ' i L vs ty'=>match e:τ'.eqv τ,Nat.beq ty' ty with|true,true=>some (i,jd e L,vs)|_,_=>none
 |_=>none
theorem adK{τ:Sh}{ty:TypeId}{v:bc}{p:Nat×List τ.T×List AV}(h:BJ τ ty v=some p):v=.du τ p.1 p.2.1 p.2.2 ty:=by
 unfold BJ at h;split at h<;>try cases h
 rename_i τ' i L vs ty';split at h
 .rename_i he hty;have hty:=Nat.eq_of_beq_eq_true hty;subst hty;have:=Sh.ed he;subst this;have h:=Option.some.inj h;rw[<-h];rfl
 .cases h
def Lj:(o:LO)->(r:List Sh)->bc->TL r->Option (TL (σO o r))
 |.cells l ty,r,v,d=>match GY ty v with|some vs=>kP l r vs d|none=>none
 |.arr τ ty,r,v,d=>lT (YT τ ty v) d|.map κ σ,r,v,d=>lT (YV κ σ v) d|.cQ ty,r,v,d=>lT (Se ty v) d|.du τ l ty,r,v,d=>match BJ τ ty v with
  |some p=>match kP l r p.2.2 d with|some d=>some (Int.ofNat p.1,(p.2.1,d))|none=>none
  |none=>none
structure Lay where
 T:List (Tmp×LA)
 h:List (Nat×LO)
 nx:Nat
def σT:List (Tmp×LA)->List Sh->List Sh
 |[],r=>r|p::l,r=>σA p.2 (σT l r)
def σH:List (Nat×LO)->List Sh->List Sh
 |[],r=>r|p::l,r=>σO p.2 (σH l r)
def Lay.σs(l:Lay):List Sh:=σT l.T (σH l.h [])
def BN(n:Nat):(l:List (Tmp×LA))->(r:List Sh)->TL (σT l r)->Option (Tr AV×TL r)
 |[],r,d=>some (.nil,d)|p::l,r,d=>match BN n l r (mX p.2 (σT l r) d).2 with
  |some (T,d')=>match fl n T (some p.1) (mX p.2 (σT l r) d).1 with|some T=>some (T,d')|none=>none
  |none=>none
def vF:(l:List (Nat×LO))->(r:List Sh)->TL (σH l r)->Option (Tr bc)
 |[],r,d=>some .nil|p::l,r,d=>match vF l r (sB p.2 (σH l r) d).2 with|some t=>Tr.set FT t p.1 (some (sB p.2 (σH l r) d).1)|none=>none
def oW(T:Tr AV):(l:List (Tmp×LA))->(r:List Sh)->TL r->Option (TL (σT l r))
 |[],r,d=>some d|p::l,r,d=>match oW T l r d with
  |some d=>match T.get p.1 with|some v=>sy p.2 (σT l r) v d|none=>none
  |none=>none
def BK(t:Tr bc):(l:List (Nat×LO))->(r:List Sh)->TL r->Option (TL (σH l r))
 |[],r,d=>some d|p::l,r,d=>match BK t l r d with
  |some d=>match t.get p.1 with|some v=>Lj p.2 (σH l r) v d|none=>none
  |none=>none
def Lay.put(n:Nat)(l:Lay)(d:TL l.σs):Option St:=match BN n l.T (σH l.h []) d with
 |some (T,d)=>match vF l.h [] d with|some t=>some ⟨T,⟨t,l.nx⟩⟩|none=>none
 |none=>none
def Lay.get(l:Lay)(st:St):Option (TL l.σs):=match BK st.h.tr l.h [] ()with|some d=>oW st.T l.T (σH l.h []) d|none=>none
theorem TB{n:Nat}{T₀:Tr AV}:∀{l:List (Tmp×LA)}{r:List Sh}{d:TL r}{d':TL (σT l r)},oW T₀ l r d=some d'->∀{T:Tr AV}{d₂:TL r},BN n l r d'=some (T,d₂)->d₂=d /\
  ∀t v',T.get t=some v'->∃v,T₀.get t=some v/\∀X V,Rel X v V->Rel X v' V
 |[],r,d,d',e,T,d₂,h=>by have e:d=d':=Option.some.inj e;have h:(Tr.nil,d')=(T,d₂):=Option.some.inj h;have h1:Tr.nil=T:=congrArg Prod.fst h;have h2:d'=d₂:=congrArg Prod.snd h;subst h1;exact⟨h2.symm.trans e.symm,fun t v' q=>by simp[Tr.get]at q⟩|p::l,r,d,d',e,T,d₂,h=>by
  simp only[oW]at e;split at e<;>try cases e
  rename_i d₁ h₁;split at e<;>try cases e
  rename_i v hv;obtain⟨a1,a2⟩:=TD _ _ _ _ _ e;simp only[BN]at h;split at h<;>try cases h
  rename_i T₁ d₃ hp;rw[a1]at hp;obtain⟨b1,b2⟩:=TB h₁ hp;split at h<;>cases h;rename_i hs;refine⟨b1,?_⟩;intro t v' q;rw[oc hs t]at q;by_cases r:p.1=t
  .subst r;rw[if_pos rfl]at q;cases q;exact⟨v,hv,a2⟩
  .rw[if_neg (by simpa using r)]at q;exact b2 t v' q
def rB(o o':bc):Prop:=(∀X l,gY X l o->gY X l o')/\∀n,o'.row=some n->o.row=some n
theorem akN(τ:Sh)(l:List LA)(ty:TypeId)(r:List Sh)(v:bc)(d:TL r)(d':TL (σO (.du τ l ty) r))(e:Lj (.du τ l ty) r v d=some d'):(sB (.du τ l ty) r d').2=d/\rB v (sB (.du τ l ty) r d').1:=by
 have e2:(match BJ τ ty v with
  |some p=>match kP l r p.2.2 d with|some d=>some (Int.ofNat p.1,(p.2.1,d))|none=>none
  |none=>none)=some d':=e
 split at e2<;>try cases e2
 rename_i p hv;split at e2<;>try cases e2
 rename_i d₁ h₁;obtain⟨a1,a2⟩:=qH _ _ _ _ _ h₁;have hv:=adK hv;subst hv;refine⟨a1,?_,fun n q=>q⟩;rintro X l' ⟨b,c,pre,mid,post,tail,h0,h1,h2,h3,h4⟩;exact⟨b,c,pre,mid,post,tail,h0,h1,h2,a2 X mid h3,h4⟩
theorem acO:∀(o:LO) (r:List Sh) (v:bc) (d:TL r) (d':TL (σO o r)),Lj o r v d=some d'->(sB o r d').2=d/\rB v (sB o r d').1
 |.cells l ty,r,v,d,d',e=>by
  have e2:(match GY ty v with|some vs=>kP l r vs d|none=>none)=some d':=e;split at e2<;>try cases e2
  rename_i vs hv;unfold GY at hv;split at hv<;>try cases hv
  split at hv<;>cases hv;rename_i h;have h:=Nat.eq_of_beq_eq_true h;subst h;obtain⟨a1,a2⟩:=qH _ _ _ _ _ e2;refine⟨a1,?_,fun n q=>by cases q⟩;rintro X l' ⟨b,c,cs,h1,h2,h3⟩;exact⟨b,c,cs,h1,h2,a2 X cs h3⟩
 |.arr τ ty,r,v,d,d',e=>by
  obtain⟨h1,h2⟩:=ni (y:=d') e;refine⟨h2,?_⟩;show rB v (.arr τ d'.1 ty);unfold YT at h1;split at h1<;>try cases h1
  rename_i τ' L ty';split at h1
  .rename_i he hty;have h1:=Option.some.inj h1;rw[<-h1];have hty:=Nat.eq_of_beq_eq_true hty;subst hty;have:=Sh.ed he;subst this;exact⟨fun X l h=>h,fun n q=>q⟩
  .cases h1
 |.map κ σ,r,v,d,d',e=>by
  obtain⟨h1,h2⟩:=ni (y:=d') e;refine⟨h2,?_⟩;show rB v (.map κ σ d'.1);unfold YV at h1;split at h1<;>try cases h1
  rename_i κ' σ' M;split at h1
  .rename_i he hk;have h1:=Option.some.inj h1;rw[<-h1];have hk:=lu hk;subst hk;have:=Sh.ed he;subst this;exact⟨fun X l h=>h,fun n q=>by cases q⟩
  .cases h1
 |.cQ ty,r,v,d,d',e=>by
  obtain⟨h1,h2⟩:=ni (y:=d') e;refine⟨h2,?_⟩;show rB v (.cQ d'.1 ty);unfold Se at h1;split at h1<;>try cases h1
  rename_i L ty';split at h1
  .rename_i hty;have h1:=Option.some.inj h1;rw[<-h1];have hty:=Nat.eq_of_beq_eq_true hty;subst hty;exact⟨fun X l h=>h,fun n q=>by cases q⟩
  .cases h1
 |.du τ l ty,r,v,d,d',e=>akN τ l ty r v d d' e
theorem TC{t₀:Tr bc}:∀{l:List (Nat×LO)}{r:List Sh}{d:TL r}{d':TL (σH l r)},BK t₀ l r d=some d'->∀{t:Tr bc},vF l r d'=some t ->
  ∀i o',t.get i=some o'->∃o,t₀.get i=some o/\rB o o'
 |[],r,d,d',e,t,h=>by simp only[vF,Option.some.injEq]at h;subst h;exact fun i o' q=>by simp[Tr.get]at q|p::l,r,d,d',e,t,h=>by
  simp only[BK]at e;split at e<;>try cases e
  rename_i d₁ h₁;split at e<;>try cases e
  rename_i v hv;obtain⟨a1,a2⟩:=acO _ _ _ _ _ e;simp only[vF]at h;split at h<;>try cases h
  rename_i t₁ hp;rw[a1]at hp;have ih:=TC h₁ hp;intro i o' q;rw[Tr.ca _ _ _ _ _ h i]at q;by_cases r:i=p.1
  .subst r;rw[if_pos rfl]at q;cases q;exact⟨v,hv,a2⟩
  .rw[if_neg r]at q;exact ih i o' q
