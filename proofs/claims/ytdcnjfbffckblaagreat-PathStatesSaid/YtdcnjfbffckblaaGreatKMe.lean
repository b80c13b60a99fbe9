import Derived.Test.YtdcnjfbffckblaaGreatKMd
set_option linter.unusedVariables false
set_option linter.unusedSimpArgs false
set_option linter.unnecessarySimpa false
section
namespace Go.Proofs.YtdcnjfbffckblaaGreat.V
open Go Go.RowKit
open Go.Proofs.YtdcnjfbffckblaaGreat.Ev (Tr Tr.bz nth bI PE fY oe ik sy cS looks tmpsOf sB jb mc fD lq jn me left mark pf mf bY fe gY j6)
def wf(h:Hp):Prop:=∀id o,h.tr.get id=some o->id<h.next
theorem wf.le{h h':Hp}(w:wf h)(old:∀id,id<h.next->h'.tr.get id=h.tr.get id):dm h h':=fun b o q=>by rw[old b (w b o q)];exact q
structure One(P:Program)(sh:TypeId->Option Sh)(ops:Array Oper)(o:Oper)(st st':St)(v:AV):Prop where
 next:st.h.next<=st'.h.next
 old:∀id,id<st.h.next->st'.h.tr.get id=st.h.tr.get id
 wf:wf st'.h
 same:∀t,o.dst≠some t->st'.T.get t=st.T.get t
 now:PN P sh ops st.h.next st'.T st'.h o v
 dst:∀t,o.dst=some t->st'.T.get t=some v
theorem Xy{R:Type}{P:Program}{sh:TypeId->Option Sh}{n:Nat}{ops:Array Oper}{o:Oper}{st:St}{k:St->Option R}{r:R}(e:Bz P sh n ops o st k=some r)
  (hl:∀t,o.dst=some t->t∉looks ops.toList o):∃st' v,k st'=some r/\(wf st.h->One P sh ops o st st' v):=by
 unfold Bz at e;obtain⟨b,T₁,e,hT₁,hw⟩:=Wg e;have aN:∀{T':Tr AV}{v:AV},cI n T₁ o.dst v=some T'->(∀t∈looks ops.toList o,T'.get t=st.T.get t)/\(∀t,o.dst≠some t->T'.get t=st.T.get t)/\∀t,o.dst=some t->T'.get t=some v:=by
  intro T' v hs;have hg:=iJ hs;refine⟨fun t ht=>?_,fun t ht=>?_,fun t ht=>?_⟩
  .rw[hg t,if_neg (fun q=>hl t q ht)];exact hT₁ t
  .rw[hg t,if_neg ht];exact hT₁ t
  .rw[hg t,if_pos ht]
 cases b with
 |false=>
  simp only[]at e;split at e<;>try cases e
  rename_i T' hs;obtain⟨k1,k2,k3⟩:=aN hs;refine⟨_,.bk [],e,fun w=>⟨Nat.le_refl _,fun _ _=>rfl,w,k2,.inl ⟨?_,rfl⟩,k3⟩⟩;rw[sA (ops:=ops) (T:=st.T) k1];exact hw
 |true=>
  simp only[]at e;split at e
  .rename_i g ob v ha;split at e<;>try cases e
   rename_i tr T' ht hs;obtain⟨hg,e⟩:=mz e;subst hg;obtain⟨k1,k2,k3⟩:=aN hs;have hgt:=Tr.bz FT st.h.tr st.h.next _ tr ht;obtain⟨m1,m2⟩:=yQ ha;refine⟨_,v,e,fun w=>⟨by simp,?_,?_,k2,.inr (.inr ⟨?_,m1,st.h.next,ob,?_,?_,by simp,Nat.le_refl _⟩),k3⟩⟩
   .intro id hid;show tr.get id=_;rw[hgt id,if_neg (by omega)]
   .intro id o' q
    replace q:tr.get id=some o':=q
    rw[hgt id]at q;by_cases p:id=st.h.next
    .simp[p]
    .rw[if_neg p]at q;have:=w id o' q;simp only;omega
   .rw[sA (ops:=ops) (T:=st.T) k1];exact hw
   .refine GS ha (fun t q=>?_);show T'.get t=T₁.get t;rw[k1 t (jb q),hT₁ t]
   .show tr.get _=_;rw[hgt,if_pos rfl]
  .split at e<;>try cases e
   rename_i g v hr;split at e<;>try cases e
   rename_i T' hs;obtain⟨hg,e⟩:=mz e;subst hg;obtain⟨k1,k2,k3⟩:=aN hs;refine⟨_,v,e,fun w=>⟨Nat.le_refl _,fun _ _=>rfl,w,k2,.inr (.inl ⟨?_,?_,?_⟩),k3⟩⟩
   .rw[sA (ops:=ops) (T:=st.T) k1];exact hw
   .rename_i hna _;cases hm:dJ o.op with|false=>rfl|true=>unfold gb at hr;unfold dJ at hm;split at hm<;>first|(cases hm;done)|(rename_i hop;rw[hop]at hr;cases hr)
   .refine GP (dm.refl _) hr (fun t q=>?_);rw[k1 t (jb q),hT₁ t]
structure rY(P:Program)(sh:TypeId->Option Sh)(ops:Array Oper)(q:Nat)(os:List Oper)(ps:List PE)(st st':St):Prop where
 next:st.h.next<=st'.h.next
 old:∀id,id<st.h.next->st'.h.tr.get id=st.h.tr.get id
 wf:wf st'.h
 same:∀t,(∀(x:Nat) (o:Oper) (hi:Nat),os[x]?=some o->ps[x]?=some (.p q hi)->o.dst≠some t)->st'.T.get t=st.T.get t
 done:∀(x:Nat) (o:Oper) (hi:Nat),os[x]?=some o->ps[x]?=some (.p q hi)->∃v,PN P sh ops st.h.next st'.T st'.h o v/\∀t,o.dst=some t->st'.T.get t=some v
 uniq:∀(x y:Nat) (o o':Oper) (hi hi':Nat) (t t':Tmp) (v v':AV) (id:Nat),os[x]?=some o->os[y]?=some o'->ps[x]?=some (.p q hi)->ps[y]?=some (.p q hi')->dJ o.op=true->dJ o'.op=true ->
  o.dst=some t->o'.dst=some t'->st'.T.get t=some v->st'.T.get t'=some v'->gQ v=some id->gQ v'=some id->x=y
theorem PN.ids{P:Program}{sh:TypeId->Option Sh}{ops:Array Oper}{b:Nat}{T:Tr AV}{h:Hp}{o:Oper}{v:AV}(p:PN P sh ops b T h o v)(hm:dJ o.op=true){id:Nat}(hi:gQ v=some id):id<h.next/\b<=id:=by
 rcases p with⟨h1,rfl⟩|⟨h1,h2,h3⟩|⟨h1,h2,id',ob,h3,h4,h5,h6⟩
 .cases hi
 .rw[hm]at h2;cases h2
 .have:=(yQ h3).2;simp only at this;rw[hi]at this;cases this;exact⟨h5,h6⟩
theorem JJ{R:Type}{P:Program}{sh:TypeId->Option Sh}{n:Nat}{ops:Array Oper}{q:Nat}{k:St->Option R}{r:R}:∀{os:List Oper}{ps:List PE}{st:St},kg P sh n ops q os ps st k=some r ->
  (∀(x y:Nat) (o o':Oper) (hi hi':Nat) (t:Tmp),os[x]?=some o->os[y]?=some o'->ps[x]?=some (.p q hi)->ps[y]?=some (.p q hi')->x<=y->o'.dst=some t->t∉looks ops.toList o) ->
  (∀(x y:Nat) (o o':Oper) (t:Tmp),os[x]?=some o->os[y]?=some o'->o.dst=some t->o'.dst=some t->x=y) ->
  ∃st',k st'=some r/\(wf st.h->rY P sh ops q os ps st st'):=by
 intro os
 induction os with
 |nil=>intro ps st e _ _;simp only[kg]at e;exact⟨st,e,fun w=>⟨Nat.le_refl _,fun _ _=>rfl,w,fun _ _=>rfl,fun x o hi h=>by simp at h,fun x y o o' hi hi' t t' v v' id h=>by simp at h⟩⟩|cons o os ih=>
  intro ps st e hL hD;cases ps with
  |nil=>simp only[kg]at e;exact⟨st,e,fun w=>⟨Nat.le_refl _,fun _ _=>rfl,w,fun _ _=>rfl,fun x o hi _ h=>by simp at h,fun x y o o' hi hi' t t' v v' id _ _ h=>by simp at h⟩⟩|cons pe ps=>
   simp only[kg]at e;have hL':∀(x y:Nat) (o o':Oper) (hi hi':Nat) (t:Tmp),os[x]?=some o->os[y]?=some o'->ps[x]?=some (.p q hi)->ps[y]?=some (.p q hi')->x<=y->o'.dst=some t->t∉looks ops.toList o:=fun x y o o' hi hi' t h1 h2 h3 h4 h5 h6=>hL (x+1) (y+1) o o' hi hi' t (by simpa using h1) (by simpa using h2) (by simpa using h3) (by simpa using h4) (by omega) h6;have hD':∀(x y:Nat) (o o':Oper) (t:Tmp),os[x]?=some o->os[y]?=some o'->o.dst=some t->o'.dst=some t->x=y:=fun x y o o' t h1 h2 h3 h4=>by have:=hD (x+1) (y+1) o o' t (by simpa using h1) (by simpa using h2) h3 h4;omega
   have skip:kg P sh n ops q os ps st k=some r->(∀hi,pe≠.p q hi)->∃st',k st'=some r/\(wf st.h->rY P sh ops q (o::os) (pe::ps) st st'):=by
    intro e hne;obtain⟨st',h1,S'⟩:=ih e hL' hD';refine⟨st',h1,fun w=>?_⟩;have S:=S' w;refine⟨S.next,S.old,S.wf,?_,?_,?_⟩
    .intro t ht;exact S.same t (fun x o' hi h1 h2=>ht (x+1) o' hi (by simpa using h1) (by simpa using h2))
    .intro x o' hi h1 h2;cases x with|zero=>simp at h2;exact absurd h2 (hne hi)|succ x=>exact S.done x o' hi (by simpa using h1) (by simpa using h2)
    .intro x y o₁ o₂ hi hi' t t' v v' id h1 h2 h3 h4;cases x with|zero=>simp at h3;exact absurd h3 (hne hi)|succ x=>cases y with|zero=>simp at h4;exact absurd h4 (hne hi')|succ y=>intro a1 a2 a3 a4 a5 a6 a7 a8;rw[S.uniq x y o₁ o₂ hi hi' t t' v v' id (by simpa using h1) (by simpa using h2) (by simpa using h3) (by simpa using h4) a1 a2 a3 a4 a5 a6 a7 a8]
   cases pe with
   |w j=>exact skip e (fun hi h=>by cases h)
   |p lo hi=>
    simp only[]at e;cases hb:Nat.beq lo q with
    |false=>simp only[hb]at e;exact skip e (fun h' h=>by cases h;exact Nat.ne_of_beq_eq_false hb rfl)
    |true=>
     have:=aA hb;subst this;simp only[hb]at e;obtain⟨st₁,v₁,e,O'⟩:=Xy e (fun t ht=>hL 0 0 o o hi hi t (by simp) (by simp) (by simp) (by simp) (Nat.le_refl _) ht);obtain⟨st',h1,S'⟩:=ih e hL' hD';refine⟨st',h1,fun w=>?_⟩;have O:=O' w;have S:=S' O.wf;have hle:dm st₁.h st'.h:=O.wf.le S.old;have hlook:∀t∈looks ops.toList o,st'.T.get t=st₁.T.get t:=fun t ht=>S.same t (fun x o' h' q1 q2 q3=>hL 0 (x+1) o o' hi h' t (by simp) (by simpa using q1) (by simp) (by simpa using q2) (by omega) q3 ht);have hdst:∀t,o.dst=some t->st'.T.get t=some v₁:=fun t ht=>by rw[S.same t (fun x o' h' q1 q2 q3=>by have:=hD 0 (x+1) o o' t (by simp) (by simpa using q1) ht q3;omega)];exact O.dst t ht
     have now₀:=O.now.congr hlook hle S.next (Nat.le_refl _);refine⟨Nat.le_trans O.next S.next,?_,S.wf,?_,?_,?_⟩
     .intro id hid;rw[S.old id (Nat.lt_of_lt_of_le hid O.next),O.old id hid]
     .intro t ht;rw[S.same t (fun x o' h' q1 q2=>ht (x+1) o' h' (by simpa using q1) (by simpa using q2)),O.same t (ht 0 o hi (by simp) (by simp))]
     .intro x o' h' q1 q2;cases x with|zero=>simp at q1;subst q1;exact⟨v₁,now₀,hdst⟩|succ x=>obtain⟨v,p1,p2⟩:=S.done x o' h' (by simpa using q1) (by simpa using q2);exact⟨v,p1.congr (fun _ _=>rfl) (dm.refl _) (Nat.le_refl _) O.next,p2⟩
     .have cross:∀(y:Nat) (o₁ o₂:Oper) (hi':Nat) (t t':Tmp) (v v':AV) (id:Nat),o=o₁->os[y]?=some o₂->ps[y]?=some (.p lo hi')->dJ o₁.op=true->dJ o₂.op=true->o₁.dst=some t->o₂.dst=some t' ->
        st'.T.get t=some v->st'.T.get t'=some v'->gQ v=some id->gQ v'=some id->False:=by
       intro y o₁ o₂ hi' t t' v v' id e1 h2 h4 a1 a2 a3 a4 a5 a6 a7 a8;subst e1;rw[hdst t a3]at a5;cases a5;have b1:=O.now.ids a1 a7;obtain⟨v₂,p1,p2⟩:=S.done y o₂ hi' h2 h4;rw[p2 t' a4]at a6;cases a6;have b2:=p1.ids a2 a8;omega
      intro x y o₁ o₂ hi₁ hi₂ t t' v v' id h1 h2 h3 h4 a1 a2 a3 a4 a5 a6 a7 a8;cases x with
      |zero=>cases y with|zero=>rfl|succ y=>exact(cross y o₁ o₂ hi₂ t t' v v' id (by simpa using h1) (by simpa using h2) (by simpa using h4) a1 a2 a3 a4 a5 a6 a7 a8).elim
      |succ x=>cases y with|zero=>exact(cross x o₂ o₁ hi₁ t' t v' v id (by simpa using h2) (by simpa using h1) (by simpa using h3) a2 a1 a4 a3 a6 a5 a8 a7).elim|succ y=>rw[S.uniq x y o₁ o₂ hi₁ hi₂ t t' v v' id (by simpa using h1) (by simpa using h2) (by simpa using h3) (by simpa using h4) a1 a2 a3 a4 a5 a6 a7 a8]
def wR(P:Program)(ops:Array Oper)(q:Nat)(ch:Bool)(ts:List Nat)(st:St)(os:List Oper)(ps:List PE):Prop:=∀(x:Nat) (o:Oper) (lo hi:Nat),os[x]?=some o->ps[x]?=some (.p lo hi)->lo<q->q<=hi ->
 (∀t∈looks ops.toList o,t∉ts)/\(ch=true->dJ o.op=false->gZ ops st.T o=some false\/(gZ ops st.T o=some true/\∃v,gb P st.T st.h o=some (true,v)/\∀t,o.dst=some t->st.T.get t=some v))
theorem Kk{R:Type}{P:Program}{ops:Array Oper}{q:Nat}{ch:Bool}{ts:List Nat}{st:St}{k:Option R}{r:R}:∀{os:List Oper}{ps:List PE},je P ops q ch ts st os ps k=some r->k=some r/\wR P ops q ch ts st os ps
 |[],ps,e=>⟨by simpa[je]using e,fun x o lo hi h=>by simp at h⟩|o::os,[],e=>⟨by simpa[je]using e,fun x o lo hi _ h=>by simp at h⟩|o::os,pe::ps,e=>by
  simp only[je]at e;have go:je P ops q ch ts st os ps k=some r->(∀lo hi,pe=.p lo hi->lo<q->q<=hi->(∀t∈looks ops.toList o,t∉ts)/\(ch=true->dJ o.op=false->gZ ops st.T o=some false\/(gZ ops st.T o=some true/\∃v,gb P st.T st.h o=some (true,v)/\∀t,o.dst=some t->st.T.get t=some v))) ->
    k=some r/\wR P ops q ch ts st (o::os) (pe::ps):=by
   intro e h;obtain⟨h1,h2⟩:=Kk e;refine⟨h1,?_⟩;intro x o' lo hi q1 q2;cases x with|zero=>simp at q1 q2;subst q1;exact h lo hi q2|succ x=>exact h2 x o' lo hi (by simpa using q1) (by simpa using q2)
  split at e
  .exact go e (fun lo hi h=>by cases h)
  .rename_i lo hi;split at e
   .split at e<;>try cases e
    rename_i hn;have hn:=QQ hn;split at e
    .rename_i hm;split at e<;>try cases e
     .rename_i hw;split at e<;>try cases e
      .rename_i g v t hr hd;split at e<;>try cases e
       rename_i u hu;split at e<;>try cases e
       rename_i s hs;obtain⟨hg,e⟩:=mz e;obtain⟨hs',e⟩:=mz e;subst hg;subst hs';have:=JO hs;subst this;exact go e (fun lo' hi' h _ _=>⟨hn,fun _ _=>.inr ⟨hw,u,hr,fun t' ht'=>by rw[hd]at ht';cases ht';exact hu⟩⟩)
      .rename_i g v hr hd;obtain⟨hg,e⟩:=mz e;subst hg;exact go e (fun lo' hi' h _ _=>⟨hn,fun _ _=>.inr ⟨hw,v,hr,fun t' ht'=>by rw[hd]at ht';cases ht'⟩⟩)
     .rename_i hw;exact go e (fun lo' hi' h _ _=>⟨hn,fun _ _=>.inl hw⟩)
    .rename_i hne;exact go e (fun lo' hi' h _ _=>⟨hn,fun h1 h2=>absurd h2 (hne h1)⟩)
   .rename_i hne;refine go e (fun lo' hi' h h1 h2=>?_);cases h;exact absurd (Nat.ble_eq_true_of_le h2) (hne (by rw[Nat.blt_eq];exact h1))
def uD(P:Program)(sh:TypeId->Option Sh)(n:Nat)(ops:Array Oper)(pl:List PE):Nat->Nat->St->St->Prop
 |0,_,st,fin=>fin=st|r+1,q,st,fin=>∃(i:Nat) (o:Oper) (ch:Bool) (st₁ st₂:St) (b:Bool) (T:Tr AV) (v:AV),ops[i]?=some o/\pl[i]?=some (.w (q+1))/\(ch=false->dm st.h st₁.h)/\uC ops st.T o b T/\cI n T o.dst v=some st₁.T /\
   ((b=true/\tW P T st.h o v st₁.h)\/(b=false/\v=.bk []/\st₁.h=st.h))/\(wf st₁.h->rY P sh ops (q+1) ops.toList pl st₁ st₂)/\wR P ops (q+1) ch (dl o.dst++mv (q+1) ops.toList pl) st₂ ops.toList pl/\uD P sh n ops pl r (q+1) st₂ fin
theorem KS{ops:Array Oper}{pl:List PE}{m:Nat}(hP:fY ops pl m){x y:Nat}{o o':Oper}{lo hi:Nat}{t:Tmp}(h1:ops[x]?=some o)(h2:ops[y]?=some o')(h3:pl[y]?=some (.p lo hi))(hxy:x<=y)(ht:o'.dst=some t):t∉looks ops.toList o:=by intro hl;have:=hP.below x o h1 y (hP.fresh x o h1 t hl y o' lo hi h2 h3 ht);omega
theorem Kw{R:Type}{P:Program}{sh:TypeId->Option Sh}{call:fj R}(hc:cT P call){n:Nat}{ops:Array Oper}{pl:List PE}{m:Nat}(hP:fY ops pl m)
  (hD:∀(x y:Nat) (o o':Oper) (t:Tmp),ops.toList[x]?=some o->ops.toList[y]?=some o'->o.dst=some t->o'.dst=some t->x=y) {k:St->Option R}{r:R} :
  ∀(c q:Nat) (st:St),uj P sh call n ops pl c q st k=some r->∃fin,k fin=some r/\uD P sh n ops pl c q st fin
 |0,q,st,e=>⟨st,e,rfl⟩|c+1,q,st,e=>by
  simp only[uj]at e;split at e<;>try cases e
  rename_i o hf;obtain⟨i,h1,h2⟩:=me hf;obtain⟨ch,st₁,b,T,v,e,hch,W,hT,A⟩:=Rf hc e;obtain⟨st₂,e,S⟩:=JJ e (fun x y o o' hi hi' t q1 q2 q3 q4 q5 q6=>KS hP (by simpa using q1) (by simpa using q2) q4 q5 q6) hD;obtain⟨e,C⟩:=Kk e;obtain⟨fin,hk,rest⟩:=Kw hc hP hD c (q+1) st₂ e;exact⟨fin,hk,i,o,ch,st₁,st₂,b,T,v,by simpa using h1,h2,hch,W,hT,A,S,C,rest⟩
end Go.Proofs.YtdcnjfbffckblaaGreat.V
end
section
namespace Go.Proofs.YtdcnjfbffckblaaGreat.Ev
open Go Go.RowKit
section
variable{n:Nat}{ops:Array Oper}{pl:List PE}{F₀:fb}{h₀:Hp}{w₀:World}{q:Nat}{L:Nat->Bool}{a:Act}{w:World}{st:St}{pd:dX}{F:fb}
theorem Inv.due{k m:Nat}(I:Inv n ops pl F₀ h₀ w₀ m q L a w st pd F)(hP:fY ops pl k){i:Nat}{o:Oper}(ho:ops[i]?=some o)(hr:∀e∈cS o,L e=true)
  (hw:pl[i]?=some (.w (q+1))):∀d (x l h:Nat),ops.size<=x+d->pl[x]?=some (.p l h)->h<=q->L x=true:=by
 have hk:q+1<=k:=(hP.w i o (q+1) ho hw).2.1;intro d
 induction d with
 |zero=>
  intro x l h hx hp _;have:x<pl.length:=by
   rcases Nat.lt_or_ge x pl.length with r|r
   .exact r
   .rw[List.getElem?_eq_none r]at hp;cases hp
  rw[hP.len]at this;omega
 |succ d ih=>
  intro x l h hx hp hh;rcases hP.hi x l h hp with r|⟨z,oz,pe,h1,h2,h3,h4⟩
  .omega
  .have hxz:=hP.below z oz h1 x h3;have hz:L z=true\/z=i:=by
    rcases h4 with⟨j,rfl,hj⟩|⟨l',h',rfl,hh'⟩
    .rcases Nat.lt_or_ge q j with r|r
     .have:j=q+1:=by omega
      subst this;exact .inr (hP.uniq z i _ h2 hw)
     .exact .inl ((I.wl z j h2).2 r)
    .exact .inl (ih z l' h' (by omega) h2 (by omega))
   rcases hz with hz|rfl
   .exact I.down z oz h1 hz x h3
   .rw[ho]at h1;simp at h1;subst h1;exact hr x h3
theorem Inv.lay{m:Nat}{pd':dX}{h':Hp}(I:Inv n ops pl F₀ h₀ w₀ m q L a w st pd F)(hdue:∀p∈pd,(∃lo hi,pl[p.1]?=some (.p lo hi)/\hi<=q)->L p.1=true)
  (e:n9 pl q pd st.h=some (pd',h')) :
  Inv n ops pl F₀ h₀ w₀ m q L a w ⟨st.T,h'⟩ pd' F/\∀p∈pd',∃lo hi,pl[p.1]?=some (.p lo hi)/\q<hi:=by
 obtain⟨e1,e2,e3⟩:=QB e;have hE:∀s₀ s,F s->Ext s₀ h₀ w₀ s st.h w->Ext s₀ h₀ w₀ s h' w:=by
  intro s₀ s hs hE;refine hE.JD (by rw[e1];exact Nat.le_refl _) ?_;intro j o hj;rcases e2 j o hj with r|⟨p,hp,hd,rfl,rfl⟩
  .exact .inl ⟨o,r⟩
  .exact .inr ⟨(I.jf p hp (hdue p hp hd) s hs).2.1,I.tj p hp⟩
 have hnd:∀p∈pd',∀p'∈pd,(∃lo hi,pl[p'.1]?=some (.p lo hi)/\hi<=q)->p.2.1≠p'.2.1:=by rintro p hp p' hp' ⟨lo,hi,h1,h2⟩ heq;have:=I.iF p (e3 p hp).1 p' hp' (.inr heq);subst this;obtain⟨_,lo',hi',h3,h4⟩:=e3 p hp;rw[h1]at h3;simp at h3;omega
 refine⟨⟨I.ne,I.size,I.defers,?_,?_,I.tmp,?_,?_,by rw[e1];exact I.low,fun p hp=>I.tj p (e3 p hp).1,?_,?_,?_,?_,I.down,I.wl,I.lo,I.hi⟩,fun p hp=>(e3 p hp).2⟩
 .intro s₀ hs₀ g;obtain⟨s,h1,h2,h3⟩:=I.free s₀ hs₀ g;exact⟨s,h1,hE s₀ s h1 h2,fun p hp=>h3 p (e3 p hp).1⟩
 .intro s hs;obtain⟨s₀,h1,h2⟩:=I.kY s hs;exact⟨s₀,h1,hE s₀ s hs h2⟩
 .intro t v hv;rw[e1];exact I.all t v hv
 .intro s hs;have H:=I.H s hs;refine⟨?_,?_,?_,?_⟩
  .intro j o hj;rcases e2 j o hj with r|⟨p,hp,hd,rfl,rfl⟩
   .exact H.obj j o r
   .exact(I.jf p hp (hdue p hp hd) s hs).1
  .intro j j' o o' hj hj' he;rcases e2 j o hj with r|⟨p,hp,hd,rfl,rfl⟩<;>rcases e2 j' o' hj' with r'|⟨p',hp',hd',rfl,rfl⟩
   .exact H.inj j j' o o' r r' he
   .exact absurd he ((I.jf p' hp' (hdue p' hp' hd') s hs).2.2 j o r)
   .exact absurd he.symm ((I.jf p hp (hdue p hp hd) s hs).2.2 j' o' r')
   .exact I.kZ p hp p' hp' (hdue p hp hd) (hdue p' hp' hd') s hs he
  .intro j o hj;rw[e1];rcases e2 j o hj with r|⟨p,hp,hd,rfl,rfl⟩
   .exact H.lt j o r
   .exact(I.pid p hp).1
  .intro j o hj;rw[e1];rcases e2 j o hj with r|⟨p,hp,hd,rfl,rfl⟩
   .exact H.eX j o r
   .exact(I.pid p hp).2.2.1
 .intro p hp;obtain⟨p1,p2,p3,p4⟩:=I.pid p (e3 p hp).1;refine⟨by rw[e1];exact p1,?_,by rw[e1];exact p3,p4⟩;cases hg:h'.tr.get p.2.1 with
  |none=>rfl|some o=>
   exfalso;rcases e2 _ o hg with r|⟨p',hp',hd,he,_⟩
   .rw[p2]at r;cases r
   .exact hnd p hp p' hp' hd he
 .intro p hp hL s hs;obtain⟨r1,r2,r3⟩:=I.jf p (e3 p hp).1 hL s hs;refine⟨r1,r2,?_⟩;intro j o hj he;rcases e2 j o hj with r|⟨p',hp',hd,rfl,rfl⟩
  .exact r3 j o r he
  .exact hnd p hp p' hp' hd (I.kZ p' hp' p (e3 p hp).1 (hdue p' hp' hd) hL s hs he).symm
 .intro p hp p' hp' hL hL' s hs he;exact I.kZ p (e3 p hp).1 p' (e3 p' hp').1 hL hL' s hs he
 .intro p hp p' hp' he;exact I.iF p (e3 p hp).1 p' (e3 p' hp').1 he
theorem Inv.write{P:Program}{call:Cl}(hcl:cT P call){k:Nat}(I:Inv n ops pl F₀ h₀ w₀ (q+1) q L a w st pd F)(hP:fY ops pl k){i:Nat}{o:Oper}(ho:ops[i]?=some o)
  (hr:∀e∈cS o,L e=true) (hw:pl[i]?=some (.w (q+1))) {st':St}(e:pH P call n ops o st=some st') (hgt:∀p∈pd,∃lo hi,pl[p.1]?=some (.p lo hi)/\q<hi)
  {K:Act->World->Prop}{Q:Exit->Act->World->Prop}
  (hK:∀a' w' F',Inv n ops pl F₀ h₀ w₀ (q+1) (q+1) (mark L i) a' w' st' pd F'->(∀(i' l h:Nat),pl[i']?=some (.p l h)->q+1<=l->mark L i i'=false)->K a' w'):wpOp P ops Q i K a w:=by
 obtain⟨s₀,hs₀⟩:=I.ne;obtain⟨s₁,hs₁,_⟩:=I.free s₀ hs₀ (fun _=>(0,0));have hO:∀s,F s->eJ s st.T a o.op:=fun s hs=>oa fun t ht u hu=>I.tmp s hs t u hu (I.nB hP ho hr (jb ht));have hW:∀{b},nV ops st.T o=some b->Region.wanted o (yielded ops a.tmps)=b:=fun hw=>yk hw (fun j b oj t v hg hj hd hv=>I.tmp s₁ hs₁ t v hv (I.nB hP ho hr (mc hg hj hd)));have hdue:=I.due hP ho hr hw;have notI:∀(j l h:Nat),pl[j]?=some (.p l h)->j≠i:=by intro j l h hj e;subst e;rw[hw]at hj;cases hj
 have mkp:∀p∈pd,mark L i p.1=L p.1:=by intro p hp;obtain⟨lo,hi,h1,_⟩:=hgt p hp;unfold mark;rw[if_neg (notI p.1 lo hi h1)]
 have hun:∀(i' l h:Nat),pl[i']?=some (.p l h)->q+1<=l->mark L i i'=false:=by intro i' l h hp hl;unfold mark;rw[if_neg (notI i' l h hp)];cases hx:L i' with|false=>rfl|true=>have:=I.lo i' l h hp hx;omega
 have build:∀(F':fb) (w':World) (h':Hp) (V:Value) (v:AV) (T':Tr AV),dM F st.h w F' h' w'->(∀s',F' s'->ab s' h' w'/\ae s' v=V)->cI n h'.next st.T o.dst v=some T' ->
   Inv n ops pl F₀ h₀ w₀ (q+1) (q+1) (mark L i) (a.put o.dst V) w' ⟨T',h'⟩ pd F':=by
  intro F' w' h' V v T' hE hF hT;obtain⟨s₂,hs₂,hE₂⟩:=hE.to s₁ hs₁;have hnx:st.h.next<=h'.next:=hE₂.next;refine⟨I.ne,?_,?_,?_,?_,?_,yH hT hnx I.all,fun s hs=>(hF s hs).1,Nat.le_trans I.low hnx,I.tj,?_,?_,?_,I.iF,?_,?_,?_,?_⟩
  .cases hd:o.dst<;>simp[Act.put,hd,I.size]
  .cases hd:o.dst<;>simp[Act.put,hd,I.defers]
  .intro s₀' hs₀' g;obtain⟨s,h1,h2,h3⟩:=I.free s₀' hs₀' g;obtain⟨s',h1',hx⟩:=hE.to s h1;refine⟨s',h1',h2.trans hx,?_⟩;intro p hp hm;rw[mkp p hp]at hm;rw[hx.sg _ (I.pid p hp).1];exact h3 p hp hm
  .intro s' hs';obtain⟨s,h1,hx⟩:=hE.from_ s' hs';obtain⟨s₀',h2,h3⟩:=I.kY s h1;exact⟨s₀',h2,h3.trans hx⟩
  .intro s' hs' t u hu hnp;obtain⟨s,h1,hx⟩:=hE.from_ s' hs';rw[iJ hT t]at hu;by_cases hd:o.dst=some t
   .rw[if_pos hd]at hu;simp at hu;subst hu;simp only[Act.put,hd,Array.getElem?_setIfInBounds,if_true];rw[if_pos (by rw[I.size];exact(Lk hT hd).1),(hF s' hs').2]
   .rw[if_neg hd]at hu;have hnp':¬j4 ops pl (q+1) L t:=by rintro⟨x,ox,l',h'',p1,p2,p3,p4,p5⟩;refine hnp ⟨x,ox,l',h'',p1,p2,p3,?_,p5⟩;unfold mark;rw[if_neg (notI x l' h'' p2)];exact p4
    have:=I.tmp s h1 t u hu hnp';rw[nN hx.sg u (I.all t u hu).2];cases hd':o.dst with|none=>exact this|some d=>simp only[Act.put,Array.getElem?_setIfInBounds];rw[if_neg (fun e=>hd (by rw[hd',e]))];exact this
  .intro p hp;obtain⟨p1,p2,p3,lo,hi,p4,p5,p6⟩:=I.pid p hp;obtain⟨lo',hi',h1,h2⟩:=hgt p hp;rw[p4]at h1;simp at h1;refine⟨Nat.lt_of_lt_of_le p1 hnx,?_,mi hnx p3,lo,hi,p4,by omega,by omega⟩;cases hg:h'.tr.get p.2.1 with|none=>rfl|some ob=>obtain⟨o',ho'⟩:=hE₂.aN _ ob hg p1;rw[p2]at ho';cases ho'
  .intro p hp hm s' hs';rw[mkp p hp]at hm;obtain⟨s,h1,hx⟩:=hE.from_ s' hs';obtain⟨r1,r2,r3⟩:=I.jf p hp hm s h1;obtain⟨p1,p2,p3,_⟩:=I.pid p hp;have hsid:=hx.sg _ p1;obtain⟨y,hy⟩:=r1.there;have hlt:(s p.2.1).1<w.heap.size:=by
    rcases Nat.lt_or_ge (s p.2.1).1 w.heap.size with r|r
    .exact r
    .rw[Array.getElem?_eq_none r]at hy;cases hy
   rw[hsid];refine⟨?_,r2,?_⟩
   .rw[hx.frame _ hlt r3];exact r1.congr hx.sg p1 p3
   .intro j ob hj he;rcases hx.bx j ob hj with⟨j',o',hj',q'⟩|q'
    .exact r3 j' o' hj' (q'.trans he)
    .omega
  .intro p hp p' hp' hm hm' s' hs' he;rw[mkp p hp]at hm;rw[mkp p' hp']at hm';obtain⟨s,h1,hx⟩:=hE.from_ s' hs';rw[hx.sg _ (I.pid p hp).1,hx.sg _ (I.pid p' hp').1]at he;exact I.kZ p hp p' hp' hm hm' s h1 he
  .intro z oz hz hLz e' he';unfold mark at hLz;split at hLz
   .rename_i e1;subst e1;rw[ho]at hz;simp at hz;subst hz;exact gY (hr e' he')
   .exact gY (I.down z oz hz hLz e' he')
  .intro x j hx;unfold mark;by_cases hxi:x=i
   .subst hxi;rw[hw]at hx;simp at hx;subst hx;simp
   .rw[if_neg hxi,I.wl x j hx];constructor
    .intro r;omega
    .intro r;rcases Nat.lt_or_ge j (q+1)with r'|r'
     .omega
     .have:j=q+1:=by omega
      subst this;exact absurd (hP.uniq x i _ hx hw) hxi
  .intro x l h hx hLx;unfold mark at hLx;rw[if_neg (notI x l h hx)]at hLx;have:=I.lo x l h hx hLx;omega
  .intro x l h hx hh;exact gY (hdue ops.size x l h (by omega) hx (by omega))
 unfold pH at e;unfold wpOp;rw[ho];simp only[];split at e
 .rename_i hwa;rw[hW hwa];simp only[if_true];left;split at e<;>try cases e
  rename_i v h' ha;split at e<;>try cases e
  rename_i T' hT;exact KZ hcl ha ⟨s₁,hs₁⟩ hO (fun t v hv=>(I.all t v hv).2) I.H fun F' w' V hE hF=>hK _ w' F' (build F' w' h' V v T' hE hF hT) hun
 .rename_i hwa;rw[hW hwa];simp only[Bool.false_eq_true,if_false];split at e<;>try cases e
  rename_i T' hT;exact hK _ w F (build F w st.h undef (.bk []) T' (dM.refl _ _ _) (fun s hs=>⟨I.H s hs,rfl⟩) hT) hun
 .cases e
end
theorem sD{ops:Array Oper}{listed:Array Bool}{i:Nat}(h:i∈Region.ready .any ops listed) :
  listed.getD i true=false/\∃o,ops[i]?=some o/\∀e∈cS o,listed.getD e false=true:=by
 obtain⟨h1,o,ho,h2⟩:=mem_ready.1 h;refine⟨h1,o,ho,?_⟩;intro e he;obtain⟨x,hx,hb,rfl⟩:=yL.1 he;exact h2 x (Array.mem_toList_iff.1 hx) hb
theorem FW{ops:Array Oper}{listed:Array Bool}{i:Nat}{o:Oper}(h1:listed.getD i true=false)(ho:ops[i]?=some o)(h2:∀e∈cS o,listed.getD e false=true) :
  i∈Region.ready .any ops listed:=
 mem_ready.2 ⟨h1,o,ho,fun e he hb=>h2 e.on (yL.2 ⟨e,Array.mem_toList_iff.2 he,hb,rfl⟩)⟩
theorem AH{P:Program}{call:Cl}(hcl:cT P call){n:Nat}{ops:Array Oper}{pl:List PE}{k:Nat}(hP:fY ops pl k){F₀:fb}{h₀:Hp}{w₀:World}{fin:St}{Q:Exit->Act->World->Prop}
  (hQ:∀F' a' w',RF F' n fin.T fin.h a' w'->dM F₀ h₀ w₀ F' fin.h w'->Q .normal a' w') :
  ∀(fuel:Nat) (r q:Nat) (listed:Array Bool) (st:St) (pd:dX) (a:Act) (w:World) (F:fb),q+r=k->mV P call n ops pl r q st pd=some fin ->
   lH P ops q st pd ops.toList pl 0=true->listed.size=ops.size->left ops.size (fun j=>listed.getD j false)<=fuel ->
   Inv n ops pl F₀ h₀ w₀ (q+1) q (fun j=>listed.getD j false) a w st pd F->wpAny P .any ops Q fuel listed a w:=by
 have iV:∀(listed:Array Bool),listed.size=ops.size->∀i,i<ops.size->listed.getD i true=listed.getD i false:=by intro listed hs i hi;simp[Array.getD_eq_getD_getElem?,show i<listed.size by omega]
 have fini:∀(r q:Nat) (listed:Array Bool) (st:St) (pd:dX) (a:Act) (w:World) (F:fb),q+r=k->mV P call n ops pl r q st pd=some fin->listed.size=ops.size ->
   Inv n ops pl F₀ h₀ w₀ (q+1) q (fun j=>listed.getD j false) a w st pd F->Region.ready .any ops listed=[]->Q .normal a w:=by
  intro r q listed st pd a w F hqr ht hs I hrd;have all:∀i,i<ops.size->listed.getD i false=true:=by
   intro i
   induction i using Nat.strongRecOn with
   |_ i ih=>
    intro hi;cases hx:listed.getD i false with
    |true=>rfl|false=>
     have ho:ops[i]?=some ops[i]:=by simp[hi]
     have:i∈Region.ready .any ops listed:=FW (by rw[iV listed hs i hi];exact hx) ho (fun e he=>ih e (hP.below i _ ho e he) (Nat.lt_trans (hP.below i _ ho e he) hi));rw[hrd]at this;cases this
  cases r with
  |succ r=>
   simp only[mV]at ht;split at ht<;>try cases ht
   rename_i o hp hf;obtain⟨i,h1,h2⟩:=me hf;have hi:i<ops.size:=by
    rcases Nat.lt_or_ge i ops.size with r|r
    .exact r
    .rw[List.getElem?_eq_none (by simpa using r)]at h1;cases h1
   have:=(I.wl i (q+1) h2).1 (all i hi);omega
  |zero=>
   simp only[mV]at ht;split at ht<;>try cases ht
   rename_i h' hp;have hthere:∀(i:Nat) (pe:PE),pl[i]?=some pe->i<ops.size:=by
    intro i pe hi;rcases Nat.lt_or_ge i pl.length with r|r
    .rw[<-hP.len];exact r
    .rw[List.getElem?_eq_none r]at hi;cases hi
   obtain⟨J,_⟩:=I.lay (fun p _ hd=>by obtain⟨lo,hi,h1,_⟩:=hd;exact all p.1 (hthere p.1 _ h1)) hp;have nop:∀t,¬j4 ops pl (q+1) (fun j=>listed.getD j false) t:=by rintro t ⟨x,o,l,h,p1,p2,p3,p4,p5⟩;simp only[]at p4;rw[all x (hthere x _ p2)]at p4;cases p4
   obtain⟨s₀,hs₀⟩:=J.ne;obtain⟨s₁,hs₁,_⟩:=J.free s₀ hs₀ (fun _=>(0,0));refine hQ F a w ⟨⟨s₁,hs₁⟩,?_,J.H⟩ ⟨?_,J.kY⟩
   .intro s hs;exact⟨J.size,J.defers,fun t v hv=>J.tmp s hs t v hv (nop t),fun t v hv=>(J.all t v hv).2⟩
   .intro s₀' hs₀';obtain⟨s,h1,h2,_⟩:=J.free s₀' hs₀' (fun _=>(0,0));exact⟨s,h1,h2⟩
 intro fuel
 induction fuel with
 |zero=>
  intro r q listed st pd a w F hqr ht hc hs hl I;have hrd:Region.ready .any ops listed=[]:=by
   cases hx:Region.ready .any ops listed with
   |nil=>rfl|cons i l=>
    exfalso;obtain⟨h1,o,ho,_⟩:=sD (i:=i) (by rw[hx];simp);have hi:i<ops.size:=by
     rcases Nat.lt_or_ge i ops.size with r|r
     .exact r
     .rw[Array.getElem?_eq_none r]at ho;cases ho
    have h0:left ops.size (fun j=>listed.getD j false)=0:=by omega
    have h3:=mf h0 i hi;rw[iV listed hs i hi]at h1;rw[h1]at h3;cases h3
  exact⟨hrd,fini r q listed st pd a w F hqr ht hs I hrd⟩
 |succ fuel ih=>
  intro r q listed st pd a w F hqr ht hc hs hl I;refine⟨fun hrd=>fini r q listed st pd a w F hqr ht hs I hrd,?_⟩;intro i hi;obtain⟨h1,o,ho,h2⟩:=sD hi;have ba:i<ops.size:=by
   rcases Nat.lt_or_ge i ops.size with r|r
   .exact r
   .rw[Array.getElem?_eq_none r]at ho;cases ho
  rw[iV listed hs i ba]at h1;have hL:(fun j=>(listed.setIfInBounds i true).getD j false)=mark (fun j=>listed.getD j false) i:=by
   funext j;unfold mark;by_cases hj:j=i
   .subst hj;simp[Array.getD_eq_getD_getElem?,Array.getElem?_setIfInBounds,show j<listed.size by omega]
   .rw[if_neg hj];exact getD_set_ne false (fun r=>hj r.symm)
  have hsz:(listed.setIfInBounds i true).size=ops.size:=by simp[hs]
  have hleft:left ops.size (fun j=>(listed.setIfInBounds i true).getD j false)<=fuel:=by rw[hL];have:=pf (L:=fun j=>listed.getD j false) (i:=i) h1 ops.size;rw[if_pos ba]at this;omega
  obtain⟨pe,hpe⟩:∃pe,pl[i]?=some pe:=⟨pl[i]'(by rw[hP.len];exact ba),by simp[hP.len,ba]⟩;cases pe with
  |p l h=>obtain⟨hlq,hqh⟩:=I.ui hP ho h2 h1 hpe;have hck:=QU hc i o l h (by simpa using ho) hpe hlq hqh;refine I.step hP ho h2 h1 hpe (by simpa using hck) ?_;intro a' w' F' I';exact ih r q _ st pd a' w' F' hqr ht hc hsz hleft (by rw[hL];exact I')
  |w j=>
   have hj:j=q+1:=by
    obtain⟨w1,w2,w3⟩:=hP.w i o j ho hpe;have hn:¬j<=q:=fun r=>by have:=(I.wl i j hpe).2 r;rw[h1]at this;cases this
    rcases w3 with r|⟨e,pe,g1,g2,g3⟩
    .omega
    .have hLe:=h2 e g1;cases pe with|w j'=>have:=(I.wl e j' g2).1 hLe;simp only[PE.num]at g3;omega|p l' h'=>have:=I.lo e l' h' g2 hLe;simp only[PE.num]at g3;omega
   subst hj;have hk:=(hP.w i o (q+1) ho hpe).2.1;obtain⟨r,rfl⟩:∃r',r=r'+1:=⟨r-1,by omega⟩;simp only[mV]at ht;split at ht<;>try cases ht
   rename_i pd' h' o' hpm hf;have hoo:o'=o:=by
    obtain⟨i',g1,g2⟩:=me hf;have:=hP.uniq i' i _ g2 hpe;subst this;have g1:ops[i']?=some o':=by simpa using g1
    rw[ho]at g1;simpa using g1.symm
   subst hoo;split at ht<;>try cases ht
   rename_i st₁ hst;split at ht<;>try cases ht
   rename_i st₂ pd₂ hex;split at ht<;>try cases ht
   rename_i hck;have hthere:∀(i:Nat) (pe:PE),pl[i]?=some pe->i<ops.size:=by
    intro i pe hi;rcases Nat.lt_or_ge i pl.length with r|r
    .rw[<-hP.len];exact r
    .rw[List.getElem?_eq_none r]at hi;cases hi
   obtain⟨J,hgt⟩:=I.lay (fun p _ hd=>by obtain⟨lo,hi,g1,g2⟩:=hd;exact I.due hP ho h2 hpe ops.size p.1 lo hi (by omega) g1 g2) hpm;refine J.write hcl hP ho h2 hpe hst hgt ?_;intro a' w' F' I' hun;have I'':=I'.enter hun hex;exact ih r (q+1) _ st₂ pd₂ a' w' _ (by omega) ht hck hsz hleft (by rw[hL];exact I'')
theorem rf{P:Program}(hm:P.follows .mixedOrders=true):Ax P (mY P):=by
 intro call hcl n id ops st st' e F a w R Q hQ;unfold mY at e;split at e<;>try cases e
 rename_i k hk;have hP:=sy hk;split at e<;>try cases e
 rename_i st₁ pd₁ hex;split at e<;>try cases e
 rename_i hck;refine wp_region_any hm ?_;obtain⟨s₁,hs₁⟩:=R.ne;have R₁:=R.T s₁ hs₁;have hgetD:∀j,(Array.replicate ops.size false).getD j false=false:=by intro j;simp only[Array.getD_eq_getD_getElem?,Array.getElem?_replicate];split<;>rfl
 have I:Inv n ops (ik ops.toList) F st.h w 0 0 (fun j=>(Array.replicate ops.size false).getD j false) a { w with drawn:=w.drawn+1 } st [] F:=by
  refine⟨R.ne,R₁.size,R₁.defers,?_,?_,?_,?_,fun s hs=>(R.H s hs).drew _,Nat.le_refl _,?_,?_,?_,?_,?_,?_,?_,?_,?_⟩
  .intro s₀ hs₀ g;exact⟨s₀,hs₀,Ext.drew _ _ _ _,fun p hp=>by cases hp⟩
  .intro s hs;exact⟨s,hs,Ext.drew _ _ _ _⟩
  .intro s hs t v hv _;exact(R.T s hs).get t v hv
  .intro t v hv;have:=R₁.get t v hv;refine⟨?_,R₁.ws t v hv⟩;rcases Nat.lt_or_ge t n with r|r
   .exact r
   .rw[Array.getElem?_eq_none (by rw[R₁.size];exact r)]at this;cases this
  .intro p hp;cases hp
  .intro p hp;cases hp
  .intro p hp;cases hp
  .intro p hp;cases hp
  .intro p hp;cases hp
  .intro z o hz hL;rw[hgetD]at hL;cases hL
  .intro i j hj;simp only[hgetD];have hlt:i<ops.size:=by
    rcases Nat.lt_or_ge i (ik ops.toList).length with r|r
    .rw[<-hP.len];exact r
    .rw[List.getElem?_eq_none r]at hj;cases hj
   have:=(hP.w i ops[i] j (by simp[hlt]) hj).1;constructor
   .intro r;cases r
   .intro r;omega
  .intro i l h _ hL;rw[hgetD]at hL;cases hL
  .intro i l h _ hh;omega
 have I':=I.enter (fun i l h _ _=>hgetD i) hex;refine AH hcl hP hQ ops.size k 0 _ st₁ pd₁ a _ _ (by omega) e hck (by simp) ?_ I';have:∀m (L:Nat->Bool),left m L<=m:=by
  intro m L
  induction m with|zero=>simp[left]|succ m ih=>simp only[left];split<;>omega
 exact this _ _
end Go.Proofs.YtdcnjfbffckblaaGreat.Ev
end
section
namespace Go.Proofs.YtdcnjfbffckblaaGreat.V
open Go Go.RowKit
open Go.Proofs.YtdcnjfbffckblaaGreat.Ev (Tr Tr.bz nth bI PE fY oe ik sy cS looks tmpsOf sB jb mc fD lq jn me left pf mf bY fe gY j6 sD FW)
def j4(ops:Array Oper)(pl:List PE)(q:Nat)(L:Nat->Bool)(t:Tmp):Prop:=∃(x:Nat) (o:Oper) (lo hi:Nat),ops[x]?=some o/\pl[x]?=some (.p lo hi)/\lo<=q/\L x=false/\o.dst=some t
structure Inv(P:Program)(sh:TypeId->Option Sh)(n:Nat)(ops:Array Oper)(pl:List PE)(X₀:Cx)(q:Nat)(L:Nat->Bool)(X:Cx)(a:Act)(st:St):Prop where
 size:a.tmps.size=n
 defers:a.defers=[]
 hX:X.h=st.h
 H:ab X
 E:aH X₀ X
 tmp:∀t v,st.T.get t=some v->¬j4 ops pl q L t->∃V,a.tmps[t]?=some V/\Rel X v V
 now:∀(i:Nat) (o:Oper) (lo hi:Nat),ops[i]?=some o->pl[i]?=some (.p lo hi)->lo<=q->q<=hi->L i=false->∃v,PN P sh ops X₀.h.next st.T st.h o v/\∀t,o.dst=some t->st.T.get t=some v
 jZ:∀(i:Nat) (o:Oper) (lo hi:Nat) (t:Tmp) (v:AV) (id:Nat),ops[i]?=some o->pl[i]?=some (.p lo hi)->lo<=q->L i=false->dJ o.op=true->o.dst=some t->st.T.get t=some v->gQ v=some id ->
  X.s id=none/\id<st.h.next/\X₀.h.next<=id
 iF:∀(i j:Nat) (o o':Oper) (lo hi lo' hi':Nat) (t t':Tmp) (v v':AV) (id:Nat),ops[i]?=some o->ops[j]?=some o'->pl[i]?=some (.p lo hi)->pl[j]?=some (.p lo' hi')->lo<=q->lo'<=q->L i=false->L j=false ->
  dJ o.op=true->dJ o'.op=true->o.dst=some t->o'.dst=some t'->st.T.get t=some v->st.T.get t'=some v'->gQ v=some id->gQ v'=some id->i=j
 down:∀(z:Nat) (o:Oper),ops[z]?=some o->L z=true->∀e∈cS o,L e=true
 wl:∀(i j:Nat),pl[i]?=some (.w j)->(L i=true↔j<=q)
 lo:∀(i l h:Nat),pl[i]?=some (.p l h)->L i=true->l<=q
 hi:∀(i l h:Nat),pl[i]?=some (.p l h)->h<q->L i=true
theorem Xu{X:Cx}(H:ab X){h':Hp}(hn:X.h.next<=h'.next)(old:∀id,id<X.h.next->h'.tr.get id=X.h.tr.get id)(w:wf h'):aH X ⟨X.s,h',X.w,X.A⟩/\ab ⟨X.s,h',X.w,X.A⟩:=by
 have E:aH X ⟨X.s,h',X.w,X.A⟩:=by
  refine⟨rfl,rfl,rfl,Nat.le_refl _,fun _ _ h=>h,fun _ _ _ h=>h,hn,fun _ _ _=>rfl,?_,?_,fun i hi _=>old i hi,rfl⟩
  .rintro b ⟨i,o,c,h1,h2,h3⟩
   replace h1:h'.tr.get i=some o:=h1
   rw[old i (H.bZ i _ h2)]at h1;exact .inl ⟨i,o,c,h1,h2,h3⟩
  .intro j n hj h;rw[<-Oo (old j hj)];exact h
 refine⟨E,⟨?_,?_,w,?_,H.alt,?_⟩⟩
 .intro i o l h1 h2
  replace h1:h'.tr.get i=some o:=h1
  rw[old i (H.bZ i _ h2)]at h1;exact(H.obj i o l h1 h2).ext (E.db H) (fun _ _=>rfl)
 .intro i j o o' b c c' h1 h2 h3 h4
  replace h1:h'.tr.get i=some o:=h1
  replace h2:h'.tr.get j=some o':=h2
  rw[old i (H.bZ i _ h3)]at h1;rw[old j (H.bZ j _ h4)]at h2;exact H.inj i j o o' b c c' h1 h2 h3 h4
 .intro i l h;exact Nat.lt_of_lt_of_le (H.bZ i l h) hn
 .intro i o b c h1 h2
  replace h1:h'.tr.get i=some o:=h1
  rw[old i (H.bZ i _ h2)]at h1;exact H.loc i o b c h1 h2
section
variable{P:Program}{sh:TypeId->Option Sh}{n:Nat}{ops:Array Oper}{pl:List PE}{X₀:Cx}{q:Nat}{L:Nat->Bool}{X:Cx}{a:Act}{st:St}
theorem Inv.nB{k:Nat}(I:Inv P sh n ops pl X₀ q L X a st)(hP:fY ops pl k){i:Nat}{o:Oper}(ho:ops[i]?=some o)(hr:∀e∈cS o,L e=true){t:Tmp}(ht:t∈looks ops.toList o):¬j4 ops pl q L t:=by rintro⟨x,ox,l,h,p1,p2,p3,p4,p5⟩;have:=hr x (hP.fresh i o ho t ht x ox l h p1 p2 p5);rw[p4]at this;cases this
theorem Inv.ui{k:Nat}(I:Inv P sh n ops pl X₀ q L X a st)(hP:fY ops pl k){i:Nat}{o:Oper}(ho:ops[i]?=some o)(hr:∀e∈cS o,L e=true)(hL:L i=false){l h:Nat}(hp:pl[i]?=some (.p l h)):l<=q/\q<=h:=by
 constructor
 .rcases hP.lo i o l h ho hp with r|⟨e,pe,h1,h2,h3⟩
  .omega
  .have hLe:=hr e h1;cases pe with|w j=>have:=(I.wl e j h2).1 hLe;simp only[PE.num]at h3;omega|p l' h'=>have:=I.lo e l' h' h2 hLe;simp only[PE.num]at h3;omega
 .rcases Nat.lt_or_ge h q with r|r
  .have:=I.hi i l h hp r;rw[hL]at this;cases this
  .exact r
theorem Inv.due{k:Nat}(I:Inv P sh n ops pl X₀ q L X a st)(hP:fY ops pl k){i:Nat}{o:Oper}(ho:ops[i]?=some o)(hr:∀e∈cS o,L e=true)
  (hw:pl[i]?=some (.w (q+1))):∀d (x l h:Nat),ops.size<=x+d->pl[x]?=some (.p l h)->h<=q->L x=true:=by
 have hk:q+1<=k:=(hP.w i o (q+1) ho hw).2.1;intro d
 induction d with
 |zero=>intro x l h hx hp _;have:=dR hp;rw[hP.len]at this;omega|succ d ih=>
  intro x l h hx hp hh;rcases hP.hi x l h hp with r|⟨z,oz,pe,h1,h2,h3,h4⟩
  .omega
  .have hxz:=hP.below z oz h1 x h3;have hz:L z=true\/z=i:=by
    rcases h4 with⟨j,rfl,hj⟩|⟨l',h',rfl,hh'⟩
    .rcases Nat.lt_or_ge q j with r|r
     .have:j=q+1:=by omega
      subst this;exact .inr (hP.uniq z i _ h2 hw)
     .exact .inl ((I.wl z j h2).2 r)
    .exact .inl (ih z l' h' (by omega) h2 (by omega))
   rcases hz with hz|rfl
   .exact I.down z oz h1 hz x h3
   .rw[ho]at h1;simp at h1;subst h1;exact hr x h3
theorem Inv.pU{X':Cx}{i:Nat}{o:Oper}{l h:Nat}{V:Value}(I:Inv P sh n ops pl X₀ q L X a st)(hN:∀t,o.dst=some t->t<n)(ho:ops[i]?=some o)(hr:∀e∈cS o,L e=true)(hp:pl[i]?=some (.p l h))(hl:l<=q)
  (hX:X'.h=st.h) (H:ab X') (E:aH X₀ X') (Ex:ez X X') (hV:∀t,o.dst=some t->∃v,st.T.get t=some v/\Rel X' v V)
  (hs:∀(j:Nat) (o':Oper) (lo hi:Nat) (t:Tmp) (v:AV) (id:Nat),ops[j]?=some o'->pl[j]?=some (.p lo hi)->lo<=q->Ev.mark L i j=false->dJ o'.op=true->o'.dst=some t->st.T.get t=some v->gQ v=some id->X'.s id=none) :
  Inv P sh n ops pl X₀ q (Ev.mark L i) X' (a.put o.dst V) st:=by
 have nw:∀j,pl[i]?≠some (.w j):=fun j r=>by rw[hp]at r;cases r
 refine⟨?_,?_,hX,H,E,?_,?_,?_,?_,?_,?_,?_,?_⟩
 .cases hd:o.dst<;>simp[Act.put,I.size]
 .cases hd:o.dst<;>simp[Act.put,I.defers]
 .intro t v hv hn;by_cases hd:o.dst=some t
  .obtain⟨v',h1,h2⟩:=hV t hd;rw[hv]at h1;cases h1;have r:t<a.tmps.size:=by rw[I.size];exact hN t hd
   exact⟨V,by rw[hd];simp[Act.put,r],h2⟩
  .obtain⟨V',h1,h2⟩:=I.tmp t v hv (by
    rintro⟨x,ox,lo,hi,p1,p2,p3,p4,p5⟩;by_cases hxi:x=i
    .subst hxi;rw[ho]at p1;cases p1;exact hd p5
    .exact hn ⟨x,ox,lo,hi,p1,p2,p3,by unfold Ev.mark;rw[if_neg hxi];exact p4,p5⟩)
   refine⟨V',?_,h2.ext Ex⟩;cases hdd:o.dst with|none=>simpa[Act.put]using h1|some t'=>simp only[Act.put,Array.getElem?_setIfInBounds];rw[if_neg (fun r=>hd (by rw[hdd,r]))];exact h1
 .intro j o' lo hi h1 h2 h3 h4 h5;exact I.now j o' lo hi h1 h2 h3 h4 (j6 h5).1
 .intro j o' lo hi t v id h1 h2 h3 h4 h5 h6 h7 h8;obtain⟨_,q2,q3⟩:=I.jZ j o' lo hi t v id h1 h2 h3 (j6 h4).1 h5 h6 h7 h8;exact⟨hs j o' lo hi t v id h1 h2 h3 h4 h5 h6 h7 h8,q2,q3⟩
 .intro x y o₁ o₂ lo hi lo' hi' t t' v v' id a1 a2 a3 a4 a5 a6 a7 a8;exact I.iF x y o₁ o₂ lo hi lo' hi' t t' v v' id a1 a2 a3 a4 a5 a6 (j6 a7).1 (j6 a8).1
 .intro z oz hz hL e he;by_cases hzi:z=i
  .subst hzi;rw[ho]at hz;cases hz;exact gY (hr e he)
  .unfold Ev.mark at hL;rw[if_neg hzi]at hL;exact gY (I.down z oz hz hL e he)
 .intro x j hx;have:x≠i:=by rintro rfl;exact nw j hx
  unfold Ev.mark;rw[if_neg this];exact I.wl x j hx
 .intro x l' h' hx hL;by_cases hxi:x=i
  .subst hxi;rw[hp]at hx;cases hx;exact hl
  .unfold Ev.mark at hL;rw[if_neg hxi]at hL;exact I.lo x l' h' hx hL
 .intro x l' h' hx hh;exact gY (I.hi x l' h' hx hh)
theorem Inv.step{k:Nat}(I:Inv P sh n ops pl X₀ q L X a st)(hP:fY ops pl k)(hM:∀(x:Nat) (o:Oper) (lo hi:Nat),ops[x]?=some o->pl[x]?=some (.p lo hi)->dJ o.op=true->∃t,o.dst=some t){i:Nat}{o:Oper}(hN:∀t,o.dst=some t->t<n)
  (ho:ops[i]?=some o) (hr:∀e∈cS o,L e=true) (hL:L i=false) {l h:Nat}(hp:pl[i]?=some (.p l h)) {K:Act->World->Prop}{Q:Exit->Act->World->Prop}
  (hK:∀X' a',Inv P sh n ops pl X₀ q (Ev.mark L i) X' a' st->K a' X'.w):wpOp P ops Q i K a X.w:=by
 obtain⟨hlq,hqh⟩:=I.ui hP ho hr hL hp;obtain⟨v,pn,hdst⟩:=I.now i o l h ho hp hlq hqh hL;have look:∀t∈looks ops.toList o,∀v,st.T.get t=some v->∃V,a.tmps[t]?=some V/\Rel X v V:=fun t ht v hv=>I.tmp t v hv (I.nB hP ho hr ht);have opnd:eJ X st.T a o.op:=oa fun t ht u hu=>look t (jb ht) u hu;have aN:∀(j:Nat) (o':Oper) (lo hi:Nat) (t:Tmp) (v:AV) (id:Nat),ops[j]?=some o'->pl[j]?=some (.p lo hi)->lo<=q->Ev.mark L i j=false->dJ o'.op=true->o'.dst=some t->st.T.get t=some v->gQ v=some id->X.s id=none:=fun j o' lo hi t v id h1 h2 h3 h4 h5 h6 h7 h8=>(I.jZ j o' lo hi t v id h1 h2 h3 (j6 h4).1 h5 h6 h7 h8).1;unfold wpOp;rw[ho];simp only[];rcases pn with⟨hw,rfl⟩|⟨hw,hmk,hrd⟩|⟨hw,hmk,id,ob,ha,hid,hlt,hge⟩
 .rw[Gh hw look];simp only[Bool.false_eq_true,if_false];exact hK X _ (I.pU hN ho hr hp hlq I.hX I.H I.E (ez.refl X) (fun t ht=>⟨_,hdst t ht,[],rfl,rfl⟩) aN)
 .rw[Gh hw look];simp only[if_true];left;rw[<-I.hX]at hrd;obtain⟨V,hrun,hR⟩:=nM I.H hrd rfl opnd;unfold Oper.wp;rw[hrun];exact hK X _ (I.pU hN ho hr hp hlq I.hX I.H I.E (ez.refl X) (fun t ht=>⟨_,hdst t ht,hR⟩) aN)
 .rw[Gh hw look];simp only[if_true];left;obtain⟨td,htd⟩:=hM i o l h ho hp hmk;have hidv:=(yQ ha).2;simp only at hidv;obtain⟨sn,_,_⟩:=I.jZ i o l h td v id ho hp hlq hL hmk htd (hdst td htd) hidv;rw[<-I.hX]at ha hid hlt;obtain⟨c,ob',V,hrun,hm⟩:=s0 I.H ha rfl opnd;have Ex:=ez.real (c:=c) (ob:=ob') I.H sn;have M:Made X ⟨aT X.s id (.at X.w.heap.size c),X.h,{ X.w with heap:=X.w.heap.push ob' },X.A⟩ id c ob ob':=⟨Ex,rfl,cd _ _ _,hid⟩;obtain⟨m1,m2⟩:=hm _ M;have H':=I.H.real (c:=c) (ob:=ob') sn hlt (fun o' h'=>by rw[hid]at h';cases h';exact m1);have E':aH X₀ ⟨aT X.s id (.at X.w.heap.size c),X.h,{ X.w with heap:=X.w.heap.push ob' },X.A⟩:=by
   have E:=I.E;refine⟨E.os,E.tape,E.output,by have:=E.size;simp;omega,?_,?_,E.next,?_,?_,E.len,E.same,E.A⟩
   .intro j l' hj;have:=E.sg j l' hj;show aT X.s id _ j=_;rw[cp _ _ _ (by rintro rfl;rw[sn]at this;cases this)];exact this
   .intro j l' hj h'
    replace h':aT X.s id _ j=some l':=h'
    rw[cp _ _ _ (by omega)]at h';exact E.bZ j l' hj h'
   .intro b hb hn;have:=E.size;show(X.w.heap.push ob')[b]?=_;rw[Array.getElem?_push,if_neg (by omega)];exact E.frame b hb hn
   .rintro b ⟨j,o₁,c₁,h1,h2⟩;obtain⟨h2,h3⟩:=h2
    replace h2:aT X.s id (.at X.w.heap.size c) j=some c₁:=h2
    by_cases hj:j=id
    .subst hj;rw[cd]at h2;cases h2;right;have:=E.size;have:b=X.w.heap.size:=h3;omega
    .rw[cp _ _ _ hj]at h2;exact E.bx b ⟨j,o₁,c₁,h1,h2,h3⟩
  unfold Oper.wp;rw[hrun];refine hK ⟨aT X.s id (.at X.w.heap.size c),X.h,{ X.w with heap:=X.w.heap.push ob' },X.A⟩ _ (Inv.pU (X':=⟨aT X.s id (.at X.w.heap.size c),X.h,{ X.w with heap:=X.w.heap.push ob' },X.A⟩) I hN ho hr hp hlq I.hX H' E' Ex (fun t ht=>⟨_,hdst t ht,m2⟩) ?_);intro j o' lo hi t v' id' h1 h2 h3 h4 h5 h6 h7 h8;obtain⟨hLj,hji⟩:=j6 h4;have s':=(I.jZ j o' lo hi t v' id' h1 h2 h3 hLj h5 h6 h7 h8).1;show aT X.s id _ id'=none;rw[cp _ _ _ ?_]
  .exact s'
  .rintro rfl;exact hji (I.iF j i o' o lo hi l h t td v' v id' h1 ho h2 hp h3 hlq hLj hL h5 hmk h6 htd h7 (hdst td htd) h8 hidv)
theorem Inv.enter{st':St}{h₁:Hp}(hsz:a.tmps.size=n)(hdf:a.defers=[])(hX:X.h=h₁)(H:ab X)(E:aH X₀ X){T₁:Tr AV}(S:rY P sh ops q ops.toList pl ⟨T₁,h₁⟩ st')
  (tmp:∀t v,T₁.get t=some v->(∀(x:Nat) (o:Oper) (hi:Nat),ops[x]?=some o->pl[x]?=some (.p q hi)->o.dst≠some t)->¬j4 ops pl q L t->∃V,a.tmps[t]?=some V/\Rel X v V)
  (now:∀(i:Nat) (o:Oper) (lo hi:Nat),ops[i]?=some o->pl[i]?=some (.p lo hi)->lo<q->q<=hi->L i=false->∃v,PN P sh ops X₀.h.next st'.T st'.h o v/\∀t,o.dst=some t->st'.T.get t=some v)
  (jZ:∀(i:Nat) (o:Oper) (lo hi:Nat) (t:Tmp) (v:AV) (id:Nat),ops[i]?=some o->pl[i]?=some (.p lo hi)->lo<q->L i=false->dJ o.op=true->o.dst=some t->st'.T.get t=some v->gQ v=some id ->
   X.s id=none/\id<h₁.next/\X₀.h.next<=id)
  (iF:∀(i j:Nat) (o o':Oper) (lo hi lo' hi':Nat) (t t':Tmp) (v v':AV) (id:Nat),ops[i]?=some o->ops[j]?=some o'->pl[i]?=some (.p lo hi)->pl[j]?=some (.p lo' hi')->lo<q->lo'<q->L i=false->L j=false ->
   dJ o.op=true->dJ o'.op=true->o.dst=some t->o'.dst=some t'->st'.T.get t=some v->st'.T.get t'=some v'->gQ v=some id->gQ v'=some id->i=j)
  (hun:∀(i hi:Nat),pl[i]?=some (.p q hi)->L i=false)
  (down:∀(z:Nat) (o:Oper),ops[z]?=some o->L z=true->∀e∈cS o,L e=true) (wl:∀(i j:Nat),pl[i]?=some (.w j)->(L i=true↔j<=q)) (lo:∀(i l h:Nat),pl[i]?=some (.p l h)->L i=true->l<=q)
  (hi:∀(i l h:Nat),pl[i]?=some (.p l h)->h<q->L i=true):Inv P sh n ops pl X₀ q L ⟨X.s,st'.h,X.w,X.A⟩ a st':=by
 subst hX;obtain⟨G,H'⟩:=Xu H S.next S.old S.wf;have new:∀(i:Nat) (o:Oper) (hi:Nat) (t:Tmp) (v:AV) (id:Nat),ops[i]?=some o->pl[i]?=some (.p q hi)->dJ o.op=true->o.dst=some t->st'.T.get t=some v->gQ v=some id->id<st'.h.next/\X.h.next<=id:=by intro i o hi t v id h1 h2 h3 h4 h5 h6;obtain⟨u,p1,p2⟩:=S.done i o hi (by simpa using h1) h2;rw[p2 t h4]at h5;cases h5;exact p1.ids h3 h6
 refine⟨hsz,hdf,rfl,H',E.trans G,?_,?_,?_,?_,down,wl,lo,hi⟩
 .intro t v hv hn;have hne:∀(x:Nat) (o:Oper) (hi:Nat),ops[x]?=some o->pl[x]?=some (.p q hi)->o.dst≠some t:=fun x o hi h1 h2 h3=>hn ⟨x,o,q,hi,h1,h2,Nat.le_refl _,hun x hi h2,h3⟩;rw[S.same t (fun x o hi h1 h2=>hne x o hi (by simpa using h1) h2)]at hv;obtain⟨V,h1,h2⟩:=tmp t v hv hne hn;exact⟨V,h1,h2.ext (G.db H)⟩
 .intro i o lo' hi' h1 h2 h3 h4 h5;rcases Nat.lt_or_ge lo' q with r|r
  .exact now i o lo' hi' h1 h2 r h4 h5
  .have:lo'=q:=by omega
   subst this;obtain⟨v,p1,p2⟩:=S.done i o hi' (by simpa using h1) h2;exact⟨v,p1.congr (fun _ _=>rfl) (dm.refl _) (Nat.le_refl _) E.next,p2⟩
 .intro i o lo' hi' t v id h1 h2 h3 h4 h5 h6 h7 h8;rcases Nat.lt_or_ge lo' q with r|r
  .obtain⟨p1,p2,p3⟩:=jZ i o lo' hi' t v id h1 h2 r h4 h5 h6 h7 h8;exact⟨p1,Nat.lt_of_lt_of_le p2 S.next,p3⟩
  .have:lo'=q:=by omega
   subst this;obtain⟨p1,p2⟩:=new i o hi' t v id h1 h2 h5 h6 h7 h8;refine⟨?_,p1,Nat.le_trans E.next p2⟩;show X.s id=none;cases hq:X.s id with|none=>rfl|some l=>have:=H.bZ id l hq;omega
 .intro i j o o' lo₁ hi₁ lo₂ hi₂ t t' v v' id a1 a2 a3 a4 a5 a6 a7 a8 a9 a10 a11 a12 a13 a14 a15 a16;rcases Nat.lt_or_ge lo₁ q with r|r<;>rcases Nat.lt_or_ge lo₂ q with r'|r'
  .exact iF i j o o' lo₁ hi₁ lo₂ hi₂ t t' v v' id a1 a2 a3 a4 r r' a7 a8 a9 a10 a11 a12 a13 a14 a15 a16
  .have:lo₂=q:=by omega
   subst this;have p1:=(jZ i o lo₁ hi₁ t v id a1 a3 r a7 a9 a11 a13 a15).2.1;have p2:=(new j o' hi₂ t' v' id a2 a4 a10 a12 a14 a16).2;omega
  .have:lo₁=q:=by omega
   subst this;have p1:=(jZ j o' lo₂ hi₂ t' v' id a2 a4 r' a8 a10 a12 a14 a16).2.1;have p2:=(new i o hi₁ t v id a1 a3 a9 a11 a13 a15).2;omega
  .have e1:lo₁=q:=by omega
   have e2:lo₂=q:=by omega
   subst e1;subst e2;exact S.uniq i j o o' hi₁ hi₂ t t' v v' id (by simpa using a1) (by simpa using a2) a3 a4 a9 a10 a11 a12 a13 a14 a15 a16
end
theorem Xr(L:Nat->Bool)(i:Nat):Ev.mark L i i=true:=by unfold Ev.mark;simp
theorem lA(L:Nat->Bool){i j:Nat}(h:j≠i):Ev.mark L i j=L j:=by unfold Ev.mark;rw[if_neg h]
section
variable{P:Program}{sh:TypeId->Option Sh}{n:Nat}{ops:Array Oper}{pl:List PE}{X₀:Cx}{q:Nat}{L:Nat->Bool}{X:Cx}{a:Act}{st:St}
theorem Inv.write{k:Nat}(I:Inv P sh n ops pl X₀ q L X a st)(hP:fY ops pl k)(hM:∀(x:Nat) (o:Oper) (lo hi:Nat),ops[x]?=some o->pl[x]?=some (.p lo hi)->dJ o.op=true->∃t,o.dst=some t)
  (hD:∀(x y:Nat) (o o':Oper) (t:Tmp),ops[x]?=some o->ops[y]?=some o'->o.dst=some t->o'.dst=some t->x=y)
  {i:Nat}{o:Oper}(ho:ops[i]?=some o) (hr:∀e∈cS o,L e=true) (hL:L i=false) (hp:pl[i]?=some (.w (q+1)))
  {ch:Bool}{st₁ st₂:St}{b:Bool}{T:Tr AV}{v:AV}(hch:ch=false->dm st.h st₁.h) (W:uC ops st.T o b T) (hT:cI n T o.dst v=some st₁.T)
  (hA:(b=true/\tW P T st.h o v st₁.h)\/(b=false/\v=.bk []/\st₁.h=st.h)) (hS:wf st₁.h->rY P sh ops (q+1) ops.toList pl st₁ st₂)
  (hC:wR P ops (q+1) ch (dl o.dst++mv (q+1) ops.toList pl) st₂ ops.toList pl) {K:Act->World->Prop}{Q:Exit->Act->World->Prop}
  (hK:∀X' a',Inv P sh n ops pl X₀ (q+1) (Ev.mark L i) X' a' st₂->K a' X'.w):wpOp P ops Q i K a X.w:=by
 have look:∀t∈looks ops.toList o,∀v,st.T.get t=some v->∃V,a.tmps[t]?=some V/\Rel X v V:=fun t ht v hv=>I.tmp t v hv (I.nB hP ho hr ht);have opnd:eJ X T a o.op:=oa fun t ht u hu=>look t (jb ht) u (W.get t u hu);have Tget:∀t,T.get t=st.T.get t:=by intro t;cases h:T.get t with|some u=>rw[W.get t u h]|none=>cases h':st.T.get t with|none=>rfl|some u=>rw[W.get' t u h']at h;cases h
 have hg:=iJ hT;have fin:∀X' V,aH X X'->ab X'->X'.h=st₁.h->Rel X' v V->K (a.put o.dst V) X'.w:=by
  intro X' V E H' hh hv;have S:=hS (by rw[<-hh];exact H'.lt);have done:∀(x l h:Nat),pl[x]?=some (.p l h)->h<=q->L x=true:=fun x l h h1 h2=>I.due hP ho hr hp ops.size x l h (by omega) h1 h2;have xi:∀{x l h:Nat},pl[x]?=some (.p l h)->x≠i:=by rintro x l h h1 rfl;rw[hp]at h1;cases h1
  have T2:∀(x:Nat) (ox:Oper) (lo hi:Nat) (t:Tmp),ops[x]?=some ox->pl[x]?=some (.p lo hi)->lo<=q->ox.dst=some t->st₂.T.get t=st.T.get t:=by intro x ox lo hi t h1 h2 h3 h4;rw[S.same t (fun y oy hi' g1 g2 g3=>by have:=hD x y ox oy t h1 (by simpa using g1) h4 g3;subst this;rw[h2]at g2;cases g2;omega),hg t,if_neg (fun r=>xi h2 (hD x i ox o t h1 ho h4 r)),Tget t]
  have E':=I.E.trans E;refine hK ⟨X'.s,st₂.h,X'.w,X'.A⟩ _ (Inv.enter (X:=X') (h₁:=st₁.h) (T₁:=st₁.T) ?_ ?_ hh H' E' S ?_ ?_ ?_ ?_ ?_ ?_ ?_ ?_ ?_)
  .cases hd:o.dst<;>simp[Act.put,I.size]
  .cases hd:o.dst<;>simp[Act.put,I.defers]
  .intro t u hu hne hn;rw[hg t]at hu;by_cases hd:o.dst=some t
   .rw[if_pos hd]at hu;cases hu;have hlt:t<a.tmps.size:=by rw[I.size];rw[hd]at hT;exact AR hT
    exact⟨V,by rw[hd];simp[Act.put,hlt],hv⟩
   .rw[if_neg hd,Tget t]at hu;obtain⟨V',h1,h2⟩:=I.tmp t u hu (by rintro⟨x,ox,lo,hi,p1,p2,p3,p4,p5⟩;exact hn ⟨x,ox,lo,hi,p1,p2,by omega,by rw[lA L (xi p2)];exact p4,p5⟩);refine⟨V',?_,h2.ext (E.db I.H)⟩;cases hdd:o.dst with|none=>simpa[Act.put]using h1|some t'=>simp only[Act.put,Array.getElem?_setIfInBounds];rw[if_neg (fun r=>hd (by rw[hdd,r]))];exact h1
  .intro x ox lo hi h1 h2 h3 h4 h5;rw[lA L (xi h2)]at h5;obtain⟨u,pn,hdu⟩:=I.now x ox lo hi h1 h2 (by omega) (by omega) h5;obtain⟨c1,c2⟩:=hC x ox lo hi (by simpa using h1) h2 h3 h4;have hdst:∀t,ox.dst=some t->st₂.T.get t=some u:=fun t ht=>by rw[T2 x ox lo hi t h1 h2 (by omega) ht];exact hdu t ht
   have lk:∀t∈looks ops.toList ox,st₂.T.get t=st.T.get t:=by intro t ht;have hnot:=c1 t ht;rw[S.same t (fun y oy hi' g1 g2 g3=>hnot (List.mem_append.2 (.inr (QN g1 g2 g3)))),hg t,if_neg (fun r=>hnot (List.mem_append.2 (.inl (by rw[r];simp[dl])))),Tget t]
   have hw:=sA (ops:=ops) (T:=st.T) (T':=st₂.T) lk;rcases pn with⟨w1,rfl⟩|⟨w1,m1,r1⟩|⟨w1,m1,id,ob,ha,hid,hlt,hge⟩
   .exact⟨.bk [],.inl ⟨hw.trans w1,rfl⟩,hdst⟩
   .cases hc:ch with
    |false=>have hle:dm st.h st₂.h:=(hch hc).trans (fun b' o' q'=>by rw[S.old b' (by rw[<-hh]at q' |-;exact H'.lt b' o' q')];exact q');exact⟨u,.inr (.inl ⟨hw.trans w1,m1,GP hle r1 (fun t ht=>lk t (jb ht))⟩),hdst⟩|true=>
     rcases c2 hc m1 with g|⟨g,u',r2,d2⟩
     .rw[hw,w1]at g;cases g
     .exact⟨u',.inr (.inl ⟨g,m1,r2⟩),d2⟩
   .obtain⟨td,htd⟩:=hM x ox lo hi h1 h2 m1;have hidv:=(yQ ha).2;simp only at hidv;obtain⟨sn,hlt',_⟩:=I.jZ x ox lo hi td u id h1 h2 (by omega) h5 m1 htd (hdu td htd) hidv;have hob:st₂.h.tr.get id=some ob:=by have e1:=E.same id (by rw[I.hX];exact hlt') sn;rw[hh,I.hX,hid]at e1;have e2:=S.old id (by rw[<-hh]at e1 |-;exact H'.lt id ob e1);rw[e2];exact e1
    refine⟨u,.inr (.inr ⟨hw.trans w1,m1,id,ob,GS ha (fun t ht=>lk t (jb ht)),hob,S.wf id ob hob,hge⟩),hdst⟩
  .intro x ox lo hi t u id h1 h2 h3 h4 h5 h6 h7 h8;rw[lA L (xi h2)]at h4;rw[T2 x ox lo hi t h1 h2 (by omega) h6]at h7;obtain⟨p1,p2,p3⟩:=I.jZ x ox lo hi t u id h1 h2 (by omega) h4 h5 h6 h7 h8;refine⟨?_,?_,p3⟩
   .cases hq:X'.s id with|none=>rfl|some l=>have:=E.bZ id l (by rw[I.hX];exact p2) hq;rw[p1]at this;cases this
   .have:=E.next;rw[hh,I.hX]at this;omega
  .intro x y ox oy lo₁ hi₁ lo₂ hi₂ t t' u u' id a1 a2 a3 a4 a5 a6 a7 a8 a9 a10 a11 a12 a13 a14 a15 a16;rw[lA L (xi a3)]at a7;rw[lA L (xi a4)]at a8;rw[T2 x ox lo₁ hi₁ t a1 a3 (by omega) a11]at a13;rw[T2 y oy lo₂ hi₂ t' a2 a4 (by omega) a12]at a14;exact I.iF x y ox oy lo₁ hi₁ lo₂ hi₂ t t' u u' id a1 a2 a3 a4 (by omega) (by omega) a7 a8 a9 a10 a11 a12 a13 a14 a15 a16
  .intro x hi hx;rw[lA L (xi hx)];cases hq:L x with|false=>rfl|true=>have:=I.lo x (q+1) hi hx hq;omega
  .intro z oz hz hLz e he;by_cases hzi:z=i
   .subst hzi;rw[ho]at hz;cases hz;exact gY (hr e he)
   .rw[lA L hzi]at hLz;exact gY (I.down z oz hz hLz e he)
  .intro x j hx;by_cases hxi:x=i
   .subst hxi;rw[hp]at hx;cases hx;rw[Xr];exact⟨fun _=>Nat.le_refl _,fun _=>rfl⟩
   .rw[lA L hxi,I.wl x j hx];constructor
    .intro r;omega
    .intro r;rcases Nat.lt_or_ge q j with s|s
     .have:j=q+1:=by omega
      subst this;exact absurd (hP.uniq x i _ hx hp) hxi
     .exact s
  .intro x l h hx hLx;rw[lA L (xi hx)]at hLx;have:=I.lo x l h hx hLx;omega
  .intro x l h hx hh';exact gY (done x l h hx (by omega))
 unfold wpOp;rw[ho];simp only[];rw[W.is X a (fun j w oj t v hgd hj hd hv=>look t (mc (ops:=ops) hgd hj hd) v hv)];rcases hA with⟨rfl,A⟩|⟨rfl,rfl,hh⟩
 .simp only[if_true];left;exact A X a I.hX I.H opnd K Q (fun X' V h1 h2 h3 h4=>fin X' V h1 h2 h3 h4)
 .simp only[Bool.false_eq_true,if_false];exact fin X undef (aH.refl X) I.H (by rw[hh];exact I.hX) ⟨[],rfl,rfl⟩
end
theorem AH{P:Program}{sh:TypeId->Option Sh}{n:Nat}{ops:Array Oper}{pl:List PE}{k:Nat}(hP:fY ops pl k)(hM:∀(x:Nat) (o:Oper) (lo hi:Nat),ops[x]?=some o->pl[x]?=some (.p lo hi)->dJ o.op=true->∃t,o.dst=some t)
  (hD:∀(x y:Nat) (o o':Oper) (t:Tmp),ops[x]?=some o->ops[y]?=some o'->o.dst=some t->o'.dst=some t->x=y) (hN:∀(x:Nat) (o:Oper) (t:Tmp),ops[x]?=some o->o.dst=some t->t<n)
  {X₀:Cx}{fin:St}{Q:Exit->Act->World->Prop}(hQ:∀X a,RF X n fin a->aH X₀ X->Q .normal a X.w) :
  ∀(fuel:Nat) (r q:Nat) (listed:Array Bool) (st:St) (X:Cx) (a:Act),q+r=k->uD P sh n ops pl r q st fin->listed.size=ops.size->left ops.size (fun j=>listed.getD j false)<=fuel ->
   Inv P sh n ops pl X₀ q (fun j=>listed.getD j false) X a st->wpAny P .any ops Q fuel listed a X.w:=by
 have iV:∀(listed:Array Bool),listed.size=ops.size->∀i,i<ops.size->listed.getD i true=listed.getD i false:=by intro listed hs i hi;simp[Array.getD_eq_getD_getElem?,show i<listed.size by omega]
 have fini:∀(r q:Nat) (listed:Array Bool) (st:St) (X:Cx) (a:Act),q+r=k->uD P sh n ops pl r q st fin->listed.size=ops.size ->
   Inv P sh n ops pl X₀ q (fun j=>listed.getD j false) X a st->Region.ready .any ops listed=[]->Q .normal a X.w:=by
  intro r q listed st X a hqr ht hs I hrd;have all:∀i,i<ops.size->listed.getD i false=true:=by
   intro i
   induction i using Nat.strongRecOn with
   |_ i ih=>
    intro hi;cases hx:listed.getD i false with
    |true=>rfl|false=>
     have ho:ops[i]?=some ops[i]:=by simp[hi]
     have:i∈Region.ready .any ops listed:=FW (by rw[iV listed hs i hi];exact hx) ho (fun e he=>ih e (hP.below i _ ho e he) (Nat.lt_trans (hP.below i _ ho e he) hi));rw[hrd]at this;cases this
  cases r with
  |succ r=>obtain⟨i,o,ch,st₁,st₂,b,T,v,h1,h2,_⟩:=ht;have:=(I.wl i (q+1) h2).1 (all i (fi h1));omega
  |zero=>have:fin=st:=ht;subst this;refine hQ X a ⟨I.hX,⟨I.size,I.defers,?_⟩,I.H⟩ I.E;intro t v hv;refine I.tmp t v hv ?_;rintro⟨x,o,lo,hi,p1,p2,p3,p4,p5⟩;simp only[]at p4;rw[all x (fi p1)]at p4;cases p4
 intro fuel
 induction fuel with
 |zero=>
  intro r q listed st X a hqr ht hs hl I;have hrd:Region.ready .any ops listed=[]:=by
   cases hx:Region.ready .any ops listed with
   |nil=>rfl|cons i l=>
    exfalso;obtain⟨h1,o,ho,_⟩:=sD (i:=i) (by rw[hx];simp);have hi:=fi ho;have h0:left ops.size (fun j=>listed.getD j false)=0:=by omega
    have h3:=mf h0 i hi;rw[iV listed hs i hi]at h1;rw[h1]at h3;cases h3
  exact⟨hrd,fini r q listed st X a hqr ht hs I hrd⟩
 |succ fuel ih=>
  intro r q listed st X a hqr ht hs hl I;refine⟨fun hrd=>fini r q listed st X a hqr ht hs I hrd,?_⟩;intro i hi;obtain⟨h1,o,ho,h2⟩:=sD hi;have ba:=fi ho;rw[iV listed hs i ba]at h1;have hL:(fun j=>(listed.setIfInBounds i true).getD j false)=Ev.mark (fun j=>listed.getD j false) i:=by
   funext j;unfold Ev.mark;by_cases hj:j=i
   .subst hj;simp[Array.getD_eq_getD_getElem?,Array.getElem?_setIfInBounds,show j<listed.size by omega]
   .rw[if_neg hj];exact getD_set_ne false (fun r=>hj r.symm)
  have hsz:(listed.setIfInBounds i true).size=ops.size:=by simp[hs]
  have hleft:left ops.size (fun j=>(listed.setIfInBounds i true).getD j false)<=fuel:=by rw[hL];have:=pf (L:=fun j=>listed.getD j false) (i:=i) h1 ops.size;rw[if_pos ba]at this;omega
  obtain⟨pe,hpe⟩:∃pe,pl[i]?=some pe:=⟨pl[i]'(by rw[hP.len];exact ba),by simp[hP.len,ba]⟩;cases pe with
  |p l h=>refine I.step hP hM (fun t htd=>hN i o t ho htd) ho h2 h1 hpe ?_;intro X' a' I';exact ih r q _ st X' a' hqr ht hsz hleft (by rw[hL];exact I')|w j=>
   have hj:j=q+1:=by
    obtain⟨w1,w2,w3⟩:=hP.w i o j ho hpe;have hn:¬j<=q:=fun r=>by have:=(I.wl i j hpe).2 r;rw[h1]at this;cases this
    rcases w3 with r|⟨e,pe,g1,g2,g3⟩
    .omega
    .have hLe:=h2 e g1;cases pe with|w j'=>have:=(I.wl e j' g2).1 hLe;simp only[PE.num]at g3;omega|p l' h'=>have:=I.lo e l' h' g2 hLe;simp only[PE.num]at g3;omega
   subst hj;have hk:=(hP.w i o (q+1) ho hpe).2.1;obtain⟨r,rfl⟩:∃r',r=r'+1:=⟨r-1,by omega⟩;obtain⟨i',o',ch,st₁,st₂,b,T,v,g1,g2,g3,g4,g5,g6,g7,g8,g9⟩:=ht;have:=hP.uniq i' i _ g2 hpe;subst this;rw[ho]at g1;cases g1;refine I.write hP hM hD ho h2 h1 hpe g3 g4 g5 g6 g7 g8 ?_;intro X' a' I';exact ih r (q+1) _ st₂ X' a' (by omega) g9 hsz hleft (by rw[hL];exact I')
def zT(P:Program)(G:Cx->Prop)(base n:Nat)(c:Code)(st:St)(e:Ev.Ex)(st':St):Prop:=∀X₀ X a,(X₀.h.next=base/\G X₀)->ab X₀->aH X₀ X->RF X n st a->∀Q:Exit->Act->World->Prop,
 (∀X' a',RF X' n st' a'->aH X₀ X'->Q e.to a' X'.w)->c.wp P Q a X.w
theorem SX{R:Type}{G:Cx->Prop}{P:Program}(hm:P.follows .mixedOrders=true){sh:TypeId->Option Sh}{call:fj R}(hc:cT P call){n base:Nat}{ops:Array Oper}{st:St}{k:St->Option R}{r:R}(e:zW P sh call n ops st k=some r)(id:Nat) :
  ∃st',k st'=some r/\zT P G base n (.region id ops true) st .normal st':=by
 unfold zW at e;split at e<;>try cases e
 rename_i m hpk;split at e<;>try cases e
 rename_i hd hlt;have hP:=sy hpk;obtain⟨d1,d2⟩:=Q4 hd (by rw[hP.len];simp);obtain⟨st₁,e,S'⟩:=JJ e (fun x y o o' hi hi' t q1 q2 q3 q4 q5 q6=>KS hP (by simpa using q1) (by simpa using q2) q4 q5 q6) d1;obtain⟨fin,hk,ht⟩:=Kw hc hP d1 m 0 st₁ e;refine⟨fin,hk,?_⟩;intro X₀ X a hb hH hE RR Q hQ;refine wp_region_any hm ?_;have Hd:=RR.H.drew (X.w.drawn+1);have S:=S' (by rw[<-RR.h];exact RR.H.lt);have hgetD:∀j,(Array.replicate ops.size false).getD j false=false:=by intro j;simp only[Array.getD_eq_getD_getElem?,Array.getElem?_replicate];split<;>rfl
 have I:Inv P sh n ops (ik ops.toList) { X with w:={ X.w with drawn:=X.w.drawn+1 } } 0 (fun j=>(Array.replicate ops.size false).getD j false) ⟨X.s,st₁.h,{ X.w with drawn:=X.w.drawn+1 },X.A⟩ a st₁:=by
  refine Inv.enter (X:={ X with w:={ X.w with drawn:=X.w.drawn+1 } }) (h₁:=st.h) (T₁:=st.T) RR.T.size RR.T.defers RR.h Hd (aH.refl _) S ?_ ?_ ?_ ?_ (fun i hi _=>hgetD i) ?_ ?_ ?_ ?_
  .intro t v hv _ _;obtain⟨V,h1,h2⟩:=RR.T.get t v hv;exact⟨V,h1,h2.ext (ez.of_heap (X:=X) (w:={ X.w with drawn:=X.w.drawn+1 }) rfl)⟩
  .intro i o lo hi _ _ h;omega
  .intro i o lo hi t v id _ _ h;omega
  .intro i j o o' lo hi lo' hi' t t' v v' id _ _ _ _ h;omega
  .intro z o _ h;rw[hgetD]at h;cases h
  .intro i j hj;simp only[hgetD];have hlt':i<ops.size:=by rw[<-hP.len];exact dR hj
   have:=(hP.w i ops[i] j (by simp[hlt']) hj).1;constructor
   .intro r;cases r
   .intro r;omega
  .intro i l h _ hL;rw[hgetD]at hL;cases hL
  .intro i l h _ hh;omega
 have hleft:∀m (L:Nat->Bool),left m L<=m:=by
  intro m L
  induction m with|zero=>simp[left]|succ m ih=>simp only[left];split<;>omega
 refine AH (X₀:={ X with w:={ X.w with drawn:=X.w.drawn+1 } }) hP (fun x o lo hi h=>d2 x o lo hi (by simpa using h)) (fun x y o o' t h1 h2=>d1 x y o o' t (by simpa using h1) (by simpa using h2)) (fun x o t h1 h2=>GB hlt x o t (by simpa using h1) h2) ?_ ops.size m 0 _ st₁ _ a (by omega) ht (by simp) (hleft _ _) I;intro X' a' R' E';exact hQ X' a' R' (hE.trans ((aH.drew X _).trans E'))
open Go.Proofs.YtdcnjfbffckblaaGreat.Ev (Tr Tr.bz nth bI)
def cq:List (Nat×Nat)->Nat->Option Nat
 |[],_=>none|p::l,j=>match Nat.beq p.1 j with|true=>some p.2|false=>cq l j
def zd(base:Nat)(m:List (Nat×Nat))(j:Nat):Option Nat:=match Nat.blt j base with|true=>some j|false=>cq m j
def VB(base j:Nat):Option Nat:=match Nat.blt j base with|true=>some j|false=>none
mutual
def fL(f:Nat->Option Nat):AV->Option AV
 |.bool b=>some (.bool b)|.int k n=>some (.int k n)|.str s=>some (.str s)|.cg=>some .cg|.av=>some .av|.cE=>some .cE|.cD=>some .cD|.cZ=>some .cZ|.fU=>some .fU|.ptr b o=>match f b with|some b=>some (.ptr b o)|none=>none
 |.da b i z o=>match f b with|some b=>some (.da b i z o)|none=>none
 |.dO σ d o=>some (.dO σ d o)|.hd b τ=>match f b with|some b=>some (.hd b τ)|none=>none
 |.vw b τ o l=>match f b with|some b=>some (.vw b τ o l)|none=>none
 |.fz τ L=>some (.fz τ L)|.eW τ z L=>some (.eW τ z L)|.mp b=>match f b with|some b=>some (.mp b)|none=>none
 |.dk b=>match f b with|some b=>some (.dk b)|none=>none
 |.rp b i=>match f b with|some b=>some (.rp b i)|none=>none
 |.ra b i=>match f b with|some b=>some (.ra b i)|none=>none
 |.func g x c=>match jx f x with
  |some x=>match jx f c with|some c=>some (.func g x c)|none=>none
  |none=>none
 |.agg l=>match jx f l with|some l=>some (.agg l)|none=>none
 |.bk l=>match jx f l with|some l=>some (.bk l)|none=>none
termination_by structural x=>x
def jx(f:Nat->Option Nat):List AV->Option (List AV)
 |[]=>some []|v::l=>match fL f v with
  |some v=>match jx f l with|some l=>some (v::l)|none=>none
  |none=>none
termination_by structural x=>x
end
def fK(f:Nat->Option Nat):aC->Option aC
 |.cells l ty=>match jx f l with|some l=>some (.cells l ty)|none=>none
 |.arr τ L ty=>some (.arr τ L ty)|.map κ σ M=>some (.map κ σ M)|.dG L ty=>some (.dG L ty)|.cR τ i L vs ty=>match jx f vs with|some vs=>some (.cR τ i L vs ty)|none=>none
structure Rn(f:Nat->Option Nat)(X X':Cx):Prop where
 sg:∀j i l,f j=some i->X.s j=some l->X'.s i=some l
 K:fw X.w X.out X'.w X'.out
 obj:∀j i n,f j=some i->rowOf X'.h.tr i=some n->rowOf X.h.tr j=some n
mutual
theorem AS{f:Nat->Option Nat}{X X':Cx}(E:Rn f X X'):∀{v v':AV}{V:Value},fL f v=some v'->Rel X v V->Rel X' v' V
 |.bool _,v',_,e,h|.int _ _,v',_,e,h|.str _,v',_,e,h|.cg,v',_,e,h|.av,v',_,e,h|.cE,v',_,e,h|.cD,v',_,e,h|.cZ,v',_,e,h|.fU,v',_,e,h=>by simp only[fL,aX]at e;subst e;exact h|.ptr b off,v',V,e,⟨x,c,h1,h2⟩=>by
  simp only[fL]at e;split at e<;>try cases e
  rename_i i hi;exact⟨x,c,E.sg _ _ _ hi h1,h2⟩
 |.da b i z o,v',V,e,⟨x,c,h1,h2,h3⟩=>by
  simp only[fL]at e;split at e<;>try cases e
  rename_i b' hb;exact⟨x,c,E.sg _ _ _ hb h1,h2,fun n q=>h3 n (E.obj _ _ n hb q)⟩
 |.dO σ d o,v',V,e,⟨b,off,cs,h1,h2,h3,h4⟩=>by simp only[fL,aX]at e;subst e;obtain⟨k1,k2⟩:=h4.aN E.K h2;exact⟨b,off,cs,h1,k2,h3.aN E.K,k1⟩
 |.hd b τ,v',V,e,⟨l,h1,hc,h2⟩=>by
  simp only[fL]at e;split at e<;>try cases e
  rename_i b' hb;exact⟨l,E.sg _ _ _ hb h1,hc,fun n q=>h2 n (E.obj _ _ n hb q)⟩
 |.vw b τ off len,v',V,e,⟨l,a,c,h1,h2,h3,h4,h5,h6⟩=>by
  simp only[fL]at e;split at e<;>try cases e
  rename_i b' hb;exact⟨l,a,c,E.sg _ _ _ hb h1,h2,h3,h4,h5,fun n q=>h6 n (E.obj _ _ n hb q)⟩
 |.fz τ L,v',V,e,h=>by simp only[fL,aX]at e;subst e;exact Cs.aN E.K (σ:=.sl τ) h|.eW τ z L,v',V,e,h=>by simp only[fL,aX]at e;subst e;exact⟨Cs.aN E.K (σ:=.sl τ) h.1,h.2⟩|.mp b,v',V,e,⟨x,c,h1,h2⟩=>by
  simp only[fL]at e;split at e<;>try cases e
  rename_i i hi;exact⟨x,c,E.sg _ _ _ hi h1,h2⟩
 |.dk b,v',V,e,⟨l,h1,h2⟩=>by
  simp only[fL]at e;split at e<;>try cases e
  rename_i i hi;exact⟨l,E.sg _ _ _ hi h1,h2⟩
 |.rp b i,v',V,e,⟨x,c,m,p,h1,h2⟩=>by
  simp only[fL]at e;split at e<;>try cases e
  rename_i k hk;exact⟨x,c,m,p,E.sg _ _ _ hk h1,h2⟩
 |.ra b i,v',V,e,⟨x,c,m,h1,h2⟩=>by
  simp only[fL]at e;split at e<;>try cases e
  rename_i k hk;exact⟨x,c,m,E.sg _ _ _ hk h1,h2⟩
 |.func g x c,v',V,e,⟨xs,cs,h1,h2,h3⟩=>by
  simp only[fL]at e;split at e<;>try cases e
  rename_i x' hx;split at e<;>try cases e
  rename_i c' hc;exact⟨xs,cs,h1,mn E hx h2,mn E hc h3⟩
 |.agg l,v',V,e,⟨cs,h1,h2⟩=>by
  simp only[fL]at e;split at e<;>try cases e
  rename_i x' hx;exact⟨cs,h1,mn E hx h2⟩
 |.bk l,v',V,e,⟨cs,h1,h2⟩=>by
  simp only[fL]at e;split at e<;>try cases e
  rename_i x' hx;exact⟨cs,h1,mn E hx h2⟩
theorem mn{f:Nat->Option Nat}{X X':Cx}(E:Rn f X X'):∀{l l':List AV}{cs:List Value},jx f l=some l'->bg X l cs->bg X' l' cs
 |[],l',_,e,h=>by simp only[jx,aX]at e;subst e;exact h|x::l,l',_,e,⟨v,r,e2,h1,h2⟩=>by
  simp only[jx]at e;split at e<;>try cases e
  rename_i x' hx;split at e<;>try cases e
  rename_i l' hl;exact⟨v,r,e2,AS E hx h1,mn E hl h2⟩
end
theorem OS{f:Nat->Option Nat}{o o':aC}(e:fK f o=some o'):o'.row=o.row:=by
 cases o with
 |cells l ty=>simp only[fK]at e;split at e<;>cases e;rfl
 |arr τ L ty=>simp only[fK,aX]at e;subst e;rfl|map κ σ M=>simp only[fK,aX]at e;subst e;rfl|dG L ty=>simp only[fK,aX]at e;subst e;rfl|cR τ i L vs ty=>simp only[fK]at e;split at e<;>cases e;rfl
theorem Lm{f:Nat->Option Nat}{X X':Cx}(E:Rn f X X')(hw:X'.w=X.w){l:Loc}{o o':aC}(e:fK f o=some o')(h:bG X l o):bG X' l o':=by
 cases o with
 |cells vs ty=>
  simp only[fK]at e;split at e<;>try cases e
  rename_i l' hl;obtain⟨b,c,cs,h1,h2,h3⟩:=h;exact⟨b,c,cs,h1,by rw[hw];exact h2,mn E hl h3⟩
 |arr τ L ty=>
  simp only[fK,aX]at e;subst e;cases l with
  |nil=>exact h|«at» b c=>obtain⟨cs,tail,h1,h2,h3,h4⟩:=h;exact⟨cs,tail,by rw[hw];exact h1,h2.mono (fun x d q=>q.aN E.K),h3,h4⟩
  |bN _ _ _=>exact h.elim
 |map κ σ M=>simp only[fK,aX]at e;subst e;obtain⟨x,c,es,clk,h1,h2,h3⟩:=h;exact⟨x,c,es,clk,h1,by rw[hw];exact h2,h3.aN E.K⟩
 |dG L ty=>simp only[fK,aX]at e;subst e;cases l with|nil=>exact h|«at» b c=>exact h.elim|bN b c m=>obtain⟨tail,ty',h1,h2,h3,h4⟩:=h;exact⟨tail,ty',by rw[hw];exact h1,h2,h3.ext E.K (fun p _=>by rw[hw];exact⟨rfl,rfl⟩),h4⟩
 |cR τ i L vs ty=>
  simp only[fK]at e;split at e<;>try cases e
  rename_i l' hl;obtain⟨b,c,pre,mid,post,tail,h0,h1,h2,h3,h4,h5⟩:=h;exact⟨b,c,pre,mid,post,tail,h0,by rw[hw];exact h1,h2.mono (fun x d q=>q.aN E.K),mn E hl h3,h4.mono (fun x d q=>q.aN E.K),h5⟩
def zV(base:Nat)(h:Tr aC):Nat->Tr aC->Option (Tr aC)
 |0,t=>some t|k+1,t=>match zV base h k t with
  |some t=>match h.get k with
   |some o=>match fK (VB base) o with|some o=>Tr.set FT t k (some o)|none=>none
   |none=>some t
  |none=>none
def kj(f:Nat->Option Nat)(h:Tr aC):List (Nat×Nat)->Tr aC->Option (Tr aC)
 |[],t=>some t|p::m,t=>match kj f h m t with
  |some t=>match h.get p.1 with
   |some o=>match fK f o with|some o=>Tr.set FT t p.2 (some o)|none=>none
   |none=>some t
  |none=>none
def pQ(f:Nat->Option Nat)(n:Nat)(T:Tr AV):List Tmp->Option (Tr AV)
 |[]=>some .nil|t::l=>match pQ f n T l with
  |some T'=>match T.get t with
   |some v=>match fL f v with|some v=>cI n T' (some t) v|none=>none
   |none=>none
  |none=>none
def ue(j i:Nat):List (Nat×Nat)->Bool
 |[]=>true|p::m=>match Nat.beq p.1 j with|true=>false|false=>match Nat.beq p.2 i with|true=>false|false=>ue j i m
def zb(base nx:Nat):List (Nat×Nat)->Bool
 |[]=>true|p::m=>match Nat.ble base p.1,Nat.ble base p.2,Nat.blt p.2 nx,ue p.1 p.2 m with|true,true,true,true=>zb base nx m|_,_,_,_=>false
theorem Q7{j i:Nat}:∀{m:List (Nat×Nat)},ue j i m=true->∀p∈m,p.1≠j/\p.2≠i
 |[],_,p,hp=>by cases hp
 |q::m,h,p,hp=>by
  simp only[ue]at h;split at h<;>try cases h
  rename_i h1;split at h<;>try cases h
  rename_i h2;rcases List.mem_cons.1 hp with rfl|hp
  .exact⟨Nat.ne_of_beq_eq_false h1,Nat.ne_of_beq_eq_false h2⟩
  .exact Q7 h p hp
structure mb(base nx:Nat)(m:List (Nat×Nat)):Prop where
 lo:∀p∈m,base<=p.1/\base<=p.2/\p.2<nx
 fst:∀p∈m,∀q∈m,p.1=q.1->p=q
 snd:∀p∈m,∀q∈m,p.2=q.2->p=q
theorem KH{base nx:Nat}:∀{m:List (Nat×Nat)},zb base nx m=true->mb base nx m
 |[],_=>⟨fun p h=>(nomatch h),fun p h=>(nomatch h),fun p h=>(nomatch h)⟩
 |p::m,h=>by
  simp only[zb]at h;split at h<;>try cases h
  rename_i h1 h2 h3 h4;have h1:=Nat.le_of_ble_eq_true h1;have h2:=Nat.le_of_ble_eq_true h2;rw[Nat.blt_eq]at h3;have h4:=Q7 h4;obtain⟨a,b,c⟩:=KH h;refine⟨?_,?_,?_⟩
  .intro q hq;rcases List.mem_cons.1 hq with rfl|hq
   .exact⟨h1,h2,h3⟩
   .exact a q hq
  .intro q hq r hr e;rcases List.mem_cons.1 hq with rfl|hq'
   .rcases List.mem_cons.1 hr with rfl|hr'
    .rfl
    .exact absurd e.symm (h4 r hr').1
   .rcases List.mem_cons.1 hr with rfl|hr'
    .exact absurd e (h4 q hq').1
    .exact b q hq' r hr' e
  .intro q hq r hr e;rcases List.mem_cons.1 hq with rfl|hq'
   .rcases List.mem_cons.1 hr with rfl|hr'
    .rfl
    .exact absurd e.symm (h4 r hr').2
   .rcases List.mem_cons.1 hr with rfl|hr'
    .exact absurd e (h4 q hq').2
    .exact c q hq' r hr' e
theorem tb:∀{m:List (Nat×Nat)}{j i:Nat},cq m j=some i->(j,i)∈m
 |[],j,i,h=>by simp[cq]at h|p::m,j,i,h=>by
  simp only[cq]at h;split at h
  .rename_i q;have:=aA q;simp only[aX]at h;subst this;subst h;exact List.mem_cons_self
  .exact List.mem_cons_of_mem _ (tb h)
theorem qN{base nx:Nat}{m:List (Nat×Nat)}(O:mb base nx m){j i:Nat}(h:(j,i)∈m):cq m j=some i:=by
 have:∀{l:List (Nat×Nat)},(∀p∈l,p∈m)->(j,i)∈l->cq l j=some i:=by
  intro l
  induction l with
  |nil=>intro _ q;cases q
  |cons p l ih=>
   intro hs q;simp only[cq];split
   .rename_i e;have e:=aA e;have:=O.fst p (hs p (by simp)) (j,i) h e;rw[this]
   .rename_i e;have e:=Nat.ne_of_beq_eq_false e;rcases List.mem_cons.1 q with r|r
    .rw[<-r]at e;exact absurd rfl e
    .exact ih (fun p hp=>hs p (by simp[hp])) r
 exact this (fun p hp=>hp) h
def inv:List (Nat×Nat)->Nat->Option Nat
 |[],_=>none|p::l,i=>if p.2=i then some p.1 else inv l i
theorem LL:∀{m:List (Nat×Nat)}{i j:Nat},inv m i=some j->(j,i)∈m
 |[],i,j,h=>by simp[inv]at h|p::m,i,j,h=>by
  simp only[inv]at h;split at h
  .rename_i q;simp only[aX]at h;subst q;subst h;exact List.mem_cons_self
  .exact List.mem_cons_of_mem _ (LL h)
theorem zP{base nx:Nat}{m:List (Nat×Nat)}(O:mb base nx m){j i:Nat}(h:(j,i)∈m):inv m i=some j:=by
 have:∀{l:List (Nat×Nat)},(∀p∈l,p∈m)->(j,i)∈l->inv l i=some j:=by
  intro l
  induction l with
  |nil=>intro _ q;cases q
  |cons p l ih=>
   intro hs q;simp only[inv];split
   .rename_i e;have:=O.snd p (hs p (by simp)) (j,i) h e;rw[this]
   .rename_i e;rcases List.mem_cons.1 q with r|r
    .rw[<-r]at e;exact absurd rfl e
    .exact ih (fun p hp=>hs p (by simp[hp])) r
 exact this (fun p hp=>hp) h
theorem sL{f:Nat->Option Nat}{h:Tr aC}:∀{m:List (Nat×Nat)}{t t':Tr aC},kj f h m t=some t'->∀i,((∀p∈m,p.2≠i)->t'.get i=t.get i) /\
  ∀o',t'.get i=some o'->t.get i=some o'\/∃j o,(j,i)∈m/\h.get j=some o/\fK f o=some o'
 |[],t,t',e,i=>by simp only[kj,aX]at e;subst e;exact⟨fun _=>rfl,fun o' q=>.inl q⟩|p::m,t,t',e,i=>by
  simp only[kj]at e;split at e<;>try cases e
  rename_i t₁ h₁;obtain⟨i1,i2⟩:=sL h₁ i;have back:∀o',t₁.get i=some o'->t.get i=some o'\/∃j o,(j,i)∈p::m/\h.get j=some o/\fK f o=some o':=by
   intro o' q;rcases i2 o' q with q|⟨j,o,a,b,c⟩
   .exact .inl q
   .exact .inr ⟨j,o,List.mem_cons_of_mem _ a,b,c⟩
  split at e
  .rename_i o ho;split at e<;>try cases e
   rename_i o₁ hr;have hg:=Tr.bz _ _ _ _ _ e i;rw[hg];by_cases q:i=p.2
   .rw[if_pos q];refine⟨fun hn=>absurd q.symm (hn p List.mem_cons_self),?_⟩;intro o' r;cases r;exact .inr ⟨p.1,o,by rw[q];exact List.mem_cons_self,ho,hr⟩
   .rw[if_neg q];exact⟨fun hn=>i1 (fun p hp=>hn p (List.mem_cons_of_mem _ hp)),back⟩
  .simp only[aX]at e;subst e;exact⟨fun hn=>i1 (fun p hp=>hn p (List.mem_cons_of_mem _ hp)),back⟩
theorem Bd{f:Nat->Option Nat}{n:Nat}{T:Tr AV}:∀{l:List Tmp}{T':Tr AV},pQ f n T l=some T'->∀t v',T'.get t=some v'->∃v,T.get t=some v/\fL f v=some v'
 |[],T',e,t,v',h=>by simp only[pQ,aX]at e;subst e;simp[Tr.get]at h|x::l,T',e,t,v',h=>by
  simp only[pQ]at e;split at e<;>try cases e
  rename_i T₁ h₁;split at e<;>try cases e
  rename_i v hv;split at e<;>try cases e
  rename_i u hu;rw[iJ e t]at h;by_cases q:x=t
  .subst q;rw[if_pos rfl]at h;cases h;exact⟨v,hv,hu⟩
  .rw[if_neg (by simpa using q)]at h;exact Bd h₁ t v' h
def rL(base n:Nat)(aN:List Tmp)(m:List (Nat×Nat))(nx:Nat)(st:St):Option St:=match zb base nx m,Nat.ble base nx with
 |true,true=>match pQ (zd base m) n st.T aN,zV base st.h.tr base .nil with
  |some T,some t=>match kj (zd base m) st.h.tr m t with|some t=>some ⟨T,⟨t,nx⟩⟩|none=>none
  |_,_=>none
 |_,_=>none
open Go.Proofs.YtdcnjfbffckblaaGreat.Ev (Tr Tr.bz nth bI Ex)
def gm:Code->Nat
 |.region id _ _=>id|.seq a _=>gm a|.block _ a=>gm a|.loop a=>gm a|.scope a=>gm a|_=>0
def o8(n:Nat):List (Tmp×Sh×TypeId)->St->Option St
 |[],st=>some st|p::l,st=>match st.T.get p.1 with
  |some v=>match v with
   |.av=>match Tr.set FT st.h.tr st.h.next (some (.arr p.2.1 [] p.2.2))with
    |some t=>match cI n st.T (some p.1) (.hd st.h.next p.2.1)with|some T=>o8 n l ⟨T,⟨t,st.h.next+1⟩⟩|none=>none
    |none=>none
   |_=>o8 n l st
  |none=>none
abbrev jk(R:Type):=Nat->St->(Ex->St->Option R)->Option R
def dz:Code->List Code
 |.seq a b=>dz a++dz b|.cond _ a b=>dz a++dz b|.block _ a=>dz a|.loop a=>[a]|.scope a=>dz a|_=>[]
def wJ(T:Tr AV)(c:Operand)(b:Bool):Option (Tr AV):=match c with|.tmp t=>Tr.set FT T t (some (.bool b))|_=>some T
section
variable{R:Type}(P:Program)(sh:TypeId->Option Sh)(call:fj R)(loops:jk R)(n:Nat)
def runK:Code->St->(Ex->St->Option R)->Option R
 |.skip,st,k=>k .normal st|.label _,st,k=>k .normal st|.region _ ops draw,st,k=>match draw with|false=>uB P sh call n ops ops.toList st (k .normal)|true=>zW P sh call n ops st (k .normal)
 |.seq x y,st,k=>runK x st fun e st=>match e with|.normal=>runK y st k|.exit i=>k (.exit i) st|.ret=>k .ret st
 |.cond c x y,st,k=>match aM st.T c with
  |some v=>match v with
   |.bool b=>br b (match wJ st.T c true with|some T=>runK x ⟨T,st.h⟩ k|none=>none) (match wJ st.T c false with|some T=>runK y ⟨T,st.h⟩ k|none=>none)
   |_=>none
  |none=>none
 |.block id x,st,k=>runK x st fun e st=>match e with
  |.normal=>k .normal st|.exit i=>match Nat.beq i id with|true=>k .normal st|false=>k (.exit i) st
  |.ret=>k .ret st
 |.loop x,st,k=>loops (gm x) st k|.scope x,st,k=>runK x st k|.exit id,st,k=>k (.exit id) st|.ret,st,k=>k .ret st|_,_,_=>none
end
theorem AN{n:Nat}:∀{l:List (Tmp×Sh×TypeId)}{st st':St},o8 n l st=some st'->∀{X:Cx}{a:Act},RF X n st a->∃X',X'.w=X.w/\RF X' n st' a/\aH X X'
 |[],st,st',e,X,a,R=>by simp only[o8,aX]at e;subst e;exact⟨X,rfl,R,aH.refl X⟩|p::l,st,st',e,X,a,R=>by
  simp only[o8]at e;split at e<;>try cases e
  rename_i v hv;split at e
  .split at e<;>try cases e
   rename_i t ht;split at e<;>try cases e
   rename_i T hT;have hX:=R.h;rw[<-hX]at ht;obtain⟨E,H'⟩:=ab.void R.H ht;have hg:=iJ hT;have g0:=Tr.bz _ _ _ _ _ ht;obtain⟨X',h1,h2,h3⟩:=AN e (X:=⟨aT X.s X.h.next .nil,⟨t,X.h.next+1⟩,X.w,X.A⟩) (a:=a) (by
    refine⟨by rw[hX],⟨R.T.size,R.T.defers,?_⟩,H'⟩;intro x u hu;rw[hg x]at hu;by_cases q:p.1=x
    .subst q;rw[if_pos rfl]at hu;cases hu;obtain⟨V,b1,b2⟩:=R.T.get _ _ hv;refine⟨V,b1,.nil,by rw[<-hX];exact cd _ _ _,?_,?_⟩
     .rw[show V=_ from b2];rfl
     .intro n' q;rw[<-hX]at q
      replace q:rowOf t X.h.next=some n':=q
      rw[fS (by rw[g0,if_pos rfl])]at q;cases q;rw[show V=_ from b2];rfl
    .rw[if_neg (by simpa using q)]at hu;obtain⟨V,b1,b2⟩:=R.T.get _ _ hu;exact⟨V,b1,b2.ext (E.db R.H)⟩)
   exact⟨X',h1,h2,E.trans h3⟩
  .exact AN e R
def jy(P:Program)(G:Cx->Prop)(base n:Nat)(x:Code){R:Type}(g:St->(Ex->St->Option R)->Option R):Prop:=∀st k r,g st k=some r->∃e st',k e st'=some r/\zT P G base n (.loop x) st e st'
theorem JL{X:Cx}{n:Nat}{T T':Tr AV}{c:Operand}{a:Act}{b:Bool}(R:eZ X n T a)(hv:aM T c=some (.bool b))(h:wJ T c b=some T'):eZ X n T' a:=by
 unfold wJ at h;split at h
 .rename_i t;refine⟨R.size,R.defers,?_⟩;intro u x hu;rw[Tr.bz _ _ _ _ _ h u]at hu;by_cases q:u=t
  .subst q;rw[if_pos rfl]at hu;cases hu;exact R.get u _ hv
  .rw[if_neg q]at hu;exact R.get u x hu
 .cases h;exact R
theorem KW{X:Cx}{n:Nat}{T:Tr AV}{a:Act}(R:eZ X n T a){c:Operand}{v:AV}(hv:aM T c=some v):Rel X v (a.eval c):=by
 cases c with
 |tmp t=>obtain⟨V,h1,h2⟩:=R.get t v hv;simpa[Act.eval,Array.getD_eq_getD_getElem?,h1]using h2
 |const u=>exact AJ hv X|func f=>simp[aM]at hv;subst hv;exact⟨[],[],rfl,rfl,rfl⟩|global g=>simp[aM]at hv
theorem yU{R:Type}{G:Cx->Prop}{P:Program}(hm:P.follows .mixedOrders=true){sh:TypeId->Option Sh}{call:fj R}(hc:cT P call){loops:jk R}{base n:Nat} :
  ∀(c:Code),(∀x∈dz c,jy P G base n x (loops (gm x)))->∀(st:St) (k:Ex->St->Option R) (r:R),runK P sh call loops n c st k=some r->∃e st',k e st'=some r/\zT P G base n c st e st':=by
 intro c
 induction c with
 |skip=>intro hl st k r e;exact⟨.normal,st,e,fun X₀ X a hb H₀ hE RR Q hQ=>wp_skip (hQ X a RR hE)⟩|label l=>intro hl st k r e;exact⟨.normal,st,e,fun X₀ X a hb H₀ hE RR Q hQ=>wp_label (hQ X a RR hE)⟩|exit id=>intro hl st k r e;exact⟨.exit id,st,e,fun X₀ X a hb H₀ hE RR Q hQ=>wp_exit (hQ X a RR hE)⟩|ret=>intro hl st k r e;exact⟨.ret,st,e,fun X₀ X a hb H₀ hE RR Q hQ=>wp_ret (hQ X a RR hE)⟩|region id ops draw=>
  intro hl st k r e;simp only[runK]at e;cases draw with
  |false=>simp only[]at e;obtain⟨st',hk,S⟩:=Kh hc ops.toList 0 st (k .normal) r e (by intro j;simp);refine⟨.normal,st',hk,?_⟩;intro X₀ X a hb H₀ hE RR Q hQ;refine wp_region ?_;have:=S X a RR Q (fun X' a' R' E'=>hQ X' a' R' (hE.trans E'));rw[List.range_eq_range'];simpa using this
  |true=>simp only[]at e;obtain⟨st',hk,S⟩:=SX hm hc (base:=base) e id;exact⟨.normal,st',hk,S⟩
 |seq x y ihx ihy=>
  intro hl st k r e;simp only[runK]at e;obtain⟨e₁,st₁,hk,S⟩:=ihx (fun x h=>hl x (by simp[dz,h])) _ _ _ e;cases e₁ with
  |normal=>simp only[]at hk;obtain⟨e₂,st₂,hk₂,S₂⟩:=ihy (fun x h=>hl x (by simp[dz,h])) _ _ _ hk;refine⟨e₂,st₂,hk₂,?_⟩;intro X₀ X a hb H₀ hE RR Q hQ;exact wp_seq (S X₀ X a hb H₀ hE RR _ (fun X' a' R' E'=>S₂ X₀ X' a' hb H₀ E' R' Q hQ))
  |exit i=>simp only[]at hk;exact⟨_,_,hk,fun X₀ X a hb H₀ hE RR Q hQ=>wp_seq (S X₀ X a hb H₀ hE RR _ (fun X' a' R' E'=>hQ X' a' R' E'))⟩|ret=>simp only[]at hk;exact⟨_,_,hk,fun X₀ X a hb H₀ hE RR Q hQ=>wp_seq (S X₀ X a hb H₀ hE RR _ (fun X' a' R' E'=>hQ X' a' R' E'))⟩
 |cond c x y ihx ihy=>
  intro hl st k r e;simp only[runK]at e;split at e<;>try cases e
  rename_i v hv;split at e<;>try cases e
  rename_i b;rcases zU e with⟨rfl,e2⟩|⟨rfl,e2⟩
  .split at e2<;>try cases e2
   rename_i T hT;obtain⟨e₁,st₁,hk,S⟩:=ihx (fun x h=>hl x (by simp[dz,h])) _ _ _ e2;exact⟨e₁,st₁,hk,fun X₀ X a hb H₀ hE RR Q hQ=>wp_cond_true (KW RR.T hv) (S X₀ X a hb H₀ hE ⟨RR.h,JL RR.T hv hT,RR.H⟩ Q hQ)⟩
  .split at e2<;>try cases e2
   rename_i T hT;obtain⟨e₁,st₁,hk,S⟩:=ihy (fun x h=>hl x (by simp[dz,h])) _ _ _ e2;exact⟨e₁,st₁,hk,fun X₀ X a hb H₀ hE RR Q hQ=>wp_cond_false (KW RR.T hv) (S X₀ X a hb H₀ hE ⟨RR.h,JL RR.T hv hT,RR.H⟩ Q hQ)⟩
 |block id x ih=>
  intro hl st k r e;simp only[runK]at e;obtain⟨e₁,st₁,hk,S⟩:=ih (fun x h=>hl x (by simpa[dz]using h)) _ _ _ e;cases e₁ with
  |normal=>exact⟨_,_,hk,fun X₀ X a hb H₀ hE RR Q hQ=>wp_block (S X₀ X a hb H₀ hE RR _ (fun X' a' R' E'=>hQ X' a' R' E'))⟩|ret=>exact⟨_,_,hk,fun X₀ X a hb H₀ hE RR Q hQ=>wp_block (S X₀ X a hb H₀ hE RR _ (fun X' a' R' E'=>hQ X' a' R' E'))⟩|exit i=>
   simp only[]at hk;split at hk
   .rename_i q;have q:=aA q;refine⟨_,_,hk,fun X₀ X a hb H₀ hE RR Q hQ=>wp_block (S X₀ X a hb H₀ hE RR _ (fun X' a' R' E'=>?_))⟩;simp only[Ex.to,Exit.inBlock,if_pos q];exact hQ X' a' R' E'
   .rename_i q;have q:=Nat.ne_of_beq_eq_false q;refine⟨_,_,hk,fun X₀ X a hb H₀ hE RR Q hQ=>wp_block (S X₀ X a hb H₀ hE RR _ (fun X' a' R' E'=>?_))⟩;simp only[Ex.to,Exit.inBlock,if_neg q];exact hQ X' a' R' E'
 |loop x ih=>intro hl st k r e;simp only[runK]at e;exact hl x (by simp[dz]) st k r e|scope x ih=>intro hl st k r e;simp only[runK]at e;obtain⟨e₁,st₁,hk,S⟩:=ih (fun x h=>hl x (by simpa[dz]using h)) _ _ _ e;refine⟨e₁,st₁,hk,fun X₀ X a hb H₀ hE RR Q hQ=>wp_scope_straight (S X₀ X a hb H₀ hE RR _ (fun X' a' R' E'=>?_))⟩;have:=hQ X' a' R' E';cases e₁<;>exact this
 |_=>intro hl st k r e;simp[runK]at e
def iA(w:World)(A:Nat->Prop):(l:List Sh)->TL l->List Value->Prop
 |[],_,vs=>vs=[]|σ::l,d,vs=>∃V r,vs=V::r/\fG w A σ d.1 V/\iA w A l d.2 r
def iX:List Value->Value
 |[v]=>v|l=>.tuple (List.toArray l)
def l9:List AV->AV
 |[v]=>v|l=>.bk l
def tc:(l:List Sh)->TL l->List AV
 |[],_=>[]|σ::l,d=>uy σ d.1::tc l d.2
theorem yx{X:Cx}:∀{l:List Sh}{d:TL l}{vs:List Value},iA X.w X.out l d vs->bg X (tc l d) vs
 |[],_,vs,h=>h|σ::l,d,vs,⟨V,r,e,h1,h2⟩=>⟨V,r,e,yG h1,yx h2⟩
theorem iA.aN{w w':World}{A A':Nat->Prop}(K:fw w A w' A'):∀{l:List Sh}{d:TL l}{vs:List Value},iA w A l d vs->iA w' A' l d vs
 |[],_,vs,h=>h|σ::l,d,vs,⟨V,r,e,h1,h2⟩=>⟨V,r,e,h1.aN K,h2.aN K⟩
def jv(kl:Bool)(h:Hp):(l:List Sh)->List AV->Option (TL l×Hp)
 |[],vs=>match vs with|[]=>some ((),h)|_=>none
 |σ::l,vs=>match vs with
  |v::vs=>match nq kl h σ v with
   |some (d,h)=>match jv kl h l vs with|some (e,h)=>some ((d,e),h)|none=>none
   |none=>none
  |[]=>none
theorem uo{kl:Bool}:∀{l:List Sh}{X:Cx}(H:ab X) {vs:List AV}{d:TL l}{h':Hp},jv kl X.h l vs=some (d,h')->∀{cs:List Value},bg X vs cs ->
  dA X h'/\iA X.w (Cx.out ⟨X.s,h',X.w,X.A⟩) l d cs
 |[],X,H,vs,d,h',e,cs,R=>by simp only[jv]at e;split at e<;>cases e;exact⟨dA.refl H,R⟩
 |σ::l,X,H,vs,d,h',e,cs,R=>by
  simp only[jv]at e;split at e<;>try cases e
  rename_i v vs;split at e<;>try cases e
  rename_i d₁ h₁ e₁;split at e<;>cases e;rename_i d₂ e₂;obtain⟨V,r,rfl,R1,R2⟩:=R;obtain⟨F₁,o₁⟩:=Bi H e₁ R1;obtain⟨F₂,o₂⟩:=uo (X:=⟨X.s,h₁,X.w,X.A⟩) F₁.H e₂ (R2.ext (F₁.E.db H));exact⟨F₁.trans F₂,V,r,rfl,o₁.aN F₂.E.keeps,o₂⟩
def Comes(P:Program)(f:FuncId)(σs τs:List Sh)(F:TL σs->Option (TL τs)):Prop:=
 (∃fn c,P.funcs[f]?=some fn/\(fn.name == "runtime.NumGoroutine")=false/\fn.body=some c) /\
 ∀d x,F d=some x->∀(w:World) (A:Nat->Prop) (args:List Value),(∀b,A b->b<w.heap.size)->iA w A σs d args ->
  Calls P f (List.toArray args) w fun e w'=>∃vs,e=.returned (iX vs)/\Below w.heap.size w w'/\iA w' A τs x vs
def az{α R:Type}(x:Option α)(k:α->Option R):Option R:=match x with|some a=>k a|none=>none
theorem uH{α R:Type}{x:Option α}{k:α->Option R}{r:R}(h:az x k=some r):∃a,x=some a/\k a=some r:=by
 cases x with
 |none=>cases h
 |some a=>exact⟨a,rfl,h⟩
structure Spec where
 σs:List Sh
 τs:List Sh
 F:TL σs->Option (TL τs)
abbrev qk:=FuncId->Option Spec
def Bf(P:Program)(S:qk):Prop:=∀f s,S f=some s->Comes P f s.σs s.τs s.F
mutual
def plain:Sh->Bool
 |.sl _=>false|.agg l=>mw l|_=>true
termination_by structural x=>x
def mw:List Sh->Bool
 |[]=>true|s::l=>match plain s with|true=>mw l|false=>false
termination_by structural x=>x
end
mutual
theorem KD{w w':World}{A A':Nat->Prop}:∀{σ:Sh}{d:σ.T}{cs:List Value},plain σ=true->Cs w A σ d cs->Cs w' A' σ d cs
 |.int k,n,cs,_,h=>h|.bool,b,cs,_,h=>h|.str,s,cs,_,h=>h|.agg l,d,cs,hp,h=>JS (l:=l) hp h|.sl s,L,cs,hp,h=>by cases hp
theorem JS{w w':World}{A A':Nat->Prop}:∀{l:List Sh}{d:TL l}{cs:List Value},mw l=true->eD w A l d cs->eD w' A' l d cs
 |[],_,cs,_,h=>h|s::l,d,cs,hp,⟨c,r,e,h1,h2⟩=>by
  simp only[mw]at hp;split at hp<;>try cases hp
  rename_i hs;exact⟨c,r,e,KD hs h1,JS hp h2⟩
end
theorem Q1{w w':World}{A A':Nat->Prop}:∀{l:List Sh}{d:TL l}{vs:List Value},mw l=true->iA w A l d vs->iA w' A' l d vs
 |[],_,vs,_,h=>h|s::l,d,vs,hp,⟨V,r,e,h1,h2⟩=>by
  simp only[mw]at hp;split at hp<;>try cases hp
  rename_i hs;exact⟨V,r,e,⟨KD hs h1.1,h1.2⟩,Q1 hp h2⟩
def Aq{R:Type}(S:qk):fj R:=fun f vs h k=>match S f with
 |some s=>match jv (mw s.τs) h s.σs vs with|some (d,_)=>az (s.F d) fun x=>k false (l9 (tc s.τs x)) h|none=>match jv true h s.σs vs with|some (d,h')=>az (s.F d) fun x=>k true (l9 (tc s.τs x)) h'|none=>none
 |none=>none
mutual
theorem Ka{h:Hp}:∀{σ:Sh}{l:List AV}{d:σ.T}{r:List AV}{h':Hp},di false h σ l=some (d,r,h')->h'=h
 |.int k,l,d,r,h',e=>by
  simp only[di]at e;split at e<;>try cases e
  split at e<;>cases e;rfl
 |.bool,l,d,r,h',e=>by simp only[di]at e;split at e<;>cases e;rfl
 |.str,l,d,r,h',e=>by simp only[di]at e;split at e<;>cases e;rfl
 |.agg ss,l,d,r,h',e=>Ra (ss:=ss) e|.sl s,l,d,r,h',e=>by
  simp only[di]at e;split at e<;>try cases e
  .rfl
  .split at e<;>cases e;rfl
  .split at e<;>try cases e
   split at e<;>try cases e
   contradiction
  .split at e<;>try cases e
   split at e<;>try cases e
   contradiction
theorem Ra{h:Hp}:∀{ss:List Sh}{l:List AV}{d:TL ss}{r:List AV}{h':Hp},gP false h ss l=some (d,r,h')->h'=h
 |[],l,d,r,h',e=>by simp only[gP,aX]at e;cases e;rfl
 |s::ss,l,d,r,h',e=>by
  simp only[gP]at e;split at e<;>try cases e
  rename_i d₁ r₁ h₁ e₁;split at e<;>cases e;rename_i e₂;have:=Ka e₁;subst this;exact Ra e₂
end
theorem Rb{h:Hp}:∀{l:List Sh}{vs:List AV}{d:TL l}{h':Hp},jv false h l vs=some (d,h')->h'=h
 |[],vs,d,h',e=>by simp only[jv]at e;split at e<;>cases e;rfl
 |σ::l,vs,d,h',e=>by
  simp only[jv]at e;split at e<;>try cases e
  rename_i v vs;split at e<;>try cases e
  rename_i d₁ h₁ e₁;split at e<;>cases e;rename_i e₂;have:h₁=h:=by
   unfold nq at e₁;split at e₁
   case h_3=>cases e₁
   all_goals
    split at e₁<;>try cases e₁
    rename_i e₃;split at e₁<;>cases e₁;exact Ka e₃
  subst this;exact Rb e₂
theorem uv{X:Cx}:∀{l:List AV}{cs:List Value},bg X l cs->Rel X (l9 l) (iX cs)
 |[],cs,h=>by rw[show cs=[]from h];exact⟨[],rfl,rfl⟩|[v],cs,⟨V,r,e,h1,h2⟩=>by rw[show r=[]from h2]at e;rw[e];exact h1|v::u::l,cs,⟨V,r,e,h1,⟨V',r',e',h2,h3⟩⟩=>by subst e';subst e;exact⟨V::V'::r',rfl,V,V'::r',rfl,h1,V',r',rfl,h2,h3⟩
theorem Ts{R:Type}{P:Program}{S:qk}(hS:Bf P S):cT P (Aq (R:=R) S):=by
 intro f vs h k r e;unfold Aq at e;split at e<;>try cases e
 rename_i s hs;obtain⟨hf,hp⟩:=hS f s hs;split at e
 case h_2=>
  split at e<;>try cases e
  rename_i d h' hd;obtain⟨x,hx,hk⟩:=uH e;refine⟨true,_,h',hk,(fun q=>by cases q),hf,?_⟩;intro X args hX H hR;subst hX;obtain⟨F,hA⟩:=uo H hd hR;refine(hp d x hx X.w (Cx.out ⟨X.s,h',X.w,X.A⟩) args (fun b hb=>hb.elim (F.H.alt b) F.H.uG) hA).mono ?_;rintro e w' ⟨us,rfl,B,hA'⟩;have E:aH ⟨X.s,h',X.w,X.A⟩ ⟨X.s,h',w',X.A⟩:=⟨B.os,B.tape,B.output,B.size,fun _ _ h=>h,fun _ _ _ h=>h,Nat.le_refl _,fun b hb _=>B.block b hb,fun b h=>.inl h,fun j n _ h=>h,fun _ _ _=>rfl,rfl⟩;refine⟨⟨X.s,h',w',X.A⟩,iX us,rfl,rfl,rfl,?_,F.E.trans E,uv (yx hA')⟩;refine⟨?_,F.H.inj,F.H.lt,F.H.bZ,fun b hb=>Nat.lt_of_lt_of_le (F.H.alt b hb) B.size,F.H.loc⟩;intro i o l h1 h2;refine(F.H.obj i o l h1 h2).ext (E.db F.H) ?_;intro b hb;exact B.block b (F.H.gG h1 h2 hb)
 rename_i d h' hd;obtain⟨x,hx,hk⟩:=uH e;refine⟨false,_,h,hk,fun _=>dm.refl h,hf,?_⟩;intro X args hX H hR;subst hX;obtain⟨F,hA⟩:=uo H hd hR;have hout:∀b,Cx.out ⟨X.s,h',X.w,X.A⟩ b->X.out b:=by
  rintro b (q|⟨i,o,c,h1,h2⟩)
  .exact .inl q
  .exact .inr ⟨i,o,c,F.sub i o h1,h2⟩
 refine(hp d x hx X.w (Cx.out ⟨X.s,h',X.w,X.A⟩) args (fun b hb=>(hout b hb).elim (H.alt b) H.uG) hA).mono ?_;rintro e w' ⟨us,rfl,B,hA'⟩;have hw:∀b o,X.w.heap[b]?=some o->w'.heap[b]?=some o:=fun b o q=>by rw[B.block b (fi q)];exact q
 have E:aH X ⟨X.s,X.h,w',X.A⟩:=⟨B.os,B.tape,B.output,B.size,fun _ _ h=>h,fun _ _ _ h=>h,Nat.le_refl _,fun b hb _=>B.block b hb,fun b h=>.inl h,fun j n _ h=>h,fun _ _ _=>rfl,rfl⟩;have hA'':iA w' X.out s.τs x us:=by cases hpl:mw s.τs with|true=>exact Q1 hpl hA'|false=>rw[hpl]at hd;have:=Rb hd;subst this;exact hA'
 refine⟨⟨X.s,X.h,w',X.A⟩,iX us,rfl,rfl,rfl,?_,E,uv (yx hA'')⟩;refine⟨?_,H.inj,H.lt,H.bZ,fun b hb=>Nat.lt_of_lt_of_le (H.alt b hb) B.size,H.loc⟩;intro i o l h1 h2;refine(H.obj i o l h1 h2).ext (E.db H) ?_;intro b hb;exact B.block b (H.gG h1 h2 hb)
def fx(n:Nat):List AV->Nat->Tr AV->Option (Tr AV)
 |[],_,T=>some T|v::l,i,T=>match cI n T (some i) v with|some T=>fx n l (i+1) T|none=>none
theorem pj{n:Nat}:∀{vs:List AV}{i:Nat}{T T':Tr AV},fx n vs i T=some T'->∀t v,T'.get t=some v->(i<=t/\vs[t-i]?=some v)\/T.get t=some v
 |[],i,T,T',h,t,v,hv=>by simp[fx]at h;subst h;exact .inr hv|x::l,i,T,T',h,t,v,hv=>by
  simp only[fx]at h;split at h<;>try cases h
  rename_i T₁ h₁;rcases pj h t v hv with⟨hi,hl⟩|hT
  .left;refine⟨by omega,?_⟩;rw[show t-i=(t-(i+1))+1 by omega];simpa using hl
  .rw[iJ h₁ t]at hT;by_cases q:i=t
   .subst q;simp at hT;subst hT;left;simp
   .rw[if_neg (by simpa using q)]at hT;exact .inr hT
theorem J5{n:Nat}:∀{vs:List AV}{i:Nat}{T T':Tr AV},fx n vs i T=some T'->vs=[]\/i+vs.length<=n
 |[],i,T,T',h=>.inl rfl|x::l,i,T,T',h=>by
  right;simp only[fx]at h;split at h<;>try cases h
  rename_i T₁ h₁;have:i+1<=n:=AR h₁;rcases J5 h with q|q
  .subst q;simp;omega
  .simp;omega
theorem sM{X:Cx}(H:ab X){n:Nat}{vs:List AV}{T:Tr AV}(h:fx n vs 0 .nil=some T){args:List Value}(R:bg X vs args) :
  RF X n ⟨T,X.h⟩ { tmps:=List.toArray args++Array.replicate (n-(List.toArray args).size) undef,defers:=[] }:=by
 have hL:=R.length;have hn:args.length<=n:=by
  rcases J5 h with q|q
  .subst q;simp at hL;simp[hL]
  .omega
 refine⟨rfl,⟨by simp;omega,rfl,?_⟩,H⟩;intro t u hu;rcases pj h t u hu with⟨_,h1⟩|h1
 .simp only[Nat.sub_zero]at h1;obtain⟨V,h2,h3⟩:=R.get h1;refine⟨V,?_,h3⟩;have hlt:t<args.length:=by
   rcases Nat.lt_or_ge t args.length with q|q
   .exact q
   .rw[List.getElem?_eq_none q]at h2;cases h2
  rw[Array.getElem?_append_left (by simpa using hlt)];simpa using h2
 .simp[Tr.get]at h1
def fq(P:Program)(st:St):List ResultVar->Option (List AV)
 |[]=>some []|r::l=>match(match r with
   |.tmp t=>st.T.get t|.cell a t=>match st.T.get a with
    |some u=>match iM P st.h t u with|some (true,v)=>some v|_=>none
    |none=>none)with
  |some v=>match fq P st l with|some vs=>some (v::vs)|none=>none
  |none=>none
theorem Wq{X:Cx}{P:Program}{u v:AV}{U V:Value}{t:TypeId}(H:ab X)(e:iM P X.h t u=some (true,v))(R:Rel X u U)(hr:(Instr.loadAt t U).run P X.w=.ok V X.w) :
  (do loadVar t (<- asAddr U):Sem Value).run P X.w=.ok V X.w:=by
 unfold iM at e;split at e<;>try cases e
 rename_i g l o hc;split at e<;>try cases e
 obtain⟨b,off,c,ty,fr,cs,rfl,h1,h2,h3⟩:=QV H hc rfl R;simp only[Instr.loadAt,Instr.sureAddr,asAddr,Sem.run_bind,Sem.run_pure,Result.andThen_ok]at hr |-;exact hr
theorem sP{P:Program}{st:St}{X:Cx}{n:Nat}{a:Act}(R:RF X n st a)(f:ResultVar->Sem Value)
  (hf:∀r,f r=match r with|.tmp t=>pure (a.tmps.getD t undef)|.cell x t=>do loadVar t (<- asAddr (a.tmps.getD x undef))) :
  ∀{l:List ResultVar}{vs:List AV},fq P st l=some vs->∃Vs,(l.mapM f).run P X.w=.ok Vs X.w/\bg X vs Vs
 |[],vs,h=>by simp[fq]at h;subst h;exact⟨[],rfl,rfl⟩|r::l,vs,h=>by
  simp only[fq]at h;split at h<;>try cases h
  rename_i v hv;split at h<;>try cases h
  rename_i vs' hl;obtain⟨Vs,ih,hR⟩:=sP R f hf hl;have h1:∃V,(f r).run P X.w=.ok V X.w/\Rel X v V:=by
   rw[hf r];cases r with
   |tmp t=>obtain⟨V,g1,g2⟩:=R.T.get t v hv;exact⟨V,by simp[Array.getD_eq_getD_getElem?,g1],g2⟩
   |cell x t=>
    simp only[]at hv |-;split at hv<;>try cases hv
    rename_i u hu;split at hv<;>cases hv;rename_i hv;obtain⟨U,g1,g2⟩:=R.T.get x u hu;have hX:=R.h;rw[<-hX]at hv;obtain⟨V,hr,hR⟩:=sK R.H hv rfl g2;refine⟨V,?_,hR⟩;have hx':a.tmps.getD x undef=U:=by simp[Array.getD_eq_getD_getElem?,g1]
    rw[hx'];exact Wq R.H hv g2 hr
  obtain⟨V,h1,h2⟩:=h1;refine⟨V::Vs,?_,V,Vs,rfl,h2,hR⟩;rw[List.mapM_cons];simp only[Sem.run_bind,h1,Result.andThen_ok,ih,Sem.run_pure]
theorem n0{P:Program}{st:St}{X:Cx}{n:Nat}{a:Act}(R:RF X n st a){fn:Func}{vs:List AV}(h:fq P st fn.results.toList=some vs) :
  ∃Vs,(results fn a.tmps).run P X.w=.ok (iX Vs) X.w/\bg X vs Vs:=by
 obtain⟨Vs,h1,hR⟩:=sP R _ (fun r=>rfl) h;refine⟨Vs,?_,hR⟩;unfold results;rw[Sem.run_bind,Array.mapM_eq_mapM_toList,Sem.run_map];have h2:(List.mapM (fun x=>match x with|.tmp t=>pure (a.tmps.getD t undef)|.cell x t=>do loadVar t (<- asAddr (a.tmps.getD x undef)):ResultVar->Sem Value) fn.results.toList).run P X.w=.ok Vs X.w:=h1;refine(congrArg (fun r=>((Result.andThen r _).andThen _)) h2).trans ?_;simp only[Result.andThen_ok,Sem.run_pure];congr 1
 match Vs with|[]=>simp[iX]|[v]=>simp[iX]|u::v::l=>simp[iX]
inductive LA where
 |int (k:IntKind)
 |bool
 |str
 |fz (τ:Sh)
 |cg
 |av
 |cE
 |cD
 |cZ
 |fU
 |eW (τ:Sh)
 |dO (σ:Sh) (o:Nat)
 |da (b z o:Nat)
 |rp (b:Nat)
 |ptr (b off:Nat)
 |hd (b:Nat) (τ:Sh)
 |mp (b:Nat)
 |dk (b:Nat)
 |func (f:FuncId) (x c:List LA)
 |agg (l:List LA)
 |bk (l:List LA)
mutual
def σA:LA->List Sh->List Sh
 |.int k,r=>.int k::r|.bool,r=>.bool::r|.str,r=>.str::r|.fz τ,r=>.sl τ::r|.cg,r=>r|.av,r=>r|.cE,r=>r|.cD,r=>r|.cZ,r=>r|.fU,r=>r|.eW τ,r=>.bool::.sl τ::r|.dO σ _,r=>σ::r|.da _ _ _,r=>.int .i64::r|.rp _,r=>.int .i64::r|.ptr _ _,r=>r|.hd _ _,r=>r|.mp _,r=>r|.dk _,r=>r|.func _ x c,r=>eM x (eM c r)|.agg l,r=>eM l r|.bk l,r=>eM l r
termination_by structural x=>x
def eM:List LA->List Sh->List Sh
 |[],r=>r|a::l,r=>σA a (eM l r)
termination_by structural x=>x
end
mutual
def j2:(a:LA)->(r:List Sh)->TL (σA a r)->AV×TL r
 |.int k,r,d=>(.int k d.1,d.2)|.bool,r,d=>(.bool d.1,d.2)|.str,r,d=>(.str d.1,d.2)|.fz τ,r,d=>(.fz τ d.1,d.2)|.cg,r,d=>(.cg,d)|.av,r,d=>(.av,d)|.cE,r,d=>(.cE,d)|.cD,r,d=>(.cD,d)|.cZ,r,d=>(.cZ,d)|.fU,r,d=>(.fU,d)|.eW τ,r,d=>(.eW τ d.1 d.2.1,d.2.2)|.dO σ o,r,d=>(.dO σ d.1 o,d.2)|.da b z o,r,d=>(.da b (Int.toNat d.1) z o,d.2)|.rp b,r,d=>(.rp b (Int.toNat d.1),d.2)|.ptr b o,r,d=>(.ptr b o,d)|.hd b τ,r,d=>(.hd b τ,d)|.mp b,r,d=>(.mp b,d)|.dk b,r,d=>(.dk b,d)|.func f x c,r,d=>(.func f (eY x (eM c r) d).1 (eY c r (eY x (eM c r) d).2).1,(eY c r (eY x (eM c r) d).2).2)|.agg l,r,d=>(.agg (eY l r d).1,(eY l r d).2)|.bk l,r,d=>(.bk (eY l r d).1,(eY l r d).2)
termination_by structural x=>x
def eY:(l:List LA)->(r:List Sh)->TL (eM l r)->List AV×TL r
 |[],r,d=>([],d)|a::l,r,d=>((j2 a (eM l r) d).1::(eY l r (j2 a (eM l r) d).2).1,(eY l r (j2 a (eM l r) d).2).2)
termination_by structural x=>x
end
def O1(k:IntKind):AV->Option Int
 |.int k' n=>match Nat.beq (Ev.IntKind.num k') (Ev.IntKind.num k)with|true=>some n|false=>none
 |_=>none
def Ju:AV->Option Bool
 |.bool b=>some b|_=>none
def O5:AV->Option ByteArray
 |.str s=>some s|_=>none
def RC(τ:Sh):AV->Option (List τ.T)
 |.fz τ' L=>match e:τ'.eqv τ with|true=>some (gg e L)|false=>none
 |.av=>some []|_=>none
def Ve{σ τ:Sh}(h:σ.eqv τ=true)(d:σ.T):τ.T:=Sh.dc h▸d
def Ec(σ:Sh)(o:Nat):AV->Option σ.T
 |.dO σ' d o'=>match e:σ'.eqv σ,Nat.beq o' o with|true,true=>some (Ve e d)|_,_=>none
 |_=>none
theorem S5{σ:Sh}{o:Nat}{v:AV}{d:σ.T}(h:Ec σ o v=some d){X:Cx}{V:Value}(R:Rel X v V):Rel X (.dO σ d o) V:=by
 unfold Ec at h;split at h<;>try cases h
 rename_i σ' d' o';split at h<;>try cases h
 rename_i e q;have q:=aA q;subst q;obtain rfl:=Sh.dc e;exact R
def oV:LA->AV->Bool
 |.cg,v=>match v with|.cg=>true|_=>false
 |.av,v=>match v with|.av=>true|_=>false
 |.cE,v=>match v with|.cE=>true|_=>false
 |.cD,v=>match v with|.cD=>true|_=>false
 |.cZ,v=>match v with|.cZ=>true|_=>false
 |_,_=>false
def Aa(b z o:Nat):AV->Option Int
 |.da b' i z' o'=>match Nat.beq b' b,Nat.beq z' z,Nat.beq o' o with|true,true,true=>some (Int.ofNat i)|_,_,_=>none
 |_=>none
def Hr(b:Nat):AV->Option Int
 |.rp b' i=>match Nat.beq b' b with|true=>some (Int.ofNat i)|_=>none
 |_=>none
theorem TW{b:Nat}{v:AV}{n:Int}(h:Hr b v=some n):v=.rp b n.toNat:=by
 unfold Hr at h;split at h<;>try cases h
 split at h<;>cases h;rename_i h1;rw[aA h1];rfl
theorem ZQ{b z o:Nat}{v:AV}{n:Int}(h:Aa b z o v=some n):v=.da b n.toNat z o:=by
 unfold Aa at h;split at h<;>try cases h
 split at h<;>cases h;rename_i h1 h2 h3;rw[aA h1,aA h2,aA h3];rfl
def O3(b o:Nat):AV->Bool
 |.ptr b' o'=>match Nat.beq b' b with|true=>Nat.beq o' o|false=>false
 |_=>false
def RG(b:Nat):AV->Bool
 |.hd b' _=>Nat.beq b' b|_=>false
def RH(b:Nat):AV->Bool
 |.mp b'=>Nat.beq b' b|_=>false
def O4(b:Nat):AV->Bool
 |.dk b'=>Nat.beq b' b|_=>false
def Jv(f:FuncId):AV->Option (List AV×List AV)
 |.func f' x c=>match Nat.beq f' f with|true=>some (x,c)|false=>none
 |_=>none
def OZ:AV->Option (List AV)
 |.agg l=>some l|_=>none
def O6:AV->Option (List AV)
 |.bk l=>some l|_=>none
def jm{α β:Type}(x:Option α)(d:β):Option (α×β):=match x with|some a=>some (a,d)|none=>none
def jH{β:Type}(x:Bool)(d:β):Option β:=match x with|true=>some d|false=>none
theorem kb{α β:Type}{x:Option α}{d:β}{y:α×β}(h:jm x d=some y):x=some y.1/\y.2=d:=by
 cases x with
 |none=>cases h
 |some a=>cases h;exact⟨rfl,rfl⟩
theorem j7{β:Type}{x:Bool}{d y:β}(h:jH x d=some y):x=true/\y=d:=by
 cases x with
 |false=>cases h
 |true=>cases h;exact⟨rfl,rfl⟩
mutual
def oW:(a:LA)->(r:List Sh)->AV->TL r->Option (TL (σA a r))
 |.int k,r,v,d=>jm (O1 k v) d|.bool,r,v,d=>jm (Ju v) d|.str,r,v,d=>jm (O5 v) d|.fz τ,r,v,d=>jm (RC τ v) d|.cg,r,v,d=>jH (oV .cg v) d|.av,r,v,d=>jH (oV .av v) d|.cE,r,v,d=>jH (oV .cE v) d|.cD,r,v,d=>jH (oV .cD v) d|.cZ,r,v,d=>jH (oV .cZ v) d|.fU,r,v,d=>jH (one v) d|.eW τ,r,v,d=>none|.dO σ o,r,v,d=>jm (Ec σ o v) d|.da b z o,r,v,d=>jm (Aa b z o v) d|.rp b,r,v,d=>jm (Hr b v) d|.ptr b o,r,v,d=>jH (O3 b o v) d|.hd b τ,r,v,d=>jH (RG b v) d|.mp b,r,v,d=>jH (RH b v) d|.dk b,r,v,d=>jH (O4 b v) d|.func f x c,r,v,d=>match Jv f v with
  |some p=>match iT c r p.2 d with|some d=>iT x (eM c r) p.1 d|none=>none
  |none=>none
 |.agg l,r,v,d=>match OZ v with|some l'=>iT l r l' d|none=>none
 |.bk l,r,v,d=>match O6 v with|some l'=>iT l r l' d|none=>none
termination_by structural x=>x
def iT:(l:List LA)->(r:List Sh)->List AV->TL r->Option (TL (eM l r))
 |[],r,vs,d=>match vs with|[]=>some d|_=>none
 |a::l,r,vs,d=>match vs with
  |v::vs=>match iT l r vs d with|some d=>oW a (eM l r) v d|none=>none
  |[]=>none
termination_by structural x=>x
end
theorem sU{a:LA}{v:AV}(h:oV a v=true)(X:Cx)(V:Value)(R:Rel X v V)(r:List Sh)(d:TL (σA a r)):Rel X (j2 a r d).1 V:=by cases a<;>cases v<;>first|exact R|cases h
mutual
theorem KP:∀(a:LA) (r:List Sh) (v:AV) (d:TL r) (d':TL (σA a r)),oW a r v d=some d'->(j2 a r d').2=d/\∀X V,Rel X v V->Rel X (j2 a r d').1 V
 |.int k,r,v,d,d',e=>by
  obtain⟨h1,h2⟩:=kb (y:=d') e;refine⟨h2,fun X V h=>?_⟩;unfold O1 at h1;split at h1
  .split at h1
   .rename_i hk;have hk:=Ev.IntKind.px (aA hk);subst hk;have h1:=Option.some.inj h1;show V=.int _ d'.1;rw[<-h1];exact h
   .exact absurd h1 (by simp)
  .exact absurd h1 (by simp)
 |.bool,r,v,d,d',e=>by
  obtain⟨h1,h2⟩:=kb (y:=d') e;refine⟨h2,fun X V h=>?_⟩;unfold Ju at h1;split at h1
  .have h1:=Option.some.inj h1;show V=.bool d'.1;rw[<-h1];exact h
  .exact absurd h1 (by simp)
 |.str,r,v,d,d',e=>by
  obtain⟨h1,h2⟩:=kb (y:=d') e;refine⟨h2,fun X V h=>?_⟩;unfold O5 at h1;split at h1
  .have h1:=Option.some.inj h1;show V=.string d'.1;rw[<-h1];exact h
  .exact absurd h1 (by simp)
 |.fz τ,r,v,d,d',e=>by
  obtain⟨h1,h2⟩:=kb (y:=d') e;refine⟨h2,fun X V h=>?_⟩;unfold RC at h1;show Cs X.w X.out (.sl τ) d'.1 [V];split at h1
  .split at h1
   .rename_i he;have h1:=Option.some.inj h1;rw[<-h1];exact yS he h
   .exact absurd h1 (by simp)
  .have h1:=Option.some.inj h1;rw[<-h1,show V=_ from h];exact⟨none,0,0,rfl,rfl,Nat.le_refl _,fun q=>absurd rfl q⟩
  .exact absurd h1 (by simp)
 |.cg,r,v,d,d',e=>by obtain⟨h1,h2⟩:=j7 (y:=d') e;exact⟨h2,fun X V h=>sU h1 X V h r d'⟩
 |.av,r,v,d,d',e=>by obtain⟨h1,h2⟩:=j7 (y:=d') e;exact⟨h2,fun X V h=>sU h1 X V h r d'⟩
 |.cE,r,v,d,d',e=>by obtain⟨h1,h2⟩:=j7 (y:=d') e;exact⟨h2,fun X V h=>sU h1 X V h r d'⟩
 |.cD,r,v,d,d',e=>by obtain⟨h1,h2⟩:=j7 (y:=d') e;exact⟨h2,fun X V h=>sU h1 X V h r d'⟩
 |.cZ,r,v,d,d',e=>by obtain⟨h1,h2⟩:=j7 (y:=d') e;exact⟨h2,fun X V h=>sU h1 X V h r d'⟩
 |.fU,r,v,d,d',e=>by obtain⟨h1,h2⟩:=j7 (y:=d') e;exact⟨h2,fun X V h=>Lp h1 h⟩
 |.eW τ,r,v,d,d',e=>by cases e
 |.dO σ o,r,v,d,d',e=>by obtain⟨h1,h2⟩:=kb (y:=d') e;exact⟨h2,fun X V h=>S5 h1 h⟩
 |.da b z o,r,v,d,d',e=>by obtain⟨h1,h2⟩:=kb (y:=d') e;refine⟨h2,fun X V h=>?_⟩;have:=ZQ h1;subst this;exact h
 |.rp b,r,v,d,d',e=>by obtain⟨h1,h2⟩:=kb (y:=d') e;refine⟨h2,fun X V h=>?_⟩;have:=TW h1;subst this;exact h
 |.ptr b o,r,v,d,d',e=>by
  obtain⟨h1,h2⟩:=j7 (y:=d') e;refine⟨h2,fun X V h=>?_⟩;unfold O3 at h1;split at h1
  .split at h1
   .rename_i q;have q:=aA q;have h1:=aA h1;subst q;subst h1;exact h
   .cases h1
  .cases h1
 |.hd b τ,r,v,d,d',e=>by
  obtain⟨h1,h2⟩:=j7 (y:=d') e;refine⟨h2,fun X V h=>?_⟩;unfold RG at h1;split at h1
  .have h1:=aA h1;subst h1;exact h
  .cases h1
 |.mp b,r,v,d,d',e=>by
  obtain⟨h1,h2⟩:=j7 (y:=d') e;refine⟨h2,fun X V h=>?_⟩;unfold RH at h1;split at h1
  .have h1:=aA h1;subst h1;exact h
  .cases h1
 |.dk b,r,v,d,d',e=>by
  obtain⟨h1,h2⟩:=j7 (y:=d') e;refine⟨h2,fun X V h=>?_⟩;unfold O4 at h1;split at h1
  .have h1:=aA h1;subst h1;exact h
  .cases h1
 |.func f x c,r,v,d,d',e=>by
  unfold oW at e;split at e<;>try cases e
  rename_i p hp;split at e<;>try cases e
  rename_i d₁ h₁;obtain⟨a1,a2⟩:=nU c r p.2 d d₁ h₁;obtain⟨b1,b2⟩:=nU x (eM c r) p.1 d₁ d' e;refine⟨by show(eY c r (eY x (eM c r) d').2).2=d;rw[b1,a1],?_⟩;intro X V h;unfold Jv at hp;split at hp<;>try cases hp
  split at hp<;>cases hp;rename_i q;have q:=aA q;subst q;obtain⟨xs,cs,h1,h2,h3⟩:=h;refine⟨xs,cs,h1,b2 X _ h2,?_⟩;rw[b1];exact a2 X _ h3
 |.agg l,r,v,d,d',e=>by
  unfold oW at e;split at e<;>try cases e
  rename_i p hp;obtain⟨a1,a2⟩:=nU l r p d d' e;refine⟨a1,?_⟩;intro X V h;unfold OZ at hp;split at hp<;>cases hp;obtain⟨cs,h1,h2⟩:=h;exact⟨cs,h1,a2 X _ h2⟩
 |.bk l,r,v,d,d',e=>by
  unfold oW at e;split at e<;>try cases e
  rename_i p hp;obtain⟨a1,a2⟩:=nU l r p d d' e;refine⟨a1,?_⟩;intro X V h;unfold O6 at hp;split at hp<;>cases hp;obtain⟨cs,h1,h2⟩:=h;exact⟨cs,h1,a2 X _ h2⟩
theorem nU:∀(l:List LA) (r:List Sh) (vs:List AV) (d:TL r) (d':TL (eM l r)),iT l r vs d=some d'->(eY l r d').2=d/\∀X cs,bg X vs cs->bg X (eY l r d').1 cs
 |[],r,vs,d,d',e=>by
  unfold iT at e;split at e
  .have e:d=d':=Option.some.inj e;exact⟨e.symm,fun X V h=>h⟩
  .cases e
 |a::l,r,vs,d,d',e=>by
  unfold iT at e;split at e<;>try cases e
  rename_i v vs;split at e<;>try cases e
  rename_i d₁ h₁;obtain⟨a1,a2⟩:=nU l r vs d d₁ h₁;obtain⟨b1,b2⟩:=KP a (eM l r) v d₁ d' e;refine⟨by show(eY l r (j2 a (eM l r) d').2).2=d;rw[b1,a1],?_⟩;rintro X cs ⟨V,t,rfl,h1,h2⟩;refine⟨V,t,rfl,b2 X V h1,?_⟩;show bg X (eY l r (j2 a (eM l r) d').2).1 t;rw[b1];exact a2 X _ h2
end
inductive LO where
 |cells (l:List LA) (ty:TypeId)
 |arr (τ:Sh) (ty:TypeId)
 |map (κ:IntKind) (σ:Sh)
 |dG (ty:TypeId)
 |cR (τ:Sh) (l:List LA) (ty:TypeId)
def VC:Sh:=.agg [.int .i64,.int .i64,.sl (.agg [.int .u64,.int .u64])]
def σO:LO->List Sh->List Sh
 |.cells l _,r=>eM l r|.arr τ _,r=>.sl τ::r|.map κ σ,r=>.sl (.agg [.int κ,σ])::r|.dG _,r=>.sl VC::r|.cR τ l _,r=>.int .i64::.sl τ::eM l r
def oZ:(o:LO)->(r:List Sh)->TL (σO o r)->aC×TL r
 |.cells l ty,r,d=>(.cells (eY l r d).1 ty,(eY l r d).2)|.arr τ ty,r,d=>(.arr τ d.1 ty,d.2)|.map κ σ,r,d=>(.map κ σ d.1,d.2)|.dG ty,r,d=>(.dG d.1 ty,d.2)|.cR τ l ty,r,d=>(.cR τ (Int.toNat d.1) d.2.1 (eY l r d.2.2).1 ty,(eY l r d.2.2).2)
def Bu(ty:TypeId):aC->Option (List AV)
 |.cells vs ty'=>match Nat.beq ty' ty with|true=>some vs|false=>none
 |_=>none
def O0(τ:Sh)(ty:TypeId):aC->Option (List τ.T)
 |.arr τ' L ty'=>match e:τ'.eqv τ,Nat.beq ty' ty with|true,true=>some (gg e L)|_,_=>none
 |_=>none
def Vd{σ τ:Sh}(h:σ.eqv τ=true)(M:cO σ):cO τ:=Sh.dc h▸M
def O2(κ:IntKind)(σ:Sh):aC->Option (cO σ)
 |.map κ' σ' M=>match e:σ'.eqv σ,gL κ' κ with|true,true=>some (Vd e M)|_,_=>none
 |_=>none
def Jw(ty:TypeId):aC->Option (List fC)
 |.dG L ty'=>match Nat.beq ty' ty with|true=>some L|false=>none
 |_=>none
def wE(τ:Sh)(ty:TypeId):aC->Option (Nat×List τ.T×List AV)
 |.cR τ' i L vs ty'=>match e:τ'.eqv τ,Nat.beq ty' ty with|true,true=>some (i,gg e L,vs)|_,_=>none
 |_=>none
theorem TV{τ:Sh}{ty:TypeId}{v:aC}{p:Nat×List τ.T×List AV}(h:wE τ ty v=some p):v=.cR τ p.1 p.2.1 p.2.2 ty:=by
 unfold wE at h;split at h<;>try cases h
 rename_i τ' i L vs ty';split at h
 .rename_i he hty;have hty:=aA hty;subst hty;have:=Sh.dc he;subst this;have h:=Option.some.inj h;rw[<-h];rfl
 .cases h
def Ee:(o:LO)->(r:List Sh)->aC->TL r->Option (TL (σO o r))
 |.cells l ty,r,v,d=>match Bu ty v with|some vs=>iT l r vs d|none=>none
 |.arr τ ty,r,v,d=>jm (O0 τ ty v) d|.map κ σ,r,v,d=>jm (O2 κ σ v) d|.dG ty,r,v,d=>jm (Jw ty v) d|.cR τ l ty,r,v,d=>match wE τ ty v with
  |some p=>match iT l r p.2.2 d with|some d=>some (Int.ofNat p.1,(p.2.1,d))|none=>none
  |none=>none
structure Lay where
 T:List (Tmp×LA)
 h:List (Nat×LO)
 nx:Nat
def σT:List (Tmp×LA)->List Sh->List Sh
 |[],r=>r|p::l,r=>σA p.2 (σT l r)
def σH:List (Nat×LO)->List Sh->List Sh
 |[],r=>r|p::l,r=>σO p.2 (σH l r)
def Lay.σs(l:Lay):List Sh:=σT l.T (σH l.h [])
def wI(n:Nat):(l:List (Tmp×LA))->(r:List Sh)->TL (σT l r)->Option (Tr AV×TL r)
 |[],r,d=>some (.nil,d)|p::l,r,d=>match wI n l r (j2 p.2 (σT l r) d).2 with
  |some (T,d')=>match cI n T (some p.1) (j2 p.2 (σT l r) d).1 with|some T=>some (T,d')|none=>none
  |none=>none
def rM:(l:List (Nat×LO))->(r:List Sh)->TL (σH l r)->Option (Tr aC)
 |[],r,d=>some .nil|p::l,r,d=>match rM l r (oZ p.2 (σH l r) d).2 with|some t=>Tr.set FT t p.1 (some (oZ p.2 (σH l r) d).1)|none=>none
def iV(T:Tr AV):(l:List (Tmp×LA))->(r:List Sh)->TL r->Option (TL (σT l r))
 |[],r,d=>some d|p::l,r,d=>match iV T l r d with
  |some d=>match T.get p.1 with|some v=>oW p.2 (σT l r) v d|none=>none
  |none=>none
def wF(t:Tr aC):(l:List (Nat×LO))->(r:List Sh)->TL r->Option (TL (σH l r))
 |[],r,d=>some d|p::l,r,d=>match wF t l r d with
  |some d=>match t.get p.1 with|some v=>Ee p.2 (σH l r) v d|none=>none
  |none=>none
def Lay.put(n:Nat)(l:Lay)(d:TL l.σs):Option St:=match wI n l.T (σH l.h []) d with
 |some (T,d)=>match rM l.h [] d with|some t=>some ⟨T,⟨t,l.nx⟩⟩|none=>none
 |none=>none
def Lay.get(l:Lay)(st:St):Option (TL l.σs):=match wF st.h.tr l.h [] ()with|some d=>iV st.T l.T (σH l.h []) d|none=>none
theorem KM{n:Nat}{T₀:Tr AV}:∀{l:List (Tmp×LA)}{r:List Sh}{d:TL r}{d':TL (σT l r)},iV T₀ l r d=some d'->∀{T:Tr AV}{d₂:TL r},wI n l r d'=some (T,d₂)->d₂=d /\
  ∀t v',T.get t=some v'->∃v,T₀.get t=some v/\∀X V,Rel X v V->Rel X v' V
 |[],r,d,d',e,T,d₂,h=>by have e:d=d':=Option.some.inj e;have h:(Tr.nil,d')=(T,d₂):=Option.some.inj h;have h1:Tr.nil=T:=congrArg Prod.fst h;have h2:d'=d₂:=congrArg Prod.snd h;subst h1;exact⟨h2.symm.trans e.symm,fun t v' q=>by simp[Tr.get]at q⟩|p::l,r,d,d',e,T,d₂,h=>by
  simp only[iV]at e;split at e<;>try cases e
  rename_i d₁ h₁;split at e<;>try cases e
  rename_i v hv;obtain⟨a1,a2⟩:=KP _ _ _ _ _ e;simp only[wI]at h;split at h<;>try cases h
  rename_i T₁ d₃ hp;rw[a1]at hp;obtain⟨b1,b2⟩:=KM h₁ hp;split at h<;>cases h;rename_i hs;refine⟨b1,?_⟩;intro t v' q;rw[iJ hs t]at q;by_cases r:p.1=t
  .subst r;rw[if_pos rfl]at q;cases q;exact⟨v,hv,a2⟩
  .rw[if_neg (by simpa using r)]at q;exact b2 t v' q
def oC(o o':aC):Prop:=(∀X l,bG X l o->bG X l o')/\∀n,o'.row=some n->o.row=some n
theorem Zq(τ:Sh)(l:List LA)(ty:TypeId)(r:List Sh)(v:aC)(d:TL r)(d':TL (σO (.cR τ l ty) r))(e:Ee (.cR τ l ty) r v d=some d'):(oZ (.cR τ l ty) r d').2=d/\oC v (oZ (.cR τ l ty) r d').1:=by
 have e2:(match wE τ ty v with
  |some p=>match iT l r p.2.2 d with|some d=>some (Int.ofNat p.1,(p.2.1,d))|none=>none
  |none=>none)=some d':=e
 split at e2<;>try cases e2
 rename_i p hv;split at e2<;>try cases e2
 rename_i d₁ h₁;obtain⟨a1,a2⟩:=nU _ _ _ _ _ h₁;have hv:=TV hv;subst hv;refine⟨a1,?_,fun n q=>q⟩;rintro X l' ⟨b,c,pre,mid,post,tail,h0,h1,h2,h3,h4⟩;exact⟨b,c,pre,mid,post,tail,h0,h1,h2,a2 X mid h3,h4⟩
theorem S6:∀(o:LO) (r:List Sh) (v:aC) (d:TL r) (d':TL (σO o r)),Ee o r v d=some d'->(oZ o r d').2=d/\oC v (oZ o r d').1
 |.cells l ty,r,v,d,d',e=>by
  have e2:(match Bu ty v with|some vs=>iT l r vs d|none=>none)=some d':=e;split at e2<;>try cases e2
  rename_i vs hv;unfold Bu at hv;split at hv<;>try cases hv
  split at hv<;>cases hv;rename_i h;have h:=aA h;subst h;obtain⟨a1,a2⟩:=nU _ _ _ _ _ e2;refine⟨a1,?_,fun n q=>by cases q⟩;rintro X l' ⟨b,c,cs,h1,h2,h3⟩;exact⟨b,c,cs,h1,h2,a2 X cs h3⟩
 |.arr τ ty,r,v,d,d',e=>by
  obtain⟨h1,h2⟩:=kb (y:=d') e;refine⟨h2,?_⟩;show oC v (.arr τ d'.1 ty);unfold O0 at h1;split at h1<;>try cases h1
  rename_i τ' L ty';split at h1
  .rename_i he hty;have h1:=Option.some.inj h1;rw[<-h1];have hty:=aA hty;subst hty;have:=Sh.dc he;subst this;exact⟨fun X l h=>h,fun n q=>q⟩
  .cases h1
 |.map κ σ,r,v,d,d',e=>by
  obtain⟨h1,h2⟩:=kb (y:=d') e;refine⟨h2,?_⟩;show oC v (.map κ σ d'.1);unfold O2 at h1;split at h1<;>try cases h1
  rename_i κ' σ' M;split at h1
  .rename_i he hk;have h1:=Option.some.inj h1;rw[<-h1];have hk:=jc hk;subst hk;have:=Sh.dc he;subst this;exact⟨fun X l h=>h,fun n q=>by cases q⟩
  .cases h1
 |.dG ty,r,v,d,d',e=>by
  obtain⟨h1,h2⟩:=kb (y:=d') e;refine⟨h2,?_⟩;show oC v (.dG d'.1 ty);unfold Jw at h1;split at h1<;>try cases h1
  rename_i L ty';split at h1
  .rename_i hty;have h1:=Option.some.inj h1;rw[<-h1];have hty:=aA hty;subst hty;exact⟨fun X l h=>h,fun n q=>by cases q⟩
  .cases h1
 |.cR τ l ty,r,v,d,d',e=>Zq τ l ty r v d d' e
theorem KO{t₀:Tr aC}:∀{l:List (Nat×LO)}{r:List Sh}{d:TL r}{d':TL (σH l r)},wF t₀ l r d=some d'->∀{t:Tr aC},rM l r d'=some t ->
  ∀i o',t.get i=some o'->∃o,t₀.get i=some o/\oC o o'
 |[],r,d,d',e,t,h=>by simp only[rM,aX]at h;subst h;exact fun i o' q=>by simp[Tr.get]at q|p::l,r,d,d',e,t,h=>by
  simp only[wF]at e;split at e<;>try cases e
  rename_i d₁ h₁;split at e<;>try cases e
  rename_i v hv;obtain⟨a1,a2⟩:=S6 _ _ _ _ _ e;simp only[rM]at h;split at h<;>try cases h
  rename_i t₁ hp;rw[a1]at hp;have ih:=KO h₁ hp;intro i o' q;rw[Tr.bz _ _ _ _ _ h i]at q;by_cases r:i=p.1
  .subst r;rw[if_pos rfl]at q;cases q;exact⟨v,hv,a2⟩
  .rw[if_neg r]at q;exact ih i o' q
