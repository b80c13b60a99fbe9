import Derived.Test.YtmkbdfidnfmgmaaGreatKMd
set_option linter.all false
section
namespace Go.Proofs.YtmkbdfidnfmgmaaGreat.V
open Go Go.RowKit
open Go.Proofs.YtmkbdfidnfmgmaaGreat.Ev (Tr Tr.d6 nth fc PE nb vM rT Ji gg looks tmpsOf yR oU vz j2 qp ou vC left mark yS tJ ie lV lY qm)
def wf(h:Hp):Prop:=∀id o,h.tr.get id=some o->id<h.next
variable{h:Hp}
theorem wf.le{h':Hp}(w:wf h)(old:∀id,id<h.next->h'.tr.get id=h.tr.get id):fT h h':=fun b o q=>by rw[old b (w b o q)];exact q
structure One(P:Program)(sh:TypeId->Option Sh)(ops:Array Oper)(o:Oper)(st st':St)(v:AV):Prop where
 next:st.h.next<=st'.h.next
 old:∀id,id<st.h.next->st'.h.tr.get id=st.h.tr.get id
 wf:wf st'.h
 same:∀t,o.dst≠some t->st'.T.get t=st.T.get t
 now:PN P sh ops st.h.next st'.T st'.h o v
 dst:∀t,o.dst=some t->st'.T.get t=some v
variable{R:Type}{n:Nat}{r:R}{o:Oper}{k:St->Option R}{sh:TypeId->Option Sh}{P:Program}{ops:Array Oper}
theorem ap4{st:St}(e:PQ P sh n ops o st k=some r)
  (hl:∀t,o.dst=some t->t∉looks ops.toList o):∃st' v,k st'=some r/\(wf st.h->One P sh ops o st st' v):=by
 unfold PQ at e;obtain⟨b,T₁,e,ave,hw⟩:=ao4 e;have bU:∀{T':Tr AV}{v:AV},jg n T₁ o.dst v=some T'->(∀t∈looks ops.toList o,T'.get t=st.T.get t)/\(∀t,o.dst≠some t->T'.get t=st.T.get t)/\∀t,o.dst=some t->T'.get t=some v:=by
  intro T' v hs;have hg:=qo hs
  grind
 cases b with
 |false=>
  simp only[]at e;split at e<;>try cases e
  rename_i T' hs;obtain⟨k1,k2,k3⟩:=bU hs;refine⟨_,.dW [],e,fun w=>⟨ro _,fun _ _=>rfl,w,k2,.inl ⟨?_,rfl⟩,k3⟩⟩;rw[yQ (ops:=ops) (T:=st.T) k1];exact hw
 |true=>
  simp only[]at e;split at e
  .rename_i g ob v ha;split at e<;>try cases e
   rename_i tr T' ht hs;obtain⟨hg,e⟩:=sb e;subst hg;obtain⟨k1,k2,k3⟩:=bU hs;have hgt:=Tr.d6 FT st.h.tr st.h.next _ tr ht;obtain⟨m1,m2⟩:=JJ ha;refine⟨_,v,e,fun w=>⟨aue,?_,?_,k2,.inr (.inr ⟨?_,m1,st.h.next,ob,?_,?_,aue,ro _⟩),k3⟩⟩
   .intro id hid;show tr.get id=_;rw[hgt id,Fr auc]
   .intro id o' q
    replace q:tr.get id=some o':=q
    rw[hgt id]at q;by_cases p:id=st.h.next
    .simp[p]
    .rw[Fr p]at q;have:=w id o' q;simp only;omega
   .rw[yQ (ops:=ops) (T:=st.T) k1];exact hw
   .refine Uj ha (fun t q=>?_);show T'.get t=T₁.get t;rw[k1 t (oU q),ave t]
   .show tr.get _=_;rw[hgt,IO rfl]
  .split at e<;>try cases e
   rename_i g v hr;split at e<;>try cases e
   rename_i T' hs;obtain⟨hg,e⟩:=sb e;subst hg;obtain⟨k1,k2,k3⟩:=bU hs;refine⟨_,v,e,fun w=>⟨ro _,fun _ _=>rfl,w,k2,.inr (.inl ⟨?_,?_,?_⟩),k3⟩⟩
   .rw[yQ (ops:=ops) (T:=st.T) k1];exact hw
   .rename_i hna _;cases hm:gH o.op with|false=>rfl|true=>unfold nc at hr;unfold gH at hm;split at hm<;>first|(cases hm;done)|(rename_i hop;rw[hop]at hr;cases hr)
   .refine Uh (fT.refl _) hr (fun t q=>?_);rw[k1 t (oU q),ave t]
structure yG(P:Program)(sh:TypeId->Option Sh)(ops:Array Oper)(q:Nat)(os:List Oper)(ps:List PE)(st st':St):Prop where
 next:st.h.next<=st'.h.next
 old:∀id,id<st.h.next->st'.h.tr.get id=st.h.tr.get id
 wf:wf st'.h
 same:∀t,(∀(x:Nat) (o:Oper) (hi:Nat),os[x]?=some o->ps[x]?=some (.p q hi)->o.dst≠some t)->st'.T.get t=st.T.get t
 done:∀(x:Nat) (o:Oper) (hi:Nat),os[x]?=some o->ps[x]?=some (.p q hi)->∃v,PN P sh ops st.h.next st'.T st'.h o v/\∀t,o.dst=some t->st'.T.get t=some v
 uniq:∀(x y:Nat) (o o':Oper) (hi hi':Nat) (t t':Tmp) (v v':AV) (id:Nat),os[x]?=some o->os[y]?=some o'->ps[x]?=some (.p q hi)->ps[y]?=some (.p q hi')->gH o.op=true->gH o'.op=true ->
  o.dst=some t->o'.dst=some t'->st'.T.get t=some v->st'.T.get t'=some v'->lD v=some id->lD v'=some id->x=y
theorem PN.ids{b:Nat}{T:Tr AV}{v:AV}(p:PN P sh ops b T h o v)(hm:gH o.op=true){id:Nat}(hi:lD v=some id):id<h.next/\b<=id:=by
 rcases p with⟨h1,rfl⟩|⟨h1,h2,h3⟩|⟨h1,h2,id',ob,h3,h4,h5,h6⟩
 .cases hi
 .rw[hm]at h2;cases h2
 .have:=(JJ h3).2
  grind
theorem acF{q:Nat}:∀{os:List Oper}{ps:List PE}{st:St},o0 P sh n ops q os ps st k=some r ->
  (∀(x y:Nat) (o o':Oper) (hi hi':Nat) (t:Tmp),os[x]?=some o->os[y]?=some o'->ps[x]?=some (.p q hi)->ps[y]?=some (.p q hi')->x<=y->o'.dst=some t->t∉looks ops.toList o) ->
  (∀(x y:Nat) (o o':Oper) (t:Tmp),os[x]?=some o->os[y]?=some o'->o.dst=some t->o'.dst=some t->x=y) ->
  ∃st',k st'=some r/\(wf st.h->yG P sh ops q os ps st st'):=by
 intro os
 induction os with
 |nil=>intro ps st e _ _;simp only[o0]at e;exact⟨st,e,fun w=>⟨ro _,fun _ _=>rfl,w,fun _ _=>rfl,fun x o hi h=>by simp at h,fun x y o o' hi hi' t t' v v' id h=>by simp at h⟩⟩|cons o os ih=>
  intro ps st e hL hD;cases ps with
  |nil=>simp only[o0]at e;exact⟨st,e,fun w=>⟨ro _,fun _ _=>rfl,w,fun _ _=>rfl,fun x o hi _ h=>by simp at h,fun x y o o' hi hi' t t' v v' id _ _ h=>by simp at h⟩⟩|cons pe ps=>
   simp only[o0]at e;have hL':∀(x y:Nat) (o o':Oper) (hi hi':Nat) (t:Tmp),os[x]?=some o->os[y]?=some o'->ps[x]?=some (.p q hi)->ps[y]?=some (.p q hi')->x<=y->o'.dst=some t->t∉looks ops.toList o:=fun x y o o' hi hi' t h1 h2 h3 h4 h5 h6=>hL (x+1) (y+1) o o' hi hi' t (by simpa using h1) (by simpa using h2) (by simpa using h3) (by simpa using h4) auc h6;have hD':∀(x y:Nat) (o o':Oper) (t:Tmp),os[x]?=some o->os[y]?=some o'->o.dst=some t->o'.dst=some t->x=y:=fun x y o o' t h1 h2 h3 h4=>by have:=hD (x+1) (y+1) o o' t (by simpa using h1) (by simpa using h2) h3 h4;omega
   have skip:o0 P sh n ops q os ps st k=some r->(∀hi,pe≠.p q hi)->∃st',k st'=some r/\(wf st.h->yG P sh ops q (o::os) (pe::ps) st st'):=by
    intro e hne;obtain⟨st',h1,S'⟩:=ih e hL' hD';refine⟨st',h1,fun w=>?_⟩;have S:=S' w;refine⟨S.next,S.old,S.wf,?_,?_,?_⟩
    .intro t ht;exact S.same t (fun x o' hi h1 h2=>ht (x+1) o' hi (by simpa using h1) (by simpa using h2))
    .intro x o' hi h1 h2;cases x with|zero=>simp at h2;exact absurd h2 (hne hi)|succ x=>exact S.done x o' hi (by simpa using h1) (by simpa using h2)
    .intro x y avN avO hi hi' t t' v v' id h1 h2 h3 h4;cases x with|zero=>simp at h3;exact absurd h3 (hne hi)|succ x=>cases y with|zero=>simp at h4;exact absurd h4 (hne hi')|succ y=>intro a1 a2 a3 a4 a5 a6 a7 a8;rw[S.uniq x y avN avO hi hi' t t' v v' id (by simpa using h1) (by simpa using h2) (by simpa using h3) (by simpa using h4) a1 a2 a3 a4 a5 a6 a7 a8]
   cases pe with
   |w j=>exact skip e (fun hi h=>by cases h)
   |p lo hi=>
    simp only[]at e;cases hb:Nat.beq lo q with
    |false=>simp only[hb]at e;exact skip e (fun h' h=>by cases h;exact asF hb rfl)
    |true=>
     have:=db hb;subst this;simp only[hb]at e;obtain⟨avT,awe,e,O'⟩:=ap4 e (fun t ht=>hL 0 0 o o hi hi t aue aue aue aue (ro _) ht);obtain⟨st',h1,S'⟩:=ih e hL' hD';refine⟨st',h1,fun w=>?_⟩;have O:=O' w;have S:=S' O.wf;have hle:fT avT.h st'.h:=O.wf.le S.old;have hlook:∀t∈looks ops.toList o,st'.T.get t=avT.T.get t:=fun t ht=>S.same t (fun x o' h' q1 q2 q3=>hL 0 (x+1) o o' hi h' t aue (by simpa using q1) aue (by simpa using q2) auc q3 ht);have hdst:∀t,o.dst=some t->st'.T.get t=some awe:=fun t ht=>by rw[S.same t (fun x o' h' q1 q2 q3=>by have:=hD 0 (x+1) o o' t aue (by simpa using q1) ht q3;omega)];exact O.dst t ht
     have avI:=O.now.congr hlook hle S.next (ro _);refine⟨EQ O.next S.next,?_,S.wf,?_,?_,?_⟩
     .intro id hid;rw[S.old id (arm hid O.next),O.old id hid]
     .intro t ht;rw[S.same t (fun x o' h' q1 q2=>ht (x+1) o' h' (by simpa using q1) (by simpa using q2)),O.same t (ht 0 o hi aue aue)]
     .intro x o' h' q1 q2;cases x with|zero=>simp at q1;subst q1;exact⟨awe,avI,hdst⟩|succ x=>obtain⟨v,p1,p2⟩:=S.done x o' h' (by simpa using q1) (by simpa using q2);exact⟨v,p1.congr (fun _ _=>rfl) (fT.refl _) (ro _) O.next,p2⟩
     .have cross:∀(y:Nat) (avN avO:Oper) (hi':Nat) (t t':Tmp) (v v':AV) (id:Nat),o=avN->os[y]?=some avO->ps[y]?=some (.p lo hi')->gH avN.op=true->gH avO.op=true->avN.dst=some t->avO.dst=some t' ->
        st'.T.get t=some v->st'.T.get t'=some v'->lD v=some id->lD v'=some id->False:=by
       intro y avN avO hi' t t' v v' id e1 h2 h4 a1 a2 a3 a4 a5 a6 a7 a8;subst e1;rw[hdst t a3]at a5;cases a5;have b1:=O.now.ids a1 a7;obtain⟨awf,p1,p2⟩:=S.done y avO hi' h2 h4;rw[p2 t' a4]at a6;cases a6;have b2:=p1.ids a2 a8;omega
      intro x y avN avO avm avn t t' v v' id h1 h2 h3 h4 a1 a2 a3 a4 a5 a6 a7 a8;cases x with
      |zero=>cases y with|zero=>rfl|succ y=>exact(cross y avN avO avn t t' v v' id (by simpa using h1) (by simpa using h2) (by simpa using h4) a1 a2 a3 a4 a5 a6 a7 a8).elim
      |succ x=>cases y with|zero=>exact(cross x avO avN avm t' t v' v id (by simpa using h2) (by simpa using h1) (by simpa using h3) a2 a1 a4 a3 a6 a5 a8 a7).elim|succ y=>rw[S.uniq x y avN avO avm avn t t' v v' id (by simpa using h1) (by simpa using h2) (by simpa using h3) (by simpa using h4) a1 a2 a3 a4 a5 a6 a7 a8]
def Io(P:Program)(ops:Array Oper)(q:Nat)(ch:Bool)(ts:md)(st:St)(os:List Oper)(ps:List PE):Prop:=∀(x:Nat) (o:Oper) (lo hi:Nat),os[x]?=some o->ps[x]?=some (.p lo hi)->lo<q->q<=hi ->
 (∀t∈looks ops.toList o,t∉ts)/\(ch=true->gH o.op=false->lE ops st.T o=some false\/(lE ops st.T o=some true/\∃v,nc P st.T st.h o=some (true,v)/\∀t,o.dst=some t->st.T.get t=some v))
theorem ac1{R:Type}{P:Program}{ops:Array Oper}{q:Nat}{ch:Bool}{ts:md}{st:St}{k:Option R}{r:R}:∀{os:List Oper}{ps:List PE},nh P ops q ch ts st os ps k=some r->k=some r/\Io P ops q ch ts st os ps
 |[],ps,e=>⟨by simpa[nh]using e,fun x o lo hi h=>by simp at h⟩|o::os,[],e=>⟨by simpa[nh]using e,fun x o lo hi _ h=>by simp at h⟩|o::os,pe::ps,e=>by
  simp only[nh]at e;have go:nh P ops q ch ts st os ps k=some r->(∀lo hi,pe=.p lo hi->lo<q->q<=hi->(∀t∈looks ops.toList o,t∉ts)/\(ch=true->gH o.op=false->lE ops st.T o=some false\/(lE ops st.T o=some true/\∃v,nc P st.T st.h o=some (true,v)/\∀t,o.dst=some t->st.T.get t=some v))) ->
    k=some r/\Io P ops q ch ts st (o::os) (pe::ps):=by
   intro e h;obtain⟨h1,h2⟩:=ac1 e;refine⟨h1,?_⟩;intro x o' lo hi q1 q2;cases x with|zero=>simp at q1 q2;subst q1;exact h lo hi q2|succ x=>exact h2 x o' lo hi (by simpa using q1) (by simpa using q2)
  split at e
  .exact go e (fun lo hi h=>by cases h)
  .rename_i lo hi;split at e
   .split at e<;>try cases e
    rename_i hn;have hn:=Zwt hn;split at e
    .rename_i hm;split at e<;>try cases e
     .rename_i hw;split at e<;>try cases e
      .rename_i g v t hr hd;split at e<;>try cases e
       rename_i u hu;split at e<;>try cases e
       rename_i s hs;obtain⟨hg,e⟩:=sb e;obtain⟨hs',e⟩:=sb e;subst hg;subst hs';have:=acH hs
       grind
      .rename_i g v hr hd;obtain⟨hg,e⟩:=sb e
       grind
     .rename_i hw;exact go e (fun lo' hi' h _ _=>⟨hn,fun _ _=>.inl hw⟩)
    .rename_i hne;exact go e (fun lo' hi' h _ _=>⟨hn,fun h1 h2=>absurd h2 (hne h1)⟩)
   .rename_i hne;refine go e (fun lo' hi' h h1 h2=>?_);cases h;exact absurd (Nat.ble_eq_true_of_le h2) (hne (by rw[atP];exact h1))
def FV(P:Program)(sh:TypeId->Option Sh)(n:Nat)(ops:Array Oper)(pl:List PE):Nat->Nat->St->St->Prop
 |0,_,st,fin=>fin=st|r+1,q,st,fin=>∃(i:Nat) (o:Oper) (ch:Bool) (avT avU:St) (b:Bool) (T:Tr AV) (v:AV),ops[i]?=some o/\pl[i]?=some (.w (q+1))/\(ch=false->fT st.h avT.h)/\FU ops st.T o b T/\jg n T o.dst v=some avT.T /\
   ((b=true/\Fo P T st.h o v avT.h)\/(b=false/\v=.dW []/\avT.h=st.h))/\(wf avT.h->yG P sh ops (q+1) ops.toList pl avT avU)/\Io P ops (q+1) ch (dl o.dst++r9 (q+1) ops.toList pl) avU ops.toList pl/\FV P sh n ops pl r (q+1) avU fin
theorem adt{pl:List PE}{m:Nat}(hP:nb ops pl m){x y:Nat}{o':Oper}{lo hi:Nat}{t:Tmp}(h1:ops[x]?=some o)(h2:ops[y]?=some o')(h3:pl[y]?=some (.p lo hi))(hxy:x<=y)(ht:o'.dst=some t):t∉looks ops.toList o:=by intro hl;have:=hP.below x o h1 y (hP.fresh x o h1 t hl y o' lo hi h2 h3 ht);omega
theorem ada{R:Type}{P:Program}{sh:TypeId->Option Sh}{call:jz R}(hc:lx P call){n:Nat}{ops:Array Oper}{pl:List PE}{m:Nat}(hP:nb ops pl m)
  (hD:∀(x y:Nat) (o o':Oper) (t:Tmp),ops.toList[x]?=some o->ops.toList[y]?=some o'->o.dst=some t->o'.dst=some t->x=y) {k:St->Option R}{r:R} :
  ∀(c q:Nat) (st:St),FE P sh call n ops pl c q st k=some r->∃fin,k fin=some r/\FV P sh n ops pl c q st fin
 |0,q,st,e=>⟨st,e,rfl⟩|c+1,q,st,e=>by
  simp only[FE]at e;split at e<;>try cases e
  rename_i o hf;obtain⟨i,h1,h2⟩:=vC hf;obtain⟨ch,avT,b,T,v,e,hch,W,hT,A⟩:=Zyu hc e;obtain⟨avU,e,S⟩:=acF e (fun x y o o' hi hi' t q1 q2 q3 q4 q5 q6=>adt hP (by simpa using q1) (by simpa using q2) q4 q5 q6) hD;obtain⟨e,C⟩:=ac1 e;obtain⟨fin,hk,rest⟩:=ada hc hP hD c (q+1) avU e;exact⟨fin,hk,i,o,ch,avT,avU,b,T,v,by simpa using h1,h2,hch,W,hT,A,S,C,rest⟩
end Go.Proofs.YtmkbdfidnfmgmaaGreat.V
end
section
namespace Go.Proofs.YtmkbdfidnfmgmaaGreat.Ev
open Go Go.RowKit
variable{ops:Array Oper}{i:Nat}{listed:Array Bool}
theorem TC(h:i∈Region.ready .any ops listed) :
  listed.getD i true=false/\∃o,ops[i]?=some o/\∀e∈gg o,listed.getD e false=true:=by
 obtain⟨h1,o,ho,h2⟩:=mem_ready.1 h;refine⟨h1,o,ho,?_⟩;intro e he;obtain⟨x,hx,hb,rfl⟩:=JG.1 he
 grind
theorem Zqg{o:Oper}(h1:listed.getD i true=false)(ho:ops[i]?=some o)(h2:∀e∈gg o,listed.getD e false=true) :
  i∈Region.ready .any ops listed:=
 mem_ready.2 ⟨h1,o,ho,fun e he hb=>h2 e.on (JG.2 ⟨e,ath.2 he,hb,rfl⟩)⟩
end Go.Proofs.YtmkbdfidnfmgmaaGreat.Ev
end
section
namespace Go.Proofs.YtmkbdfidnfmgmaaGreat.V
open Go Go.RowKit
open Go.Proofs.YtmkbdfidnfmgmaaGreat.Ev (Tr Tr.d6 nth fc PE nb vM rT Ji gg looks tmpsOf yR oU vz j2 qp ou vC left yS tJ ie lV lY qm TC Zqg)
def Su(ops:Array Oper)(pl:List PE)(q:Nat)(L:Nat->Bool)(t:Tmp):Prop:=∃(x:Nat) (o:Oper) (lo hi:Nat),ops[x]?=some o/\pl[x]?=some (.p lo hi)/\lo<=q/\L x=false/\o.dst=some t
structure Inv(P:Program)(sh:TypeId->Option Sh)(n:Nat)(ops:Array Oper)(pl:List PE)(X₀:Cx)(q:Nat)(L:Nat->Bool)(X:Cx)(a:Act)(st:St):Prop where
 size:a.tmps.size=n
 defers:a.defers=[]
 hX:X.h=st.h
 H:bn X
 E:bL X₀ X
 tmp:∀t v,st.T.get t=some v->¬Su ops pl q L t->∃V,a.tmps[t]?=some V/\Rel X v V
 now:∀(i:Nat) (o:Oper) (lo hi:Nat),ops[i]?=some o->pl[i]?=some (.p lo hi)->lo<=q->q<=hi->L i=false->∃v,PN P sh ops X₀.h.next st.T st.h o v/\∀t,o.dst=some t->st.T.get t=some v
 je:∀(i:Nat) (o:Oper) (lo hi:Nat) (t:Tmp) (v:AV) (id:Nat),ops[i]?=some o->pl[i]?=some (.p lo hi)->lo<=q->L i=false->gH o.op=true->o.dst=some t->st.T.get t=some v->lD v=some id ->
  X.s id=none/\id<st.h.next/\X₀.h.next<=id
 yx:∀(i j:Nat) (o o':Oper) (lo hi lo' hi':Nat) (t t':Tmp) (v v':AV) (id:Nat),ops[i]?=some o->ops[j]?=some o'->pl[i]?=some (.p lo hi)->pl[j]?=some (.p lo' hi')->lo<=q->lo'<=q->L i=false->L j=false ->
  gH o.op=true->gH o'.op=true->o.dst=some t->o'.dst=some t'->st.T.get t=some v->st.T.get t'=some v'->lD v=some id->lD v'=some id->i=j
 down:∀(z:Nat) (o:Oper),ops[z]?=some o->L z=true->∀e∈gg o,L e=true
 wl:∀(i j:Nat),pl[i]?=some (.w j)->(L i=true↔j<=q)
 lo:∀(i l h:Nat),pl[i]?=some (.p l h)->L i=true->l<=q
 hi:∀(i l h:Nat),pl[i]?=some (.p l h)->h<q->L i=true
theorem ap0{X:Cx}(H:bn X){h':Hp}(hn:X.h.next<=h'.next)(old:∀id,id<X.h.next->h'.tr.get id=X.h.tr.get id)(w:wf h'):bL X ⟨X.s,h',X.w,X.A⟩/\bn ⟨X.s,h',X.w,X.A⟩:=by
 have E:bL X ⟨X.s,h',X.w,X.A⟩:=by
  refine⟨rfl,rfl,rfl,ro _,fun _ _ h=>h,fun _ _ _ h=>h,hn,fun _ _ _=>rfl,?_,?_,fun i hi _=>old i hi,rfl⟩
  .rintro b ⟨i,o,c,h1,h2,h3⟩
   replace h1:h'.tr.get i=some o:=h1
   rw[old i (H.eh i _ h2)]at h1;exact .inl ⟨i,o,c,h1,h2,h3⟩
  .intro j n hj h;rw[<-ary (old j hj)];exact h
 refine⟨E,⟨?_,?_,w,?_,H.alt,?_⟩⟩
 .intro i o l h1 h2
  replace h1:h'.tr.get i=some o:=h1
  rw[old i (H.eh i _ h2)]at h1;exact(H.obj i o l h1 h2).ext (E.fC H) (fun _ _=>rfl)
 .intro i j o o' b c c' h1 h2 h3 h4
  replace h1:h'.tr.get i=some o:=h1
  replace h2:h'.tr.get j=some o':=h2
  rw[old i (H.eh i _ h3)]at h1;rw[old j (H.eh j _ h4)]at h2;exact H.inj i j o o' b c c' h1 h2 h3 h4
 .intro i l h;exact arm (H.eh i l h) hn
 .intro i o b c h1 h2
  replace h1:h'.tr.get i=some o:=h1
  rw[old i (H.eh i _ h2)]at h1;exact H.loc i o b c h1 h2
section
variable{P:Program}{sh:TypeId->Option Sh}{n:Nat}{ops:Array Oper}{pl:List PE}{X₀:Cx}{q:Nat}{L:Nat->Bool}{X:Cx}{a:Act}{st:St}
theorem Inv.agf{k:Nat}(I:Inv P sh n ops pl X₀ q L X a st)(hP:nb ops pl k){i:Nat}{o:Oper}(ho:ops[i]?=some o)(hr:∀e∈gg o,L e=true){t:Tmp}(ht:t∈looks ops.toList o):¬Su ops pl q L t:=by rintro⟨x,ox,l,h,p1,p2,p3,p4,p5⟩;have:=hr x (hP.fresh i o ho t ht x ox l h p1 p2 p5);rw[p4]at this;cases this
theorem Inv.aoB{k:Nat}(I:Inv P sh n ops pl X₀ q L X a st)(hP:nb ops pl k){i:Nat}{o:Oper}(ho:ops[i]?=some o)(hr:∀e∈gg o,L e=true)(hL:L i=false){l h:Nat}(hp:pl[i]?=some (.p l h)):l<=q/\q<=h:=by
 constructor
 .rcases hP.lo i o l h ho hp with r|⟨e,pe,h1,h2,h3⟩
  .omega
  .have hLe:=hr e h1;cases pe with|w j=>have:=(I.wl e j h2).1 hLe;simp only[PE.num]at h3;omega|p l' h'=>have:=I.lo e l' h' h2 hLe;simp only[PE.num]at h3;omega
 .rcases adc h q with r|r
  .have:=I.hi i l h hp r;rw[hL]at this;cases this
  .exact r
theorem Inv.due{k:Nat}(I:Inv P sh n ops pl X₀ q L X a st)(hP:nb ops pl k){i:Nat}{o:Oper}(ho:ops[i]?=some o)(hr:∀e∈gg o,L e=true)
  (hw:pl[i]?=some (.w (q+1))):∀d (x l h:Nat),ops.size<=x+d->pl[x]?=some (.p l h)->h<=q->L x=true:=by
 have hk:q+1<=k:=(hP.w i o (q+1) ho hw).2.1;intro d
 induction d with
 |zero=>intro x l h hx hp _;have:=jN hp;rw[hP.len]at this;omega|succ d ih=>
  intro x l h hx hp hh;rcases hP.hi x l h hp with r|⟨z,oz,pe,h1,h2,h3,h4⟩
  .omega
  .have hxz:=hP.below z oz h1 x h3;have hz:L z=true\/z=i:=by
    rcases h4 with⟨j,rfl,hj⟩|⟨l',h',rfl,hh'⟩
    .rcases adc q j with r|r
     .have:j=q+1:=auc
      subst this;exact .inr (hP.uniq z i _ h2 hw)
     .exact .inl ((I.wl z j h2).2 r)
    grind
   rcases hz with hz|rfl
   .exact I.down z oz h1 hz x h3
   grind
theorem Inv.Uw{X':Cx}{i:Nat}{o:Oper}{l h:Nat}{V:Value}(I:Inv P sh n ops pl X₀ q L X a st)(hN:∀t,o.dst=some t->t<n)(ho:ops[i]?=some o)(hr:∀e∈gg o,L e=true)(hp:pl[i]?=some (.p l h))(hl:l<=q)
  (hX:X'.h=st.h) (H:bn X') (E:bL X₀ X') (Ex:jm X X') (hV:∀t,o.dst=some t->∃v,st.T.get t=some v/\Rel X' v V)
  (hs:∀(j:Nat) (o':Oper) (lo hi:Nat) (t:Tmp) (v:AV) (id:Nat),ops[j]?=some o'->pl[j]?=some (.p lo hi)->lo<=q->Ev.mark L i j=false->gH o'.op=true->o'.dst=some t->st.T.get t=some v->lD v=some id->X'.s id=none) :
  Inv P sh n ops pl X₀ q (Ev.mark L i) X' (a.put o.dst V) st:=by
 have nw:∀j,pl[i]?≠some (.w j):=fun j r=>by rw[hp]at r;cases r
 refine⟨?_,?_,hX,H,E,?_,?_,?_,?_,?_,?_,?_,?_⟩
 .cases hd:o.dst<;>simp[Act.put,I.size]
 .cases hd:o.dst<;>simp[Act.put,I.defers]
 .intro t v hv hn;by_cases hd:o.dst=some t
  .obtain⟨v',h1,h2⟩:=hV t hd;rw[hv]at h1;cases h1;have r:t<a.tmps.size:=by rw[I.size];exact hN t hd
   exact⟨V,by rw[hd];simp[Act.put,r],h2⟩
  .obtain⟨V',h1,h2⟩:=I.tmp t v hv (by
    rintro⟨x,ox,lo,hi,p1,p2,p3,p4,p5⟩;by_cases hxi:x=i
    .subst hxi;rw[ho]at p1;cases p1;exact hd p5
    .exact hn ⟨x,ox,lo,hi,p1,p2,p3,by unfold Ev.mark;rw[Fr hxi];exact p4,p5⟩)
   refine⟨V',?_,h2.ext Ex⟩;cases hdd:o.dst with
   |none=>simpa[Act.put]using h1|some t'=>
    simp only[Act.put,asV]
    grind
 .intro j o' lo hi h1 h2 h3 h4 h5;exact I.now j o' lo hi h1 h2 h3 h4 (qm h5).1
 .intro j o' lo hi t v id h1 h2 h3 h4 h5 h6 h7 h8;obtain⟨_,q2,q3⟩:=I.je j o' lo hi t v id h1 h2 h3 (qm h4).1 h5 h6 h7 h8
  grind
 .intro x y avN avO lo hi lo' hi' t t' v v' id a1 a2 a3 a4 a5 a6 a7 a8;exact I.yx x y avN avO lo hi lo' hi' t t' v v' id a1 a2 a3 a4 a5 a6 (qm a7).1 (qm a8).1
 .intro z oz hz hL e he;by_cases hzi:z=i
  .subst hzi;rw[ho]at hz;cases hz;exact lY (hr e he)
  .unfold Ev.mark at hL;rw[Fr hzi]at hL;exact lY (I.down z oz hz hL e he)
 .intro x j hx;have:x≠i:=by rintro rfl;exact nw j hx
  unfold Ev.mark;rw[Fr this];exact I.wl x j hx
 .intro x l' h' hx hL;by_cases hxi:x=i
  .subst hxi;rw[hp]at hx;cases hx;exact hl
  .unfold Ev.mark at hL;rw[Fr hxi]at hL;exact I.lo x l' h' hx hL
 .intro x l' h' hx hh;exact lY (I.hi x l' h' hx hh)
theorem Inv.step{k:Nat}(I:Inv P sh n ops pl X₀ q L X a st)(hP:nb ops pl k)(hM:∀(x:Nat) (o:Oper) (lo hi:Nat),ops[x]?=some o->pl[x]?=some (.p lo hi)->gH o.op=true->∃t,o.dst=some t){i:Nat}{o:Oper}(hN:∀t,o.dst=some t->t<n)
  (ho:ops[i]?=some o) (hr:∀e∈gg o,L e=true) (hL:L i=false) {l h:Nat}(hp:pl[i]?=some (.p l h)) {K:Act->World->Prop}{Q:Exit->Act->World->Prop}
  (hK:∀X' a',Inv P sh n ops pl X₀ q (Ev.mark L i) X' a' st->K a' X'.w):wpOp P ops Q i K a X.w:=by
 obtain⟨hlq,hqh⟩:=I.aoB hP ho hr hL hp;obtain⟨v,pn,hdst⟩:=I.now i o l h ho hp hlq hqh hL;have look:∀t∈looks ops.toList o,∀v,st.T.get t=some v->∃V,a.tmps[t]?=some V/\Rel X v V:=fun t ht v hv=>I.tmp t v hv (I.agf hP ho hr ht);have opnd:pT X st.T a o.op:=TU fun t ht u hu=>look t (oU ht) u hu;have bU:∀(j:Nat) (o':Oper) (lo hi:Nat) (t:Tmp) (v:AV) (id:Nat),ops[j]?=some o'->pl[j]?=some (.p lo hi)->lo<=q->Ev.mark L i j=false->gH o'.op=true->o'.dst=some t->st.T.get t=some v->lD v=some id->X.s id=none:=fun j o' lo hi t v id h1 h2 h3 h4 h5 h6 h7 h8=>(I.je j o' lo hi t v id h1 h2 h3 (qm h4).1 h5 h6 h7 h8).1;unfold wpOp;rw[ho];simp only[];rcases pn with⟨hw,rfl⟩|⟨hw,hmk,hrd⟩|⟨hw,hmk,id,ob,ha,hid,hlt,hge⟩
 .rw[TR hw look];simp only[asL,aua];exact hK X _ (I.Uw hN ho hr hp hlq I.hX I.H I.E (jm.refl X) (fun t ht=>⟨_,hdst t ht,[],rfl,rfl⟩) bU)
 .rw[TR hw look];simp only[aub];left;rw[<-I.hX]at hrd;obtain⟨V,hrun,hR⟩:=Zlk I.H hrd rfl opnd;unfold Oper.wp;rw[hrun];exact hK X _ (I.Uw hN ho hr hp hlq I.hX I.H I.E (jm.refl X) (fun t ht=>⟨_,hdst t ht,hR⟩) bU)
 .rw[TR hw look];simp only[aub];left;obtain⟨td,htd⟩:=hM i o l h ho hp hmk;have hidv:=(JJ ha).2;simp only at hidv;obtain⟨sn,_,_⟩:=I.je i o l h td v id ho hp hlq hL hmk htd (hdst td htd) hidv;rw[<-I.hX]at ha hid hlt;obtain⟨c,ob',V,hrun,hm⟩:=Zx7 I.H ha rfl opnd;have Ex:=jm.real (c:=c) (ob:=ob') I.H sn;have M:Made X ⟨dw X.s id (.at X.w.heap.size c),X.h,{ X.w with heap:=X.w.heap.push ob' },X.A⟩ id c ob ob':=⟨Ex,rfl,iu _ _ _,hid⟩;obtain⟨m1,m2⟩:=hm _ M;have H':=I.H.real (c:=c) (ob:=ob') sn hlt (fun o' h'=>by rw[hid]at h';cases h';exact m1);have E':bL X₀ ⟨dw X.s id (.at X.w.heap.size c),X.h,{ X.w with heap:=X.w.heap.push ob' },X.A⟩:=by
   have E:=I.E;refine⟨E.os,E.tape,E.output,by have:=E.size;simp;omega,?_,?_,E.next,?_,?_,E.len,E.same,E.A⟩
   .intro j l' hj;have:=E.sg j l' hj;show dw X.s id _ j=_;rw[fL _ _ _ (by grind)];exact this
   .intro j l' hj h'
    replace h':dw X.s id _ j=some l':=h'
    rw[fL _ _ _ auc]at h';exact E.eh j l' hj h'
   .intro b hb hn;have:=E.size;show(X.w.heap.push ob')[b]?=_;rw[Array.getElem?_push,Fr auc];exact E.frame b hb hn
   .rintro b ⟨j,avN,auV,h1,h2⟩;obtain⟨h2,h3⟩:=h2
    replace h2:dw X.s id (.at X.w.heap.size c) j=some auV:=h2
    by_cases hj:j=id
    .subst hj;rw[iu]at h2;cases h2;right;have:=E.size;have:b=X.w.heap.size:=h3;omega
    .rw[fL _ _ _ hj]at h2;exact E.dY b ⟨j,avN,auV,h1,h2,h3⟩
  unfold Oper.wp;rw[hrun];refine hK ⟨dw X.s id (.at X.w.heap.size c),X.h,{ X.w with heap:=X.w.heap.push ob' },X.A⟩ _ (Inv.Uw (X':=⟨dw X.s id (.at X.w.heap.size c),X.h,{ X.w with heap:=X.w.heap.push ob' },X.A⟩) I hN ho hr hp hlq I.hX H' E' Ex (fun t ht=>⟨_,hdst t ht,m2⟩) ?_);intro j o' lo hi t v' id' h1 h2 h3 h4 h5 h6 h7 h8;obtain⟨hLj,hji⟩:=qm h4;have s':=(I.je j o' lo hi t v' id' h1 h2 h3 hLj h5 h6 h7 h8).1;show dw X.s id _ id'=none;rw[fL _ _ _ ?_]
  .exact s'
  .rintro rfl;exact hji (I.yx j i o' o lo hi l h t td v' v id' h1 ho h2 hp h3 hlq hLj hL h5 hmk h6 htd h7 (hdst td htd) h8 hidv)
theorem Inv.enter{st':St}{h₁:Hp}(hsz:a.tmps.size=n)(hdf:a.defers=[])(hX:X.h=h₁)(H:bn X)(E:bL X₀ X){T₁:Tr AV}(S:yG P sh ops q ops.toList pl ⟨T₁,h₁⟩ st')
  (tmp:∀t v,T₁.get t=some v->(∀(x:Nat) (o:Oper) (hi:Nat),ops[x]?=some o->pl[x]?=some (.p q hi)->o.dst≠some t)->¬Su ops pl q L t->∃V,a.tmps[t]?=some V/\Rel X v V)
  (now:∀(i:Nat) (o:Oper) (lo hi:Nat),ops[i]?=some o->pl[i]?=some (.p lo hi)->lo<q->q<=hi->L i=false->∃v,PN P sh ops X₀.h.next st'.T st'.h o v/\∀t,o.dst=some t->st'.T.get t=some v)
  (je:∀(i:Nat) (o:Oper) (lo hi:Nat) (t:Tmp) (v:AV) (id:Nat),ops[i]?=some o->pl[i]?=some (.p lo hi)->lo<q->L i=false->gH o.op=true->o.dst=some t->st'.T.get t=some v->lD v=some id ->
   X.s id=none/\id<h₁.next/\X₀.h.next<=id)
  (yx:∀(i j:Nat) (o o':Oper) (lo hi lo' hi':Nat) (t t':Tmp) (v v':AV) (id:Nat),ops[i]?=some o->ops[j]?=some o'->pl[i]?=some (.p lo hi)->pl[j]?=some (.p lo' hi')->lo<q->lo'<q->L i=false->L j=false ->
   gH o.op=true->gH o'.op=true->o.dst=some t->o'.dst=some t'->st'.T.get t=some v->st'.T.get t'=some v'->lD v=some id->lD v'=some id->i=j)
  (hun:∀(i hi:Nat),pl[i]?=some (.p q hi)->L i=false)
  (down:∀(z:Nat) (o:Oper),ops[z]?=some o->L z=true->∀e∈gg o,L e=true) (wl:∀(i j:Nat),pl[i]?=some (.w j)->(L i=true↔j<=q)) (lo:∀(i l h:Nat),pl[i]?=some (.p l h)->L i=true->l<=q)
  (hi:∀(i l h:Nat),pl[i]?=some (.p l h)->h<q->L i=true):Inv P sh n ops pl X₀ q L ⟨X.s,st'.h,X.w,X.A⟩ a st':=by
 subst hX;obtain⟨G,H'⟩:=ap0 H S.next S.old S.wf;have new:∀(i:Nat) (o:Oper) (hi:Nat) (t:Tmp) (v:AV) (id:Nat),ops[i]?=some o->pl[i]?=some (.p q hi)->gH o.op=true->o.dst=some t->st'.T.get t=some v->lD v=some id->id<st'.h.next/\X.h.next<=id:=by intro i o hi t v id h1 h2 h3 h4 h5 h6;obtain⟨u,p1,p2⟩:=S.done i o hi (by simpa using h1) h2;rw[p2 t h4]at h5;cases h5;exact p1.ids h3 h6
 refine⟨hsz,hdf,rfl,H',E.trans G,?_,?_,?_,?_,down,wl,lo,hi⟩
 .intro t v hv hn;have hne:∀(x:Nat) (o:Oper) (hi:Nat),ops[x]?=some o->pl[x]?=some (.p q hi)->o.dst≠some t:=fun x o hi h1 h2 h3=>hn ⟨x,o,q,hi,h1,h2,ro _,hun x hi h2,h3⟩;rw[S.same t (fun x o hi h1 h2=>hne x o hi (by simpa using h1) h2)]at hv;obtain⟨V,h1,h2⟩:=tmp t v hv hne hn;exact⟨V,h1,h2.ext (G.fC H)⟩
 .intro i o lo' hi' h1 h2 h3 h4 h5;rcases adc lo' q with r|r
  .exact now i o lo' hi' h1 h2 r h4 h5
  .have:lo'=q:=auc
   subst this;obtain⟨v,p1,p2⟩:=S.done i o hi' (by simpa using h1) h2;exact⟨v,p1.congr (fun _ _=>rfl) (fT.refl _) (ro _) E.next,p2⟩
 .intro i o lo' hi' t v id h1 h2 h3 h4 h5 h6 h7 h8;rcases adc lo' q with r|r
  .obtain⟨p1,p2,p3⟩:=je i o lo' hi' t v id h1 h2 r h4 h5 h6 h7 h8;exact⟨p1,arm p2 S.next,p3⟩
  .have:lo'=q:=auc
   subst this;obtain⟨p1,p2⟩:=new i o hi' t v id h1 h2 h5 h6 h7 h8;refine⟨?_,p1,EQ E.next p2⟩;show X.s id=none;cases hq:X.s id with|none=>rfl|some l=>have:=H.eh id l hq;omega
 .intro i j o o' avD avm avE avn t t' v v' id a1 a2 a3 a4 a5 a6 a7 a8 a9 a10 a11 a12 a13 a14 a15 a16;rcases adc avD q with r|r<;>rcases adc avE q with r'|r'
  .exact yx i j o o' avD avm avE avn t t' v v' id a1 a2 a3 a4 r r' a7 a8 a9 a10 a11 a12 a13 a14 a15 a16
  .have:avE=q:=auc
   subst this;have p1:=(je i o avD avm t v id a1 a3 r a7 a9 a11 a13 a15).2.1;have p2:=(new j o' avn t' v' id a2 a4 a10 a12 a14 a16).2;omega
  .have:avD=q:=auc
   subst this;have p1:=(je j o' avE avn t' v' id a2 a4 r' a8 a10 a12 a14 a16).2.1;have p2:=(new i o avm t v id a1 a3 a9 a11 a13 a15).2;omega
  .have e1:avD=q:=auc
   have e2:avE=q:=auc
   subst e1;subst e2;exact S.uniq i j o o' avm avn t t' v v' id (by simpa using a1) (by simpa using a2) a3 a4 a9 a10 a11 a12 a13 a14 a15 a16
end
variable{i:Nat}{Q:Exit->Act->World->Prop}{K:Act->World->Prop}{o:Oper}{k:Nat}
theorem apU(L:Nat->Bool)(i:Nat):Ev.mark L i i=true:=by unfold Ev.mark;simp
theorem qu(L:Nat->Bool){j:Nat}(h:j≠i):Ev.mark L i j=L j:=by unfold Ev.mark;rw[Fr h]
section
variable{P:Program}{sh:TypeId->Option Sh}{n:Nat}{ops:Array Oper}{pl:List PE}{X₀:Cx}{q:Nat}{L:Nat->Bool}{X:Cx}{a:Act}{st:St}
theorem Inv.write(I:Inv P sh n ops pl X₀ q L X a st)(hP:nb ops pl k)(hM:∀(x:Nat) (o:Oper) (lo hi:Nat),ops[x]?=some o->pl[x]?=some (.p lo hi)->gH o.op=true->∃t,o.dst=some t)
  (hD:∀(x y:Nat) (o o':Oper) (t:Tmp),ops[x]?=some o->ops[y]?=some o'->o.dst=some t->o'.dst=some t->x=y)
  (ho:ops[i]?=some o) (hr:∀e∈gg o,L e=true) (hL:L i=false) (hp:pl[i]?=some (.w (q+1)))
  {ch:Bool}{avT avU:St}{b:Bool}{T:Tr AV}{v:AV}(hch:ch=false->fT st.h avT.h) (W:FU ops st.T o b T) (hT:jg n T o.dst v=some avT.T)
  (hA:(b=true/\Fo P T st.h o v avT.h)\/(b=false/\v=.dW []/\avT.h=st.h)) (hS:wf avT.h->yG P sh ops (q+1) ops.toList pl avT avU)
  (hC:Io P ops (q+1) ch (dl o.dst++r9 (q+1) ops.toList pl) avU ops.toList pl) 
  (hK:∀X' a',Inv P sh n ops pl X₀ (q+1) (Ev.mark L i) X' a' avU->K a' X'.w):wpOp P ops Q i K a X.w:=by
 have look:∀t∈looks ops.toList o,∀v,st.T.get t=some v->∃V,a.tmps[t]?=some V/\Rel X v V:=fun t ht v hv=>I.tmp t v hv (I.agf hP ho hr ht);have opnd:pT X T a o.op:=TU fun t ht u hu=>look t (oU ht) u (W.get t u hu);have Tget:∀t,T.get t=st.T.get t:=by intro t;cases h:T.get t with|some u=>rw[W.get t u h]|none=>cases h':st.T.get t with|none=>rfl|some u=>rw[W.get' t u h']at h;cases h
 have hg:=qo hT;have fin:∀X' V,bL X X'->bn X'->X'.h=avT.h->Rel X' v V->K (a.put o.dst V) X'.w:=by
  intro X' V E H' hh hv;have S:=hS (by rw[<-hh];exact H'.lt);have done:∀(x l h:Nat),pl[x]?=some (.p l h)->h<=q->L x=true:=fun x l h h1 h2=>I.due hP ho hr hp ops.size x l h auc h1 h2;have xi:∀{x l h:Nat},pl[x]?=some (.p l h)->x≠i:=by rintro x l h h1 rfl;rw[hp]at h1;cases h1
  have T2:∀(x:Nat) (ox:Oper) (lo hi:Nat) (t:Tmp),ops[x]?=some ox->pl[x]?=some (.p lo hi)->lo<=q->ox.dst=some t->avU.T.get t=st.T.get t:=by intro x ox lo hi t h1 h2 h3 h4;rw[S.same t (fun y oy hi' g1 g2 g3=>by have:=hD x y ox oy t h1 (by simpa using g1) h4 g3;subst this;rw[h2]at g2;cases g2;omega),hg t,Fr (fun r=>xi h2 (hD x i ox o t h1 ho h4 r)),Tget t]
  have E':=I.E.trans E;refine hK ⟨X'.s,avU.h,X'.w,X'.A⟩ _ (Inv.enter (X:=X') (h₁:=avT.h) (T₁:=avT.T) ?_ ?_ hh H' E' S ?_ ?_ ?_ ?_ ?_ ?_ ?_ ?_ ?_)
  .cases hd:o.dst<;>simp[Act.put,I.size]
  .cases hd:o.dst<;>simp[Act.put,I.defers]
  .intro t u hu hne hn;rw[hg t]at hu;by_cases hd:o.dst=some t
   .rw[IO hd]at hu;cases hu;have hlt:t<a.tmps.size:=by rw[I.size];rw[hd]at hT;exact Pq hT
    exact⟨V,by rw[hd];simp[Act.put,hlt],hv⟩
   .rw[Fr hd,Tget t]at hu;obtain⟨V',h1,h2⟩:=I.tmp t u hu (by rintro⟨x,ox,lo,hi,p1,p2,p3,p4,p5⟩;exact hn ⟨x,ox,lo,hi,p1,p2,auc,by rw[qu L (xi p2)];exact p4,p5⟩);refine⟨V',?_,h2.ext (E.fC I.H)⟩;cases hdd:o.dst with|none=>simpa[Act.put]using h1|some t'=>simp only[Act.put,asV];rw[Fr (fun r=>hd (by rw[hdd,r]))];exact h1
  .intro x ox lo hi h1 h2 h3 h4 h5;rw[qu L (xi h2)]at h5;obtain⟨u,pn,hdu⟩:=I.now x ox lo hi h1 h2 auc auc h5;obtain⟨c1,c2⟩:=hC x ox lo hi (by simpa using h1) h2 h3 h4;have hdst:∀t,ox.dst=some t->avU.T.get t=some u:=fun t ht=>by rw[T2 x ox lo hi t h1 h2 auc ht];exact hdu t ht
   have lk:∀t∈looks ops.toList ox,avU.T.get t=st.T.get t:=by intro t ht;have hnot:=c1 t ht;rw[S.same t (fun y oy hi' g1 g2 g3=>hnot (qr.2 (.inr (Zwb g1 g2 g3)))),hg t,Fr (fun r=>hnot (qr.2 (.inl (by rw[r];simp[dl])))),Tget t]
   have hw:=yQ (ops:=ops) (T:=st.T) (T':=avU.T) lk;rcases pn with⟨w1,rfl⟩|⟨w1,m1,r1⟩|⟨w1,m1,id,ob,ha,hid,hlt,hge⟩
   .exact⟨.dW [],.inl ⟨hw.trans w1,rfl⟩,hdst⟩
   .cases hc:ch with
    |false=>have hle:fT st.h avU.h:=(hch hc).trans (fun b' o' q'=>by rw[S.old b' (by rw[<-hh]at q' |-;exact H'.lt b' o' q')];exact q');exact⟨u,.inr (.inl ⟨hw.trans w1,m1,Uh hle r1 (fun t ht=>lk t (oU ht))⟩),hdst⟩|true=>
     rcases c2 hc m1 with g|⟨g,u',r2,d2⟩
     .rw[hw,w1]at g;cases g
     .exact⟨u',.inr (.inl ⟨g,m1,r2⟩),d2⟩
   .obtain⟨td,htd⟩:=hM x ox lo hi h1 h2 m1;have hidv:=(JJ ha).2;simp only at hidv;obtain⟨sn,hlt',_⟩:=I.je x ox lo hi td u id h1 h2 auc h5 m1 htd (hdu td htd) hidv;have hob:avU.h.tr.get id=some ob:=by have e1:=E.same id (by rw[I.hX];exact hlt') sn;rw[hh,I.hX,hid]at e1;have e2:=S.old id (by rw[<-hh]at e1 |-;exact H'.lt id ob e1);rw[e2];exact e1
    refine⟨u,.inr (.inr ⟨hw.trans w1,m1,id,ob,Uj ha (fun t ht=>lk t (oU ht)),hob,S.wf id ob hob,hge⟩),hdst⟩
  .intro x ox lo hi t u id h1 h2 h3 h4 h5 h6 h7 h8;rw[qu L (xi h2)]at h4;rw[T2 x ox lo hi t h1 h2 auc h6]at h7;obtain⟨p1,p2,p3⟩:=I.je x ox lo hi t u id h1 h2 auc h4 h5 h6 h7 h8;refine⟨?_,?_,p3⟩
   .cases hq:X'.s id with|none=>rfl|some l=>have:=E.eh id l (by rw[I.hX];exact p2) hq;rw[p1]at this;cases this
   .have:=E.next;rw[hh,I.hX]at this;omega
  .intro x y ox oy avD avm avE avn t t' u u' id a1 a2 a3 a4 a5 a6 a7 a8 a9 a10 a11 a12 a13 a14 a15 a16;rw[qu L (xi a3)]at a7;rw[qu L (xi a4)]at a8;rw[T2 x ox avD avm t a1 a3 auc a11]at a13;rw[T2 y oy avE avn t' a2 a4 auc a12]at a14;exact I.yx x y ox oy avD avm avE avn t t' u u' id a1 a2 a3 a4 auc auc a7 a8 a9 a10 a11 a12 a13 a14 a15 a16
  .intro x hi hx;rw[qu L (xi hx)];cases hq:L x with|false=>rfl|true=>have:=I.lo x (q+1) hi hx hq;omega
  .intro z oz hz hLz e he;by_cases hzi:z=i
   .subst hzi;rw[ho]at hz;cases hz;exact lY (hr e he)
   .rw[qu L hzi]at hLz;exact lY (I.down z oz hz hLz e he)
  .intro x j hx;by_cases hxi:x=i
   .subst hxi;rw[hp]at hx;cases hx;rw[apU];exact⟨fun _=>ro _,fun _=>rfl⟩
   .rw[qu L hxi,I.wl x j hx];constructor
    .intro r;omega
    .intro r;rcases adc q j with s|s
     .have:j=q+1:=auc
      subst this;exact absurd (hP.uniq x i _ hx hp) hxi
     .exact s
  .intro x l h hx hLx;rw[qu L (xi hx)]at hLx;have:=I.lo x l h hx hLx;omega
  .intro x l h hx hh';exact lY (done x l h hx auc)
 unfold wpOp;rw[ho];simp only[];rw[W.is X a (fun j w oj t v hgd hj hd hv=>look t (vz (ops:=ops) hgd hj hd) v hv)];rcases hA with⟨rfl,A⟩|⟨rfl,rfl,hh⟩
 .simp only[aub];left;exact A X a I.hX I.H opnd K Q (fun X' V h1 h2 h3 h4=>fin X' V h1 h2 h3 h4)
 .simp only[asL,aua];exact fin X undef (bL.refl X) I.H (by rw[hh];exact I.hX) ⟨[],rfl,rfl⟩
end
variable{v:AV}{b:Bool}{T:Tr AV}
theorem aoL{P:Program}{sh:TypeId->Option Sh}{n:Nat}{ops:Array Oper}{pl:List PE}(hP:nb ops pl k)(hM:∀(x:Nat) (o:Oper) (lo hi:Nat),ops[x]?=some o->pl[x]?=some (.p lo hi)->gH o.op=true->∃t,o.dst=some t)
  (hD:∀(x y:Nat) (o o':Oper) (t:Tmp),ops[x]?=some o->ops[y]?=some o'->o.dst=some t->o'.dst=some t->x=y) (hN:∀(x:Nat) (o:Oper) (t:Tmp),ops[x]?=some o->o.dst=some t->t<n)
  {X₀:Cx}{fin:St}(hQ:∀X a,RF X n fin a->bL X₀ X->Q .normal a X.w) :
  ∀(fuel:Nat) (r q:Nat) (listed:Array Bool) (st:St) (X:Cx) (a:Act),q+r=k->FV P sh n ops pl r q st fin->listed.size=ops.size->left ops.size (fun j=>listed.getD j false)<=fuel ->
   Inv P sh n ops pl X₀ q (fun j=>listed.getD j false) X a st->wpAny P .any ops Q fuel listed a X.w:=by
 have rI:∀(listed:Array Bool),listed.size=ops.size->∀i,i<ops.size->listed.getD i true=listed.getD i false:=by intro listed hs i hi;simp[asX,show i<listed.size by omega]
 have fini:∀(r q:Nat) (listed:Array Bool) (st:St) (X:Cx) (a:Act),q+r=k->FV P sh n ops pl r q st fin->listed.size=ops.size ->
   Inv P sh n ops pl X₀ q (fun j=>listed.getD j false) X a st->Region.ready .any ops listed=[]->Q .normal a X.w:=by
  intro r q listed st X a hqr ht hs I hrd;have all:∀i,i<ops.size->listed.getD i false=true:=by
   intro i
   induction i using Nat.strongRecOn with
   |_ i ih=>
    intro hi;cases hx:listed.getD i false with
    |true=>rfl|false=>
     have ho:ops[i]?=some ops[i]:=by simp[hi]
     have:i∈Region.ready .any ops listed:=Zqg (by rw[rI listed hs i hi];exact hx) ho (fun e he=>ih e (hP.below i _ ho e he) (Nat.lt_trans (hP.below i _ ho e he) hi));rw[hrd]at this;cases this
  cases r with
  |succ r=>obtain⟨i,o,ch,avT,avU,b,T,v,h1,h2,_⟩:=ht;have:=(I.wl i (q+1) h2).1 (all i (kr h1));omega
  |zero=>have:fin=st:=ht;subst this;refine hQ X a ⟨I.hX,⟨I.size,I.defers,?_⟩,I.H⟩ I.E;intro t v hv;refine I.tmp t v hv ?_;rintro⟨x,o,lo,hi,p1,p2,p3,p4,p5⟩;simp only[]at p4;rw[all x (kr p1)]at p4;cases p4
 intro fuel
 induction fuel with
 |zero=>
  intro r q listed st X a hqr ht hs hl I;have hrd:Region.ready .any ops listed=[]:=by
   cases hx:Region.ready .any ops listed with
   |nil=>rfl|cons i l=>
    exfalso;obtain⟨h1,o,ho,_⟩:=TC (i:=i) (by rw[hx];simp);have hi:=kr ho;have h0:left ops.size (fun j=>listed.getD j false)=0:=auc
    have h3:=tJ h0 i hi;rw[rI listed hs i hi]at h1;rw[h1]at h3;cases h3
  exact⟨hrd,fini r q listed st X a hqr ht hs I hrd⟩
 |succ fuel ih=>
  intro r q listed st X a hqr ht hs hl I;refine⟨fun hrd=>fini r q listed st X a hqr ht hs I hrd,?_⟩;intro i hi;obtain⟨h1,o,ho,h2⟩:=TC hi;have aS:=kr ho;rw[rI listed hs i aS]at h1;have hL:(fun j=>(listed.setIfInBounds i true).getD j false)=Ev.mark (fun j=>listed.getD j false) i:=by
   funext j;unfold Ev.mark;by_cases hj:j=i
   .subst hj;simp[asX,asV,show j<listed.size by omega]
   .rw[Fr hj];exact getD_set_ne false (fun r=>hj r.symm)
  have hsz:(listed.setIfInBounds i true).size=ops.size:=by simp[hs]
  have hleft:left ops.size (fun j=>(listed.setIfInBounds i true).getD j false)<=fuel:=by rw[hL];have:=yS (L:=fun j=>listed.getD j false) (i:=i) h1 ops.size;rw[IO aS]at this;omega
  obtain⟨pe,hpe⟩:∃pe,pl[i]?=some pe:=⟨pl[i]'(by rw[hP.len];exact aS),by simp[hP.len,aS]⟩;cases pe with
  |p l h=>refine I.step hP hM (fun t htd=>hN i o t ho htd) ho h2 h1 hpe ?_;intro X' a' I';exact ih r q _ st X' a' hqr ht hsz hleft (by rw[hL];exact I')|w j=>
   have hj:j=q+1:=by
    obtain⟨w1,w2,w3⟩:=hP.w i o j ho hpe;have hn:¬j<=q:=fun r=>by have:=(I.wl i j hpe).2 r;rw[h1]at this;cases this
    rcases w3 with r|⟨e,pe,g1,g2,g3⟩
    .omega
    .have hLe:=h2 e g1;cases pe with|w j'=>have:=(I.wl e j' g2).1 hLe;simp only[PE.num]at g3;omega|p l' h'=>have:=I.lo e l' h' g2 hLe;simp only[PE.num]at g3;omega
   subst hj;have hk:=(hP.w i o (q+1) ho hpe).2.1;obtain⟨r,rfl⟩:∃r',r=r'+1:=⟨r-1,auc⟩;obtain⟨i',o',ch,avT,avU,b,T,v,g1,g2,g3,g4,g5,g6,g7,g8,g9⟩:=ht;have:=hP.uniq i' i _ g2 hpe;subst this;rw[ho]at g1;cases g1;refine I.write hP hM hD ho h2 h1 hpe g3 g4 g5 g6 g7 g8 ?_;intro X' a' I';exact ih r (q+1) _ avU X' a' auc g9 hsz hleft (by rw[hL];exact I')
def OK(P:Program)(G:Cx->Prop)(base n:Nat)(c:Code)(st:St)(e:Ev.Ex)(st':St):Prop:=∀X₀ X a,(X₀.h.next=base/\G X₀)->bn X₀->bL X₀ X->RF X n st a->∀Q:Exit->Act->World->Prop,
 (∀X' a',RF X' n st' a'->bL X₀ X'->Q e.to a' X'.w)->c.wp P Q a X.w
variable{G:Cx->Prop}{base:Nat}
theorem akN{R:Type}{P:Program}(hm:P.follows .mixedOrders=true){sh:TypeId->Option Sh}{call:jz R}(hc:lx P call){n:Nat}{ops:Array Oper}{st:St}{k:St->Option R}{r:R}(e:OR P sh call n ops st k=some r)(id:Nat) :
  ∃st',k st'=some r/\OK P G base n (.region id ops true) st .normal st':=by
 unfold OR at e;split at e<;>try cases e
 rename_i m hpk;split at e<;>try cases e
 rename_i hd hlt;have hP:=Ji hpk;obtain⟨d1,d2⟩:=Zyg hd (by rw[hP.len];simp);obtain⟨avT,e,S'⟩:=acF e (fun x y o o' hi hi' t q1 q2 q3 q4 q5 q6=>adt hP (by simpa using q1) (by simpa using q2) q4 q5 q6) d1;obtain⟨fin,hk,ht⟩:=ada hc hP d1 m 0 avT e;refine⟨fin,hk,?_⟩;intro X₀ X a hb hH hE RR Q hQ;refine wp_region_any hm ?_;have Hd:=RR.H.drew (X.w.drawn+1);have S:=S' (by rw[<-RR.h];exact RR.H.lt);have hgetD:∀j,(Array.replicate ops.size false).getD j false=false:=by intro j;simp only[asX,Array.getElem?_replicate];split<;>rfl
 have I:Inv P sh n ops (rT ops.toList) { X with w:={ X.w with drawn:=X.w.drawn+1 } } 0 (fun j=>(Array.replicate ops.size false).getD j false) ⟨X.s,avT.h,{ X.w with drawn:=X.w.drawn+1 },X.A⟩ a avT:=by
  refine Inv.enter (X:={ X with w:={ X.w with drawn:=X.w.drawn+1 } }) (h₁:=st.h) (T₁:=st.T) RR.T.size RR.T.defers RR.h Hd (bL.refl _) S ?_ ?_ ?_ ?_ (fun i hi _=>hgetD i) ?_ ?_ ?_ ?_
  .intro t v hv _ _;obtain⟨V,h1,h2⟩:=RR.T.get t v hv;exact⟨V,h1,h2.ext (jm.of_heap (X:=X) (w:={ X.w with drawn:=X.w.drawn+1 }) rfl)⟩
  .intro i o lo hi _ _ h;omega
  .intro i o lo hi t v id _ _ h;omega
  .intro i j o o' lo hi lo' hi' t t' v v' id _ _ _ _ h;omega
  .intro z o _ h;rw[hgetD]at h;cases h
  .intro i j hj;simp only[hgetD];have hlt':i<ops.size:=by rw[<-hP.len];exact jN hj
   have:=(hP.w i ops[i] j (by simp[hlt']) hj).1;constructor
   .intro r;cases r
   .intro r;omega
  .intro i l h _ hL;rw[hgetD]at hL;cases hL
  .intro i l h _ hh;omega
 have hleft:∀m (L:Nat->Bool),left m L<=m:=by
  intro m L
  induction m with|zero=>simp[left]|succ m ih=>simp only[left];split<;>omega
 refine aoL (X₀:={ X with w:={ X.w with drawn:=X.w.drawn+1 } }) hP (fun x o lo hi h=>d2 x o lo hi (by simpa using h)) (fun x y o o' t h1 h2=>d1 x y o o' t (by simpa using h1) (by simpa using h2)) (fun x o t h1 h2=>T8 hlt x o t (by simpa using h1) h2) ?_ ops.size m 0 _ avT _ a auc ht aue (hleft _ _) I;intro X' a' R' E';exact hQ X' a' R' (hE.trans ((bL.drew X _).trans E'))
open Go.Proofs.YtmkbdfidnfmgmaaGreat.Ev (Tr Tr.d6 nth fc)
def eE:List (Nat×Nat)->Nat->Option Nat
 |[],_=>none|p::l,j=>match Nat.beq p.1 j with|true=>some p.2|false=>eE l j
def JU(base:Nat)(m:List (Nat×Nat))(j:Nat):Option Nat:=match Nat.blt j base with|true=>some j|false=>eE m j
def aoz(base j:Nat):Option Nat:=match Nat.blt j base with|true=>some j|false=>none
mutual
def j7(f:Nat->Option Nat):AV->Option AV
 |.bool b=>some (.bool b)|.int k n=>some (.int k n)|.str s=>some (.str s)|.fi=>some .fi|.aR=>some .aR|.gj=>some .gj|.fS=>some .fS|.gN=>some .gN|.ki=>some .ki|.ptr b o=>match f b with|some b=>some (.ptr b o)|none=>none
 |.fy b i z o=>match f b with|some b=>some (.fy b i z o)|none=>none
 |.gX σ d o=>some (.gX σ d o)|.hd b τ=>match f b with|some b=>some (.hd b τ)|none=>none
 |.vw b τ o l=>match f b with|some b=>some (.vw b τ o l)|none=>none
 |.fz τ L=>some (.fz τ L)|.ji τ z L=>some (.ji τ z L)|.mp b=>match f b with|some b=>some (.mp b)|none=>none
 |.ik b=>match f b with|some b=>some (.ik b)|none=>none
 |.rp b i=>match f b with|some b=>some (.rp b i)|none=>none
 |.ra b i=>match f b with|some b=>some (.ra b i)|none=>none
 |.func g x c=>match nT f x with
  |some x=>match nT f c with|some c=>some (.func g x c)|none=>none
  |none=>none
 |.agg l=>match nT f l with|some l=>some (.agg l)|none=>none
 |.dW l=>match nT f l with|some l=>some (.dW l)|none=>none
termination_by structural x=>x
def nT(f:Nat->Option Nat):List AV->Option (List AV)
 |[]=>some []|v::l=>match j7 f v with
  |some v=>match nT f l with|some l=>some (v::l)|none=>none
  |none=>none
termination_by structural x=>x
end
def j6(f:Nat->Option Nat):cp->Option cp
 |.cells l ty=>match nT f l with|some l=>some (.cells l ty)|none=>none
 |.arr τ L ty=>some (.arr τ L ty)|.map κ σ M=>some (.map κ σ M)|.jJ L ty=>some (.jJ L ty)|.fg τ i L vs ty=>match nT f vs with|some vs=>some (.fg τ i L vs ty)|none=>none
structure Rn(f:Nat->Option Nat)(X X':Cx):Prop where
 sg:∀j i l,f j=some i->X.s j=some l->X'.s i=some l
 K:ka X.w X.out X'.w X'.out
 obj:∀j i n,f j=some i->rowOf X'.h.tr i=some n->rowOf X.h.tr j=some n
mutual
theorem Pr{f:Nat->Option Nat}{X X':Cx}(E:Rn f X X'):∀{v v':AV}{V:Value},j7 f v=some v'->Rel X v V->Rel X' v' V
 |.bool _,v',_,e,h|.int _ _,v',_,e,h|.str _,v',_,e,h|.fi,v',_,e,h|.aR,v',_,e,h|.gj,v',_,e,h|.fS,v',_,e,h|.gN,v',_,e,h|.ki,v',_,e,h=>by simp only[j7,dm]at e;subst e;exact h|.ptr b off,v',V,e,⟨x,c,h1,h2⟩=>by
  simp only[j7]at e;split at e<;>try cases e
  rename_i i hi;exact⟨x,c,E.sg _ _ _ hi h1,h2⟩
 |.fy b i z o,v',V,e,⟨x,c,h1,h2,h3⟩=>by
  simp only[j7]at e;split at e<;>try cases e
  rename_i b' hb;exact⟨x,c,E.sg _ _ _ hb h1,h2,fun n q=>h3 n (E.obj _ _ n hb q)⟩
 |.gX σ d o,v',V,e,⟨b,off,cs,h1,h2,h3,h4⟩=>by simp only[j7,dm]at e;subst e;obtain⟨k1,k2⟩:=h4.bU E.K h2;exact⟨b,off,cs,h1,k2,h3.bU E.K,k1⟩
 |.hd b τ,v',V,e,⟨l,h1,hc,h2⟩=>by
  simp only[j7]at e;split at e<;>try cases e
  rename_i b' hb;exact⟨l,E.sg _ _ _ hb h1,hc,fun n q=>h2 n (E.obj _ _ n hb q)⟩
 |.vw b τ off len,v',V,e,⟨l,a,c,h1,h2,h3,h4,h5,h6⟩=>by
  simp only[j7]at e;split at e<;>try cases e
  rename_i b' hb;exact⟨l,a,c,E.sg _ _ _ hb h1,h2,h3,h4,h5,fun n q=>h6 n (E.obj _ _ n hb q)⟩
 |.fz τ L,v',V,e,h=>by simp only[j7,dm]at e;subst e;exact Cs.bU E.K (σ:=.sl τ) h|.ji τ z L,v',V,e,h=>by simp only[j7,dm]at e;subst e;exact⟨Cs.bU E.K (σ:=.sl τ) h.1,h.2⟩|.mp b,v',V,e,⟨x,c,h1,h2⟩=>by
  simp only[j7]at e;split at e<;>try cases e
  rename_i i hi;exact⟨x,c,E.sg _ _ _ hi h1,h2⟩
 |.ik b,v',V,e,⟨l,h1,h2⟩=>by
  simp only[j7]at e;split at e<;>try cases e
  rename_i i hi;exact⟨l,E.sg _ _ _ hi h1,h2⟩
 |.rp b i,v',V,e,⟨x,c,m,p,h1,h2⟩=>by
  simp only[j7]at e;split at e<;>try cases e
  rename_i k hk;exact⟨x,c,m,p,E.sg _ _ _ hk h1,h2⟩
 |.ra b i,v',V,e,⟨x,c,m,h1,h2⟩=>by
  simp only[j7]at e;split at e<;>try cases e
  rename_i k hk;exact⟨x,c,m,E.sg _ _ _ hk h1,h2⟩
 |.func g x c,v',V,e,⟨xs,cs,h1,h2,h3⟩=>by
  simp only[j7]at e;split at e<;>try cases e
  rename_i x' hx;split at e<;>try cases e
  rename_i c' hc;exact⟨xs,cs,h1,rU E hx h2,rU E hc h3⟩
 |.agg l,v',V,e,⟨cs,h1,h2⟩=>by
  simp only[j7]at e;split at e<;>try cases e
  rename_i x' hx;exact⟨cs,h1,rU E hx h2⟩
 |.dW l,v',V,e,⟨cs,h1,h2⟩=>by
  simp only[j7]at e;split at e<;>try cases e
  rename_i x' hx;exact⟨cs,h1,rU E hx h2⟩
theorem rU{f:Nat->Option Nat}{X X':Cx}(E:Rn f X X'):∀{l l':List AV}{cs:mt},nT f l=some l'->cE X l cs->cE X' l' cs
 |[],l',_,e,h=>by simp only[nT,dm]at e;subst e;exact h|x::l,l',_,e,⟨v,r,e2,h1,h2⟩=>by
  simp only[nT]at e;split at e<;>try cases e
  rename_i x' hx;split at e<;>try cases e
  rename_i l' hl;exact⟨v,r,e2,Pr E hx h1,rU E hl h2⟩
end
theorem afV{f:Nat->Option Nat}{o o':cp}(e:j6 f o=some o'):o'.row=o.row:=by
 cases o with
 |cells l ty=>simp only[j6]at e;split at e<;>cases e;rfl
 |arr τ L ty=>simp only[j6,dm]at e;subst e;rfl|map κ σ M=>simp only[j6,dm]at e;subst e;rfl|jJ L ty=>simp only[j6,dm]at e;subst e;rfl|fg τ i L vs ty=>simp only[j6]at e;split at e<;>cases e;rfl
theorem adN{f:Nat->Option Nat}{X X':Cx}(E:Rn f X X')(hw:X'.w=X.w){l:Loc}{o o':cp}(e:j6 f o=some o')(h:jd X l o):jd X' l o':=by
 cases o with
 |cells vs ty=>
  simp only[j6]at e;split at e<;>try cases e
  rename_i l' hl;obtain⟨b,c,cs,h1,h2,h3⟩:=h;exact⟨b,c,cs,h1,by grind,rU E hl h3⟩
 |arr τ L ty=>
  simp only[j6,dm]at e;subst e;cases l with
  |nil=>exact h|«at» b c=>obtain⟨cs,tail,h1,h2,h3,h4⟩:=h;exact⟨cs,tail,by rw[hw];exact h1,h2.mono (fun x d q=>q.bU E.K),h3,h4⟩
  |gW _ _ _=>exact h.elim
 |map κ σ M=>simp only[j6,dm]at e;subst e;obtain⟨x,c,es,clk,h1,h2,h3⟩:=h;exact⟨x,c,es,clk,h1,by grind,h3.bU E.K⟩
 |jJ L ty=>simp only[j6,dm]at e;subst e;cases l with|nil=>exact h|«at» b c=>exact h.elim|gW b c m=>obtain⟨tail,ty',h1,h2,h3,h4⟩:=h;exact⟨tail,ty',by grind,h2,h3.ext E.K (fun p _=>by grind),h4⟩
 |fg τ i L vs ty=>
  simp only[j6]at e;split at e<;>try cases e
  rename_i l' hl;obtain⟨b,c,pre,mid,post,tail,h0,h1,h2,h3,h4,h5⟩:=h;exact⟨b,c,pre,mid,post,tail,h0,by grind,h2.mono (fun x d q=>q.bU E.K),rU E hl h3,h4.mono (fun x d q=>q.bU E.K),h5⟩
def OQ(base:Nat)(h:Tr cp):Nat->Tr cp->Option (Tr cp)
 |0,t=>some t|k+1,t=>match OQ base h k t with
  |some t=>match h.get k with
   |some o=>match j6 (aoz base) o with|some o=>Tr.set FT t k (some o)|none=>none
   |none=>some t
  |none=>none
def o5(f:Nat->Option Nat)(h:Tr cp):List (Nat×Nat)->Tr cp->Option (Tr cp)
 |[],t=>some t|p::m,t=>match o5 f h m t with
  |some t=>match h.get p.1 with
   |some o=>match j6 f o with|some o=>Tr.set FT t p.2 (some o)|none=>none
   |none=>some t
  |none=>none
def vU(f:Nat->Option Nat)(n:Nat)(T:Tr AV):List Tmp->Option (Tr AV)
 |[]=>some .nil|t::l=>match vU f n T l with
  |some T'=>match T.get t with
   |some v=>match j7 f v with|some v=>jg n T' (some t) v|none=>none
   |none=>none
  |none=>none
def Fy(j i:Nat):List (Nat×Nat)->Bool
 |[]=>true|p::m=>match Nat.beq p.1 j with|true=>false|false=>match Nat.beq p.2 i with|true=>false|false=>Fy j i m
def JR(base nx:Nat):List (Nat×Nat)->Bool
 |[]=>true|p::m=>match Nat.ble base p.1,Nat.ble base p.2,Nat.blt p.2 nx,Fy p.1 p.2 m with|true,true,true,true=>JR base nx m|_,_,_,_=>false
theorem Zyj{j i:Nat}:∀{m:List (Nat×Nat)},Fy j i m=true->∀p∈m,p.1≠j/\p.2≠i
 |[],_,p,hp=>by cases hp
 |q::m,h,p,hp=>by
  simp only[Fy]at h;split at h<;>try cases h
  rename_i h1;split at h<;>try cases h
  rename_i h2;rcases Fn.1 hp with rfl|hp
  .exact⟨asF h1,asF h2⟩
  .exact Zyj h p hp
structure rP(base nx:Nat)(m:List (Nat×Nat)):Prop where
 lo:∀p∈m,base<=p.1/\base<=p.2/\p.2<nx
 fst:∀p∈m,∀q∈m,p.1=q.1->p=q
 snd:∀p∈m,∀q∈m,p.2=q.2->p=q
theorem adk{base nx:Nat}:∀{m:List (Nat×Nat)},JR base nx m=true->rP base nx m
 |[],_=>⟨fun p h=>(nomatch h),fun p h=>(nomatch h),fun p h=>(nomatch h)⟩
 |p::m,h=>by
  simp only[JR]at h;split at h<;>try cases h
  rename_i h1 h2 h3 h4;have h1:=abs h1;have h2:=abs h2;rw[atP]at h3;have h4:=Zyj h4;obtain⟨a,b,c⟩:=adk h;refine⟨?_,?_,?_⟩
  .intro q hq
   grind
  .intro q hq r hr e
   grind
  grind
theorem zo:∀{m:List (Nat×Nat)}{j i:Nat},eE m j=some i->(j,i)∈m
 |[],j,i,h=>by simp[eE]at h|p::m,j,i,h=>by
  simp only[eE]at h;split at h
  .rename_i q;have:=db q
   grind
  .exact Id _ (zo h)
theorem xL{base nx:Nat}{m:List (Nat×Nat)}(O:rP base nx m){j i:Nat}(h:(j,i)∈m):eE m j=some i:=by
 have:∀{l:List (Nat×Nat)},(∀p∈l,p∈m)->(j,i)∈l->eE l j=some i:=by
  intro l
  induction l with
  |nil=>intro _ q;cases q
  |cons p l ih=>
   intro hs q;simp only[eE];split
   .rename_i e;have e:=db e;have:=O.fst p (hs p aue) (j,i) h e;rw[this]
   .rename_i e;have e:=asF e
    grind
 exact this (fun p hp=>hp) h
def inv:List (Nat×Nat)->Nat->Option Nat
 |[],_=>none|p::l,i=>if p.2=i then some p.1 else inv l i
theorem ad3:∀{m:List (Nat×Nat)}{i j:Nat},inv m i=some j->(j,i)∈m
 |[],i,j,h=>by simp[inv]at h|p::m,i,j,h=>by
  simp only[inv]at h;split at h
  .rename_i q
   grind
  .exact Id _ (ad3 h)
theorem Ot{base nx:Nat}{m:List (Nat×Nat)}(O:rP base nx m){j i:Nat}(h:(j,i)∈m):inv m i=some j:=by
 have:∀{l:List (Nat×Nat)},(∀p∈l,p∈m)->(j,i)∈l->inv l i=some j:=by
  intro l
  induction l with
  |nil=>intro _ q;cases q
  |cons p l ih=>
   intro hs q;simp only[inv];split
   .rename_i e;have:=O.snd p (hs p aue) (j,i) h e;rw[this]
   grind
 exact this (fun p hp=>hp) h
theorem yZ{f:Nat->Option Nat}{h:Tr cp}:∀{m:List (Nat×Nat)}{t t':Tr cp},o5 f h m t=some t'->∀i,((∀p∈m,p.2≠i)->t'.get i=t.get i) /\
  ∀o',t'.get i=some o'->t.get i=some o'\/∃j o,(j,i)∈m/\h.get j=some o/\j6 f o=some o'
 |[],t,t',e,i=>by simp only[o5,dm]at e;grind|p::m,t,t',e,i=>by
  simp only[o5]at e;split at e<;>try cases e
  rename_i awa h₁;obtain⟨i1,i2⟩:=yZ h₁ i;have back:∀o',awa.get i=some o'->t.get i=some o'\/∃j o,(j,i)∈p::m/\h.get j=some o/\j6 f o=some o':=by grind
  split at e
  .rename_i o ho;split at e<;>try cases e
   rename_i avN hr;have hg:=Tr.d6 _ _ _ _ _ e i
   grind
  grind
theorem Pz{f:Nat->Option Nat}{n:Nat}{T:Tr AV}:∀{l:List Tmp}{T':Tr AV},vU f n T l=some T'->∀t v',T'.get t=some v'->∃v,T.get t=some v/\j7 f v=some v'
 |[],T',e,t,v',h=>by simp only[vU,dm]at e;subst e;simp[Tr.get]at h|x::l,T',e,t,v',h=>by
  simp only[vU]at e;split at e<;>try cases e
  rename_i T₁ h₁;split at e<;>try cases e
  rename_i v hv;split at e<;>try cases e
  rename_i u hu;rw[qo e t]at h;by_cases q:x=t
  .subst q
   grind
  .rw[Fr (by grind)]at h;exact Pz h₁ t v' h
def yw(base n:Nat)(bU:List Tmp)(m:List (Nat×Nat))(nx:Nat)(st:St):Option St:=match JR base nx m,Nat.ble base nx with
 |true,true=>match vU (JU base m) n st.T bU,OQ base st.h.tr base .nil with
  |some T,some t=>match o5 (JU base m) st.h.tr m t with|some t=>some ⟨T,⟨t,nx⟩⟩|none=>none
  |_,_=>none
 |_,_=>none
open Go.Proofs.YtmkbdfidnfmgmaaGreat.Ev (Tr Tr.d6 nth fc Ex)
def kN:Code->Nat
 |.region id _ _=>id|.seq a _=>kN a|.block _ a=>kN a|.loop a=>kN a|.scope a=>kN a|_=>0
def vk(n:Nat):List (Tmp×Sh×TypeId)->St->Option St
 |[],st=>some st|p::l,st=>match st.T.get p.1 with
  |some v=>match v with
   |.aR=>match Tr.set FT st.h.tr st.h.next (some (.arr p.2.1 [] p.2.2))with
    |some t=>match jg n st.T (some p.1) (.hd st.h.next p.2.1)with|some T=>vk n l ⟨T,⟨t,st.h.next+1⟩⟩|none=>none
    |none=>none
   |_=>vk n l st
  |none=>none
abbrev nF(R:Type):=Nat->St->(Ex->St->Option R)->Option R
def fU:Code->List Code
 |.seq a b=>fU a++fU b|.cond _ a b=>fU a++fU b|.block _ a=>fU a|.loop a=>[a]|.scope a=>fU a|_=>[]
def Hw(T:Tr AV)(c:Operand)(b:Bool):Option (Tr AV):=match c with|.tmp t=>Tr.set FT T t (some (.bool b))|_=>some T
section
variable{R:Type}(P:Program)(sh:TypeId->Option Sh)(call:jz R)(loops:nF R)(n:Nat)
def runK:Code->St->(Ex->St->Option R)->Option R
 |.skip,st,k=>k .normal st|.label _,st,k=>k .normal st|.region _ ops draw,st,k=>match draw with|false=>FR P sh call n ops ops.toList st (k .normal)|true=>OR P sh call n ops st (k .normal)
 |.seq x y,st,k=>runK x st fun e st=>match e with|.normal=>runK y st k|.exit i=>k (.exit i) st|.ret=>k .ret st
 |.cond c x y,st,k=>match dX st.T c with
  |some v=>match v with
   |.bool b=>br b (match Hw st.T c true with|some T=>runK x ⟨T,st.h⟩ k|none=>none) (match Hw st.T c false with|some T=>runK y ⟨T,st.h⟩ k|none=>none)
   |_=>none
  |none=>none
 |.block id x,st,k=>runK x st fun e st=>match e with
  |.normal=>k .normal st|.exit i=>match Nat.beq i id with|true=>k .normal st|false=>k (.exit i) st
  |.ret=>k .ret st
 |.loop x,st,k=>loops (kN x) st k|.scope x,st,k=>runK x st k|.exit id,st,k=>k (.exit id) st|.ret,st,k=>k .ret st|_,_,_=>none
end
theorem Pm{n:Nat}:∀{l:List (Tmp×Sh×TypeId)}{st st':St},vk n l st=some st'->∀{X:Cx}{a:Act},RF X n st a->∃X',X'.w=X.w/\RF X' n st' a/\bL X X'
 |[],st,st',e,X,a,R=>by simp only[vk,dm]at e;subst e;exact⟨X,rfl,R,bL.refl X⟩|p::l,st,st',e,X,a,R=>by
  simp only[vk]at e;split at e<;>try cases e
  rename_i v hv;split at e
  .split at e<;>try cases e
   rename_i t ht;split at e<;>try cases e
   rename_i T hT;have hX:=R.h;rw[<-hX]at ht;obtain⟨E,H'⟩:=bn.void R.H ht;have hg:=qo hT;have g0:=Tr.d6 _ _ _ _ _ ht;obtain⟨X',h1,h2,h3⟩:=Pm e (X:=⟨dw X.s X.h.next .nil,⟨t,X.h.next+1⟩,X.w,X.A⟩) (a:=a) (by
    refine⟨by rw[hX],⟨R.T.size,R.T.defers,?_⟩,H'⟩;intro x u hu;rw[hg x]at hu;by_cases q:p.1=x
    .subst q;rw[IO rfl]at hu;cases hu;obtain⟨V,b1,b2⟩:=R.T.get _ _ hv;refine⟨V,b1,.nil,by rw[<-hX];exact iu _ _ _,?_,?_⟩
     .rw[show V=_ from b2];rfl
     .intro n' q;rw[<-hX]at q
      replace q:rowOf t X.h.next=some n':=q
      rw[mr (by rw[g0,IO rfl])]at q;cases q;rw[show V=_ from b2];rfl
    .rw[Fr (by grind)]at hu;obtain⟨V,b1,b2⟩:=R.T.get _ _ hu;exact⟨V,b1,b2.ext (E.fC R.H)⟩)
   exact⟨X',h1,h2,E.trans h3⟩
  .exact Pm e R
def nW(P:Program)(G:Cx->Prop)(base n:Nat)(x:Code){R:Type}(g:St->(Ex->St->Option R)->Option R):Prop:=∀st k r,g st k=some r->∃e st',k e st'=some r/\OK P G base n (.loop x) st e st'
variable{c:Operand}
theorem acG{X:Cx}{n:Nat}{T':Tr AV}{a:Act}(R:lN X n T a)(hv:dX T c=some (.bool b))(h:Hw T c b=some T'):lN X n T' a:=by
 unfold Hw at h;split at h
 .rename_i t;refine⟨R.size,R.defers,?_⟩;intro u x hu;rw[Tr.d6 _ _ _ _ _ h u]at hu;by_cases q:u=t
  .subst q;rw[IO rfl]at hu;cases hu;exact R.get u _ hv
  .rw[Fr q]at hu;exact R.get u x hu
 .cases h;exact R
theorem adw{X:Cx}{n:Nat}{a:Act}(R:lN X n T a)(hv:dX T c=some v):Rel X v (a.eval c):=by
 cases c with
 |tmp t=>obtain⟨V,h1,h2⟩:=R.get t v hv;simpa[Act.eval,asX,h1]using h2
 |const u=>exact Pk hv X|func f=>simp[dX]at hv;subst hv;exact⟨[],[],rfl,rfl,rfl⟩|global g=>simp[dX]at hv
theorem JN{R:Type}{P:Program}(hm:P.follows .mixedOrders=true){sh:TypeId->Option Sh}{call:jz R}(hc:lx P call){loops:nF R}{n:Nat} :
  ∀(c:Code),(∀x∈fU c,nW P G base n x (loops (kN x)))->∀(st:St) (k:Ex->St->Option R) (r:R),runK P sh call loops n c st k=some r->∃e st',k e st'=some r/\OK P G base n c st e st':=by
 intro c
 induction c with
 |skip=>intro hl st k r e;exact⟨.normal,st,e,fun X₀ X a hb auB hE RR Q hQ=>wp_skip (hQ X a RR hE)⟩|label l=>intro hl st k r e;exact⟨.normal,st,e,fun X₀ X a hb auB hE RR Q hQ=>wp_label (hQ X a RR hE)⟩|exit id=>intro hl st k r e;exact⟨.exit id,st,e,fun X₀ X a hb auB hE RR Q hQ=>wp_exit (hQ X a RR hE)⟩|ret=>intro hl st k r e;exact⟨.ret,st,e,fun X₀ X a hb auB hE RR Q hQ=>wp_ret (hQ X a RR hE)⟩|region id ops draw=>
  intro hl st k r e;simp only[runK]at e;cases draw with
  |false=>simp only[]at e;obtain⟨st',hk,S⟩:=ac0 hc ops.toList 0 st (k .normal) r e (by grind);refine⟨.normal,st',hk,?_⟩;intro X₀ X a hb auB hE RR Q hQ;refine wp_region ?_;have:=S X a RR Q (fun X' a' R' E'=>hQ X' a' R' (hE.trans E'));rw[List.range_eq_range'];simpa using this
  |true=>simp only[]at e;obtain⟨st',hk,S⟩:=akN hm hc (base:=base) e id;exact⟨.normal,st',hk,S⟩
 |seq x y ihx ihy=>
  intro hl st k r e;simp only[runK]at e;obtain⟨ava,avT,hk,S⟩:=ihx (fun x h=>hl x (by simp[fU,h])) _ _ _ e;cases ava with
  |normal=>simp only[]at hk;obtain⟨avb,avU,avp,auM⟩:=ihy (fun x h=>hl x (by simp[fU,h])) _ _ _ hk;refine⟨avb,avU,avp,?_⟩;intro X₀ X a hb auB hE RR Q hQ;exact wp_seq (S X₀ X a hb auB hE RR _ (fun X' a' R' E'=>auM X₀ X' a' hb auB E' R' Q hQ))
  |exit i=>simp only[]at hk;exact⟨_,_,hk,fun X₀ X a hb auB hE RR Q hQ=>wp_seq (S X₀ X a hb auB hE RR _ (fun X' a' R' E'=>hQ X' a' R' E'))⟩|ret=>simp only[]at hk;exact⟨_,_,hk,fun X₀ X a hb auB hE RR Q hQ=>wp_seq (S X₀ X a hb auB hE RR _ (fun X' a' R' E'=>hQ X' a' R' E'))⟩
 |cond c x y ihx ihy=>
  intro hl st k r e;simp only[runK]at e;split at e<;>try cases e
  rename_i v hv;split at e<;>try cases e
  rename_i b;rcases OO e with⟨rfl,e2⟩|⟨rfl,e2⟩
  .split at e2<;>try cases e2
   rename_i T hT;obtain⟨ava,avT,hk,S⟩:=ihx (fun x h=>hl x (by simp[fU,h])) _ _ _ e2;exact⟨ava,avT,hk,fun X₀ X a hb auB hE RR Q hQ=>wp_cond_true (adw RR.T hv) (S X₀ X a hb auB hE ⟨RR.h,acG RR.T hv hT,RR.H⟩ Q hQ)⟩
  .split at e2<;>try cases e2
   rename_i T hT;obtain⟨ava,avT,hk,S⟩:=ihy (fun x h=>hl x (by simp[fU,h])) _ _ _ e2;exact⟨ava,avT,hk,fun X₀ X a hb auB hE RR Q hQ=>wp_cond_false (adw RR.T hv) (S X₀ X a hb auB hE ⟨RR.h,acG RR.T hv hT,RR.H⟩ Q hQ)⟩
 |block id x ih=>
  intro hl st k r e;simp only[runK]at e;obtain⟨ava,avT,hk,S⟩:=ih (fun x h=>hl x (by simpa[fU]using h)) _ _ _ e;cases ava with
  |normal=>exact⟨_,_,hk,fun X₀ X a hb auB hE RR Q hQ=>wp_block (S X₀ X a hb auB hE RR _ (fun X' a' R' E'=>hQ X' a' R' E'))⟩|ret=>exact⟨_,_,hk,fun X₀ X a hb auB hE RR Q hQ=>wp_block (S X₀ X a hb auB hE RR _ (fun X' a' R' E'=>hQ X' a' R' E'))⟩|exit i=>
   simp only[]at hk;split at hk
   .rename_i q;have q:=db q;refine⟨_,_,hk,fun X₀ X a hb auB hE RR Q hQ=>wp_block (S X₀ X a hb auB hE RR _ (fun X' a' R' E'=>?_))⟩;simp only[Ex.to,Exit.inBlock,IO q];exact hQ X' a' R' E'
   .rename_i q;have q:=asF q;refine⟨_,_,hk,fun X₀ X a hb auB hE RR Q hQ=>wp_block (S X₀ X a hb auB hE RR _ (fun X' a' R' E'=>?_))⟩;simp only[Ex.to,Exit.inBlock,Fr q];exact hQ X' a' R' E'
 |loop x ih=>intro hl st k r e;simp only[runK]at e;exact hl x (by simp[fU]) st k r e|scope x ih=>intro hl st k r e;simp only[runK]at e;obtain⟨ava,avT,hk,S⟩:=ih (fun x h=>hl x (by simpa[fU]using h)) _ _ _ e;refine⟨ava,avT,hk,fun X₀ X a hb auB hE RR Q hQ=>wp_scope_straight (S X₀ X a hb auB hE RR _ (fun X' a' R' E'=>?_))⟩;have:=hQ X' a' R' E';cases ava<;>exact this
 |_=>intro hl st k r e;simp[runK]at e
def mj(w:World)(A:Nat->Prop):(l:List Sh)->TL l->mt->Prop
 |[],_,vs=>vs=[]|σ::l,d,vs=>∃V r,vs=V::r/\ic w A σ d.1 V/\mj w A l d.2 r
def mX:mt->Value
 |[v]=>v|l=>.tuple (List.toArray l)
def rM:List AV->AV
 |[v]=>v|l=>.dW l
def zp:(l:List Sh)->TL l->List AV
 |[],_=>[]|σ::l,d=>FO σ d.1::zp l d.2
theorem Jv{X:Cx}:∀{l:List Sh}{d:TL l}{vs:mt},mj X.w X.out l d vs->cE X (zp l d) vs
 |[],_,vs,h=>h|σ::l,d,vs,⟨V,r,e,h1,h2⟩=>⟨V,r,e,JC h1,Jv h2⟩
theorem mj.bU{w w':World}{A A':Nat->Prop}(K:ka w A w' A'):∀{l:List Sh}{d:TL l}{vs:mt},mj w A l d vs->mj w' A' l d vs
 |[],_,vs,h=>h|σ::l,d,vs,⟨V,r,e,h1,h2⟩=>⟨V,r,e,h1.bU K,h2.bU K⟩
def nR(kl:Bool)(h:Hp):(l:List Sh)->List AV->Option (TL l×Hp)
 |[],vs=>match vs with|[]=>some ((),h)|_=>none
 |σ::l,vs=>match vs with
  |v::vs=>match tA kl h σ v with
   |some (d,h)=>match nR kl h l vs with|some (e,h)=>some ((d,e),h)|none=>none
   |none=>none
  |[]=>none
theorem FJ{kl:Bool}:∀{l:List Sh}{X:Cx}(H:bn X) {vs:List AV}{d:TL l}{h':Hp},nR kl X.h l vs=some (d,h')->∀{cs:mt},cE X vs cs ->
  gn X h'/\mj X.w (Cx.out ⟨X.s,h',X.w,X.A⟩) l d cs
 |[],X,H,vs,d,h',e,cs,R=>by simp only[nR]at e;split at e<;>cases e;exact⟨gn.refl H,R⟩
 |σ::l,X,H,vs,d,h',e,cs,R=>by
  simp only[nR]at e;split at e<;>try cases e
  rename_i v vs;split at e<;>try cases e
  rename_i auX h₁ ava;split at e<;>cases e;rename_i auY avb;obtain⟨V,r,rfl,R1,R2⟩:=R;obtain⟨auy,avN⟩:=PB H ava R1;obtain⟨auz,avO⟩:=FJ (X:=⟨X.s,h₁,X.w,X.A⟩) auy.H avb (R2.ext (auy.E.fC H));exact⟨auy.trans auz,V,r,rfl,avN.bU auz.E.keeps,avO⟩
def Comes(P:Program)(f:FuncId)(σs τs:List Sh)(F:TL σs->Option (TL τs)):Prop:=
 (∃fn c,P.funcs[f]?=some fn/\(fn.name == "runtime.NumGoroutine")=false/\fn.body=some c) /\
 ∀d x,F d=some x->∀(w:World) (A:Nat->Prop) (args:mt),(∀b,A b->b<w.heap.size)->mj w A σs d args ->
  Calls P f (List.toArray args) w fun e w'=>∃vs,e=.returned (mX vs)/\Below w.heap.size w w'/\mj w' A τs x vs
def aA{α R:Type}(x:Option α)(k:α->Option R):Option R:=match x with|some a=>k a|none=>none
theorem FX{α R:Type}{x:Option α}{k:α->Option R}{r:R}(h:aA x k=some r):∃a,x=some a/\k a=some r:=by
 cases x with
 |none=>cases h
 |some a=>exact⟨a,rfl,h⟩
structure Spec where
 σs:List Sh
 τs:List Sh
 F:TL σs->Option (TL τs)
abbrev xq:=FuncId->Option Spec
def PA(P:Program)(S:xq):Prop:=∀f s,S f=some s->Comes P f s.σs s.τs s.F
mutual
def plain:Sh->Bool
 |.sl _=>false|.agg l=>sa l|_=>true
termination_by structural x=>x
def sa:List Sh->Bool
 |[]=>true|s::l=>match plain s with|true=>sa l|false=>false
termination_by structural x=>x
end
mutual
theorem adj{w w':World}{A A':Nat->Prop}:∀{σ:Sh}{d:σ.T}{cs:mt},plain σ=true->Cs w A σ d cs->Cs w' A' σ d cs
 |.int k,n,cs,_,h=>h|.bool,b,cs,_,h=>h|.str,s,cs,_,h=>h|.agg l,d,cs,hp,h=>acL (l:=l) hp h|.sl s,L,cs,hp,h=>by cases hp
theorem acL{w w':World}{A A':Nat->Prop}:∀{l:List Sh}{d:TL l}{cs:mt},sa l=true->iO w A l d cs->iO w' A' l d cs
 |[],_,cs,_,h=>h|s::l,d,cs,hp,⟨c,r,e,h1,h2⟩=>by
  simp only[sa]at hp;split at hp<;>try cases hp
  rename_i hs;exact⟨c,r,e,adj hs h1,acL hp h2⟩
end
theorem Zyd{w w':World}{A A':Nat->Prop}:∀{l:List Sh}{d:TL l}{vs:mt},sa l=true->mj w A l d vs->mj w' A' l d vs
 |[],_,vs,_,h=>h|s::l,d,vs,hp,⟨V,r,e,h1,h2⟩=>by
  simp only[sa]at hp;split at hp<;>try cases hp
  rename_i hs;exact⟨V,r,e,⟨adj hs h1.1,h1.2⟩,Zyd hp h2⟩
def O0{R:Type}(S:xq):jz R:=fun f vs h k=>match S f with
 |some s=>match nR (sa s.τs) h s.σs vs with|some (d,_)=>aA (s.F d) fun x=>k false (rM (zp s.τs x)) h|none=>match nR true h s.σs vs with|some (d,h')=>aA (s.F d) fun x=>k true (rM (zp s.τs x)) h'|none=>none
 |none=>none
mutual
theorem acY{h:Hp}:∀{σ:Sh}{l:List AV}{d:σ.T}{r:List AV}{h':Hp},fN false h σ l=some (d,r,h')->h'=h
 |.int k,l,d,r,h',e=>by
  simp only[fN]at e;split at e<;>try cases e
  split at e<;>cases e;rfl
 |.bool,l,d,r,h',e=>by simp only[fN]at e;split at e<;>cases e;rfl
 |.str,l,d,r,h',e=>by simp only[fN]at e;split at e<;>cases e;rfl
 |.agg ss,l,d,r,h',e=>Zyp (ss:=ss) e|.sl s,l,d,r,h',e=>by
  simp only[fN]at e;split at e<;>try cases e
  .rfl
  .split at e<;>cases e;rfl
  .split at e<;>try cases e
   split at e<;>try cases e
   contradiction
  .split at e<;>try cases e
   split at e<;>try cases e
   contradiction
theorem Zyp{h:Hp}:∀{ss:List Sh}{l:List AV}{d:TL ss}{r:List AV}{h':Hp},lB false h ss l=some (d,r,h')->h'=h
 |[],l,d,r,h',e=>by simp only[lB,dm]at e;cases e;rfl
 |s::ss,l,d,r,h',e=>by
  simp only[lB]at e;split at e<;>try cases e
  rename_i auX avQ h₁ ava;split at e<;>cases e;rename_i avb;have:=acY ava;subst this;exact Zyp avb
end
theorem Zyq{h:Hp}:∀{l:List Sh}{vs:List AV}{d:TL l}{h':Hp},nR false h l vs=some (d,h')->h'=h
 |[],vs,d,h',e=>by simp only[nR]at e;split at e<;>cases e;rfl
 |σ::l,vs,d,h',e=>by
  simp only[nR]at e;split at e<;>try cases e
  rename_i v vs;split at e<;>try cases e
  rename_i auX h₁ ava;split at e<;>cases e;rename_i avb;have:h₁=h:=by
   unfold tA at ava;split at ava
   case h_3=>cases ava
   all_goals
    split at ava<;>try cases ava
    rename_i avc;split at ava<;>cases ava;exact acY avc
  subst this;exact Zyq avb
theorem FM{X:Cx}:∀{l:List AV}{cs:mt},cE X l cs->Rel X (rM l) (mX cs)
 |[],cs,h=>by rw[show cs=[]from h];exact⟨[],rfl,rfl⟩|[v],cs,⟨V,r,e,h1,h2⟩=>by rw[show r=[]from h2]at e;rw[e];exact h1|v::u::l,cs,⟨V,r,e,h1,⟨V',r',e',h2,h3⟩⟩=>by subst e';subst e;exact⟨V::V'::r',rfl,V,V'::r',rfl,h1,V',r',rfl,h2,h3⟩
theorem alA{R:Type}{P:Program}{S:xq}(hS:PA P S):lx P (O0 (R:=R) S):=by
 intro f vs h k r e;unfold O0 at e;split at e<;>try cases e
 rename_i s hs;obtain⟨hf,hp⟩:=hS f s hs;split at e
 case h_2=>
  split at e<;>try cases e
  rename_i d h' hd;obtain⟨x,hx,hk⟩:=FX e;refine⟨true,_,h',hk,(fun q=>by cases q),hf,?_⟩;intro X args hX H hR;subst hX;obtain⟨F,hA⟩:=FJ H hd hR;refine(hp d x hx X.w (Cx.out ⟨X.s,h',X.w,X.A⟩) args (fun b hb=>hb.elim (F.H.alt b) F.H.tj) hA).mono ?_;rintro e w' ⟨us,rfl,B,hA'⟩;have E:bL ⟨X.s,h',X.w,X.A⟩ ⟨X.s,h',w',X.A⟩:=⟨B.os,B.tape,B.output,B.size,fun _ _ h=>h,fun _ _ _ h=>h,ro _,fun b hb _=>B.block b hb,fun b h=>.inl h,fun j n _ h=>h,fun _ _ _=>rfl,rfl⟩;refine⟨⟨X.s,h',w',X.A⟩,mX us,rfl,rfl,rfl,?_,F.E.trans E,FM (Jv hA')⟩;refine⟨?_,F.H.inj,F.H.lt,F.H.eh,fun b hb=>arm (F.H.alt b hb) B.size,F.H.loc⟩;intro i o l h1 h2;refine(F.H.obj i o l h1 h2).ext (E.fC F.H) ?_;intro b hb;exact B.block b (F.H.ng h1 h2 hb)
 rename_i d h' hd;obtain⟨x,hx,hk⟩:=FX e;refine⟨false,_,h,hk,fun _=>fT.refl h,hf,?_⟩;intro X args hX H hR;subst hX;obtain⟨F,hA⟩:=FJ H hd hR;have hout:∀b,Cx.out ⟨X.s,h',X.w,X.A⟩ b->X.out b:=by
  rintro b (q|⟨i,o,c,h1,h2⟩)
  .exact .inl q
  .exact .inr ⟨i,o,c,F.sub i o h1,h2⟩
 refine(hp d x hx X.w (Cx.out ⟨X.s,h',X.w,X.A⟩) args (fun b hb=>(hout b hb).elim (H.alt b) H.tj) hA).mono ?_;rintro e w' ⟨us,rfl,B,hA'⟩;have hw:∀b o,X.w.heap[b]?=some o->w'.heap[b]?=some o:=fun b o q=>by rw[B.block b (kr q)];exact q
 have E:bL X ⟨X.s,X.h,w',X.A⟩:=⟨B.os,B.tape,B.output,B.size,fun _ _ h=>h,fun _ _ _ h=>h,ro _,fun b hb _=>B.block b hb,fun b h=>.inl h,fun j n _ h=>h,fun _ _ _=>rfl,rfl⟩;have hA'':mj w' X.out s.τs x us:=by cases hpl:sa s.τs with|true=>exact Zyd hpl hA'|false=>rw[hpl]at hd;have:=Zyq hd;subst this;exact hA'
 refine⟨⟨X.s,X.h,w',X.A⟩,mX us,rfl,rfl,rfl,?_,E,FM (Jv hA'')⟩;refine⟨?_,H.inj,H.lt,H.eh,fun b hb=>arm (H.alt b hb) B.size,H.loc⟩;intro i o l h1 h2;refine(H.obj i o l h1 h2).ext (E.fC H) ?_;intro b hb;exact B.block b (H.ng h1 h2 hb)
def kQ(n:Nat):List AV->Nat->Tr AV->Option (Tr AV)
 |[],_,T=>some T|v::l,i,T=>match jg n T (some i) v with|some T=>kQ n l (i+1) T|none=>none
theorem Zpk{n:Nat}:∀{vs:List AV}{i:Nat}{T T':Tr AV},kQ n vs i T=some T'->∀t v,T'.get t=some v->(i<=t/\vs[t-i]?=some v)\/T.get t=some v
 |[],i,T,T',h,t,v,hv=>by simp[kQ]at h;subst h;exact .inr hv|x::l,i,T,T',h,t,v,hv=>by
  simp only[kQ]at h;split at h<;>try cases h
  rename_i T₁ h₁;rcases Zpk h t v hv with⟨hi,hl⟩|hT
  .left
   grind
  .rw[qo h₁ t]at hT
   grind
theorem acU{n:Nat}:∀{vs:List AV}{i:Nat}{T T':Tr AV},kQ n vs i T=some T'->vs=[]\/i+vs.length<=n
 |[],i,T,T',h=>.inl rfl|x::l,i,T,T',h=>by
  right;simp only[kQ]at h;split at h<;>try cases h
  rename_i T₁ h₁;have:i+1<=n:=Pq h₁;rcases acU h with q|q
  .subst q;simp;omega
  .simp;omega
theorem y8{X:Cx}(H:bn X){n:Nat}{vs:List AV}{T:Tr AV}(h:kQ n vs 0 .nil=some T){args:mt}(R:cE X vs args) :
  RF X n ⟨T,X.h⟩ { tmps:=List.toArray args++Array.replicate (n-(List.toArray args).size) undef,defers:=[] }:=by
 have hL:=R.length;have hn:args.length<=n:=by
  rcases acU h with q|q
  .subst q;simp at hL;simp[hL]
  .omega
 refine⟨rfl,⟨by simp;omega,rfl,?_⟩,H⟩;intro t u hu;rcases Zpk h t u hu with⟨_,h1⟩|h1
 .simp only[Nat.sub_zero]at h1;obtain⟨V,h2,h3⟩:=R.get h1
  grind
 .simp[Tr.get]at h1
def lU(P:Program)(st:St):List ResultVar->Option (List AV)
 |[]=>some []|r::l=>match(match r with
   |.tmp t=>st.T.get t|.cell a t=>match st.T.get a with
    |some u=>match qq P st.h t u with|some (true,v)=>some v|_=>none
    |none=>none)with
  |some v=>match lU P st l with|some vs=>some (v::vs)|none=>none
  |none=>none
theorem ao8{X:Cx}{P:Program}{u v:AV}{U V:Value}{t:TypeId}(H:bn X)(e:qq P X.h t u=some (true,v))(R:Rel X u U)(hr:(Instr.loadAt t U).run P X.w=.ok V X.w) :
  (do loadVar t (<- asAddr U):Sem Value).run P X.w=.ok V X.w:=by
 unfold qq at e;split at e<;>try cases e
 rename_i g l o hc;split at e<;>try cases e
 obtain⟨b,off,c,ty,fr,cs,rfl,h1,h2,h3⟩:=Zxc H hc rfl R;simp only[Instr.loadAt,Instr.sureAddr,asAddr,Sem.run_bind,Sem.run_pure,Result.andThen_ok]at hr |-;exact hr
theorem Ztb{P:Program}{st:St}{X:Cx}{n:Nat}{a:Act}(R:RF X n st a)(f:ResultVar->Sem Value)
  (hf:∀r,f r=match r with|.tmp t=>pure (a.tmps.getD t undef)|.cell x t=>do loadVar t (<- asAddr (a.tmps.getD x undef))) :
  ∀{l:List ResultVar}{vs:List AV},lU P st l=some vs->∃Vs,(l.mapM f).run P X.w=.ok Vs X.w/\cE X vs Vs
 |[],vs,h=>by simp[lU]at h;subst h;exact⟨[],rfl,rfl⟩|r::l,vs,h=>by
  simp only[lU]at h;split at h<;>try cases h
  rename_i v hv;split at h<;>try cases h
  rename_i vs' hl;obtain⟨Vs,ih,hR⟩:=Ztb R f hf hl;have h1:∃V,(f r).run P X.w=.ok V X.w/\Rel X v V:=by
   rw[hf r];cases r with
   |tmp t=>
    obtain⟨V,g1,g2⟩:=R.T.get t v hv
    simp_all
   |cell x t=>
    simp only[]at hv |-;split at hv<;>try cases hv
    rename_i u hu;split at hv<;>cases hv;rename_i hv;obtain⟨U,g1,g2⟩:=R.T.get x u hu;have hX:=R.h;rw[<-hX]at hv;obtain⟨V,hr,hR⟩:=Zpo R.H hv rfl g2;refine⟨V,?_,hR⟩;have hx':a.tmps.getD x undef=U:=by simp[asX,g1]
    rw[hx'];exact ao8 R.H hv g2 hr
  obtain⟨V,h1,h2⟩:=h1;refine⟨V::Vs,?_,V,Vs,rfl,h2,hR⟩
  simp_all
theorem TS{P:Program}{st:St}{X:Cx}{n:Nat}{a:Act}(R:RF X n st a){fn:Func}{vs:List AV}(h:lU P st fn.results.toList=some vs) :
  ∃Vs,(results fn a.tmps).run P X.w=.ok (mX Vs) X.w/\cE X vs Vs:=by
 obtain⟨Vs,h1,hR⟩:=Ztb R _ (fun r=>rfl) h;refine⟨Vs,?_,hR⟩;unfold results;rw[Sem.run_bind,Array.mapM_eq_mapM_toList,Sem.run_map];have h2:(List.mapM (fun x=>match x with|.tmp t=>pure (a.tmps.getD t undef)|.cell x t=>do loadVar t (<- asAddr (a.tmps.getD x undef)):ResultVar->Sem Value) fn.results.toList).run P X.w=.ok Vs X.w:=h1;refine(OF (fun r=>((Result.andThen r _).andThen _)) h2).trans ?_;simp only[Result.andThen_ok,Sem.run_pure];congr 1
 match Vs with|[]=>simp[mX]|[v]=>simp[mX]|u::v::l=>simp[mX]
inductive LA where
 |int (k:IntKind)
 |bool
 |str
 |fz (τ:Sh)
 |fi
 |aR
 |gj
 |fS
 |gN
 |ki
 |ji (τ:Sh)
 |gX (σ:Sh) (o:Nat)
 |fy (b z o:Nat)
 |rp (b:Nat)
 |ptr (b off:Nat)
 |hd (b:Nat) (τ:Sh)
 |mp (b:Nat)
 |ik (b:Nat)
 |func (f:FuncId) (x c:List LA)
 |agg (l:List LA)
 |dW (l:List LA)
@[match_pattern] abbrev LA.I:LA:=.int .i64
mutual
def σA:LA->List Sh->List Sh
 |.int k,r=>.int k::r|.bool,r=>.bool::r|.str,r=>.str::r|.fz τ,r=>.sl τ::r|.fi,r=>r|.aR,r=>r|.gj,r=>r|.fS,r=>r|.gN,r=>r|.ki,r=>r|.ji τ,r=>.bool::.sl τ::r|.gX σ _,r=>σ::r|.fy _ _ _,r=>.int .i64::r|.rp _,r=>.int .i64::r|.ptr _ _,r=>r|.hd _ _,r=>r|.mp _,r=>r|.ik _,r=>r|.func _ x c,r=>ja x (ja c r)|.agg l,r=>ja l r|.dW l,r=>ja l r
termination_by structural x=>x
def ja:List LA->List Sh->List Sh
 |[],r=>r|a::l,r=>σA a (ja l r)
termination_by structural x=>x
end
mutual
def oL:(a:LA)->(r:List Sh)->TL (σA a r)->AV×TL r
 |.int k,r,d=>(.int k d.1,d.2)|.bool,r,d=>(.bool d.1,d.2)|.str,r,d=>(.str d.1,d.2)|.fz τ,r,d=>(.fz τ d.1,d.2)|.fi,r,d=>(.fi,d)|.aR,r,d=>(.aR,d)|.gj,r,d=>(.gj,d)|.fS,r,d=>(.fS,d)|.gN,r,d=>(.gN,d)|.ki,r,d=>(.ki,d)|.ji τ,r,d=>(.ji τ d.1 d.2.1,d.2.2)|.gX σ o,r,d=>(.gX σ d.1 o,d.2)|.fy b z o,r,d=>(.fy b (Int.toNat d.1) z o,d.2)|.rp b,r,d=>(.rp b (Int.toNat d.1),d.2)|.ptr b o,r,d=>(.ptr b o,d)|.hd b τ,r,d=>(.hd b τ,d)|.mp b,r,d=>(.mp b,d)|.ik b,r,d=>(.ik b,d)|.func f x c,r,d=>(.func f (jl x (ja c r) d).1 (jl c r (jl x (ja c r) d).2).1,(jl c r (jl x (ja c r) d).2).2)|.agg l,r,d=>(.agg (jl l r d).1,(jl l r d).2)|.dW l,r,d=>(.dW (jl l r d).1,(jl l r d).2)
termination_by structural x=>x
def jl:(l:List LA)->(r:List Sh)->TL (ja l r)->List AV×TL r
 |[],r,d=>([],d)|a::l,r,d=>((oL a (ja l r) d).1::(jl l r (oL a (ja l r) d).2).1,(jl l r (oL a (ja l r) d).2).2)
termination_by structural x=>x
end
def af2(k:IntKind):AV->Option Int
 |.int k' n=>match Nat.beq (Ev.IntKind.num k') (Ev.IntKind.num k)with|true=>some n|false=>none
 |_=>none
def abW:AV->Option Bool
 |.bool b=>some b|_=>none
def af6:AV->Option ByteArray
 |.str s=>some s|_=>none
def gFz(τ:Sh):AV->Option (List τ.T)
 |.fz τ' L=>match e:τ'.eqv τ with|true=>some (lj e L)|false=>none
 |.aR=>some []|_=>none
def an6{σ τ:Sh}(h:σ.eqv τ=true)(d:σ.T):τ.T:=Sh.ig h▸d
def R5(σ:Sh)(o:Nat):AV->Option σ.T
 |.gX σ' d o'=>match e:σ'.eqv σ,Nat.beq o' o with|true,true=>some (an6 e d)|_,_=>none
 |_=>none
theorem akU{σ:Sh}{o:Nat}{v:AV}{d:σ.T}(h:R5 σ o v=some d){X:Cx}{V:Value}(R:Rel X v V):Rel X (.gX σ d o) V:=by
 unfold R5 at h;split at h<;>try cases h
 rename_i σ' d' o';split at h<;>try cases h
 rename_i e q;have q:=db q;subst q;obtain rfl:=Sh.ig e;exact R
def ve:LA->AV->Bool
 |.fi,v=>match v with|.fi=>true|_=>false
 |.aR,v=>match v with|.aR=>true|_=>false
 |.gj,v=>match v with|.gj=>true|_=>false
 |.fS,v=>match v with|.fS=>true|_=>false
 |.gN,v=>match v with|.gN=>true|_=>false
 |_,_=>false
def OW(b z o:Nat):AV->Option Int
 |.fy b' i z' o'=>match Nat.beq b' b,Nat.beq z' z,Nat.beq o' o with|true,true,true=>some (Int.ofNat i)|_,_,_=>none
 |_=>none
def Ut(b:Nat):AV->Option Int
 |.rp b' i=>match Nat.beq b' b with|true=>some (Int.ofNat i)|_=>none
 |_=>none
theorem al3{b:Nat}{v:AV}{n:Int}(h:Ut b v=some n):v=.rp b n.toNat:=by
 unfold Ut at h;split at h<;>try cases h
 split at h<;>cases h
 simp_all
theorem ar0{b z o:Nat}{v:AV}{n:Int}(h:OW b z o v=some n):v=.fy b n.toNat z o:=by
 unfold OW at h;split at h<;>try cases h
 split at h<;>cases h
 simp_all
def af4(b o:Nat):AV->Bool
 |.ptr b' o'=>match Nat.beq b' b with|true=>Nat.beq o' o|false=>false
 |_=>false
def gHd(b:Nat):AV->Bool
 |.hd b' _=>Nat.beq b' b|_=>false
def gMp(b:Nat):AV->Bool
 |.mp b'=>Nat.beq b' b|_=>false
def af5(b:Nat):AV->Bool
 |.ik b'=>Nat.beq b' b|_=>false
def abX(f:FuncId):AV->Option (List AV×List AV)
 |.func f' x c=>match Nat.beq f' f with|true=>some (x,c)|false=>none
 |_=>none
def af0:AV->Option (List AV)
 |.agg l=>some l|_=>none
def af7:AV->Option (List AV)
 |.dW l=>some l|_=>none
def nG{α β:Type}(x:Option α)(d:β):Option (α×β):=match x with|some a=>some (a,d)|none=>none
def nZ{β:Type}(x:Bool)(d:β):Option β:=match x with|true=>some d|false=>none
theorem oZ{α β:Type}{x:Option α}{d:β}{y:α×β}(h:nG x d=some y):x=some y.1/\y.2=d:=by
 cases x with
 |none=>cases h
 |some a=>cases h;exact⟨rfl,rfl⟩
theorem oV{β:Type}{x:Bool}{d y:β}(h:nZ x d=some y):x=true/\y=d:=by
 cases x with
 |false=>cases h
 |true=>cases h;exact⟨rfl,rfl⟩
mutual
def vf:(a:LA)->(r:List Sh)->AV->TL r->Option (TL (σA a r))
 |.int k,r,v,d=>nG (af2 k v) d|.bool,r,v,d=>nG (abW v) d|.str,r,v,d=>nG (af6 v) d|.fz τ,r,v,d=>nG (gFz τ v) d|.fi,r,v,d=>nZ (ve .fi v) d|.aR,r,v,d=>nZ (ve .aR v) d|.gj,r,v,d=>nZ (ve .gj v) d|.fS,r,v,d=>nZ (ve .fS v) d|.gN,r,v,d=>nZ (ve .gN v) d|.ki,r,v,d=>nZ (one v) d|.ji τ,r,v,d=>none|.gX σ o,r,v,d=>nG (R5 σ o v) d|.fy b z o,r,v,d=>nG (OW b z o v) d|.rp b,r,v,d=>nG (Ut b v) d|.ptr b o,r,v,d=>nZ (af4 b o v) d|.hd b τ,r,v,d=>nZ (gHd b v) d|.mp b,r,v,d=>nZ (gMp b v) d|.ik b,r,v,d=>nZ (af5 b v) d|.func f x c,r,v,d=>match abX f v with
  |some p=>match mG c r p.2 d with|some d=>mG x (ja c r) p.1 d|none=>none
  |none=>none
 |.agg l,r,v,d=>match af0 v with|some l'=>mG l r l' d|none=>none
 |.dW l,r,v,d=>match af7 v with|some l'=>mG l r l' d|none=>none
termination_by structural x=>x
def mG:(l:List LA)->(r:List Sh)->List AV->TL r->Option (TL (ja l r))
 |[],r,vs,d=>match vs with|[]=>some d|_=>none
 |a::l,r,vs,d=>match vs with
  |v::vs=>match mG l r vs d with|some d=>vf a (ja l r) v d|none=>none
  |[]=>none
termination_by structural x=>x
end
theorem ze{a:LA}{v:AV}(h:ve a v=true)(X:Cx)(V:Value)(R:Rel X v V)(r:List Sh)(d:TL (σA a r)):Rel X (oL a r d).1 V:=by cases a<;>cases v<;>first|exact R|cases h
mutual
theorem adq:∀(a:LA) (r:List Sh) (v:AV) (d:TL r) (d':TL (σA a r)),vf a r v d=some d'->(oL a r d').2=d/\∀X V,Rel X v V->Rel X (oL a r d').1 V
 |.int k,r,v,d,d',e=>by
  obtain⟨h1,h2⟩:=oZ (y:=d') e;refine⟨h2,fun X V h=>?_⟩;unfold af2 at h1;split at h1
  .split at h1
   .rename_i hk;have hk:=Ev.IntKind.vP (db hk);subst hk;have h1:=BY h1;show V=.int _ d'.1;rw[<-h1];exact h
   .exact absurd h1 aue
  .exact absurd h1 aue
 |.bool,r,v,d,d',e=>by
  obtain⟨h1,h2⟩:=oZ (y:=d') e;refine⟨h2,fun X V h=>?_⟩;unfold abW at h1;split at h1
  .have h1:=BY h1;show V=.bool d'.1;rw[<-h1];exact h
  .exact absurd h1 aue
 |.str,r,v,d,d',e=>by
  obtain⟨h1,h2⟩:=oZ (y:=d') e;refine⟨h2,fun X V h=>?_⟩;unfold af6 at h1;split at h1
  .have h1:=BY h1;show V=.string d'.1;rw[<-h1];exact h
  .exact absurd h1 aue
 |.fz τ,r,v,d,d',e=>by
  obtain⟨h1,h2⟩:=oZ (y:=d') e;refine⟨h2,fun X V h=>?_⟩;unfold gFz at h1;show Cs X.w X.out (.sl τ) d'.1 [V];split at h1
  .split at h1
   .rename_i he;have h1:=BY h1;rw[<-h1];exact JL he h
   .exact absurd h1 aue
  .have h1:=BY h1;rw[<-h1,show V=_ from h];exact⟨none,0,0,rfl,rfl,ro _,fun q=>absurd rfl q⟩
  .exact absurd h1 aue
 |.fi,r,v,d,d',e=>by obtain⟨h1,h2⟩:=oV (y:=d') e;exact⟨h2,fun X V h=>ze h1 X V h r d'⟩
 |.aR,r,v,d,d',e=>by obtain⟨h1,h2⟩:=oV (y:=d') e;exact⟨h2,fun X V h=>ze h1 X V h r d'⟩
 |.gj,r,v,d,d',e=>by obtain⟨h1,h2⟩:=oV (y:=d') e;exact⟨h2,fun X V h=>ze h1 X V h r d'⟩
 |.fS,r,v,d,d',e=>by obtain⟨h1,h2⟩:=oV (y:=d') e;exact⟨h2,fun X V h=>ze h1 X V h r d'⟩
 |.gN,r,v,d,d',e=>by obtain⟨h1,h2⟩:=oV (y:=d') e;exact⟨h2,fun X V h=>ze h1 X V h r d'⟩
 |.ki,r,v,d,d',e=>by obtain⟨h1,h2⟩:=oV (y:=d') e;exact⟨h2,fun X V h=>adO h1 h⟩
 |.ji τ,r,v,d,d',e=>by cases e
 |.gX σ o,r,v,d,d',e=>by obtain⟨h1,h2⟩:=oZ (y:=d') e;exact⟨h2,fun X V h=>akU h1 h⟩
 |.fy b z o,r,v,d,d',e=>by obtain⟨h1,h2⟩:=oZ (y:=d') e;refine⟨h2,fun X V h=>?_⟩;have:=ar0 h1;subst this;exact h
 |.rp b,r,v,d,d',e=>by obtain⟨h1,h2⟩:=oZ (y:=d') e;refine⟨h2,fun X V h=>?_⟩;have:=al3 h1;subst this;exact h
 |.ptr b o,r,v,d,d',e=>by
  obtain⟨h1,h2⟩:=oV (y:=d') e;refine⟨h2,fun X V h=>?_⟩;unfold af4 at h1;split at h1
  .split at h1
   .rename_i q;have q:=db q;have h1:=db h1;subst q;subst h1;exact h
   .cases h1
  .cases h1
 |.hd b τ,r,v,d,d',e=>by
  obtain⟨h1,h2⟩:=oV (y:=d') e;refine⟨h2,fun X V h=>?_⟩;unfold gHd at h1;split at h1
  .have h1:=db h1;subst h1;exact h
  .cases h1
 |.mp b,r,v,d,d',e=>by
  obtain⟨h1,h2⟩:=oV (y:=d') e;refine⟨h2,fun X V h=>?_⟩;unfold gMp at h1;split at h1
  .have h1:=db h1;subst h1;exact h
  .cases h1
 |.ik b,r,v,d,d',e=>by
  obtain⟨h1,h2⟩:=oV (y:=d') e;refine⟨h2,fun X V h=>?_⟩;unfold af5 at h1;split at h1
  .have h1:=db h1;subst h1;exact h
  .cases h1
 |.func f x c,r,v,d,d',e=>by
  unfold vf at e;split at e<;>try cases e
  rename_i p hp;split at e<;>try cases e
  rename_i auX h₁;obtain⟨a1,a2⟩:=tN c r p.2 d auX h₁;obtain⟨b1,b2⟩:=tN x (ja c r) p.1 auX d' e;refine⟨by show(jl c r (jl x (ja c r) d').2).2=d;rw[b1,a1],?_⟩;intro X V h;unfold abX at hp;split at hp<;>try cases hp
  split at hp<;>cases hp;rename_i q;have q:=db q;subst q;obtain⟨xs,cs,h1,h2,h3⟩:=h;refine⟨xs,cs,h1,b2 X _ h2,?_⟩;rw[b1];exact a2 X _ h3
 |.agg l,r,v,d,d',e=>by
  unfold vf at e;split at e<;>try cases e
  rename_i p hp;obtain⟨a1,a2⟩:=tN l r p d d' e;refine⟨a1,?_⟩;intro X V h;unfold af0 at hp;split at hp<;>cases hp;obtain⟨cs,h1,h2⟩:=h;exact⟨cs,h1,a2 X _ h2⟩
 |.dW l,r,v,d,d',e=>by
  unfold vf at e;split at e<;>try cases e
  rename_i p hp;obtain⟨a1,a2⟩:=tN l r p d d' e;refine⟨a1,?_⟩;intro X V h;unfold af7 at hp;split at hp<;>cases hp;obtain⟨cs,h1,h2⟩:=h;exact⟨cs,h1,a2 X _ h2⟩
theorem tN:∀(l:List LA) (r:List Sh) (vs:List AV) (d:TL r) (d':TL (ja l r)),mG l r vs d=some d'->(jl l r d').2=d/\∀X cs,cE X vs cs->cE X (jl l r d').1 cs
 |[],r,vs,d,d',e=>by
  unfold mG at e;split at e
  .have e:d=d':=BY e;exact⟨e.symm,fun X V h=>h⟩
  .cases e
 |a::l,r,vs,d,d',e=>by
  unfold mG at e;split at e<;>try cases e
  rename_i v vs;split at e<;>try cases e
  rename_i auX h₁;obtain⟨a1,a2⟩:=tN l r vs d auX h₁;obtain⟨b1,b2⟩:=adq a (ja l r) v auX d' e;refine⟨by show(jl l r (oL a (ja l r) d').2).2=d;rw[b1,a1],?_⟩;rintro X cs ⟨V,t,rfl,h1,h2⟩;refine⟨V,t,rfl,b2 X V h1,?_⟩;show cE X (jl l r (oL a (ja l r) d').2).1 t;rw[b1];exact a2 X _ h2
end
inductive LO where
 |cells (l:List LA) (ty:TypeId)
 |arr (τ:Sh) (ty:TypeId)
 |map (κ:IntKind) (σ:Sh)
 |jJ (ty:TypeId)
 |fg (τ:Sh) (l:List LA) (ty:TypeId)
def aoA:Sh:=.agg [.I,.I,.sl (.agg [.int .u64,.int .u64])]
def σO:LO->List Sh->List Sh
 |.cells l _,r=>ja l r|.arr τ _,r=>.sl τ::r|.map κ σ,r=>.sl (.agg [.int κ,σ])::r|.jJ _,r=>.sl aoA::r|.fg τ l _,r=>.int .i64::.sl τ::ja l r
def vi:(o:LO)->(r:List Sh)->TL (σO o r)->cp×TL r
 |.cells l ty,r,d=>(.cells (jl l r d).1 ty,(jl l r d).2)|.arr τ ty,r,d=>(.arr τ d.1 ty,d.2)|.map κ σ,r,d=>(.map κ σ d.1,d.2)|.jJ ty,r,d=>(.jJ d.1 ty,d.2)|.fg τ l ty,r,d=>(.fg τ (Int.toNat d.1) d.2.1 (jl l r d.2.2).1 ty,(jl l r d.2.2).2)
def PM(ty:TypeId):cp->Option (List AV)
 |.cells vs ty'=>match Nat.beq ty' ty with|true=>some vs|false=>none
 |_=>none
def af1(τ:Sh)(ty:TypeId):cp->Option (List τ.T)
 |.arr τ' L ty'=>match e:τ'.eqv τ,Nat.beq ty' ty with|true,true=>some (lj e L)|_,_=>none
 |_=>none
def an5{σ τ:Sh}(h:σ.eqv τ=true)(M:fb σ):fb τ:=Sh.ig h▸M
def af3(κ:IntKind)(σ:Sh):cp->Option (fb σ)
 |.map κ' σ' M=>match e:σ'.eqv σ,lu κ' κ with|true,true=>some (an5 e M)|_,_=>none
 |_=>none
def abY(ty:TypeId):cp->Option (List qZ)
 |.jJ L ty'=>match Nat.beq ty' ty with|true=>some L|false=>none
 |_=>none
def Hm(τ:Sh)(ty:TypeId):cp->Option (Nat×List τ.T×List AV)
 |.fg τ' i L vs ty'=>match e:τ'.eqv τ,Nat.beq ty' ty with|true,true=>some (i,lj e L,vs)|_,_=>none
 |_=>none
theorem al2{τ:Sh}{ty:TypeId}{v:cp}{p:Nat×List τ.T×List AV}(h:Hm τ ty v=some p):v=.fg τ p.1 p.2.1 p.2.2 ty:=by
 unfold Hm at h;split at h<;>try cases h
 rename_i τ' i L vs ty';split at h
 .rename_i he hty;have hty:=db hty;subst hty;have:=Sh.ig he;subst this;have h:=BY h;rw[<-h];rfl
 .cases h
def R7:(o:LO)->(r:List Sh)->cp->TL r->Option (TL (σO o r))
 |.cells l ty,r,v,d=>match PM ty v with|some vs=>mG l r vs d|none=>none
 |.arr τ ty,r,v,d=>nG (af1 τ ty v) d|.map κ σ,r,v,d=>nG (af3 κ σ v) d|.jJ ty,r,v,d=>nG (abY ty v) d|.fg τ l ty,r,v,d=>match Hm τ ty v with
  |some p=>match mG l r p.2.2 d with|some d=>some (Int.ofNat p.1,p.2.1,d)|none=>none
  |none=>none
structure ak where
 T:List (Tmp×LA)
 h:List (Nat×LO)
 nx:Nat
def σT:List (Tmp×LA)->List Sh->List Sh
 |[],r=>r|p::l,r=>σA p.2 (σT l r)
def σH:List (Nat×LO)->List Sh->List Sh
 |[],r=>r|p::l,r=>σO p.2 (σH l r)
def ak.σs(l:ak):List Sh:=σT l.T (σH l.h [])
def Ht(n:Nat):(l:List (Tmp×LA))->(r:List Sh)->TL (σT l r)->Option (Tr AV×TL r)
 |[],r,d=>some (.nil,d)|p::l,r,d=>match Ht n l r (oL p.2 (σT l r) d).2 with
  |some (T,d')=>match jg n T (some p.1) (oL p.2 (σT l r) d).1 with|some T=>some (T,d')|none=>none
  |none=>none
def yy:(l:List (Nat×LO))->(r:List Sh)->TL (σH l r)->Option (Tr cp)
 |[],r,d=>some .nil|p::l,r,d=>match yy l r (vi p.2 (σH l r) d).2 with|some t=>Tr.set FT t p.1 (some (vi p.2 (σH l r) d).1)|none=>none
def rI(T:Tr AV):(l:List (Tmp×LA))->(r:List Sh)->TL r->Option (TL (σT l r))
 |[],r,d=>some d|p::l,r,d=>match rI T l r d with
  |some d=>match T.get p.1 with|some v=>vf p.2 (σT l r) v d|none=>none
  |none=>none
def Ho(t:Tr cp):(l:List (Nat×LO))->(r:List Sh)->TL r->Option (TL (σH l r))
 |[],r,d=>some d|p::l,r,d=>match Ho t l r d with
  |some d=>match t.get p.1 with|some v=>R7 p.2 (σH l r) v d|none=>none
  |none=>none
def ak.put(n:Nat)(l:ak)(d:TL l.σs):Option St:=match Ht n l.T (σH l.h []) d with
 |some (T,d)=>match yy l.h [] d with|some t=>some ⟨T,⟨t,l.nx⟩⟩|none=>none
 |none=>none
def ak.get(l:ak)(st:St):Option (TL l.σs):=match Ho st.h.tr l.h [] ()with|some d=>rI st.T l.T (σH l.h []) d|none=>none
theorem ado{n:Nat}{auN:Tr AV}:∀{l:List (Tmp×LA)}{r:List Sh}{d:TL r}{d':TL (σT l r)},rI auN l r d=some d'->∀{T:Tr AV}{auY:TL r},Ht n l r d'=some (T,auY)->auY=d /\
  ∀t v',T.get t=some v'->∃v,auN.get t=some v/\∀X V,Rel X v V->Rel X v' V
 |[],r,d,d',e,T,auY,h=>by have e:d=d':=BY e;have h:(Tr.nil,d')=(T,auY):=BY h;have h1:Tr.nil=T:=OF Prod.fst h;have h2:d'=auY:=OF Prod.snd h;subst h1;exact⟨h2.symm.trans e.symm,fun t v' q=>by simp[Tr.get]at q⟩|p::l,r,d,d',e,T,auY,h=>by
  simp only[rI]at e;split at e<;>try cases e
  rename_i auX h₁;split at e<;>try cases e
  rename_i v hv;obtain⟨a1,a2⟩:=adq _ _ _ _ _ e;simp only[Ht]at h;split at h<;>try cases h
  rename_i T₁ auZ hp;rw[a1]at hp;obtain⟨b1,b2⟩:=ado h₁ hp;split at h<;>cases h;rename_i hs;refine⟨b1,?_⟩;intro t v' q;rw[qo hs t]at q
  grind
def uK(o o':cp):Prop:=(∀X l,jd X l o->jd X l o')/\∀n,o'.row=some n->o.row=some n
theorem arM(τ:Sh)(l:List LA)(ty:TypeId)(r:List Sh)(v:cp)(d:TL r)(d':TL (σO (.fg τ l ty) r))(e:R7 (.fg τ l ty) r v d=some d'):(vi (.fg τ l ty) r d').2=d/\uK v (vi (.fg τ l ty) r d').1:=by
 have e2:(match Hm τ ty v with
  |some p=>match mG l r p.2.2 d with|some d=>some (Int.ofNat p.1,p.2.1,d)|none=>none
  |none=>none)=some d':=e
 split at e2<;>try cases e2
 rename_i p hv;split at e2<;>try cases e2
 rename_i auX h₁;obtain⟨a1,a2⟩:=tN _ _ _ _ _ h₁;have hv:=al2 hv;subst hv;refine⟨a1,?_,fun n q=>q⟩;rintro X l' ⟨b,c,pre,mid,post,tail,h0,h1,h2,h3,h4⟩;exact⟨b,c,pre,mid,post,tail,h0,h1,h2,a2 X mid h3,h4⟩
theorem akW:∀(o:LO) (r:List Sh) (v:cp) (d:TL r) (d':TL (σO o r)),R7 o r v d=some d'->(vi o r d').2=d/\uK v (vi o r d').1
 |.cells l ty,r,v,d,d',e=>by
  have e2:(match PM ty v with|some vs=>mG l r vs d|none=>none)=some d':=e;split at e2<;>try cases e2
  rename_i vs hv;unfold PM at hv;split at hv<;>try cases hv
  split at hv<;>cases hv;rename_i h;have h:=db h;subst h;obtain⟨a1,a2⟩:=tN _ _ _ _ _ e2;refine⟨a1,?_,fun n q=>by cases q⟩;rintro X l' ⟨b,c,cs,h1,h2,h3⟩;exact⟨b,c,cs,h1,h2,a2 X cs h3⟩
 |.arr τ ty,r,v,d,d',e=>by
  obtain⟨h1,h2⟩:=oZ (y:=d') e;refine⟨h2,?_⟩;show uK v (.arr τ d'.1 ty);unfold af1 at h1;split at h1<;>try cases h1
  rename_i τ' L ty';split at h1
  .rename_i he hty;have h1:=BY h1;rw[<-h1];have hty:=db hty;subst hty;have:=Sh.ig he;subst this;exact⟨fun X l h=>h,fun n q=>q⟩
  .cases h1
 |.map κ σ,r,v,d,d',e=>by
  obtain⟨h1,h2⟩:=oZ (y:=d') e;refine⟨h2,?_⟩;show uK v (.map κ σ d'.1);unfold af3 at h1;split at h1<;>try cases h1
  rename_i κ' σ' M;split at h1
  .rename_i he hk;have h1:=BY h1;rw[<-h1];have hk:=na hk;subst hk;have:=Sh.ig he;subst this;exact⟨fun X l h=>h,fun n q=>by cases q⟩
  .cases h1
 |.jJ ty,r,v,d,d',e=>by
  obtain⟨h1,h2⟩:=oZ (y:=d') e;refine⟨h2,?_⟩;show uK v (.jJ d'.1 ty);unfold abY at h1;split at h1<;>try cases h1
  rename_i L ty';split at h1
  .rename_i hty;have h1:=BY h1;rw[<-h1];have hty:=db hty;subst hty;exact⟨fun X l h=>h,fun n q=>by cases q⟩
  .cases h1
 |.fg τ l ty,r,v,d,d',e=>arM τ l ty r v d d' e
theorem adp{avZ:Tr cp}:∀{l:List (Nat×LO)}{r:List Sh}{d:TL r}{d':TL (σH l r)},Ho avZ l r d=some d'->∀{t:Tr cp},yy l r d'=some t ->
  ∀i o',t.get i=some o'->∃o,avZ.get i=some o/\uK o o'
 |[],r,d,d',e,t,h=>by simp only[yy,dm]at h;subst h;exact fun i o' q=>by simp[Tr.get]at q|p::l,r,d,d',e,t,h=>by
  simp only[Ho]at e;split at e<;>try cases e
  rename_i auX h₁;split at e<;>try cases e
  rename_i v hv;obtain⟨a1,a2⟩:=akW _ _ _ _ _ e;simp only[yy]at h;split at h<;>try cases h
  rename_i awa hp;rw[a1]at hp;have ih:=adp h₁ hp;intro i o' q;rw[Tr.d6 _ _ _ _ _ h i]at q
  grind
