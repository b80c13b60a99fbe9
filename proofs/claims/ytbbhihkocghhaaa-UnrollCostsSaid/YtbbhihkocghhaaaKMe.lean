import Derived.Test.YtbbhihkocghhaaaKMd
set_option linter.all false
section
namespace Go.Proofs.Ytbbhihkocghhaaa.V
open Go Go.RowKit
open Go.Proofs.Ytbbhihkocghhaaa.Ev (Tr Tr.bE nth bW PE iz pg jv th cX looks tmpsOf tm ke nG gU mH ku nJ left mark ql nK cz gb jl lG)
def wf(h:Hp):Prop:=∀id o,h.tr.get id=some o->id<h.next
variable{h:Hp}
theorem wf.le{h':Hp}(w:wf h)(old:∀id,id<h.next->h'.tr.get id=h.tr.get id):dF h h':=fun b o q=>by rw[old b (w b o q)];exact q
structure One(P:Program)(sh:TypeId->Option Sh)(ops:Array Oper)(o:Oper)(st st':St)(v:AV):Prop where
 next:st.h.next<=st'.h.next
 old:∀id,id<st.h.next->st'.h.tr.get id=st.h.tr.get id
 wf:wf st'.h
 same:∀t,o.dst≠some t->st'.T.get t=st.T.get t
 now:PN P sh ops st.h.next st'.T st'.h o v
 dst:∀t,o.dst=some t->st'.T.get t=some v
variable{P:Program}{R:Type}{k:St->Option R}{ops:Array Oper}{sh:TypeId->Option Sh}{r:R}{n:Nat}{o:Oper}
theorem X3{st:St}(e:Co P sh n ops o st k=some r)
  (hl:∀t,o.dst=some t->t∉looks ops.toList o):∃st' v,k st'=some r/\(wf st.h->One P sh ops o st st' v):=by
 unfold Co at e;obtain⟨b,T₁,e,adC,hw⟩:=WL e;have aH:∀{T':Tr AV}{v:AV},cW n T₁ o.dst v=some T'->(∀t∈looks ops.toList o,T'.get t=st.T.get t)/\(∀t,o.dst≠some t->T'.get t=st.T.get t)/\∀t,o.dst=some t->T'.get t=some v:=by
  intro T' v hs;have hg:=jN hs
  grind
 cases b with
 |false=>
  simp only[]at e;split at e<;>try cases e
  rename_i T' hs;obtain⟨k1,k2,k3⟩:=aH hs;refine⟨_,.bD [],e,fun w=>⟨ol _,fun _ _=>rfl,w,k2,.inl ⟨?_,rfl⟩,k3⟩⟩;rw[tj (ops:=ops) (T:=st.T) k1];exact hw
 |true=>
  simp only[]at e;split at e
  .rename_i g ob v ha;split at e<;>try cases e
   rename_i tr T' ht hs;obtain⟨hg,e⟩:=mR e;subst hg;obtain⟨k1,k2,k3⟩:=aH hs;have hgt:=Tr.bE FT st.h.tr st.h.next _ tr ht;obtain⟨m1,m2⟩:=zA ha;refine⟨_,v,e,fun w=>⟨acv,?_,?_,k2,.inr (.inr ⟨?_,m1,st.h.next,ob,?_,?_,acv,ol _⟩),k3⟩⟩
   .intro id hid;show tr.get id=_;rw[hgt id,qr acs]
   .intro id o' q
    replace q:tr.get id=some o':=q
    rw[hgt id]at q;by_cases p:id=st.h.next
    .simp[p]
    .rw[qr p]at q;have:=w id o' q;simp only;omega
   .rw[tj (ops:=ops) (T:=st.T) k1];exact hw
   .refine Hs ha (fun t q=>?_);show T'.get t=T₁.get t;rw[k1 t (ke q),adC t]
   .show tr.get _=_;rw[hgt,ut rfl]
  .split at e<;>try cases e
   rename_i g v hr;split at e<;>try cases e
   rename_i T' hs;obtain⟨hg,e⟩:=mR e;subst hg;obtain⟨k1,k2,k3⟩:=aH hs;refine⟨_,v,e,fun w=>⟨ol _,fun _ _=>rfl,w,k2,.inr (.inl ⟨?_,?_,?_⟩),k3⟩⟩
   .rw[tj (ops:=ops) (T:=st.T) k1];exact hw
   .rename_i hna _;cases hm:ef o.op with|false=>rfl|true=>unfold iD at hr;unfold ef at hm;split at hm<;>first|(cases hm;done)|(rename_i hop;rw[hop]at hr;cases hr)
   .refine Ho (dF.refl _) hr (fun t q=>?_);rw[k1 t (ke q),adC t]
structure sU(P:Program)(sh:TypeId->Option Sh)(ops:Array Oper)(q:Nat)(os:List Oper)(ps:List PE)(st st':St):Prop where
 next:st.h.next<=st'.h.next
 old:∀id,id<st.h.next->st'.h.tr.get id=st.h.tr.get id
 wf:wf st'.h
 same:∀t,(∀(x:Nat) (o:Oper) (hi:Nat),os[x]?=some o->ps[x]?=some (.p q hi)->o.dst≠some t)->st'.T.get t=st.T.get t
 done:∀(x:Nat) (o:Oper) (hi:Nat),os[x]?=some o->ps[x]?=some (.p q hi)->∃v,PN P sh ops st.h.next st'.T st'.h o v/\∀t,o.dst=some t->st'.T.get t=some v
 uniq:∀(x y:Nat) (o o':Oper) (hi hi':Nat) (t t':Tmp) (v v':AV) (id:Nat),os[x]?=some o->os[y]?=some o'->ps[x]?=some (.p q hi)->ps[y]?=some (.p q hi')->ef o.op=true->ef o'.op=true ->
  o.dst=some t->o'.dst=some t'->st'.T.get t=some v->st'.T.get t'=some v'->jf v=some id->jf v'=some id->x=y
theorem PN.ids{b:Nat}{T:Tr AV}{v:AV}(p:PN P sh ops b T h o v)(hm:ef o.op=true){id:Nat}(hi:jf v=some id):id<h.next/\b<=id:=by
 rcases p with⟨h1,rfl⟩|⟨h1,h2,h3⟩|⟨h1,h2,id',ob,h3,h4,h5,h6⟩
 .cases hi
 .rw[hm]at h2;cases h2
 .have:=(zA h3).2
  grind
theorem Kv{q:Nat}:∀{os:List Oper}{ps:List PE}{st:St},lP P sh n ops q os ps st k=some r ->
  (∀(x y:Nat) (o o':Oper) (hi hi':Nat) (t:Tmp),os[x]?=some o->os[y]?=some o'->ps[x]?=some (.p q hi)->ps[y]?=some (.p q hi')->x<=y->o'.dst=some t->t∉looks ops.toList o) ->
  (∀(x y:Nat) (o o':Oper) (t:Tmp),os[x]?=some o->os[y]?=some o'->o.dst=some t->o'.dst=some t->x=y) ->
  ∃st',k st'=some r/\(wf st.h->sU P sh ops q os ps st st'):=by
 intro os
 induction os with
 |nil=>intro ps st e _ _;simp only[lP]at e;exact⟨st,e,fun w=>⟨ol _,fun _ _=>rfl,w,fun _ _=>rfl,fun x o hi h=>by simp at h,fun x y o o' hi hi' t t' v v' id h=>by simp at h⟩⟩|cons o os ih=>
  intro ps st e hL hD;cases ps with
  |nil=>simp only[lP]at e;exact⟨st,e,fun w=>⟨ol _,fun _ _=>rfl,w,fun _ _=>rfl,fun x o hi _ h=>by simp at h,fun x y o o' hi hi' t t' v v' id _ _ h=>by simp at h⟩⟩|cons pe ps=>
   simp only[lP]at e;have hL':∀(x y:Nat) (o o':Oper) (hi hi':Nat) (t:Tmp),os[x]?=some o->os[y]?=some o'->ps[x]?=some (.p q hi)->ps[y]?=some (.p q hi')->x<=y->o'.dst=some t->t∉looks ops.toList o:=fun x y o o' hi hi' t h1 h2 h3 h4 h5 h6=>hL (x+1) (y+1) o o' hi hi' t (by simpa using h1) (by simpa using h2) (by simpa using h3) (by simpa using h4) acs h6;have hD':∀(x y:Nat) (o o':Oper) (t:Tmp),os[x]?=some o->os[y]?=some o'->o.dst=some t->o'.dst=some t->x=y:=fun x y o o' t h1 h2 h3 h4=>by have:=hD (x+1) (y+1) o o' t (by simpa using h1) (by simpa using h2) h3 h4;omega
   have skip:lP P sh n ops q os ps st k=some r->(∀hi,pe≠.p q hi)->∃st',k st'=some r/\(wf st.h->sU P sh ops q (o::os) (pe::ps) st st'):=by
    intro e hne;obtain⟨st',h1,S'⟩:=ih e hL' hD';refine⟨st',h1,fun w=>?_⟩;have S:=S' w;refine⟨S.next,S.old,S.wf,?_,?_,?_⟩
    .intro t ht;exact S.same t (fun x o' hi h1 h2=>ht (x+1) o' hi (by simpa using h1) (by simpa using h2))
    .intro x o' hi h1 h2;cases x with|zero=>simp at h2;exact absurd h2 (hne hi)|succ x=>exact S.done x o' hi (by simpa using h1) (by simpa using h2)
    .intro x y aex aey hi hi' t t' v v' id h1 h2 h3 h4;cases x with|zero=>simp at h3;exact absurd h3 (hne hi)|succ x=>cases y with|zero=>simp at h4;exact absurd h4 (hne hi')|succ y=>intro a1 a2 a3 a4 a5 a6 a7 a8;rw[S.uniq x y aex aey hi hi' t t' v v' id (by simpa using h1) (by simpa using h2) (by simpa using h3) (by simpa using h4) a1 a2 a3 a4 a5 a6 a7 a8]
   cases pe with
   |w j=>exact skip e (fun hi h=>by cases h)
   |p lo hi=>
    simp only[]at e;cases hb:Nat.beq lo q with
    |false=>simp only[hb]at e;exact skip e (fun h' h=>by cases h;exact IT hb rfl)
    |true=>
     have:=aW hb;subst this;simp only[hb]at e;obtain⟨aeF,afb,e,O'⟩:=X3 e (fun t ht=>hL 0 0 o o hi hi t acv acv acv acv (ol _) ht);obtain⟨st',h1,S'⟩:=ih e hL' hD';refine⟨st',h1,fun w=>?_⟩;have O:=O' w;have S:=S' O.wf;have hle:dF aeF.h st'.h:=O.wf.le S.old;have hlook:∀t∈looks ops.toList o,st'.T.get t=aeF.T.get t:=fun t ht=>S.same t (fun x o' h' q1 q2 q3=>hL 0 (x+1) o o' hi h' t acv (by simpa using q1) acv (by simpa using q2) acs q3 ht);have hdst:∀t,o.dst=some t->st'.T.get t=some afb:=fun t ht=>by rw[S.same t (fun x o' h' q1 q2 q3=>by have:=hD 0 (x+1) o o' t acv (by simpa using q1) ht q3;omega)];exact O.dst t ht
     have aes:=O.now.congr hlook hle S.next (ol _);refine⟨pp O.next S.next,?_,S.wf,?_,?_,?_⟩
     .intro id hid;rw[S.old id (rg hid O.next),O.old id hid]
     .intro t ht;rw[S.same t (fun x o' h' q1 q2=>ht (x+1) o' h' (by simpa using q1) (by simpa using q2)),O.same t (ht 0 o hi acv acv)]
     .intro x o' h' q1 q2;cases x with|zero=>simp at q1;subst q1;exact⟨afb,aes,hdst⟩|succ x=>obtain⟨v,p1,p2⟩:=S.done x o' h' (by simpa using q1) (by simpa using q2);exact⟨v,p1.congr (fun _ _=>rfl) (dF.refl _) (ol _) O.next,p2⟩
     .have cross:∀(y:Nat) (aex aey:Oper) (hi':Nat) (t t':Tmp) (v v':AV) (id:Nat),o=aex->os[y]?=some aey->ps[y]?=some (.p lo hi')->ef aex.op=true->ef aey.op=true->aex.dst=some t->aey.dst=some t' ->
        st'.T.get t=some v->st'.T.get t'=some v'->jf v=some id->jf v'=some id->False:=by
       intro y aex aey hi' t t' v v' id e1 h2 h4 a1 a2 a3 a4 a5 a6 a7 a8;subst e1;rw[hdst t a3]at a5;cases a5;have b1:=O.now.ids a1 a7;obtain⟨afc,p1,p2⟩:=S.done y aey hi' h2 h4;rw[p2 t' a4]at a6;cases a6;have b2:=p1.ids a2 a8;omega
      intro x y aex aey adM adN t t' v v' id h1 h2 h3 h4 a1 a2 a3 a4 a5 a6 a7 a8;cases x with
      |zero=>cases y with|zero=>rfl|succ y=>exact(cross y aex aey adN t t' v v' id (by simpa using h1) (by simpa using h2) (by simpa using h4) a1 a2 a3 a4 a5 a6 a7 a8).elim
      |succ x=>cases y with|zero=>exact(cross x aey aex adM t' t v' v id (by simpa using h2) (by simpa using h1) (by simpa using h3) a2 a1 a4 a3 a6 a5 a8 a7).elim|succ y=>rw[S.uniq x y aex aey adM adN t t' v v' id (by simpa using h1) (by simpa using h2) (by simpa using h3) (by simpa using h4) a1 a2 a3 a4 a5 a6 a7 a8]
def xV(P:Program)(ops:Array Oper)(q:Nat)(ch:Bool)(ts:jp)(st:St)(os:List Oper)(ps:List PE):Prop:=∀(x:Nat) (o:Oper) (lo hi:Nat),os[x]?=some o->ps[x]?=some (.p lo hi)->lo<q->q<=hi ->
 (∀t∈looks ops.toList o,t∉ts)/\(ch=true->ef o.op=false->jm ops st.T o=some false\/(jm ops st.T o=some true/\∃v,iD P st.T st.h o=some (true,v)/\∀t,o.dst=some t->st.T.get t=some v))
theorem K3{R:Type}{P:Program}{ops:Array Oper}{q:Nat}{ch:Bool}{ts:jp}{st:St}{k:Option R}{r:R}:∀{os:List Oper}{ps:List PE},kg P ops q ch ts st os ps k=some r->k=some r/\xV P ops q ch ts st os ps
 |[],ps,e=>⟨by simpa[kg]using e,fun x o lo hi h=>by simp at h⟩|o::os,[],e=>⟨by simpa[kg]using e,fun x o lo hi _ h=>by simp at h⟩|o::os,pe::ps,e=>by
  simp only[kg]at e;have go:kg P ops q ch ts st os ps k=some r->(∀lo hi,pe=.p lo hi->lo<q->q<=hi->(∀t∈looks ops.toList o,t∉ts)/\(ch=true->ef o.op=false->jm ops st.T o=some false\/(jm ops st.T o=some true/\∃v,iD P st.T st.h o=some (true,v)/\∀t,o.dst=some t->st.T.get t=some v))) ->
    k=some r/\xV P ops q ch ts st (o::os) (pe::ps):=by
   intro e h;obtain⟨h1,h2⟩:=K3 e;refine⟨h1,?_⟩;intro x o' lo hi q1 q2;cases x with|zero=>simp at q1 q2;subst q1;exact h lo hi q2|succ x=>exact h2 x o' lo hi (by simpa using q1) (by simpa using q2)
  split at e
  .exact go e (fun lo hi h=>by cases h)
  .rename_i lo hi;split at e
   .split at e<;>try cases e
    rename_i hn;have hn:=QD hn;split at e
    .rename_i hm;split at e<;>try cases e
     .rename_i hw;split at e<;>try cases e
      .rename_i g v t hr hd;split at e<;>try cases e
       rename_i u hu;split at e<;>try cases e
       rename_i s hs;obtain⟨hg,e⟩:=mR e;obtain⟨hs',e⟩:=mR e;subst hg;subst hs';have:=Ky hs
       grind
      .rename_i g v hr hd;obtain⟨hg,e⟩:=mR e
       grind
     .rename_i hw;exact go e (fun lo' hi' h _ _=>⟨hn,fun _ _=>.inl hw⟩)
    .rename_i hne;exact go e (fun lo' hi' h _ _=>⟨hn,fun h1 h2=>absurd h2 (hne h1)⟩)
   .rename_i hne;refine go e (fun lo' hi' h h1 h2=>?_);cases h;exact absurd (aaY h2) (hne (by rw[WP];exact h1))
def vW(P:Program)(sh:TypeId->Option Sh)(n:Nat)(ops:Array Oper)(pl:List PE):Nat->Nat->St->St->Prop
 |0,_,st,fin=>fin=st|r+1,q,st,fin=>∃(i:Nat) (o:Oper) (ch:Bool) (aeF aeG:St) (b:Bool) (T:Tr AV) (v:AV),ops[i]?=some o/\pl[i]?=some (.w (q+1))/\(ch=false->dF st.h aeF.h)/\vV ops st.T o b T/\cW n T o.dst v=some aeF.T /\
   ((b=true/\vh P T st.h o v aeF.h)\/(b=false/\v=.bD []/\aeF.h=st.h))/\(wf aeF.h->sU P sh ops (q+1) ops.toList pl aeF aeG)/\xV P ops (q+1) ch (dl o.dst++nU (q+1) ops.toList pl) aeG ops.toList pl/\vW P sh n ops pl r (q+1) aeG fin
theorem LF{pl:List PE}{m:Nat}(hP:iz ops pl m){x y:Nat}{o':Oper}{lo hi:Nat}{t:Tmp}(h1:ops[x]?=some o)(h2:ops[y]?=some o')(h3:pl[y]?=some (.p lo hi))(hxy:x<=y)(ht:o'.dst=some t):t∉looks ops.toList o:=by intro hl;have:=hP.below x o h1 y (hP.fresh x o h1 t hl y o' lo hi h2 h3 ht);omega
theorem Lh{R:Type}{P:Program}{sh:TypeId->Option Sh}{call:gk R}(hc:dM P call){n:Nat}{ops:Array Oper}{pl:List PE}{m:Nat}(hP:iz ops pl m)
  (hD:∀(x y:Nat) (o o':Oper) (t:Tmp),ops.toList[x]?=some o->ops.toList[y]?=some o'->o.dst=some t->o'.dst=some t->x=y) {k:St->Option R}{r:R} :
  ∀(c q:Nat) (st:St),vF P sh call n ops pl c q st k=some r->∃fin,k fin=some r/\vW P sh n ops pl c q st fin
 |0,q,st,e=>⟨st,e,rfl⟩|c+1,q,st,e=>by
  simp only[vF]at e;split at e<;>try cases e
  rename_i o hf;obtain⟨i,h1,h2⟩:=nJ hf;obtain⟨ch,aeF,b,T,v,e,hch,W,hT,A⟩:=Q4 hc e;obtain⟨aeG,e,S⟩:=Kv e (fun x y o o' hi hi' t q1 q2 q3 q4 q5 q6=>LF hP (by simpa using q1) (by simpa using q2) q4 q5 q6) hD;obtain⟨e,C⟩:=K3 e;obtain⟨fin,hk,rest⟩:=Lh hc hP hD c (q+1) aeG e;exact⟨fin,hk,i,o,ch,aeF,aeG,b,T,v,by simpa using h1,h2,hch,W,hT,A,S,C,rest⟩
end Go.Proofs.Ytbbhihkocghhaaa.V
end
section
namespace Go.Proofs.Ytbbhihkocghhaaa.Ev
open Go Go.RowKit
section
variable{n:Nat}{ops:Array Oper}{pl:List PE}{acM:fY}{aeg:Hp}{afd:World}{q:Nat}{L:Nat->Bool}{a:Act}{w:World}{st:St}{pd:eS}{F:fY}
theorem Inv.due{k m:Nat}(I:Inv n ops pl acM aeg afd m q L a w st pd F)(hP:iz ops pl k){i:Nat}{o:Oper}(ho:ops[i]?=some o)(hr:∀e∈cX o,L e=true)
  (hw:pl[i]?=some (.w (q+1))):∀d (x l h:Nat),ops.size<=x+d->pl[x]?=some (.p l h)->h<=q->L x=true:=by
 have hk:q+1<=k:=(hP.w i o (q+1) ho hw).2.1;intro d
 induction d with
 |zero=>
  intro x l h hx hp _;have:x<pl.length:=by grind
  rw[hP.len]at this;omega
 |succ d ih=>
  intro x l h hx hp hh;rcases hP.hi x l h hp with r|⟨z,oz,pe,h1,h2,h3,h4⟩
  .omega
  .have hxz:=hP.below z oz h1 x h3;have hz:L z=true\/z=i:=by
    rcases h4 with⟨j,rfl,hj⟩|⟨l',h',rfl,hh'⟩
    .rcases rt q j with r|r
     .have:j=q+1:=acs
      subst this;exact .inr (hP.uniq z i _ h2 hw)
     .exact .inl ((I.wl z j h2).2 r)
    grind
   rcases hz with hz|rfl
   .exact I.down z oz h1 hz x h3
   grind
theorem Inv.lay{m:Nat}{pd':eS}{h':Hp}(I:Inv n ops pl acM aeg afd m q L a w st pd F)(hdue:∀p∈pd,(∃lo hi,pl[p.1]?=some (.p lo hi)/\hi<=q)->L p.1=true)
  (e:o6 pl q pd st.h=some (pd',h')) :
  Inv n ops pl acM aeg afd m q L a w ⟨st.T,h'⟩ pd' F/\∀p∈pd',∃lo hi,pl[p.1]?=some (.p lo hi)/\q<hi:=by
 obtain⟨e1,e2,e3⟩:=Qt e;have hE:∀aeI s,F s->Ext aeI aeg afd s st.h w->Ext aeI aeg afd s h' w:=by
  intro aeI s hs hE;refine hE.Kj (by rw[e1];exact ol _) ?_;intro j o hj;rcases e2 j o hj with r|⟨p,hp,hd,rfl,rfl⟩
  .exact .inl ⟨o,r⟩
  .exact .inr ⟨(I.km p hp (hdue p hp hd) s hs).2.1,I.ud p hp⟩
 have hnd:∀p∈pd',∀p'∈pd,(∃lo hi,pl[p'.1]?=some (.p lo hi)/\hi<=q)->p.2.1≠p'.2.1:=by rintro p hp p' hp' ⟨lo,hi,h1,h2⟩ heq;have:=I.jH p (e3 p hp).1 p' hp' (.inr heq);subst this;obtain⟨_,lo',hi',h3,h4⟩:=e3 p hp;rw[h1]at h3;simp at h3;omega
 refine⟨⟨I.ne,I.size,I.defers,?_,?_,I.tmp,?_,?_,by rw[e1];exact I.low,fun p hp=>I.ud p (e3 p hp).1,?_,?_,?_,?_,I.down,I.wl,I.lo,I.hi⟩,fun p hp=>(e3 p hp).2⟩
 .intro aeI adX g;obtain⟨s,h1,h2,h3⟩:=I.free aeI adX g;exact⟨s,h1,hE aeI s h1 h2,fun p hp=>h3 p (e3 p hp).1⟩
 .intro s hs;obtain⟨aeI,h1,h2⟩:=I.mv s hs;exact⟨aeI,h1,hE aeI s hs h2⟩
 .intro t v hv;rw[e1];exact I.all t v hv
 .intro s hs;have H:=I.H s hs;refine⟨?_,?_,?_,?_⟩
  .intro j o hj;rcases e2 j o hj with r|⟨p,hp,hd,rfl,rfl⟩
   .exact H.obj j o r
   .exact(I.km p hp (hdue p hp hd) s hs).1
  .intro j j' o o' hj hj' he;rcases e2 j o hj with r|⟨p,hp,hd,rfl,rfl⟩<;>rcases e2 j' o' hj' with r'|⟨p',hp',hd',rfl,rfl⟩
   .exact H.inj j j' o o' r r' he
   .exact absurd he ((I.km p' hp' (hdue p' hp' hd') s hs).2.2 j o r)
   .exact absurd he.symm ((I.km p hp (hdue p hp hd) s hs).2.2 j' o' r')
   .exact I.mw p hp p' hp' (hdue p hp hd) (hdue p' hp' hd') s hs he
  .intro j o hj;rw[e1];rcases e2 j o hj with r|⟨p,hp,hd,rfl,rfl⟩
   .exact H.lt j o r
   .exact(I.pid p hp).1
  .intro j o hj;rw[e1];rcases e2 j o hj with r|⟨p,hp,hd,rfl,rfl⟩
   .exact H.fO j o r
   .exact(I.pid p hp).2.2.1
 .intro p hp;obtain⟨p1,p2,p3,p4⟩:=I.pid p (e3 p hp).1;refine⟨by rw[e1];exact p1,?_,by rw[e1];exact p3,p4⟩;cases hg:h'.tr.get p.2.1 with
  |none=>rfl|some o=>
   exfalso;rcases e2 _ o hg with r|⟨p',hp',hd,he,_⟩
   .rw[p2]at r;cases r
   .exact hnd p hp p' hp' hd he
 .intro p hp hL s hs;obtain⟨r1,r2,r3⟩:=I.km p (e3 p hp).1 hL s hs;refine⟨r1,r2,?_⟩;intro j o hj he;rcases e2 j o hj with r|⟨p',hp',hd,rfl,rfl⟩
  .exact r3 j o r he
  .exact hnd p hp p' hp' hd (I.mw p' hp' p (e3 p hp).1 (hdue p' hp' hd) hL s hs he).symm
 .intro p hp p' hp' hL hL' s hs he;exact I.mw p (e3 p hp).1 p' (e3 p' hp').1 hL hL' s hs he
 .intro p hp p' hp' he;exact I.jH p (e3 p hp).1 p' (e3 p' hp').1 he
theorem Inv.write{P:Program}{call:Cl}(hcl:dM P call){k:Nat}(I:Inv n ops pl acM aeg afd (q+1) q L a w st pd F)(hP:iz ops pl k){i:Nat}{o:Oper}(ho:ops[i]?=some o)
  (hr:∀e∈cX o,L e=true) (hw:pl[i]?=some (.w (q+1))) {st':St}(e:qI P call n ops o st=some st') (hgt:∀p∈pd,∃lo hi,pl[p.1]?=some (.p lo hi)/\q<hi)
  {K:Act->World->Prop}{Q:Exit->Act->World->Prop}
  (hK:∀a' w' F',Inv n ops pl acM aeg afd (q+1) (q+1) (mark L i) a' w' st' pd F'->(∀(i' l h:Nat),pl[i']?=some (.p l h)->q+1<=l->mark L i i'=false)->K a' w'):wpOp P ops Q i K a w:=by
 obtain⟨aeI,adX⟩:=I.ne;obtain⟨aeK,adZ,_⟩:=I.free aeI adX (fun _=>(0,0));have hO:∀s,F s->fA s st.T a o.op:=fun s hs=>o9 fun t ht u hu=>I.tmp s hs t u hu (I.oI hP ho hr (ke ht));have hW:∀{b},oY ops st.T o=some b->Region.wanted o (yielded ops a.tmps)=b:=fun hw=>y5 hw (fun j b oj t v hg hj hd hv=>I.tmp aeK adZ t v hv (I.oI hP ho hr (nG hg hj hd)));have hdue:=I.due hP ho hr hw;have notI:∀(j l h:Nat),pl[j]?=some (.p l h)->j≠i:=by intro j l h hj e;subst e;rw[hw]at hj;cases hj
 have mkp:∀p∈pd,mark L i p.1=L p.1:=by intro p hp;obtain⟨lo,hi,h1,_⟩:=hgt p hp;unfold mark;rw[qr (notI p.1 lo hi h1)]
 have hun:∀(i' l h:Nat),pl[i']?=some (.p l h)->q+1<=l->mark L i i'=false:=by intro i' l h hp hl;unfold mark;rw[qr (notI i' l h hp)];cases hx:L i' with|false=>rfl|true=>have:=I.lo i' l h hp hx;omega
 have build:∀(F':fY) (w':World) (h':Hp) (V:Value) (v:AV) (T':Tr AV),eo F st.h w F' h' w'->(∀s',F' s'->ab s' h' w'/\ah s' v=V)->cW n h'.next st.T o.dst v=some T' ->
   Inv n ops pl acM aeg afd (q+1) (q+1) (mark L i) (a.put o.dst V) w' ⟨T',h'⟩ pd F':=by
  intro F' w' h' V v T' hE hF hT;obtain⟨aeL,aea,adA⟩:=hE.to aeK adZ;have hnx:st.h.next<=h'.next:=adA.next;refine⟨I.ne,?_,?_,?_,?_,?_,zq hT hnx I.all,fun s hs=>(hF s hs).1,pp I.low hnx,I.ud,?_,?_,?_,I.jH,?_,?_,?_,?_⟩
  .cases hd:o.dst<;>simp[Act.put,hd,I.size]
  .cases hd:o.dst<;>simp[Act.put,hd,I.defers]
  .intro aeJ adY g;obtain⟨s,h1,h2,h3⟩:=I.free aeJ adY g;obtain⟨s',h1',hx⟩:=hE.to s h1;refine⟨s',h1',h2.trans hx,?_⟩;intro p hp hm;rw[mkp p hp]at hm;rw[hx.sg _ (I.pid p hp).1];exact h3 p hp hm
  .intro s' hs';obtain⟨s,h1,hx⟩:=hE.from_ s' hs';obtain⟨aeJ,h2,h3⟩:=I.mv s h1;exact⟨aeJ,h2,h3.trans hx⟩
  .intro s' hs' t u hu hnp;obtain⟨s,h1,hx⟩:=hE.from_ s' hs';rw[jN hT t]at hu;by_cases hd:o.dst=some t
   .rw[ut hd]at hu;simp at hu;subst hu;simp only[Act.put,hd,Id,abE];rw[ut (by rw[I.size];exact(LZ hT hd).1),(hF s' hs').2]
   .rw[qr hd]at hu;have hnp':¬lF ops pl (q+1) L t:=by rintro⟨x,ox,l',h'',p1,p2,p3,p4,p5⟩;refine hnp ⟨x,ox,l',h'',p1,p2,p3,?_,p5⟩;unfold mark;rw[qr (notI x l' h'' p2)];exact p4
    have:=I.tmp s h1 t u hu hnp';rw[oQ hx.sg u (I.all t u hu).2];cases hd':o.dst with|none=>exact this|some d=>simp only[Act.put,Id];rw[qr (fun e=>hd (by rw[hd',e]))];exact this
  .intro p hp;obtain⟨p1,p2,p3,lo,hi,p4,p5,p6⟩:=I.pid p hp;obtain⟨lo',hi',h1,h2⟩:=hgt p hp;rw[p4]at h1;simp at h1;refine⟨rg p1 hnx,?_,nM hnx p3,lo,hi,p4,acs,acs⟩;cases hg:h'.tr.get p.2.1 with|none=>rfl|some ob=>obtain⟨o',ho'⟩:=adA.aH _ ob hg p1;rw[p2]at ho';cases ho'
  .intro p hp hm s' hs';rw[mkp p hp]at hm;obtain⟨s,h1,hx⟩:=hE.from_ s' hs';obtain⟨r1,r2,r3⟩:=I.km p hp hm s h1;obtain⟨p1,p2,p3,_⟩:=I.pid p hp;have hsid:=hx.sg _ p1;obtain⟨y,hy⟩:=r1.there;have hlt:(s p.2.1).1<w.heap.size:=by
    rcases rt (s p.2.1).1 w.heap.size with r|r
    .exact r
    .rw[aaT r]at hy;cases hy
   rw[hsid];refine⟨?_,r2,?_⟩
   .rw[hx.frame _ hlt r3];exact r1.congr hx.sg p1 p3
   .intro j ob hj he;rcases hx.bz j ob hj with⟨j',o',hj',q'⟩|q'
    .exact r3 j' o' hj' (q'.trans he)
    .omega
  .intro p hp p' hp' hm hm' s' hs' he;rw[mkp p hp]at hm;rw[mkp p' hp']at hm';obtain⟨s,h1,hx⟩:=hE.from_ s' hs';rw[hx.sg _ (I.pid p hp).1,hx.sg _ (I.pid p' hp').1]at he;exact I.mw p hp p' hp' hm hm' s h1 he
  .intro z oz hz hLz e' he';unfold mark at hLz;split at hLz
   .rename_i e1;subst e1;rw[ho]at hz;simp at hz;subst hz;exact jl (hr e' he')
   .exact jl (I.down z oz hz hLz e' he')
  .intro x j hx;unfold mark;by_cases hxi:x=i
   .subst hxi;rw[hw]at hx;simp at hx;subst hx;simp
   .rw[qr hxi,I.wl x j hx];constructor
    .intro r;omega
    .intro r;rcases rt j (q+1)with r'|r'
     .omega
     .have:j=q+1:=acs
      subst this;exact absurd (hP.uniq x i _ hx hw) hxi
  .intro x l h hx hLx;unfold mark at hLx;rw[qr (notI x l h hx)]at hLx;have:=I.lo x l h hx hLx;omega
  .intro x l h hx hh;exact jl (hdue ops.size x l h acs hx acs)
 unfold qI at e;unfold wpOp;rw[ho];simp only[];split at e
 .rename_i hwa;rw[hW hwa];simp only[abE];left;split at e<;>try cases e
  rename_i v h' ha;split at e<;>try cases e
  rename_i T' hT;exact LL hcl ha ⟨aeK,adZ⟩ hO (fun t v hv=>(I.all t v hv).2) I.H fun F' w' V hE hF=>hK _ w' F' (build F' w' h' V v T' hE hF hT) hun
 .rename_i hwa;rw[hW hwa];simp only[GE,abu];split at e<;>try cases e
  rename_i T' hT;exact hK _ w F (build F w st.h undef (.bD []) T' (eo.refl _ _ _) (fun s hs=>⟨I.H s hs,rfl⟩) hT) hun
 .cases e
end
variable{Q:Exit->Act->World->Prop}{P:Program}{call:Cl}{k:Nat}{o:Oper}{i:Nat}{listed:Array Bool}
theorem tn{ops:Array Oper}(h:i∈Region.ready .any ops listed) :
  listed.getD i true=false/\∃o,ops[i]?=some o/\∀e∈cX o,listed.getD e false=true:=by
 obtain⟨h1,o,ho,h2⟩:=mem_ready.1 h;refine⟨h1,o,ho,?_⟩;intro e he;obtain⟨x,hx,hb,rfl⟩:=zu.1 he
 grind
theorem Gy{ops:Array Oper}(h1:listed.getD i true=false)(ho:ops[i]?=some o)(h2:∀e∈cX o,listed.getD e false=true) :
  i∈Region.ready .any ops listed:=
 mem_ready.2 ⟨h1,o,ho,fun e he hb=>h2 e.on (zu.2 ⟨e,aba.2 he,hb,rfl⟩)⟩
theorem BD(hcl:dM P call){n:Nat}{ops:Array Oper}{pl:List PE}(hP:iz ops pl k){acM:fY}{aeg:Hp}{afd:World}{fin:St}
  (hQ:∀F' a' w',RF F' n fin.T fin.h a' w'->eo acM aeg afd F' fin.h w'->Q .normal a' w') :
  ∀(fuel:Nat) (r q:Nat) (listed:Array Bool) (st:St) (pd:eS) (a:Act) (w:World) (F:fY),q+r=k->oq P call n ops pl r q st pd=some fin ->
   mQ P ops q st pd ops.toList pl 0=true->listed.size=ops.size->left ops.size (fun j=>listed.getD j false)<=fuel ->
   Inv n ops pl acM aeg afd (q+1) q (fun j=>listed.getD j false) a w st pd F->wpAny P .any ops Q fuel listed a w:=by
 have j5:∀(listed:Array Bool),listed.size=ops.size->∀i,i<ops.size->listed.getD i true=listed.getD i false:=by intro listed hs i hi;simp[In,show i<listed.size by omega]
 have fini:∀(r q:Nat) (listed:Array Bool) (st:St) (pd:eS) (a:Act) (w:World) (F:fY),q+r=k->oq P call n ops pl r q st pd=some fin->listed.size=ops.size ->
   Inv n ops pl acM aeg afd (q+1) q (fun j=>listed.getD j false) a w st pd F->Region.ready .any ops listed=[]->Q .normal a w:=by
  intro r q listed st pd a w F hqr ht hs I hrd;have all:∀i,i<ops.size->listed.getD i false=true:=by
   intro i
   induction i using Nat.strongRecOn with
   |_ i ih=>
    intro hi;cases hx:listed.getD i false with
    |true=>rfl|false=>
     have ho:ops[i]?=some ops[i]:=by simp[hi]
     have:i∈Region.ready .any ops listed:=Gy (by rw[j5 listed hs i hi];exact hx) ho (fun e he=>ih e (hP.below i _ ho e he) (Nat.lt_trans (hP.below i _ ho e he) hi));rw[hrd]at this;cases this
  cases r with
  |succ r=>
   simp only[oq]at ht;split at ht<;>try cases ht
   rename_i o hp hf;obtain⟨i,h1,h2⟩:=nJ hf;have hi:i<ops.size:=by
    rcases rt i ops.size with r|r
    .exact r
    .rw[Do (by simpa using r)]at h1;cases h1
   have:=(I.wl i (q+1) h2).1 (all i hi);omega
  |zero=>
   simp only[oq]at ht;split at ht<;>try cases ht
   rename_i h' hp;have hthere:∀(i:Nat) (pe:PE),pl[i]?=some pe->i<ops.size:=by
    intro i pe hi;rcases rt i pl.length with r|r
    .rw[<-hP.len];exact r
    .rw[Do r]at hi;cases hi
   obtain⟨J,_⟩:=I.lay (fun p _ hd=>by obtain⟨lo,hi,h1,_⟩:=hd;exact all p.1 (hthere p.1 _ h1)) hp;have nop:∀t,¬lF ops pl (q+1) (fun j=>listed.getD j false) t:=by rintro t ⟨x,o,l,h,p1,p2,p3,p4,p5⟩;simp only[]at p4;rw[all x (hthere x _ p2)]at p4;cases p4
   obtain⟨aeI,adX⟩:=J.ne;obtain⟨aeK,adZ,_⟩:=J.free aeI adX (fun _=>(0,0));refine hQ F a w ⟨⟨aeK,adZ⟩,?_,J.H⟩ ⟨?_,J.mv⟩
   .intro s hs;exact⟨J.size,J.defers,fun t v hv=>J.tmp s hs t v hv (nop t),fun t v hv=>(J.all t v hv).2⟩
   .intro aeJ adY;obtain⟨s,h1,h2,_⟩:=J.free aeJ adY (fun _=>(0,0));exact⟨s,h1,h2⟩
 intro fuel
 induction fuel with
 |zero=>
  intro r q listed st pd a w F hqr ht hc hs hl I;have hrd:Region.ready .any ops listed=[]:=by
   cases hx:Region.ready .any ops listed with
   |nil=>rfl|cons i l=>
    exfalso;obtain⟨h1,o,ho,_⟩:=tn (i:=i) (by rw[hx];simp);have hi:i<ops.size:=by
     rcases rt i ops.size with r|r
     .exact r
     .rw[aaT r]at ho;cases ho
    have h0:left ops.size (fun j=>listed.getD j false)=0:=acs
    have h3:=nK h0 i hi;rw[j5 listed hs i hi]at h1;rw[h1]at h3;cases h3
  exact⟨hrd,fini r q listed st pd a w F hqr ht hs I hrd⟩
 |succ fuel ih=>
  intro r q listed st pd a w F hqr ht hc hs hl I;refine⟨fun hrd=>fini r q listed st pd a w F hqr ht hs I hrd,?_⟩;intro i hi;obtain⟨h1,o,ho,h2⟩:=tn hi;have aR:i<ops.size:=by
   rcases rt i ops.size with r|r
   .exact r
   .rw[aaT r]at ho;cases ho
  rw[j5 listed hs i aR]at h1;have hL:(fun j=>(listed.setIfInBounds i true).getD j false)=mark (fun j=>listed.getD j false) i:=by
   funext j;unfold mark;by_cases hj:j=i
   .subst hj;simp[In,Id,show j<listed.size by omega]
   .rw[qr hj];exact getD_set_ne false (fun r=>hj r.symm)
  have hsz:(listed.setIfInBounds i true).size=ops.size:=by simp[hs]
  have hleft:left ops.size (fun j=>(listed.setIfInBounds i true).getD j false)<=fuel:=by rw[hL];have:=ql (L:=fun j=>listed.getD j false) (i:=i) h1 ops.size;rw[ut aR]at this;omega
  obtain⟨pe,hpe⟩:∃pe,pl[i]?=some pe:=⟨pl[i]'(by rw[hP.len];exact aR),by simp[hP.len,aR]⟩;cases pe with
  |p l h=>obtain⟨hlq,hqh⟩:=I.vE hP ho h2 h1 hpe;have hck:=QI hc i o l h (by simpa using ho) hpe hlq hqh;refine I.step hP ho h2 h1 hpe (by simpa using hck) ?_;intro a' w' F' I';exact ih r q _ st pd a' w' F' hqr ht hc hsz hleft (by rw[hL];exact I')
  |w j=>
   have hj:j=q+1:=by
    obtain⟨w1,w2,w3⟩:=hP.w i o j ho hpe;have hn:¬j<=q:=fun r=>by have:=(I.wl i j hpe).2 r;rw[h1]at this;cases this
    rcases w3 with r|⟨e,pe,g1,g2,g3⟩
    .omega
    .have hLe:=h2 e g1;cases pe with|w j'=>have:=(I.wl e j' g2).1 hLe;simp only[PE.num]at g3;omega|p l' h'=>have:=I.lo e l' h' g2 hLe;simp only[PE.num]at g3;omega
   subst hj;have hk:=(hP.w i o (q+1) ho hpe).2.1;obtain⟨r,rfl⟩:∃r',r=r'+1:=⟨r-1,acs⟩;simp only[oq]at ht;split at ht<;>try cases ht
   rename_i pd' h' o' hpm hf;have hoo:o'=o:=by
    obtain⟨i',g1,g2⟩:=nJ hf;have:=hP.uniq i' i _ g2 hpe;subst this;have g1:ops[i']?=some o':=by simpa using g1
    rw[ho]at g1;simpa using g1.symm
   subst hoo;split at ht<;>try cases ht
   rename_i aeF hst;split at ht<;>try cases ht
   rename_i aeG aeA hex;split at ht<;>try cases ht
   rename_i hck;have hthere:∀(i:Nat) (pe:PE),pl[i]?=some pe->i<ops.size:=by
    intro i pe hi;rcases rt i pl.length with r|r
    .rw[<-hP.len];exact r
    .rw[Do r]at hi;cases hi
   obtain⟨J,hgt⟩:=I.lay (fun p _ hd=>by obtain⟨lo,hi,g1,g2⟩:=hd;exact I.due hP ho h2 hpe ops.size p.1 lo hi acs g1 g2) hpm;refine J.write hcl hP ho h2 hpe hst hgt ?_;intro a' w' F' I' hun;have I'':=I'.enter hun hex;exact ih r (q+1) _ aeG aeA a' w' _ acs ht hck hsz hleft (by rw[hL];exact I'')
theorem Yb(hm:P.follows .mixedOrders=true):vJ P (Cr P):=by
 intro call hcl n id ops st st' e F a w R Q hQ;unfold Cr at e;split at e<;>try cases e
 rename_i k hk;have hP:=th hk;split at e<;>try cases e
 rename_i aeF aez hex;split at e<;>try cases e
 rename_i hck;refine wp_region_any hm ?_;obtain⟨aeK,adZ⟩:=R.ne;have acZ:=R.T aeK adZ;have hgetD:∀j,(Array.replicate ops.size false).getD j false=false:=by intro j;simp only[In,Array.getElem?_replicate];split<;>rfl
 have I:Inv n ops (jv ops.toList) F st.h w 0 0 (fun j=>(Array.replicate ops.size false).getD j false) a { w with drawn:=w.drawn+1 } st [] F:=by
  refine⟨R.ne,acZ.size,acZ.defers,?_,?_,?_,?_,fun s hs=>(R.H s hs).drew _,ol _,?_,?_,?_,?_,?_,?_,?_,?_,?_⟩
  .intro aeI adX g;exact⟨aeI,adX,Ext.drew _ _ _ _,fun p hp=>by cases hp⟩
  .intro s hs;exact⟨s,hs,Ext.drew _ _ _ _⟩
  .intro s hs t v hv _;exact(R.T s hs).get t v hv
  .intro t v hv;have:=acZ.get t v hv;refine⟨?_,acZ.ws t v hv⟩;rcases rt t n with r|r
   .exact r
   .rw[aaT (by rw[acZ.size];exact r)]at this;cases this
  .intro p hp;cases hp
  .intro p hp;cases hp
  .intro p hp;cases hp
  .intro p hp;cases hp
  .intro p hp;cases hp
  .intro z o hz hL;rw[hgetD]at hL;cases hL
  .intro i j hj;simp only[hgetD];have hlt:i<ops.size:=by
    rcases rt i (jv ops.toList).length with r|r
    .rw[<-hP.len];exact r
    grind
   have:=(hP.w i ops[i] j (by simp[hlt]) hj).1
   grind
  .intro i l h _ hL;rw[hgetD]at hL;cases hL
  .intro i l h _ hh;omega
 have I':=I.enter (fun i l h _ _=>hgetD i) hex;refine BD hcl hP hQ ops.size k 0 _ aeF aez a _ _ acs e hck acv ?_ I';have:∀m (L:Nat->Bool),left m L<=m:=by
  intro m L
  induction m with|zero=>simp[left]|succ m ih=>simp only[left];split<;>omega
 exact this _ _
end Go.Proofs.Ytbbhihkocghhaaa.Ev
end
section
namespace Go.Proofs.Ytbbhihkocghhaaa.V
open Go Go.RowKit
open Go.Proofs.Ytbbhihkocghhaaa.Ev (Tr Tr.bE nth bW PE iz pg jv th cX looks tmpsOf tm ke nG gU mH ku nJ left ql nK cz gb jl lG tn Gy)
def lF(ops:Array Oper)(pl:List PE)(q:Nat)(L:Nat->Bool)(t:Tmp):Prop:=∃(x:Nat) (o:Oper) (lo hi:Nat),ops[x]?=some o/\pl[x]?=some (.p lo hi)/\lo<=q/\L x=false/\o.dst=some t
structure Inv(P:Program)(sh:TypeId->Option Sh)(n:Nat)(ops:Array Oper)(pl:List PE)(X₀:Cx)(q:Nat)(L:Nat->Bool)(X:Cx)(a:Act)(st:St):Prop where
 size:a.tmps.size=n
 defers:a.defers=[]
 hX:X.h=st.h
 H:ab X
 E:aB X₀ X
 tmp:∀t v,st.T.get t=some v->¬lF ops pl q L t->∃V,a.tmps[t]?=some V/\Rel X v V
 now:∀(i:Nat) (o:Oper) (lo hi:Nat),ops[i]?=some o->pl[i]?=some (.p lo hi)->lo<=q->q<=hi->L i=false->∃v,PN P sh ops X₀.h.next st.T st.h o v/\∀t,o.dst=some t->st.T.get t=some v
 lB:∀(i:Nat) (o:Oper) (lo hi:Nat) (t:Tmp) (v:AV) (id:Nat),ops[i]?=some o->pl[i]?=some (.p lo hi)->lo<=q->L i=false->ef o.op=true->o.dst=some t->st.T.get t=some v->jf v=some id ->
  X.s id=none/\id<st.h.next/\X₀.h.next<=id
 jH:∀(i j:Nat) (o o':Oper) (lo hi lo' hi':Nat) (t t':Tmp) (v v':AV) (id:Nat),ops[i]?=some o->ops[j]?=some o'->pl[i]?=some (.p lo hi)->pl[j]?=some (.p lo' hi')->lo<=q->lo'<=q->L i=false->L j=false ->
  ef o.op=true->ef o'.op=true->o.dst=some t->o'.dst=some t'->st.T.get t=some v->st.T.get t'=some v'->jf v=some id->jf v'=some id->i=j
 down:∀(z:Nat) (o:Oper),ops[z]?=some o->L z=true->∀e∈cX o,L e=true
 wl:∀(i j:Nat),pl[i]?=some (.w j)->(L i=true↔j<=q)
 lo:∀(i l h:Nat),pl[i]?=some (.p l h)->L i=true->l<=q
 hi:∀(i l h:Nat),pl[i]?=some (.p l h)->h<q->L i=true
theorem XZ{X:Cx}(H:ab X){h':Hp}(hn:X.h.next<=h'.next)(old:∀id,id<X.h.next->h'.tr.get id=X.h.tr.get id)(w:wf h'):aB X ⟨X.s,h',X.w,X.A⟩/\ab ⟨X.s,h',X.w,X.A⟩:=by
 have E:aB X ⟨X.s,h',X.w,X.A⟩:=by
  refine⟨rfl,rfl,rfl,ol _,fun _ _ h=>h,fun _ _ _ h=>h,hn,fun _ _ _=>rfl,?_,?_,fun i hi _=>old i hi,rfl⟩
  .rintro b ⟨i,o,c,h1,h2,h3⟩
   replace h1:h'.tr.get i=some o:=h1
   rw[old i (H.cr i _ h2)]at h1;exact .inl ⟨i,o,c,h1,h2,h3⟩
  .intro j n hj h;rw[<-OY (old j hj)];exact h
 refine⟨E,⟨?_,?_,w,?_,H.alt,?_⟩⟩
 .intro i o l h1 h2
  replace h1:h'.tr.get i=some o:=h1
  rw[old i (H.cr i _ h2)]at h1;exact(H.obj i o l h1 h2).ext (E.dw H) (fun _ _=>rfl)
 .intro i j o o' b c c' h1 h2 h3 h4
  replace h1:h'.tr.get i=some o:=h1
  replace h2:h'.tr.get j=some o':=h2
  rw[old i (H.cr i _ h3)]at h1;rw[old j (H.cr j _ h4)]at h2;exact H.inj i j o o' b c c' h1 h2 h3 h4
 .intro i l h;exact rg (H.cr i l h) hn
 .intro i o b c h1 h2
  replace h1:h'.tr.get i=some o:=h1
  rw[old i (H.cr i _ h2)]at h1;exact H.loc i o b c h1 h2
section
variable{P:Program}{sh:TypeId->Option Sh}{n:Nat}{ops:Array Oper}{pl:List PE}{X₀:Cx}{q:Nat}{L:Nat->Bool}{X:Cx}{a:Act}{st:St}
theorem Inv.oI{k:Nat}(I:Inv P sh n ops pl X₀ q L X a st)(hP:iz ops pl k){i:Nat}{o:Oper}(ho:ops[i]?=some o)(hr:∀e∈cX o,L e=true){t:Tmp}(ht:t∈looks ops.toList o):¬lF ops pl q L t:=by rintro⟨x,ox,l,h,p1,p2,p3,p4,p5⟩;have:=hr x (hP.fresh i o ho t ht x ox l h p1 p2 p5);rw[p4]at this;cases this
theorem Inv.vE{k:Nat}(I:Inv P sh n ops pl X₀ q L X a st)(hP:iz ops pl k){i:Nat}{o:Oper}(ho:ops[i]?=some o)(hr:∀e∈cX o,L e=true)(hL:L i=false){l h:Nat}(hp:pl[i]?=some (.p l h)):l<=q/\q<=h:=by
 constructor
 .rcases hP.lo i o l h ho hp with r|⟨e,pe,h1,h2,h3⟩
  .omega
  .have hLe:=hr e h1;cases pe with|w j=>have:=(I.wl e j h2).1 hLe;simp only[PE.num]at h3;omega|p l' h'=>have:=I.lo e l' h' h2 hLe;simp only[PE.num]at h3;omega
 .rcases rt h q with r|r
  .have:=I.hi i l h hp r;rw[hL]at this;cases this
  .exact r
theorem Inv.due{k:Nat}(I:Inv P sh n ops pl X₀ q L X a st)(hP:iz ops pl k){i:Nat}{o:Oper}(ho:ops[i]?=some o)(hr:∀e∈cX o,L e=true)
  (hw:pl[i]?=some (.w (q+1))):∀d (x l h:Nat),ops.size<=x+d->pl[x]?=some (.p l h)->h<=q->L x=true:=by
 have hk:q+1<=k:=(hP.w i o (q+1) ho hw).2.1;intro d
 induction d with
 |zero=>intro x l h hx hp _;have:=iu hp;rw[hP.len]at this;omega|succ d ih=>
  intro x l h hx hp hh;rcases hP.hi x l h hp with r|⟨z,oz,pe,h1,h2,h3,h4⟩
  .omega
  .have hxz:=hP.below z oz h1 x h3;have hz:L z=true\/z=i:=by
    rcases h4 with⟨j,rfl,hj⟩|⟨l',h',rfl,hh'⟩
    .rcases rt q j with r|r
     .have:j=q+1:=acs
      subst this;exact .inr (hP.uniq z i _ h2 hw)
     .exact .inl ((I.wl z j h2).2 r)
    grind
   rcases hz with hz|rfl
   .exact I.down z oz h1 hz x h3
   grind
theorem Inv.qQ{X':Cx}{i:Nat}{o:Oper}{l h:Nat}{V:Value}(I:Inv P sh n ops pl X₀ q L X a st)(hN:∀t,o.dst=some t->t<n)(ho:ops[i]?=some o)(hr:∀e∈cX o,L e=true)(hp:pl[i]?=some (.p l h))(hl:l<=q)
  (hX:X'.h=st.h) (H:ab X') (E:aB X₀ X') (Ex:fp X X') (hV:∀t,o.dst=some t->∃v,st.T.get t=some v/\Rel X' v V)
  (hs:∀(j:Nat) (o':Oper) (lo hi:Nat) (t:Tmp) (v:AV) (id:Nat),ops[j]?=some o'->pl[j]?=some (.p lo hi)->lo<=q->Ev.mark L i j=false->ef o'.op=true->o'.dst=some t->st.T.get t=some v->jf v=some id->X'.s id=none) :
  Inv P sh n ops pl X₀ q (Ev.mark L i) X' (a.put o.dst V) st:=by
 have nw:∀j,pl[i]?≠some (.w j):=fun j r=>by rw[hp]at r;cases r
 refine⟨?_,?_,hX,H,E,?_,?_,?_,?_,?_,?_,?_,?_⟩
 .cases hd:o.dst<;>simp[Act.put,I.size]
 .cases hd:o.dst<;>simp[Act.put,I.defers]
 .intro t v hv hn;by_cases hd:o.dst=some t
  .obtain⟨v',h1,h2⟩:=hV t hd;rw[hv]at h1;cases h1;have r:t<a.tmps.size:=by rw[I.size];exact hN t hd
   exact⟨V,by rw[hd];simp[Act.put,r],h2⟩
  .obtain⟨V',h1,h2⟩:=I.tmp t v hv (by
    rintro⟨x,ox,lo,hi,p1,p2,p3,p4,p5⟩;by_cases hxi:x=i
    .subst hxi;rw[ho]at p1;cases p1;exact hd p5
    .exact hn ⟨x,ox,lo,hi,p1,p2,p3,by unfold Ev.mark;rw[qr hxi];exact p4,p5⟩)
   refine⟨V',?_,h2.ext Ex⟩;cases hdd:o.dst with
   |none=>simpa[Act.put]using h1|some t'=>
    simp only[Act.put,Id]
    grind
 .intro j o' lo hi h1 h2 h3 h4 h5;exact I.now j o' lo hi h1 h2 h3 h4 (lG h5).1
 .intro j o' lo hi t v id h1 h2 h3 h4 h5 h6 h7 h8;obtain⟨_,q2,q3⟩:=I.lB j o' lo hi t v id h1 h2 h3 (lG h4).1 h5 h6 h7 h8
  grind
 .intro x y aex aey lo hi lo' hi' t t' v v' id a1 a2 a3 a4 a5 a6 a7 a8;exact I.jH x y aex aey lo hi lo' hi' t t' v v' id a1 a2 a3 a4 a5 a6 (lG a7).1 (lG a8).1
 .intro z oz hz hL e he;by_cases hzi:z=i
  .subst hzi;rw[ho]at hz;cases hz;exact jl (hr e he)
  .unfold Ev.mark at hL;rw[qr hzi]at hL;exact jl (I.down z oz hz hL e he)
 .intro x j hx;have:x≠i:=by rintro rfl;exact nw j hx
  unfold Ev.mark;rw[qr this];exact I.wl x j hx
 .intro x l' h' hx hL;by_cases hxi:x=i
  .subst hxi;rw[hp]at hx;cases hx;exact hl
  .unfold Ev.mark at hL;rw[qr hxi]at hL;exact I.lo x l' h' hx hL
 .intro x l' h' hx hh;exact jl (I.hi x l' h' hx hh)
theorem Inv.step{k:Nat}(I:Inv P sh n ops pl X₀ q L X a st)(hP:iz ops pl k)(hM:∀(x:Nat) (o:Oper) (lo hi:Nat),ops[x]?=some o->pl[x]?=some (.p lo hi)->ef o.op=true->∃t,o.dst=some t){i:Nat}{o:Oper}(hN:∀t,o.dst=some t->t<n)
  (ho:ops[i]?=some o) (hr:∀e∈cX o,L e=true) (hL:L i=false) {l h:Nat}(hp:pl[i]?=some (.p l h)) {K:Act->World->Prop}{Q:Exit->Act->World->Prop}
  (hK:∀X' a',Inv P sh n ops pl X₀ q (Ev.mark L i) X' a' st->K a' X'.w):wpOp P ops Q i K a X.w:=by
 obtain⟨hlq,hqh⟩:=I.vE hP ho hr hL hp;obtain⟨v,pn,hdst⟩:=I.now i o l h ho hp hlq hqh hL;have look:∀t∈looks ops.toList o,∀v,st.T.get t=some v->∃V,a.tmps[t]?=some V/\Rel X v V:=fun t ht v hv=>I.tmp t v hv (I.oI hP ho hr ht);have opnd:fA X st.T a o.op:=o9 fun t ht u hu=>look t (ke ht) u hu;have aH:∀(j:Nat) (o':Oper) (lo hi:Nat) (t:Tmp) (v:AV) (id:Nat),ops[j]?=some o'->pl[j]?=some (.p lo hi)->lo<=q->Ev.mark L i j=false->ef o'.op=true->o'.dst=some t->st.T.get t=some v->jf v=some id->X.s id=none:=fun j o' lo hi t v id h1 h2 h3 h4 h5 h6 h7 h8=>(I.lB j o' lo hi t v id h1 h2 h3 (lG h4).1 h5 h6 h7 h8).1;unfold wpOp;rw[ho];simp only[];rcases pn with⟨hw,rfl⟩|⟨hw,hmk,hrd⟩|⟨hw,hmk,id,ob,ha,hid,hlt,hge⟩
 .rw[GP hw look];simp only[GE,abu];exact hK X _ (I.qQ hN ho hr hp hlq I.hX I.H I.E (fp.refl X) (fun t ht=>⟨_,hdst t ht,[],rfl,rfl⟩) aH)
 .rw[GP hw look];simp only[abE];left;rw[<-I.hX]at hrd;obtain⟨V,hrun,hR⟩:=oP I.H hrd rfl opnd;unfold Oper.wp;rw[hrun];exact hK X _ (I.qQ hN ho hr hp hlq I.hX I.H I.E (fp.refl X) (fun t ht=>⟨_,hdst t ht,hR⟩) aH)
 .rw[GP hw look];simp only[abE];left;obtain⟨td,htd⟩:=hM i o l h ho hp hmk;have hidv:=(zA ha).2;simp only at hidv;obtain⟨sn,_,_⟩:=I.lB i o l h td v id ho hp hlq hL hmk htd (hdst td htd) hidv;rw[<-I.hX]at ha hid hlt;obtain⟨c,ob',V,hrun,hm⟩:=tO I.H ha rfl opnd;have Ex:=fp.real (c:=c) (ob:=ob') I.H sn;have M:Made X ⟨aQ X.s id (.at X.w.heap.size c),X.h,{ X.w with heap:=X.w.heap.push ob' },X.A⟩ id c ob ob':=⟨Ex,rfl,cE _ _ _,hid⟩;obtain⟨m1,m2⟩:=hm _ M;have H':=I.H.real (c:=c) (ob:=ob') sn hlt (fun o' h'=>by rw[hid]at h';cases h';exact m1);have E':aB X₀ ⟨aQ X.s id (.at X.w.heap.size c),X.h,{ X.w with heap:=X.w.heap.push ob' },X.A⟩:=by
   have E:=I.E;refine⟨E.os,E.tape,E.output,by have:=E.size;simp;omega,?_,?_,E.next,?_,?_,E.len,E.same,E.A⟩
   .intro j l' hj;have:=E.sg j l' hj;show aQ X.s id _ j=_;rw[cI _ _ _ (by grind)];exact this
   .intro j l' hj h'
    replace h':aQ X.s id _ j=some l':=h'
    rw[cI _ _ _ acs]at h';exact E.cr j l' hj h'
   .intro b hb hn;have:=E.size;show(X.w.heap.push ob')[b]?=_;rw[abA,qr acs];exact E.frame b hb hn
   .rintro b ⟨j,aex,adq,h1,h2⟩;obtain⟨h2,h3⟩:=h2
    replace h2:aQ X.s id (.at X.w.heap.size c) j=some adq:=h2
    by_cases hj:j=id
    .subst hj;rw[cE]at h2;cases h2;right;have:=E.size;have:b=X.w.heap.size:=h3;omega
    .rw[cI _ _ _ hj]at h2;exact E.bz b ⟨j,aex,adq,h1,h2,h3⟩
  unfold Oper.wp;rw[hrun];refine hK ⟨aQ X.s id (.at X.w.heap.size c),X.h,{ X.w with heap:=X.w.heap.push ob' },X.A⟩ _ (Inv.qQ (X':=⟨aQ X.s id (.at X.w.heap.size c),X.h,{ X.w with heap:=X.w.heap.push ob' },X.A⟩) I hN ho hr hp hlq I.hX H' E' Ex (fun t ht=>⟨_,hdst t ht,m2⟩) ?_);intro j o' lo hi t v' id' h1 h2 h3 h4 h5 h6 h7 h8;obtain⟨hLj,hji⟩:=lG h4;have s':=(I.lB j o' lo hi t v' id' h1 h2 h3 hLj h5 h6 h7 h8).1;show aQ X.s id _ id'=none;rw[cI _ _ _ ?_]
  .exact s'
  .rintro rfl;exact hji (I.jH j i o' o lo hi l h t td v' v id' h1 ho h2 hp h3 hlq hLj hL h5 hmk h6 htd h7 (hdst td htd) h8 hidv)
theorem Inv.enter{st':St}{h₁:Hp}(hsz:a.tmps.size=n)(hdf:a.defers=[])(hX:X.h=h₁)(H:ab X)(E:aB X₀ X){T₁:Tr AV}(S:sU P sh ops q ops.toList pl ⟨T₁,h₁⟩ st')
  (tmp:∀t v,T₁.get t=some v->(∀(x:Nat) (o:Oper) (hi:Nat),ops[x]?=some o->pl[x]?=some (.p q hi)->o.dst≠some t)->¬lF ops pl q L t->∃V,a.tmps[t]?=some V/\Rel X v V)
  (now:∀(i:Nat) (o:Oper) (lo hi:Nat),ops[i]?=some o->pl[i]?=some (.p lo hi)->lo<q->q<=hi->L i=false->∃v,PN P sh ops X₀.h.next st'.T st'.h o v/\∀t,o.dst=some t->st'.T.get t=some v)
  (lB:∀(i:Nat) (o:Oper) (lo hi:Nat) (t:Tmp) (v:AV) (id:Nat),ops[i]?=some o->pl[i]?=some (.p lo hi)->lo<q->L i=false->ef o.op=true->o.dst=some t->st'.T.get t=some v->jf v=some id ->
   X.s id=none/\id<h₁.next/\X₀.h.next<=id)
  (jH:∀(i j:Nat) (o o':Oper) (lo hi lo' hi':Nat) (t t':Tmp) (v v':AV) (id:Nat),ops[i]?=some o->ops[j]?=some o'->pl[i]?=some (.p lo hi)->pl[j]?=some (.p lo' hi')->lo<q->lo'<q->L i=false->L j=false ->
   ef o.op=true->ef o'.op=true->o.dst=some t->o'.dst=some t'->st'.T.get t=some v->st'.T.get t'=some v'->jf v=some id->jf v'=some id->i=j)
  (hun:∀(i hi:Nat),pl[i]?=some (.p q hi)->L i=false)
  (down:∀(z:Nat) (o:Oper),ops[z]?=some o->L z=true->∀e∈cX o,L e=true) (wl:∀(i j:Nat),pl[i]?=some (.w j)->(L i=true↔j<=q)) (lo:∀(i l h:Nat),pl[i]?=some (.p l h)->L i=true->l<=q)
  (hi:∀(i l h:Nat),pl[i]?=some (.p l h)->h<q->L i=true):Inv P sh n ops pl X₀ q L ⟨X.s,st'.h,X.w,X.A⟩ a st':=by
 subst hX;obtain⟨G,H'⟩:=XZ H S.next S.old S.wf;have new:∀(i:Nat) (o:Oper) (hi:Nat) (t:Tmp) (v:AV) (id:Nat),ops[i]?=some o->pl[i]?=some (.p q hi)->ef o.op=true->o.dst=some t->st'.T.get t=some v->jf v=some id->id<st'.h.next/\X.h.next<=id:=by intro i o hi t v id h1 h2 h3 h4 h5 h6;obtain⟨u,p1,p2⟩:=S.done i o hi (by simpa using h1) h2;rw[p2 t h4]at h5;cases h5;exact p1.ids h3 h6
 refine⟨hsz,hdf,rfl,H',E.trans G,?_,?_,?_,?_,down,wl,lo,hi⟩
 .intro t v hv hn;have hne:∀(x:Nat) (o:Oper) (hi:Nat),ops[x]?=some o->pl[x]?=some (.p q hi)->o.dst≠some t:=fun x o hi h1 h2 h3=>hn ⟨x,o,q,hi,h1,h2,ol _,hun x hi h2,h3⟩;rw[S.same t (fun x o hi h1 h2=>hne x o hi (by simpa using h1) h2)]at hv;obtain⟨V,h1,h2⟩:=tmp t v hv hne hn;exact⟨V,h1,h2.ext (G.dw H)⟩
 .intro i o lo' hi' h1 h2 h3 h4 h5;rcases rt lo' q with r|r
  .exact now i o lo' hi' h1 h2 r h4 h5
  .have:lo'=q:=acs
   subst this;obtain⟨v,p1,p2⟩:=S.done i o hi' (by simpa using h1) h2;exact⟨v,p1.congr (fun _ _=>rfl) (dF.refl _) (ol _) E.next,p2⟩
 .intro i o lo' hi' t v id h1 h2 h3 h4 h5 h6 h7 h8;rcases rt lo' q with r|r
  .obtain⟨p1,p2,p3⟩:=lB i o lo' hi' t v id h1 h2 r h4 h5 h6 h7 h8;exact⟨p1,rg p2 S.next,p3⟩
  .have:lo'=q:=acs
   subst this;obtain⟨p1,p2⟩:=new i o hi' t v id h1 h2 h5 h6 h7 h8;refine⟨?_,p1,pp E.next p2⟩;show X.s id=none;cases hq:X.s id with|none=>rfl|some l=>have:=H.cr id l hq;omega
 .intro i j o o' aen adM aeo adN t t' v v' id a1 a2 a3 a4 a5 a6 a7 a8 a9 a10 a11 a12 a13 a14 a15 a16;rcases rt aen q with r|r<;>rcases rt aeo q with r'|r'
  .exact jH i j o o' aen adM aeo adN t t' v v' id a1 a2 a3 a4 r r' a7 a8 a9 a10 a11 a12 a13 a14 a15 a16
  .have:aeo=q:=acs
   subst this;have p1:=(lB i o aen adM t v id a1 a3 r a7 a9 a11 a13 a15).2.1;have p2:=(new j o' adN t' v' id a2 a4 a10 a12 a14 a16).2;omega
  .have:aen=q:=acs
   subst this;have p1:=(lB j o' aeo adN t' v' id a2 a4 r' a8 a10 a12 a14 a16).2.1;have p2:=(new i o adM t v id a1 a3 a9 a11 a13 a15).2;omega
  .have e1:aen=q:=acs
   have e2:aeo=q:=acs
   subst e1;subst e2;exact S.uniq i j o o' adM adN t t' v v' id (by simpa using a1) (by simpa using a2) a3 a4 a9 a10 a11 a12 a13 a14 a15 a16
end
variable{Q:Exit->Act->World->Prop}{K:Act->World->Prop}{k:Nat}{o:Oper}{i:Nat}
theorem XT(L:Nat->Bool)(i:Nat):Ev.mark L i i=true:=by unfold Ev.mark;simp
theorem mL(L:Nat->Bool){j:Nat}(h:j≠i):Ev.mark L i j=L j:=by unfold Ev.mark;rw[qr h]
section
variable{P:Program}{sh:TypeId->Option Sh}{n:Nat}{ops:Array Oper}{pl:List PE}{X₀:Cx}{q:Nat}{L:Nat->Bool}{X:Cx}{a:Act}{st:St}
theorem Inv.write(I:Inv P sh n ops pl X₀ q L X a st)(hP:iz ops pl k)(hM:∀(x:Nat) (o:Oper) (lo hi:Nat),ops[x]?=some o->pl[x]?=some (.p lo hi)->ef o.op=true->∃t,o.dst=some t)
  (hD:∀(x y:Nat) (o o':Oper) (t:Tmp),ops[x]?=some o->ops[y]?=some o'->o.dst=some t->o'.dst=some t->x=y)
  (ho:ops[i]?=some o) (hr:∀e∈cX o,L e=true) (hL:L i=false) (hp:pl[i]?=some (.w (q+1)))
  {ch:Bool}{aeF aeG:St}{b:Bool}{T:Tr AV}{v:AV}(hch:ch=false->dF st.h aeF.h) (W:vV ops st.T o b T) (hT:cW n T o.dst v=some aeF.T)
  (hA:(b=true/\vh P T st.h o v aeF.h)\/(b=false/\v=.bD []/\aeF.h=st.h)) (hS:wf aeF.h->sU P sh ops (q+1) ops.toList pl aeF aeG)
  (hC:xV P ops (q+1) ch (dl o.dst++nU (q+1) ops.toList pl) aeG ops.toList pl) 
  (hK:∀X' a',Inv P sh n ops pl X₀ (q+1) (Ev.mark L i) X' a' aeG->K a' X'.w):wpOp P ops Q i K a X.w:=by
 have look:∀t∈looks ops.toList o,∀v,st.T.get t=some v->∃V,a.tmps[t]?=some V/\Rel X v V:=fun t ht v hv=>I.tmp t v hv (I.oI hP ho hr ht);have opnd:fA X T a o.op:=o9 fun t ht u hu=>look t (ke ht) u (W.get t u hu);have Tget:∀t,T.get t=st.T.get t:=by intro t;cases h:T.get t with|some u=>rw[W.get t u h]|none=>cases h':st.T.get t with|none=>rfl|some u=>rw[W.get' t u h']at h;cases h
 have hg:=jN hT;have fin:∀X' V,aB X X'->ab X'->X'.h=aeF.h->Rel X' v V->K (a.put o.dst V) X'.w:=by
  intro X' V E H' hh hv;have S:=hS (by rw[<-hh];exact H'.lt);have done:∀(x l h:Nat),pl[x]?=some (.p l h)->h<=q->L x=true:=fun x l h h1 h2=>I.due hP ho hr hp ops.size x l h acs h1 h2;have xi:∀{x l h:Nat},pl[x]?=some (.p l h)->x≠i:=by rintro x l h h1 rfl;rw[hp]at h1;cases h1
  have T2:∀(x:Nat) (ox:Oper) (lo hi:Nat) (t:Tmp),ops[x]?=some ox->pl[x]?=some (.p lo hi)->lo<=q->ox.dst=some t->aeG.T.get t=st.T.get t:=by intro x ox lo hi t h1 h2 h3 h4;rw[S.same t (fun y oy hi' g1 g2 g3=>by have:=hD x y ox oy t h1 (by simpa using g1) h4 g3;subst this;rw[h2]at g2;cases g2;omega),hg t,qr (fun r=>xi h2 (hD x i ox o t h1 ho h4 r)),Tget t]
  have E':=I.E.trans E;refine hK ⟨X'.s,aeG.h,X'.w,X'.A⟩ _ (Inv.enter (X:=X') (h₁:=aeF.h) (T₁:=aeF.T) ?_ ?_ hh H' E' S ?_ ?_ ?_ ?_ ?_ ?_ ?_ ?_ ?_)
  .cases hd:o.dst<;>simp[Act.put,I.size]
  .cases hd:o.dst<;>simp[Act.put,I.defers]
  .intro t u hu hne hn;rw[hg t]at hu;by_cases hd:o.dst=some t
   .rw[ut hd]at hu;cases hu;have hlt:t<a.tmps.size:=by rw[I.size];rw[hd]at hT;exact BK hT
    exact⟨V,by rw[hd];simp[Act.put,hlt],hv⟩
   .rw[qr hd,Tget t]at hu;obtain⟨V',h1,h2⟩:=I.tmp t u hu (by rintro⟨x,ox,lo,hi,p1,p2,p3,p4,p5⟩;exact hn ⟨x,ox,lo,hi,p1,p2,acs,by rw[mL L (xi p2)];exact p4,p5⟩);refine⟨V',?_,h2.ext (E.dw I.H)⟩;cases hdd:o.dst with|none=>simpa[Act.put]using h1|some t'=>simp only[Act.put,Id];rw[qr (fun r=>hd (by rw[hdd,r]))];exact h1
  .intro x ox lo hi h1 h2 h3 h4 h5;rw[mL L (xi h2)]at h5;obtain⟨u,pn,hdu⟩:=I.now x ox lo hi h1 h2 acs acs h5;obtain⟨c1,c2⟩:=hC x ox lo hi (by simpa using h1) h2 h3 h4;have hdst:∀t,ox.dst=some t->aeG.T.get t=some u:=fun t ht=>by rw[T2 x ox lo hi t h1 h2 acs ht];exact hdu t ht
   have lk:∀t∈looks ops.toList ox,aeG.T.get t=st.T.get t:=by intro t ht;have hnot:=c1 t ht;rw[S.same t (fun y oy hi' g1 g2 g3=>hnot (AC.2 (.inr (QC g1 g2 g3)))),hg t,qr (fun r=>hnot (AC.2 (.inl (by rw[r];simp[dl])))),Tget t]
   have hw:=tj (ops:=ops) (T:=st.T) (T':=aeG.T) lk;rcases pn with⟨w1,rfl⟩|⟨w1,m1,r1⟩|⟨w1,m1,id,ob,ha,hid,hlt,hge⟩
   .exact⟨.bD [],.inl ⟨hw.trans w1,rfl⟩,hdst⟩
   .cases hc:ch with
    |false=>have hle:dF st.h aeG.h:=(hch hc).trans (fun b' o' q'=>by rw[S.old b' (by rw[<-hh]at q' |-;exact H'.lt b' o' q')];exact q');exact⟨u,.inr (.inl ⟨hw.trans w1,m1,Ho hle r1 (fun t ht=>lk t (ke ht))⟩),hdst⟩|true=>
     rcases c2 hc m1 with g|⟨g,u',r2,d2⟩
     .rw[hw,w1]at g;cases g
     .exact⟨u',.inr (.inl ⟨g,m1,r2⟩),d2⟩
   .obtain⟨td,htd⟩:=hM x ox lo hi h1 h2 m1;have hidv:=(zA ha).2;simp only at hidv;obtain⟨sn,hlt',_⟩:=I.lB x ox lo hi td u id h1 h2 acs h5 m1 htd (hdu td htd) hidv;have hob:aeG.h.tr.get id=some ob:=by have e1:=E.same id (by rw[I.hX];exact hlt') sn;rw[hh,I.hX,hid]at e1;have e2:=S.old id (by rw[<-hh]at e1 |-;exact H'.lt id ob e1);rw[e2];exact e1
    refine⟨u,.inr (.inr ⟨hw.trans w1,m1,id,ob,Hs ha (fun t ht=>lk t (ke ht)),hob,S.wf id ob hob,hge⟩),hdst⟩
  .intro x ox lo hi t u id h1 h2 h3 h4 h5 h6 h7 h8;rw[mL L (xi h2)]at h4;rw[T2 x ox lo hi t h1 h2 acs h6]at h7;obtain⟨p1,p2,p3⟩:=I.lB x ox lo hi t u id h1 h2 acs h4 h5 h6 h7 h8;refine⟨?_,?_,p3⟩
   .cases hq:X'.s id with|none=>rfl|some l=>have:=E.cr id l (by rw[I.hX];exact p2) hq;rw[p1]at this;cases this
   .have:=E.next;rw[hh,I.hX]at this;omega
  .intro x y ox oy aen adM aeo adN t t' u u' id a1 a2 a3 a4 a5 a6 a7 a8 a9 a10 a11 a12 a13 a14 a15 a16;rw[mL L (xi a3)]at a7;rw[mL L (xi a4)]at a8;rw[T2 x ox aen adM t a1 a3 acs a11]at a13;rw[T2 y oy aeo adN t' a2 a4 acs a12]at a14;exact I.jH x y ox oy aen adM aeo adN t t' u u' id a1 a2 a3 a4 acs acs a7 a8 a9 a10 a11 a12 a13 a14 a15 a16
  .intro x hi hx;rw[mL L (xi hx)];cases hq:L x with|false=>rfl|true=>have:=I.lo x (q+1) hi hx hq;omega
  .intro z oz hz hLz e he;by_cases hzi:z=i
   .subst hzi;rw[ho]at hz;cases hz;exact jl (hr e he)
   .rw[mL L hzi]at hLz;exact jl (I.down z oz hz hLz e he)
  .intro x j hx;by_cases hxi:x=i
   .subst hxi;rw[hp]at hx;cases hx;rw[XT];exact⟨fun _=>ol _,fun _=>rfl⟩
   .rw[mL L hxi,I.wl x j hx];constructor
    .intro r;omega
    .intro r;rcases rt q j with s|s
     .have:j=q+1:=acs
      subst this;exact absurd (hP.uniq x i _ hx hp) hxi
     .exact s
  .intro x l h hx hLx;rw[mL L (xi hx)]at hLx;have:=I.lo x l h hx hLx;omega
  .intro x l h hx hh';exact jl (done x l h hx acs)
 unfold wpOp;rw[ho];simp only[];rw[W.is X a (fun j w oj t v hgd hj hd hv=>look t (nG (ops:=ops) hgd hj hd) v hv)];rcases hA with⟨rfl,A⟩|⟨rfl,rfl,hh⟩
 .simp only[abE];left;exact A X a I.hX I.H opnd K Q (fun X' V h1 h2 h3 h4=>fin X' V h1 h2 h3 h4)
 .simp only[GE,abu];exact fin X undef (aB.refl X) I.H (by rw[hh];exact I.hX) ⟨[],rfl,rfl⟩
end
variable{T:Tr AV}{b:Bool}{v:AV}
theorem BD{P:Program}{sh:TypeId->Option Sh}{n:Nat}{ops:Array Oper}{pl:List PE}(hP:iz ops pl k)(hM:∀(x:Nat) (o:Oper) (lo hi:Nat),ops[x]?=some o->pl[x]?=some (.p lo hi)->ef o.op=true->∃t,o.dst=some t)
  (hD:∀(x y:Nat) (o o':Oper) (t:Tmp),ops[x]?=some o->ops[y]?=some o'->o.dst=some t->o'.dst=some t->x=y) (hN:∀(x:Nat) (o:Oper) (t:Tmp),ops[x]?=some o->o.dst=some t->t<n)
  {X₀:Cx}{fin:St}(hQ:∀X a,RF X n fin a->aB X₀ X->Q .normal a X.w) :
  ∀(fuel:Nat) (r q:Nat) (listed:Array Bool) (st:St) (X:Cx) (a:Act),q+r=k->vW P sh n ops pl r q st fin->listed.size=ops.size->left ops.size (fun j=>listed.getD j false)<=fuel ->
   Inv P sh n ops pl X₀ q (fun j=>listed.getD j false) X a st->wpAny P .any ops Q fuel listed a X.w:=by
 have j5:∀(listed:Array Bool),listed.size=ops.size->∀i,i<ops.size->listed.getD i true=listed.getD i false:=by intro listed hs i hi;simp[In,show i<listed.size by omega]
 have fini:∀(r q:Nat) (listed:Array Bool) (st:St) (X:Cx) (a:Act),q+r=k->vW P sh n ops pl r q st fin->listed.size=ops.size ->
   Inv P sh n ops pl X₀ q (fun j=>listed.getD j false) X a st->Region.ready .any ops listed=[]->Q .normal a X.w:=by
  intro r q listed st X a hqr ht hs I hrd;have all:∀i,i<ops.size->listed.getD i false=true:=by
   intro i
   induction i using Nat.strongRecOn with
   |_ i ih=>
    intro hi;cases hx:listed.getD i false with
    |true=>rfl|false=>
     have ho:ops[i]?=some ops[i]:=by simp[hi]
     have:i∈Region.ready .any ops listed:=Gy (by rw[j5 listed hs i hi];exact hx) ho (fun e he=>ih e (hP.below i _ ho e he) (Nat.lt_trans (hP.below i _ ho e he) hi));rw[hrd]at this;cases this
  cases r with
  |succ r=>obtain⟨i,o,ch,aeF,aeG,b,T,v,h1,h2,_⟩:=ht;have:=(I.wl i (q+1) h2).1 (all i (gW h1));omega
  |zero=>have:fin=st:=ht;subst this;refine hQ X a ⟨I.hX,⟨I.size,I.defers,?_⟩,I.H⟩ I.E;intro t v hv;refine I.tmp t v hv ?_;rintro⟨x,o,lo,hi,p1,p2,p3,p4,p5⟩;simp only[]at p4;rw[all x (gW p1)]at p4;cases p4
 intro fuel
 induction fuel with
 |zero=>
  intro r q listed st X a hqr ht hs hl I;have hrd:Region.ready .any ops listed=[]:=by
   cases hx:Region.ready .any ops listed with
   |nil=>rfl|cons i l=>
    exfalso;obtain⟨h1,o,ho,_⟩:=tn (i:=i) (by rw[hx];simp);have hi:=gW ho;have h0:left ops.size (fun j=>listed.getD j false)=0:=acs
    have h3:=nK h0 i hi;rw[j5 listed hs i hi]at h1;rw[h1]at h3;cases h3
  exact⟨hrd,fini r q listed st X a hqr ht hs I hrd⟩
 |succ fuel ih=>
  intro r q listed st X a hqr ht hs hl I;refine⟨fun hrd=>fini r q listed st X a hqr ht hs I hrd,?_⟩;intro i hi;obtain⟨h1,o,ho,h2⟩:=tn hi;have aR:=gW ho;rw[j5 listed hs i aR]at h1;have hL:(fun j=>(listed.setIfInBounds i true).getD j false)=Ev.mark (fun j=>listed.getD j false) i:=by
   funext j;unfold Ev.mark;by_cases hj:j=i
   .subst hj;simp[In,Id,show j<listed.size by omega]
   .rw[qr hj];exact getD_set_ne false (fun r=>hj r.symm)
  have hsz:(listed.setIfInBounds i true).size=ops.size:=by simp[hs]
  have hleft:left ops.size (fun j=>(listed.setIfInBounds i true).getD j false)<=fuel:=by rw[hL];have:=ql (L:=fun j=>listed.getD j false) (i:=i) h1 ops.size;rw[ut aR]at this;omega
  obtain⟨pe,hpe⟩:∃pe,pl[i]?=some pe:=⟨pl[i]'(by rw[hP.len];exact aR),by simp[hP.len,aR]⟩;cases pe with
  |p l h=>refine I.step hP hM (fun t htd=>hN i o t ho htd) ho h2 h1 hpe ?_;intro X' a' I';exact ih r q _ st X' a' hqr ht hsz hleft (by rw[hL];exact I')|w j=>
   have hj:j=q+1:=by
    obtain⟨w1,w2,w3⟩:=hP.w i o j ho hpe;have hn:¬j<=q:=fun r=>by have:=(I.wl i j hpe).2 r;rw[h1]at this;cases this
    rcases w3 with r|⟨e,pe,g1,g2,g3⟩
    .omega
    .have hLe:=h2 e g1;cases pe with|w j'=>have:=(I.wl e j' g2).1 hLe;simp only[PE.num]at g3;omega|p l' h'=>have:=I.lo e l' h' g2 hLe;simp only[PE.num]at g3;omega
   subst hj;have hk:=(hP.w i o (q+1) ho hpe).2.1;obtain⟨r,rfl⟩:∃r',r=r'+1:=⟨r-1,acs⟩;obtain⟨i',o',ch,aeF,aeG,b,T,v,g1,g2,g3,g4,g5,g6,g7,g8,g9⟩:=ht;have:=hP.uniq i' i _ g2 hpe;subst this;rw[ho]at g1;cases g1;refine I.write hP hM hD ho h2 h1 hpe g3 g4 g5 g6 g7 g8 ?_;intro X' a' I';exact ih r (q+1) _ aeG X' a' acs g9 hsz hleft (by rw[hL];exact I')
def AY(P:Program)(G:Cx->Prop)(base n:Nat)(c:Code)(st:St)(e:Ev.Ex)(st':St):Prop:=∀X₀ X a,(X₀.h.next=base/\G X₀)->ab X₀->aB X₀ X->RF X n st a->∀Q:Exit->Act->World->Prop,
 (∀X' a',RF X' n st' a'->aB X₀ X'->Q e.to a' X'.w)->c.wp P Q a X.w
variable{base:Nat}{G:Cx->Prop}
theorem SP{R:Type}{P:Program}(hm:P.follows .mixedOrders=true){sh:TypeId->Option Sh}{call:gk R}(hc:dM P call){n:Nat}{ops:Array Oper}{st:St}{k:St->Option R}{r:R}(e:A9 P sh call n ops st k=some r)(id:Nat) :
  ∃st',k st'=some r/\AY P G base n (.region id ops true) st .normal st':=by
 unfold A9 at e;split at e<;>try cases e
 rename_i m hpk;split at e<;>try cases e
 rename_i hd hlt;have hP:=th hpk;obtain⟨d1,d2⟩:=QS hd (by rw[hP.len];simp);obtain⟨aeF,e,S'⟩:=Kv e (fun x y o o' hi hi' t q1 q2 q3 q4 q5 q6=>LF hP (by simpa using q1) (by simpa using q2) q4 q5 q6) d1;obtain⟨fin,hk,ht⟩:=Lh hc hP d1 m 0 aeF e;refine⟨fin,hk,?_⟩;intro X₀ X a hb hH hE RR Q hQ;refine wp_region_any hm ?_;have Hd:=RR.H.drew (X.w.drawn+1);have S:=S' (by rw[<-RR.h];exact RR.H.lt);have hgetD:∀j,(Array.replicate ops.size false).getD j false=false:=by intro j;simp only[In,Array.getElem?_replicate];split<;>rfl
 have I:Inv P sh n ops (jv ops.toList) { X with w:={ X.w with drawn:=X.w.drawn+1 } } 0 (fun j=>(Array.replicate ops.size false).getD j false) ⟨X.s,aeF.h,{ X.w with drawn:=X.w.drawn+1 },X.A⟩ a aeF:=by
  refine Inv.enter (X:={ X with w:={ X.w with drawn:=X.w.drawn+1 } }) (h₁:=st.h) (T₁:=st.T) RR.T.size RR.T.defers RR.h Hd (aB.refl _) S ?_ ?_ ?_ ?_ (fun i hi _=>hgetD i) ?_ ?_ ?_ ?_
  .intro t v hv _ _;obtain⟨V,h1,h2⟩:=RR.T.get t v hv;exact⟨V,h1,h2.ext (fp.of_heap (X:=X) (w:={ X.w with drawn:=X.w.drawn+1 }) rfl)⟩
  .intro i o lo hi _ _ h;omega
  .intro i o lo hi t v id _ _ h;omega
  .intro i j o o' lo hi lo' hi' t t' v v' id _ _ _ _ h;omega
  .intro z o _ h;rw[hgetD]at h;cases h
  .intro i j hj;simp only[hgetD];have hlt':i<ops.size:=by rw[<-hP.len];exact iu hj
   have:=(hP.w i ops[i] j (by simp[hlt']) hj).1;constructor
   .intro r;cases r
   .intro r;omega
  .intro i l h _ hL;rw[hgetD]at hL;cases hL
  .intro i l h _ hh;omega
 have hleft:∀m (L:Nat->Bool),left m L<=m:=by
  intro m L
  induction m with|zero=>simp[left]|succ m ih=>simp only[left];split<;>omega
 refine BD (X₀:={ X with w:={ X.w with drawn:=X.w.drawn+1 } }) hP (fun x o lo hi h=>d2 x o lo hi (by simpa using h)) (fun x y o o' t h1 h2=>d1 x y o o' t (by simpa using h1) (by simpa using h2)) (fun x o t h1 h2=>Hc hlt x o t (by simpa using h1) h2) ?_ ops.size m 0 _ aeF _ a acs ht acv (hleft _ _) I;intro X' a' R' E';exact hQ X' a' R' (hE.trans ((aB.drew X _).trans E'))
open Go.Proofs.Ytbbhihkocghhaaa.Ev (Tr Tr.bE nth bW)
def cJ:List (Nat×Nat)->Nat->Option Nat
 |[],_=>none|p::l,j=>match Nat.beq p.1 j with|true=>some p.2|false=>cJ l j
def zJ(base:Nat)(m:List (Nat×Nat))(j:Nat):Option Nat:=match Nat.blt j base with|true=>some j|false=>cJ m j
def V0(base j:Nat):Option Nat:=match Nat.blt j base with|true=>some j|false=>none
mutual
def gZ(f:Nat->Option Nat):AV->Option AV
 |.bool b=>some (.bool b)|.int k n=>some (.int k n)|.str s=>some (.str s)|.cK=>some .cK|.bu=>some .bu|.cR=>some .cR|.cQ=>some .cQ|.dy=>some .dy|.ij=>some .ij|.ptr b o=>match f b with|some b=>some (.ptr b o)|none=>none
 |.cY b i z o=>match f b with|some b=>some (.cY b i z o)|none=>none
 |.eC σ d o=>some (.eC σ d o)|.hd b τ=>match f b with|some b=>some (.hd b τ)|none=>none
 |.vw b τ o l=>match f b with|some b=>some (.vw b τ o l)|none=>none
 |.fz τ L=>some (.fz τ L)|.dt τ z L=>some (.dt τ z L)|.mp b=>match f b with|some b=>some (.mp b)|none=>none
 |.dA b=>match f b with|some b=>some (.dA b)|none=>none
 |.rp b i=>match f b with|some b=>some (.rp b i)|none=>none
 |.ra b i=>match f b with|some b=>some (.ra b i)|none=>none
 |.func g x c=>match kE f x with
  |some x=>match kE f c with|some c=>some (.func g x c)|none=>none
  |none=>none
 |.agg l=>match kE f l with|some l=>some (.agg l)|none=>none
 |.bD l=>match kE f l with|some l=>some (.bD l)|none=>none
termination_by structural x=>x
def kE(f:Nat->Option Nat):List AV->Option (List AV)
 |[]=>some []|v::l=>match gZ f v with
  |some v=>match kE f l with|some l=>some (v::l)|none=>none
  |none=>none
termination_by structural x=>x
end
def gY(f:Nat->Option Nat):aI->Option aI
 |.cells l ty=>match kE f l with|some l=>some (.cells l ty)|none=>none
 |.arr τ L ty=>some (.arr τ L ty)|.map κ σ M=>some (.map κ σ M)|.d7 L ty=>some (.d7 L ty)|.cT τ i L vs ty=>match kE f vs with|some vs=>some (.cT τ i L vs ty)|none=>none
structure Rn(f:Nat->Option Nat)(X X':Cx):Prop where
 sg:∀j i l,f j=some i->X.s j=some l->X'.s i=some l
 K:fP X.w X.out X'.w X'.out
 obj:∀j i n,f j=some i->rowOf X'.h.tr i=some n->rowOf X.h.tr j=some n
mutual
theorem BL{f:Nat->Option Nat}{X X':Cx}(E:Rn f X X'):∀{v v':AV}{V:Value},gZ f v=some v'->Rel X v V->Rel X' v' V
 |.bool _,v',_,e,h|.int _ _,v',_,e,h|.str _,v',_,e,h|.cK,v',_,e,h|.bu,v',_,e,h|.cR,v',_,e,h|.cQ,v',_,e,h|.dy,v',_,e,h|.ij,v',_,e,h=>by simp only[gZ,bf]at e;subst e;exact h|.ptr b off,v',V,e,⟨x,c,h1,h2⟩=>by
  simp only[gZ]at e;split at e<;>try cases e
  rename_i i hi;exact⟨x,c,E.sg _ _ _ hi h1,h2⟩
 |.cY b i z o,v',V,e,⟨x,c,h1,h2,h3⟩=>by
  simp only[gZ]at e;split at e<;>try cases e
  rename_i b' hb;exact⟨x,c,E.sg _ _ _ hb h1,h2,fun n q=>h3 n (E.obj _ _ n hb q)⟩
 |.eC σ d o,v',V,e,⟨b,off,cs,h1,h2,h3,h4⟩=>by simp only[gZ,bf]at e;subst e;obtain⟨k1,k2⟩:=h4.aH E.K h2;exact⟨b,off,cs,h1,k2,h3.aH E.K,k1⟩
 |.hd b τ,v',V,e,⟨l,h1,hc,h2⟩=>by
  simp only[gZ]at e;split at e<;>try cases e
  rename_i b' hb;exact⟨l,E.sg _ _ _ hb h1,hc,fun n q=>h2 n (E.obj _ _ n hb q)⟩
 |.vw b τ off len,v',V,e,⟨l,a,c,h1,h2,h3,h4,h5,h6⟩=>by
  simp only[gZ]at e;split at e<;>try cases e
  rename_i b' hb;exact⟨l,a,c,E.sg _ _ _ hb h1,h2,h3,h4,h5,fun n q=>h6 n (E.obj _ _ n hb q)⟩
 |.fz τ L,v',V,e,h=>by simp only[gZ,bf]at e;subst e;exact Cs.aH E.K (σ:=.sl τ) h|.dt τ z L,v',V,e,h=>by simp only[gZ,bf]at e;subst e;exact⟨Cs.aH E.K (σ:=.sl τ) h.1,h.2⟩|.mp b,v',V,e,⟨x,c,h1,h2⟩=>by
  simp only[gZ]at e;split at e<;>try cases e
  rename_i i hi;exact⟨x,c,E.sg _ _ _ hi h1,h2⟩
 |.dA b,v',V,e,⟨l,h1,h2⟩=>by
  simp only[gZ]at e;split at e<;>try cases e
  rename_i i hi;exact⟨l,E.sg _ _ _ hi h1,h2⟩
 |.rp b i,v',V,e,⟨x,c,m,p,h1,h2⟩=>by
  simp only[gZ]at e;split at e<;>try cases e
  rename_i k hk;exact⟨x,c,m,p,E.sg _ _ _ hk h1,h2⟩
 |.ra b i,v',V,e,⟨x,c,m,h1,h2⟩=>by
  simp only[gZ]at e;split at e<;>try cases e
  rename_i k hk;exact⟨x,c,m,E.sg _ _ _ hk h1,h2⟩
 |.func g x c,v',V,e,⟨xs,cs,h1,h2,h3⟩=>by
  simp only[gZ]at e;split at e<;>try cases e
  rename_i x' hx;split at e<;>try cases e
  rename_i c' hc;exact⟨xs,cs,h1,nO E hx h2,nO E hc h3⟩
 |.agg l,v',V,e,⟨cs,h1,h2⟩=>by
  simp only[gZ]at e;split at e<;>try cases e
  rename_i x' hx;exact⟨cs,h1,nO E hx h2⟩
 |.bD l,v',V,e,⟨cs,h1,h2⟩=>by
  simp only[gZ]at e;split at e<;>try cases e
  rename_i x' hx;exact⟨cs,h1,nO E hx h2⟩
theorem nO{f:Nat->Option Nat}{X X':Cx}(E:Rn f X X'):∀{l l':List AV}{cs:kw},kE f l=some l'->bc X l cs->bc X' l' cs
 |[],l',_,e,h=>by simp only[kE,bf]at e;subst e;exact h|x::l,l',_,e,⟨v,r,e2,h1,h2⟩=>by
  simp only[kE]at e;split at e<;>try cases e
  rename_i x' hx;split at e<;>try cases e
  rename_i l' hl;exact⟨v,r,e2,BL E hx h1,nO E hl h2⟩
end
theorem Ph{f:Nat->Option Nat}{o o':aI}(e:gY f o=some o'):o'.row=o.row:=by
 cases o with
 |cells l ty=>simp only[gY]at e;split at e<;>cases e;rfl
 |arr τ L ty=>simp only[gY,bf]at e;subst e;rfl|map κ σ M=>simp only[gY,bf]at e;subst e;rfl|d7 L ty=>simp only[gY,bf]at e;subst e;rfl|cT τ i L vs ty=>simp only[gY]at e;split at e<;>cases e;rfl
theorem L0{f:Nat->Option Nat}{X X':Cx}(E:Rn f X X')(hw:X'.w=X.w){l:Loc}{o o':aI}(e:gY f o=some o')(h:bS X l o):bS X' l o':=by
 cases o with
 |cells vs ty=>
  simp only[gY]at e;split at e<;>try cases e
  rename_i l' hl;obtain⟨b,c,cs,h1,h2,h3⟩:=h;exact⟨b,c,cs,h1,by grind,nO E hl h3⟩
 |arr τ L ty=>
  simp only[gY,bf]at e;subst e;cases l with
  |nil=>exact h|«at» b c=>obtain⟨cs,tail,h1,h2,h3,h4⟩:=h;exact⟨cs,tail,by rw[hw];exact h1,h2.mono (fun x d q=>q.aH E.K),h3,h4⟩
  |bX _ _ _=>exact h.elim
 |map κ σ M=>simp only[gY,bf]at e;subst e;obtain⟨x,c,es,clk,h1,h2,h3⟩:=h;exact⟨x,c,es,clk,h1,by grind,h3.aH E.K⟩
 |d7 L ty=>simp only[gY,bf]at e;subst e;cases l with|nil=>exact h|«at» b c=>exact h.elim|bX b c m=>obtain⟨tail,ty',h1,h2,h3,h4⟩:=h;exact⟨tail,ty',by grind,h2,h3.ext E.K (fun p _=>by grind),h4⟩
 |cT τ i L vs ty=>
  simp only[gY]at e;split at e<;>try cases e
  rename_i l' hl;obtain⟨b,c,pre,mid,post,tail,h0,h1,h2,h3,h4,h5⟩:=h;exact⟨b,c,pre,mid,post,tail,h0,by grind,h2.mono (fun x d q=>q.aH E.K),nO E hl h3,h4.mono (fun x d q=>q.aH E.K),h5⟩
def A8(base:Nat)(h:Tr aI):Nat->Tr aI->Option (Tr aI)
 |0,t=>some t|k+1,t=>match A8 base h k t with
  |some t=>match h.get k with
   |some o=>match gY (V0 base) o with|some o=>Tr.set FT t k (some o)|none=>none
   |none=>some t
  |none=>none
def lT(f:Nat->Option Nat)(h:Tr aI):List (Nat×Nat)->Tr aI->Option (Tr aI)
 |[],t=>some t|p::m,t=>match lT f h m t with
  |some t=>match h.get p.1 with
   |some o=>match gY f o with|some o=>Tr.set FT t p.2 (some o)|none=>none
   |none=>some t
  |none=>none
def qN(f:Nat->Option Nat)(n:Nat)(T:Tr AV):List Tmp->Option (Tr AV)
 |[]=>some .nil|t::l=>match qN f n T l with
  |some T'=>match T.get t with
   |some v=>match gZ f v with|some v=>cW n T' (some t) v|none=>none
   |none=>none
  |none=>none
def vu(j i:Nat):List (Nat×Nat)->Bool
 |[]=>true|p::m=>match Nat.beq p.1 j with|true=>false|false=>match Nat.beq p.2 i with|true=>false|false=>vu j i m
def zH(base nx:Nat):List (Nat×Nat)->Bool
 |[]=>true|p::m=>match Nat.ble base p.1,Nat.ble base p.2,Nat.blt p.2 nx,vu p.1 p.2 m with|true,true,true,true=>zH base nx m|_,_,_,_=>false
theorem QV{j i:Nat}:∀{m:List (Nat×Nat)},vu j i m=true->∀p∈m,p.1≠j/\p.2≠i
 |[],_,p,hp=>by cases hp
 |q::m,h,p,hp=>by
  simp only[vu]at h;split at h<;>try cases h
  rename_i h1;split at h<;>try cases h
  rename_i h2;rcases BY.1 hp with rfl|hp
  .exact⟨IT h1,IT h2⟩
  .exact QV h p hp
structure nE(base nx:Nat)(m:List (Nat×Nat)):Prop where
 lo:∀p∈m,base<=p.1/\base<=p.2/\p.2<nx
 fst:∀p∈m,∀q∈m,p.1=q.1->p=q
 snd:∀p∈m,∀q∈m,p.2=q.2->p=q
theorem Ls{base nx:Nat}:∀{m:List (Nat×Nat)},zH base nx m=true->nE base nx m
 |[],_=>⟨fun p h=>(nomatch h),fun p h=>(nomatch h),fun p h=>(nomatch h)⟩
 |p::m,h=>by
  simp only[zH]at h;split at h<;>try cases h
  rename_i h1 h2 h3 h4;have h1:=pi h1;have h2:=pi h2;rw[WP]at h3;have h4:=QV h4;obtain⟨a,b,c⟩:=Ls h;refine⟨?_,?_,?_⟩
  .intro q hq
   grind
  .intro q hq r hr e
   grind
  grind
theorem tV:∀{m:List (Nat×Nat)}{j i:Nat},cJ m j=some i->(j,i)∈m
 |[],j,i,h=>by simp[cJ]at h|p::m,j,i,h=>by
  simp only[cJ]at h;split at h
  .rename_i q;have:=aW q
   grind
  .exact abl _ (tV h)
theorem rD{base nx:Nat}{m:List (Nat×Nat)}(O:nE base nx m){j i:Nat}(h:(j,i)∈m):cJ m j=some i:=by
 have:∀{l:List (Nat×Nat)},(∀p∈l,p∈m)->(j,i)∈l->cJ l j=some i:=by
  intro l
  induction l with
  |nil=>intro _ q;cases q
  |cons p l ih=>
   intro hs q;simp only[cJ];split
   .rename_i e;have e:=aW e;have:=O.fst p (hs p acv) (j,i) h e;rw[this]
   .rename_i e;have e:=IT e
    grind
 exact this (fun p hp=>hp) h
def inv:List (Nat×Nat)->Nat->Option Nat
 |[],_=>none|p::l,i=>if p.2=i then some p.1 else inv l i
theorem Mr:∀{m:List (Nat×Nat)}{i j:Nat},inv m i=some j->(j,i)∈m
 |[],i,j,h=>by simp[inv]at h|p::m,i,j,h=>by
  simp only[inv]at h;split at h
  .rename_i q
   grind
  .exact abl _ (Mr h)
theorem AQ{base nx:Nat}{m:List (Nat×Nat)}(O:nE base nx m){j i:Nat}(h:(j,i)∈m):inv m i=some j:=by
 have:∀{l:List (Nat×Nat)},(∀p∈l,p∈m)->(j,i)∈l->inv l i=some j:=by
  intro l
  induction l with
  |nil=>intro _ q;cases q
  |cons p l ih=>
   intro hs q;simp only[inv];split
   .rename_i e;have:=O.snd p (hs p acv) (j,i) h e;rw[this]
   grind
 exact this (fun p hp=>hp) h
theorem tz{f:Nat->Option Nat}{h:Tr aI}:∀{m:List (Nat×Nat)}{t t':Tr aI},lT f h m t=some t'->∀i,((∀p∈m,p.2≠i)->t'.get i=t.get i) /\
  ∀o',t'.get i=some o'->t.get i=some o'\/∃j o,(j,i)∈m/\h.get j=some o/\gY f o=some o'
 |[],t,t',e,i=>by simp only[lT,bf]at e;grind|p::m,t,t',e,i=>by
  simp only[lT]at e;split at e<;>try cases e
  rename_i aeS h₁;obtain⟨i1,i2⟩:=tz h₁ i;have back:∀o',aeS.get i=some o'->t.get i=some o'\/∃j o,(j,i)∈p::m/\h.get j=some o/\gY f o=some o':=by grind
  split at e
  .rename_i o ho;split at e<;>try cases e
   rename_i aex hr;have hg:=Tr.bE _ _ _ _ _ e i
   grind
  grind
theorem BX{f:Nat->Option Nat}{n:Nat}{T:Tr AV}:∀{l:List Tmp}{T':Tr AV},qN f n T l=some T'->∀t v',T'.get t=some v'->∃v,T.get t=some v/\gZ f v=some v'
 |[],T',e,t,v',h=>by simp only[qN,bf]at e;subst e;simp[Tr.get]at h|x::l,T',e,t,v',h=>by
  simp only[qN]at e;split at e<;>try cases e
  rename_i T₁ h₁;split at e<;>try cases e
  rename_i v hv;split at e<;>try cases e
  rename_i u hu;rw[jN e t]at h;by_cases q:x=t
  .subst q
   grind
  .rw[qr (by grind)]at h;exact BX h₁ t v' h
def sF(base n:Nat)(aH:List Tmp)(m:List (Nat×Nat))(nx:Nat)(st:St):Option St:=match zH base nx m,Nat.ble base nx with
 |true,true=>match qN (zJ base m) n st.T aH,A8 base st.h.tr base .nil with
  |some T,some t=>match lT (zJ base m) st.h.tr m t with|some t=>some ⟨T,⟨t,nx⟩⟩|none=>none
  |_,_=>none
 |_,_=>none
open Go.Proofs.Ytbbhihkocghhaaa.Ev (Tr Tr.bE nth bW Ex)
def iF:Code->Nat
 |.region id _ _=>id|.seq a _=>iF a|.block _ a=>iF a|.loop a=>iF a|.scope a=>iF a|_=>0
def qe(n:Nat):List (Tmp×Sh×TypeId)->St->Option St
 |[],st=>some st|p::l,st=>match st.T.get p.1 with
  |some v=>match v with
   |.bu=>match Tr.set FT st.h.tr st.h.next (some (.arr p.2.1 [] p.2.2))with
    |some t=>match cW n st.T (some p.1) (.hd st.h.next p.2.1)with|some T=>qe n l ⟨T,⟨t,st.h.next+1⟩⟩|none=>none
    |none=>none
   |_=>qe n l st
  |none=>none
abbrev jz(R:Type):=Nat->St->(Ex->St->Option R)->Option R
def dG:Code->List Code
 |.seq a b=>dG a++dG b|.cond _ a b=>dG a++dG b|.block _ a=>dG a|.loop a=>[a]|.scope a=>dG a|_=>[]
def xI(T:Tr AV)(c:Operand)(b:Bool):Option (Tr AV):=match c with|.tmp t=>Tr.set FT T t (some (.bool b))|_=>some T
section
variable{R:Type}(P:Program)(sh:TypeId->Option Sh)(call:gk R)(loops:jz R)(n:Nat)
def runK:Code->St->(Ex->St->Option R)->Option R
 |.skip,st,k=>k .normal st|.label _,st,k=>k .normal st|.region _ ops draw,st,k=>match draw with|false=>vU P sh call n ops ops.toList st (k .normal)|true=>A9 P sh call n ops st (k .normal)
 |.seq x y,st,k=>runK x st fun e st=>match e with|.normal=>runK y st k|.exit i=>k (.exit i) st|.ret=>k .ret st
 |.cond c x y,st,k=>match aK st.T c with
  |some v=>match v with
   |.bool b=>br b (match xI st.T c true with|some T=>runK x ⟨T,st.h⟩ k|none=>none) (match xI st.T c false with|some T=>runK y ⟨T,st.h⟩ k|none=>none)
   |_=>none
  |none=>none
 |.block id x,st,k=>runK x st fun e st=>match e with
  |.normal=>k .normal st|.exit i=>match Nat.beq i id with|true=>k .normal st|false=>k (.exit i) st
  |.ret=>k .ret st
 |.loop x,st,k=>loops (iF x) st k|.scope x,st,k=>runK x st k|.exit id,st,k=>k (.exit id) st|.ret,st,k=>k .ret st|_,_,_=>none
end
theorem BI{n:Nat}:∀{l:List (Tmp×Sh×TypeId)}{st st':St},qe n l st=some st'->∀{X:Cx}{a:Act},RF X n st a->∃X',X'.w=X.w/\RF X' n st' a/\aB X X'
 |[],st,st',e,X,a,R=>by simp only[qe,bf]at e;subst e;exact⟨X,rfl,R,aB.refl X⟩|p::l,st,st',e,X,a,R=>by
  simp only[qe]at e;split at e<;>try cases e
  rename_i v hv;split at e
  .split at e<;>try cases e
   rename_i t ht;split at e<;>try cases e
   rename_i T hT;have hX:=R.h;rw[<-hX]at ht;obtain⟨E,H'⟩:=ab.void R.H ht;have hg:=jN hT;have g0:=Tr.bE _ _ _ _ _ ht;obtain⟨X',h1,h2,h3⟩:=BI e (X:=⟨aQ X.s X.h.next .nil,⟨t,X.h.next+1⟩,X.w,X.A⟩) (a:=a) (by
    refine⟨by rw[hX],⟨R.T.size,R.T.defers,?_⟩,H'⟩;intro x u hu;rw[hg x]at hu;by_cases q:p.1=x
    .subst q;rw[ut rfl]at hu;cases hu;obtain⟨V,b1,b2⟩:=R.T.get _ _ hv;refine⟨V,b1,.nil,by rw[<-hX];exact cE _ _ _,?_,?_⟩
     .rw[show V=_ from b2];rfl
     .intro n' q;rw[<-hX]at q
      replace q:rowOf t X.h.next=some n':=q
      rw[ie (by rw[g0,ut rfl])]at q;cases q;rw[show V=_ from b2];rfl
    .rw[qr (by grind)]at hu;obtain⟨V,b1,b2⟩:=R.T.get _ _ hu;exact⟨V,b1,b2.ext (E.dw R.H)⟩)
   exact⟨X',h1,h2,E.trans h3⟩
  .exact BI e R
def jJ(P:Program)(G:Cx->Prop)(base n:Nat)(x:Code){R:Type}(g:St->(Ex->St->Option R)->Option R):Prop:=∀st k r,g st k=some r->∃e st',k e st'=some r/\AY P G base n (.loop x) st e st'
variable{c:Operand}
theorem Kx{X:Cx}{n:Nat}{T':Tr AV}{a:Act}(R:fT X n T a)(hv:aK T c=some (.bool b))(h:xI T c b=some T'):fT X n T' a:=by
 unfold xI at h;split at h
 .rename_i t;refine⟨R.size,R.defers,?_⟩;intro u x hu;rw[Tr.bE _ _ _ _ _ h u]at hu;by_cases q:u=t
  .subst q;rw[ut rfl]at hu;cases hu;exact R.get u _ hv
  .rw[qr q]at hu;exact R.get u x hu
 .cases h;exact R
theorem LI{X:Cx}{n:Nat}{a:Act}(R:fT X n T a)(hv:aK T c=some v):Rel X v (a.eval c):=by
 cases c with
 |tmp t=>obtain⟨V,h1,h2⟩:=R.get t v hv;simpa[Act.eval,In,h1]using h2
 |const u=>exact BE hv X|func f=>simp[aK]at hv;subst hv;exact⟨[],[],rfl,rfl,rfl⟩|global g=>simp[aK]at hv
theorem tU{R:Type}{P:Program}(hm:P.follows .mixedOrders=true){sh:TypeId->Option Sh}{call:gk R}(hc:dM P call){loops:jz R}{n:Nat} :
  ∀(c:Code),(∀x∈dG c,jJ P G base n x (loops (iF x)))->∀(st:St) (k:Ex->St->Option R) (r:R),runK P sh call loops n c st k=some r->∃e st',k e st'=some r/\AY P G base n c st e st':=by
 intro c
 induction c with
 |skip=>intro hl st k r e;exact⟨.normal,st,e,fun X₀ X a hb acQ hE RR Q hQ=>wp_skip (hQ X a RR hE)⟩|label l=>intro hl st k r e;exact⟨.normal,st,e,fun X₀ X a hb acQ hE RR Q hQ=>wp_label (hQ X a RR hE)⟩|exit id=>intro hl st k r e;exact⟨.exit id,st,e,fun X₀ X a hb acQ hE RR Q hQ=>wp_exit (hQ X a RR hE)⟩|ret=>intro hl st k r e;exact⟨.ret,st,e,fun X₀ X a hb acQ hE RR Q hQ=>wp_ret (hQ X a RR hE)⟩|region id ops draw=>
  intro hl st k r e;simp only[runK]at e;cases draw with
  |false=>simp only[]at e;obtain⟨st',hk,S⟩:=KX hc ops.toList 0 st (k .normal) r e (by grind);refine⟨.normal,st',hk,?_⟩;intro X₀ X a hb acQ hE RR Q hQ;refine wp_region ?_;have:=S X a RR Q (fun X' a' R' E'=>hQ X' a' R' (hE.trans E'));rw[List.range_eq_range'];simpa using this
  |true=>simp only[]at e;obtain⟨st',hk,S⟩:=SP hm hc (base:=base) e id;exact⟨.normal,st',hk,S⟩
 |seq x y ihx ihy=>
  intro hl st k r e;simp only[runK]at e;obtain⟨adv,aeF,hk,S⟩:=ihx (fun x h=>hl x (by simp[dG,h])) _ _ _ e;cases adv with
  |normal=>simp only[]at hk;obtain⟨adw,aeG,adP,adg⟩:=ihy (fun x h=>hl x (by simp[dG,h])) _ _ _ hk;refine⟨adw,aeG,adP,?_⟩;intro X₀ X a hb acQ hE RR Q hQ;exact wp_seq (S X₀ X a hb acQ hE RR _ (fun X' a' R' E'=>adg X₀ X' a' hb acQ E' R' Q hQ))
  |exit i=>simp only[]at hk;exact⟨_,_,hk,fun X₀ X a hb acQ hE RR Q hQ=>wp_seq (S X₀ X a hb acQ hE RR _ (fun X' a' R' E'=>hQ X' a' R' E'))⟩|ret=>simp only[]at hk;exact⟨_,_,hk,fun X₀ X a hb acQ hE RR Q hQ=>wp_seq (S X₀ X a hb acQ hE RR _ (fun X' a' R' E'=>hQ X' a' R' E'))⟩
 |cond c x y ihx ihy=>
  intro hl st k r e;simp only[runK]at e;split at e<;>try cases e
  rename_i v hv;split at e<;>try cases e
  rename_i b;rcases AZ e with⟨rfl,e2⟩|⟨rfl,e2⟩
  .split at e2<;>try cases e2
   rename_i T hT;obtain⟨adv,aeF,hk,S⟩:=ihx (fun x h=>hl x (by simp[dG,h])) _ _ _ e2;exact⟨adv,aeF,hk,fun X₀ X a hb acQ hE RR Q hQ=>wp_cond_true (LI RR.T hv) (S X₀ X a hb acQ hE ⟨RR.h,Kx RR.T hv hT,RR.H⟩ Q hQ)⟩
  .split at e2<;>try cases e2
   rename_i T hT;obtain⟨adv,aeF,hk,S⟩:=ihy (fun x h=>hl x (by simp[dG,h])) _ _ _ e2;exact⟨adv,aeF,hk,fun X₀ X a hb acQ hE RR Q hQ=>wp_cond_false (LI RR.T hv) (S X₀ X a hb acQ hE ⟨RR.h,Kx RR.T hv hT,RR.H⟩ Q hQ)⟩
 |block id x ih=>
  intro hl st k r e;simp only[runK]at e;obtain⟨adv,aeF,hk,S⟩:=ih (fun x h=>hl x (by simpa[dG]using h)) _ _ _ e;cases adv with
  |normal=>exact⟨_,_,hk,fun X₀ X a hb acQ hE RR Q hQ=>wp_block (S X₀ X a hb acQ hE RR _ (fun X' a' R' E'=>hQ X' a' R' E'))⟩|ret=>exact⟨_,_,hk,fun X₀ X a hb acQ hE RR Q hQ=>wp_block (S X₀ X a hb acQ hE RR _ (fun X' a' R' E'=>hQ X' a' R' E'))⟩|exit i=>
   simp only[]at hk;split at hk
   .rename_i q;have q:=aW q;refine⟨_,_,hk,fun X₀ X a hb acQ hE RR Q hQ=>wp_block (S X₀ X a hb acQ hE RR _ (fun X' a' R' E'=>?_))⟩;simp only[Ex.to,Exit.inBlock,ut q];exact hQ X' a' R' E'
   .rename_i q;have q:=IT q;refine⟨_,_,hk,fun X₀ X a hb acQ hE RR Q hQ=>wp_block (S X₀ X a hb acQ hE RR _ (fun X' a' R' E'=>?_))⟩;simp only[Ex.to,Exit.inBlock,qr q];exact hQ X' a' R' E'
 |loop x ih=>intro hl st k r e;simp only[runK]at e;exact hl x (by simp[dG]) st k r e|scope x ih=>intro hl st k r e;simp only[runK]at e;obtain⟨adv,aeF,hk,S⟩:=ih (fun x h=>hl x (by simpa[dG]using h)) _ _ _ e;refine⟨adv,aeF,hk,fun X₀ X a hb acQ hE RR Q hQ=>wp_scope_straight (S X₀ X a hb acQ hE RR _ (fun X' a' R' E'=>?_))⟩;have:=hQ X' a' R' E';cases adv<;>exact this
 |_=>intro hl st k r e;simp[runK]at e
def jr(w:World)(A:Nat->Prop):(l:List Sh)->TL l->kw->Prop
 |[],_,vs=>vs=[]|σ::l,d,vs=>∃V r,vs=V::r/\cH w A σ d.1 V/\jr w A l d.2 r
def ka:kw->Value
 |[v]=>v|l=>.tuple (List.toArray l)
def nD:List AV->AV
 |[v]=>v|l=>.bD l
def tW:(l:List Sh)->TL l->List AV
 |[],_=>[]|σ::l,d=>vQ σ d.1::tW l d.2
theorem tB{X:Cx}:∀{l:List Sh}{d:TL l}{vs:kw},jr X.w X.out l d vs->bc X (tW l d) vs
 |[],_,vs,h=>h|σ::l,d,vs,⟨V,r,e,h1,h2⟩=>⟨V,r,e,zp h1,tB h2⟩
theorem jr.aH{w w':World}{A A':Nat->Prop}(K:fP w A w' A'):∀{l:List Sh}{d:TL l}{vs:kw},jr w A l d vs->jr w' A' l d vs
 |[],_,vs,h=>h|σ::l,d,vs,⟨V,r,e,h1,h2⟩=>⟨V,r,e,h1.aH K,h2.aH K⟩
def j4(kl:Bool)(h:Hp):(l:List Sh)->List AV->Option (TL l×Hp)
 |[],vs=>match vs with|[]=>some ((),h)|_=>none
 |σ::l,vs=>match vs with
  |v::vs=>match oD kl h σ v with
   |some (d,h)=>match j4 kl h l vs with|some (e,h)=>some ((d,e),h)|none=>none
   |none=>none
  |[]=>none
theorem rB{kl:Bool}:∀{l:List Sh}{X:Cx}(H:ab X) {vs:List AV}{d:TL l}{h':Hp},j4 kl X.h l vs=some (d,h')->∀{cs:kw},bc X vs cs ->
  dS X h'/\jr X.w (Cx.out ⟨X.s,h',X.w,X.A⟩) l d cs
 |[],X,H,vs,d,h',e,cs,R=>by simp only[j4]at e;split at e<;>cases e;exact⟨dS.refl H,R⟩
 |σ::l,X,H,vs,d,h',e,cs,R=>by
  simp only[j4]at e;split at e<;>try cases e
  rename_i v vs;split at e<;>try cases e
  rename_i ads h₁ adv;split at e<;>cases e;rename_i adt adw;obtain⟨V,r,rfl,R1,R2⟩:=R;obtain⟨acN,aex⟩:=Cb H adv R1;obtain⟨acO,aey⟩:=rB (X:=⟨X.s,h₁,X.w,X.A⟩) acN.H adw (R2.ext (acN.E.dw H));exact⟨acN.trans acO,V,r,rfl,aex.aH acO.E.keeps,aey⟩
def Comes(P:Program)(f:FuncId)(σs τs:List Sh)(F:TL σs->Option (TL τs)):Prop:=
 (∃fn c,P.funcs[f]?=some fn/\(fn.name == "runtime.NumGoroutine")=false/\fn.body=some c) /\
 ∀d x,F d=some x->∀(w:World) (A:Nat->Prop) (args:kw),(∀b,A b->b<w.heap.size)->jr w A σs d args ->
  Calls P f (List.toArray args) w fun e w'=>∃vs,e=.returned (ka vs)/\Below w.heap.size w w'/\jr w' A τs x vs
def aE{α R:Type}(x:Option α)(k:α->Option R):Option R:=match x with|some a=>k a|none=>none
theorem vY{α R:Type}{x:Option α}{k:α->Option R}{r:R}(h:aE x k=some r):∃a,x=some a/\k a=some r:=by
 cases x with
 |none=>cases h
 |some a=>exact⟨a,rfl,h⟩
structure Spec where
 σs:List Sh
 τs:List Sh
 F:TL σs->Option (TL τs)
abbrev qY:=FuncId->Option Spec
def B7(P:Program)(S:qY):Prop:=∀f s,S f=some s->Comes P f s.σs s.τs s.F
mutual
def plain:Sh->Bool
 |.sl _=>false|.agg l=>nV l|_=>true
termination_by structural x=>x
def nV:List Sh->Bool
 |[]=>true|s::l=>match plain s with|true=>nV l|false=>false
termination_by structural x=>x
end
mutual
theorem Lo{w w':World}{A A':Nat->Prop}:∀{σ:Sh}{d:σ.T}{cs:kw},plain σ=true->Cs w A σ d cs->Cs w' A' σ d cs
 |.int k,n,cs,_,h=>h|.bool,b,cs,_,h=>h|.str,s,cs,_,h=>h|.agg l,d,cs,hp,h=>KC (l:=l) hp h|.sl s,L,cs,hp,h=>by cases hp
theorem KC{w w':World}{A A':Nat->Prop}:∀{l:List Sh}{d:TL l}{cs:kw},nV l=true->fg w A l d cs->fg w' A' l d cs
 |[],_,cs,_,h=>h|s::l,d,cs,hp,⟨c,r,e,h1,h2⟩=>by
  simp only[nV]at hp;split at hp<;>try cases hp
  rename_i hs;exact⟨c,r,e,Lo hs h1,KC hp h2⟩
end
theorem QP{w w':World}{A A':Nat->Prop}:∀{l:List Sh}{d:TL l}{vs:kw},nV l=true->jr w A l d vs->jr w' A' l d vs
 |[],_,vs,_,h=>h|s::l,d,vs,hp,⟨V,r,e,h1,h2⟩=>by
  simp only[nV]at hp;split at hp<;>try cases hp
  rename_i hs;exact⟨V,r,e,⟨Lo hs h1.1,h1.2⟩,QP hp h2⟩
def Bo{R:Type}(S:qY):gk R:=fun f vs h k=>match S f with
 |some s=>match j4 (nV s.τs) h s.σs vs with|some (d,_)=>aE (s.F d) fun x=>k false (nD (tW s.τs x)) h|none=>match j4 true h s.σs vs with|some (d,h')=>aE (s.F d) fun x=>k true (nD (tW s.τs x)) h'|none=>none
 |none=>none
mutual
theorem KS{h:Hp}:∀{σ:Sh}{l:List AV}{d:σ.T}{r:List AV}{h':Hp},dz false h σ l=some (d,r,h')->h'=h
 |.int k,l,d,r,h',e=>by
  simp only[dz]at e;split at e<;>try cases e
  split at e<;>cases e;rfl
 |.bool,l,d,r,h',e=>by simp only[dz]at e;split at e<;>cases e;rfl
 |.str,l,d,r,h',e=>by simp only[dz]at e;split at e<;>cases e;rfl
 |.agg ss,l,d,r,h',e=>QY (ss:=ss) e|.sl s,l,d,r,h',e=>by
  simp only[dz]at e;split at e<;>try cases e
  .rfl
  .split at e<;>cases e;rfl
  .split at e<;>try cases e
   split at e<;>try cases e
   contradiction
  .split at e<;>try cases e
   split at e<;>try cases e
   contradiction
theorem QY{h:Hp}:∀{ss:List Sh}{l:List AV}{d:TL ss}{r:List AV}{h':Hp},je false h ss l=some (d,r,h')->h'=h
 |[],l,d,r,h',e=>by simp only[je,bf]at e;cases e;rfl
 |s::ss,l,d,r,h',e=>by
  simp only[je]at e;split at e<;>try cases e
  rename_i ads aeC h₁ adv;split at e<;>cases e;rename_i adw;have:=KS adv;subst this;exact QY adw
end
theorem QZ{h:Hp}:∀{l:List Sh}{vs:List AV}{d:TL l}{h':Hp},j4 false h l vs=some (d,h')->h'=h
 |[],vs,d,h',e=>by simp only[j4]at e;split at e<;>cases e;rfl
 |σ::l,vs,d,h',e=>by
  simp only[j4]at e;split at e<;>try cases e
  rename_i v vs;split at e<;>try cases e
  rename_i ads h₁ adv;split at e<;>cases e;rename_i adw;have:h₁=h:=by
   unfold oD at adv;split at adv
   case h_3=>cases adv
   all_goals
    split at adv<;>try cases adv
    rename_i adx;split at adv<;>cases adv;exact KS adx
  subst this;exact QZ adw
theorem vO{X:Cx}:∀{l:List AV}{cs:kw},bc X l cs->Rel X (nD l) (ka cs)
 |[],cs,h=>by rw[show cs=[]from h];exact⟨[],rfl,rfl⟩|[v],cs,⟨V,r,e,h1,h2⟩=>by rw[show r=[]from h2]at e;rw[e];exact h1|v::u::l,cs,⟨V,r,e,h1,⟨V',r',e',h2,h3⟩⟩=>by subst e';subst e;exact⟨V::V'::r',rfl,V,V'::r',rfl,h1,V',r',rfl,h2,h3⟩
theorem Tu{R:Type}{P:Program}{S:qY}(hS:B7 P S):dM P (Bo (R:=R) S):=by
 intro f vs h k r e;unfold Bo at e;split at e<;>try cases e
 rename_i s hs;obtain⟨hf,hp⟩:=hS f s hs;split at e
 case h_2=>
  split at e<;>try cases e
  rename_i d h' hd;obtain⟨x,hx,hk⟩:=vY e;refine⟨true,_,h',hk,(fun q=>by cases q),hf,?_⟩;intro X args hX H hR;subst hX;obtain⟨F,hA⟩:=rB H hd hR;refine(hp d x hx X.w (Cx.out ⟨X.s,h',X.w,X.A⟩) args (fun b hb=>hb.elim (F.H.alt b) F.H.vX) hA).mono ?_;rintro e w' ⟨us,rfl,B,hA'⟩;have E:aB ⟨X.s,h',X.w,X.A⟩ ⟨X.s,h',w',X.A⟩:=⟨B.os,B.tape,B.output,B.size,fun _ _ h=>h,fun _ _ _ h=>h,ol _,fun b hb _=>B.block b hb,fun b h=>.inl h,fun j n _ h=>h,fun _ _ _=>rfl,rfl⟩;refine⟨⟨X.s,h',w',X.A⟩,ka us,rfl,rfl,rfl,?_,F.E.trans E,vO (tB hA')⟩;refine⟨?_,F.H.inj,F.H.lt,F.H.cr,fun b hb=>rg (F.H.alt b hb) B.size,F.H.loc⟩;intro i o l h1 h2;refine(F.H.obj i o l h1 h2).ext (E.dw F.H) ?_;intro b hb;exact B.block b (F.H.i6 h1 h2 hb)
 rename_i d h' hd;obtain⟨x,hx,hk⟩:=vY e;refine⟨false,_,h,hk,fun _=>dF.refl h,hf,?_⟩;intro X args hX H hR;subst hX;obtain⟨F,hA⟩:=rB H hd hR;have hout:∀b,Cx.out ⟨X.s,h',X.w,X.A⟩ b->X.out b:=by
  rintro b (q|⟨i,o,c,h1,h2⟩)
  .exact .inl q
  .exact .inr ⟨i,o,c,F.sub i o h1,h2⟩
 refine(hp d x hx X.w (Cx.out ⟨X.s,h',X.w,X.A⟩) args (fun b hb=>(hout b hb).elim (H.alt b) H.vX) hA).mono ?_;rintro e w' ⟨us,rfl,B,hA'⟩;have hw:∀b o,X.w.heap[b]?=some o->w'.heap[b]?=some o:=fun b o q=>by rw[B.block b (gW q)];exact q
 have E:aB X ⟨X.s,X.h,w',X.A⟩:=⟨B.os,B.tape,B.output,B.size,fun _ _ h=>h,fun _ _ _ h=>h,ol _,fun b hb _=>B.block b hb,fun b h=>.inl h,fun j n _ h=>h,fun _ _ _=>rfl,rfl⟩;have hA'':jr w' X.out s.τs x us:=by cases hpl:nV s.τs with|true=>exact QP hpl hA'|false=>rw[hpl]at hd;have:=QZ hd;subst this;exact hA'
 refine⟨⟨X.s,X.h,w',X.A⟩,ka us,rfl,rfl,rfl,?_,E,vO (tB hA'')⟩;refine⟨?_,H.inj,H.lt,H.cr,fun b hb=>rg (H.alt b hb) B.size,H.loc⟩;intro i o l h1 h2;refine(H.obj i o l h1 h2).ext (E.dw H) ?_;intro b hb;exact B.block b (H.i6 h1 h2 hb)
def gJ(n:Nat):List AV->Nat->Tr AV->Option (Tr AV)
 |[],_,T=>some T|v::l,i,T=>match cW n T (some i) v with|some T=>gJ n l (i+1) T|none=>none
theorem qp{n:Nat}:∀{vs:List AV}{i:Nat}{T T':Tr AV},gJ n vs i T=some T'->∀t v,T'.get t=some v->(i<=t/\vs[t-i]?=some v)\/T.get t=some v
 |[],i,T,T',h,t,v,hv=>by simp[gJ]at h;subst h;exact .inr hv|x::l,i,T,T',h,t,v,hv=>by
  simp only[gJ]at h;split at h<;>try cases h
  rename_i T₁ h₁;rcases qp h t v hv with⟨hi,hl⟩|hT
  .left
   grind
  .rw[jN h₁ t]at hT
   grind
theorem KO{n:Nat}:∀{vs:List AV}{i:Nat}{T T':Tr AV},gJ n vs i T=some T'->vs=[]\/i+vs.length<=n
 |[],i,T,T',h=>.inl rfl|x::l,i,T,T',h=>by
  right;simp only[gJ]at h;split at h<;>try cases h
  rename_i T₁ h₁;have:i+1<=n:=BK h₁;rcases KO h with q|q
  .subst q;simp;omega
  .simp;omega
theorem tA{X:Cx}(H:ab X){n:Nat}{vs:List AV}{T:Tr AV}(h:gJ n vs 0 .nil=some T){args:kw}(R:bc X vs args) :
  RF X n ⟨T,X.h⟩ { tmps:=List.toArray args++Array.replicate (n-(List.toArray args).size) undef,defers:=[] }:=by
 have hL:=R.length;have hn:args.length<=n:=by
  rcases KO h with q|q
  .subst q;simp at hL;simp[hL]
  .omega
 refine⟨rfl,⟨by simp;omega,rfl,?_⟩,H⟩;intro t u hu;rcases qp h t u hu with⟨_,h1⟩|h1
 .simp only[Nat.sub_zero]at h1;obtain⟨V,h2,h3⟩:=R.get h1
  grind
 .simp[Tr.get]at h1
def gV(P:Program)(st:St):List ResultVar->Option (List AV)
 |[]=>some []|r::l=>match(match r with
   |.tmp t=>st.T.get t|.cell a t=>match st.T.get a with
    |some u=>match jP P st.h t u with|some (true,v)=>some v|_=>none
    |none=>none)with
  |some v=>match gV P st l with|some vs=>some (v::vs)|none=>none
  |none=>none
theorem WQ{X:Cx}{P:Program}{u v:AV}{U V:Value}{t:TypeId}(H:ab X)(e:jP P X.h t u=some (true,v))(R:Rel X u U)(hr:(Instr.loadAt t U).run P X.w=.ok V X.w) :
  (do loadVar t (<- asAddr U):Sem Value).run P X.w=.ok V X.w:=by
 unfold jP at e;split at e<;>try cases e
 rename_i g l o hc;split at e<;>try cases e
 obtain⟨b,off,c,ty,fr,cs,rfl,h1,h2,h3⟩:=QJ H hc rfl R;simp only[Instr.loadAt,Instr.sureAddr,asAddr,Sem.run_bind,Sem.run_pure,Result.andThen_ok]at hr |-;exact hr
theorem tD{P:Program}{st:St}{X:Cx}{n:Nat}{a:Act}(R:RF X n st a)(f:ResultVar->Sem Value)
  (hf:∀r,f r=match r with|.tmp t=>pure (a.tmps.getD t undef)|.cell x t=>do loadVar t (<- asAddr (a.tmps.getD x undef))) :
  ∀{l:List ResultVar}{vs:List AV},gV P st l=some vs->∃Vs,(l.mapM f).run P X.w=.ok Vs X.w/\bc X vs Vs
 |[],vs,h=>by simp[gV]at h;subst h;exact⟨[],rfl,rfl⟩|r::l,vs,h=>by
  simp only[gV]at h;split at h<;>try cases h
  rename_i v hv;split at h<;>try cases h
  rename_i vs' hl;obtain⟨Vs,ih,hR⟩:=tD R f hf hl;have h1:∃V,(f r).run P X.w=.ok V X.w/\Rel X v V:=by
   rw[hf r];cases r with
   |tmp t=>
    obtain⟨V,g1,g2⟩:=R.T.get t v hv
    simp_all
   |cell x t=>
    simp only[]at hv |-;split at hv<;>try cases hv
    rename_i u hu;split at hv<;>cases hv;rename_i hv;obtain⟨U,g1,g2⟩:=R.T.get x u hu;have hX:=R.h;rw[<-hX]at hv;obtain⟨V,hr,hR⟩:=tw R.H hv rfl g2;refine⟨V,?_,hR⟩;have hx':a.tmps.getD x undef=U:=by simp[In,g1]
    rw[hx'];exact WQ R.H hv g2 hr
  obtain⟨V,h1,h2⟩:=h1;refine⟨V::Vs,?_,V,Vs,rfl,h2,hR⟩
  simp_all
theorem o5{P:Program}{st:St}{X:Cx}{n:Nat}{a:Act}(R:RF X n st a){fn:Func}{vs:List AV}(h:gV P st fn.results.toList=some vs) :
  ∃Vs,(results fn a.tmps).run P X.w=.ok (ka Vs) X.w/\bc X vs Vs:=by
 obtain⟨Vs,h1,hR⟩:=tD R _ (fun r=>rfl) h;refine⟨Vs,?_,hR⟩;unfold results;rw[Sem.run_bind,acb,Sem.run_map];have h2:(List.mapM (fun x=>match x with|.tmp t=>pure (a.tmps.getD t undef)|.cell x t=>do loadVar t (<- asAddr (a.tmps.getD x undef)):ResultVar->Sem Value) fn.results.toList).run P X.w=.ok Vs X.w:=h1;refine(abp (fun r=>((Result.andThen r _).andThen _)) h2).trans ?_;simp only[Result.andThen_ok,Sem.run_pure];congr 1
 match Vs with|[]=>simp[ka]|[v]=>simp[ka]|u::v::l=>simp[ka]
inductive LA where
 |int (k:IntKind)
 |bool
 |str
 |fz (τ:Sh)
 |cK
 |bu
 |cR
 |cQ
 |dy
 |ij
 |dt (τ:Sh)
 |eC (σ:Sh) (o:Nat)
 |cY (b z o:Nat)
 |rp (b:Nat)
 |ptr (b off:Nat)
 |hd (b:Nat) (τ:Sh)
 |mp (b:Nat)
 |dA (b:Nat)
 |func (f:FuncId) (x c:List LA)
 |agg (l:List LA)
 |bD (l:List LA)
@[match_pattern] abbrev LA.I:LA:=.int .i64
mutual
def σA:LA->List Sh->List Sh
 |.int k,r=>.int k::r|.bool,r=>.bool::r|.str,r=>.str::r|.fz τ,r=>.sl τ::r|.cK,r=>r|.bu,r=>r|.cR,r=>r|.cQ,r=>r|.dy,r=>r|.ij,r=>r|.dt τ,r=>.bool::.sl τ::r|.eC σ _,r=>σ::r|.cY _ _ _,r=>.int .i64::r|.rp _,r=>.int .i64::r|.ptr _ _,r=>r|.hd _ _,r=>r|.mp _,r=>r|.dA _,r=>r|.func _ x c,r=>fE x (fE c r)|.agg l,r=>fE l r|.bD l,r=>fE l r
termination_by structural x=>x
def fE:List LA->List Sh->List Sh
 |[],r=>r|a::l,r=>σA a (fE l r)
termination_by structural x=>x
end
mutual
def lD:(a:LA)->(r:List Sh)->TL (σA a r)->AV×TL r
 |.int k,r,d=>(.int k d.1,d.2)|.bool,r,d=>(.bool d.1,d.2)|.str,r,d=>(.str d.1,d.2)|.fz τ,r,d=>(.fz τ d.1,d.2)|.cK,r,d=>(.cK,d)|.bu,r,d=>(.bu,d)|.cR,r,d=>(.cR,d)|.cQ,r,d=>(.cQ,d)|.dy,r,d=>(.dy,d)|.ij,r,d=>(.ij,d)|.dt τ,r,d=>(.dt τ d.1 d.2.1,d.2.2)|.eC σ o,r,d=>(.eC σ d.1 o,d.2)|.cY b z o,r,d=>(.cY b (Int.toNat d.1) z o,d.2)|.rp b,r,d=>(.rp b (Int.toNat d.1),d.2)|.ptr b o,r,d=>(.ptr b o,d)|.hd b τ,r,d=>(.hd b τ,d)|.mp b,r,d=>(.mp b,d)|.dA b,r,d=>(.dA b,d)|.func f x c,r,d=>(.func f (fR x (fE c r) d).1 (fR c r (fR x (fE c r) d).2).1,(fR c r (fR x (fE c r) d).2).2)|.agg l,r,d=>(.agg (fR l r d).1,(fR l r d).2)|.bD l,r,d=>(.bD (fR l r d).1,(fR l r d).2)
termination_by structural x=>x
def fR:(l:List LA)->(r:List Sh)->TL (fE l r)->List AV×TL r
 |[],r,d=>([],d)|a::l,r,d=>((lD a (fE l r) d).1::(fR l r (lD a (fE l r) d).2).1,(fR l r (lD a (fE l r) d).2).2)
termination_by structural x=>x
end
def Pr(k:IntKind):AV->Option Int
 |.int k' n=>match Nat.beq (Ev.IntKind.num k') (Ev.IntKind.num k)with|true=>some n|false=>none
 |_=>none
def J9:AV->Option Bool
 |.bool b=>some b|_=>none
def Pv:AV->Option ByteArray
 |.str s=>some s|_=>none
def Rg(τ:Sh):AV->Option (List τ.T)
 |.fz τ' L=>match e:τ'.eqv τ with|true=>some (ja e L)|false=>none
 |.bu=>some []|_=>none
def VE{σ τ:Sh}(h:σ.eqv τ=true)(d:σ.T):τ.T:=Sh.eg h▸d
def E0(σ:Sh)(o:Nat):AV->Option σ.T
 |.eC σ' d o'=>match e:σ'.eqv σ,Nat.beq o' o with|true,true=>some (VE e d)|_,_=>none
 |_=>none
theorem SY{σ:Sh}{o:Nat}{v:AV}{d:σ.T}(h:E0 σ o v=some d){X:Cx}{V:Value}(R:Rel X v V):Rel X (.eC σ d o) V:=by
 unfold E0 at h;split at h<;>try cases h
 rename_i σ' d' o';split at h<;>try cases h
 rename_i e q;have q:=aW q;subst q;obtain rfl:=Sh.eg e;exact R
def pZ:LA->AV->Bool
 |.cK,v=>match v with|.cK=>true|_=>false
 |.bu,v=>match v with|.bu=>true|_=>false
 |.cR,v=>match v with|.cR=>true|_=>false
 |.cQ,v=>match v with|.cQ=>true|_=>false
 |.dy,v=>match v with|.dy=>true|_=>false
 |_,_=>false
def Bg(b z o:Nat):AV->Option Int
 |.cY b' i z' o'=>match Nat.beq b' b,Nat.beq z' z,Nat.beq o' o with|true,true,true=>some (Int.ofNat i)|_,_,_=>none
 |_=>none
def H7(b:Nat):AV->Option Int
 |.rp b' i=>match Nat.beq b' b with|true=>some (Int.ofNat i)|_=>none
 |_=>none
theorem T5{b:Nat}{v:AV}{n:Int}(h:H7 b v=some n):v=.rp b n.toNat:=by
 unfold H7 at h;split at h<;>try cases h
 split at h<;>cases h
 simp_all
theorem aaC{b z o:Nat}{v:AV}{n:Int}(h:Bg b z o v=some n):v=.cY b n.toNat z o:=by
 unfold Bg at h;split at h<;>try cases h
 split at h<;>cases h
 simp_all
def Pt(b o:Nat):AV->Bool
 |.ptr b' o'=>match Nat.beq b' b with|true=>Nat.beq o' o|false=>false
 |_=>false
def Rh(b:Nat):AV->Bool
 |.hd b' _=>Nat.beq b' b|_=>false
def Ri(b:Nat):AV->Bool
 |.mp b'=>Nat.beq b' b|_=>false
def Pu(b:Nat):AV->Bool
 |.dA b'=>Nat.beq b' b|_=>false
def Ka(f:FuncId):AV->Option (List AV×List AV)
 |.func f' x c=>match Nat.beq f' f with|true=>some (x,c)|false=>none
 |_=>none
def Pp:AV->Option (List AV)
 |.agg l=>some l|_=>none
def Pw:AV->Option (List AV)
 |.bD l=>some l|_=>none
def ks{α β:Type}(x:Option α)(d:β):Option (α×β):=match x with|some a=>some (a,d)|none=>none
def kM{β:Type}(x:Bool)(d:β):Option β:=match x with|true=>some d|false=>none
theorem lM{α β:Type}{x:Option α}{d:β}{y:α×β}(h:ks x d=some y):x=some y.1/\y.2=d:=by
 cases x with
 |none=>cases h
 |some a=>cases h;exact⟨rfl,rfl⟩
theorem lH{β:Type}{x:Bool}{d y:β}(h:kM x d=some y):x=true/\y=d:=by
 cases x with
 |false=>cases h
 |true=>cases h;exact⟨rfl,rfl⟩
mutual
def p9:(a:LA)->(r:List Sh)->AV->TL r->Option (TL (σA a r))
 |.int k,r,v,d=>ks (Pr k v) d|.bool,r,v,d=>ks (J9 v) d|.str,r,v,d=>ks (Pv v) d|.fz τ,r,v,d=>ks (Rg τ v) d|.cK,r,v,d=>kM (pZ .cK v) d|.bu,r,v,d=>kM (pZ .bu v) d|.cR,r,v,d=>kM (pZ .cR v) d|.cQ,r,v,d=>kM (pZ .cQ v) d|.dy,r,v,d=>kM (pZ .dy v) d|.ij,r,v,d=>kM (one v) d|.dt τ,r,v,d=>none|.eC σ o,r,v,d=>ks (E0 σ o v) d|.cY b z o,r,v,d=>ks (Bg b z o v) d|.rp b,r,v,d=>ks (H7 b v) d|.ptr b o,r,v,d=>kM (Pt b o v) d|.hd b τ,r,v,d=>kM (Rh b v) d|.mp b,r,v,d=>kM (Ri b v) d|.dA b,r,v,d=>kM (Pu b v) d|.func f x c,r,v,d=>match Ka f v with
  |some p=>match jU c r p.2 d with|some d=>jU x (fE c r) p.1 d|none=>none
  |none=>none
 |.agg l,r,v,d=>match Pp v with|some l'=>jU l r l' d|none=>none
 |.bD l,r,v,d=>match Pw v with|some l'=>jU l r l' d|none=>none
termination_by structural x=>x
def jU:(l:List LA)->(r:List Sh)->List AV->TL r->Option (TL (fE l r))
 |[],r,vs,d=>match vs with|[]=>some d|_=>none
 |a::l,r,vs,d=>match vs with
  |v::vs=>match jU l r vs d with|some d=>p9 a (fE l r) v d|none=>none
  |[]=>none
termination_by structural x=>x
end
theorem tG{a:LA}{v:AV}(h:pZ a v=true)(X:Cx)(V:Value)(R:Rel X v V)(r:List Sh)(d:TL (σA a r)):Rel X (lD a r d).1 V:=by cases a<;>cases v<;>first|exact R|cases h
mutual
theorem Lz:∀(a:LA) (r:List Sh) (v:AV) (d:TL r) (d':TL (σA a r)),p9 a r v d=some d'->(lD a r d').2=d/\∀X V,Rel X v V->Rel X (lD a r d').1 V
 |.int k,r,v,d,d',e=>by
  obtain⟨h1,h2⟩:=lM (y:=d') e;refine⟨h2,fun X V h=>?_⟩;unfold Pr at h1;split at h1
  .split at h1
   .rename_i hk;have hk:=Ev.IntKind.qz (aW hk);subst hk;have h1:=aaN h1;show V=.int _ d'.1;rw[<-h1];exact h
   .exact absurd h1 acv
  .exact absurd h1 acv
 |.bool,r,v,d,d',e=>by
  obtain⟨h1,h2⟩:=lM (y:=d') e;refine⟨h2,fun X V h=>?_⟩;unfold J9 at h1;split at h1
  .have h1:=aaN h1;show V=.bool d'.1;rw[<-h1];exact h
  .exact absurd h1 acv
 |.str,r,v,d,d',e=>by
  obtain⟨h1,h2⟩:=lM (y:=d') e;refine⟨h2,fun X V h=>?_⟩;unfold Pv at h1;split at h1
  .have h1:=aaN h1;show V=.string d'.1;rw[<-h1];exact h
  .exact absurd h1 acv
 |.fz τ,r,v,d,d',e=>by
  obtain⟨h1,h2⟩:=lM (y:=d') e;refine⟨h2,fun X V h=>?_⟩;unfold Rg at h1;show Cs X.w X.out (.sl τ) d'.1 [V];split at h1
  .split at h1
   .rename_i he;have h1:=aaN h1;rw[<-h1];exact zC he h
   .exact absurd h1 acv
  .have h1:=aaN h1;rw[<-h1,show V=_ from h];exact⟨none,0,0,rfl,rfl,ol _,fun q=>absurd rfl q⟩
  .exact absurd h1 acv
 |.cK,r,v,d,d',e=>by obtain⟨h1,h2⟩:=lH (y:=d') e;exact⟨h2,fun X V h=>tG h1 X V h r d'⟩
 |.bu,r,v,d,d',e=>by obtain⟨h1,h2⟩:=lH (y:=d') e;exact⟨h2,fun X V h=>tG h1 X V h r d'⟩
 |.cR,r,v,d,d',e=>by obtain⟨h1,h2⟩:=lH (y:=d') e;exact⟨h2,fun X V h=>tG h1 X V h r d'⟩
 |.cQ,r,v,d,d',e=>by obtain⟨h1,h2⟩:=lH (y:=d') e;exact⟨h2,fun X V h=>tG h1 X V h r d'⟩
 |.dy,r,v,d,d',e=>by obtain⟨h1,h2⟩:=lH (y:=d') e;exact⟨h2,fun X V h=>tG h1 X V h r d'⟩
 |.ij,r,v,d,d',e=>by obtain⟨h1,h2⟩:=lH (y:=d') e;exact⟨h2,fun X V h=>Mb h1 h⟩
 |.dt τ,r,v,d,d',e=>by cases e
 |.eC σ o,r,v,d,d',e=>by obtain⟨h1,h2⟩:=lM (y:=d') e;exact⟨h2,fun X V h=>SY h1 h⟩
 |.cY b z o,r,v,d,d',e=>by obtain⟨h1,h2⟩:=lM (y:=d') e;refine⟨h2,fun X V h=>?_⟩;have:=aaC h1;subst this;exact h
 |.rp b,r,v,d,d',e=>by obtain⟨h1,h2⟩:=lM (y:=d') e;refine⟨h2,fun X V h=>?_⟩;have:=T5 h1;subst this;exact h
 |.ptr b o,r,v,d,d',e=>by
  obtain⟨h1,h2⟩:=lH (y:=d') e;refine⟨h2,fun X V h=>?_⟩;unfold Pt at h1;split at h1
  .split at h1
   .rename_i q;have q:=aW q;have h1:=aW h1;subst q;subst h1;exact h
   .cases h1
  .cases h1
 |.hd b τ,r,v,d,d',e=>by
  obtain⟨h1,h2⟩:=lH (y:=d') e;refine⟨h2,fun X V h=>?_⟩;unfold Rh at h1;split at h1
  .have h1:=aW h1;subst h1;exact h
  .cases h1
 |.mp b,r,v,d,d',e=>by
  obtain⟨h1,h2⟩:=lH (y:=d') e;refine⟨h2,fun X V h=>?_⟩;unfold Ri at h1;split at h1
  .have h1:=aW h1;subst h1;exact h
  .cases h1
 |.dA b,r,v,d,d',e=>by
  obtain⟨h1,h2⟩:=lH (y:=d') e;refine⟨h2,fun X V h=>?_⟩;unfold Pu at h1;split at h1
  .have h1:=aW h1;subst h1;exact h
  .cases h1
 |.func f x c,r,v,d,d',e=>by
  unfold p9 at e;split at e<;>try cases e
  rename_i p hp;split at e<;>try cases e
  rename_i ads h₁;obtain⟨a1,a2⟩:=oX c r p.2 d ads h₁;obtain⟨b1,b2⟩:=oX x (fE c r) p.1 ads d' e;refine⟨by show(fR c r (fR x (fE c r) d').2).2=d;rw[b1,a1],?_⟩;intro X V h;unfold Ka at hp;split at hp<;>try cases hp
  split at hp<;>cases hp;rename_i q;have q:=aW q;subst q;obtain⟨xs,cs,h1,h2,h3⟩:=h;refine⟨xs,cs,h1,b2 X _ h2,?_⟩;rw[b1];exact a2 X _ h3
 |.agg l,r,v,d,d',e=>by
  unfold p9 at e;split at e<;>try cases e
  rename_i p hp;obtain⟨a1,a2⟩:=oX l r p d d' e;refine⟨a1,?_⟩;intro X V h;unfold Pp at hp;split at hp<;>cases hp;obtain⟨cs,h1,h2⟩:=h;exact⟨cs,h1,a2 X _ h2⟩
 |.bD l,r,v,d,d',e=>by
  unfold p9 at e;split at e<;>try cases e
  rename_i p hp;obtain⟨a1,a2⟩:=oX l r p d d' e;refine⟨a1,?_⟩;intro X V h;unfold Pw at hp;split at hp<;>cases hp;obtain⟨cs,h1,h2⟩:=h;exact⟨cs,h1,a2 X _ h2⟩
theorem oX:∀(l:List LA) (r:List Sh) (vs:List AV) (d:TL r) (d':TL (fE l r)),jU l r vs d=some d'->(fR l r d').2=d/\∀X cs,bc X vs cs->bc X (fR l r d').1 cs
 |[],r,vs,d,d',e=>by
  unfold jU at e;split at e
  .have e:d=d':=aaN e;exact⟨e.symm,fun X V h=>h⟩
  .cases e
 |a::l,r,vs,d,d',e=>by
  unfold jU at e;split at e<;>try cases e
  rename_i v vs;split at e<;>try cases e
  rename_i ads h₁;obtain⟨a1,a2⟩:=oX l r vs d ads h₁;obtain⟨b1,b2⟩:=Lz a (fE l r) v ads d' e;refine⟨by show(fR l r (lD a (fE l r) d').2).2=d;rw[b1,a1],?_⟩;rintro X cs ⟨V,t,rfl,h1,h2⟩;refine⟨V,t,rfl,b2 X V h1,?_⟩;show bc X (fR l r (lD a (fE l r) d').2).1 t;rw[b1];exact a2 X _ h2
end
inductive LO where
 |cells (l:List LA) (ty:TypeId)
 |arr (τ:Sh) (ty:TypeId)
 |map (κ:IntKind) (σ:Sh)
 |d7 (ty:TypeId)
 |cT (τ:Sh) (l:List LA) (ty:TypeId)
def V9:Sh:=.agg [.I,.I,.sl (.agg [.int .u64,.int .u64])]
def σO:LO->List Sh->List Sh
 |.cells l _,r=>fE l r|.arr τ _,r=>.sl τ::r|.map κ σ,r=>.sl (.agg [.int κ,σ])::r|.d7 _,r=>.sl V9::r|.cT τ l _,r=>.int .i64::.sl τ::fE l r
def qb:(o:LO)->(r:List Sh)->TL (σO o r)->aI×TL r
 |.cells l ty,r,d=>(.cells (fR l r d).1 ty,(fR l r d).2)|.arr τ ty,r,d=>(.arr τ d.1 ty,d.2)|.map κ σ,r,d=>(.map κ σ d.1,d.2)|.d7 ty,r,d=>(.d7 d.1 ty,d.2)|.cT τ l ty,r,d=>(.cT τ (Int.toNat d.1) d.2.1 (fR l r d.2.2).1 ty,(fR l r d.2.2).2)
def Ck(ty:TypeId):aI->Option (List AV)
 |.cells vs ty'=>match Nat.beq ty' ty with|true=>some vs|false=>none
 |_=>none
def Pq(τ:Sh)(ty:TypeId):aI->Option (List τ.T)
 |.arr τ' L ty'=>match e:τ'.eqv τ,Nat.beq ty' ty with|true,true=>some (ja e L)|_,_=>none
 |_=>none
def VD{σ τ:Sh}(h:σ.eqv τ=true)(M:cU σ):cU τ:=Sh.eg h▸M
def Ps(κ:IntKind)(σ:Sh):aI->Option (cU σ)
 |.map κ' σ' M=>match e:σ'.eqv σ,jc κ' κ with|true,true=>some (VD e M)|_,_=>none
 |_=>none
def Kc(ty:TypeId):aI->Option (List gR)
 |.d7 L ty'=>match Nat.beq ty' ty with|true=>some L|false=>none
 |_=>none
def xD(τ:Sh)(ty:TypeId):aI->Option (Nat×List τ.T×List AV)
 |.cT τ' i L vs ty'=>match e:τ'.eqv τ,Nat.beq ty' ty with|true,true=>some (i,ja e L,vs)|_,_=>none
 |_=>none
theorem T4{τ:Sh}{ty:TypeId}{v:aI}{p:Nat×List τ.T×List AV}(h:xD τ ty v=some p):v=.cT τ p.1 p.2.1 p.2.2 ty:=by
 unfold xD at h;split at h<;>try cases h
 rename_i τ' i L vs ty';split at h
 .rename_i he hty;have hty:=aW hty;subst hty;have:=Sh.eg he;subst this;have h:=aaN h;rw[<-h];rfl
 .cases h
def E1:(o:LO)->(r:List Sh)->aI->TL r->Option (TL (σO o r))
 |.cells l ty,r,v,d=>match Ck ty v with|some vs=>jU l r vs d|none=>none
 |.arr τ ty,r,v,d=>ks (Pq τ ty v) d|.map κ σ,r,v,d=>ks (Ps κ σ v) d|.d7 ty,r,v,d=>ks (Kc ty v) d|.cT τ l ty,r,v,d=>match xD τ ty v with
  |some p=>match jU l r p.2.2 d with|some d=>some (Int.ofNat p.1,p.2.1,d)|none=>none
  |none=>none
structure ae where
 T:List (Tmp×LA)
 h:List (Nat×LO)
 nx:Nat
def σT:List (Tmp×LA)->List Sh->List Sh
 |[],r=>r|p::l,r=>σA p.2 (σT l r)
def σH:List (Nat×LO)->List Sh->List Sh
 |[],r=>r|p::l,r=>σO p.2 (σH l r)
def ae.σs(l:ae):List Sh:=σT l.T (σH l.h [])
def xH(n:Nat):(l:List (Tmp×LA))->(r:List Sh)->TL (σT l r)->Option (Tr AV×TL r)
 |[],r,d=>some (.nil,d)|p::l,r,d=>match xH n l r (lD p.2 (σT l r) d).2 with
  |some (T,d')=>match cW n T (some p.1) (lD p.2 (σT l r) d).1 with|some T=>some (T,d')|none=>none
  |none=>none
def sG:(l:List (Nat×LO))->(r:List Sh)->TL (σH l r)->Option (Tr aI)
 |[],r,d=>some .nil|p::l,r,d=>match sG l r (qb p.2 (σH l r) d).2 with|some t=>Tr.set FT t p.1 (some (qb p.2 (σH l r) d).1)|none=>none
def j5(T:Tr AV):(l:List (Tmp×LA))->(r:List Sh)->TL r->Option (TL (σT l r))
 |[],r,d=>some d|p::l,r,d=>match j5 T l r d with
  |some d=>match T.get p.1 with|some v=>p9 p.2 (σT l r) v d|none=>none
  |none=>none
def xE(t:Tr aI):(l:List (Nat×LO))->(r:List Sh)->TL r->Option (TL (σH l r))
 |[],r,d=>some d|p::l,r,d=>match xE t l r d with
  |some d=>match t.get p.1 with|some v=>E1 p.2 (σH l r) v d|none=>none
  |none=>none
def ae.put(n:Nat)(l:ae)(d:TL l.σs):Option St:=match xH n l.T (σH l.h []) d with
 |some (T,d)=>match sG l.h [] d with|some t=>some ⟨T,⟨t,l.nx⟩⟩|none=>none
 |none=>none
def ae.get(l:ae)(st:St):Option (TL l.σs):=match xE st.h.tr l.h [] ()with|some d=>j5 st.T l.T (σH l.h []) d|none=>none
theorem Lx{n:Nat}{adh:Tr AV}:∀{l:List (Tmp×LA)}{r:List Sh}{d:TL r}{d':TL (σT l r)},j5 adh l r d=some d'->∀{T:Tr AV}{adt:TL r},xH n l r d'=some (T,adt)->adt=d /\
  ∀t v',T.get t=some v'->∃v,adh.get t=some v/\∀X V,Rel X v V->Rel X v' V
 |[],r,d,d',e,T,adt,h=>by have e:d=d':=aaN e;have h:(Tr.nil,d')=(T,adt):=aaN h;have h1:Tr.nil=T:=abp Prod.fst h;have h2:d'=adt:=abp Prod.snd h;subst h1;exact⟨h2.symm.trans e.symm,fun t v' q=>by simp[Tr.get]at q⟩|p::l,r,d,d',e,T,adt,h=>by
  simp only[j5]at e;split at e<;>try cases e
  rename_i ads h₁;split at e<;>try cases e
  rename_i v hv;obtain⟨a1,a2⟩:=Lz _ _ _ _ _ e;simp only[xH]at h;split at h<;>try cases h
  rename_i T₁ adu hp;rw[a1]at hp;obtain⟨b1,b2⟩:=Lx h₁ hp;split at h<;>cases h;rename_i hs;refine⟨b1,?_⟩;intro t v' q;rw[jN hs t]at q
  grind
def px(o o':aI):Prop:=(∀X l,bS X l o->bS X l o')/\∀n,o'.row=some n->o.row=some n
theorem aaj(τ:Sh)(l:List LA)(ty:TypeId)(r:List Sh)(v:aI)(d:TL r)(d':TL (σO (.cT τ l ty) r))(e:E1 (.cT τ l ty) r v d=some d'):(qb (.cT τ l ty) r d').2=d/\px v (qb (.cT τ l ty) r d').1:=by
 have e2:(match xD τ ty v with
  |some p=>match jU l r p.2.2 d with|some d=>some (Int.ofNat p.1,p.2.1,d)|none=>none
  |none=>none)=some d':=e
 split at e2<;>try cases e2
 rename_i p hv;split at e2<;>try cases e2
 rename_i ads h₁;obtain⟨a1,a2⟩:=oX _ _ _ _ _ h₁;have hv:=T4 hv;subst hv;refine⟨a1,?_,fun n q=>q⟩;rintro X l' ⟨b,c,pre,mid,post,tail,h0,h1,h2,h3,h4⟩;exact⟨b,c,pre,mid,post,tail,h0,h1,h2,a2 X mid h3,h4⟩
theorem S0:∀(o:LO) (r:List Sh) (v:aI) (d:TL r) (d':TL (σO o r)),E1 o r v d=some d'->(qb o r d').2=d/\px v (qb o r d').1
 |.cells l ty,r,v,d,d',e=>by
  have e2:(match Ck ty v with|some vs=>jU l r vs d|none=>none)=some d':=e;split at e2<;>try cases e2
  rename_i vs hv;unfold Ck at hv;split at hv<;>try cases hv
  split at hv<;>cases hv;rename_i h;have h:=aW h;subst h;obtain⟨a1,a2⟩:=oX _ _ _ _ _ e2;refine⟨a1,?_,fun n q=>by cases q⟩;rintro X l' ⟨b,c,cs,h1,h2,h3⟩;exact⟨b,c,cs,h1,h2,a2 X cs h3⟩
 |.arr τ ty,r,v,d,d',e=>by
  obtain⟨h1,h2⟩:=lM (y:=d') e;refine⟨h2,?_⟩;show px v (.arr τ d'.1 ty);unfold Pq at h1;split at h1<;>try cases h1
  rename_i τ' L ty';split at h1
  .rename_i he hty;have h1:=aaN h1;rw[<-h1];have hty:=aW hty;subst hty;have:=Sh.eg he;subst this;exact⟨fun X l h=>h,fun n q=>q⟩
  .cases h1
 |.map κ σ,r,v,d,d',e=>by
  obtain⟨h1,h2⟩:=lM (y:=d') e;refine⟨h2,?_⟩;show px v (.map κ σ d'.1);unfold Ps at h1;split at h1<;>try cases h1
  rename_i κ' σ' M;split at h1
  .rename_i he hk;have h1:=aaN h1;rw[<-h1];have hk:=kf hk;subst hk;have:=Sh.eg he;subst this;exact⟨fun X l h=>h,fun n q=>by cases q⟩
  .cases h1
 |.d7 ty,r,v,d,d',e=>by
  obtain⟨h1,h2⟩:=lM (y:=d') e;refine⟨h2,?_⟩;show px v (.d7 d'.1 ty);unfold Kc at h1;split at h1<;>try cases h1
  rename_i L ty';split at h1
  .rename_i hty;have h1:=aaN h1;rw[<-h1];have hty:=aW hty;subst hty;exact⟨fun X l h=>h,fun n q=>by cases q⟩
  .cases h1
 |.cT τ l ty,r,v,d,d',e=>aaj τ l ty r v d d' e
theorem Ly{aeR:Tr aI}:∀{l:List (Nat×LO)}{r:List Sh}{d:TL r}{d':TL (σH l r)},xE aeR l r d=some d'->∀{t:Tr aI},sG l r d'=some t ->
  ∀i o',t.get i=some o'->∃o,aeR.get i=some o/\px o o'
 |[],r,d,d',e,t,h=>by simp only[sG,bf]at h;subst h;exact fun i o' q=>by simp[Tr.get]at q|p::l,r,d,d',e,t,h=>by
  simp only[xE]at e;split at e<;>try cases e
  rename_i ads h₁;split at e<;>try cases e
  rename_i v hv;obtain⟨a1,a2⟩:=S0 _ _ _ _ _ e;simp only[sG]at h;split at h<;>try cases h
  rename_i aeS hp;rw[a1]at hp;have ih:=Ly h₁ hp;intro i o' q;rw[Tr.bE _ _ _ _ _ h i]at q
  grind
