import Derived.Test.YtjflbmpepamfjaaGreatKMd
set_option linter.all false
section
namespace Go.Proofs.YtjflbmpepamfjaaGreat.V
open Go Go.RowKit
open Go.Proofs.YtjflbmpepamfjaaGreat.Ev (Tr Tr.bM nth ct PE ju sY kL xK dI looks tmpsOf xO mw qK iW pM mR qL left mark uG qM cP iw ko oA)
def wf(h:Hp):Prop:=∀id o,h.tr.get id=some o->id<h.next
variable{h:Hp}
theorem wf.le{h':Hp}(w:wf h)(old:∀id,id<h.next->h'.tr.get id=h.tr.get id):eF h h':=fun b o q=>by rw[old b (w b o q)];exact q
structure One(P:Program)(sh:TypeId->Option Sh)(ops:Array Oper)(o:Oper)(st st':St)(v:AV):Prop where
 next:st.h.next<=st'.h.next
 old:∀id,id<st.h.next->st'.h.tr.get id=st.h.tr.get id
 wf:wf st'.h
 same:∀t,o.dst≠some t->st'.T.get t=st.T.get t
 now:PN P sh ops st.h.next st'.T st'.h o v
 dst:∀t,o.dst=some t->st'.T.get t=some v
variable{R:Type}{r:R}{ops:Array Oper}{k:St->Option R}{n:Nat}{o:Oper}{P:Program}{sh:TypeId->Option Sh}
theorem as3{st:St}(e:Ib P sh n ops o st k=some r)
  (hl:∀t,o.dst=some t->t∉looks ops.toList o):∃st' v,k st'=some r/\(wf st.h->One P sh ops o st st' v):=by
 unfold Ib at e;obtain⟨b,T₁,e,aHp,hw⟩:=arW e;have keep:∀{T':Tr AV}{v:AV},dG n T₁ o.dst v=some T'->(∀t∈looks ops.toList o,T'.get t=st.T.get t)/\(∀t,o.dst≠some t->T'.get t=st.T.get t)/\∀t,o.dst=some t->T'.get t=some v:=by
  intro T' v hs;have hg:=lE hs
  grind
 cases b with
 |false=>
  simp only[]at e;split at e<;>try cases e
  rename_i T' hs;obtain⟨k1,k2,k3⟩:=keep hs;refine⟨_,.bB [],e,fun w=>⟨pi _,fun _ _=>rfl,w,k2,.inl ⟨?_,rfl⟩,k3⟩⟩;rw[xM (ops:=ops) (T:=st.T) k1];exact hw
 |true=>
  simp only[]at e;split at e
  .rename_i g ob v ha;split at e<;>try cases e
   rename_i tr T' ht hs;obtain⟨hg,e⟩:=pW e;subst hg;obtain⟨k1,k2,k3⟩:=keep hs;have hgt:=Tr.bM FT st.h.tr st.h.next _ tr ht;obtain⟨m1,m2⟩:=Ej ha;refine⟨_,v,e,fun w=>⟨aGn,?_,?_,k2,.inr (.inr ⟨?_,m1,st.h.next,ob,?_,?_,aGn,pi _⟩),k3⟩⟩
   .intro id hid;show tr.get id=_;rw[hgt id,rx aGl]
   .intro id o' q
    replace q:tr.get id=some o':=q
    rw[hgt id]at q;by_cases p:id=st.h.next
    .simp[p]
    .rw[rx p]at q;have:=w id o' q;simp only;omega
   .rw[xM (ops:=ops) (T:=st.T) k1];exact hw
   .refine NZ ha (fun t q=>?_);show T'.get t=T₁.get t;rw[k1 t (mw q),aHp t]
   .show tr.get _=_;rw[hgt,BY rfl]
  .split at e<;>try cases e
   rename_i g v hr;split at e<;>try cases e
   rename_i T' hs;obtain⟨hg,e⟩:=pW e;subst hg;obtain⟨k1,k2,k3⟩:=keep hs;refine⟨_,v,e,fun w=>⟨pi _,fun _ _=>rfl,w,k2,.inr (.inl ⟨?_,?_,?_⟩),k3⟩⟩
   .rw[xM (ops:=ops) (T:=st.T) k1];exact hw
   .rename_i hna _;cases hm:fw o.op with|false=>rfl|true=>unfold jz at hr;unfold fw at hm;split at hm<;>first|(cases hm;done)|(rename_i hop;rw[hop]at hr;cases hr)
   .refine NV (eF.refl _) hr (fun t q=>?_);rw[k1 t (mw q),aHp t]
structure xA(P:Program)(sh:TypeId->Option Sh)(ops:Array Oper)(q:Nat)(os:List Oper)(ps:List PE)(st st':St):Prop where
 next:st.h.next<=st'.h.next
 old:∀id,id<st.h.next->st'.h.tr.get id=st.h.tr.get id
 wf:wf st'.h
 same:∀t,(∀(x:Nat) (o:Oper) (hi:Nat),os[x]?=some o->ps[x]?=some (.p q hi)->o.dst≠some t)->st'.T.get t=st.T.get t
 done:∀(x:Nat) (o:Oper) (hi:Nat),os[x]?=some o->ps[x]?=some (.p q hi)->∃v,PN P sh ops st.h.next st'.T st'.h o v/\∀t,o.dst=some t->st'.T.get t=some v
 uniq:∀(x y:Nat) (o o':Oper) (hi hi':Nat) (t t':Tmp) (v v':AV) (id:Nat),os[x]?=some o->os[y]?=some o'->ps[x]?=some (.p q hi)->ps[y]?=some (.p q hi')->fw o.op=true->fw o'.op=true ->
  o.dst=some t->o'.dst=some t'->st'.T.get t=some v->st'.T.get t'=some v'->kf v=some id->kf v'=some id->x=y
theorem PN.ids{b:Nat}{T:Tr AV}{v:AV}(p:PN P sh ops b T h o v)(hm:fw o.op=true){id:Nat}(hi:kf v=some id):id<h.next/\b<=id:=by
 rcases p with⟨h1,rfl⟩|⟨h1,h2,h3⟩|⟨h1,h2,id',ob,h3,h4,h5,h6⟩
 .cases hi
 .rw[hm]at h2;cases h2
 .have:=(Ej h3).2
  grind
theorem UF{q:Nat}:∀{os:List Oper}{ps:List PE}{st:St},oH P sh n ops q os ps st k=some r ->
  (∀(x y:Nat) (o o':Oper) (hi hi':Nat) (t:Tmp),os[x]?=some o->os[y]?=some o'->ps[x]?=some (.p q hi)->ps[y]?=some (.p q hi')->x<=y->o'.dst=some t->t∉looks ops.toList o) ->
  (∀(x y:Nat) (o o':Oper) (t:Tmp),os[x]?=some o->os[y]?=some o'->o.dst=some t->o'.dst=some t->x=y) ->
  ∃st',k st'=some r/\(wf st.h->xA P sh ops q os ps st st'):=by
 intro os
 induction os with
 |nil=>intro ps st e _ _;simp only[oH]at e;exact⟨st,e,fun w=>⟨pi _,fun _ _=>rfl,w,fun _ _=>rfl,fun x o hi h=>by simp at h,fun x y o o' hi hi' t t' v v' id h=>by simp at h⟩⟩|cons o os ih=>
  intro ps st e hL hD;cases ps with
  |nil=>simp only[oH]at e;exact⟨st,e,fun w=>⟨pi _,fun _ _=>rfl,w,fun _ _=>rfl,fun x o hi _ h=>by simp at h,fun x y o o' hi hi' t t' v v' id _ _ h=>by simp at h⟩⟩|cons pe ps=>
   simp only[oH]at e;have hL':∀(x y:Nat) (o o':Oper) (hi hi':Nat) (t:Tmp),os[x]?=some o->os[y]?=some o'->ps[x]?=some (.p q hi)->ps[y]?=some (.p q hi')->x<=y->o'.dst=some t->t∉looks ops.toList o:=fun x y o o' hi hi' t h1 h2 h3 h4 h5 h6=>hL (x+1) (y+1) o o' hi hi' t (by simpa using h1) (by simpa using h2) (by simpa using h3) (by simpa using h4) aGl h6;have hD':∀(x y:Nat) (o o':Oper) (t:Tmp),os[x]?=some o->os[y]?=some o'->o.dst=some t->o'.dst=some t->x=y:=fun x y o o' t h1 h2 h3 h4=>by have:=hD (x+1) (y+1) o o' t (by simpa using h1) (by simpa using h2) h3 h4;omega
   have skip:oH P sh n ops q os ps st k=some r->(∀hi,pe≠.p q hi)->∃st',k st'=some r/\(wf st.h->xA P sh ops q (o::os) (pe::ps) st st'):=by
    intro e hne;obtain⟨st',h1,S'⟩:=ih e hL' hD';refine⟨st',h1,fun w=>?_⟩;have S:=S' w;refine⟨S.next,S.old,S.wf,?_,?_,?_⟩
    .intro t ht;exact S.same t (fun x o' hi h1 h2=>ht (x+1) o' hi (by simpa using h1) (by simpa using h2))
    .intro x o' hi h1 h2;cases x with|zero=>simp at h2;exact absurd h2 (hne hi)|succ x=>exact S.done x o' hi (by simpa using h1) (by simpa using h2)
    .intro x y aIk aIl hi hi' t t' v v' id h1 h2 h3 h4;cases x with|zero=>simp at h3;exact absurd h3 (hne hi)|succ x=>cases y with|zero=>simp at h4;exact absurd h4 (hne hi')|succ y=>intro a1 a2 a3 a4 a5 a6 a7 a8;rw[S.uniq x y aIk aIl hi hi' t t' v v' id (by simpa using h1) (by simpa using h2) (by simpa using h3) (by simpa using h4) a1 a2 a3 a4 a5 a6 a7 a8]
   cases pe with
   |w j=>exact skip e (fun hi h=>by cases h)
   |p lo hi=>
    simp only[]at e;cases hb:Nat.beq lo q with
    |false=>simp only[hb]at e;exact skip e (fun h' h=>by cases h;exact NE hb rfl)
    |true=>
     have:=aK hb;subst this;simp only[hb]at e;obtain⟨aIt,aIJ,e,O'⟩:=as3 e (fun t ht=>hL 0 0 o o hi hi t aGn aGn aGn aGn (pi _) ht);obtain⟨st',h1,S'⟩:=ih e hL' hD';refine⟨st',h1,fun w=>?_⟩;have O:=O' w;have S:=S' O.wf;have hle:eF aIt.h st'.h:=O.wf.le S.old;have hlook:∀t∈looks ops.toList o,st'.T.get t=aIt.T.get t:=fun t ht=>S.same t (fun x o' h' q1 q2 q3=>hL 0 (x+1) o o' hi h' t aGn (by simpa using q1) aGn (by simpa using q2) aGl q3 ht);have hdst:∀t,o.dst=some t->st'.T.get t=some aIJ:=fun t ht=>by rw[S.same t (fun x o' h' q1 q2 q3=>by have:=hD 0 (x+1) o o' t aGn (by simpa using q1) ht q3;omega)];exact O.dst t ht
     have aIf:=O.now.congr hlook hle S.next (pi _);refine⟨rt O.next S.next,?_,S.wf,?_,?_,?_⟩
     .intro id hid;rw[S.old id (ro hid O.next),O.old id hid]
     .intro t ht;rw[S.same t (fun x o' h' q1 q2=>ht (x+1) o' h' (by simpa using q1) (by simpa using q2)),O.same t (ht 0 o hi aGn aGn)]
     .intro x o' h' q1 q2;cases x with|zero=>simp at q1;subst q1;exact⟨aIJ,aIf,hdst⟩|succ x=>obtain⟨v,p1,p2⟩:=S.done x o' h' (by simpa using q1) (by simpa using q2);exact⟨v,p1.congr (fun _ _=>rfl) (eF.refl _) (pi _) O.next,p2⟩
     .have cross:∀(y:Nat) (aIk aIl:Oper) (hi':Nat) (t t':Tmp) (v v':AV) (id:Nat),o=aIk->os[y]?=some aIl->ps[y]?=some (.p lo hi')->fw aIk.op=true->fw aIl.op=true->aIk.dst=some t->aIl.dst=some t' ->
        st'.T.get t=some v->st'.T.get t'=some v'->kf v=some id->kf v'=some id->False:=by
       intro y aIk aIl hi' t t' v v' id e1 h2 h4 a1 a2 a3 a4 a5 a6 a7 a8;subst e1;rw[hdst t a3]at a5;cases a5;have b1:=O.now.ids a1 a7;obtain⟨aIK,p1,p2⟩:=S.done y aIl hi' h2 h4;rw[p2 t' a4]at a6;cases a6;have b2:=p1.ids a2 a8;omega
      intro x y aIk aIl aHz aHA t t' v v' id h1 h2 h3 h4 a1 a2 a3 a4 a5 a6 a7 a8;cases x with
      |zero=>cases y with|zero=>rfl|succ y=>exact(cross y aIk aIl aHA t t' v v' id (by simpa using h1) (by simpa using h2) (by simpa using h4) a1 a2 a3 a4 a5 a6 a7 a8).elim
      |succ x=>cases y with|zero=>exact(cross x aIl aIk aHz t' t v' v id (by simpa using h2) (by simpa using h1) (by simpa using h3) a2 a1 a4 a3 a6 a5 a8 a7).elim|succ y=>rw[S.uniq x y aIk aIl aHz aHA t t' v v' id (by simpa using h1) (by simpa using h2) (by simpa using h3) (by simpa using h4) a1 a2 a3 a4 a5 a6 a7 a8]
def CC(P:Program)(ops:Array Oper)(q:Nat)(ch:Bool)(ts:jp)(st:St)(os:List Oper)(ps:List PE):Prop:=∀(x:Nat) (o:Oper) (lo hi:Nat),os[x]?=some o->ps[x]?=some (.p lo hi)->lo<q->q<=hi ->
 (∀t∈looks ops.toList o,t∉ts)/\(ch=true->fw o.op=false->kp ops st.T o=some false\/(kp ops st.T o=some true/\∃v,jz P st.T st.h o=some (true,v)/\∀t,o.dst=some t->st.T.get t=some v))
theorem Vc{R:Type}{P:Program}{ops:Array Oper}{q:Nat}{ch:Bool}{ts:jp}{st:St}{k:Option R}{r:R}:∀{os:List Oper}{ps:List PE},mz P ops q ch ts st os ps k=some r->k=some r/\CC P ops q ch ts st os ps
 |[],ps,e=>⟨by simpa[mz]using e,fun x o lo hi h=>by simp at h⟩|o::os,[],e=>⟨by simpa[mz]using e,fun x o lo hi _ h=>by simp at h⟩|o::os,pe::ps,e=>by
  simp only[mz]at e;have go:mz P ops q ch ts st os ps k=some r->(∀lo hi,pe=.p lo hi->lo<q->q<=hi->(∀t∈looks ops.toList o,t∉ts)/\(ch=true->fw o.op=false->kp ops st.T o=some false\/(kp ops st.T o=some true/\∃v,jz P st.T st.h o=some (true,v)/\∀t,o.dst=some t->st.T.get t=some v))) ->
    k=some r/\CC P ops q ch ts st (o::os) (pe::ps):=by
   intro e h;obtain⟨h1,h2⟩:=Vc e;refine⟨h1,?_⟩;intro x o' lo hi q1 q2;cases x with|zero=>simp at q1 q2;subst q1;exact h lo hi q2|succ x=>exact h2 x o' lo hi (by simpa using q1) (by simpa using q2)
  split at e
  .exact go e (fun lo hi h=>by cases h)
  .rename_i lo hi;split at e
   .split at e<;>try cases e
    rename_i hn;have hn:=Zwt hn;split at e
    .rename_i hm;split at e<;>try cases e
     .rename_i hw;split at e<;>try cases e
      .rename_i g v t hr hd;split at e<;>try cases e
       rename_i u hu;split at e<;>try cases e
       rename_i s hs;obtain⟨hg,e⟩:=pW e;obtain⟨hs',e⟩:=pW e;subst hg;subst hs';have:=UI hs
       grind
      .rename_i g v hr hd;obtain⟨hg,e⟩:=pW e
       grind
     .rename_i hw;exact go e (fun lo' hi' h _ _=>⟨hn,fun _ _=>.inl hw⟩)
    .rename_i hne;exact go e (fun lo' hi' h _ _=>⟨hn,fun h1 h2=>absurd h2 (hne h1)⟩)
   .rename_i hne;refine go e (fun lo' hi' h h1 h2=>?_);cases h;exact absurd (avC h2) (hne (by rw[acl];exact h1))
def AA(P:Program)(sh:TypeId->Option Sh)(n:Nat)(ops:Array Oper)(pl:List PE):Nat->Nat->St->St->Prop
 |0,_,st,fin=>fin=st|r+1,q,st,fin=>∃(i:Nat) (o:Oper) (ch:Bool) (aIt aIu:St) (b:Bool) (T:Tr AV) (v:AV),ops[i]?=some o/\pl[i]?=some (.w (q+1))/\(ch=false->eF st.h aIt.h)/\Az ops st.T o b T/\dG n T o.dst v=some aIt.T /\
   ((b=true/\zE P T st.h o v aIt.h)\/(b=false/\v=.bB []/\aIt.h=st.h))/\(wf aIt.h->xA P sh ops (q+1) ops.toList pl aIt aIu)/\CC P ops (q+1) ch (dl o.dst++qW (q+1) ops.toList pl) aIu ops.toList pl/\AA P sh n ops pl r (q+1) aIu fin
theorem VN{pl:List PE}{m:Nat}(hP:ju ops pl m){x y:Nat}{o':Oper}{lo hi:Nat}{t:Tmp}(h1:ops[x]?=some o)(h2:ops[y]?=some o')(h3:pl[y]?=some (.p lo hi))(hxy:x<=y)(ht:o'.dst=some t):t∉looks ops.toList o:=by intro hl;have:=hP.below x o h1 y (hP.fresh x o h1 t hl y o' lo hi h2 h3 ht);omega
theorem Vq{R:Type}{P:Program}{sh:TypeId->Option Sh}{call:iB R}(hc:db P call){n:Nat}{ops:Array Oper}{pl:List PE}{m:Nat}(hP:ju ops pl m)
  (hD:∀(x y:Nat) (o o':Oper) (t:Tmp),ops.toList[x]?=some o->ops.toList[y]?=some o'->o.dst=some t->o'.dst=some t->x=y) {k:St->Option R}{r:R} :
  ∀(c q:Nat) (st:St),zY P sh call n ops pl c q st k=some r->∃fin,k fin=some r/\AA P sh n ops pl c q st fin
 |0,q,st,e=>⟨st,e,rfl⟩|c+1,q,st,e=>by
  simp only[zY]at e;split at e<;>try cases e
  rename_i o hf;obtain⟨i,h1,h2⟩:=qL hf;obtain⟨ch,aIt,b,T,v,e,hch,W,hT,A⟩:=Zyu hc e;obtain⟨aIu,e,S⟩:=UF e (fun x y o o' hi hi' t q1 q2 q3 q4 q5 q6=>VN hP (by simpa using q1) (by simpa using q2) q4 q5 q6) hD;obtain⟨e,C⟩:=Vc e;obtain⟨fin,hk,rest⟩:=Vq hc hP hD c (q+1) aIu e;exact⟨fin,hk,i,o,ch,aIt,aIu,b,T,v,by simpa using h1,h2,hch,W,hT,A,S,C,rest⟩
end Go.Proofs.YtjflbmpepamfjaaGreat.V
end
section
namespace Go.Proofs.YtjflbmpepamfjaaGreat.Ev
open Go Go.RowKit
section
variable{n:Nat}{ops:Array Oper}{pl:List PE}{aGE:ir}{aHT:Hp}{aIL:World}{q:Nat}{L:Nat->Bool}{a:Act}{w:World}{st:St}{pd:fP}{F:ir}
theorem Inv.due{k m:Nat}(I:Inv n ops pl aGE aHT aIL m q L a w st pd F)(hP:ju ops pl k){i:Nat}{o:Oper}(ho:ops[i]?=some o)(hr:∀e∈dI o,L e=true)
  (hw:pl[i]?=some (.w (q+1))):∀d (x l h:Nat),ops.size<=x+d->pl[x]?=some (.p l h)->h<=q->L x=true:=by
 have hk:q+1<=k:=(hP.w i o (q+1) ho hw).2.1;intro d
 induction d with
 |zero=>
  intro x l h hx hp _;have:x<pl.length:=by grind
  rw[hP.len]at this;omega
 |succ d ih=>
  intro x l h hx hp hh;rcases hP.hi x l h hp with r|⟨z,oz,pe,h1,h2,h3,h4⟩
  .omega
  .have hxz:=hP.below z oz h1 x h3;have hz:L z=true\/z=i:=by
    rcases h4 with⟨j,rfl,hj⟩|⟨l',h',rfl,hh'⟩
    .rcases ww q j with r|r
     .have:j=q+1:=aGl
      subst this;exact .inr (hP.uniq z i _ h2 hw)
     .exact .inl ((I.wl z j h2).2 r)
    grind
   rcases hz with hz|rfl
   .exact I.down z oz h1 hz x h3
   grind
theorem Inv.lay{m:Nat}{pd':fP}{h':Hp}(I:Inv n ops pl aGE aHT aIL m q L a w st pd F)(hdue:∀p∈pd,(∃lo hi,pl[p.1]?=some (.p lo hi)/\hi<=q)->L p.1=true)
  (e:sT pl q pd st.h=some (pd',h')) :
  Inv n ops pl aGE aHT aIL m q L a w ⟨st.T,h'⟩ pd' F/\∀p∈pd',∃lo hi,pl[p.1]?=some (.p lo hi)/\q<hi:=by
 obtain⟨e1,e2,e3⟩:=Zus e;have hE:∀aIw s,F s->Ext aIw aHT aIL s st.h w->Ext aIw aHT aIL s h' w:=by
  intro aIw s hs hE;refine hE.Q3 (by rw[e1];exact pi _) ?_;intro j o hj;rcases e2 j o hj with r|⟨p,hp,hd,rfl,rfl⟩
  .exact .inl ⟨o,r⟩
  .exact .inr ⟨(I.mH p hp (hdue p hp hd) s hs).2.1,I.yA p hp⟩
 have hnd:∀p∈pd',∀p'∈pd,(∃lo hi,pl[p'.1]?=some (.p lo hi)/\hi<=q)->p.2.1≠p'.2.1:=by rintro p hp p' hp' ⟨lo,hi,h1,h2⟩ heq;have:=I.ln p (e3 p hp).1 p' hp' (.inr heq);subst this;obtain⟨_,lo',hi',h3,h4⟩:=e3 p hp;rw[h1]at h3;simp at h3;omega
 refine⟨⟨I.ne,I.size,I.defers,?_,?_,I.tmp,?_,?_,by rw[e1];exact I.low,fun p hp=>I.yA p (e3 p hp).1,?_,?_,?_,?_,I.down,I.wl,I.lo,I.hi⟩,fun p hp=>(e3 p hp).2⟩
 .intro aIw aHK g;obtain⟨s,h1,h2,h3⟩:=I.free aIw aHK g;exact⟨s,h1,hE aIw s h1 h2,fun p hp=>h3 p (e3 p hp).1⟩
 .intro s hs;obtain⟨aIw,h1,h2⟩:=I.px s hs;exact⟨aIw,h1,hE aIw s hs h2⟩
 .intro t v hv;rw[e1];exact I.all t v hv
 .intro s hs;have H:=I.H s hs;refine⟨?_,?_,?_,?_⟩
  .intro j o hj;rcases e2 j o hj with r|⟨p,hp,hd,rfl,rfl⟩
   .exact H.obj j o r
   .exact(I.mH p hp (hdue p hp hd) s hs).1
  .intro j j' o o' hj hj' he;rcases e2 j o hj with r|⟨p,hp,hd,rfl,rfl⟩<;>rcases e2 j' o' hj' with r'|⟨p',hp',hd',rfl,rfl⟩
   .exact H.inj j j' o o' r r' he
   .exact absurd he ((I.mH p' hp' (hdue p' hp' hd') s hs).2.2 j o r)
   .exact absurd he.symm ((I.mH p hp (hdue p hp hd) s hs).2.2 j' o' r')
   .exact I.py p hp p' hp' (hdue p hp hd) (hdue p' hp' hd') s hs he
  .intro j o hj;rw[e1];rcases e2 j o hj with r|⟨p,hp,hd,rfl,rfl⟩
   .exact H.lt j o r
   .exact(I.pid p hp).1
  .intro j o hj;rw[e1];rcases e2 j o hj with r|⟨p,hp,hd,rfl,rfl⟩
   .exact H.ia j o r
   .exact(I.pid p hp).2.2.1
 .intro p hp;obtain⟨p1,p2,p3,p4⟩:=I.pid p (e3 p hp).1;refine⟨by rw[e1];exact p1,?_,by rw[e1];exact p3,p4⟩;cases hg:h'.tr.get p.2.1 with
  |none=>rfl|some o=>
   exfalso;rcases e2 _ o hg with r|⟨p',hp',hd,he,_⟩
   .rw[p2]at r;cases r
   .exact hnd p hp p' hp' hd he
 .intro p hp hL s hs;obtain⟨r1,r2,r3⟩:=I.mH p (e3 p hp).1 hL s hs;refine⟨r1,r2,?_⟩;intro j o hj he;rcases e2 j o hj with r|⟨p',hp',hd,rfl,rfl⟩
  .exact r3 j o r he
  .exact hnd p hp p' hp' hd (I.py p' hp' p (e3 p hp).1 (hdue p' hp' hd) hL s hs he).symm
 .intro p hp p' hp' hL hL' s hs he;exact I.py p (e3 p hp).1 p' (e3 p' hp').1 hL hL' s hs he
 .intro p hp p' hp' he;exact I.ln p (e3 p hp).1 p' (e3 p' hp').1 he
theorem Inv.write{P:Program}{call:Cl}(hcl:db P call){k:Nat}(I:Inv n ops pl aGE aHT aIL (q+1) q L a w st pd F)(hP:ju ops pl k){i:Nat}{o:Oper}(ho:ops[i]?=some o)
  (hr:∀e∈dI o,L e=true) (hw:pl[i]?=some (.w (q+1))) {st':St}(e:uX P call n ops o st=some st') (hgt:∀p∈pd,∃lo hi,pl[p.1]?=some (.p lo hi)/\q<hi)
  {K:Act->World->Prop}{Q:Exit->Act->World->Prop}
  (hK:∀a' w' F',Inv n ops pl aGE aHT aIL (q+1) (q+1) (mark L i) a' w' st' pd F'->(∀(i' l h:Nat),pl[i']?=some (.p l h)->q+1<=l->mark L i i'=false)->K a' w'):wpOp P ops Q i K a w:=by
 obtain⟨aIw,aHK⟩:=I.ne;obtain⟨aIy,aHM,_⟩:=I.free aIw aHK (fun _=>(0,0));have hO:∀s,F s->gF s st.T a o.op:=fun s hs=>sU fun t ht u hu=>I.tmp s hs t u hu (I.sf hP ho hr (mw ht));have hW:∀{b},sO ops st.T o=some b->Region.wanted o (yielded ops a.tmps)=b:=fun hw=>DG hw (fun j b oj t v hg hj hd hv=>I.tmp aIy aHM t v hv (I.sf hP ho hr (qK hg hj hd)));have hdue:=I.due hP ho hr hw;have notI:∀(j l h:Nat),pl[j]?=some (.p l h)->j≠i:=by intro j l h hj e;subst e;rw[hw]at hj;cases hj
 have mkp:∀p∈pd,mark L i p.1=L p.1:=by intro p hp;obtain⟨lo,hi,h1,_⟩:=hgt p hp;unfold mark;rw[rx (notI p.1 lo hi h1)]
 have hun:∀(i' l h:Nat),pl[i']?=some (.p l h)->q+1<=l->mark L i i'=false:=by intro i' l h hp hl;unfold mark;rw[rx (notI i' l h hp)];cases hx:L i' with|false=>rfl|true=>have:=I.lo i' l h hp hx;omega
 have build:∀(F':ir) (w':World) (h':Hp) (V:Value) (v:AV) (T':Tr AV),fB F st.h w F' h' w'->(∀s',F' s'->ab s' h' w'/\ah s' v=V)->dG n h'.next st.T o.dst v=some T' ->
   Inv n ops pl aGE aHT aIL (q+1) (q+1) (mark L i) (a.put o.dst V) w' ⟨T',h'⟩ pd F':=by
  intro F' w' h' V v T' hE hF hT;obtain⟨aIz,aHN,aHn⟩:=hE.to aIy aHM;have hnx:st.h.next<=h'.next:=aHn.next;refine⟨I.ne,?_,?_,?_,?_,?_,Ea hT hnx I.all,fun s hs=>(hF s hs).1,rt I.low hnx,I.yA,?_,?_,?_,I.ln,?_,?_,?_,?_⟩
  .cases hd:o.dst<;>simp[Act.put,hd,I.size]
  .cases hd:o.dst<;>simp[Act.put,hd,I.defers]
  .intro aIx aHL g;obtain⟨s,h1,h2,h3⟩:=I.free aIx aHL g;obtain⟨s',h1',hx⟩:=hE.to s h1;refine⟨s',h1',h2.trans hx,?_⟩;intro p hp hm;rw[mkp p hp]at hm;rw[hx.sg _ (I.pid p hp).1];exact h3 p hp hm
  .intro s' hs';obtain⟨s,h1,hx⟩:=hE.from_ s' hs';obtain⟨aIx,h2,h3⟩:=I.px s h1;exact⟨aIx,h2,h3.trans hx⟩
  .intro s' hs' t u hu hnp;obtain⟨s,h1,hx⟩:=hE.from_ s' hs';rw[lE hT t]at hu;by_cases hd:o.dst=some t
   .rw[BY hd]at hu;simp at hu;subst hu;simp only[Act.put,hd,IR,aFx];rw[BY (by rw[I.size];exact(Wb hT hd).1),(hF s' hs').2]
   .rw[rx hd]at hu;have hnp':¬ow ops pl (q+1) L t:=by rintro⟨x,ox,l',h'',p1,p2,p3,p4,p5⟩;refine hnp ⟨x,ox,l',h'',p1,p2,p3,?_,p5⟩;unfold mark;rw[rx (notI x l' h'' p2)];exact p4
    have:=I.tmp s h1 t u hu hnp';rw[sH hx.sg u (I.all t u hu).2];cases hd':o.dst with|none=>exact this|some d=>simp only[Act.put,IR];rw[rx (fun e=>hd (by rw[hd',e]))];exact this
  .intro p hp;obtain⟨p1,p2,p3,lo,hi,p4,p5,p6⟩:=I.pid p hp;obtain⟨lo',hi',h1,h2⟩:=hgt p hp;rw[p4]at h1;simp at h1;refine⟨ro p1 hnx,?_,qP hnx p3,lo,hi,p4,aGl,aGl⟩;cases hg:h'.tr.get p.2.1 with|none=>rfl|some ob=>obtain⟨o',ho'⟩:=aHn.keep _ ob hg p1;rw[p2]at ho';cases ho'
  .intro p hp hm s' hs';rw[mkp p hp]at hm;obtain⟨s,h1,hx⟩:=hE.from_ s' hs';obtain⟨r1,r2,r3⟩:=I.mH p hp hm s h1;obtain⟨p1,p2,p3,_⟩:=I.pid p hp;have hsid:=hx.sg _ p1;obtain⟨y,hy⟩:=r1.there;have hlt:(s p.2.1).1<w.heap.size:=by
    rcases ww (s p.2.1).1 w.heap.size with r|r
    .exact r
    .rw[arC r]at hy;cases hy
   rw[hsid];refine⟨?_,r2,?_⟩
   .rw[hx.frame _ hlt r3];exact r1.congr hx.sg p1 p3
   .intro j ob hj he;rcases hx.bI j ob hj with⟨j',o',hj',q'⟩|q'
    .exact r3 j' o' hj' (q'.trans he)
    .omega
  .intro p hp p' hp' hm hm' s' hs' he;rw[mkp p hp]at hm;rw[mkp p' hp']at hm';obtain⟨s,h1,hx⟩:=hE.from_ s' hs';rw[hx.sg _ (I.pid p hp).1,hx.sg _ (I.pid p' hp').1]at he;exact I.py p hp p' hp' hm hm' s h1 he
  .intro z oz hz hLz e' he';unfold mark at hLz;split at hLz
   .rename_i e1;subst e1;rw[ho]at hz;simp at hz;subst hz;exact ko (hr e' he')
   .exact ko (I.down z oz hz hLz e' he')
  .intro x j hx;unfold mark;by_cases hxi:x=i
   .subst hxi;rw[hw]at hx;simp at hx;subst hx;simp
   .rw[rx hxi,I.wl x j hx];constructor
    .intro r;omega
    .intro r;rcases ww j (q+1)with r'|r'
     .omega
     .have:j=q+1:=aGl
      subst this;exact absurd (hP.uniq x i _ hx hw) hxi
  .intro x l h hx hLx;unfold mark at hLx;rw[rx (notI x l h hx)]at hLx;have:=I.lo x l h hx hLx;omega
  .intro x l h hx hh;exact ko (hdue ops.size x l h aGl hx aGl)
 unfold uX at e;unfold wpOp;rw[ho];simp only[];split at e
 .rename_i hwa;rw[hW hwa];simp only[aFx];left;split at e<;>try cases e
  rename_i v h' ha;split at e<;>try cases e
  rename_i T' hT;exact VT hcl ha ⟨aIy,aHM⟩ hO (fun t v hv=>(I.all t v hv).2) I.H fun F' w' V hE hF=>hK _ w' F' (build F' w' h' V v T' hE hF hT) hun
 .rename_i hwa;rw[hW hwa];simp only[GE,aFk];split at e<;>try cases e
  rename_i T' hT;exact hK _ w F (build F w st.h undef (.bB []) T' (fB.refl _ _ _) (fun s hs=>⟨I.H s hs,rfl⟩) hT) hun
 .cases e
end
variable{i:Nat}{k:Nat}{listed:Array Bool}{Q:Exit->Act->World->Prop}{call:Cl}{o:Oper}{P:Program}
theorem xP{ops:Array Oper}(h:i∈Region.ready .any ops listed) :
  listed.getD i true=false/\∃o,ops[i]?=some o/\∀e∈dI o,listed.getD e false=true:=by
 obtain⟨h1,o,ho,h2⟩:=mem_ready.1 h;refine⟨h1,o,ho,?_⟩;intro e he;obtain⟨x,hx,hb,rfl⟩:=Ee.1 he
 grind
theorem M0{ops:Array Oper}(h1:listed.getD i true=false)(ho:ops[i]?=some o)(h2:∀e∈dI o,listed.getD e false=true) :
  i∈Region.ready .any ops listed:=
 mem_ready.2 ⟨h1,o,ho,fun e he hb=>h2 e.on (Ee.2 ⟨e,aES.2 he,hb,rfl⟩)⟩
theorem GU(hcl:db P call){n:Nat}{ops:Array Oper}{pl:List PE}(hP:ju ops pl k){aGE:ir}{aHT:Hp}{aIL:World}{fin:St}
  (hQ:∀F' a' w',RF F' n fin.T fin.h a' w'->fB aGE aHT aIL F' fin.h w'->Q .normal a' w') :
  ∀(fuel:Nat) (r q:Nat) (listed:Array Bool) (st:St) (pd:fP) (a:Act) (w:World) (F:ir),q+r=k->rS P call n ops pl r q st pd=some fin ->
   pV P ops q st pd ops.toList pl 0=true->listed.size=ops.size->left ops.size (fun j=>listed.getD j false)<=fuel ->
   Inv n ops pl aGE aHT aIL (q+1) q (fun j=>listed.getD j false) a w st pd F->wpAny P .any ops Q fuel listed a w:=by
 have me:∀(listed:Array Bool),listed.size=ops.size->∀i,i<ops.size->listed.getD i true=listed.getD i false:=by intro listed hs i hi;simp[LT,show i<listed.size by omega]
 have fini:∀(r q:Nat) (listed:Array Bool) (st:St) (pd:fP) (a:Act) (w:World) (F:ir),q+r=k->rS P call n ops pl r q st pd=some fin->listed.size=ops.size ->
   Inv n ops pl aGE aHT aIL (q+1) q (fun j=>listed.getD j false) a w st pd F->Region.ready .any ops listed=[]->Q .normal a w:=by
  intro r q listed st pd a w F hqr ht hs I hrd;have all:∀i,i<ops.size->listed.getD i false=true:=by
   intro i
   induction i using Nat.strongRecOn with
   |_ i ih=>
    intro hi;cases hx:listed.getD i false with
    |true=>rfl|false=>
     have ho:ops[i]?=some ops[i]:=by simp[hi]
     have:i∈Region.ready .any ops listed:=M0 (by rw[me listed hs i hi];exact hx) ho (fun e he=>ih e (hP.below i _ ho e he) (Nat.lt_trans (hP.below i _ ho e he) hi));rw[hrd]at this;cases this
  cases r with
  |succ r=>
   simp only[rS]at ht;split at ht<;>try cases ht
   rename_i o hp hf;obtain⟨i,h1,h2⟩:=qL hf;have hi:i<ops.size:=by
    rcases ww i ops.size with r|r
    .exact r
    .rw[BT (by simpa using r)]at h1;cases h1
   have:=(I.wl i (q+1) h2).1 (all i hi);omega
  |zero=>
   simp only[rS]at ht;split at ht<;>try cases ht
   rename_i h' hp;have hthere:∀(i:Nat) (pe:PE),pl[i]?=some pe->i<ops.size:=by
    intro i pe hi;rcases ww i pl.length with r|r
    .rw[<-hP.len];exact r
    .rw[BT r]at hi;cases hi
   obtain⟨J,_⟩:=I.lay (fun p _ hd=>by obtain⟨lo,hi,h1,_⟩:=hd;exact all p.1 (hthere p.1 _ h1)) hp;have nop:∀t,¬ow ops pl (q+1) (fun j=>listed.getD j false) t:=by rintro t ⟨x,o,l,h,p1,p2,p3,p4,p5⟩;simp only[]at p4;rw[all x (hthere x _ p2)]at p4;cases p4
   obtain⟨aIw,aHK⟩:=J.ne;obtain⟨aIy,aHM,_⟩:=J.free aIw aHK (fun _=>(0,0));refine hQ F a w ⟨⟨aIy,aHM⟩,?_,J.H⟩ ⟨?_,J.px⟩
   .intro s hs;exact⟨J.size,J.defers,fun t v hv=>J.tmp s hs t v hv (nop t),fun t v hv=>(J.all t v hv).2⟩
   .intro aIx aHL;obtain⟨s,h1,h2,_⟩:=J.free aIx aHL (fun _=>(0,0));exact⟨s,h1,h2⟩
 intro fuel
 induction fuel with
 |zero=>
  intro r q listed st pd a w F hqr ht hc hs hl I;have hrd:Region.ready .any ops listed=[]:=by
   cases hx:Region.ready .any ops listed with
   |nil=>rfl|cons i l=>
    exfalso;obtain⟨h1,o,ho,_⟩:=xP (i:=i) (by rw[hx];simp);have hi:i<ops.size:=by
     rcases ww i ops.size with r|r
     .exact r
     .rw[arC r]at ho;cases ho
    have h0:left ops.size (fun j=>listed.getD j false)=0:=aGl
    have h3:=qM h0 i hi;rw[me listed hs i hi]at h1;rw[h1]at h3;cases h3
  exact⟨hrd,fini r q listed st pd a w F hqr ht hs I hrd⟩
 |succ fuel ih=>
  intro r q listed st pd a w F hqr ht hc hs hl I;refine⟨fun hrd=>fini r q listed st pd a w F hqr ht hs I hrd,?_⟩;intro i hi;obtain⟨h1,o,ho,h2⟩:=xP hi;have aU:i<ops.size:=by
   rcases ww i ops.size with r|r
   .exact r
   .rw[arC r]at ho;cases ho
  rw[me listed hs i aU]at h1;have hL:(fun j=>(listed.setIfInBounds i true).getD j false)=mark (fun j=>listed.getD j false) i:=by
   funext j;unfold mark;by_cases hj:j=i
   .subst hj;simp[LT,IR,show j<listed.size by omega]
   .rw[rx hj];exact getD_set_ne false (fun r=>hj r.symm)
  have hsz:(listed.setIfInBounds i true).size=ops.size:=by simp[hs]
  have hleft:left ops.size (fun j=>(listed.setIfInBounds i true).getD j false)<=fuel:=by rw[hL];have:=uG (L:=fun j=>listed.getD j false) (i:=i) h1 ops.size;rw[BY aU]at this;omega
  obtain⟨pe,hpe⟩:∃pe,pl[i]?=some pe:=⟨pl[i]'(by rw[hP.len];exact aU),by simp[hP.len,aU]⟩;cases pe with
  |p l h=>obtain⟨hlq,hqh⟩:=I.zV hP ho h2 h1 hpe;have hck:=Zxb hc i o l h (by simpa using ho) hpe hlq hqh;refine I.step hP ho h2 h1 hpe (by simpa using hck) ?_;intro a' w' F' I';exact ih r q _ st pd a' w' F' hqr ht hc hsz hleft (by rw[hL];exact I')
  |w j=>
   have hj:j=q+1:=by
    obtain⟨w1,w2,w3⟩:=hP.w i o j ho hpe;have hn:¬j<=q:=fun r=>by have:=(I.wl i j hpe).2 r;rw[h1]at this;cases this
    rcases w3 with r|⟨e,pe,g1,g2,g3⟩
    .omega
    .have hLe:=h2 e g1;cases pe with|w j'=>have:=(I.wl e j' g2).1 hLe;simp only[PE.num]at g3;omega|p l' h'=>have:=I.lo e l' h' g2 hLe;simp only[PE.num]at g3;omega
   subst hj;have hk:=(hP.w i o (q+1) ho hpe).2.1;obtain⟨r,rfl⟩:∃r',r=r'+1:=⟨r-1,aGl⟩;simp only[rS]at ht;split at ht<;>try cases ht
   rename_i pd' h' o' hpm hf;have hoo:o'=o:=by
    obtain⟨i',g1,g2⟩:=qL hf;have:=hP.uniq i' i _ g2 hpe;subst this;have g1:ops[i']?=some o':=by simpa using g1
    rw[ho]at g1;simpa using g1.symm
   subst hoo;split at ht<;>try cases ht
   rename_i aIt hst;split at ht<;>try cases ht
   rename_i aIu aIn hex;split at ht<;>try cases ht
   rename_i hck;have hthere:∀(i:Nat) (pe:PE),pl[i]?=some pe->i<ops.size:=by
    intro i pe hi;rcases ww i pl.length with r|r
    .rw[<-hP.len];exact r
    .rw[BT r]at hi;cases hi
   obtain⟨J,hgt⟩:=I.lay (fun p _ hd=>by obtain⟨lo,hi,g1,g2⟩:=hd;exact I.due hP ho h2 hpe ops.size p.1 lo hi aGl g1 g2) hpm;refine J.write hcl hP ho h2 hpe hst hgt ?_;intro a' w' F' I' hun;have I'':=I'.enter hun hex;exact ih r (q+1) _ aIu aIn a' w' _ aGl ht hck hsz hleft (by rw[hL];exact I'')
theorem mT(hm:P.follows .mixedOrders=true):GI P (lf P):=by
 intro call hcl n id ops st st' e F a w R Q hQ;unfold lf at e;split at e<;>try cases e
 rename_i k hk;have hP:=xK hk;split at e<;>try cases e
 rename_i aIt aIm hex;split at e<;>try cases e
 rename_i hck;refine wp_region_any hm ?_;obtain⟨aIy,aHM⟩:=R.ne;have aGP:=R.T aIy aHM;have hgetD:∀j,(Array.replicate ops.size false).getD j false=false:=by intro j;simp only[LT,Array.getElem?_replicate];split<;>rfl
 have I:Inv n ops (kL ops.toList) F st.h w 0 0 (fun j=>(Array.replicate ops.size false).getD j false) a { w with drawn:=w.drawn+1 } st [] F:=by
  refine⟨R.ne,aGP.size,aGP.defers,?_,?_,?_,?_,fun s hs=>(R.H s hs).drew _,pi _,?_,?_,?_,?_,?_,?_,?_,?_,?_⟩
  .intro aIw aHK g;exact⟨aIw,aHK,Ext.drew _ _ _ _,fun p hp=>by cases hp⟩
  .intro s hs;exact⟨s,hs,Ext.drew _ _ _ _⟩
  .intro s hs t v hv _;exact(R.T s hs).get t v hv
  .intro t v hv;have:=aGP.get t v hv;refine⟨?_,aGP.ws t v hv⟩;rcases ww t n with r|r
   .exact r
   .rw[arC (by rw[aGP.size];exact r)]at this;cases this
  .intro p hp;cases hp
  .intro p hp;cases hp
  .intro p hp;cases hp
  .intro p hp;cases hp
  .intro p hp;cases hp
  .intro z o hz hL;rw[hgetD]at hL;cases hL
  .intro i j hj;simp only[hgetD];have hlt:i<ops.size:=by
    rcases ww i (kL ops.toList).length with r|r
    .rw[<-hP.len];exact r
    grind
   have:=(hP.w i ops[i] j (by simp[hlt]) hj).1
   grind
  .intro i l h _ hL;rw[hgetD]at hL;cases hL
  .intro i l h _ hh;omega
 have I':=I.enter (fun i l h _ _=>hgetD i) hex;refine GU hcl hP hQ ops.size k 0 _ aIt aIm a _ _ aGl e hck aGn ?_ I';have:∀m (L:Nat->Bool),left m L<=m:=by
  intro m L
  induction m with|zero=>simp[left]|succ m ih=>simp only[left];split<;>omega
 exact this _ _
end Go.Proofs.YtjflbmpepamfjaaGreat.Ev
end
section
namespace Go.Proofs.YtjflbmpepamfjaaGreat.V
open Go Go.RowKit
open Go.Proofs.YtjflbmpepamfjaaGreat.Ev (Tr Tr.bM nth ct PE ju sY kL xK dI looks tmpsOf xO mw qK iW pM mR qL left uG qM cP iw ko oA xP M0)
def ow(ops:Array Oper)(pl:List PE)(q:Nat)(L:Nat->Bool)(t:Tmp):Prop:=∃(x:Nat) (o:Oper) (lo hi:Nat),ops[x]?=some o/\pl[x]?=some (.p lo hi)/\lo<=q/\L x=false/\o.dst=some t
structure Inv(P:Program)(sh:TypeId->Option Sh)(n:Nat)(ops:Array Oper)(pl:List PE)(X₀:Cx)(q:Nat)(L:Nat->Bool)(X:Cx)(a:Act)(st:St):Prop where
 size:a.tmps.size=n
 defers:a.defers=[]
 hX:X.h=st.h
 H:ab X
 E:aH X₀ X
 tmp:∀t v,st.T.get t=some v->¬ow ops pl q L t->∃V,a.tmps[t]?=some V/\Rel X v V
 now:∀(i:Nat) (o:Oper) (lo hi:Nat),ops[i]?=some o->pl[i]?=some (.p lo hi)->lo<=q->q<=hi->L i=false->∃v,PN P sh ops X₀.h.next st.T st.h o v/\∀t,o.dst=some t->st.T.get t=some v
 oo:∀(i:Nat) (o:Oper) (lo hi:Nat) (t:Tmp) (v:AV) (id:Nat),ops[i]?=some o->pl[i]?=some (.p lo hi)->lo<=q->L i=false->fw o.op=true->o.dst=some t->st.T.get t=some v->kf v=some id ->
  X.s id=none/\id<st.h.next/\X₀.h.next<=id
 ln:∀(i j:Nat) (o o':Oper) (lo hi lo' hi':Nat) (t t':Tmp) (v v':AV) (id:Nat),ops[i]?=some o->ops[j]?=some o'->pl[i]?=some (.p lo hi)->pl[j]?=some (.p lo' hi')->lo<=q->lo'<=q->L i=false->L j=false ->
  fw o.op=true->fw o'.op=true->o.dst=some t->o'.dst=some t'->st.T.get t=some v->st.T.get t'=some v'->kf v=some id->kf v'=some id->i=j
 down:∀(z:Nat) (o:Oper),ops[z]?=some o->L z=true->∀e∈dI o,L e=true
 wl:∀(i j:Nat),pl[i]?=some (.w j)->(L i=true↔j<=q)
 lo:∀(i l h:Nat),pl[i]?=some (.p l h)->L i=true->l<=q
 hi:∀(i l h:Nat),pl[i]?=some (.p l h)->h<q->L i=true
theorem asZ{X:Cx}(H:ab X){h':Hp}(hn:X.h.next<=h'.next)(old:∀id,id<X.h.next->h'.tr.get id=X.h.tr.get id)(w:wf h'):aH X ⟨X.s,h',X.w,X.A⟩/\ab ⟨X.s,h',X.w,X.A⟩:=by
 have E:aH X ⟨X.s,h',X.w,X.A⟩:=by
  refine⟨rfl,rfl,rfl,pi _,fun _ _ h=>h,fun _ _ _ h=>h,hn,fun _ _ _=>rfl,?_,?_,fun i hi _=>old i hi,rfl⟩
  .rintro b ⟨i,o,c,h1,h2,h3⟩
   replace h1:h'.tr.get i=some o:=h1
   rw[old i (H.cJ i _ h2)]at h1;exact .inl ⟨i,o,c,h1,h2,h3⟩
  .intro j n hj h;rw[<-YX (old j hj)];exact h
 refine⟨E,⟨?_,?_,w,?_,H.alt,?_⟩⟩
 .intro i o l h1 h2
  replace h1:h'.tr.get i=some o:=h1
  rw[old i (H.cJ i _ h2)]at h1;exact(H.obj i o l h1 h2).ext (E.ei H) (fun _ _=>rfl)
 .intro i j o o' b c c' h1 h2 h3 h4
  replace h1:h'.tr.get i=some o:=h1
  replace h2:h'.tr.get j=some o':=h2
  rw[old i (H.cJ i _ h3)]at h1;rw[old j (H.cJ j _ h4)]at h2;exact H.inj i j o o' b c c' h1 h2 h3 h4
 .intro i l h;exact ro (H.cJ i l h) hn
 .intro i o b c h1 h2
  replace h1:h'.tr.get i=some o:=h1
  rw[old i (H.cJ i _ h2)]at h1;exact H.loc i o b c h1 h2
section
variable{P:Program}{sh:TypeId->Option Sh}{n:Nat}{ops:Array Oper}{pl:List PE}{X₀:Cx}{q:Nat}{L:Nat->Bool}{X:Cx}{a:Act}{st:St}
theorem Inv.sf{k:Nat}(I:Inv P sh n ops pl X₀ q L X a st)(hP:ju ops pl k){i:Nat}{o:Oper}(ho:ops[i]?=some o)(hr:∀e∈dI o,L e=true){t:Tmp}(ht:t∈looks ops.toList o):¬ow ops pl q L t:=by rintro⟨x,ox,l,h,p1,p2,p3,p4,p5⟩;have:=hr x (hP.fresh i o ho t ht x ox l h p1 p2 p5);rw[p4]at this;cases this
theorem Inv.zV{k:Nat}(I:Inv P sh n ops pl X₀ q L X a st)(hP:ju ops pl k){i:Nat}{o:Oper}(ho:ops[i]?=some o)(hr:∀e∈dI o,L e=true)(hL:L i=false){l h:Nat}(hp:pl[i]?=some (.p l h)):l<=q/\q<=h:=by
 constructor
 .rcases hP.lo i o l h ho hp with r|⟨e,pe,h1,h2,h3⟩
  .omega
  .have hLe:=hr e h1;cases pe with|w j=>have:=(I.wl e j h2).1 hLe;simp only[PE.num]at h3;omega|p l' h'=>have:=I.lo e l' h' h2 hLe;simp only[PE.num]at h3;omega
 .rcases ww h q with r|r
  .have:=I.hi i l h hp r;rw[hL]at this;cases this
  .exact r
theorem Inv.due{k:Nat}(I:Inv P sh n ops pl X₀ q L X a st)(hP:ju ops pl k){i:Nat}{o:Oper}(ho:ops[i]?=some o)(hr:∀e∈dI o,L e=true)
  (hw:pl[i]?=some (.w (q+1))):∀d (x l h:Nat),ops.size<=x+d->pl[x]?=some (.p l h)->h<=q->L x=true:=by
 have hk:q+1<=k:=(hP.w i o (q+1) ho hw).2.1;intro d
 induction d with
 |zero=>intro x l h hx hp _;have:=js hp;rw[hP.len]at this;omega|succ d ih=>
  intro x l h hx hp hh;rcases hP.hi x l h hp with r|⟨z,oz,pe,h1,h2,h3,h4⟩
  .omega
  .have hxz:=hP.below z oz h1 x h3;have hz:L z=true\/z=i:=by
    rcases h4 with⟨j,rfl,hj⟩|⟨l',h',rfl,hh'⟩
    .rcases ww q j with r|r
     .have:j=q+1:=aGl
      subst this;exact .inr (hP.uniq z i _ h2 hw)
     .exact .inl ((I.wl z j h2).2 r)
    grind
   rcases hz with hz|rfl
   .exact I.down z oz h1 hz x h3
   grind
theorem Inv.vh{X':Cx}{i:Nat}{o:Oper}{l h:Nat}{V:Value}(I:Inv P sh n ops pl X₀ q L X a st)(hN:∀t,o.dst=some t->t<n)(ho:ops[i]?=some o)(hr:∀e∈dI o,L e=true)(hp:pl[i]?=some (.p l h))(hl:l<=q)
  (hX:X'.h=st.h) (H:ab X') (E:aH X₀ X') (Ex:gw X X') (hV:∀t,o.dst=some t->∃v,st.T.get t=some v/\Rel X' v V)
  (hs:∀(j:Nat) (o':Oper) (lo hi:Nat) (t:Tmp) (v:AV) (id:Nat),ops[j]?=some o'->pl[j]?=some (.p lo hi)->lo<=q->Ev.mark L i j=false->fw o'.op=true->o'.dst=some t->st.T.get t=some v->kf v=some id->X'.s id=none) :
  Inv P sh n ops pl X₀ q (Ev.mark L i) X' (a.put o.dst V) st:=by
 have nw:∀j,pl[i]?≠some (.w j):=fun j r=>by rw[hp]at r;cases r
 refine⟨?_,?_,hX,H,E,?_,?_,?_,?_,?_,?_,?_,?_⟩
 .cases hd:o.dst<;>simp[Act.put,I.size]
 .cases hd:o.dst<;>simp[Act.put,I.defers]
 .intro t v hv hn;by_cases hd:o.dst=some t
  .obtain⟨v',h1,h2⟩:=hV t hd;rw[hv]at h1;cases h1;have r:t<a.tmps.size:=by rw[I.size];exact hN t hd
   exact⟨V,by rw[hd];simp[Act.put,r],h2⟩
  .obtain⟨V',h1,h2⟩:=I.tmp t v hv (by
    rintro⟨x,ox,lo,hi,p1,p2,p3,p4,p5⟩;by_cases hxi:x=i
    .subst hxi;rw[ho]at p1;cases p1;exact hd p5
    .exact hn ⟨x,ox,lo,hi,p1,p2,p3,by unfold Ev.mark;rw[rx hxi];exact p4,p5⟩)
   refine⟨V',?_,h2.ext Ex⟩;cases hdd:o.dst with
   |none=>simpa[Act.put]using h1|some t'=>
    simp only[Act.put,IR]
    grind
 .intro j o' lo hi h1 h2 h3 h4 h5;exact I.now j o' lo hi h1 h2 h3 h4 (oA h5).1
 .intro j o' lo hi t v id h1 h2 h3 h4 h5 h6 h7 h8;obtain⟨_,q2,q3⟩:=I.oo j o' lo hi t v id h1 h2 h3 (oA h4).1 h5 h6 h7 h8
  grind
 .intro x y aIk aIl lo hi lo' hi' t t' v v' id a1 a2 a3 a4 a5 a6 a7 a8;exact I.ln x y aIk aIl lo hi lo' hi' t t' v v' id a1 a2 a3 a4 a5 a6 (oA a7).1 (oA a8).1
 .intro z oz hz hL e he;by_cases hzi:z=i
  .subst hzi;rw[ho]at hz;cases hz;exact ko (hr e he)
  .unfold Ev.mark at hL;rw[rx hzi]at hL;exact ko (I.down z oz hz hL e he)
 .intro x j hx;have:x≠i:=by rintro rfl;exact nw j hx
  unfold Ev.mark;rw[rx this];exact I.wl x j hx
 .intro x l' h' hx hL;by_cases hxi:x=i
  .subst hxi;rw[hp]at hx;cases hx;exact hl
  .unfold Ev.mark at hL;rw[rx hxi]at hL;exact I.lo x l' h' hx hL
 .intro x l' h' hx hh;exact ko (I.hi x l' h' hx hh)
theorem Inv.step{k:Nat}(I:Inv P sh n ops pl X₀ q L X a st)(hP:ju ops pl k)(hM:∀(x:Nat) (o:Oper) (lo hi:Nat),ops[x]?=some o->pl[x]?=some (.p lo hi)->fw o.op=true->∃t,o.dst=some t){i:Nat}{o:Oper}(hN:∀t,o.dst=some t->t<n)
  (ho:ops[i]?=some o) (hr:∀e∈dI o,L e=true) (hL:L i=false) {l h:Nat}(hp:pl[i]?=some (.p l h)) {K:Act->World->Prop}{Q:Exit->Act->World->Prop}
  (hK:∀X' a',Inv P sh n ops pl X₀ q (Ev.mark L i) X' a' st->K a' X'.w):wpOp P ops Q i K a X.w:=by
 obtain⟨hlq,hqh⟩:=I.zV hP ho hr hL hp;obtain⟨v,pn,hdst⟩:=I.now i o l h ho hp hlq hqh hL;have look:∀t∈looks ops.toList o,∀v,st.T.get t=some v->∃V,a.tmps[t]?=some V/\Rel X v V:=fun t ht v hv=>I.tmp t v hv (I.sf hP ho hr ht);have opnd:gF X st.T a o.op:=sU fun t ht u hu=>look t (mw ht) u hu;have keep:∀(j:Nat) (o':Oper) (lo hi:Nat) (t:Tmp) (v:AV) (id:Nat),ops[j]?=some o'->pl[j]?=some (.p lo hi)->lo<=q->Ev.mark L i j=false->fw o'.op=true->o'.dst=some t->st.T.get t=some v->kf v=some id->X.s id=none:=fun j o' lo hi t v id h1 h2 h3 h4 h5 h6 h7 h8=>(I.oo j o' lo hi t v id h1 h2 h3 (oA h4).1 h5 h6 h7 h8).1;unfold wpOp;rw[ho];simp only[];rcases pn with⟨hw,rfl⟩|⟨hw,hmk,hrd⟩|⟨hw,hmk,id,ob,ha,hid,hlt,hge⟩
 .rw[Nq hw look];simp only[GE,aFk];exact hK X _ (I.vh hN ho hr hp hlq I.hX I.H I.E (gw.refl X) (fun t ht=>⟨_,hdst t ht,[],rfl,rfl⟩) keep)
 .rw[Nq hw look];simp only[aFx];left;rw[<-I.hX]at hrd;obtain⟨V,hrun,hR⟩:=sG I.H hrd rfl opnd;unfold Oper.wp;rw[hrun];exact hK X _ (I.vh hN ho hr hp hlq I.hX I.H I.E (gw.refl X) (fun t ht=>⟨_,hdst t ht,hR⟩) keep)
 .rw[Nq hw look];simp only[aFx];left;obtain⟨td,htd⟩:=hM i o l h ho hp hmk;have hidv:=(Ej ha).2;simp only at hidv;obtain⟨sn,_,_⟩:=I.oo i o l h td v id ho hp hlq hL hmk htd (hdst td htd) hidv;rw[<-I.hX]at ha hid hlt;obtain⟨c,ob',V,hrun,hm⟩:=yj I.H ha rfl opnd;have Ex:=gw.real (c:=c) (ob:=ob') I.H sn;have M:Made X ⟨aW X.s id (.at X.w.heap.size c),X.h,{ X.w with heap:=X.w.heap.push ob' },X.A⟩ id c ob ob':=⟨Ex,rfl,cU _ _ _,hid⟩;obtain⟨m1,m2⟩:=hm _ M;have H':=I.H.real (c:=c) (ob:=ob') sn hlt (fun o' h'=>by rw[hid]at h';cases h';exact m1);have E':aH X₀ ⟨aW X.s id (.at X.w.heap.size c),X.h,{ X.w with heap:=X.w.heap.push ob' },X.A⟩:=by
   have E:=I.E;refine⟨E.os,E.tape,E.output,by have:=E.size;simp;omega,?_,?_,E.next,?_,?_,E.len,E.same,E.A⟩
   .intro j l' hj;have:=E.sg j l' hj;show aW X.s id _ j=_;rw[cZ _ _ _ (by grind)];exact this
   .intro j l' hj h'
    replace h':aW X.s id _ j=some l':=h'
    rw[cZ _ _ _ aGl]at h';exact E.cJ j l' hj h'
   .intro b hb hn;have:=E.size;show(X.w.heap.push ob')[b]?=_;rw[aFI,rx aGl];exact E.frame b hb hn
   .rintro b ⟨j,aIk,aHd,h1,h2⟩;obtain⟨h2,h3⟩:=h2
    replace h2:aW X.s id (.at X.w.heap.size c) j=some aHd:=h2
    by_cases hj:j=id
    .subst hj;rw[cU]at h2;cases h2;right;have:=E.size;have:b=X.w.heap.size:=h3;omega
    .rw[cZ _ _ _ hj]at h2;exact E.bI b ⟨j,aIk,aHd,h1,h2,h3⟩
  unfold Oper.wp;rw[hrun];refine hK ⟨aW X.s id (.at X.w.heap.size c),X.h,{ X.w with heap:=X.w.heap.push ob' },X.A⟩ _ (Inv.vh (X':=⟨aW X.s id (.at X.w.heap.size c),X.h,{ X.w with heap:=X.w.heap.push ob' },X.A⟩) I hN ho hr hp hlq I.hX H' E' Ex (fun t ht=>⟨_,hdst t ht,m2⟩) ?_);intro j o' lo hi t v' id' h1 h2 h3 h4 h5 h6 h7 h8;obtain⟨hLj,hji⟩:=oA h4;have s':=(I.oo j o' lo hi t v' id' h1 h2 h3 hLj h5 h6 h7 h8).1;show aW X.s id _ id'=none;rw[cZ _ _ _ ?_]
  .exact s'
  .rintro rfl;exact hji (I.ln j i o' o lo hi l h t td v' v id' h1 ho h2 hp h3 hlq hLj hL h5 hmk h6 htd h7 (hdst td htd) h8 hidv)
theorem Inv.enter{st':St}{h₁:Hp}(hsz:a.tmps.size=n)(hdf:a.defers=[])(hX:X.h=h₁)(H:ab X)(E:aH X₀ X){T₁:Tr AV}(S:xA P sh ops q ops.toList pl ⟨T₁,h₁⟩ st')
  (tmp:∀t v,T₁.get t=some v->(∀(x:Nat) (o:Oper) (hi:Nat),ops[x]?=some o->pl[x]?=some (.p q hi)->o.dst≠some t)->¬ow ops pl q L t->∃V,a.tmps[t]?=some V/\Rel X v V)
  (now:∀(i:Nat) (o:Oper) (lo hi:Nat),ops[i]?=some o->pl[i]?=some (.p lo hi)->lo<q->q<=hi->L i=false->∃v,PN P sh ops X₀.h.next st'.T st'.h o v/\∀t,o.dst=some t->st'.T.get t=some v)
  (oo:∀(i:Nat) (o:Oper) (lo hi:Nat) (t:Tmp) (v:AV) (id:Nat),ops[i]?=some o->pl[i]?=some (.p lo hi)->lo<q->L i=false->fw o.op=true->o.dst=some t->st'.T.get t=some v->kf v=some id ->
   X.s id=none/\id<h₁.next/\X₀.h.next<=id)
  (ln:∀(i j:Nat) (o o':Oper) (lo hi lo' hi':Nat) (t t':Tmp) (v v':AV) (id:Nat),ops[i]?=some o->ops[j]?=some o'->pl[i]?=some (.p lo hi)->pl[j]?=some (.p lo' hi')->lo<q->lo'<q->L i=false->L j=false ->
   fw o.op=true->fw o'.op=true->o.dst=some t->o'.dst=some t'->st'.T.get t=some v->st'.T.get t'=some v'->kf v=some id->kf v'=some id->i=j)
  (hun:∀(i hi:Nat),pl[i]?=some (.p q hi)->L i=false)
  (down:∀(z:Nat) (o:Oper),ops[z]?=some o->L z=true->∀e∈dI o,L e=true) (wl:∀(i j:Nat),pl[i]?=some (.w j)->(L i=true↔j<=q)) (lo:∀(i l h:Nat),pl[i]?=some (.p l h)->L i=true->l<=q)
  (hi:∀(i l h:Nat),pl[i]?=some (.p l h)->h<q->L i=true):Inv P sh n ops pl X₀ q L ⟨X.s,st'.h,X.w,X.A⟩ a st':=by
 subst hX;obtain⟨G,H'⟩:=asZ H S.next S.old S.wf;have new:∀(i:Nat) (o:Oper) (hi:Nat) (t:Tmp) (v:AV) (id:Nat),ops[i]?=some o->pl[i]?=some (.p q hi)->fw o.op=true->o.dst=some t->st'.T.get t=some v->kf v=some id->id<st'.h.next/\X.h.next<=id:=by intro i o hi t v id h1 h2 h3 h4 h5 h6;obtain⟨u,p1,p2⟩:=S.done i o hi (by simpa using h1) h2;rw[p2 t h4]at h5;cases h5;exact p1.ids h3 h6
 refine⟨hsz,hdf,rfl,H',E.trans G,?_,?_,?_,?_,down,wl,lo,hi⟩
 .intro t v hv hn;have hne:∀(x:Nat) (o:Oper) (hi:Nat),ops[x]?=some o->pl[x]?=some (.p q hi)->o.dst≠some t:=fun x o hi h1 h2 h3=>hn ⟨x,o,q,hi,h1,h2,pi _,hun x hi h2,h3⟩;rw[S.same t (fun x o hi h1 h2=>hne x o hi (by simpa using h1) h2)]at hv;obtain⟨V,h1,h2⟩:=tmp t v hv hne hn;exact⟨V,h1,h2.ext (G.ei H)⟩
 .intro i o lo' hi' h1 h2 h3 h4 h5;rcases ww lo' q with r|r
  .exact now i o lo' hi' h1 h2 r h4 h5
  .have:lo'=q:=aGl
   subst this;obtain⟨v,p1,p2⟩:=S.done i o hi' (by simpa using h1) h2;exact⟨v,p1.congr (fun _ _=>rfl) (eF.refl _) (pi _) E.next,p2⟩
 .intro i o lo' hi' t v id h1 h2 h3 h4 h5 h6 h7 h8;rcases ww lo' q with r|r
  .obtain⟨p1,p2,p3⟩:=oo i o lo' hi' t v id h1 h2 r h4 h5 h6 h7 h8;exact⟨p1,ro p2 S.next,p3⟩
  .have:lo'=q:=aGl
   subst this;obtain⟨p1,p2⟩:=new i o hi' t v id h1 h2 h5 h6 h7 h8;refine⟨?_,p1,rt E.next p2⟩;show X.s id=none;cases hq:X.s id with|none=>rfl|some l=>have:=H.cJ id l hq;omega
 .intro i j o o' aIa aHz aIb aHA t t' v v' id a1 a2 a3 a4 a5 a6 a7 a8 a9 a10 a11 a12 a13 a14 a15 a16;rcases ww aIa q with r|r<;>rcases ww aIb q with r'|r'
  .exact ln i j o o' aIa aHz aIb aHA t t' v v' id a1 a2 a3 a4 r r' a7 a8 a9 a10 a11 a12 a13 a14 a15 a16
  .have:aIb=q:=aGl
   subst this;have p1:=(oo i o aIa aHz t v id a1 a3 r a7 a9 a11 a13 a15).2.1;have p2:=(new j o' aHA t' v' id a2 a4 a10 a12 a14 a16).2;omega
  .have:aIa=q:=aGl
   subst this;have p1:=(oo j o' aIb aHA t' v' id a2 a4 r' a8 a10 a12 a14 a16).2.1;have p2:=(new i o aHz t v id a1 a3 a9 a11 a13 a15).2;omega
  .have e1:aIa=q:=aGl
   have e2:aIb=q:=aGl
   subst e1;subst e2;exact S.uniq i j o o' aHz aHA t t' v v' id (by simpa using a1) (by simpa using a2) a3 a4 a9 a10 a11 a12 a13 a14 a15 a16
end
variable{K:Act->World->Prop}{i:Nat}{k:Nat}{Q:Exit->Act->World->Prop}{o:Oper}
theorem asT(L:Nat->Bool)(i:Nat):Ev.mark L i i=true:=by unfold Ev.mark;simp
theorem pQ(L:Nat->Bool){j:Nat}(h:j≠i):Ev.mark L i j=L j:=by unfold Ev.mark;rw[rx h]
section
variable{P:Program}{sh:TypeId->Option Sh}{n:Nat}{ops:Array Oper}{pl:List PE}{X₀:Cx}{q:Nat}{L:Nat->Bool}{X:Cx}{a:Act}{st:St}
theorem Inv.write(I:Inv P sh n ops pl X₀ q L X a st)(hP:ju ops pl k)(hM:∀(x:Nat) (o:Oper) (lo hi:Nat),ops[x]?=some o->pl[x]?=some (.p lo hi)->fw o.op=true->∃t,o.dst=some t)
  (hD:∀(x y:Nat) (o o':Oper) (t:Tmp),ops[x]?=some o->ops[y]?=some o'->o.dst=some t->o'.dst=some t->x=y)
  (ho:ops[i]?=some o) (hr:∀e∈dI o,L e=true) (hL:L i=false) (hp:pl[i]?=some (.w (q+1)))
  {ch:Bool}{aIt aIu:St}{b:Bool}{T:Tr AV}{v:AV}(hch:ch=false->eF st.h aIt.h) (W:Az ops st.T o b T) (hT:dG n T o.dst v=some aIt.T)
  (hA:(b=true/\zE P T st.h o v aIt.h)\/(b=false/\v=.bB []/\aIt.h=st.h)) (hS:wf aIt.h->xA P sh ops (q+1) ops.toList pl aIt aIu)
  (hC:CC P ops (q+1) ch (dl o.dst++qW (q+1) ops.toList pl) aIu ops.toList pl) 
  (hK:∀X' a',Inv P sh n ops pl X₀ (q+1) (Ev.mark L i) X' a' aIu->K a' X'.w):wpOp P ops Q i K a X.w:=by
 have look:∀t∈looks ops.toList o,∀v,st.T.get t=some v->∃V,a.tmps[t]?=some V/\Rel X v V:=fun t ht v hv=>I.tmp t v hv (I.sf hP ho hr ht);have opnd:gF X T a o.op:=sU fun t ht u hu=>look t (mw ht) u (W.get t u hu);have Tget:∀t,T.get t=st.T.get t:=by intro t;cases h:T.get t with|some u=>rw[W.get t u h]|none=>cases h':st.T.get t with|none=>rfl|some u=>rw[W.get' t u h']at h;cases h
 have hg:=lE hT;have fin:∀X' V,aH X X'->ab X'->X'.h=aIt.h->Rel X' v V->K (a.put o.dst V) X'.w:=by
  intro X' V E H' hh hv;have S:=hS (by rw[<-hh];exact H'.lt);have done:∀(x l h:Nat),pl[x]?=some (.p l h)->h<=q->L x=true:=fun x l h h1 h2=>I.due hP ho hr hp ops.size x l h aGl h1 h2;have xi:∀{x l h:Nat},pl[x]?=some (.p l h)->x≠i:=by rintro x l h h1 rfl;rw[hp]at h1;cases h1
  have T2:∀(x:Nat) (ox:Oper) (lo hi:Nat) (t:Tmp),ops[x]?=some ox->pl[x]?=some (.p lo hi)->lo<=q->ox.dst=some t->aIu.T.get t=st.T.get t:=by intro x ox lo hi t h1 h2 h3 h4;rw[S.same t (fun y oy hi' g1 g2 g3=>by have:=hD x y ox oy t h1 (by simpa using g1) h4 g3;subst this;rw[h2]at g2;cases g2;omega),hg t,rx (fun r=>xi h2 (hD x i ox o t h1 ho h4 r)),Tget t]
  have E':=I.E.trans E;refine hK ⟨X'.s,aIu.h,X'.w,X'.A⟩ _ (Inv.enter (X:=X') (h₁:=aIt.h) (T₁:=aIt.T) ?_ ?_ hh H' E' S ?_ ?_ ?_ ?_ ?_ ?_ ?_ ?_ ?_)
  .cases hd:o.dst<;>simp[Act.put,I.size]
  .cases hd:o.dst<;>simp[Act.put,I.defers]
  .intro t u hu hne hn;rw[hg t]at hu;by_cases hd:o.dst=some t
   .rw[BY hd]at hu;cases hu;have hlt:t<a.tmps.size:=by rw[I.size];rw[hd]at hT;exact G7 hT
    exact⟨V,by rw[hd];simp[Act.put,hlt],hv⟩
   .rw[rx hd,Tget t]at hu;obtain⟨V',h1,h2⟩:=I.tmp t u hu (by rintro⟨x,ox,lo,hi,p1,p2,p3,p4,p5⟩;exact hn ⟨x,ox,lo,hi,p1,p2,aGl,by rw[pQ L (xi p2)];exact p4,p5⟩);refine⟨V',?_,h2.ext (E.ei I.H)⟩;cases hdd:o.dst with|none=>simpa[Act.put]using h1|some t'=>simp only[Act.put,IR];rw[rx (fun r=>hd (by rw[hdd,r]))];exact h1
  .intro x ox lo hi h1 h2 h3 h4 h5;rw[pQ L (xi h2)]at h5;obtain⟨u,pn,hdu⟩:=I.now x ox lo hi h1 h2 aGl aGl h5;obtain⟨c1,c2⟩:=hC x ox lo hi (by simpa using h1) h2 h3 h4;have hdst:∀t,ox.dst=some t->aIu.T.get t=some u:=fun t ht=>by rw[T2 x ox lo hi t h1 h2 aGl ht];exact hdu t ht
   have lk:∀t∈looks ops.toList ox,aIu.T.get t=st.T.get t:=by intro t ht;have hnot:=c1 t ht;rw[S.same t (fun y oy hi' g1 g2 g3=>hnot (At.2 (.inr (Zwb g1 g2 g3)))),hg t,rx (fun r=>hnot (At.2 (.inl (by rw[r];simp[dl])))),Tget t]
   have hw:=xM (ops:=ops) (T:=st.T) (T':=aIu.T) lk;rcases pn with⟨w1,rfl⟩|⟨w1,m1,r1⟩|⟨w1,m1,id,ob,ha,hid,hlt,hge⟩
   .exact⟨.bB [],.inl ⟨hw.trans w1,rfl⟩,hdst⟩
   .cases hc:ch with
    |false=>have hle:eF st.h aIu.h:=(hch hc).trans (fun b' o' q'=>by rw[S.old b' (by rw[<-hh]at q' |-;exact H'.lt b' o' q')];exact q');exact⟨u,.inr (.inl ⟨hw.trans w1,m1,NV hle r1 (fun t ht=>lk t (mw ht))⟩),hdst⟩|true=>
     rcases c2 hc m1 with g|⟨g,u',r2,d2⟩
     .rw[hw,w1]at g;cases g
     .exact⟨u',.inr (.inl ⟨g,m1,r2⟩),d2⟩
   .obtain⟨td,htd⟩:=hM x ox lo hi h1 h2 m1;have hidv:=(Ej ha).2;simp only at hidv;obtain⟨sn,hlt',_⟩:=I.oo x ox lo hi td u id h1 h2 aGl h5 m1 htd (hdu td htd) hidv;have hob:aIu.h.tr.get id=some ob:=by have e1:=E.same id (by rw[I.hX];exact hlt') sn;rw[hh,I.hX,hid]at e1;have e2:=S.old id (by rw[<-hh]at e1 |-;exact H'.lt id ob e1);rw[e2];exact e1
    refine⟨u,.inr (.inr ⟨hw.trans w1,m1,id,ob,NZ ha (fun t ht=>lk t (mw ht)),hob,S.wf id ob hob,hge⟩),hdst⟩
  .intro x ox lo hi t u id h1 h2 h3 h4 h5 h6 h7 h8;rw[pQ L (xi h2)]at h4;rw[T2 x ox lo hi t h1 h2 aGl h6]at h7;obtain⟨p1,p2,p3⟩:=I.oo x ox lo hi t u id h1 h2 aGl h4 h5 h6 h7 h8;refine⟨?_,?_,p3⟩
   .cases hq:X'.s id with|none=>rfl|some l=>have:=E.cJ id l (by rw[I.hX];exact p2) hq;rw[p1]at this;cases this
   .have:=E.next;rw[hh,I.hX]at this;omega
  .intro x y ox oy aIa aHz aIb aHA t t' u u' id a1 a2 a3 a4 a5 a6 a7 a8 a9 a10 a11 a12 a13 a14 a15 a16;rw[pQ L (xi a3)]at a7;rw[pQ L (xi a4)]at a8;rw[T2 x ox aIa aHz t a1 a3 aGl a11]at a13;rw[T2 y oy aIb aHA t' a2 a4 aGl a12]at a14;exact I.ln x y ox oy aIa aHz aIb aHA t t' u u' id a1 a2 a3 a4 aGl aGl a7 a8 a9 a10 a11 a12 a13 a14 a15 a16
  .intro x hi hx;rw[pQ L (xi hx)];cases hq:L x with|false=>rfl|true=>have:=I.lo x (q+1) hi hx hq;omega
  .intro z oz hz hLz e he;by_cases hzi:z=i
   .subst hzi;rw[ho]at hz;cases hz;exact ko (hr e he)
   .rw[pQ L hzi]at hLz;exact ko (I.down z oz hz hLz e he)
  .intro x j hx;by_cases hxi:x=i
   .subst hxi;rw[hp]at hx;cases hx;rw[asT];exact⟨fun _=>pi _,fun _=>rfl⟩
   .rw[pQ L hxi,I.wl x j hx];constructor
    .intro r;omega
    .intro r;rcases ww q j with s|s
     .have:j=q+1:=aGl
      subst this;exact absurd (hP.uniq x i _ hx hp) hxi
     .exact s
  .intro x l h hx hLx;rw[pQ L (xi hx)]at hLx;have:=I.lo x l h hx hLx;omega
  .intro x l h hx hh';exact ko (done x l h hx aGl)
 unfold wpOp;rw[ho];simp only[];rw[W.is X a (fun j w oj t v hgd hj hd hv=>look t (qK (ops:=ops) hgd hj hd) v hv)];rcases hA with⟨rfl,A⟩|⟨rfl,rfl,hh⟩
 .simp only[aFx];left;exact A X a I.hX I.H opnd K Q (fun X' V h1 h2 h3 h4=>fin X' V h1 h2 h3 h4)
 .simp only[GE,aFk];exact fin X undef (aH.refl X) I.H (by rw[hh];exact I.hX) ⟨[],rfl,rfl⟩
end
variable{v:AV}{T:Tr AV}{b:Bool}
theorem GU{P:Program}{sh:TypeId->Option Sh}{n:Nat}{ops:Array Oper}{pl:List PE}(hP:ju ops pl k)(hM:∀(x:Nat) (o:Oper) (lo hi:Nat),ops[x]?=some o->pl[x]?=some (.p lo hi)->fw o.op=true->∃t,o.dst=some t)
  (hD:∀(x y:Nat) (o o':Oper) (t:Tmp),ops[x]?=some o->ops[y]?=some o'->o.dst=some t->o'.dst=some t->x=y) (hN:∀(x:Nat) (o:Oper) (t:Tmp),ops[x]?=some o->o.dst=some t->t<n)
  {X₀:Cx}{fin:St}(hQ:∀X a,RF X n fin a->aH X₀ X->Q .normal a X.w) :
  ∀(fuel:Nat) (r q:Nat) (listed:Array Bool) (st:St) (X:Cx) (a:Act),q+r=k->AA P sh n ops pl r q st fin->listed.size=ops.size->left ops.size (fun j=>listed.getD j false)<=fuel ->
   Inv P sh n ops pl X₀ q (fun j=>listed.getD j false) X a st->wpAny P .any ops Q fuel listed a X.w:=by
 have me:∀(listed:Array Bool),listed.size=ops.size->∀i,i<ops.size->listed.getD i true=listed.getD i false:=by intro listed hs i hi;simp[LT,show i<listed.size by omega]
 have fini:∀(r q:Nat) (listed:Array Bool) (st:St) (X:Cx) (a:Act),q+r=k->AA P sh n ops pl r q st fin->listed.size=ops.size ->
   Inv P sh n ops pl X₀ q (fun j=>listed.getD j false) X a st->Region.ready .any ops listed=[]->Q .normal a X.w:=by
  intro r q listed st X a hqr ht hs I hrd;have all:∀i,i<ops.size->listed.getD i false=true:=by
   intro i
   induction i using Nat.strongRecOn with
   |_ i ih=>
    intro hi;cases hx:listed.getD i false with
    |true=>rfl|false=>
     have ho:ops[i]?=some ops[i]:=by simp[hi]
     have:i∈Region.ready .any ops listed:=M0 (by rw[me listed hs i hi];exact hx) ho (fun e he=>ih e (hP.below i _ ho e he) (Nat.lt_trans (hP.below i _ ho e he) hi));rw[hrd]at this;cases this
  cases r with
  |succ r=>obtain⟨i,o,ch,aIt,aIu,b,T,v,h1,h2,_⟩:=ht;have:=(I.wl i (q+1) h2).1 (all i (iY h1));omega
  |zero=>have:fin=st:=ht;subst this;refine hQ X a ⟨I.hX,⟨I.size,I.defers,?_⟩,I.H⟩ I.E;intro t v hv;refine I.tmp t v hv ?_;rintro⟨x,o,lo,hi,p1,p2,p3,p4,p5⟩;simp only[]at p4;rw[all x (iY p1)]at p4;cases p4
 intro fuel
 induction fuel with
 |zero=>
  intro r q listed st X a hqr ht hs hl I;have hrd:Region.ready .any ops listed=[]:=by
   cases hx:Region.ready .any ops listed with
   |nil=>rfl|cons i l=>
    exfalso;obtain⟨h1,o,ho,_⟩:=xP (i:=i) (by rw[hx];simp);have hi:=iY ho;have h0:left ops.size (fun j=>listed.getD j false)=0:=aGl
    have h3:=qM h0 i hi;rw[me listed hs i hi]at h1;rw[h1]at h3;cases h3
  exact⟨hrd,fini r q listed st X a hqr ht hs I hrd⟩
 |succ fuel ih=>
  intro r q listed st X a hqr ht hs hl I;refine⟨fun hrd=>fini r q listed st X a hqr ht hs I hrd,?_⟩;intro i hi;obtain⟨h1,o,ho,h2⟩:=xP hi;have aU:=iY ho;rw[me listed hs i aU]at h1;have hL:(fun j=>(listed.setIfInBounds i true).getD j false)=Ev.mark (fun j=>listed.getD j false) i:=by
   funext j;unfold Ev.mark;by_cases hj:j=i
   .subst hj;simp[LT,IR,show j<listed.size by omega]
   .rw[rx hj];exact getD_set_ne false (fun r=>hj r.symm)
  have hsz:(listed.setIfInBounds i true).size=ops.size:=by simp[hs]
  have hleft:left ops.size (fun j=>(listed.setIfInBounds i true).getD j false)<=fuel:=by rw[hL];have:=uG (L:=fun j=>listed.getD j false) (i:=i) h1 ops.size;rw[BY aU]at this;omega
  obtain⟨pe,hpe⟩:∃pe,pl[i]?=some pe:=⟨pl[i]'(by rw[hP.len];exact aU),by simp[hP.len,aU]⟩;cases pe with
  |p l h=>refine I.step hP hM (fun t htd=>hN i o t ho htd) ho h2 h1 hpe ?_;intro X' a' I';exact ih r q _ st X' a' hqr ht hsz hleft (by rw[hL];exact I')|w j=>
   have hj:j=q+1:=by
    obtain⟨w1,w2,w3⟩:=hP.w i o j ho hpe;have hn:¬j<=q:=fun r=>by have:=(I.wl i j hpe).2 r;rw[h1]at this;cases this
    rcases w3 with r|⟨e,pe,g1,g2,g3⟩
    .omega
    .have hLe:=h2 e g1;cases pe with|w j'=>have:=(I.wl e j' g2).1 hLe;simp only[PE.num]at g3;omega|p l' h'=>have:=I.lo e l' h' g2 hLe;simp only[PE.num]at g3;omega
   subst hj;have hk:=(hP.w i o (q+1) ho hpe).2.1;obtain⟨r,rfl⟩:∃r',r=r'+1:=⟨r-1,aGl⟩;obtain⟨i',o',ch,aIt,aIu,b,T,v,g1,g2,g3,g4,g5,g6,g7,g8,g9⟩:=ht;have:=hP.uniq i' i _ g2 hpe;subst this;rw[ho]at g1;cases g1;refine I.write hP hM hD ho h2 h1 hpe g3 g4 g5 g6 g7 g8 ?_;intro X' a' I';exact ih r (q+1) _ aIu X' a' aGl g9 hsz hleft (by rw[hL];exact I')
def FL(P:Program)(G:Cx->Prop)(base n:Nat)(c:Code)(st:St)(e:Ev.Ex)(st':St):Prop:=∀X₀ X a,(X₀.h.next=base/\G X₀)->ab X₀->aH X₀ X->RF X n st a->∀Q:Exit->Act->World->Prop,
 (∀X' a',RF X' n st' a'->aH X₀ X'->Q e.to a' X'.w)->c.wp P Q a X.w
variable{G:Cx->Prop}{base:Nat}
theorem aeV{R:Type}{P:Program}(hm:P.follows .mixedOrders=true){sh:TypeId->Option Sh}{call:iB R}(hc:db P call){n:Nat}{ops:Array Oper}{st:St}{k:St->Option R}{r:R}(e:FO P sh call n ops st k=some r)(id:Nat) :
  ∃st',k st'=some r/\FL P G base n (.region id ops true) st .normal st':=by
 unfold FO at e;split at e<;>try cases e
 rename_i m hpk;split at e<;>try cases e
 rename_i hd hlt;have hP:=xK hpk;obtain⟨d1,d2⟩:=Zyg hd (by rw[hP.len];simp);obtain⟨aIt,e,S'⟩:=UF e (fun x y o o' hi hi' t q1 q2 q3 q4 q5 q6=>VN hP (by simpa using q1) (by simpa using q2) q4 q5 q6) d1;obtain⟨fin,hk,ht⟩:=Vq hc hP d1 m 0 aIt e;refine⟨fin,hk,?_⟩;intro X₀ X a hb hH hE RR Q hQ;refine wp_region_any hm ?_;have Hd:=RR.H.drew (X.w.drawn+1);have S:=S' (by rw[<-RR.h];exact RR.H.lt);have hgetD:∀j,(Array.replicate ops.size false).getD j false=false:=by intro j;simp only[LT,Array.getElem?_replicate];split<;>rfl
 have I:Inv P sh n ops (kL ops.toList) { X with w:={ X.w with drawn:=X.w.drawn+1 } } 0 (fun j=>(Array.replicate ops.size false).getD j false) ⟨X.s,aIt.h,{ X.w with drawn:=X.w.drawn+1 },X.A⟩ a aIt:=by
  refine Inv.enter (X:={ X with w:={ X.w with drawn:=X.w.drawn+1 } }) (h₁:=st.h) (T₁:=st.T) RR.T.size RR.T.defers RR.h Hd (aH.refl _) S ?_ ?_ ?_ ?_ (fun i hi _=>hgetD i) ?_ ?_ ?_ ?_
  .intro t v hv _ _;obtain⟨V,h1,h2⟩:=RR.T.get t v hv;exact⟨V,h1,h2.ext (gw.of_heap (X:=X) (w:={ X.w with drawn:=X.w.drawn+1 }) rfl)⟩
  .intro i o lo hi _ _ h;omega
  .intro i o lo hi t v id _ _ h;omega
  .intro i j o o' lo hi lo' hi' t t' v v' id _ _ _ _ h;omega
  .intro z o _ h;rw[hgetD]at h;cases h
  .intro i j hj;simp only[hgetD];have hlt':i<ops.size:=by rw[<-hP.len];exact js hj
   have:=(hP.w i ops[i] j (by simp[hlt']) hj).1;constructor
   .intro r;cases r
   .intro r;omega
  .intro i l h _ hL;rw[hgetD]at hL;cases hL
  .intro i l h _ hh;omega
 have hleft:∀m (L:Nat->Bool),left m L<=m:=by
  intro m L
  induction m with|zero=>simp[left]|succ m ih=>simp only[left];split<;>omega
 refine GU (X₀:={ X with w:={ X.w with drawn:=X.w.drawn+1 } }) hP (fun x o lo hi h=>d2 x o lo hi (by simpa using h)) (fun x y o o' t h1 h2=>d1 x y o o' t (by simpa using h1) (by simpa using h2)) (fun x o t h1 h2=>NK hlt x o t (by simpa using h1) h2) ?_ ops.size m 0 _ aIt _ a aGl ht aGn (hleft _ _) I;intro X' a' R' E';exact hQ X' a' R' (hE.trans ((aH.drew X _).trans E'))
open Go.Proofs.YtjflbmpepamfjaaGreat.Ev (Tr Tr.bM nth ct)
def da:List (Nat×Nat)->Nat->Option Nat
 |[],_=>none|p::l,j=>match Nat.beq p.1 j with|true=>some p.2|false=>da l j
def ED(base:Nat)(m:List (Nat×Nat))(j:Nat):Option Nat:=match Nat.blt j base with|true=>some j|false=>da m j
def aiV(base j:Nat):Option Nat:=match Nat.blt j base with|true=>some j|false=>none
mutual
def je(f:Nat->Option Nat):AV->Option AV
 |.bool b=>some (.bool b)|.int k n=>some (.int k n)|.str s=>some (.str s)|.cX=>some .cX|.ai=>some .ai|.dt=>some .dt|.dn=>some .dn|.dW=>some .dW|.jl=>some .jl|.ptr b o=>match f b with|some b=>some (.ptr b o)|none=>none
 |.dK b i z o=>match f b with|some b=>some (.dK b i z o)|none=>none
 |.fF σ d o=>some (.fF σ d o)|.hd b τ=>match f b with|some b=>some (.hd b τ)|none=>none
 |.vw b τ o l=>match f b with|some b=>some (.vw b τ o l)|none=>none
 |.fz τ L=>some (.fz τ L)|.eg τ z L=>some (.eg τ z L)|.mp b=>match f b with|some b=>some (.mp b)|none=>none
 |.ez b=>match f b with|some b=>some (.ez b)|none=>none
 |.rp b i=>match f b with|some b=>some (.rp b i)|none=>none
 |.ra b i=>match f b with|some b=>some (.ra b i)|none=>none
 |.func g x c=>match mX f x with
  |some x=>match mX f c with|some c=>some (.func g x c)|none=>none
  |none=>none
 |.agg l=>match mX f l with|some l=>some (.agg l)|none=>none
 |.bB l=>match mX f l with|some l=>some (.bB l)|none=>none
termination_by structural x=>x
def mX(f:Nat->Option Nat):List AV->Option (List AV)
 |[]=>some []|v::l=>match je f v with
  |some v=>match mX f l with|some l=>some (v::l)|none=>none
  |none=>none
termination_by structural x=>x
end
def jd(f:Nat->Option Nat):aE->Option aE
 |.cells l ty=>match mX f l with|some l=>some (.cells l ty)|none=>none
 |.arr τ L ty=>some (.arr τ L ty)|.map κ σ M=>some (.map κ σ M)|.fl L ty=>some (.fl L ty)|.dA τ i L vs ty=>match mX f vs with|some vs=>some (.dA τ i L vs ty)|none=>none
structure Rn(f:Nat->Option Nat)(X X':Cx):Prop where
 sg:∀j i l,f j=some i->X.s j=some l->X'.s i=some l
 K:ib X.w X.out X'.w X'.out
 obj:∀j i n,f j=some i->rowOf X'.h.tr i=some n->rowOf X.h.tr j=some n
mutual
theorem G8{f:Nat->Option Nat}{X X':Cx}(E:Rn f X X'):∀{v v':AV}{V:Value},je f v=some v'->Rel X v V->Rel X' v' V
 |.bool _,v',_,e,h|.int _ _,v',_,e,h|.str _,v',_,e,h|.cX,v',_,e,h|.ai,v',_,e,h|.dt,v',_,e,h|.dn,v',_,e,h|.dW,v',_,e,h|.jl,v',_,e,h=>by simp only[je,bo]at e;subst e;exact h|.ptr b off,v',V,e,⟨x,c,h1,h2⟩=>by
  simp only[je]at e;split at e<;>try cases e
  rename_i i hi;exact⟨x,c,E.sg _ _ _ hi h1,h2⟩
 |.dK b i z o,v',V,e,⟨x,c,h1,h2,h3⟩=>by
  simp only[je]at e;split at e<;>try cases e
  rename_i b' hb;exact⟨x,c,E.sg _ _ _ hb h1,h2,fun n q=>h3 n (E.obj _ _ n hb q)⟩
 |.fF σ d o,v',V,e,⟨b,off,cs,h1,h2,h3,h4⟩=>by simp only[je,bo]at e;subst e;obtain⟨k1,k2⟩:=h4.keep E.K h2;exact⟨b,off,cs,h1,k2,h3.keep E.K,k1⟩
 |.hd b τ,v',V,e,⟨l,h1,hc,h2⟩=>by
  simp only[je]at e;split at e<;>try cases e
  rename_i b' hb;exact⟨l,E.sg _ _ _ hb h1,hc,fun n q=>h2 n (E.obj _ _ n hb q)⟩
 |.vw b τ off len,v',V,e,⟨l,a,c,h1,h2,h3,h4,h5,h6⟩=>by
  simp only[je]at e;split at e<;>try cases e
  rename_i b' hb;exact⟨l,a,c,E.sg _ _ _ hb h1,h2,h3,h4,h5,fun n q=>h6 n (E.obj _ _ n hb q)⟩
 |.fz τ L,v',V,e,h=>by simp only[je,bo]at e;subst e;exact Cs.keep E.K (σ:=.sl τ) h|.eg τ z L,v',V,e,h=>by simp only[je,bo]at e;subst e;exact⟨Cs.keep E.K (σ:=.sl τ) h.1,h.2⟩|.mp b,v',V,e,⟨x,c,h1,h2⟩=>by
  simp only[je]at e;split at e<;>try cases e
  rename_i i hi;exact⟨x,c,E.sg _ _ _ hi h1,h2⟩
 |.ez b,v',V,e,⟨l,h1,h2⟩=>by
  simp only[je]at e;split at e<;>try cases e
  rename_i i hi;exact⟨l,E.sg _ _ _ hi h1,h2⟩
 |.rp b i,v',V,e,⟨x,c,m,p,h1,h2⟩=>by
  simp only[je]at e;split at e<;>try cases e
  rename_i k hk;exact⟨x,c,m,p,E.sg _ _ _ hk h1,h2⟩
 |.ra b i,v',V,e,⟨x,c,m,h1,h2⟩=>by
  simp only[je]at e;split at e<;>try cases e
  rename_i k hk;exact⟨x,c,m,E.sg _ _ _ hk h1,h2⟩
 |.func g x c,v',V,e,⟨xs,cs,h1,h2,h3⟩=>by
  simp only[je]at e;split at e<;>try cases e
  rename_i x' hx;split at e<;>try cases e
  rename_i c' hc;exact⟨xs,cs,h1,qR E hx h2,qR E hc h3⟩
 |.agg l,v',V,e,⟨cs,h1,h2⟩=>by
  simp only[je]at e;split at e<;>try cases e
  rename_i x' hx;exact⟨cs,h1,qR E hx h2⟩
 |.bB l,v',V,e,⟨cs,h1,h2⟩=>by
  simp only[je]at e;split at e<;>try cases e
  rename_i x' hx;exact⟨cs,h1,qR E hx h2⟩
theorem qR{f:Nat->Option Nat}{X X':Cx}(E:Rn f X X'):∀{l l':List AV}{cs:kw},mX f l=some l'->bm X l cs->bm X' l' cs
 |[],l',_,e,h=>by simp only[mX,bo]at e;subst e;exact h|x::l,l',_,e,⟨v,r,e2,h1,h2⟩=>by
  simp only[mX]at e;split at e<;>try cases e
  rename_i x' hx;split at e<;>try cases e
  rename_i l' hl;exact⟨v,r,e2,G8 E hx h1,qR E hl h2⟩
end
theorem Zg{f:Nat->Option Nat}{o o':aE}(e:jd f o=some o'):o'.row=o.row:=by
 cases o with
 |cells l ty=>simp only[jd]at e;split at e<;>cases e;rfl
 |arr τ L ty=>simp only[jd,bo]at e;subst e;rfl|map κ σ M=>simp only[jd,bo]at e;subst e;rfl|fl L ty=>simp only[jd,bo]at e;subst e;rfl|dA τ i L vs ty=>simp only[jd]at e;split at e<;>cases e;rfl
theorem Wc{f:Nat->Option Nat}{X X':Cx}(E:Rn f X X')(hw:X'.w=X.w){l:Loc}{o o':aE}(e:jd f o=some o')(h:cj X l o):cj X' l o':=by
 cases o with
 |cells vs ty=>
  simp only[jd]at e;split at e<;>try cases e
  rename_i l' hl;obtain⟨b,c,cs,h1,h2,h3⟩:=h;exact⟨b,c,cs,h1,by grind,qR E hl h3⟩
 |arr τ L ty=>
  simp only[jd,bo]at e;subst e;cases l with
  |nil=>exact h|«at» b c=>obtain⟨cs,tail,h1,h2,h3,h4⟩:=h;exact⟨cs,tail,by rw[hw];exact h1,h2.mono (fun x d q=>q.keep E.K),h3,h4⟩
  |cu _ _ _=>exact h.elim
 |map κ σ M=>simp only[jd,bo]at e;subst e;obtain⟨x,c,es,clk,h1,h2,h3⟩:=h;exact⟨x,c,es,clk,h1,by grind,h3.keep E.K⟩
 |fl L ty=>simp only[jd,bo]at e;subst e;cases l with|nil=>exact h|«at» b c=>exact h.elim|cu b c m=>obtain⟨tail,ty',h1,h2,h3,h4⟩:=h;exact⟨tail,ty',by grind,h2,h3.ext E.K (fun p _=>by grind),h4⟩
 |dA τ i L vs ty=>
  simp only[jd]at e;split at e<;>try cases e
  rename_i l' hl;obtain⟨b,c,pre,mid,post,tail,h0,h1,h2,h3,h4,h5⟩:=h;exact⟨b,c,pre,mid,post,tail,h0,by grind,h2.mono (fun x d q=>q.keep E.K),qR E hl h3,h4.mono (fun x d q=>q.keep E.K),h5⟩
def FN(base:Nat)(h:Tr aE):Nat->Tr aE->Option (Tr aE)
 |0,t=>some t|k+1,t=>match FN base h k t with
  |some t=>match h.get k with
   |some o=>match jd (aiV base) o with|some o=>Tr.set FT t k (some o)|none=>none
   |none=>some t
  |none=>none
def oJ(f:Nat->Option Nat)(h:Tr aE):List (Nat×Nat)->Tr aE->Option (Tr aE)
 |[],t=>some t|p::m,t=>match oJ f h m t with
  |some t=>match h.get p.1 with
   |some o=>match jd f o with|some o=>Tr.set FT t p.2 (some o)|none=>none
   |none=>some t
  |none=>none
def vc(f:Nat->Option Nat)(n:Nat)(T:Tr AV):List Tmp->Option (Tr AV)
 |[]=>some .nil|t::l=>match vc f n T l with
  |some T'=>match T.get t with
   |some v=>match je f v with|some v=>dG n T' (some t) v|none=>none
   |none=>none
  |none=>none
def zO(j i:Nat):List (Nat×Nat)->Bool
 |[]=>true|p::m=>match Nat.beq p.1 j with|true=>false|false=>match Nat.beq p.2 i with|true=>false|false=>zO j i m
def EA(base nx:Nat):List (Nat×Nat)->Bool
 |[]=>true|p::m=>match Nat.ble base p.1,Nat.ble base p.2,Nat.blt p.2 nx,zO p.1 p.2 m with|true,true,true,true=>EA base nx m|_,_,_,_=>false
theorem Zyj{j i:Nat}:∀{m:List (Nat×Nat)},zO j i m=true->∀p∈m,p.1≠j/\p.2≠i
 |[],_,p,hp=>by cases hp
 |q::m,h,p,hp=>by
  simp only[zO]at h;split at h<;>try cases h
  rename_i h1;split at h<;>try cases h
  rename_i h2;rcases AT.1 hp with rfl|hp
  .exact⟨NE h1,NE h2⟩
  .exact Zyj h p hp
structure qI(base nx:Nat)(m:List (Nat×Nat)):Prop where
 lo:∀p∈m,base<=p.1/\base<=p.2/\p.2<nx
 fst:∀p∈m,∀q∈m,p.1=q.1->p=q
 snd:∀p∈m,∀q∈m,p.2=q.2->p=q
theorem VC{base nx:Nat}:∀{m:List (Nat×Nat)},EA base nx m=true->qI base nx m
 |[],_=>⟨fun p h=>(nomatch h),fun p h=>(nomatch h),fun p h=>(nomatch h)⟩
 |p::m,h=>by
  simp only[EA]at h;split at h<;>try cases h
  rename_i h1 h2 h3 h4;have h1:=qr h1;have h2:=qr h2;rw[acl]at h3;have h4:=Zyj h4;obtain⟨a,b,c⟩:=VC h;refine⟨?_,?_,?_⟩
  .intro q hq
   grind
  .intro q hq r hr e
   grind
  grind
theorem yn:∀{m:List (Nat×Nat)}{j i:Nat},da m j=some i->(j,i)∈m
 |[],j,i,h=>by simp[da]at h|p::m,j,i,h=>by
  simp only[da]at h;split at h
  .rename_i q;have:=aK q
   grind
  .exact aFl _ (yn h)
theorem vU{base nx:Nat}{m:List (Nat×Nat)}(O:qI base nx m){j i:Nat}(h:(j,i)∈m):da m j=some i:=by
 have:∀{l:List (Nat×Nat)},(∀p∈l,p∈m)->(j,i)∈l->da l j=some i:=by
  intro l
  induction l with
  |nil=>intro _ q;cases q
  |cons p l ih=>
   intro hs q;simp only[da];split
   .rename_i e;have e:=aK e;have:=O.fst p (hs p aGn) (j,i) h e;rw[this]
   .rename_i e;have e:=NE e
    grind
 exact this (fun p hp=>hp) h
def inv:List (Nat×Nat)->Nat->Option Nat
 |[],_=>none|p::l,i=>if p.2=i then some p.1 else inv l i
theorem Wv:∀{m:List (Nat×Nat)}{i j:Nat},inv m i=some j->(j,i)∈m
 |[],i,j,h=>by simp[inv]at h|p::m,i,j,h=>by
  simp only[inv]at h;split at h
  .rename_i q
   grind
  .exact aFl _ (Wv h)
theorem FF{base nx:Nat}{m:List (Nat×Nat)}(O:qI base nx m){j i:Nat}(h:(j,i)∈m):inv m i=some j:=by
 have:∀{l:List (Nat×Nat)},(∀p∈l,p∈m)->(j,i)∈l->inv l i=some j:=by
  intro l
  induction l with
  |nil=>intro _ q;cases q
  |cons p l ih=>
   intro hs q;simp only[inv];split
   .rename_i e;have:=O.snd p (hs p aGn) (j,i) h e;rw[this]
   grind
 exact this (fun p hp=>hp) h
theorem xV{f:Nat->Option Nat}{h:Tr aE}:∀{m:List (Nat×Nat)}{t t':Tr aE},oJ f h m t=some t'->∀i,((∀p∈m,p.2≠i)->t'.get i=t.get i) /\
  ∀o',t'.get i=some o'->t.get i=some o'\/∃j o,(j,i)∈m/\h.get j=some o/\jd f o=some o'
 |[],t,t',e,i=>by simp only[oJ,bo]at e;grind|p::m,t,t',e,i=>by
  simp only[oJ]at e;split at e<;>try cases e
  rename_i aIF h₁;obtain⟨i1,i2⟩:=xV h₁ i;have back:∀o',aIF.get i=some o'->t.get i=some o'\/∃j o,(j,i)∈p::m/\h.get j=some o/\jd f o=some o':=by grind
  split at e
  .rename_i o ho;split at e<;>try cases e
   rename_i aIk hr;have hg:=Tr.bM _ _ _ _ _ e i
   grind
  grind
theorem Hk{f:Nat->Option Nat}{n:Nat}{T:Tr AV}:∀{l:List Tmp}{T':Tr AV},vc f n T l=some T'->∀t v',T'.get t=some v'->∃v,T.get t=some v/\je f v=some v'
 |[],T',e,t,v',h=>by simp only[vc,bo]at e;subst e;simp[Tr.get]at h|x::l,T',e,t,v',h=>by
  simp only[vc]at e;split at e<;>try cases e
  rename_i T₁ h₁;split at e<;>try cases e
  rename_i v hv;split at e<;>try cases e
  rename_i u hu;rw[lE e t]at h;by_cases q:x=t
  .subst q
   grind
  .rw[rx (by grind)]at h;exact Hk h₁ t v' h
def xe(base n:Nat)(keep:List Tmp)(m:List (Nat×Nat))(nx:Nat)(st:St):Option St:=match EA base nx m,Nat.ble base nx with
 |true,true=>match vc (ED base m) n st.T keep,FN base st.h.tr base .nil with
  |some T,some t=>match oJ (ED base m) st.h.tr m t with|some t=>some ⟨T,⟨t,nx⟩⟩|none=>none
  |_,_=>none
 |_,_=>none
open Go.Proofs.YtjflbmpepamfjaaGreat.Ev (Tr Tr.bM nth ct Ex)
def jA:Code->Nat
 |.region id _ _=>id|.seq a _=>jA a|.block _ a=>jA a|.loop a=>jA a|.scope a=>jA a|_=>0
def uz(n:Nat):List (Tmp×Sh×TypeId)->St->Option St
 |[],st=>some st|p::l,st=>match st.T.get p.1 with
  |some v=>match v with
   |.ai=>match Tr.set FT st.h.tr st.h.next (some (.arr p.2.1 [] p.2.2))with
    |some t=>match dG n st.T (some p.1) (.hd st.h.next p.2.1)with|some T=>uz n l ⟨T,⟨t,st.h.next+1⟩⟩|none=>none
    |none=>none
   |_=>uz n l st
  |none=>none
abbrev kS(R:Type):=Nat->St->(Ex->St->Option R)->Option R
def eH:Code->List Code
 |.seq a b=>eH a++eH b|.cond _ a b=>eH a++eH b|.block _ a=>eH a|.loop a=>[a]|.scope a=>eH a|_=>[]
def Cc(T:Tr AV)(c:Operand)(b:Bool):Option (Tr AV):=match c with|.tmp t=>Tr.set FT T t (some (.bool b))|_=>some T
section
variable{R:Type}(P:Program)(sh:TypeId->Option Sh)(call:iB R)(loops:kS R)(n:Nat)
def runK:Code->St->(Ex->St->Option R)->Option R
 |.skip,st,k=>k .normal st|.label _,st,k=>k .normal st|.region _ ops draw,st,k=>match draw with|false=>Ay P sh call n ops ops.toList st (k .normal)|true=>FO P sh call n ops st (k .normal)
 |.seq x y,st,k=>runK x st fun e st=>match e with|.normal=>runK y st k|.exit i=>k (.exit i) st|.ret=>k .ret st
 |.cond c x y,st,k=>match aQ st.T c with
  |some v=>match v with
   |.bool b=>br b (match Cc st.T c true with|some T=>runK x ⟨T,st.h⟩ k|none=>none) (match Cc st.T c false with|some T=>runK y ⟨T,st.h⟩ k|none=>none)
   |_=>none
  |none=>none
 |.block id x,st,k=>runK x st fun e st=>match e with
  |.normal=>k .normal st|.exit i=>match Nat.beq i id with|true=>k .normal st|false=>k (.exit i) st
  |.ret=>k .ret st
 |.loop x,st,k=>loops (jA x) st k|.scope x,st,k=>runK x st k|.exit id,st,k=>k (.exit id) st|.ret,st,k=>k .ret st|_,_,_=>none
end
theorem G0{n:Nat}:∀{l:List (Tmp×Sh×TypeId)}{st st':St},uz n l st=some st'->∀{X:Cx}{a:Act},RF X n st a->∃X',X'.w=X.w/\RF X' n st' a/\aH X X'
 |[],st,st',e,X,a,R=>by simp only[uz,bo]at e;subst e;exact⟨X,rfl,R,aH.refl X⟩|p::l,st,st',e,X,a,R=>by
  simp only[uz]at e;split at e<;>try cases e
  rename_i v hv;split at e
  .split at e<;>try cases e
   rename_i t ht;split at e<;>try cases e
   rename_i T hT;have hX:=R.h;rw[<-hX]at ht;obtain⟨E,H'⟩:=ab.void R.H ht;have hg:=lE hT;have g0:=Tr.bM _ _ _ _ _ ht;obtain⟨X',h1,h2,h3⟩:=G0 e (X:=⟨aW X.s X.h.next .nil,⟨t,X.h.next+1⟩,X.w,X.A⟩) (a:=a) (by
    refine⟨by rw[hX],⟨R.T.size,R.T.defers,?_⟩,H'⟩;intro x u hu;rw[hg x]at hu;by_cases q:p.1=x
    .subst q;rw[BY rfl]at hu;cases hu;obtain⟨V,b1,b2⟩:=R.T.get _ _ hv;refine⟨V,b1,.nil,by rw[<-hX];exact cU _ _ _,?_,?_⟩
     .rw[show V=_ from b2];rfl
     .intro n' q;rw[<-hX]at q
      replace q:rowOf t X.h.next=some n':=q
      rw[ji (by rw[g0,BY rfl])]at q;cases q;rw[show V=_ from b2];rfl
    .rw[rx (by grind)]at hu;obtain⟨V,b1,b2⟩:=R.T.get _ _ hu;exact⟨V,b1,b2.ext (E.ei R.H)⟩)
   exact⟨X',h1,h2,E.trans h3⟩
  .exact G0 e R
def lx(P:Program)(G:Cx->Prop)(base n:Nat)(x:Code){R:Type}(g:St->(Ex->St->Option R)->Option R):Prop:=∀st k r,g st k=some r->∃e st',k e st'=some r/\FL P G base n (.loop x) st e st'
variable{c:Operand}
theorem UH{X:Cx}{n:Nat}{T':Tr AV}{a:Act}(R:ig X n T a)(hv:aQ T c=some (.bool b))(h:Cc T c b=some T'):ig X n T' a:=by
 unfold Cc at h;split at h
 .rename_i t;refine⟨R.size,R.defers,?_⟩;intro u x hu;rw[Tr.bM _ _ _ _ _ h u]at hu;by_cases q:u=t
  .subst q;rw[BY rfl]at hu;cases hu;exact R.get u _ hv
  .rw[rx q]at hu;exact R.get u x hu
 .cases h;exact R
theorem VQ{X:Cx}{n:Nat}{a:Act}(R:ig X n T a)(hv:aQ T c=some v):Rel X v (a.eval c):=by
 cases c with
 |tmp t=>obtain⟨V,h1,h2⟩:=R.get t v hv;simpa[Act.eval,LT,h1]using h2
 |const u=>exact GV hv X|func f=>simp[aQ]at hv;subst hv;exact⟨[],[],rfl,rfl,rfl⟩|global g=>simp[aQ]at hv
theorem ym{R:Type}{P:Program}(hm:P.follows .mixedOrders=true){sh:TypeId->Option Sh}{call:iB R}(hc:db P call){loops:kS R}{n:Nat} :
  ∀(c:Code),(∀x∈eH c,lx P G base n x (loops (jA x)))->∀(st:St) (k:Ex->St->Option R) (r:R),runK P sh call loops n c st k=some r->∃e st',k e st'=some r/\FL P G base n c st e st':=by
 intro c
 induction c with
 |skip=>intro hl st k r e;exact⟨.normal,st,e,fun X₀ X a hb aGI hE RR Q hQ=>wp_skip (hQ X a RR hE)⟩|label l=>intro hl st k r e;exact⟨.normal,st,e,fun X₀ X a hb aGI hE RR Q hQ=>wp_label (hQ X a RR hE)⟩|exit id=>intro hl st k r e;exact⟨.exit id,st,e,fun X₀ X a hb aGI hE RR Q hQ=>wp_exit (hQ X a RR hE)⟩|ret=>intro hl st k r e;exact⟨.ret,st,e,fun X₀ X a hb aGI hE RR Q hQ=>wp_ret (hQ X a RR hE)⟩|region id ops draw=>
  intro hl st k r e;simp only[runK]at e;cases draw with
  |false=>simp only[]at e;obtain⟨st',hk,S⟩:=U9 hc ops.toList 0 st (k .normal) r e (by grind);refine⟨.normal,st',hk,?_⟩;intro X₀ X a hb aGI hE RR Q hQ;refine wp_region ?_;have:=S X a RR Q (fun X' a' R' E'=>hQ X' a' R' (hE.trans E'));rw[List.range_eq_range'];simpa using this
  |true=>simp only[]at e;obtain⟨st',hk,S⟩:=aeV hm hc (base:=base) e id;exact⟨.normal,st',hk,S⟩
 |seq x y ihx ihy=>
  intro hl st k r e;simp only[runK]at e;obtain⟨aHi,aIt,hk,S⟩:=ihx (fun x h=>hl x (by simp[eH,h])) _ _ _ e;cases aHi with
  |normal=>simp only[]at hk;obtain⟨aHj,aIu,aHC,aGU⟩:=ihy (fun x h=>hl x (by simp[eH,h])) _ _ _ hk;refine⟨aHj,aIu,aHC,?_⟩;intro X₀ X a hb aGI hE RR Q hQ;exact wp_seq (S X₀ X a hb aGI hE RR _ (fun X' a' R' E'=>aGU X₀ X' a' hb aGI E' R' Q hQ))
  |exit i=>simp only[]at hk;exact⟨_,_,hk,fun X₀ X a hb aGI hE RR Q hQ=>wp_seq (S X₀ X a hb aGI hE RR _ (fun X' a' R' E'=>hQ X' a' R' E'))⟩|ret=>simp only[]at hk;exact⟨_,_,hk,fun X₀ X a hb aGI hE RR Q hQ=>wp_seq (S X₀ X a hb aGI hE RR _ (fun X' a' R' E'=>hQ X' a' R' E'))⟩
 |cond c x y ihx ihy=>
  intro hl st k r e;simp only[runK]at e;split at e<;>try cases e
  rename_i v hv;split at e<;>try cases e
  rename_i b;rcases FM e with⟨rfl,e2⟩|⟨rfl,e2⟩
  .split at e2<;>try cases e2
   rename_i T hT;obtain⟨aHi,aIt,hk,S⟩:=ihx (fun x h=>hl x (by simp[eH,h])) _ _ _ e2;exact⟨aHi,aIt,hk,fun X₀ X a hb aGI hE RR Q hQ=>wp_cond_true (VQ RR.T hv) (S X₀ X a hb aGI hE ⟨RR.h,UH RR.T hv hT,RR.H⟩ Q hQ)⟩
  .split at e2<;>try cases e2
   rename_i T hT;obtain⟨aHi,aIt,hk,S⟩:=ihy (fun x h=>hl x (by simp[eH,h])) _ _ _ e2;exact⟨aHi,aIt,hk,fun X₀ X a hb aGI hE RR Q hQ=>wp_cond_false (VQ RR.T hv) (S X₀ X a hb aGI hE ⟨RR.h,UH RR.T hv hT,RR.H⟩ Q hQ)⟩
 |block id x ih=>
  intro hl st k r e;simp only[runK]at e;obtain⟨aHi,aIt,hk,S⟩:=ih (fun x h=>hl x (by simpa[eH]using h)) _ _ _ e;cases aHi with
  |normal=>exact⟨_,_,hk,fun X₀ X a hb aGI hE RR Q hQ=>wp_block (S X₀ X a hb aGI hE RR _ (fun X' a' R' E'=>hQ X' a' R' E'))⟩|ret=>exact⟨_,_,hk,fun X₀ X a hb aGI hE RR Q hQ=>wp_block (S X₀ X a hb aGI hE RR _ (fun X' a' R' E'=>hQ X' a' R' E'))⟩|exit i=>
   simp only[]at hk;split at hk
   .rename_i q;have q:=aK q;refine⟨_,_,hk,fun X₀ X a hb aGI hE RR Q hQ=>wp_block (S X₀ X a hb aGI hE RR _ (fun X' a' R' E'=>?_))⟩;simp only[Ex.to,Exit.inBlock,BY q];exact hQ X' a' R' E'
   .rename_i q;have q:=NE q;refine⟨_,_,hk,fun X₀ X a hb aGI hE RR Q hQ=>wp_block (S X₀ X a hb aGI hE RR _ (fun X' a' R' E'=>?_))⟩;simp only[Ex.to,Exit.inBlock,rx q];exact hQ X' a' R' E'
 |loop x ih=>intro hl st k r e;simp only[runK]at e;exact hl x (by simp[eH]) st k r e|scope x ih=>intro hl st k r e;simp only[runK]at e;obtain⟨aHi,aIt,hk,S⟩:=ih (fun x h=>hl x (by simpa[eH]using h)) _ _ _ e;refine⟨aHi,aIt,hk,fun X₀ X a hb aGI hE RR Q hQ=>wp_scope_straight (S X₀ X a hb aGI hE RR _ (fun X' a' R' E'=>?_))⟩;have:=hQ X' a' R' E';cases aHi<;>exact this
 |_=>intro hl st k r e;simp[runK]at e
def kE(w:World)(A:Nat->Prop):(l:List Sh)->TL l->kw->Prop
 |[],_,vs=>vs=[]|σ::l,d,vs=>∃V r,vs=V::r/\bR w A σ d.1 V/\kE w A l d.2 r
def mq:kw->Value
 |[v]=>v|l=>.tuple (List.toArray l)
def qH:List AV->AV
 |[v]=>v|l=>.bB l
def yo:(l:List Sh)->TL l->List AV
 |[],_=>[]|σ::l,d=>Au σ d.1::yo l d.2
theorem xX{X:Cx}:∀{l:List Sh}{d:TL l}{vs:kw},kE X.w X.out l d vs->bm X (yo l d) vs
 |[],_,vs,h=>h|σ::l,d,vs,⟨V,r,e,h1,h2⟩=>⟨V,r,e,D9 h1,xX h2⟩
theorem kE.keep{w w':World}{A A':Nat->Prop}(K:ib w A w' A'):∀{l:List Sh}{d:TL l}{vs:kw},kE w A l d vs->kE w' A' l d vs
 |[],_,vs,h=>h|σ::l,d,vs,⟨V,r,e,h1,h2⟩=>⟨V,r,e,h1.keep K,h2.keep K⟩
def mc(kl:Bool)(h:Hp):(l:List Sh)->List AV->Option (TL l×Hp)
 |[],vs=>match vs with|[]=>some ((),h)|_=>none
 |σ::l,vs=>match vs with
  |v::vs=>match rX kl h σ v with
   |some (d,h)=>match mc kl h l vs with|some (e,h)=>some ((d,e),h)|none=>none
   |none=>none
  |[]=>none
theorem vS{kl:Bool}:∀{l:List Sh}{X:Cx}(H:ab X) {vs:List AV}{d:TL l}{h':Hp},mc kl X.h l vs=some (d,h')->∀{cs:kw},bm X vs cs ->
  fb X h'/\kE X.w (Cx.out ⟨X.s,h',X.w,X.A⟩) l d cs
 |[],X,H,vs,d,h',e,cs,R=>by simp only[mc]at e;split at e<;>cases e;exact⟨fb.refl H,R⟩
 |σ::l,X,H,vs,d,h',e,cs,R=>by
  simp only[mc]at e;split at e<;>try cases e
  rename_i v vs;split at e<;>try cases e
  rename_i aHf h₁ aHi;split at e<;>cases e;rename_i aHg aHj;obtain⟨V,r,rfl,R1,R2⟩:=R;obtain⟨aGF,aIk⟩:=Hr H aHi R1;obtain⟨aGG,aIl⟩:=vS (X:=⟨X.s,h₁,X.w,X.A⟩) aGF.H aHj (R2.ext (aGF.E.ei H));exact⟨aGF.trans aGG,V,r,rfl,aIk.keep aGG.E.keeps,aIl⟩
def Comes(P:Program)(f:FuncId)(σs τs:List Sh)(F:TL σs->Option (TL τs)):Prop:=
 (∃fn c,P.funcs[f]?=some fn/\(fn.name == "runtime.NumGoroutine")=false/\fn.body=some c) /\
 ∀d x,F d=some x->∀(w:World) (A:Nat->Prop) (args:kw),(∀b,A b->b<w.heap.size)->kE w A σs d args ->
  Calls P f (List.toArray args) w fun e w'=>∃vs,e=.returned (mq vs)/\Below w.heap.size w w'/\kE w' A τs x vs
def aL{α R:Type}(x:Option α)(k:α->Option R):Option R:=match x with|some a=>k a|none=>none
theorem AE{α R:Type}{x:Option α}{k:α->Option R}{r:R}(h:aL x k=some r):∃a,x=some a/\k a=some r:=by
 cases x with
 |none=>cases h
 |some a=>exact⟨a,rfl,h⟩
structure Spec where
 σs:List Sh
 τs:List Sh
 F:TL σs->Option (TL τs)
abbrev vz:=FuncId->Option Spec
def Hm(P:Program)(S:vz):Prop:=∀f s,S f=some s->Comes P f s.σs s.τs s.F
mutual
def plain:Sh->Bool
 |.sl _=>false|.agg l=>qX l|_=>true
termination_by structural x=>x
def qX:List Sh->Bool
 |[]=>true|s::l=>match plain s with|true=>qX l|false=>false
termination_by structural x=>x
end
mutual
theorem Vy{w w':World}{A A':Nat->Prop}:∀{σ:Sh}{d:σ.T}{cs:kw},plain σ=true->Cs w A σ d cs->Cs w' A' σ d cs
 |.int k,n,cs,_,h=>h|.bool,b,cs,_,h=>h|.str,s,cs,_,h=>h|.agg l,d,cs,hp,h=>UN (l:=l) hp h|.sl s,L,cs,hp,h=>by cases hp
theorem UN{w w':World}{A A':Nat->Prop}:∀{l:List Sh}{d:TL l}{cs:kw},qX l=true->gj w A l d cs->gj w' A' l d cs
 |[],_,cs,_,h=>h|s::l,d,cs,hp,⟨c,r,e,h1,h2⟩=>by
  simp only[qX]at hp;split at hp<;>try cases hp
  rename_i hs;exact⟨c,r,e,Vy hs h1,UN hp h2⟩
end
theorem Zyd{w w':World}{A A':Nat->Prop}:∀{l:List Sh}{d:TL l}{vs:kw},qX l=true->kE w A l d vs->kE w' A' l d vs
 |[],_,vs,_,h=>h|s::l,d,vs,hp,⟨V,r,e,h1,h2⟩=>by
  simp only[qX]at hp;split at hp<;>try cases hp
  rename_i hs;exact⟨V,r,e,⟨Vy hs h1.1,h1.2⟩,Zyd hp h2⟩
def Gc{R:Type}(S:vz):iB R:=fun f vs h k=>match S f with
 |some s=>match mc (qX s.τs) h s.σs vs with|some (d,_)=>aL (s.F d) fun x=>k false (qH (yo s.τs x)) h|none=>match mc true h s.σs vs with|some (d,h')=>aL (s.F d) fun x=>k true (qH (yo s.τs x)) h'|none=>none
 |none=>none
mutual
theorem U4{h:Hp}:∀{σ:Sh}{l:List AV}{d:σ.T}{r:List AV}{h':Hp},eu false h σ l=some (d,r,h')->h'=h
 |.int k,l,d,r,h',e=>by
  simp only[eu]at e;split at e<;>try cases e
  split at e<;>cases e;rfl
 |.bool,l,d,r,h',e=>by simp only[eu]at e;split at e<;>cases e;rfl
 |.str,l,d,r,h',e=>by simp only[eu]at e;split at e<;>cases e;rfl
 |.agg ss,l,d,r,h',e=>Zyp (ss:=ss) e|.sl s,l,d,r,h',e=>by
  simp only[eu]at e;split at e<;>try cases e
  .rfl
  .split at e<;>cases e;rfl
  .split at e<;>try cases e
   split at e<;>try cases e
   contradiction
  .split at e<;>try cases e
   split at e<;>try cases e
   contradiction
theorem Zyp{h:Hp}:∀{ss:List Sh}{l:List AV}{d:TL ss}{r:List AV}{h':Hp},ke false h ss l=some (d,r,h')->h'=h
 |[],l,d,r,h',e=>by simp only[ke,bo]at e;cases e;rfl
 |s::ss,l,d,r,h',e=>by
  simp only[ke]at e;split at e<;>try cases e
  rename_i aHf aIq h₁ aHi;split at e<;>cases e;rename_i aHj;have:=U4 aHi;subst this;exact Zyp aHj
end
theorem Zyq{h:Hp}:∀{l:List Sh}{vs:List AV}{d:TL l}{h':Hp},mc false h l vs=some (d,h')->h'=h
 |[],vs,d,h',e=>by simp only[mc]at e;split at e<;>cases e;rfl
 |σ::l,vs,d,h',e=>by
  simp only[mc]at e;split at e<;>try cases e
  rename_i v vs;split at e<;>try cases e
  rename_i aHf h₁ aHi;split at e<;>cases e;rename_i aHj;have:h₁=h:=by
   unfold rX at aHi;split at aHi
   case h_3=>cases aHi
   all_goals
    split at aHi<;>try cases aHi
    rename_i aHk;split at aHi<;>cases aHi;exact U4 aHk
  subst this;exact Zyq aHj
theorem Aq{X:Cx}:∀{l:List AV}{cs:kw},bm X l cs->Rel X (qH l) (mq cs)
 |[],cs,h=>by rw[show cs=[]from h];exact⟨[],rfl,rfl⟩|[v],cs,⟨V,r,e,h1,h2⟩=>by rw[show r=[]from h2]at e;rw[e];exact h1|v::u::l,cs,⟨V,r,e,h1,⟨V',r',e',h2,h3⟩⟩=>by subst e';subst e;exact⟨V::V'::r',rfl,V,V'::r',rfl,h1,V',r',rfl,h2,h3⟩
theorem afA{R:Type}{P:Program}{S:vz}(hS:Hm P S):db P (Gc (R:=R) S):=by
 intro f vs h k r e;unfold Gc at e;split at e<;>try cases e
 rename_i s hs;obtain⟨hf,hp⟩:=hS f s hs;split at e
 case h_2=>
  split at e<;>try cases e
  rename_i d h' hd;obtain⟨x,hx,hk⟩:=AE e;refine⟨true,_,h',hk,(fun q=>by cases q),hf,?_⟩;intro X args hX H hR;subst hX;obtain⟨F,hA⟩:=vS H hd hR;refine(hp d x hx X.w (Cx.out ⟨X.s,h',X.w,X.A⟩) args (fun b hb=>hb.elim (F.H.alt b) F.H.AD) hA).mono ?_;rintro e w' ⟨us,rfl,B,hA'⟩;have E:aH ⟨X.s,h',X.w,X.A⟩ ⟨X.s,h',w',X.A⟩:=⟨B.os,B.tape,B.output,B.size,fun _ _ h=>h,fun _ _ _ h=>h,pi _,fun b hb _=>B.block b hb,fun b h=>.inl h,fun j n _ h=>h,fun _ _ _=>rfl,rfl⟩;refine⟨⟨X.s,h',w',X.A⟩,mq us,rfl,rfl,rfl,?_,F.E.trans E,Aq (xX hA')⟩;refine⟨?_,F.H.inj,F.H.lt,F.H.cJ,fun b hb=>ro (F.H.alt b hb) B.size,F.H.loc⟩;intro i o l h1 h2;refine(F.H.obj i o l h1 h2).ext (E.ei F.H) ?_;intro b hb;exact B.block b (F.H.jZ h1 h2 hb)
 rename_i d h' hd;obtain⟨x,hx,hk⟩:=AE e;refine⟨false,_,h,hk,fun _=>eF.refl h,hf,?_⟩;intro X args hX H hR;subst hX;obtain⟨F,hA⟩:=vS H hd hR;have hout:∀b,Cx.out ⟨X.s,h',X.w,X.A⟩ b->X.out b:=by
  rintro b (q|⟨i,o,c,h1,h2⟩)
  .exact .inl q
  .exact .inr ⟨i,o,c,F.sub i o h1,h2⟩
 refine(hp d x hx X.w (Cx.out ⟨X.s,h',X.w,X.A⟩) args (fun b hb=>(hout b hb).elim (H.alt b) H.AD) hA).mono ?_;rintro e w' ⟨us,rfl,B,hA'⟩;have hw:∀b o,X.w.heap[b]?=some o->w'.heap[b]?=some o:=fun b o q=>by rw[B.block b (iY q)];exact q
 have E:aH X ⟨X.s,X.h,w',X.A⟩:=⟨B.os,B.tape,B.output,B.size,fun _ _ h=>h,fun _ _ _ h=>h,pi _,fun b hb _=>B.block b hb,fun b h=>.inl h,fun j n _ h=>h,fun _ _ _=>rfl,rfl⟩;have hA'':kE w' X.out s.τs x us:=by cases hpl:qX s.τs with|true=>exact Zyd hpl hA'|false=>rw[hpl]at hd;have:=Zyq hd;subst this;exact hA'
 refine⟨⟨X.s,X.h,w',X.A⟩,mq us,rfl,rfl,rfl,?_,E,Aq (xX hA'')⟩;refine⟨?_,H.inj,H.lt,H.cJ,fun b hb=>ro (H.alt b hb) B.size,H.loc⟩;intro i o l h1 h2;refine(H.obj i o l h1 h2).ext (E.ei H) ?_;intro b hb;exact B.block b (H.jZ h1 h2 hb)
def iP(n:Nat):List AV->Nat->Tr AV->Option (Tr AV)
 |[],_,T=>some T|v::l,i,T=>match dG n T (some i) v with|some T=>iP n l (i+1) T|none=>none
theorem uK{n:Nat}:∀{vs:List AV}{i:Nat}{T T':Tr AV},iP n vs i T=some T'->∀t v,T'.get t=some v->(i<=t/\vs[t-i]?=some v)\/T.get t=some v
 |[],i,T,T',h,t,v,hv=>by simp[iP]at h;subst h;exact .inr hv|x::l,i,T,T',h,t,v,hv=>by
  simp only[iP]at h;split at h<;>try cases h
  rename_i T₁ h₁;rcases uK h t v hv with⟨hi,hl⟩|hT
  .left
   grind
  .rw[lE h₁ t]at hT
   grind
theorem U1{n:Nat}:∀{vs:List AV}{i:Nat}{T T':Tr AV},iP n vs i T=some T'->vs=[]\/i+vs.length<=n
 |[],i,T,T',h=>.inl rfl|x::l,i,T,T',h=>by
  right;simp only[iP]at h;split at h<;>try cases h
  rename_i T₁ h₁;have:i+1<=n:=G7 h₁;rcases U1 h with q|q
  .subst q;simp;omega
  .simp;omega
theorem xW{X:Cx}(H:ab X){n:Nat}{vs:List AV}{T:Tr AV}(h:iP n vs 0 .nil=some T){args:kw}(R:bm X vs args) :
  RF X n ⟨T,X.h⟩ { tmps:=List.toArray args++Array.replicate (n-(List.toArray args).size) undef,defers:=[] }:=by
 have hL:=R.length;have hn:args.length<=n:=by
  rcases U1 h with q|q
  .subst q;simp at hL;simp[hL]
  .omega
 refine⟨rfl,⟨by simp;omega,rfl,?_⟩,H⟩;intro t u hu;rcases uK h t u hu with⟨_,h1⟩|h1
 .simp only[Nat.sub_zero]at h1;obtain⟨V,h2,h3⟩:=R.get h1
  grind
 .simp[Tr.get]at h1
def iX(P:Program)(st:St):List ResultVar->Option (List AV)
 |[]=>some []|r::l=>match(match r with
   |.tmp t=>st.T.get t|.cell a t=>match st.T.get a with
    |some u=>match lH P st.h t u with|some (true,v)=>some v|_=>none
    |none=>none)with
  |some v=>match iX P st l with|some vs=>some (v::vs)|none=>none
  |none=>none
theorem ar0{X:Cx}{P:Program}{u v:AV}{U V:Value}{t:TypeId}(H:ab X)(e:lH P X.h t u=some (true,v))(R:Rel X u U)(hr:(Instr.loadAt t U).run P X.w=.ok V X.w) :
  (do loadVar t (<- asAddr U):Sem Value).run P X.w=.ok V X.w:=by
 unfold lH at e;split at e<;>try cases e
 rename_i g l o hc;split at e<;>try cases e
 obtain⟨b,off,c,ty,fr,cs,rfl,h1,h2,h3⟩:=Zxc H hc rfl R;simp only[Instr.loadAt,Instr.sureAddr,asAddr,Sem.run_bind,Sem.run_pure,Result.andThen_ok]at hr |-;exact hr
theorem xZ{P:Program}{st:St}{X:Cx}{n:Nat}{a:Act}(R:RF X n st a)(f:ResultVar->Sem Value)
  (hf:∀r,f r=match r with|.tmp t=>pure (a.tmps.getD t undef)|.cell x t=>do loadVar t (<- asAddr (a.tmps.getD x undef))) :
  ∀{l:List ResultVar}{vs:List AV},iX P st l=some vs->∃Vs,(l.mapM f).run P X.w=.ok Vs X.w/\bm X vs Vs
 |[],vs,h=>by simp[iX]at h;subst h;exact⟨[],rfl,rfl⟩|r::l,vs,h=>by
  simp only[iX]at h;split at h<;>try cases h
  rename_i v hv;split at h<;>try cases h
  rename_i vs' hl;obtain⟨Vs,ih,hR⟩:=xZ R f hf hl;have h1:∃V,(f r).run P X.w=.ok V X.w/\Rel X v V:=by
   rw[hf r];cases r with
   |tmp t=>
    obtain⟨V,g1,g2⟩:=R.T.get t v hv
    simp_all
   |cell x t=>
    simp only[]at hv |-;split at hv<;>try cases hv
    rename_i u hu;split at hv<;>cases hv;rename_i hv;obtain⟨U,g1,g2⟩:=R.T.get x u hu;have hX:=R.h;rw[<-hX]at hv;obtain⟨V,hr,hR⟩:=xU R.H hv rfl g2;refine⟨V,?_,hR⟩;have hx':a.tmps.getD x undef=U:=by simp[LT,g1]
    rw[hx'];exact ar0 R.H hv g2 hr
  obtain⟨V,h1,h2⟩:=h1;refine⟨V::Vs,?_,V,Vs,rfl,h2,hR⟩
  simp_all
theorem sR{P:Program}{st:St}{X:Cx}{n:Nat}{a:Act}(R:RF X n st a){fn:Func}{vs:List AV}(h:iX P st fn.results.toList=some vs) :
  ∃Vs,(results fn a.tmps).run P X.w=.ok (mq Vs) X.w/\bm X vs Vs:=by
 obtain⟨Vs,h1,hR⟩:=xZ R _ (fun r=>rfl) h;refine⟨Vs,?_,hR⟩;unfold results;rw[Sem.run_bind,aFU,Sem.run_map];have h2:(List.mapM (fun x=>match x with|.tmp t=>pure (a.tmps.getD t undef)|.cell x t=>do loadVar t (<- asAddr (a.tmps.getD x undef)):ResultVar->Sem Value) fn.results.toList).run P X.w=.ok Vs X.w:=h1;refine(IT (fun r=>((Result.andThen r _).andThen _)) h2).trans ?_;simp only[Result.andThen_ok,Sem.run_pure];congr 1
 match Vs with|[]=>simp[mq]|[v]=>simp[mq]|u::v::l=>simp[mq]
inductive LA where
 |int (k:IntKind)
 |bool
 |str
 |fz (τ:Sh)
 |cX
 |ai
 |dt
 |dn
 |dW
 |jl
 |eg (τ:Sh)
 |fF (σ:Sh) (o:Nat)
 |dK (b z o:Nat)
 |rp (b:Nat)
 |ptr (b off:Nat)
 |hd (b:Nat) (τ:Sh)
 |mp (b:Nat)
 |ez (b:Nat)
 |func (f:FuncId) (x c:List LA)
 |agg (l:List LA)
 |bB (l:List LA)
@[match_pattern] abbrev LA.I:LA:=.int .i64
mutual
def σA:LA->List Sh->List Sh
 |.int k,r=>.int k::r|.bool,r=>.bool::r|.str,r=>.str::r|.fz τ,r=>.sl τ::r|.cX,r=>r|.ai,r=>r|.dt,r=>r|.dn,r=>r|.dW,r=>r|.jl,r=>r|.eg τ,r=>.bool::.sl τ::r|.fF σ _,r=>σ::r|.dK _ _ _,r=>.int .i64::r|.rp _,r=>.int .i64::r|.ptr _ _,r=>r|.hd _ _,r=>r|.mp _,r=>r|.ez _,r=>r|.func _ x c,r=>gK x (gK c r)|.agg l,r=>gK l r|.bB l,r=>gK l r
termination_by structural x=>x
def gK:List LA->List Sh->List Sh
 |[],r=>r|a::l,r=>σA a (gK l r)
termination_by structural x=>x
end
mutual
def oq:(a:LA)->(r:List Sh)->TL (σA a r)->AV×TL r
 |.int k,r,d=>(.int k d.1,d.2)|.bool,r,d=>(.bool d.1,d.2)|.str,r,d=>(.str d.1,d.2)|.fz τ,r,d=>(.fz τ d.1,d.2)|.cX,r,d=>(.cX,d)|.ai,r,d=>(.ai,d)|.dt,r,d=>(.dt,d)|.dn,r,d=>(.dn,d)|.dW,r,d=>(.dW,d)|.jl,r,d=>(.jl,d)|.eg τ,r,d=>(.eg τ d.1 d.2.1,d.2.2)|.fF σ o,r,d=>(.fF σ d.1 o,d.2)|.dK b z o,r,d=>(.dK b (Int.toNat d.1) z o,d.2)|.rp b,r,d=>(.rp b (Int.toNat d.1),d.2)|.ptr b o,r,d=>(.ptr b o,d)|.hd b τ,r,d=>(.hd b τ,d)|.mp b,r,d=>(.mp b,d)|.ez b,r,d=>(.ez b,d)|.func f x c,r,d=>(.func f (ic x (gK c r) d).1 (ic c r (ic x (gK c r) d).2).1,(ic c r (ic x (gK c r) d).2).2)|.agg l,r,d=>(.agg (ic l r d).1,(ic l r d).2)|.bB l,r,d=>(.bB (ic l r d).1,(ic l r d).2)
termination_by structural x=>x
def ic:(l:List LA)->(r:List Sh)->TL (gK l r)->List AV×TL r
 |[],r,d=>([],d)|a::l,r,d=>((oq a (gK l r) d).1::(ic l r (oq a (gK l r) d).2).1,(ic l r (oq a (gK l r) d).2).2)
termination_by structural x=>x
end
def Zp(k:IntKind):AV->Option Int
 |.int k' n=>match Nat.beq (Ev.IntKind.num k') (Ev.IntKind.num k)with|true=>some n|false=>none
 |_=>none
def QR:AV->Option Bool
 |.bool b=>some b|_=>none
def Zt:AV->Option ByteArray
 |.str s=>some s|_=>none
def gFz(τ:Sh):AV->Option (List τ.T)
 |.fz τ' L=>match e:τ'.eqv τ with|true=>some (j7 e L)|false=>none
 |.ai=>some []|_=>none
def ain{σ τ:Sh}(h:σ.eqv τ=true)(d:σ.T):τ.T:=Sh.ej h▸d
def KV(σ:Sh)(o:Nat):AV->Option σ.T
 |.fF σ' d o'=>match e:σ'.eqv σ,Nat.beq o' o with|true,true=>some (ain e d)|_,_=>none
 |_=>none
theorem ae6{σ:Sh}{o:Nat}{v:AV}{d:σ.T}(h:KV σ o v=some d){X:Cx}{V:Value}(R:Rel X v V):Rel X (.fF σ d o) V:=by
 unfold KV at h;split at h<;>try cases h
 rename_i σ' d' o';split at h<;>try cases h
 rename_i e q;have q:=aK q;subst q;obtain rfl:=Sh.ej e;exact R
def um:LA->AV->Bool
 |.cX,v=>match v with|.cX=>true|_=>false
 |.ai,v=>match v with|.ai=>true|_=>false
 |.dt,v=>match v with|.dt=>true|_=>false
 |.dn,v=>match v with|.dn=>true|_=>false
 |.dW,v=>match v with|.dW=>true|_=>false
 |_,_=>false
def FX(b z o:Nat):AV->Option Int
 |.dK b' i z' o'=>match Nat.beq b' b,Nat.beq z' z,Nat.beq o' o with|true,true,true=>some (Int.ofNat i)|_,_,_=>none
 |_=>none
def Ow(b:Nat):AV->Option Int
 |.rp b' i=>match Nat.beq b' b with|true=>some (Int.ofNat i)|_=>none
 |_=>none
theorem agc{b:Nat}{v:AV}{n:Int}(h:Ow b v=some n):v=.rp b n.toNat:=by
 unfold Ow at h;split at h<;>try cases h
 split at h<;>cases h
 simp_all
theorem avA{b z o:Nat}{v:AV}{n:Int}(h:FX b z o v=some n):v=.dK b n.toNat z o:=by
 unfold FX at h;split at h<;>try cases h
 split at h<;>cases h
 simp_all
def Zr(b o:Nat):AV->Bool
 |.ptr b' o'=>match Nat.beq b' b with|true=>Nat.beq o' o|false=>false
 |_=>false
def gHd(b:Nat):AV->Bool
 |.hd b' _=>Nat.beq b' b|_=>false
def gMp(b:Nat):AV->Bool
 |.mp b'=>Nat.beq b' b|_=>false
def Zs(b:Nat):AV->Bool
 |.ez b'=>Nat.beq b' b|_=>false
def QS(f:FuncId):AV->Option (List AV×List AV)
 |.func f' x c=>match Nat.beq f' f with|true=>some (x,c)|false=>none
 |_=>none
def Zn:AV->Option (List AV)
 |.agg l=>some l|_=>none
def Zu:AV->Option (List AV)
 |.bB l=>some l|_=>none
def mQ{α β:Type}(x:Option α)(d:β):Option (α×β):=match x with|some a=>some (a,d)|none=>none
def nB{β:Type}(x:Bool)(d:β):Option β:=match x with|true=>some d|false=>none
theorem oE{α β:Type}{x:Option α}{d:β}{y:α×β}(h:mQ x d=some y):x=some y.1/\y.2=d:=by
 cases x with
 |none=>cases h
 |some a=>cases h;exact⟨rfl,rfl⟩
theorem oB{β:Type}{x:Bool}{d y:β}(h:nB x d=some y):x=true/\y=d:=by
 cases x with
 |false=>cases h
 |true=>cases h;exact⟨rfl,rfl⟩
mutual
def uo:(a:LA)->(r:List Sh)->AV->TL r->Option (TL (σA a r))
 |.int k,r,v,d=>mQ (Zp k v) d|.bool,r,v,d=>mQ (QR v) d|.str,r,v,d=>mQ (Zt v) d|.fz τ,r,v,d=>mQ (gFz τ v) d|.cX,r,v,d=>nB (um .cX v) d|.ai,r,v,d=>nB (um .ai v) d|.dt,r,v,d=>nB (um .dt v) d|.dn,r,v,d=>nB (um .dn v) d|.dW,r,v,d=>nB (um .dW v) d|.jl,r,v,d=>nB (one v) d|.eg τ,r,v,d=>none|.fF σ o,r,v,d=>mQ (KV σ o v) d|.dK b z o,r,v,d=>mQ (FX b z o v) d|.rp b,r,v,d=>mQ (Ow b v) d|.ptr b o,r,v,d=>nB (Zr b o v) d|.hd b τ,r,v,d=>nB (gHd b v) d|.mp b,r,v,d=>nB (gMp b v) d|.ez b,r,v,d=>nB (Zs b v) d|.func f x c,r,v,d=>match QS f v with
  |some p=>match lQ c r p.2 d with|some d=>lQ x (gK c r) p.1 d|none=>none
  |none=>none
 |.agg l,r,v,d=>match Zn v with|some l'=>lQ l r l' d|none=>none
 |.bB l,r,v,d=>match Zu v with|some l'=>lQ l r l' d|none=>none
termination_by structural x=>x
def lQ:(l:List LA)->(r:List Sh)->List AV->TL r->Option (TL (gK l r))
 |[],r,vs,d=>match vs with|[]=>some d|_=>none
 |a::l,r,vs,d=>match vs with
  |v::vs=>match lQ l r vs d with|some d=>uo a (gK l r) v d|none=>none
  |[]=>none
termination_by structural x=>x
end
theorem yb{a:LA}{v:AV}(h:um a v=true)(X:Cx)(V:Value)(R:Rel X v V)(r:List Sh)(d:TL (σA a r)):Rel X (oq a r d).1 V:=by cases a<;>cases v<;>first|exact R|cases h
mutual
theorem VK:∀(a:LA) (r:List Sh) (v:AV) (d:TL r) (d':TL (σA a r)),uo a r v d=some d'->(oq a r d').2=d/\∀X V,Rel X v V->Rel X (oq a r d').1 V
 |.int k,r,v,d,d',e=>by
  obtain⟨h1,h2⟩:=oE (y:=d') e;refine⟨h2,fun X V h=>?_⟩;unfold Zp at h1;split at h1
  .split at h1
   .rename_i hk;have hk:=Ev.IntKind.uR (aK hk);subst hk;have h1:=afE h1;show V=.int _ d'.1;rw[<-h1];exact h
   .exact absurd h1 aGn
  .exact absurd h1 aGn
 |.bool,r,v,d,d',e=>by
  obtain⟨h1,h2⟩:=oE (y:=d') e;refine⟨h2,fun X V h=>?_⟩;unfold QR at h1;split at h1
  .have h1:=afE h1;show V=.bool d'.1;rw[<-h1];exact h
  .exact absurd h1 aGn
 |.str,r,v,d,d',e=>by
  obtain⟨h1,h2⟩:=oE (y:=d') e;refine⟨h2,fun X V h=>?_⟩;unfold Zt at h1;split at h1
  .have h1:=afE h1;show V=.string d'.1;rw[<-h1];exact h
  .exact absurd h1 aGn
 |.fz τ,r,v,d,d',e=>by
  obtain⟨h1,h2⟩:=oE (y:=d') e;refine⟨h2,fun X V h=>?_⟩;unfold gFz at h1;show Cs X.w X.out (.sl τ) d'.1 [V];split at h1
  .split at h1
   .rename_i he;have h1:=afE h1;rw[<-h1];exact El he h
   .exact absurd h1 aGn
  .have h1:=afE h1;rw[<-h1,show V=_ from h];exact⟨none,0,0,rfl,rfl,pi _,fun q=>absurd rfl q⟩
  .exact absurd h1 aGn
 |.cX,r,v,d,d',e=>by obtain⟨h1,h2⟩:=oB (y:=d') e;exact⟨h2,fun X V h=>yb h1 X V h r d'⟩
 |.ai,r,v,d,d',e=>by obtain⟨h1,h2⟩:=oB (y:=d') e;exact⟨h2,fun X V h=>yb h1 X V h r d'⟩
 |.dt,r,v,d,d',e=>by obtain⟨h1,h2⟩:=oB (y:=d') e;exact⟨h2,fun X V h=>yb h1 X V h r d'⟩
 |.dn,r,v,d,d',e=>by obtain⟨h1,h2⟩:=oB (y:=d') e;exact⟨h2,fun X V h=>yb h1 X V h r d'⟩
 |.dW,r,v,d,d',e=>by obtain⟨h1,h2⟩:=oB (y:=d') e;exact⟨h2,fun X V h=>yb h1 X V h r d'⟩
 |.jl,r,v,d,d',e=>by obtain⟨h1,h2⟩:=oB (y:=d') e;exact⟨h2,fun X V h=>Wf h1 h⟩
 |.eg τ,r,v,d,d',e=>by cases e
 |.fF σ o,r,v,d,d',e=>by obtain⟨h1,h2⟩:=oE (y:=d') e;exact⟨h2,fun X V h=>ae6 h1 h⟩
 |.dK b z o,r,v,d,d',e=>by obtain⟨h1,h2⟩:=oE (y:=d') e;refine⟨h2,fun X V h=>?_⟩;have:=avA h1;subst this;exact h
 |.rp b,r,v,d,d',e=>by obtain⟨h1,h2⟩:=oE (y:=d') e;refine⟨h2,fun X V h=>?_⟩;have:=agc h1;subst this;exact h
 |.ptr b o,r,v,d,d',e=>by
  obtain⟨h1,h2⟩:=oB (y:=d') e;refine⟨h2,fun X V h=>?_⟩;unfold Zr at h1;split at h1
  .split at h1
   .rename_i q;have q:=aK q;have h1:=aK h1;subst q;subst h1;exact h
   .cases h1
  .cases h1
 |.hd b τ,r,v,d,d',e=>by
  obtain⟨h1,h2⟩:=oB (y:=d') e;refine⟨h2,fun X V h=>?_⟩;unfold gHd at h1;split at h1
  .have h1:=aK h1;subst h1;exact h
  .cases h1
 |.mp b,r,v,d,d',e=>by
  obtain⟨h1,h2⟩:=oB (y:=d') e;refine⟨h2,fun X V h=>?_⟩;unfold gMp at h1;split at h1
  .have h1:=aK h1;subst h1;exact h
  .cases h1
 |.ez b,r,v,d,d',e=>by
  obtain⟨h1,h2⟩:=oB (y:=d') e;refine⟨h2,fun X V h=>?_⟩;unfold Zs at h1;split at h1
  .have h1:=aK h1;subst h1;exact h
  .cases h1
 |.func f x c,r,v,d,d',e=>by
  unfold uo at e;split at e<;>try cases e
  rename_i p hp;split at e<;>try cases e
  rename_i aHf h₁;obtain⟨a1,a2⟩:=sN c r p.2 d aHf h₁;obtain⟨b1,b2⟩:=sN x (gK c r) p.1 aHf d' e;refine⟨by show(ic c r (ic x (gK c r) d').2).2=d;rw[b1,a1],?_⟩;intro X V h;unfold QS at hp;split at hp<;>try cases hp
  split at hp<;>cases hp;rename_i q;have q:=aK q;subst q;obtain⟨xs,cs,h1,h2,h3⟩:=h;refine⟨xs,cs,h1,b2 X _ h2,?_⟩;rw[b1];exact a2 X _ h3
 |.agg l,r,v,d,d',e=>by
  unfold uo at e;split at e<;>try cases e
  rename_i p hp;obtain⟨a1,a2⟩:=sN l r p d d' e;refine⟨a1,?_⟩;intro X V h;unfold Zn at hp;split at hp<;>cases hp;obtain⟨cs,h1,h2⟩:=h;exact⟨cs,h1,a2 X _ h2⟩
 |.bB l,r,v,d,d',e=>by
  unfold uo at e;split at e<;>try cases e
  rename_i p hp;obtain⟨a1,a2⟩:=sN l r p d d' e;refine⟨a1,?_⟩;intro X V h;unfold Zu at hp;split at hp<;>cases hp;obtain⟨cs,h1,h2⟩:=h;exact⟨cs,h1,a2 X _ h2⟩
theorem sN:∀(l:List LA) (r:List Sh) (vs:List AV) (d:TL r) (d':TL (gK l r)),lQ l r vs d=some d'->(ic l r d').2=d/\∀X cs,bm X vs cs->bm X (ic l r d').1 cs
 |[],r,vs,d,d',e=>by
  unfold lQ at e;split at e
  .have e:d=d':=afE e;exact⟨e.symm,fun X V h=>h⟩
  .cases e
 |a::l,r,vs,d,d',e=>by
  unfold lQ at e;split at e<;>try cases e
  rename_i v vs;split at e<;>try cases e
  rename_i aHf h₁;obtain⟨a1,a2⟩:=sN l r vs d aHf h₁;obtain⟨b1,b2⟩:=VK a (gK l r) v aHf d' e;refine⟨by show(ic l r (oq a (gK l r) d').2).2=d;rw[b1,a1],?_⟩;rintro X cs ⟨V,t,rfl,h1,h2⟩;refine⟨V,t,rfl,b2 X V h1,?_⟩;show bm X (ic l r (oq a (gK l r) d').2).1 t;rw[b1];exact a2 X _ h2
end
inductive LO where
 |cells (l:List LA) (ty:TypeId)
 |arr (τ:Sh) (ty:TypeId)
 |map (κ:IntKind) (σ:Sh)
 |fl (ty:TypeId)
 |dA (τ:Sh) (l:List LA) (ty:TypeId)
def aiX:Sh:=.agg [.I,.I,.sl (.agg [.int .u64,.int .u64])]
def σO:LO->List Sh->List Sh
 |.cells l _,r=>gK l r|.arr τ _,r=>.sl τ::r|.map κ σ,r=>.sl (.agg [.int κ,σ])::r|.fl _,r=>.sl aiX::r|.dA τ l _,r=>.int .i64::.sl τ::gK l r
def ur:(o:LO)->(r:List Sh)->TL (σO o r)->aE×TL r
 |.cells l ty,r,d=>(.cells (ic l r d).1 ty,(ic l r d).2)|.arr τ ty,r,d=>(.arr τ d.1 ty,d.2)|.map κ σ,r,d=>(.map κ σ d.1,d.2)|.fl ty,r,d=>(.fl d.1 ty,d.2)|.dA τ l ty,r,d=>(.dA τ (Int.toNat d.1) d.2.1 (ic l r d.2.2).1 ty,(ic l r d.2.2).2)
def H8(ty:TypeId):aE->Option (List AV)
 |.cells vs ty'=>match Nat.beq ty' ty with|true=>some vs|false=>none
 |_=>none
def Zo(τ:Sh)(ty:TypeId):aE->Option (List τ.T)
 |.arr τ' L ty'=>match e:τ'.eqv τ,Nat.beq ty' ty with|true,true=>some (j7 e L)|_,_=>none
 |_=>none
def aim{σ τ:Sh}(h:σ.eqv τ=true)(M:dD σ):dD τ:=Sh.ej h▸M
def Zq(κ:IntKind)(σ:Sh):aE->Option (dD σ)
 |.map κ' σ' M=>match e:σ'.eqv σ,j9 κ' κ with|true,true=>some (aim e M)|_,_=>none
 |_=>none
def QT(ty:TypeId):aE->Option (List iV)
 |.fl L ty'=>match Nat.beq ty' ty with|true=>some L|false=>none
 |_=>none
def BZ(τ:Sh)(ty:TypeId):aE->Option (Nat×List τ.T×List AV)
 |.dA τ' i L vs ty'=>match e:τ'.eqv τ,Nat.beq ty' ty with|true,true=>some (i,j7 e L,vs)|_,_=>none
 |_=>none
theorem agb{τ:Sh}{ty:TypeId}{v:aE}{p:Nat×List τ.T×List AV}(h:BZ τ ty v=some p):v=.dA τ p.1 p.2.1 p.2.2 ty:=by
 unfold BZ at h;split at h<;>try cases h
 rename_i τ' i L vs ty';split at h
 .rename_i he hty;have hty:=aK hty;subst hty;have:=Sh.ej he;subst this;have h:=afE h;rw[<-h];rfl
 .cases h
def KW:(o:LO)->(r:List Sh)->aE->TL r->Option (TL (σO o r))
 |.cells l ty,r,v,d=>match H8 ty v with|some vs=>lQ l r vs d|none=>none
 |.arr τ ty,r,v,d=>mQ (Zo τ ty v) d|.map κ σ,r,v,d=>mQ (Zq κ σ v) d|.fl ty,r,v,d=>mQ (QT ty v) d|.dA τ l ty,r,v,d=>match BZ τ ty v with
  |some p=>match lQ l r p.2.2 d with|some d=>some (Int.ofNat p.1,p.2.1,d)|none=>none
  |none=>none
structure Lay where
 T:List (Tmp×LA)
 h:List (Nat×LO)
 nx:Nat
def σT:List (Tmp×LA)->List Sh->List Sh
 |[],r=>r|p::l,r=>σA p.2 (σT l r)
def σH:List (Nat×LO)->List Sh->List Sh
 |[],r=>r|p::l,r=>σO p.2 (σH l r)
def Lay.σs(l:Lay):List Sh:=σT l.T (σH l.h [])
def Cb(n:Nat):(l:List (Tmp×LA))->(r:List Sh)->TL (σT l r)->Option (Tr AV×TL r)
 |[],r,d=>some (.nil,d)|p::l,r,d=>match Cb n l r (oq p.2 (σT l r) d).2 with
  |some (T,d')=>match dG n T (some p.1) (oq p.2 (σT l r) d).1 with|some T=>some (T,d')|none=>none
  |none=>none
def xf:(l:List (Nat×LO))->(r:List Sh)->TL (σH l r)->Option (Tr aE)
 |[],r,d=>some .nil|p::l,r,d=>match xf l r (ur p.2 (σH l r) d).2 with|some t=>Tr.set FT t p.1 (some (ur p.2 (σH l r) d).1)|none=>none
def me(T:Tr AV):(l:List (Tmp×LA))->(r:List Sh)->TL r->Option (TL (σT l r))
 |[],r,d=>some d|p::l,r,d=>match me T l r d with
  |some d=>match T.get p.1 with|some v=>uo p.2 (σT l r) v d|none=>none
  |none=>none
def B7(t:Tr aE):(l:List (Nat×LO))->(r:List Sh)->TL r->Option (TL (σH l r))
 |[],r,d=>some d|p::l,r,d=>match B7 t l r d with
  |some d=>match t.get p.1 with|some v=>KW p.2 (σH l r) v d|none=>none
  |none=>none
def Lay.put(n:Nat)(l:Lay)(d:TL l.σs):Option St:=match Cb n l.T (σH l.h []) d with
 |some (T,d)=>match xf l.h [] d with|some t=>some ⟨T,⟨t,l.nx⟩⟩|none=>none
 |none=>none
def Lay.get(l:Lay)(st:St):Option (TL l.σs):=match B7 st.h.tr l.h [] ()with|some d=>me st.T l.T (σH l.h []) d|none=>none
theorem VH{n:Nat}{aGV:Tr AV}:∀{l:List (Tmp×LA)}{r:List Sh}{d:TL r}{d':TL (σT l r)},me aGV l r d=some d'->∀{T:Tr AV}{aHg:TL r},Cb n l r d'=some (T,aHg)->aHg=d /\
  ∀t v',T.get t=some v'->∃v,aGV.get t=some v/\∀X V,Rel X v V->Rel X v' V
 |[],r,d,d',e,T,aHg,h=>by have e:d=d':=afE e;have h:(Tr.nil,d')=(T,aHg):=afE h;have h1:Tr.nil=T:=IT Prod.fst h;have h2:d'=aHg:=IT Prod.snd h;subst h1;exact⟨h2.symm.trans e.symm,fun t v' q=>by simp[Tr.get]at q⟩|p::l,r,d,d',e,T,aHg,h=>by
  simp only[me]at e;split at e<;>try cases e
  rename_i aHf h₁;split at e<;>try cases e
  rename_i v hv;obtain⟨a1,a2⟩:=VK _ _ _ _ _ e;simp only[Cb]at h;split at h<;>try cases h
  rename_i T₁ aHh hp;rw[a1]at hp;obtain⟨b1,b2⟩:=VH h₁ hp;split at h<;>cases h;rename_i hs;refine⟨b1,?_⟩;intro t v' q;rw[lE hs t]at q
  grind
def tH(o o':aE):Prop:=(∀X l,cj X l o->cj X l o')/\∀n,o'.row=some n->o.row=some n
theorem avh(τ:Sh)(l:List LA)(ty:TypeId)(r:List Sh)(v:aE)(d:TL r)(d':TL (σO (.dA τ l ty) r))(e:KW (.dA τ l ty) r v d=some d'):(ur (.dA τ l ty) r d').2=d/\tH v (ur (.dA τ l ty) r d').1:=by
 have e2:(match BZ τ ty v with
  |some p=>match lQ l r p.2.2 d with|some d=>some (Int.ofNat p.1,p.2.1,d)|none=>none
  |none=>none)=some d':=e
 split at e2<;>try cases e2
 rename_i p hv;split at e2<;>try cases e2
 rename_i aHf h₁;obtain⟨a1,a2⟩:=sN _ _ _ _ _ h₁;have hv:=agb hv;subst hv;refine⟨a1,?_,fun n q=>q⟩;rintro X l' ⟨b,c,pre,mid,post,tail,h0,h1,h2,h3,h4⟩;exact⟨b,c,pre,mid,post,tail,h0,h1,h2,a2 X mid h3,h4⟩
theorem ae7:∀(o:LO) (r:List Sh) (v:aE) (d:TL r) (d':TL (σO o r)),KW o r v d=some d'->(ur o r d').2=d/\tH v (ur o r d').1
 |.cells l ty,r,v,d,d',e=>by
  have e2:(match H8 ty v with|some vs=>lQ l r vs d|none=>none)=some d':=e;split at e2<;>try cases e2
  rename_i vs hv;unfold H8 at hv;split at hv<;>try cases hv
  split at hv<;>cases hv;rename_i h;have h:=aK h;subst h;obtain⟨a1,a2⟩:=sN _ _ _ _ _ e2;refine⟨a1,?_,fun n q=>by cases q⟩;rintro X l' ⟨b,c,cs,h1,h2,h3⟩;exact⟨b,c,cs,h1,h2,a2 X cs h3⟩
 |.arr τ ty,r,v,d,d',e=>by
  obtain⟨h1,h2⟩:=oE (y:=d') e;refine⟨h2,?_⟩;show tH v (.arr τ d'.1 ty);unfold Zo at h1;split at h1<;>try cases h1
  rename_i τ' L ty';split at h1
  .rename_i he hty;have h1:=afE h1;rw[<-h1];have hty:=aK hty;subst hty;have:=Sh.ej he;subst this;exact⟨fun X l h=>h,fun n q=>q⟩
  .cases h1
 |.map κ σ,r,v,d,d',e=>by
  obtain⟨h1,h2⟩:=oE (y:=d') e;refine⟨h2,?_⟩;show tH v (.map κ σ d'.1);unfold Zq at h1;split at h1<;>try cases h1
  rename_i κ' σ' M;split at h1
  .rename_i he hk;have h1:=afE h1;rw[<-h1];have hk:=my hk;subst hk;have:=Sh.ej he;subst this;exact⟨fun X l h=>h,fun n q=>by cases q⟩
  .cases h1
 |.fl ty,r,v,d,d',e=>by
  obtain⟨h1,h2⟩:=oE (y:=d') e;refine⟨h2,?_⟩;show tH v (.fl d'.1 ty);unfold QT at h1;split at h1<;>try cases h1
  rename_i L ty';split at h1
  .rename_i hty;have h1:=afE h1;rw[<-h1];have hty:=aK hty;subst hty;exact⟨fun X l h=>h,fun n q=>by cases q⟩
  .cases h1
 |.dA τ l ty,r,v,d,d',e=>avh τ l ty r v d d' e
theorem VJ{aIE:Tr aE}:∀{l:List (Nat×LO)}{r:List Sh}{d:TL r}{d':TL (σH l r)},B7 aIE l r d=some d'->∀{t:Tr aE},xf l r d'=some t ->
  ∀i o',t.get i=some o'->∃o,aIE.get i=some o/\tH o o'
 |[],r,d,d',e,t,h=>by simp only[xf,bo]at h;subst h;exact fun i o' q=>by simp[Tr.get]at q|p::l,r,d,d',e,t,h=>by
  simp only[B7]at e;split at e<;>try cases e
  rename_i aHf h₁;split at e<;>try cases e
  rename_i v hv;obtain⟨a1,a2⟩:=ae7 _ _ _ _ _ e;simp only[xf]at h;split at h<;>try cases h
  rename_i aIF hp;rw[a1]at hp;have ih:=VJ h₁ hp;intro i o' q;rw[Tr.bM _ _ _ _ _ h i]at q
  grind
