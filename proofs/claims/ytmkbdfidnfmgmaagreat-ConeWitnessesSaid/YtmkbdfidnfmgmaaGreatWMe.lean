import Derived.Test.YtmkbdfidnfmgmaaGreatWMd
set_option linter.all false
section
namespace Go.Proofs.YtmkbdfidnfmgmaaGreat.V
open Go Go.RowKit
open Go.Proofs.YtmkbdfidnfmgmaaGreat.Ev (Tr Tr.dp nth fc PE oq xn tf Je gn looks tmpsOf Aq qo xc kq rB pO xf left mark Aw Aj gD lJ mS ry)
def wf(h:Hp):Prop:=∀id o,h.tr.get id=some o->id<h.next
variable{h:Hp}
theorem wf.le{h':Hp}(w:wf h)(old:∀id,id<h.next->h'.tr.get id=h.tr.get id):gd h h':=fun b o q=>by rw[old b (w b o q)];exact q
structure One(P:Program)(sh:TypeId->Option Sh)(ops:Array Oper)(o:Oper)(st st':St)(v:AV):Prop where
 next:st.h.next<=st'.h.next
 old:∀id,id<st.h.next->st'.h.tr.get id=st.h.tr.get id
 wf:wf st'.h
 same:∀t,o.dst≠some t->st'.T.get t=st.T.get t
 now:PN P sh ops st.h.next st'.T st'.h o v
 dst:∀t,o.dst=some t->st'.T.get t=some v
variable{o:Oper}{P:Program}{ops:Array Oper}{n:Nat}{sh:TypeId->Option Sh}{R:Type}{k:St->Option R}{r:R}
theorem anZ{st:St}(e:Ol P sh n ops o st k=some r)
  (hl:∀t,o.dst=some t->t∉looks ops.toList o):∃st' v,k st'=some r/\(wf st.h->One P sh ops o st st' v):=by
 unfold Ol at e;obtain⟨b,T₁,e,auU,hw⟩:=amR e;have bn:∀{T':Tr AV}{v:AV},j7 n T₁ o.dst v=some T'->(∀t∈looks ops.toList o,T'.get t=st.T.get t)/\(∀t,o.dst≠some t->T'.get t=st.T.get t)/\∀t,o.dst=some t->T'.get t=some v:=by
  intro T' v hs;have hg:=rz hs
  grind
 cases b with
 |false=>
  simp only[]at e;split at e<;>try cases e
  rename_i T' hs;obtain⟨k1,k2,k3⟩:=bn hs;refine⟨_,.d5 [],e,fun w=>⟨rt _,fun _ _=>rfl,w,k2,.inl ⟨?_,rfl⟩,k3⟩⟩;rw[Ak (ops:=ops) (T:=st.T) k1];exact hw
 |true=>
  simp only[]at e;split at e
  .rename_i g ob v ha;split at e<;>try cases e
   rename_i tr T' ht hs;obtain⟨hg,e⟩:=rG e;subst hg;obtain⟨k1,k2,k3⟩:=bn hs;have hgt:=Tr.dp FT st.h.tr st.h.next _ tr ht;obtain⟨m1,m2⟩:=JK ha;refine⟨_,v,e,fun w=>⟨atQ,?_,?_,k2,.inr (.inr ⟨?_,m1,st.h.next,ob,?_,?_,atQ,rt _⟩),k3⟩⟩
   .intro id hid;show tr.get id=_;rw[hgt id,BT atO]
   .intro id o' q
    replace q:tr.get id=some o':=q
    rw[hgt id]at q;by_cases p:id=st.h.next
    .simp[p]
    .rw[BT p]at q;have:=w id o' q;simp only;omega
   .rw[Ak (ops:=ops) (T:=st.T) k1];exact hw
   .refine TJ ha (fun t q=>?_);show T'.get t=T₁.get t;rw[k1 t (qo q),auU t]
   .show tr.get _=_;rw[hgt,IO rfl]
  .split at e<;>try cases e
   rename_i g v hr;split at e<;>try cases e
   rename_i T' hs;obtain⟨hg,e⟩:=rG e;subst hg;obtain⟨k1,k2,k3⟩:=bn hs;refine⟨_,v,e,fun w=>⟨rt _,fun _ _=>rfl,w,k2,.inr (.inl ⟨?_,?_,?_⟩),k3⟩⟩
   .rw[Ak (ops:=ops) (T:=st.T) k1];exact hw
   .rename_i hna _;cases hm:gU o.op with|false=>rfl|true=>unfold ot at hr;unfold gU at hm;split at hm<;>first|(cases hm;done)|(rename_i hop;rw[hop]at hr;cases hr)
   .refine TH (gd.refl _) hr (fun t q=>?_);rw[k1 t (qo q),auU t]
structure zX(P:Program)(sh:TypeId->Option Sh)(ops:Array Oper)(q:Nat)(os:List Oper)(ps:List PE)(st st':St):Prop where
 next:st.h.next<=st'.h.next
 old:∀id,id<st.h.next->st'.h.tr.get id=st.h.tr.get id
 wf:wf st'.h
 same:∀t,(∀(x:Nat) (o:Oper) (hi:Nat),os[x]?=some o->ps[x]?=some (.p q hi)->o.dst≠some t)->st'.T.get t=st.T.get t
 done:∀(x:Nat) (o:Oper) (hi:Nat),os[x]?=some o->ps[x]?=some (.p q hi)->∃v,PN P sh ops st.h.next st'.T st'.h o v/\∀t,o.dst=some t->st'.T.get t=some v
 uniq:∀(x y:Nat) (o o':Oper) (hi hi':Nat) (t t':Tmp) (v v':AV) (id:Nat),os[x]?=some o->os[y]?=some o'->ps[x]?=some (.p q hi)->ps[y]?=some (.p q hi')->gU o.op=true->gU o'.op=true ->
  o.dst=some t->o'.dst=some t'->st'.T.get t=some v->st'.T.get t'=some v'->mo v=some id->mo v'=some id->x=y
theorem PN.ids{b:Nat}{T:Tr AV}{v:AV}(p:PN P sh ops b T h o v)(hm:gU o.op=true){id:Nat}(hi:mo v=some id):id<h.next/\b<=id:=by
 rcases p with⟨h1,rfl⟩|⟨h1,h2,h3⟩|⟨h1,h2,id',ob,h3,h4,h5,h6⟩
 .cases hi
 .rw[hm]at h2;cases h2
 .have:=(JK h3).2
  grind
theorem ZX{q:Nat}:∀{os:List Oper}{ps:List PE}{st:St},qt P sh n ops q os ps st k=some r ->
  (∀(x y:Nat) (o o':Oper) (hi hi':Nat) (t:Tmp),os[x]?=some o->os[y]?=some o'->ps[x]?=some (.p q hi)->ps[y]?=some (.p q hi')->x<=y->o'.dst=some t->t∉looks ops.toList o) ->
  (∀(x y:Nat) (o o':Oper) (t:Tmp),os[x]?=some o->os[y]?=some o'->o.dst=some t->o'.dst=some t->x=y) ->
  ∃st',k st'=some r/\(wf st.h->zX P sh ops q os ps st st'):=by
 intro os
 induction os with
 |nil=>intro ps st e _ _;simp only[qt]at e;exact⟨st,e,fun w=>⟨rt _,fun _ _=>rfl,w,fun _ _=>rfl,fun x o hi h=>by simp at h,fun x y o o' hi hi' t t' v v' id h=>by simp at h⟩⟩|cons o os ih=>
  intro ps st e hL hD;cases ps with
  |nil=>simp only[qt]at e;exact⟨st,e,fun w=>⟨rt _,fun _ _=>rfl,w,fun _ _=>rfl,fun x o hi _ h=>by simp at h,fun x y o o' hi hi' t t' v v' id _ _ h=>by simp at h⟩⟩|cons pe ps=>
   simp only[qt]at e;have hL':∀(x y:Nat) (o o':Oper) (hi hi':Nat) (t:Tmp),os[x]?=some o->os[y]?=some o'->ps[x]?=some (.p q hi)->ps[y]?=some (.p q hi')->x<=y->o'.dst=some t->t∉looks ops.toList o:=fun x y o o' hi hi' t h1 h2 h3 h4 h5 h6=>hL (x+1) (y+1) o o' hi hi' t (by simpa using h1) (by simpa using h2) (by simpa using h3) (by simpa using h4) atO h6;have hD':∀(x y:Nat) (o o':Oper) (t:Tmp),os[x]?=some o->os[y]?=some o'->o.dst=some t->o'.dst=some t->x=y:=fun x y o o' t h1 h2 h3 h4=>by have:=hD (x+1) (y+1) o o' t (by simpa using h1) (by simpa using h2) h3 h4;omega
   have skip:qt P sh n ops q os ps st k=some r->(∀hi,pe≠.p q hi)->∃st',k st'=some r/\(wf st.h->zX P sh ops q (o::os) (pe::ps) st st'):=by
    intro e hne;obtain⟨st',h1,S'⟩:=ih e hL' hD';refine⟨st',h1,fun w=>?_⟩;have S:=S' w;refine⟨S.next,S.old,S.wf,?_,?_,?_⟩
    .intro t ht;exact S.same t (fun x o' hi h1 h2=>ht (x+1) o' hi (by simpa using h1) (by simpa using h2))
    .intro x o' hi h1 h2;cases x with|zero=>simp at h2;exact absurd h2 (hne hi)|succ x=>exact S.done x o' hi (by simpa using h1) (by simpa using h2)
    .intro x y avF avG hi hi' t t' v v' id h1 h2 h3 h4;cases x with|zero=>simp at h3;exact absurd h3 (hne hi)|succ x=>cases y with|zero=>simp at h4;exact absurd h4 (hne hi')|succ y=>intro a1 a2 a3 a4 a5 a6 a7 a8;rw[S.uniq x y avF avG hi hi' t t' v v' id (by simpa using h1) (by simpa using h2) (by simpa using h3) (by simpa using h4) a1 a2 a3 a4 a5 a6 a7 a8]
   cases pe with
   |w j=>exact skip e (fun hi h=>by cases h)
   |p lo hi=>
    simp only[]at e;cases hb:Nat.beq lo q with
    |false=>simp only[hb]at e;exact skip e (fun h' h=>by cases h;exact asi hb rfl)
    |true=>
     have:=cB hb;subst this;simp only[hb]at e;obtain⟨avL,awc,e,O'⟩:=anZ e (fun t ht=>hL 0 0 o o hi hi t atQ atQ atQ atQ (rt _) ht);obtain⟨st',h1,S'⟩:=ih e hL' hD';refine⟨st',h1,fun w=>?_⟩;have O:=O' w;have S:=S' O.wf;have hle:gd avL.h st'.h:=O.wf.le S.old;have hlook:∀t∈looks ops.toList o,st'.T.get t=avL.T.get t:=fun t ht=>S.same t (fun x o' h' q1 q2 q3=>hL 0 (x+1) o o' hi h' t atQ (by simpa using q1) atQ (by simpa using q2) atO q3 ht);have hdst:∀t,o.dst=some t->st'.T.get t=some awc:=fun t ht=>by rw[S.same t (fun x o' h' q1 q2 q3=>by have:=hD 0 (x+1) o o' t atQ (by simpa using q1) ht q3;omega)];exact O.dst t ht
     have avA:=O.now.congr hlook hle S.next (rt _);refine⟨IS O.next S.next,?_,S.wf,?_,?_,?_⟩
     .intro id hid;rw[S.old id (WP hid O.next),O.old id hid]
     .intro t ht;rw[S.same t (fun x o' h' q1 q2=>ht (x+1) o' h' (by simpa using q1) (by simpa using q2)),O.same t (ht 0 o hi atQ atQ)]
     .intro x o' h' q1 q2;cases x with|zero=>simp at q1;subst q1;exact⟨awc,avA,hdst⟩|succ x=>obtain⟨v,p1,p2⟩:=S.done x o' h' (by simpa using q1) (by simpa using q2);exact⟨v,p1.congr (fun _ _=>rfl) (gd.refl _) (rt _) O.next,p2⟩
     .have cross:∀(y:Nat) (avF avG:Oper) (hi':Nat) (t t':Tmp) (v v':AV) (id:Nat),o=avF->os[y]?=some avG->ps[y]?=some (.p lo hi')->gU avF.op=true->gU avG.op=true->avF.dst=some t->avG.dst=some t' ->
        st'.T.get t=some v->st'.T.get t'=some v'->mo v=some id->mo v'=some id->False:=by
       intro y avF avG hi' t t' v v' id e1 h2 h4 a1 a2 a3 a4 a5 a6 a7 a8;subst e1;rw[hdst t a3]at a5;cases a5;have b1:=O.now.ids a1 a7;obtain⟨awd,p1,p2⟩:=S.done y avG hi' h2 h4;rw[p2 t' a4]at a6;cases a6;have b2:=p1.ids a2 a8;omega
      intro x y avF avG avd ave t t' v v' id h1 h2 h3 h4 a1 a2 a3 a4 a5 a6 a7 a8;cases x with
      |zero=>cases y with|zero=>rfl|succ y=>exact(cross y avF avG ave t t' v v' id (by simpa using h1) (by simpa using h2) (by simpa using h4) a1 a2 a3 a4 a5 a6 a7 a8).elim
      |succ x=>cases y with|zero=>exact(cross x avG avF avd t' t v' v id (by simpa using h2) (by simpa using h1) (by simpa using h3) a2 a1 a4 a3 a6 a5 a8 a7).elim|succ y=>rw[S.uniq x y avF avG avd ave t t' v v' id (by simpa using h1) (by simpa using h2) (by simpa using h3) (by simpa using h4) a1 a2 a3 a4 a5 a6 a7 a8]
def Is(P:Program)(ops:Array Oper)(q:Nat)(ch:Bool)(ts:mt)(st:St)(os:List Oper)(ps:List PE):Prop:=∀(x:Nat) (o:Oper) (lo hi:Nat),os[x]?=some o->ps[x]?=some (.p lo hi)->lo<q->q<=hi ->
 (∀t∈looks ops.toList o,t∉ts)/\(ch=true->gU o.op=false->mv ops st.T o=some false\/(mv ops st.T o=some true/\∃v,ot P st.T st.h o=some (true,v)/\∀t,o.dst=some t->st.T.get t=some v))
theorem aal{R:Type}{P:Program}{ops:Array Oper}{q:Nat}{ch:Bool}{ts:mt}{st:St}{k:Option R}{r:R}:∀{os:List Oper}{ps:List PE},ow P ops q ch ts st os ps k=some r->k=some r/\Is P ops q ch ts st os ps
 |[],ps,e=>⟨by simpa[ow]using e,fun x o lo hi h=>by simp at h⟩|o::os,[],e=>⟨by simpa[ow]using e,fun x o lo hi _ h=>by simp at h⟩|o::os,pe::ps,e=>by
  simp only[ow]at e;have go:ow P ops q ch ts st os ps k=some r->(∀lo hi,pe=.p lo hi->lo<q->q<=hi->(∀t∈looks ops.toList o,t∉ts)/\(ch=true->gU o.op=false->mv ops st.T o=some false\/(mv ops st.T o=some true/\∃v,ot P st.T st.h o=some (true,v)/\∀t,o.dst=some t->st.T.get t=some v))) ->
    k=some r/\Is P ops q ch ts st (o::os) (pe::ps):=by
   intro e h;obtain⟨h1,h2⟩:=aal e;refine⟨h1,?_⟩;intro x o' lo hi q1 q2;cases x with|zero=>simp at q1 q2;subst q1;exact h lo hi q2|succ x=>exact h2 x o' lo hi (by simpa using q1) (by simpa using q2)
  split at e
  .exact go e (fun lo hi h=>by cases h)
  .rename_i lo hi;split at e
   .split at e<;>try cases e
    rename_i hn;have hn:=Zwt hn;split at e
    .rename_i hm;split at e<;>try cases e
     .rename_i hw;split at e<;>try cases e
      .rename_i g v t hr hd;split at e<;>try cases e
       rename_i u hu;split at e<;>try cases e
       rename_i s hs;obtain⟨hg,e⟩:=rG e;obtain⟨hs',e⟩:=rG e;subst hg;subst hs';have:=ZZ hs
       grind
      .rename_i g v hr hd;obtain⟨hg,e⟩:=rG e
       grind
     .rename_i hw;exact go e (fun lo' hi' h _ _=>⟨hn,fun _ _=>.inl hw⟩)
    .rename_i hne;exact go e (fun lo' hi' h _ _=>⟨hn,fun h1 h2=>absurd h2 (hne h1)⟩)
   .rename_i hne;refine go e (fun lo' hi' h h1 h2=>?_);cases h;exact absurd (Nat.ble_eq_true_of_le h2) (hne (by rw[atA];exact h1))
def E2(P:Program)(sh:TypeId->Option Sh)(n:Nat)(ops:Array Oper)(pl:List PE):Nat->Nat->St->St->Prop
 |0,_,st,fin=>fin=st|r+1,q,st,fin=>∃(i:Nat) (o:Oper) (ch:Bool) (avL avM:St) (b:Bool) (T:Tr AV) (v:AV),ops[i]?=some o/\pl[i]?=some (.w (q+1))/\(ch=false->gd st.h avL.h)/\E1 ops st.T o b T/\j7 n T o.dst v=some avL.T /\
   ((b=true/\Ep P T st.h o v avL.h)\/(b=false/\v=.d5 []/\avL.h=st.h))/\(wf avL.h->zX P sh ops (q+1) ops.toList pl avL avM)/\Is P ops (q+1) ch (dl o.dst++tA (q+1) ops.toList pl) avM ops.toList pl/\E2 P sh n ops pl r (q+1) avM fin
theorem aaN{pl:List PE}{m:Nat}(hP:oq ops pl m){x y:Nat}{o':Oper}{lo hi:Nat}{t:Tmp}(h1:ops[x]?=some o)(h2:ops[y]?=some o')(h3:pl[y]?=some (.p lo hi))(hxy:x<=y)(ht:o'.dst=some t):t∉looks ops.toList o:=by intro hl;have:=hP.below x o h1 y (hP.fresh x o h1 t hl y o' lo hi h2 h3 ht);omega
theorem aax{R:Type}{P:Program}{sh:TypeId->Option Sh}{call:jW R}(hc:mg P call){n:Nat}{ops:Array Oper}{pl:List PE}{m:Nat}(hP:oq ops pl m)
  (hD:∀(x y:Nat) (o o':Oper) (t:Tmp),ops.toList[x]?=some o->ops.toList[y]?=some o'->o.dst=some t->o'.dst=some t->x=y) {k:St->Option R}{r:R} :
  ∀(c q:Nat) (st:St),EI P sh call n ops pl c q st k=some r->∃fin,k fin=some r/\E2 P sh n ops pl c q st fin
 |0,q,st,e=>⟨st,e,rfl⟩|c+1,q,st,e=>by
  simp only[EI]at e;split at e<;>try cases e
  rename_i o hf;obtain⟨i,h1,h2⟩:=xf hf;obtain⟨ch,avL,b,T,v,e,hch,W,hT,A⟩:=Zyu hc e;obtain⟨avM,e,S⟩:=ZX e (fun x y o o' hi hi' t q1 q2 q3 q4 q5 q6=>aaN hP (by simpa using q1) (by simpa using q2) q4 q5 q6) hD;obtain⟨e,C⟩:=aal e;obtain⟨fin,hk,rest⟩:=aax hc hP hD c (q+1) avM e;exact⟨fin,hk,i,o,ch,avL,avM,b,T,v,by simpa using h1,h2,hch,W,hT,A,S,C,rest⟩
end Go.Proofs.YtmkbdfidnfmgmaaGreat.V
end
section
namespace Go.Proofs.YtmkbdfidnfmgmaaGreat.Ev
open Go Go.RowKit
variable{i:Nat}{listed:Array Bool}{ops:Array Oper}
theorem SV(h:i∈Region.ready .any ops listed) :
  listed.getD i true=false/\∃o,ops[i]?=some o/\∀e∈gn o,listed.getD e false=true:=by
 obtain⟨h1,o,ho,h2⟩:=mem_ready.1 h;refine⟨h1,o,ho,?_⟩;intro e he;obtain⟨x,hx,hb,rfl⟩:=JH.1 he
 grind
theorem Zqg{o:Oper}(h1:listed.getD i true=false)(ho:ops[i]?=some o)(h2:∀e∈gn o,listed.getD e false=true) :
  i∈Region.ready .any ops listed:=
 mem_ready.2 ⟨h1,o,ho,fun e he hb=>h2 e.on (JH.2 ⟨e,asL.2 he,hb,rfl⟩)⟩
end Go.Proofs.YtmkbdfidnfmgmaaGreat.Ev
end
section
namespace Go.Proofs.YtmkbdfidnfmgmaaGreat.V
open Go Go.RowKit
open Go.Proofs.YtmkbdfidnfmgmaaGreat.Ev (Tr Tr.dp nth fc PE oq xn tf Je gn looks tmpsOf Aq qo xc kq rB pO xf left Aw Aj gD lJ mS ry SV Zqg)
def RX(ops:Array Oper)(pl:List PE)(q:Nat)(L:Nat->Bool)(t:Tmp):Prop:=∃(x:Nat) (o:Oper) (lo hi:Nat),ops[x]?=some o/\pl[x]?=some (.p lo hi)/\lo<=q/\L x=false/\o.dst=some t
structure Inv(P:Program)(sh:TypeId->Option Sh)(n:Nat)(ops:Array Oper)(pl:List PE)(X₀:Cx)(q:Nat)(L:Nat->Bool)(X:Cx)(a:Act)(st:St):Prop where
 size:a.tmps.size=n
 defers:a.defers=[]
 hX:X.h=st.h
 H:aV X
 E:bh X₀ X
 tmp:∀t v,st.T.get t=some v->¬RX ops pl q L t->∃V,a.tmps[t]?=some V/\Rel X v V
 now:∀(i:Nat) (o:Oper) (lo hi:Nat),ops[i]?=some o->pl[i]?=some (.p lo hi)->lo<=q->q<=hi->L i=false->∃v,PN P sh ops X₀.h.next st.T st.h o v/\∀t,o.dst=some t->st.T.get t=some v
 jB:∀(i:Nat) (o:Oper) (lo hi:Nat) (t:Tmp) (v:AV) (id:Nat),ops[i]?=some o->pl[i]?=some (.p lo hi)->lo<=q->L i=false->gU o.op=true->o.dst=some t->st.T.get t=some v->mo v=some id ->
  X.s id=none/\id<st.h.next/\X₀.h.next<=id
 zM:∀(i j:Nat) (o o':Oper) (lo hi lo' hi':Nat) (t t':Tmp) (v v':AV) (id:Nat),ops[i]?=some o->ops[j]?=some o'->pl[i]?=some (.p lo hi)->pl[j]?=some (.p lo' hi')->lo<=q->lo'<=q->L i=false->L j=false ->
  gU o.op=true->gU o'.op=true->o.dst=some t->o'.dst=some t'->st.T.get t=some v->st.T.get t'=some v'->mo v=some id->mo v'=some id->i=j
 down:∀(z:Nat) (o:Oper),ops[z]?=some o->L z=true->∀e∈gn o,L e=true
 wl:∀(i j:Nat),pl[i]?=some (.w j)->(L i=true↔j<=q)
 lo:∀(i l h:Nat),pl[i]?=some (.p l h)->L i=true->l<=q
 hi:∀(i l h:Nat),pl[i]?=some (.p l h)->h<q->L i=true
theorem anV{X:Cx}(H:aV X){h':Hp}(hn:X.h.next<=h'.next)(old:∀id,id<X.h.next->h'.tr.get id=X.h.tr.get id)(w:wf h'):bh X ⟨X.s,h',X.w,X.A⟩/\aV ⟨X.s,h',X.w,X.A⟩:=by
 have E:bh X ⟨X.s,h',X.w,X.A⟩:=by
  refine⟨rfl,rfl,rfl,rt _,fun _ _ h=>h,fun _ _ _ h=>h,hn,fun _ _ _=>rfl,?_,?_,fun i hi _=>old i hi,rfl⟩
  .rintro b ⟨i,o,c,h1,h2,h3⟩
   replace h1:h'.tr.get i=some o:=h1
   rw[old i (H.dM i _ h2)]at h1;exact .inl ⟨i,o,c,h1,h2,h3⟩
  .intro j n hj h;rw[<-aen (old j hj)];exact h
 refine⟨E,⟨?_,?_,w,?_,H.alt,?_⟩⟩
 .intro i o l h1 h2
  replace h1:h'.tr.get i=some o:=h1
  rw[old i (H.dM i _ h2)]at h1;exact(H.obj i o l h1 h2).ext (E.fG H) (fun _ _=>rfl)
 .intro i j o o' b c c' h1 h2 h3 h4
  replace h1:h'.tr.get i=some o:=h1
  replace h2:h'.tr.get j=some o':=h2
  rw[old i (H.dM i _ h3)]at h1;rw[old j (H.dM j _ h4)]at h2;exact H.inj i j o o' b c c' h1 h2 h3 h4
 .intro i l h;exact WP (H.dM i l h) hn
 .intro i o b c h1 h2
  replace h1:h'.tr.get i=some o:=h1
  rw[old i (H.dM i _ h2)]at h1;exact H.loc i o b c h1 h2
section
variable{P:Program}{sh:TypeId->Option Sh}{n:Nat}{ops:Array Oper}{pl:List PE}{X₀:Cx}{q:Nat}{L:Nat->Bool}{X:Cx}{a:Act}{st:St}
theorem Inv.afk{k:Nat}(I:Inv P sh n ops pl X₀ q L X a st)(hP:oq ops pl k){i:Nat}{o:Oper}(ho:ops[i]?=some o)(hr:∀e∈gn o,L e=true){t:Tmp}(ht:t∈looks ops.toList o):¬RX ops pl q L t:=by rintro⟨x,ox,l,h,p1,p2,p3,p4,p5⟩;have:=hr x (hP.fresh i o ho t ht x ox l h p1 p2 p5);rw[p4]at this;cases this
theorem Inv.amk{k:Nat}(I:Inv P sh n ops pl X₀ q L X a st)(hP:oq ops pl k){i:Nat}{o:Oper}(ho:ops[i]?=some o)(hr:∀e∈gn o,L e=true)(hL:L i=false){l h:Nat}(hp:pl[i]?=some (.p l h)):l<=q/\q<=h:=by
 constructor
 .rcases hP.lo i o l h ho hp with r|⟨e,pe,h1,h2,h3⟩
  .omega
  .have hLe:=hr e h1;cases pe with|w j=>have:=(I.wl e j h2).1 hLe;simp only[PE.num]at h3;omega|p l' h'=>have:=I.lo e l' h' h2 hLe;simp only[PE.num]at h3;omega
 .rcases arm h q with r|r
  .have:=I.hi i l h hp r;rw[hL]at this;cases this
  .exact r
theorem Inv.due{k:Nat}(I:Inv P sh n ops pl X₀ q L X a st)(hP:oq ops pl k){i:Nat}{o:Oper}(ho:ops[i]?=some o)(hr:∀e∈gn o,L e=true)
  (hw:pl[i]?=some (.w (q+1))):∀d (x l h:Nat),ops.size<=x+d->pl[x]?=some (.p l h)->h<=q->L x=true:=by
 have hk:q+1<=k:=(hP.w i o (q+1) ho hw).2.1;intro d
 induction d with
 |zero=>intro x l h hx hp _;have:=jj hp;rw[hP.len]at this;omega|succ d ih=>
  intro x l h hx hp hh;rcases hP.hi x l h hp with r|⟨z,oz,pe,h1,h2,h3,h4⟩
  .omega
  .have hxz:=hP.below z oz h1 x h3;have hz:L z=true\/z=i:=by
    rcases h4 with⟨j,rfl,hj⟩|⟨l',h',rfl,hh'⟩
    .rcases arm q j with r|r
     .have:j=q+1:=atO
      subst this;exact .inr (hP.uniq z i _ h2 hw)
     .exact .inl ((I.wl z j h2).2 r)
    grind
   rcases hz with hz|rfl
   .exact I.down z oz h1 hz x h3
   grind
theorem Inv.T7{X':Cx}{i:Nat}{o:Oper}{l h:Nat}{V:Value}(I:Inv P sh n ops pl X₀ q L X a st)(hN:∀t,o.dst=some t->t<n)(ho:ops[i]?=some o)(hr:∀e∈gn o,L e=true)(hp:pl[i]?=some (.p l h))(hl:l<=q)
  (hX:X'.h=st.h) (H:aV X') (E:bh X₀ X') (Ex:jd X X') (hV:∀t,o.dst=some t->∃v,st.T.get t=some v/\Rel X' v V)
  (hs:∀(j:Nat) (o':Oper) (lo hi:Nat) (t:Tmp) (v:AV) (id:Nat),ops[j]?=some o'->pl[j]?=some (.p lo hi)->lo<=q->Ev.mark L i j=false->gU o'.op=true->o'.dst=some t->st.T.get t=some v->mo v=some id->X'.s id=none) :
  Inv P sh n ops pl X₀ q (Ev.mark L i) X' (a.put o.dst V) st:=by
 have nw:∀j,pl[i]?≠some (.w j):=fun j r=>by rw[hp]at r;cases r
 refine⟨?_,?_,hX,H,E,?_,?_,?_,?_,?_,?_,?_,?_⟩
 .cases hd:o.dst<;>simp[Act.put,I.size]
 .cases hd:o.dst<;>simp[Act.put,I.defers]
 .intro t v hv hn;by_cases hd:o.dst=some t
  .obtain⟨v',h1,h2⟩:=hV t hd;rw[hv]at h1;cases h1;have r:t<a.tmps.size:=by rw[I.size];exact hN t hd
   exact⟨V,by rw[hd];simp[Act.put,r],h2⟩
  .obtain⟨V',h1,h2⟩:=I.tmp t v hv (by
    rintro⟨x,ox,lo,hi,p1,p2,p3,p4,p5⟩;by_cases hxi:x=i
    .subst hxi;rw[ho]at p1;cases p1;exact hd p5
    .exact hn ⟨x,ox,lo,hi,p1,p2,p3,by unfold Ev.mark;rw[BT hxi];exact p4,p5⟩)
   refine⟨V',?_,h2.ext Ex⟩;cases hdd:o.dst with
   |none=>simpa[Act.put]using h1|some t'=>
    simp only[Act.put,asw]
    grind
 .intro j o' lo hi h1 h2 h3 h4 h5;exact I.now j o' lo hi h1 h2 h3 h4 (ry h5).1
 .intro j o' lo hi t v id h1 h2 h3 h4 h5 h6 h7 h8;obtain⟨_,q2,q3⟩:=I.jB j o' lo hi t v id h1 h2 h3 (ry h4).1 h5 h6 h7 h8
  grind
 .intro x y avF avG lo hi lo' hi' t t' v v' id a1 a2 a3 a4 a5 a6 a7 a8;exact I.zM x y avF avG lo hi lo' hi' t t' v v' id a1 a2 a3 a4 a5 a6 (ry a7).1 (ry a8).1
 .intro z oz hz hL e he;by_cases hzi:z=i
  .subst hzi;rw[ho]at hz;cases hz;exact mS (hr e he)
  .unfold Ev.mark at hL;rw[BT hzi]at hL;exact mS (I.down z oz hz hL e he)
 .intro x j hx;have:x≠i:=by rintro rfl;exact nw j hx
  unfold Ev.mark;rw[BT this];exact I.wl x j hx
 .intro x l' h' hx hL;by_cases hxi:x=i
  .subst hxi;rw[hp]at hx;cases hx;exact hl
  .unfold Ev.mark at hL;rw[BT hxi]at hL;exact I.lo x l' h' hx hL
 .intro x l' h' hx hh;exact mS (I.hi x l' h' hx hh)
theorem Inv.step{k:Nat}(I:Inv P sh n ops pl X₀ q L X a st)(hP:oq ops pl k)(hM:∀(x:Nat) (o:Oper) (lo hi:Nat),ops[x]?=some o->pl[x]?=some (.p lo hi)->gU o.op=true->∃t,o.dst=some t){i:Nat}{o:Oper}(hN:∀t,o.dst=some t->t<n)
  (ho:ops[i]?=some o) (hr:∀e∈gn o,L e=true) (hL:L i=false) {l h:Nat}(hp:pl[i]?=some (.p l h)) {K:Act->World->Prop}{Q:Exit->Act->World->Prop}
  (hK:∀X' a',Inv P sh n ops pl X₀ q (Ev.mark L i) X' a' st->K a' X'.w):wpOp P ops Q i K a X.w:=by
 obtain⟨hlq,hqh⟩:=I.amk hP ho hr hL hp;obtain⟨v,pn,hdst⟩:=I.now i o l h ho hp hlq hqh hL;have look:∀t∈looks ops.toList o,∀v,st.T.get t=some v->∃V,a.tmps[t]?=some V/\Rel X v V:=fun t ht v hv=>I.tmp t v hv (I.afk hP ho hr ht);have opnd:qV X st.T a o.op:=To fun t ht u hu=>look t (qo ht) u hu;have bn:∀(j:Nat) (o':Oper) (lo hi:Nat) (t:Tmp) (v:AV) (id:Nat),ops[j]?=some o'->pl[j]?=some (.p lo hi)->lo<=q->Ev.mark L i j=false->gU o'.op=true->o'.dst=some t->st.T.get t=some v->mo v=some id->X.s id=none:=fun j o' lo hi t v id h1 h2 h3 h4 h5 h6 h7 h8=>(I.jB j o' lo hi t v id h1 h2 h3 (ry h4).1 h5 h6 h7 h8).1;unfold wpOp;rw[ho];simp only[];rcases pn with⟨hw,rfl⟩|⟨hw,hmk,hrd⟩|⟨hw,hmk,id,ob,ha,hid,hlt,hge⟩
 .rw[Tm hw look];simp only[asz,if_false];exact hK X _ (I.T7 hN ho hr hp hlq I.hX I.H I.E (jd.refl X) (fun t ht=>⟨_,hdst t ht,[],rfl,rfl⟩) bn)
 .rw[Tm hw look];simp only[if_true];left;rw[<-I.hX]at hrd;obtain⟨V,hrun,hR⟩:=Zlk I.H hrd rfl opnd;unfold Oper.wp;rw[hrun];exact hK X _ (I.T7 hN ho hr hp hlq I.hX I.H I.E (jd.refl X) (fun t ht=>⟨_,hdst t ht,hR⟩) bn)
 .rw[Tm hw look];simp only[if_true];left;obtain⟨td,htd⟩:=hM i o l h ho hp hmk;have hidv:=(JK ha).2;simp only at hidv;obtain⟨sn,_,_⟩:=I.jB i o l h td v id ho hp hlq hL hmk htd (hdst td htd) hidv;rw[<-I.hX]at ha hid hlt;obtain⟨c,ob',V,hrun,hm⟩:=Zx7 I.H ha rfl opnd;have Ex:=jd.real (c:=c) (ob:=ob') I.H sn;have M:Made X ⟨cw X.s id (.at X.w.heap.size c),X.h,{ X.w with heap:=X.w.heap.push ob' },X.A⟩ id c ob ob':=⟨Ex,rfl,fU _ _ _,hid⟩;obtain⟨m1,m2⟩:=hm _ M;have H':=I.H.real (c:=c) (ob:=ob') sn hlt (fun o' h'=>by rw[hid]at h';cases h';exact m1);have E':bh X₀ ⟨cw X.s id (.at X.w.heap.size c),X.h,{ X.w with heap:=X.w.heap.push ob' },X.A⟩:=by
   have E:=I.E;refine⟨E.os,E.tape,E.output,by have:=E.size;simp;omega,?_,?_,E.next,?_,?_,E.len,E.same,E.A⟩
   .intro j l' hj;have:=E.sg j l' hj;show cw X.s id _ j=_;rw[eJ _ _ _ (by grind)];exact this
   .intro j l' hj h'
    replace h':cw X.s id _ j=some l':=h'
    rw[eJ _ _ _ atO]at h';exact E.dM j l' hj h'
   .intro b hb hn;have:=E.size;show(X.w.heap.push ob')[b]?=_;rw[Array.getElem?_push,BT atO];exact E.frame b hb hn
   .rintro b ⟨j,avF,auL,h1,h2⟩;obtain⟨h2,h3⟩:=h2
    replace h2:cw X.s id (.at X.w.heap.size c) j=some auL:=h2
    by_cases hj:j=id
    .subst hj;rw[fU]at h2;cases h2;right;have:=E.size;have:b=X.w.heap.size:=h3;omega
    .rw[eJ _ _ _ hj]at h2;exact E.da b ⟨j,avF,auL,h1,h2,h3⟩
  unfold Oper.wp;rw[hrun];refine hK ⟨cw X.s id (.at X.w.heap.size c),X.h,{ X.w with heap:=X.w.heap.push ob' },X.A⟩ _ (Inv.T7 (X':=⟨cw X.s id (.at X.w.heap.size c),X.h,{ X.w with heap:=X.w.heap.push ob' },X.A⟩) I hN ho hr hp hlq I.hX H' E' Ex (fun t ht=>⟨_,hdst t ht,m2⟩) ?_);intro j o' lo hi t v' id' h1 h2 h3 h4 h5 h6 h7 h8;obtain⟨hLj,hji⟩:=ry h4;have s':=(I.jB j o' lo hi t v' id' h1 h2 h3 hLj h5 h6 h7 h8).1;show cw X.s id _ id'=none;rw[eJ _ _ _ ?_]
  .exact s'
  .rintro rfl;exact hji (I.zM j i o' o lo hi l h t td v' v id' h1 ho h2 hp h3 hlq hLj hL h5 hmk h6 htd h7 (hdst td htd) h8 hidv)
theorem Inv.enter{st':St}{h₁:Hp}(hsz:a.tmps.size=n)(hdf:a.defers=[])(hX:X.h=h₁)(H:aV X)(E:bh X₀ X){T₁:Tr AV}(S:zX P sh ops q ops.toList pl ⟨T₁,h₁⟩ st')
  (tmp:∀t v,T₁.get t=some v->(∀(x:Nat) (o:Oper) (hi:Nat),ops[x]?=some o->pl[x]?=some (.p q hi)->o.dst≠some t)->¬RX ops pl q L t->∃V,a.tmps[t]?=some V/\Rel X v V)
  (now:∀(i:Nat) (o:Oper) (lo hi:Nat),ops[i]?=some o->pl[i]?=some (.p lo hi)->lo<q->q<=hi->L i=false->∃v,PN P sh ops X₀.h.next st'.T st'.h o v/\∀t,o.dst=some t->st'.T.get t=some v)
  (jB:∀(i:Nat) (o:Oper) (lo hi:Nat) (t:Tmp) (v:AV) (id:Nat),ops[i]?=some o->pl[i]?=some (.p lo hi)->lo<q->L i=false->gU o.op=true->o.dst=some t->st'.T.get t=some v->mo v=some id ->
   X.s id=none/\id<h₁.next/\X₀.h.next<=id)
  (zM:∀(i j:Nat) (o o':Oper) (lo hi lo' hi':Nat) (t t':Tmp) (v v':AV) (id:Nat),ops[i]?=some o->ops[j]?=some o'->pl[i]?=some (.p lo hi)->pl[j]?=some (.p lo' hi')->lo<q->lo'<q->L i=false->L j=false ->
   gU o.op=true->gU o'.op=true->o.dst=some t->o'.dst=some t'->st'.T.get t=some v->st'.T.get t'=some v'->mo v=some id->mo v'=some id->i=j)
  (hun:∀(i hi:Nat),pl[i]?=some (.p q hi)->L i=false)
  (down:∀(z:Nat) (o:Oper),ops[z]?=some o->L z=true->∀e∈gn o,L e=true) (wl:∀(i j:Nat),pl[i]?=some (.w j)->(L i=true↔j<=q)) (lo:∀(i l h:Nat),pl[i]?=some (.p l h)->L i=true->l<=q)
  (hi:∀(i l h:Nat),pl[i]?=some (.p l h)->h<q->L i=true):Inv P sh n ops pl X₀ q L ⟨X.s,st'.h,X.w,X.A⟩ a st':=by
 subst hX;obtain⟨G,H'⟩:=anV H S.next S.old S.wf;have new:∀(i:Nat) (o:Oper) (hi:Nat) (t:Tmp) (v:AV) (id:Nat),ops[i]?=some o->pl[i]?=some (.p q hi)->gU o.op=true->o.dst=some t->st'.T.get t=some v->mo v=some id->id<st'.h.next/\X.h.next<=id:=by intro i o hi t v id h1 h2 h3 h4 h5 h6;obtain⟨u,p1,p2⟩:=S.done i o hi (by simpa using h1) h2;rw[p2 t h4]at h5;cases h5;exact p1.ids h3 h6
 refine⟨hsz,hdf,rfl,H',E.trans G,?_,?_,?_,?_,down,wl,lo,hi⟩
 .intro t v hv hn;have hne:∀(x:Nat) (o:Oper) (hi:Nat),ops[x]?=some o->pl[x]?=some (.p q hi)->o.dst≠some t:=fun x o hi h1 h2 h3=>hn ⟨x,o,q,hi,h1,h2,rt _,hun x hi h2,h3⟩;rw[S.same t (fun x o hi h1 h2=>hne x o hi (by simpa using h1) h2)]at hv;obtain⟨V,h1,h2⟩:=tmp t v hv hne hn;exact⟨V,h1,h2.ext (G.fG H)⟩
 .intro i o lo' hi' h1 h2 h3 h4 h5;rcases arm lo' q with r|r
  .exact now i o lo' hi' h1 h2 r h4 h5
  .have:lo'=q:=atO
   subst this;obtain⟨v,p1,p2⟩:=S.done i o hi' (by simpa using h1) h2;exact⟨v,p1.congr (fun _ _=>rfl) (gd.refl _) (rt _) E.next,p2⟩
 .intro i o lo' hi' t v id h1 h2 h3 h4 h5 h6 h7 h8;rcases arm lo' q with r|r
  .obtain⟨p1,p2,p3⟩:=jB i o lo' hi' t v id h1 h2 r h4 h5 h6 h7 h8;exact⟨p1,WP p2 S.next,p3⟩
  .have:lo'=q:=atO
   subst this;obtain⟨p1,p2⟩:=new i o hi' t v id h1 h2 h5 h6 h7 h8;refine⟨?_,p1,IS E.next p2⟩;show X.s id=none;cases hq:X.s id with|none=>rfl|some l=>have:=H.dM id l hq;omega
 .intro i j o o' avv avd avw ave t t' v v' id a1 a2 a3 a4 a5 a6 a7 a8 a9 a10 a11 a12 a13 a14 a15 a16;rcases arm avv q with r|r<;>rcases arm avw q with r'|r'
  .exact zM i j o o' avv avd avw ave t t' v v' id a1 a2 a3 a4 r r' a7 a8 a9 a10 a11 a12 a13 a14 a15 a16
  .have:avw=q:=atO
   subst this;have p1:=(jB i o avv avd t v id a1 a3 r a7 a9 a11 a13 a15).2.1;have p2:=(new j o' ave t' v' id a2 a4 a10 a12 a14 a16).2;omega
  .have:avv=q:=atO
   subst this;have p1:=(jB j o' avw ave t' v' id a2 a4 r' a8 a10 a12 a14 a16).2.1;have p2:=(new i o avd t v id a1 a3 a9 a11 a13 a15).2;omega
  .have e1:avv=q:=atO
   have e2:avw=q:=atO
   subst e1;subst e2;exact S.uniq i j o o' avd ave t t' v v' id (by simpa using a1) (by simpa using a2) a3 a4 a9 a10 a11 a12 a13 a14 a15 a16
end
variable{i:Nat}{o:Oper}{K:Act->World->Prop}{Q:Exit->Act->World->Prop}{k:Nat}
theorem anL(L:Nat->Bool)(i:Nat):Ev.mark L i i=true:=by unfold Ev.mark;simp
theorem rE(L:Nat->Bool){j:Nat}(h:j≠i):Ev.mark L i j=L j:=by unfold Ev.mark;rw[BT h]
section
variable{P:Program}{sh:TypeId->Option Sh}{n:Nat}{ops:Array Oper}{pl:List PE}{X₀:Cx}{q:Nat}{L:Nat->Bool}{X:Cx}{a:Act}{st:St}
theorem Inv.write(I:Inv P sh n ops pl X₀ q L X a st)(hP:oq ops pl k)(hM:∀(x:Nat) (o:Oper) (lo hi:Nat),ops[x]?=some o->pl[x]?=some (.p lo hi)->gU o.op=true->∃t,o.dst=some t)
  (hD:∀(x y:Nat) (o o':Oper) (t:Tmp),ops[x]?=some o->ops[y]?=some o'->o.dst=some t->o'.dst=some t->x=y)
  (ho:ops[i]?=some o) (hr:∀e∈gn o,L e=true) (hL:L i=false) (hp:pl[i]?=some (.w (q+1)))
  {ch:Bool}{avL avM:St}{b:Bool}{T:Tr AV}{v:AV}(hch:ch=false->gd st.h avL.h) (W:E1 ops st.T o b T) (hT:j7 n T o.dst v=some avL.T)
  (hA:(b=true/\Ep P T st.h o v avL.h)\/(b=false/\v=.d5 []/\avL.h=st.h)) (hS:wf avL.h->zX P sh ops (q+1) ops.toList pl avL avM)
  (hC:Is P ops (q+1) ch (dl o.dst++tA (q+1) ops.toList pl) avM ops.toList pl) 
  (hK:∀X' a',Inv P sh n ops pl X₀ (q+1) (Ev.mark L i) X' a' avM->K a' X'.w):wpOp P ops Q i K a X.w:=by
 have look:∀t∈looks ops.toList o,∀v,st.T.get t=some v->∃V,a.tmps[t]?=some V/\Rel X v V:=fun t ht v hv=>I.tmp t v hv (I.afk hP ho hr ht);have opnd:qV X T a o.op:=To fun t ht u hu=>look t (qo ht) u (W.get t u hu);have Tget:∀t,T.get t=st.T.get t:=by intro t;cases h:T.get t with|some u=>rw[W.get t u h]|none=>cases h':st.T.get t with|none=>rfl|some u=>rw[W.get' t u h']at h;cases h
 have hg:=rz hT;have fin:∀X' V,bh X X'->aV X'->X'.h=avL.h->Rel X' v V->K (a.put o.dst V) X'.w:=by
  intro X' V E H' hh hv;have S:=hS (by rw[<-hh];exact H'.lt);have done:∀(x l h:Nat),pl[x]?=some (.p l h)->h<=q->L x=true:=fun x l h h1 h2=>I.due hP ho hr hp ops.size x l h atO h1 h2;have xi:∀{x l h:Nat},pl[x]?=some (.p l h)->x≠i:=by rintro x l h h1 rfl;rw[hp]at h1;cases h1
  have T2:∀(x:Nat) (ox:Oper) (lo hi:Nat) (t:Tmp),ops[x]?=some ox->pl[x]?=some (.p lo hi)->lo<=q->ox.dst=some t->avM.T.get t=st.T.get t:=by intro x ox lo hi t h1 h2 h3 h4;rw[S.same t (fun y oy hi' g1 g2 g3=>by have:=hD x y ox oy t h1 (by simpa using g1) h4 g3;subst this;rw[h2]at g2;cases g2;omega),hg t,BT (fun r=>xi h2 (hD x i ox o t h1 ho h4 r)),Tget t]
  have E':=I.E.trans E;refine hK ⟨X'.s,avM.h,X'.w,X'.A⟩ _ (Inv.enter (X:=X') (h₁:=avL.h) (T₁:=avL.T) ?_ ?_ hh H' E' S ?_ ?_ ?_ ?_ ?_ ?_ ?_ ?_ ?_)
  .cases hd:o.dst<;>simp[Act.put,I.size]
  .cases hd:o.dst<;>simp[Act.put,I.defers]
  .intro t u hu hne hn;rw[hg t]at hu;by_cases hd:o.dst=some t
   .rw[IO hd]at hu;cases hu;have hlt:t<a.tmps.size:=by rw[I.size];rw[hd]at hT;exact N1 hT
    exact⟨V,by rw[hd];simp[Act.put,hlt],hv⟩
   .rw[BT hd,Tget t]at hu;obtain⟨V',h1,h2⟩:=I.tmp t u hu (by rintro⟨x,ox,lo,hi,p1,p2,p3,p4,p5⟩;exact hn ⟨x,ox,lo,hi,p1,p2,atO,by rw[rE L (xi p2)];exact p4,p5⟩);refine⟨V',?_,h2.ext (E.fG I.H)⟩;cases hdd:o.dst with|none=>simpa[Act.put]using h1|some t'=>simp only[Act.put,asw];rw[BT (fun r=>hd (by rw[hdd,r]))];exact h1
  .intro x ox lo hi h1 h2 h3 h4 h5;rw[rE L (xi h2)]at h5;obtain⟨u,pn,hdu⟩:=I.now x ox lo hi h1 h2 atO atO h5;obtain⟨c1,c2⟩:=hC x ox lo hi (by simpa using h1) h2 h3 h4;have hdst:∀t,ox.dst=some t->avM.T.get t=some u:=fun t ht=>by rw[T2 x ox lo hi t h1 h2 atO ht];exact hdu t ht
   have lk:∀t∈looks ops.toList ox,avM.T.get t=st.T.get t:=by intro t ht;have hnot:=c1 t ht;rw[S.same t (fun y oy hi' g1 g2 g3=>hnot (rc.2 (.inr (Zwb g1 g2 g3)))),hg t,BT (fun r=>hnot (rc.2 (.inl (by rw[r];simp[dl])))),Tget t]
   have hw:=Ak (ops:=ops) (T:=st.T) (T':=avM.T) lk;rcases pn with⟨w1,rfl⟩|⟨w1,m1,r1⟩|⟨w1,m1,id,ob,ha,hid,hlt,hge⟩
   .exact⟨.d5 [],.inl ⟨hw.trans w1,rfl⟩,hdst⟩
   .cases hc:ch with
    |false=>have hle:gd st.h avM.h:=(hch hc).trans (fun b' o' q'=>by rw[S.old b' (by rw[<-hh]at q' |-;exact H'.lt b' o' q')];exact q');exact⟨u,.inr (.inl ⟨hw.trans w1,m1,TH hle r1 (fun t ht=>lk t (qo ht))⟩),hdst⟩|true=>
     rcases c2 hc m1 with g|⟨g,u',r2,d2⟩
     .rw[hw,w1]at g;cases g
     .exact⟨u',.inr (.inl ⟨g,m1,r2⟩),d2⟩
   .obtain⟨td,htd⟩:=hM x ox lo hi h1 h2 m1;have hidv:=(JK ha).2;simp only at hidv;obtain⟨sn,hlt',_⟩:=I.jB x ox lo hi td u id h1 h2 atO h5 m1 htd (hdu td htd) hidv;have hob:avM.h.tr.get id=some ob:=by have e1:=E.same id (by rw[I.hX];exact hlt') sn;rw[hh,I.hX,hid]at e1;have e2:=S.old id (by rw[<-hh]at e1 |-;exact H'.lt id ob e1);rw[e2];exact e1
    refine⟨u,.inr (.inr ⟨hw.trans w1,m1,id,ob,TJ ha (fun t ht=>lk t (qo ht)),hob,S.wf id ob hob,hge⟩),hdst⟩
  .intro x ox lo hi t u id h1 h2 h3 h4 h5 h6 h7 h8;rw[rE L (xi h2)]at h4;rw[T2 x ox lo hi t h1 h2 atO h6]at h7;obtain⟨p1,p2,p3⟩:=I.jB x ox lo hi t u id h1 h2 atO h4 h5 h6 h7 h8;refine⟨?_,?_,p3⟩
   .cases hq:X'.s id with|none=>rfl|some l=>have:=E.dM id l (by rw[I.hX];exact p2) hq;rw[p1]at this;cases this
   .have:=E.next;rw[hh,I.hX]at this;omega
  .intro x y ox oy avv avd avw ave t t' u u' id a1 a2 a3 a4 a5 a6 a7 a8 a9 a10 a11 a12 a13 a14 a15 a16;rw[rE L (xi a3)]at a7;rw[rE L (xi a4)]at a8;rw[T2 x ox avv avd t a1 a3 atO a11]at a13;rw[T2 y oy avw ave t' a2 a4 atO a12]at a14;exact I.zM x y ox oy avv avd avw ave t t' u u' id a1 a2 a3 a4 atO atO a7 a8 a9 a10 a11 a12 a13 a14 a15 a16
  .intro x hi hx;rw[rE L (xi hx)];cases hq:L x with|false=>rfl|true=>have:=I.lo x (q+1) hi hx hq;omega
  .intro z oz hz hLz e he;by_cases hzi:z=i
   .subst hzi;rw[ho]at hz;cases hz;exact mS (hr e he)
   .rw[rE L hzi]at hLz;exact mS (I.down z oz hz hLz e he)
  .intro x j hx;by_cases hxi:x=i
   .subst hxi;rw[hp]at hx;cases hx;rw[anL];exact⟨fun _=>rt _,fun _=>rfl⟩
   .rw[rE L hxi,I.wl x j hx];constructor
    .intro r;omega
    .intro r;rcases arm q j with s|s
     .have:j=q+1:=atO
      subst this;exact absurd (hP.uniq x i _ hx hp) hxi
     .exact s
  .intro x l h hx hLx;rw[rE L (xi hx)]at hLx;have:=I.lo x l h hx hLx;omega
  .intro x l h hx hh';exact mS (done x l h hx atO)
 unfold wpOp;rw[ho];simp only[];rw[W.is X a (fun j w oj t v hgd hj hd hv=>look t (xc (ops:=ops) hgd hj hd) v hv)];rcases hA with⟨rfl,A⟩|⟨rfl,rfl,hh⟩
 .simp only[if_true];left;exact A X a I.hX I.H opnd K Q (fun X' V h1 h2 h3 h4=>fin X' V h1 h2 h3 h4)
 .simp only[asz,if_false];exact fin X undef (bh.refl X) I.H (by rw[hh];exact I.hX) ⟨[],rfl,rfl⟩
end
variable{T:Tr AV}{b:Bool}{v:AV}
theorem amw{P:Program}{sh:TypeId->Option Sh}{n:Nat}{ops:Array Oper}{pl:List PE}(hP:oq ops pl k)(hM:∀(x:Nat) (o:Oper) (lo hi:Nat),ops[x]?=some o->pl[x]?=some (.p lo hi)->gU o.op=true->∃t,o.dst=some t)
  (hD:∀(x y:Nat) (o o':Oper) (t:Tmp),ops[x]?=some o->ops[y]?=some o'->o.dst=some t->o'.dst=some t->x=y) (hN:∀(x:Nat) (o:Oper) (t:Tmp),ops[x]?=some o->o.dst=some t->t<n)
  {X₀:Cx}{fin:St}(hQ:∀X a,RF X n fin a->bh X₀ X->Q .normal a X.w) :
  ∀(fuel:Nat) (r q:Nat) (listed:Array Bool) (st:St) (X:Cx) (a:Act),q+r=k->E2 P sh n ops pl r q st fin->listed.size=ops.size->left ops.size (fun j=>listed.getD j false)<=fuel ->
   Inv P sh n ops pl X₀ q (fun j=>listed.getD j false) X a st->wpAny P .any ops Q fuel listed a X.w:=by
 have sQ:∀(listed:Array Bool),listed.size=ops.size->∀i,i<ops.size->listed.getD i true=listed.getD i false:=by intro listed hs i hi;simp[asA,show i<listed.size by omega]
 have fini:∀(r q:Nat) (listed:Array Bool) (st:St) (X:Cx) (a:Act),q+r=k->E2 P sh n ops pl r q st fin->listed.size=ops.size ->
   Inv P sh n ops pl X₀ q (fun j=>listed.getD j false) X a st->Region.ready .any ops listed=[]->Q .normal a X.w:=by
  intro r q listed st X a hqr ht hs I hrd;have all:∀i,i<ops.size->listed.getD i false=true:=by
   intro i
   induction i using Nat.strongRecOn with
   |_ i ih=>
    intro hi;cases hx:listed.getD i false with
    |true=>rfl|false=>
     have ho:ops[i]?=some ops[i]:=by simp[hi]
     have:i∈Region.ready .any ops listed:=Zqg (by rw[sQ listed hs i hi];exact hx) ho (fun e he=>ih e (hP.below i _ ho e he) (Nat.lt_trans (hP.below i _ ho e he) hi));rw[hrd]at this;cases this
  cases r with
  |succ r=>obtain⟨i,o,ch,avL,avM,b,T,v,h1,h2,_⟩:=ht;have:=(I.wl i (q+1) h2).1 (all i (ka h1));omega
  |zero=>have:fin=st:=ht;subst this;refine hQ X a ⟨I.hX,⟨I.size,I.defers,?_⟩,I.H⟩ I.E;intro t v hv;refine I.tmp t v hv ?_;rintro⟨x,o,lo,hi,p1,p2,p3,p4,p5⟩;simp only[]at p4;rw[all x (ka p1)]at p4;cases p4
 intro fuel
 induction fuel with
 |zero=>
  intro r q listed st X a hqr ht hs hl I;have hrd:Region.ready .any ops listed=[]:=by
   cases hx:Region.ready .any ops listed with
   |nil=>rfl|cons i l=>
    exfalso;obtain⟨h1,o,ho,_⟩:=SV (i:=i) (by rw[hx];simp);have hi:=ka ho;have h0:left ops.size (fun j=>listed.getD j false)=0:=atO
    have h3:=Aj h0 i hi;rw[sQ listed hs i hi]at h1;rw[h1]at h3;cases h3
  exact⟨hrd,fini r q listed st X a hqr ht hs I hrd⟩
 |succ fuel ih=>
  intro r q listed st X a hqr ht hs hl I;refine⟨fun hrd=>fini r q listed st X a hqr ht hs I hrd,?_⟩;intro i hi;obtain⟨h1,o,ho,h2⟩:=SV hi;have bz:=ka ho;rw[sQ listed hs i bz]at h1;have hL:(fun j=>(listed.setIfInBounds i true).getD j false)=Ev.mark (fun j=>listed.getD j false) i:=by
   funext j;unfold Ev.mark;by_cases hj:j=i
   .subst hj;simp[asA,asw,show j<listed.size by omega]
   .rw[BT hj];exact getD_set_ne false (fun r=>hj r.symm)
  have hsz:(listed.setIfInBounds i true).size=ops.size:=by simp[hs]
  have hleft:left ops.size (fun j=>(listed.setIfInBounds i true).getD j false)<=fuel:=by rw[hL];have:=Aw (L:=fun j=>listed.getD j false) (i:=i) h1 ops.size;rw[IO bz]at this;omega
  obtain⟨pe,hpe⟩:∃pe,pl[i]?=some pe:=⟨pl[i]'(by rw[hP.len];exact bz),by simp[hP.len,bz]⟩;cases pe with
  |p l h=>refine I.step hP hM (fun t htd=>hN i o t ho htd) ho h2 h1 hpe ?_;intro X' a' I';exact ih r q _ st X' a' hqr ht hsz hleft (by rw[hL];exact I')|w j=>
   have hj:j=q+1:=by
    obtain⟨w1,w2,w3⟩:=hP.w i o j ho hpe;have hn:¬j<=q:=fun r=>by have:=(I.wl i j hpe).2 r;rw[h1]at this;cases this
    rcases w3 with r|⟨e,pe,g1,g2,g3⟩
    .omega
    .have hLe:=h2 e g1;cases pe with|w j'=>have:=(I.wl e j' g2).1 hLe;simp only[PE.num]at g3;omega|p l' h'=>have:=I.lo e l' h' g2 hLe;simp only[PE.num]at g3;omega
   subst hj;have hk:=(hP.w i o (q+1) ho hpe).2.1;obtain⟨r,rfl⟩:∃r',r=r'+1:=⟨r-1,atO⟩;obtain⟨i',o',ch,avL,avM,b,T,v,g1,g2,g3,g4,g5,g6,g7,g8,g9⟩:=ht;have:=hP.uniq i' i _ g2 hpe;subst this;rw[ho]at g1;cases g1;refine I.write hP hM hD ho h2 h1 hpe g3 g4 g5 g6 g7 g8 ?_;intro X' a' I';exact ih r (q+1) _ avM X' a' atO g9 hsz hleft (by rw[hL];exact I')
def Nk(P:Program)(G:Cx->Prop)(base n:Nat)(c:Code)(st:St)(e:Ev.Ex)(st':St):Prop:=∀X₀ X a,(X₀.h.next=base/\G X₀)->aV X₀->bh X₀ X->RF X n st a->∀Q:Exit->Act->World->Prop,
 (∀X' a',RF X' n st' a'->bh X₀ X'->Q e.to a' X'.w)->c.wp P Q a X.w
variable{G:Cx->Prop}{base:Nat}
theorem aiA{R:Type}{P:Program}(hm:P.follows .mixedOrders=true){sh:TypeId->Option Sh}{call:jW R}(hc:mg P call){n:Nat}{ops:Array Oper}{st:St}{k:St->Option R}{r:R}(e:Ns P sh call n ops st k=some r)(id:Nat) :
  ∃st',k st'=some r/\Nk P G base n (.region id ops true) st .normal st':=by
 unfold Ns at e;split at e<;>try cases e
 rename_i m hpk;split at e<;>try cases e
 rename_i hd hlt;have hP:=Je hpk;obtain⟨d1,d2⟩:=Zyg hd (by rw[hP.len];simp);obtain⟨avL,e,S'⟩:=ZX e (fun x y o o' hi hi' t q1 q2 q3 q4 q5 q6=>aaN hP (by simpa using q1) (by simpa using q2) q4 q5 q6) d1;obtain⟨fin,hk,ht⟩:=aax hc hP d1 m 0 avL e;refine⟨fin,hk,?_⟩;intro X₀ X a hb hH hE RR Q hQ;refine wp_region_any hm ?_;have Hd:=RR.H.drew (X.w.drawn+1);have S:=S' (by rw[<-RR.h];exact RR.H.lt);have hgetD:∀j,(Array.replicate ops.size false).getD j false=false:=by intro j;simp only[asA,Array.getElem?_replicate];split<;>rfl
 have I:Inv P sh n ops (tf ops.toList) { X with w:={ X.w with drawn:=X.w.drawn+1 } } 0 (fun j=>(Array.replicate ops.size false).getD j false) ⟨X.s,avL.h,{ X.w with drawn:=X.w.drawn+1 },X.A⟩ a avL:=by
  refine Inv.enter (X:={ X with w:={ X.w with drawn:=X.w.drawn+1 } }) (h₁:=st.h) (T₁:=st.T) RR.T.size RR.T.defers RR.h Hd (bh.refl _) S ?_ ?_ ?_ ?_ (fun i hi _=>hgetD i) ?_ ?_ ?_ ?_
  .intro t v hv _ _;obtain⟨V,h1,h2⟩:=RR.T.get t v hv;exact⟨V,h1,h2.ext (jd.of_heap (X:=X) (w:={ X.w with drawn:=X.w.drawn+1 }) rfl)⟩
  .intro i o lo hi _ _ h;omega
  .intro i o lo hi t v id _ _ h;omega
  .intro i j o o' lo hi lo' hi' t t' v v' id _ _ _ _ h;omega
  .intro z o _ h;rw[hgetD]at h;cases h
  .intro i j hj;simp only[hgetD];have hlt':i<ops.size:=by rw[<-hP.len];exact jj hj
   have:=(hP.w i ops[i] j (by simp[hlt']) hj).1;constructor
   .intro r;cases r
   .intro r;omega
  .intro i l h _ hL;rw[hgetD]at hL;cases hL
  .intro i l h _ hh;omega
 have hleft:∀m (L:Nat->Bool),left m L<=m:=by
  intro m L
  induction m with|zero=>simp[left]|succ m ih=>simp only[left];split<;>omega
 refine amw (X₀:={ X with w:={ X.w with drawn:=X.w.drawn+1 } }) hP (fun x o lo hi h=>d2 x o lo hi (by simpa using h)) (fun x y o o' t h1 h2=>d1 x y o o' t (by simpa using h1) (by simpa using h2)) (fun x o t h1 h2=>Tz hlt x o t (by simpa using h1) h2) ?_ ops.size m 0 _ avL _ a atO ht atQ (hleft _ _) I;intro X' a' R' E';exact hQ X' a' R' (hE.trans ((bh.drew X _).trans E'))
open Go.Proofs.YtmkbdfidnfmgmaaGreat.Ev (Tr Tr.dp nth fc)
def fe:List (Nat×Nat)->Nat->Option Nat
 |[],_=>none|p::l,j=>match Nat.beq p.1 j with|true=>some p.2|false=>fe l j
def JS(base:Nat)(m:List (Nat×Nat))(j:Nat):Option Nat:=match Nat.blt j base with|true=>some j|false=>fe m j
def ami(base j:Nat):Option Nat:=match Nat.blt j base with|true=>some j|false=>none
mutual
def kG(f:Nat->Option Nat):AV->Option AV
 |.bool b=>some (.bool b)|.int k n=>some (.int k n)|.str s=>some (.str s)|.fw=>some .fw|.bt=>some .bt|.gr=>some .gr|.ga=>some .ga|.gZ=>some .gZ|.kS=>some .kS|.ptr b o=>match f b with|some b=>some (.ptr b o)|none=>none
 |.fE b i z o=>match f b with|some b=>some (.fE b i z o)|none=>none
 |.ie σ d o=>some (.ie σ d o)|.hd b τ=>match f b with|some b=>some (.hd b τ)|none=>none
 |.vw b τ o l=>match f b with|some b=>some (.vw b τ o l)|none=>none
 |.fz τ L=>some (.fz τ L)|.fJ τ z L=>some (.fJ τ z L)|.mp b=>match f b with|some b=>some (.mp b)|none=>none
 |.fB b=>match f b with|some b=>some (.fB b)|none=>none
 |.rp b i=>match f b with|some b=>some (.rp b i)|none=>none
 |.ra b i=>match f b with|some b=>some (.ra b i)|none=>none
 |.func g x c=>match o9 f x with
  |some x=>match o9 f c with|some c=>some (.func g x c)|none=>none
  |none=>none
 |.agg l=>match o9 f l with|some l=>some (.agg l)|none=>none
 |.d5 l=>match o9 f l with|some l=>some (.d5 l)|none=>none
termination_by structural x=>x
def o9(f:Nat->Option Nat):List AV->Option (List AV)
 |[]=>some []|v::l=>match kG f v with
  |some v=>match o9 f l with|some l=>some (v::l)|none=>none
  |none=>none
termination_by structural x=>x
end
def kF(f:Nat->Option Nat):bC->Option bC
 |.cells l ty=>match o9 f l with|some l=>some (.cells l ty)|none=>none
 |.arr τ L ty=>some (.arr τ L ty)|.map κ σ M=>some (.map κ σ M)|.fu L ty=>some (.fu L ty)|.fA τ i L vs ty=>match o9 f vs with|some vs=>some (.fA τ i L vs ty)|none=>none
structure Rn(f:Nat->Option Nat)(X X':Cx):Prop where
 sg:∀j i l,f j=some i->X.s j=some l->X'.s i=some l
 K:jF X.w X.out X'.w X'.out
 obj:∀j i n,f j=some i->rowOf X'.h.tr i=some n->rowOf X.h.tr j=some n
mutual
theorem N2{f:Nat->Option Nat}{X X':Cx}(E:Rn f X X'):∀{v v':AV}{V:Value},kG f v=some v'->Rel X v V->Rel X' v' V
 |.bool _,v',_,e,h|.int _ _,v',_,e,h|.str _,v',_,e,h|.fw,v',_,e,h|.bt,v',_,e,h|.gr,v',_,e,h|.ga,v',_,e,h|.gZ,v',_,e,h|.kS,v',_,e,h=>by simp only[kG,cM]at e;subst e;exact h|.ptr b off,v',V,e,⟨x,c,h1,h2⟩=>by
  simp only[kG]at e;split at e<;>try cases e
  rename_i i hi;exact⟨x,c,E.sg _ _ _ hi h1,h2⟩
 |.fE b i z o,v',V,e,⟨x,c,h1,h2,h3⟩=>by
  simp only[kG]at e;split at e<;>try cases e
  rename_i b' hb;exact⟨x,c,E.sg _ _ _ hb h1,h2,fun n q=>h3 n (E.obj _ _ n hb q)⟩
 |.ie σ d o,v',V,e,⟨b,off,cs,h1,h2,h3,h4⟩=>by simp only[kG,cM]at e;subst e;obtain⟨k1,k2⟩:=h4.bn E.K h2;exact⟨b,off,cs,h1,k2,h3.bn E.K,k1⟩
 |.hd b τ,v',V,e,⟨l,h1,hc,h2⟩=>by
  simp only[kG]at e;split at e<;>try cases e
  rename_i b' hb;exact⟨l,E.sg _ _ _ hb h1,hc,fun n q=>h2 n (E.obj _ _ n hb q)⟩
 |.vw b τ off len,v',V,e,⟨l,a,c,h1,h2,h3,h4,h5,h6⟩=>by
  simp only[kG]at e;split at e<;>try cases e
  rename_i b' hb;exact⟨l,a,c,E.sg _ _ _ hb h1,h2,h3,h4,h5,fun n q=>h6 n (E.obj _ _ n hb q)⟩
 |.fz τ L,v',V,e,h=>by simp only[kG,cM]at e;subst e;exact Cs.bn E.K (σ:=.sl τ) h|.fJ τ z L,v',V,e,h=>by simp only[kG,cM]at e;subst e;exact⟨Cs.bn E.K (σ:=.sl τ) h.1,h.2⟩|.mp b,v',V,e,⟨x,c,h1,h2⟩=>by
  simp only[kG]at e;split at e<;>try cases e
  rename_i i hi;exact⟨x,c,E.sg _ _ _ hi h1,h2⟩
 |.fB b,v',V,e,⟨l,h1,h2⟩=>by
  simp only[kG]at e;split at e<;>try cases e
  rename_i i hi;exact⟨l,E.sg _ _ _ hi h1,h2⟩
 |.rp b i,v',V,e,⟨x,c,m,p,h1,h2⟩=>by
  simp only[kG]at e;split at e<;>try cases e
  rename_i k hk;exact⟨x,c,m,p,E.sg _ _ _ hk h1,h2⟩
 |.ra b i,v',V,e,⟨x,c,m,h1,h2⟩=>by
  simp only[kG]at e;split at e<;>try cases e
  rename_i k hk;exact⟨x,c,m,E.sg _ _ _ hk h1,h2⟩
 |.func g x c,v',V,e,⟨xs,cs,h1,h2,h3⟩=>by
  simp only[kG]at e;split at e<;>try cases e
  rename_i x' hx;split at e<;>try cases e
  rename_i c' hc;exact⟨xs,cs,h1,tj E hx h2,tj E hc h3⟩
 |.agg l,v',V,e,⟨cs,h1,h2⟩=>by
  simp only[kG]at e;split at e<;>try cases e
  rename_i x' hx;exact⟨cs,h1,tj E hx h2⟩
 |.d5 l,v',V,e,⟨cs,h1,h2⟩=>by
  simp only[kG]at e;split at e<;>try cases e
  rename_i x' hx;exact⟨cs,h1,tj E hx h2⟩
theorem tj{f:Nat->Option Nat}{X X':Cx}(E:Rn f X X'):∀{l l':List AV}{cs:pi},o9 f l=some l'->bT X l cs->bT X' l' cs
 |[],l',_,e,h=>by simp only[o9,cM]at e;subst e;exact h|x::l,l',_,e,⟨v,r,e2,h1,h2⟩=>by
  simp only[o9]at e;split at e<;>try cases e
  rename_i x' hx;split at e<;>try cases e
  rename_i l' hl;exact⟨v,r,e2,N2 E hx h1,tj E hl h2⟩
end
theorem aeZ{f:Nat->Option Nat}{o o':bC}(e:kF f o=some o'):o'.row=o.row:=by
 cases o with
 |cells l ty=>simp only[kF]at e;split at e<;>cases e;rfl
 |arr τ L ty=>simp only[kF,cM]at e;subst e;rfl|map κ σ M=>simp only[kF,cM]at e;subst e;rfl|fu L ty=>simp only[kF,cM]at e;subst e;rfl|fA τ i L vs ty=>simp only[kF]at e;split at e<;>cases e;rfl
theorem aa6{f:Nat->Option Nat}{X X':Cx}(E:Rn f X X')(hw:X'.w=X.w){l:Loc}{o o':bC}(e:kF f o=some o')(h:jA X l o):jA X' l o':=by
 cases o with
 |cells vs ty=>
  simp only[kF]at e;split at e<;>try cases e
  rename_i l' hl;obtain⟨b,c,cs,h1,h2,h3⟩:=h;exact⟨b,c,cs,h1,by grind,tj E hl h3⟩
 |arr τ L ty=>
  simp only[kF,cM]at e;subst e;cases l with
  |nil=>exact h|«at» b c=>obtain⟨cs,tail,h1,h2,h3,h4⟩:=h;exact⟨cs,tail,by rw[hw];exact h1,h2.mono (fun x d q=>q.bn E.K),h3,h4⟩
  |dE _ _ _=>exact h.elim
 |map κ σ M=>simp only[kF,cM]at e;subst e;obtain⟨x,c,es,clk,h1,h2,h3⟩:=h;exact⟨x,c,es,clk,h1,by grind,h3.bn E.K⟩
 |fu L ty=>simp only[kF,cM]at e;subst e;cases l with|nil=>exact h|«at» b c=>exact h.elim|dE b c m=>obtain⟨tail,ty',h1,h2,h3,h4⟩:=h;exact⟨tail,ty',by grind,h2,h3.ext E.K (fun p _=>by grind),h4⟩
 |fA τ i L vs ty=>
  simp only[kF]at e;split at e<;>try cases e
  rename_i l' hl;obtain⟨b,c,pre,mid,post,tail,h0,h1,h2,h3,h4,h5⟩:=h;exact⟨b,c,pre,mid,post,tail,h0,by grind,h2.mono (fun x d q=>q.bn E.K),tj E hl h3,h4.mono (fun x d q=>q.bn E.K),h5⟩
def Nr(base:Nat)(h:Tr bC):Nat->Tr bC->Option (Tr bC)
 |0,t=>some t|k+1,t=>match Nr base h k t with
  |some t=>match h.get k with
   |some o=>match kF (ami base) o with|some o=>Tr.set FT t k (some o)|none=>none
   |none=>some t
  |none=>none
def qu(f:Nat->Option Nat)(h:Tr bC):List (Nat×Nat)->Tr bC->Option (Tr bC)
 |[],t=>some t|p::m,t=>match qu f h m t with
  |some t=>match h.get p.1 with
   |some o=>match kF f o with|some o=>Tr.set FT t p.2 (some o)|none=>none
   |none=>some t
  |none=>none
def xA(f:Nat->Option Nat)(n:Nat)(T:Tr AV):List Tmp->Option (Tr AV)
 |[]=>some .nil|t::l=>match xA f n T l with
  |some T'=>match T.get t with
   |some v=>match kG f v with|some v=>j7 n T' (some t) v|none=>none
   |none=>none
  |none=>none
def EC(j i:Nat):List (Nat×Nat)->Bool
 |[]=>true|p::m=>match Nat.beq p.1 j with|true=>false|false=>match Nat.beq p.2 i with|true=>false|false=>EC j i m
def JQ(base nx:Nat):List (Nat×Nat)->Bool
 |[]=>true|p::m=>match Nat.ble base p.1,Nat.ble base p.2,Nat.blt p.2 nx,EC p.1 p.2 m with|true,true,true,true=>JQ base nx m|_,_,_,_=>false
theorem Zyj{j i:Nat}:∀{m:List (Nat×Nat)},EC j i m=true->∀p∈m,p.1≠j/\p.2≠i
 |[],_,p,hp=>by cases hp
 |q::m,h,p,hp=>by
  simp only[EC]at h;split at h<;>try cases h
  rename_i h1;split at h<;>try cases h
  rename_i h2;rcases GE.1 hp with rfl|hp
  .exact⟨asi h1,asi h2⟩
  .exact Zyj h p hp
structure sY(base nx:Nat)(m:List (Nat×Nat)):Prop where
 lo:∀p∈m,base<=p.1/\base<=p.2/\p.2<nx
 fst:∀p∈m,∀q∈m,p.1=q.1->p=q
 snd:∀p∈m,∀q∈m,p.2=q.2->p=q
theorem aaE{base nx:Nat}:∀{m:List (Nat×Nat)},JQ base nx m=true->sY base nx m
 |[],_=>⟨fun p h=>(nomatch h),fun p h=>(nomatch h),fun p h=>(nomatch h)⟩
 |p::m,h=>by
  simp only[JQ]at h;split at h<;>try cases h
  rename_i h1 h2 h3 h4;have h1:=adc h1;have h2:=adc h2;rw[atA]at h3;have h4:=Zyj h4;obtain⟨a,b,c⟩:=aaE h;refine⟨?_,?_,?_⟩
  .intro q hq
   grind
  .intro q hq r hr e
   grind
  grind
theorem A4:∀{m:List (Nat×Nat)}{j i:Nat},fe m j=some i->(j,i)∈m
 |[],j,i,h=>by simp[fe]at h|p::m,j,i,h=>by
  simp only[fe]at h;split at h
  .rename_i q;have:=cB q
   grind
  .exact FS _ (A4 h)
theorem yU{base nx:Nat}{m:List (Nat×Nat)}(O:sY base nx m){j i:Nat}(h:(j,i)∈m):fe m j=some i:=by
 have:∀{l:List (Nat×Nat)},(∀p∈l,p∈m)->(j,i)∈l->fe l j=some i:=by
  intro l
  induction l with
  |nil=>intro _ q;cases q
  |cons p l ih=>
   intro hs q;simp only[fe];split
   .rename_i e;have e:=cB e;have:=O.fst p (hs p atQ) (j,i) h e;rw[this]
   .rename_i e;have e:=asi e
    grind
 exact this (fun p hp=>hp) h
def inv:List (Nat×Nat)->Nat->Option Nat
 |[],_=>none|p::l,i=>if p.2=i then some p.1 else inv l i
theorem abk:∀{m:List (Nat×Nat)}{i j:Nat},inv m i=some j->(j,i)∈m
 |[],i,j,h=>by simp[inv]at h|p::m,i,j,h=>by
  simp only[inv]at h;split at h
  .rename_i q
   grind
  .exact FS _ (abk h)
theorem MU{base nx:Nat}{m:List (Nat×Nat)}(O:sY base nx m){j i:Nat}(h:(j,i)∈m):inv m i=some j:=by
 have:∀{l:List (Nat×Nat)},(∀p∈l,p∈m)->(j,i)∈l->inv l i=some j:=by
  intro l
  induction l with
  |nil=>intro _ q;cases q
  |cons p l ih=>
   intro hs q;simp only[inv];split
   .rename_i e;have:=O.snd p (hs p atQ) (j,i) h e;rw[this]
   grind
 exact this (fun p hp=>hp) h
theorem AF{f:Nat->Option Nat}{h:Tr bC}:∀{m:List (Nat×Nat)}{t t':Tr bC},qu f h m t=some t'->∀i,((∀p∈m,p.2≠i)->t'.get i=t.get i) /\
  ∀o',t'.get i=some o'->t.get i=some o'\/∃j o,(j,i)∈m/\h.get j=some o/\kF f o=some o'
 |[],t,t',e,i=>by simp only[qu,cM]at e;grind|p::m,t,t',e,i=>by
  simp only[qu]at e;split at e<;>try cases e
  rename_i avT h₁;obtain⟨i1,i2⟩:=AF h₁ i;have back:∀o',avT.get i=some o'->t.get i=some o'\/∃j o,(j,i)∈p::m/\h.get j=some o/\kF f o=some o':=by grind
  split at e
  .rename_i o ho;split at e<;>try cases e
   rename_i avF hr;have hg:=Tr.dp _ _ _ _ _ e i
   grind
  grind
theorem Ob{f:Nat->Option Nat}{n:Nat}{T:Tr AV}:∀{l:List Tmp}{T':Tr AV},xA f n T l=some T'->∀t v',T'.get t=some v'->∃v,T.get t=some v/\kG f v=some v'
 |[],T',e,t,v',h=>by simp only[xA,cM]at e;subst e;simp[Tr.get]at h|x::l,T',e,t,v',h=>by
  simp only[xA]at e;split at e<;>try cases e
  rename_i T₁ h₁;split at e<;>try cases e
  rename_i v hv;split at e<;>try cases e
  rename_i u hu;rw[rz e t]at h;by_cases q:x=t
  .subst q
   grind
  .rw[BT (by grind)]at h;exact Ob h₁ t v' h
def zL(base n:Nat)(bn:List Tmp)(m:List (Nat×Nat))(nx:Nat)(st:St):Option St:=match JQ base nx m,Nat.ble base nx with
 |true,true=>match xA (JS base m) n st.T bn,Nr base st.h.tr base .nil with
  |some T,some t=>match qu (JS base m) st.h.tr m t with|some t=>some ⟨T,⟨t,nx⟩⟩|none=>none
  |_,_=>none
 |_,_=>none
open Go.Proofs.YtmkbdfidnfmgmaaGreat.Ev (Tr Tr.dp nth fc Ex)
def kX:Code->Nat
 |.region id _ _=>id|.seq a _=>kX a|.block _ a=>kX a|.loop a=>kX a|.scope a=>kX a|_=>0
def wT(n:Nat):List (Tmp×Sh×TypeId)->St->Option St
 |[],st=>some st|p::l,st=>match st.T.get p.1 with
  |some v=>match v with
   |.bt=>match Tr.set FT st.h.tr st.h.next (some (.arr p.2.1 [] p.2.2))with
    |some t=>match j7 n st.T (some p.1) (.hd st.h.next p.2.1)with|some T=>wT n l ⟨T,⟨t,st.h.next+1⟩⟩|none=>none
    |none=>none
   |_=>wT n l st
  |none=>none
abbrev mY(R:Type):=Nat->St->(Ex->St->Option R)->Option R
def fV:Code->List Code
 |.seq a b=>fV a++fV b|.cond _ a b=>fV a++fV b|.block _ a=>fV a|.loop a=>[a]|.scope a=>fV a|_=>[]
def Ia(T:Tr AV)(c:Operand)(b:Bool):Option (Tr AV):=match c with|.tmp t=>Tr.set FT T t (some (.bool b))|_=>some T
section
variable{R:Type}(P:Program)(sh:TypeId->Option Sh)(call:jW R)(loops:mY R)(n:Nat)
def runK:Code->St->(Ex->St->Option R)->Option R
 |.skip,st,k=>k .normal st|.label _,st,k=>k .normal st|.region _ ops draw,st,k=>match draw with|false=>E0 P sh call n ops ops.toList st (k .normal)|true=>Ns P sh call n ops st (k .normal)
 |.seq x y,st,k=>runK x st fun e st=>match e with|.normal=>runK y st k|.exit i=>k (.exit i) st|.ret=>k .ret st
 |.cond c x y,st,k=>match dX st.T c with
  |some v=>match v with
   |.bool b=>br b (match Ia st.T c true with|some T=>runK x ⟨T,st.h⟩ k|none=>none) (match Ia st.T c false with|some T=>runK y ⟨T,st.h⟩ k|none=>none)
   |_=>none
  |none=>none
 |.block id x,st,k=>runK x st fun e st=>match e with
  |.normal=>k .normal st|.exit i=>match Nat.beq i id with|true=>k .normal st|false=>k (.exit i) st
  |.ret=>k .ret st
 |.loop x,st,k=>loops (kX x) st k|.scope x,st,k=>runK x st k|.exit id,st,k=>k (.exit id) st|.ret,st,k=>k .ret st|_,_,_=>none
end
theorem NX{n:Nat}:∀{l:List (Tmp×Sh×TypeId)}{st st':St},wT n l st=some st'->∀{X:Cx}{a:Act},RF X n st a->∃X',X'.w=X.w/\RF X' n st' a/\bh X X'
 |[],st,st',e,X,a,R=>by simp only[wT,cM]at e;subst e;exact⟨X,rfl,R,bh.refl X⟩|p::l,st,st',e,X,a,R=>by
  simp only[wT]at e;split at e<;>try cases e
  rename_i v hv;split at e
  .split at e<;>try cases e
   rename_i t ht;split at e<;>try cases e
   rename_i T hT;have hX:=R.h;rw[<-hX]at ht;obtain⟨E,H'⟩:=aV.void R.H ht;have hg:=rz hT;have g0:=Tr.dp _ _ _ _ _ ht;obtain⟨X',h1,h2,h3⟩:=NX e (X:=⟨cw X.s X.h.next .nil,⟨t,X.h.next+1⟩,X.w,X.A⟩) (a:=a) (by
    refine⟨by rw[hX],⟨R.T.size,R.T.defers,?_⟩,H'⟩;intro x u hu;rw[hg x]at hu;by_cases q:p.1=x
    .subst q;rw[IO rfl]at hu;cases hu;obtain⟨V,b1,b2⟩:=R.T.get _ _ hv;refine⟨V,b1,.nil,by rw[<-hX];exact fU _ _ _,?_,?_⟩
     .rw[show V=_ from b2];rfl
     .intro n' q;rw[<-hX]at q
      replace q:rowOf t X.h.next=some n':=q
      rw[kP (by rw[g0,IO rfl])]at q;cases q;rw[show V=_ from b2];rfl
    .rw[BT (by grind)]at hu;obtain⟨V,b1,b2⟩:=R.T.get _ _ hu;exact⟨V,b1,b2.ext (E.fG R.H)⟩)
   exact⟨X',h1,h2,E.trans h3⟩
  .exact NX e R
def nC(P:Program)(G:Cx->Prop)(base n:Nat)(x:Code){R:Type}(g:St->(Ex->St->Option R)->Option R):Prop:=∀st k r,g st k=some r->∃e st',k e st'=some r/\Nk P G base n (.loop x) st e st'
variable{c:Operand}
theorem ZY{X:Cx}{n:Nat}{T':Tr AV}{a:Act}(R:mH X n T a)(hv:dX T c=some (.bool b))(h:Ia T c b=some T'):mH X n T' a:=by
 unfold Ia at h;split at h
 .rename_i t;refine⟨R.size,R.defers,?_⟩;intro u x hu;rw[Tr.dp _ _ _ _ _ h u]at hu;by_cases q:u=t
  .subst q;rw[IO rfl]at hu;cases hu;exact R.get u _ hv
  .rw[BT q]at hu;exact R.get u x hu
 .cases h;exact R
theorem aaQ{X:Cx}{n:Nat}{a:Act}(R:mH X n T a)(hv:dX T c=some v):Rel X v (a.eval c):=by
 cases c with
 |tmp t=>obtain⟨V,h1,h2⟩:=R.get t v hv;simpa[Act.eval,asA,h1]using h2
 |const u=>exact NV hv X|func f=>simp[dX]at hv;subst hv;exact⟨[],[],rfl,rfl,rfl⟩|global g=>simp[dX]at hv
theorem AZ{R:Type}{P:Program}(hm:P.follows .mixedOrders=true){sh:TypeId->Option Sh}{call:jW R}(hc:mg P call){loops:mY R}{n:Nat} :
  ∀(c:Code),(∀x∈fV c,nC P G base n x (loops (kX x)))->∀(st:St) (k:Ex->St->Option R) (r:R),runK P sh call loops n c st k=some r->∃e st',k e st'=some r/\Nk P G base n c st e st':=by
 intro c
 induction c with
 |skip=>intro hl st k r e;exact⟨.normal,st,e,fun X₀ X a hb aun hE RR Q hQ=>wp_skip (hQ X a RR hE)⟩|label l=>intro hl st k r e;exact⟨.normal,st,e,fun X₀ X a hb aun hE RR Q hQ=>wp_label (hQ X a RR hE)⟩|exit id=>intro hl st k r e;exact⟨.exit id,st,e,fun X₀ X a hb aun hE RR Q hQ=>wp_exit (hQ X a RR hE)⟩|ret=>intro hl st k r e;exact⟨.ret,st,e,fun X₀ X a hb aun hE RR Q hQ=>wp_ret (hQ X a RR hE)⟩|region id ops draw=>
  intro hl st k r e;simp only[runK]at e;cases draw with
  |false=>simp only[]at e;obtain⟨st',hk,S⟩:=aak hc ops.toList 0 st (k .normal) r e (by grind);refine⟨.normal,st',hk,?_⟩;intro X₀ X a hb aun hE RR Q hQ;refine wp_region ?_;have:=S X a RR Q (fun X' a' R' E'=>hQ X' a' R' (hE.trans E'));rw[List.range_eq_range'];simpa using this
  |true=>simp only[]at e;obtain⟨st',hk,S⟩:=aiA hm hc (base:=base) e id;exact⟨.normal,st',hk,S⟩
 |seq x y ihx ihy=>
  intro hl st k r e;simp only[runK]at e;obtain⟨auQ,avL,hk,S⟩:=ihx (fun x h=>hl x (by simp[fV,h])) _ _ _ e;cases auQ with
  |normal=>simp only[]at hk;obtain⟨auR,avM,avg,auB⟩:=ihy (fun x h=>hl x (by simp[fV,h])) _ _ _ hk;refine⟨auR,avM,avg,?_⟩;intro X₀ X a hb aun hE RR Q hQ;exact wp_seq (S X₀ X a hb aun hE RR _ (fun X' a' R' E'=>auB X₀ X' a' hb aun E' R' Q hQ))
  |exit i=>simp only[]at hk;exact⟨_,_,hk,fun X₀ X a hb aun hE RR Q hQ=>wp_seq (S X₀ X a hb aun hE RR _ (fun X' a' R' E'=>hQ X' a' R' E'))⟩|ret=>simp only[]at hk;exact⟨_,_,hk,fun X₀ X a hb aun hE RR Q hQ=>wp_seq (S X₀ X a hb aun hE RR _ (fun X' a' R' E'=>hQ X' a' R' E'))⟩
 |cond c x y ihx ihy=>
  intro hl st k r e;simp only[runK]at e;split at e<;>try cases e
  rename_i v hv;split at e<;>try cases e
  rename_i b;rcases Np e with⟨rfl,e2⟩|⟨rfl,e2⟩
  .split at e2<;>try cases e2
   rename_i T hT;obtain⟨auQ,avL,hk,S⟩:=ihx (fun x h=>hl x (by simp[fV,h])) _ _ _ e2;exact⟨auQ,avL,hk,fun X₀ X a hb aun hE RR Q hQ=>wp_cond_true (aaQ RR.T hv) (S X₀ X a hb aun hE ⟨RR.h,ZY RR.T hv hT,RR.H⟩ Q hQ)⟩
  .split at e2<;>try cases e2
   rename_i T hT;obtain⟨auQ,avL,hk,S⟩:=ihy (fun x h=>hl x (by simp[fV,h])) _ _ _ e2;exact⟨auQ,avL,hk,fun X₀ X a hb aun hE RR Q hQ=>wp_cond_false (aaQ RR.T hv) (S X₀ X a hb aun hE ⟨RR.h,ZY RR.T hv hT,RR.H⟩ Q hQ)⟩
 |block id x ih=>
  intro hl st k r e;simp only[runK]at e;obtain⟨auQ,avL,hk,S⟩:=ih (fun x h=>hl x (by simpa[fV]using h)) _ _ _ e;cases auQ with
  |normal=>exact⟨_,_,hk,fun X₀ X a hb aun hE RR Q hQ=>wp_block (S X₀ X a hb aun hE RR _ (fun X' a' R' E'=>hQ X' a' R' E'))⟩|ret=>exact⟨_,_,hk,fun X₀ X a hb aun hE RR Q hQ=>wp_block (S X₀ X a hb aun hE RR _ (fun X' a' R' E'=>hQ X' a' R' E'))⟩|exit i=>
   simp only[]at hk;split at hk
   .rename_i q;have q:=cB q;refine⟨_,_,hk,fun X₀ X a hb aun hE RR Q hQ=>wp_block (S X₀ X a hb aun hE RR _ (fun X' a' R' E'=>?_))⟩;simp only[Ex.to,Exit.inBlock,IO q];exact hQ X' a' R' E'
   .rename_i q;have q:=asi q;refine⟨_,_,hk,fun X₀ X a hb aun hE RR Q hQ=>wp_block (S X₀ X a hb aun hE RR _ (fun X' a' R' E'=>?_))⟩;simp only[Ex.to,Exit.inBlock,BT q];exact hQ X' a' R' E'
 |loop x ih=>intro hl st k r e;simp only[runK]at e;exact hl x (by simp[fV]) st k r e|scope x ih=>intro hl st k r e;simp only[runK]at e;obtain⟨auQ,avL,hk,S⟩:=ih (fun x h=>hl x (by simpa[fV]using h)) _ _ _ e;refine⟨auQ,avL,hk,fun X₀ X a hb aun hE RR Q hQ=>wp_scope_straight (S X₀ X a hb aun hE RR _ (fun X' a' R' E'=>?_))⟩;have:=hQ X' a' R' E';cases auQ<;>exact this
 |_=>intro hl st k r e;simp[runK]at e
def mG(w:World)(A:Nat->Prop):(l:List Sh)->TL l->pi->Prop
 |[],_,vs=>vs=[]|σ::l,d,vs=>∃V r,vs=V::r/\iz w A σ d.1 V/\mG w A l d.2 r
def og:pi->Value
 |[v]=>v|l=>.tuple (List.toArray l)
def sW:List AV->AV
 |[v]=>v|l=>.d5 l
def A5:(l:List Sh)->TL l->List AV
 |[],_=>[]|σ::l,d=>EW σ d.1::A5 l d.2
theorem AK{X:Cx}:∀{l:List Sh}{d:TL l}{vs:pi},mG X.w X.out l d vs->bT X (A5 l d) vs
 |[],_,vs,h=>h|σ::l,d,vs,⟨V,r,e,h1,h2⟩=>⟨V,r,e,JC h1,AK h2⟩
theorem mG.bn{w w':World}{A A':Nat->Prop}(K:jF w A w' A'):∀{l:List Sh}{d:TL l}{vs:pi},mG w A l d vs->mG w' A' l d vs
 |[],_,vs,h=>h|σ::l,d,vs,⟨V,r,e,h1,h2⟩=>⟨V,r,e,h1.bn K,h2.bn K⟩
def od(kl:Bool)(h:Hp):(l:List Sh)->List AV->Option (TL l×Hp)
 |[],vs=>match vs with|[]=>some ((),h)|_=>none
 |σ::l,vs=>match vs with
  |v::vs=>match uM kl h σ v with
   |some (d,h)=>match od kl h l vs with|some (e,h)=>some ((d,e),h)|none=>none
   |none=>none
  |[]=>none
theorem yS{kl:Bool}:∀{l:List Sh}{X:Cx}(H:aV X) {vs:List AV}{d:TL l}{h':Hp},od kl X.h l vs=some (d,h')->∀{cs:pi},bT X vs cs ->
  gF X h'/\mG X.w (Cx.out ⟨X.s,h',X.w,X.A⟩) l d cs
 |[],X,H,vs,d,h',e,cs,R=>by simp only[od]at e;split at e<;>cases e;exact⟨gF.refl H,R⟩
 |σ::l,X,H,vs,d,h',e,cs,R=>by
  simp only[od]at e;split at e<;>try cases e
  rename_i v vs;split at e<;>try cases e
  rename_i auN h₁ auQ;split at e<;>cases e;rename_i auO auR;obtain⟨V,r,rfl,R1,R2⟩:=R;obtain⟨auk,avF⟩:=Od H auQ R1;obtain⟨aul,avG⟩:=yS (X:=⟨X.s,h₁,X.w,X.A⟩) auk.H auR (R2.ext (auk.E.fG H));exact⟨auk.trans aul,V,r,rfl,avF.bn aul.E.keeps,avG⟩
def Comes(P:Program)(f:FuncId)(σs τs:List Sh)(F:TL σs->Option (TL τs)):Prop:=
 (∃fn c,P.funcs[f]?=some fn/\(fn.name == "runtime.NumGoroutine")=false/\fn.body=some c) /\
 ∀d x,F d=some x->∀(w:World) (A:Nat->Prop) (args:pi),(∀b,A b->b<w.heap.size)->mG w A σs d args ->
  Calls P f (List.toArray args) w fun e w'=>∃vs,e=.returned (og vs)/\Below w.heap.size w w'/\mG w' A τs x vs
def az{α R:Type}(x:Option α)(k:α->Option R):Option R:=match x with|some a=>k a|none=>none
theorem zg{α R:Type}{x:Option α}{k:α->Option R}{r:R}(h:az x k=some r):∃a,x=some a/\k a=some r:=by
 cases x with
 |none=>cases h
 |some a=>exact⟨a,rfl,h⟩
structure Spec where
 σs:List Sh
 τs:List Sh
 F:TL σs->Option (TL τs)
abbrev yF:=FuncId->Option Spec
def Oc(P:Program)(S:yF):Prop:=∀f s,S f=some s->Comes P f s.σs s.τs s.F
mutual
def plain:Sh->Bool
 |.sl _=>false|.agg l=>tB l|_=>true
termination_by structural x=>x
def tB:List Sh->Bool
 |[]=>true|s::l=>match plain s with|true=>tB l|false=>false
termination_by structural x=>x
end
mutual
theorem EV{w w':World}{A A':Nat->Prop}:∀{σ:Sh}{d:σ.T}{cs:pi},plain σ=true->Cs w A σ d cs->Cs w' A' σ d cs
 |.int k,n,cs,_,h=>h|.bool,b,cs,_,h=>h|.str,s,cs,_,h=>h|.agg l,d,cs,hp,h=>Z6 (l:=l) hp h|.sl s,L,cs,hp,h=>by cases hp
theorem Z6{w w':World}{A A':Nat->Prop}:∀{l:List Sh}{d:TL l}{cs:pi},tB l=true->jh w A l d cs->jh w' A' l d cs
 |[],_,cs,_,h=>h|s::l,d,cs,hp,⟨c,r,e,h1,h2⟩=>by
  simp only[tB]at hp;split at hp<;>try cases hp
  rename_i hs;exact⟨c,r,e,EV hs h1,Z6 hp h2⟩
end
theorem Zyd{w w':World}{A A':Nat->Prop}:∀{l:List Sh}{d:TL l}{vs:pi},tB l=true->mG w A l d vs->mG w' A' l d vs
 |[],_,vs,_,h=>h|s::l,d,vs,hp,⟨V,r,e,h1,h2⟩=>by
  simp only[tB]at hp;split at hp<;>try cases hp
  rename_i hs;exact⟨V,r,e,⟨EV hs h1.1,h1.2⟩,Zyd hp h2⟩
def NG{R:Type}(S:yF):jW R:=fun f vs h k=>match S f with
 |some s=>match od (tB s.τs) h s.σs vs with|some (d,_)=>az (s.F d) fun x=>k false (sW (A5 s.τs x)) h|none=>match od true h s.σs vs with|some (d,h')=>az (s.F d) fun x=>k true (sW (A5 s.τs x)) h'|none=>none
 |none=>none
mutual
theorem aai{h:Hp}:∀{σ:Sh}{l:List AV}{d:σ.T}{r:List AV}{h':Hp},fX false h σ l=some (d,r,h')->h'=h
 |.int k,l,d,r,h',e=>by
  simp only[fX]at e;split at e<;>try cases e
  split at e<;>cases e;rfl
 |.bool,l,d,r,h',e=>by simp only[fX]at e;split at e<;>cases e;rfl
 |.str,l,d,r,h',e=>by simp only[fX]at e;split at e<;>cases e;rfl
 |.agg ss,l,d,r,h',e=>Zyp (ss:=ss) e|.sl s,l,d,r,h',e=>by
  simp only[fX]at e;split at e<;>try cases e
  .rfl
  .split at e<;>cases e;rfl
  .split at e<;>try cases e
   split at e<;>try cases e
   contradiction
  .split at e<;>try cases e
   split at e<;>try cases e
   contradiction
theorem Zyp{h:Hp}:∀{ss:List Sh}{l:List AV}{d:TL ss}{r:List AV}{h':Hp},mj false h ss l=some (d,r,h')->h'=h
 |[],l,d,r,h',e=>by simp only[mj,cM]at e;cases e;rfl
 |s::ss,l,d,r,h',e=>by
  simp only[mj]at e;split at e<;>try cases e
  rename_i auN avI h₁ auQ;split at e<;>cases e;rename_i auR;have:=aai auQ;subst this;exact Zyp auR
end
theorem Zyq{h:Hp}:∀{l:List Sh}{vs:List AV}{d:TL l}{h':Hp},od false h l vs=some (d,h')->h'=h
 |[],vs,d,h',e=>by simp only[od]at e;split at e<;>cases e;rfl
 |σ::l,vs,d,h',e=>by
  simp only[od]at e;split at e<;>try cases e
  rename_i v vs;split at e<;>try cases e
  rename_i auN h₁ auQ;split at e<;>cases e;rename_i auR;have:h₁=h:=by
   unfold uM at auQ;split at auQ
   case h_3=>cases auQ
   all_goals
    split at auQ<;>try cases auQ
    rename_i auS;split at auQ<;>cases auQ;exact aai auS
  subst this;exact Zyq auR
theorem ET{X:Cx}:∀{l:List AV}{cs:pi},bT X l cs->Rel X (sW l) (og cs)
 |[],cs,h=>by rw[show cs=[]from h];exact⟨[],rfl,rfl⟩|[v],cs,⟨V,r,e,h1,h2⟩=>by rw[show r=[]from h2]at e;rw[e];exact h1|v::u::l,cs,⟨V,r,e,h1,⟨V',r',e',h2,h3⟩⟩=>by subst e';subst e;exact⟨V::V'::r',rfl,V,V'::r',rfl,h1,V',r',rfl,h2,h3⟩
theorem ajr{R:Type}{P:Program}{S:yF}(hS:Oc P S):mg P (NG (R:=R) S):=by
 intro f vs h k r e;unfold NG at e;split at e<;>try cases e
 rename_i s hs;obtain⟨hf,hp⟩:=hS f s hs;split at e
 case h_2=>
  split at e<;>try cases e
  rename_i d h' hd;obtain⟨x,hx,hk⟩:=zg e;refine⟨true,_,h',hk,(fun q=>by cases q),hf,?_⟩;intro X args hX H hR;subst hX;obtain⟨F,hA⟩:=yS H hd hR;refine(hp d x hx X.w (Cx.out ⟨X.s,h',X.w,X.A⟩) args (fun b hb=>hb.elim (F.H.alt b) F.H.so) hA).mono ?_;rintro e w' ⟨us,rfl,B,hA'⟩;have E:bh ⟨X.s,h',X.w,X.A⟩ ⟨X.s,h',w',X.A⟩:=⟨B.os,B.tape,B.output,B.size,fun _ _ h=>h,fun _ _ _ h=>h,rt _,fun b hb _=>B.block b hb,fun b h=>.inl h,fun j n _ h=>h,fun _ _ _=>rfl,rfl⟩;refine⟨⟨X.s,h',w',X.A⟩,og us,rfl,rfl,rfl,?_,F.E.trans E,ET (AK hA')⟩;refine⟨?_,F.H.inj,F.H.lt,F.H.dM,fun b hb=>WP (F.H.alt b hb) B.size,F.H.loc⟩;intro i o l h1 h2;refine(F.H.obj i o l h1 h2).ext (E.fG F.H) ?_;intro b hb;exact B.block b (F.H.ju h1 h2 hb)
 rename_i d h' hd;obtain⟨x,hx,hk⟩:=zg e;refine⟨false,_,h,hk,fun _=>gd.refl h,hf,?_⟩;intro X args hX H hR;subst hX;obtain⟨F,hA⟩:=yS H hd hR;have hout:∀b,Cx.out ⟨X.s,h',X.w,X.A⟩ b->X.out b:=by
  rintro b (q|⟨i,o,c,h1,h2⟩)
  .exact .inl q
  .exact .inr ⟨i,o,c,F.sub i o h1,h2⟩
 refine(hp d x hx X.w (Cx.out ⟨X.s,h',X.w,X.A⟩) args (fun b hb=>(hout b hb).elim (H.alt b) H.so) hA).mono ?_;rintro e w' ⟨us,rfl,B,hA'⟩;have hw:∀b o,X.w.heap[b]?=some o->w'.heap[b]?=some o:=fun b o q=>by rw[B.block b (ka q)];exact q
 have E:bh X ⟨X.s,X.h,w',X.A⟩:=⟨B.os,B.tape,B.output,B.size,fun _ _ h=>h,fun _ _ _ h=>h,rt _,fun b hb _=>B.block b hb,fun b h=>.inl h,fun j n _ h=>h,fun _ _ _=>rfl,rfl⟩;have hA'':mG w' X.out s.τs x us:=by cases hpl:tB s.τs with|true=>exact Zyd hpl hA'|false=>rw[hpl]at hd;have:=Zyq hd;subst this;exact hA'
 refine⟨⟨X.s,X.h,w',X.A⟩,og us,rfl,rfl,rfl,?_,E,ET (AK hA'')⟩;refine⟨?_,H.inj,H.lt,H.dM,fun b hb=>WP (H.alt b hb) B.size,H.loc⟩;intro i o l h1 h2;refine(H.obj i o l h1 h2).ext (E.fG H) ?_;intro b hb;exact B.block b (H.ju h1 h2 hb)
def nc(n:Nat):List AV->Nat->Tr AV->Option (Tr AV)
 |[],_,T=>some T|v::l,i,T=>match j7 n T (some i) v with|some T=>nc n l (i+1) T|none=>none
theorem Zpk{n:Nat}:∀{vs:List AV}{i:Nat}{T T':Tr AV},nc n vs i T=some T'->∀t v,T'.get t=some v->(i<=t/\vs[t-i]?=some v)\/T.get t=some v
 |[],i,T,T',h,t,v,hv=>by simp[nc]at h;subst h;exact .inr hv|x::l,i,T,T',h,t,v,hv=>by
  simp only[nc]at h;split at h<;>try cases h
  rename_i T₁ h₁;rcases Zpk h t v hv with⟨hi,hl⟩|hT
  .left
   grind
  .rw[rz h₁ t]at hT
   grind
theorem aae{n:Nat}:∀{vs:List AV}{i:Nat}{T T':Tr AV},nc n vs i T=some T'->vs=[]\/i+vs.length<=n
 |[],i,T,T',h=>.inl rfl|x::l,i,T,T',h=>by
  right;simp only[nc]at h;split at h<;>try cases h
  rename_i T₁ h₁;have:i+1<=n:=N1 h₁;rcases aae h with q|q
  .subst q;simp;omega
  .simp;omega
theorem AG{X:Cx}(H:aV X){n:Nat}{vs:List AV}{T:Tr AV}(h:nc n vs 0 .nil=some T){args:pi}(R:bT X vs args) :
  RF X n ⟨T,X.h⟩ { tmps:=List.toArray args++Array.replicate (n-(List.toArray args).size) undef,defers:=[] }:=by
 have hL:=R.length;have hn:args.length<=n:=by
  rcases aae h with q|q
  .subst q;simp at hL;simp[hL]
  .omega
 refine⟨rfl,⟨by simp;omega,rfl,?_⟩,H⟩;intro t u hu;rcases Zpk h t u hu with⟨_,h1⟩|h1
 .simp only[Nat.sub_zero]at h1;obtain⟨V,h2,h3⟩:=R.get h1
  grind
 .simp[Tr.get]at h1
def pg(P:Program)(st:St):List ResultVar->Option (List AV)
 |[]=>some []|r::l=>match(match r with
   |.tmp t=>st.T.get t|.cell a t=>match st.T.get a with
    |some u=>match uY P st.h t u with|some (true,v)=>some v|_=>none
    |none=>none)with
  |some v=>match pg P st l with|some vs=>some (v::vs)|none=>none
  |none=>none
theorem amU{X:Cx}{P:Program}{u v:AV}{U V:Value}{t:TypeId}(H:aV X)(e:uY P X.h t u=some (true,v))(R:Rel X u U)(hr:(Instr.loadAt t U).run P X.w=.ok V X.w) :
  (do loadVar t (<- asAddr U):Sem Value).run P X.w=.ok V X.w:=by
 unfold uY at e;split at e<;>try cases e
 rename_i g l o hc;split at e<;>try cases e
 obtain⟨b,off,c,ty,fr,cs,rfl,h1,h2,h3⟩:=Zxc H hc rfl R;simp only[Instr.loadAt,Instr.sureAddr,asAddr,Sem.run_bind,Sem.run_pure,Result.andThen_ok]at hr |-;exact hr
theorem Ztb{P:Program}{st:St}{X:Cx}{n:Nat}{a:Act}(R:RF X n st a)(f:ResultVar->Sem Value)
  (hf:∀r,f r=match r with|.tmp t=>pure (a.tmps.getD t undef)|.cell x t=>do loadVar t (<- asAddr (a.tmps.getD x undef))) :
  ∀{l:List ResultVar}{vs:List AV},pg P st l=some vs->∃Vs,(l.mapM f).run P X.w=.ok Vs X.w/\bT X vs Vs
 |[],vs,h=>by simp[pg]at h;subst h;exact⟨[],rfl,rfl⟩|r::l,vs,h=>by
  simp only[pg]at h;split at h<;>try cases h
  rename_i v hv;split at h<;>try cases h
  rename_i vs' hl;obtain⟨Vs,ih,hR⟩:=Ztb R f hf hl;have h1:∃V,(f r).run P X.w=.ok V X.w/\Rel X v V:=by
   rw[hf r];cases r with
   |tmp t=>
    obtain⟨V,g1,g2⟩:=R.T.get t v hv
    simp_all
   |cell x t=>
    simp only[]at hv |-;split at hv<;>try cases hv
    rename_i u hu;split at hv<;>cases hv;rename_i hv;obtain⟨U,g1,g2⟩:=R.T.get x u hu;have hX:=R.h;rw[<-hX]at hv;obtain⟨V,hr,hR⟩:=Zpo R.H hv rfl g2;refine⟨V,?_,hR⟩;have hx':a.tmps.getD x undef=U:=by simp[asA,g1]
    rw[hx'];exact amU R.H hv g2 hr
  obtain⟨V,h1,h2⟩:=h1;refine⟨V::Vs,?_,V,Vs,rfl,h2,hR⟩
  simp_all
theorem Tn{P:Program}{st:St}{X:Cx}{n:Nat}{a:Act}(R:RF X n st a){fn:Func}{vs:List AV}(h:pg P st fn.results.toList=some vs) :
  ∃Vs,(results fn a.tmps).run P X.w=.ok (og Vs) X.w/\bT X vs Vs:=by
 obtain⟨Vs,h1,hR⟩:=Ztb R _ (fun r=>rfl) h;refine⟨Vs,?_,hR⟩;unfold results;rw[Sem.run_bind,Array.mapM_eq_mapM_toList,Sem.run_map];have h2:(List.mapM (fun x=>match x with|.tmp t=>pure (a.tmps.getD t undef)|.cell x t=>do loadVar t (<- asAddr (a.tmps.getD x undef)):ResultVar->Sem Value) fn.results.toList).run P X.w=.ok Vs X.w:=h1;refine(PP (fun r=>((Result.andThen r _).andThen _)) h2).trans ?_;simp only[Result.andThen_ok,Sem.run_pure];congr 1
 match Vs with|[]=>simp[og]|[v]=>simp[og]|u::v::l=>simp[og]
inductive LA where
 |int (k:IntKind)
 |bool
 |str
 |fz (τ:Sh)
 |fw
 |bt
 |gr
 |ga
 |gZ
 |kS
 |fJ (τ:Sh)
 |ie (σ:Sh) (o:Nat)
 |fE (b z o:Nat)
 |rp (b:Nat)
 |ptr (b off:Nat)
 |hd (b:Nat) (τ:Sh)
 |mp (b:Nat)
 |fB (b:Nat)
 |func (f:FuncId) (x c:List LA)
 |agg (l:List LA)
 |d5 (l:List LA)
@[match_pattern] abbrev LA.I:LA:=.int .i64
mutual
def σA:LA->List Sh->List Sh
 |.int k,r=>.int k::r|.bool,r=>.bool::r|.str,r=>.str::r|.fz τ,r=>.sl τ::r|.fw,r=>r|.bt,r=>r|.gr,r=>r|.ga,r=>r|.gZ,r=>r|.kS,r=>r|.fJ τ,r=>.bool::.sl τ::r|.ie σ _,r=>σ::r|.fE _ _ _,r=>.int .i64::r|.rp _,r=>.int .i64::r|.ptr _ _,r=>r|.hd _ _,r=>r|.mp _,r=>r|.fB _,r=>r|.func _ x c,r=>jw x (jw c r)|.agg l,r=>jw l r|.d5 l,r=>jw l r
termination_by structural x=>x
def jw:List LA->List Sh->List Sh
 |[],r=>r|a::l,r=>σA a (jw l r)
termination_by structural x=>x
end
mutual
def qf:(a:LA)->(r:List Sh)->TL (σA a r)->AV×TL r
 |.int k,r,d=>(.int k d.1,d.2)|.bool,r,d=>(.bool d.1,d.2)|.str,r,d=>(.str d.1,d.2)|.fz τ,r,d=>(.fz τ d.1,d.2)|.fw,r,d=>(.fw,d)|.bt,r,d=>(.bt,d)|.gr,r,d=>(.gr,d)|.ga,r,d=>(.ga,d)|.gZ,r,d=>(.gZ,d)|.kS,r,d=>(.kS,d)|.fJ τ,r,d=>(.fJ τ d.1 d.2.1,d.2.2)|.ie σ o,r,d=>(.ie σ d.1 o,d.2)|.fE b z o,r,d=>(.fE b (Int.toNat d.1) z o,d.2)|.rp b,r,d=>(.rp b (Int.toNat d.1),d.2)|.ptr b o,r,d=>(.ptr b o,d)|.hd b τ,r,d=>(.hd b τ,d)|.mp b,r,d=>(.mp b,d)|.fB b,r,d=>(.fB b,d)|.func f x c,r,d=>(.func f (jJ x (jw c r) d).1 (jJ c r (jJ x (jw c r) d).2).1,(jJ c r (jJ x (jw c r) d).2).2)|.agg l,r,d=>(.agg (jJ l r d).1,(jJ l r d).2)|.d5 l,r,d=>(.d5 (jJ l r d).1,(jJ l r d).2)
termination_by structural x=>x
def jJ:(l:List LA)->(r:List Sh)->TL (jw l r)->List AV×TL r
 |[],r,d=>([],d)|a::l,r,d=>((qf a (jw l r) d).1::(jJ l r (qf a (jw l r) d).2).1,(jJ l r (qf a (jw l r) d).2).2)
termination_by structural x=>x
end
def ae7(k:IntKind):AV->Option Int
 |.int k' n=>match Nat.beq (Ev.IntKind.num k') (Ev.IntKind.num k)with|true=>some n|false=>none
 |_=>none
def Zs:AV->Option Bool
 |.bool b=>some b|_=>none
def afb:AV->Option ByteArray
 |.str s=>some s|_=>none
def gFz(τ:Sh):AV->Option (List τ.T)
 |.fz τ' L=>match e:τ'.eqv τ with|true=>some (ma e L)|false=>none
 |.bt=>some []|_=>none
def alY{σ τ:Sh}(h:σ.eqv τ=true)(d:σ.T):τ.T:=Sh.ic h▸d
def Rz(σ:Sh)(o:Nat):AV->Option σ.T
 |.ie σ' d o'=>match e:σ'.eqv σ,Nat.beq o' o with|true,true=>some (alY e d)|_,_=>none
 |_=>none
theorem aiJ{σ:Sh}{o:Nat}{v:AV}{d:σ.T}(h:Rz σ o v=some d){X:Cx}{V:Value}(R:Rel X v V):Rel X (.ie σ d o) V:=by
 unfold Rz at h;split at h<;>try cases h
 rename_i σ' d' o';split at h<;>try cases h
 rename_i e q;have q:=cB q;subst q;obtain rfl:=Sh.ic e;exact R
def wH:LA->AV->Bool
 |.fw,v=>match v with|.fw=>true|_=>false
 |.bt,v=>match v with|.bt=>true|_=>false
 |.gr,v=>match v with|.gr=>true|_=>false
 |.ga,v=>match v with|.ga=>true|_=>false
 |.gZ,v=>match v with|.gZ=>true|_=>false
 |_,_=>false
def Ny(b z o:Nat):AV->Option Int
 |.fE b' i z' o'=>match Nat.beq b' b,Nat.beq z' z,Nat.beq o' o with|true,true,true=>some (Int.ofNat i)|_,_,_=>none
 |_=>none
def T3(b:Nat):AV->Option Int
 |.rp b' i=>match Nat.beq b' b with|true=>some (Int.ofNat i)|_=>none
 |_=>none
theorem aj1{b:Nat}{v:AV}{n:Int}(h:T3 b v=some n):v=.rp b n.toNat:=by
 unfold T3 at h;split at h<;>try cases h
 split at h<;>cases h
 simp_all
theorem arn{b z o:Nat}{v:AV}{n:Int}(h:Ny b z o v=some n):v=.fE b n.toNat z o:=by
 unfold Ny at h;split at h<;>try cases h
 split at h<;>cases h
 simp_all
def ae9(b o:Nat):AV->Bool
 |.ptr b' o'=>match Nat.beq b' b with|true=>Nat.beq o' o|false=>false
 |_=>false
def gHd(b:Nat):AV->Bool
 |.hd b' _=>Nat.beq b' b|_=>false
def gMp(b:Nat):AV->Bool
 |.mp b'=>Nat.beq b' b|_=>false
def afa(b:Nat):AV->Bool
 |.fB b'=>Nat.beq b' b|_=>false
def Zt(f:FuncId):AV->Option (List AV×List AV)
 |.func f' x c=>match Nat.beq f' f with|true=>some (x,c)|false=>none
 |_=>none
def ae5:AV->Option (List AV)
 |.agg l=>some l|_=>none
def afc:AV->Option (List AV)
 |.d5 l=>some l|_=>none
def oO{α β:Type}(x:Option α)(d:β):Option (α×β):=match x with|some a=>some (a,d)|none=>none
def pt{β:Type}(x:Bool)(d:β):Option β:=match x with|true=>some d|false=>none
theorem qq{α β:Type}{x:Option α}{d:β}{y:α×β}(h:oO x d=some y):x=some y.1/\y.2=d:=by
 cases x with
 |none=>cases h
 |some a=>cases h;exact⟨rfl,rfl⟩
theorem qp{β:Type}{x:Bool}{d y:β}(h:pt x d=some y):x=true/\y=d:=by
 cases x with
 |false=>cases h
 |true=>cases h;exact⟨rfl,rfl⟩
mutual
def wI:(a:LA)->(r:List Sh)->AV->TL r->Option (TL (σA a r))
 |.int k,r,v,d=>oO (ae7 k v) d|.bool,r,v,d=>oO (Zs v) d|.str,r,v,d=>oO (afb v) d|.fz τ,r,v,d=>oO (gFz τ v) d|.fw,r,v,d=>pt (wH .fw v) d|.bt,r,v,d=>pt (wH .bt v) d|.gr,r,v,d=>pt (wH .gr v) d|.ga,r,v,d=>pt (wH .ga v) d|.gZ,r,v,d=>pt (wH .gZ v) d|.kS,r,v,d=>pt (one v) d|.fJ τ,r,v,d=>none|.ie σ o,r,v,d=>oO (Rz σ o v) d|.fE b z o,r,v,d=>oO (Ny b z o v) d|.rp b,r,v,d=>oO (T3 b v) d|.ptr b o,r,v,d=>pt (ae9 b o v) d|.hd b τ,r,v,d=>pt (gHd b v) d|.mp b,r,v,d=>pt (gMp b v) d|.fB b,r,v,d=>pt (afa b v) d|.func f x c,r,v,d=>match Zt f v with
  |some p=>match nN c r p.2 d with|some d=>nN x (jw c r) p.1 d|none=>none
  |none=>none
 |.agg l,r,v,d=>match ae5 v with|some l'=>nN l r l' d|none=>none
 |.d5 l,r,v,d=>match afc v with|some l'=>nN l r l' d|none=>none
termination_by structural x=>x
def nN:(l:List LA)->(r:List Sh)->List AV->TL r->Option (TL (jw l r))
 |[],r,vs,d=>match vs with|[]=>some d|_=>none
 |a::l,r,vs,d=>match vs with
  |v::vs=>match nN l r vs d with|some d=>wI a (jw l r) v d|none=>none
  |[]=>none
termination_by structural x=>x
end
theorem AN{a:LA}{v:AV}(h:wH a v=true)(X:Cx)(V:Value)(R:Rel X v V)(r:List Sh)(d:TL (σA a r)):Rel X (qf a r d).1 V:=by cases a<;>cases v<;>first|exact R|cases h
mutual
theorem aaK:∀(a:LA) (r:List Sh) (v:AV) (d:TL r) (d':TL (σA a r)),wI a r v d=some d'->(qf a r d').2=d/\∀X V,Rel X v V->Rel X (qf a r d').1 V
 |.int k,r,v,d,d',e=>by
  obtain⟨h1,h2⟩:=qq (y:=d') e;refine⟨h2,fun X V h=>?_⟩;unfold ae7 at h1;split at h1
  .split at h1
   .rename_i hk;have hk:=Ev.IntKind.xp (cB hk);subst hk;have h1:=Do h1;show V=.int _ d'.1;rw[<-h1];exact h
   .exact absurd h1 atQ
  .exact absurd h1 atQ
 |.bool,r,v,d,d',e=>by
  obtain⟨h1,h2⟩:=qq (y:=d') e;refine⟨h2,fun X V h=>?_⟩;unfold Zs at h1;split at h1
  .have h1:=Do h1;show V=.bool d'.1;rw[<-h1];exact h
  .exact absurd h1 atQ
 |.str,r,v,d,d',e=>by
  obtain⟨h1,h2⟩:=qq (y:=d') e;refine⟨h2,fun X V h=>?_⟩;unfold afb at h1;split at h1
  .have h1:=Do h1;show V=.string d'.1;rw[<-h1];exact h
  .exact absurd h1 atQ
 |.fz τ,r,v,d,d',e=>by
  obtain⟨h1,h2⟩:=qq (y:=d') e;refine⟨h2,fun X V h=>?_⟩;unfold gFz at h1;show Cs X.w X.out (.sl τ) d'.1 [V];split at h1
  .split at h1
   .rename_i he;have h1:=Do h1;rw[<-h1];exact JM he h
   .exact absurd h1 atQ
  .have h1:=Do h1;rw[<-h1,show V=_ from h];exact⟨none,0,0,rfl,rfl,rt _,fun q=>absurd rfl q⟩
  .exact absurd h1 atQ
 |.fw,r,v,d,d',e=>by obtain⟨h1,h2⟩:=qp (y:=d') e;exact⟨h2,fun X V h=>AN h1 X V h r d'⟩
 |.bt,r,v,d,d',e=>by obtain⟨h1,h2⟩:=qp (y:=d') e;exact⟨h2,fun X V h=>AN h1 X V h r d'⟩
 |.gr,r,v,d,d',e=>by obtain⟨h1,h2⟩:=qp (y:=d') e;exact⟨h2,fun X V h=>AN h1 X V h r d'⟩
 |.ga,r,v,d,d',e=>by obtain⟨h1,h2⟩:=qp (y:=d') e;exact⟨h2,fun X V h=>AN h1 X V h r d'⟩
 |.gZ,r,v,d,d',e=>by obtain⟨h1,h2⟩:=qp (y:=d') e;exact⟨h2,fun X V h=>AN h1 X V h r d'⟩
 |.kS,r,v,d,d',e=>by obtain⟨h1,h2⟩:=qp (y:=d') e;exact⟨h2,fun X V h=>aa7 h1 h⟩
 |.fJ τ,r,v,d,d',e=>by cases e
 |.ie σ o,r,v,d,d',e=>by obtain⟨h1,h2⟩:=qq (y:=d') e;exact⟨h2,fun X V h=>aiJ h1 h⟩
 |.fE b z o,r,v,d,d',e=>by obtain⟨h1,h2⟩:=qq (y:=d') e;refine⟨h2,fun X V h=>?_⟩;have:=arn h1;subst this;exact h
 |.rp b,r,v,d,d',e=>by obtain⟨h1,h2⟩:=qq (y:=d') e;refine⟨h2,fun X V h=>?_⟩;have:=aj1 h1;subst this;exact h
 |.ptr b o,r,v,d,d',e=>by
  obtain⟨h1,h2⟩:=qp (y:=d') e;refine⟨h2,fun X V h=>?_⟩;unfold ae9 at h1;split at h1
  .split at h1
   .rename_i q;have q:=cB q;have h1:=cB h1;subst q;subst h1;exact h
   .cases h1
  .cases h1
 |.hd b τ,r,v,d,d',e=>by
  obtain⟨h1,h2⟩:=qp (y:=d') e;refine⟨h2,fun X V h=>?_⟩;unfold gHd at h1;split at h1
  .have h1:=cB h1;subst h1;exact h
  .cases h1
 |.mp b,r,v,d,d',e=>by
  obtain⟨h1,h2⟩:=qp (y:=d') e;refine⟨h2,fun X V h=>?_⟩;unfold gMp at h1;split at h1
  .have h1:=cB h1;subst h1;exact h
  .cases h1
 |.fB b,r,v,d,d',e=>by
  obtain⟨h1,h2⟩:=qp (y:=d') e;refine⟨h2,fun X V h=>?_⟩;unfold afa at h1;split at h1
  .have h1:=cB h1;subst h1;exact h
  .cases h1
 |.func f x c,r,v,d,d',e=>by
  unfold wI at e;split at e<;>try cases e
  rename_i p hp;split at e<;>try cases e
  rename_i auN h₁;obtain⟨a1,a2⟩:=uZ c r p.2 d auN h₁;obtain⟨b1,b2⟩:=uZ x (jw c r) p.1 auN d' e;refine⟨by show(jJ c r (jJ x (jw c r) d').2).2=d;rw[b1,a1],?_⟩;intro X V h;unfold Zt at hp;split at hp<;>try cases hp
  split at hp<;>cases hp;rename_i q;have q:=cB q;subst q;obtain⟨xs,cs,h1,h2,h3⟩:=h;refine⟨xs,cs,h1,b2 X _ h2,?_⟩;rw[b1];exact a2 X _ h3
 |.agg l,r,v,d,d',e=>by
  unfold wI at e;split at e<;>try cases e
  rename_i p hp;obtain⟨a1,a2⟩:=uZ l r p d d' e;refine⟨a1,?_⟩;intro X V h;unfold ae5 at hp;split at hp<;>cases hp;obtain⟨cs,h1,h2⟩:=h;exact⟨cs,h1,a2 X _ h2⟩
 |.d5 l,r,v,d,d',e=>by
  unfold wI at e;split at e<;>try cases e
  rename_i p hp;obtain⟨a1,a2⟩:=uZ l r p d d' e;refine⟨a1,?_⟩;intro X V h;unfold afc at hp;split at hp<;>cases hp;obtain⟨cs,h1,h2⟩:=h;exact⟨cs,h1,a2 X _ h2⟩
theorem uZ:∀(l:List LA) (r:List Sh) (vs:List AV) (d:TL r) (d':TL (jw l r)),nN l r vs d=some d'->(jJ l r d').2=d/\∀X cs,bT X vs cs->bT X (jJ l r d').1 cs
 |[],r,vs,d,d',e=>by
  unfold nN at e;split at e
  .have e:d=d':=Do e;exact⟨e.symm,fun X V h=>h⟩
  .cases e
 |a::l,r,vs,d,d',e=>by
  unfold nN at e;split at e<;>try cases e
  rename_i v vs;split at e<;>try cases e
  rename_i auN h₁;obtain⟨a1,a2⟩:=uZ l r vs d auN h₁;obtain⟨b1,b2⟩:=aaK a (jw l r) v auN d' e;refine⟨by show(jJ l r (qf a (jw l r) d').2).2=d;rw[b1,a1],?_⟩;rintro X cs ⟨V,t,rfl,h1,h2⟩;refine⟨V,t,rfl,b2 X V h1,?_⟩;show bT X (jJ l r (qf a (jw l r) d').2).1 t;rw[b1];exact a2 X _ h2
end
inductive LO where
 |cells (l:List LA) (ty:TypeId)
 |arr (τ:Sh) (ty:TypeId)
 |map (κ:IntKind) (σ:Sh)
 |fu (ty:TypeId)
 |fA (τ:Sh) (l:List LA) (ty:TypeId)
def amj:Sh:=.agg [.I,.I,.sl (.agg [.int .u64,.int .u64])]
def σO:LO->List Sh->List Sh
 |.cells l _,r=>jw l r|.arr τ _,r=>.sl τ::r|.map κ σ,r=>.sl (.agg [.int κ,σ])::r|.fu _,r=>.sl amj::r|.fA τ l _,r=>.int .i64::.sl τ::jw l r
def wN:(o:LO)->(r:List Sh)->TL (σO o r)->bC×TL r
 |.cells l ty,r,d=>(.cells (jJ l r d).1 ty,(jJ l r d).2)|.arr τ ty,r,d=>(.arr τ d.1 ty,d.2)|.map κ σ,r,d=>(.map κ σ d.1,d.2)|.fu ty,r,d=>(.fu d.1 ty,d.2)|.fA τ l ty,r,d=>(.fA τ (Int.toNat d.1) d.2.1 (jJ l r d.2.2).1 ty,(jJ l r d.2.2).2)
def Oj(ty:TypeId):bC->Option (List AV)
 |.cells vs ty'=>match Nat.beq ty' ty with|true=>some vs|false=>none
 |_=>none
def ae6(τ:Sh)(ty:TypeId):bC->Option (List τ.T)
 |.arr τ' L ty'=>match e:τ'.eqv τ,Nat.beq ty' ty with|true,true=>some (ma e L)|_,_=>none
 |_=>none
def alX{σ τ:Sh}(h:σ.eqv τ=true)(M:fl σ):fl τ:=Sh.ic h▸M
def ae8(κ:IntKind)(σ:Sh):bC->Option (fl σ)
 |.map κ' σ' M=>match e:σ'.eqv σ,me κ' κ with|true,true=>some (alX e M)|_,_=>none
 |_=>none
def Zu(ty:TypeId):bC->Option (List fD)
 |.fu L ty'=>match Nat.beq ty' ty with|true=>some L|false=>none
 |_=>none
def Hv(τ:Sh)(ty:TypeId):bC->Option (Nat×List τ.T×List AV)
 |.fA τ' i L vs ty'=>match e:τ'.eqv τ,Nat.beq ty' ty with|true,true=>some (i,ma e L,vs)|_,_=>none
 |_=>none
theorem aj0{τ:Sh}{ty:TypeId}{v:bC}{p:Nat×List τ.T×List AV}(h:Hv τ ty v=some p):v=.fA τ p.1 p.2.1 p.2.2 ty:=by
 unfold Hv at h;split at h<;>try cases h
 rename_i τ' i L vs ty';split at h
 .rename_i he hty;have hty:=cB hty;subst hty;have:=Sh.ic he;subst this;have h:=Do h;rw[<-h];rfl
 .cases h
def RA:(o:LO)->(r:List Sh)->bC->TL r->Option (TL (σO o r))
 |.cells l ty,r,v,d=>match Oj ty v with|some vs=>nN l r vs d|none=>none
 |.arr τ ty,r,v,d=>oO (ae6 τ ty v) d|.map κ σ,r,v,d=>oO (ae8 κ σ v) d|.fu ty,r,v,d=>oO (Zu ty v) d|.fA τ l ty,r,v,d=>match Hv τ ty v with
  |some p=>match nN l r p.2.2 d with|some d=>some (Int.ofNat p.1,p.2.1,d)|none=>none
  |none=>none
structure ai where
 T:List (Tmp×LA)
 h:List (Nat×LO)
 nx:Nat
def σT:List (Tmp×LA)->List Sh->List Sh
 |[],r=>r|p::l,r=>σA p.2 (σT l r)
def σH:List (Nat×LO)->List Sh->List Sh
 |[],r=>r|p::l,r=>σO p.2 (σH l r)
def ai.σs(l:ai):List Sh:=σT l.T (σH l.h [])
def H0(n:Nat):(l:List (Tmp×LA))->(r:List Sh)->TL (σT l r)->Option (Tr AV×TL r)
 |[],r,d=>some (.nil,d)|p::l,r,d=>match H0 n l r (qf p.2 (σT l r) d).2 with
  |some (T,d')=>match j7 n T (some p.1) (qf p.2 (σT l r) d).1 with|some T=>some (T,d')|none=>none
  |none=>none
def zN:(l:List (Nat×LO))->(r:List Sh)->TL (σH l r)->Option (Tr bC)
 |[],r,d=>some .nil|p::l,r,d=>match zN l r (wN p.2 (σH l r) d).2 with|some t=>Tr.set FT t p.1 (some (wN p.2 (σH l r) d).1)|none=>none
def sQ(T:Tr AV):(l:List (Tmp×LA))->(r:List Sh)->TL r->Option (TL (σT l r))
 |[],r,d=>some d|p::l,r,d=>match sQ T l r d with
  |some d=>match T.get p.1 with|some v=>wI p.2 (σT l r) v d|none=>none
  |none=>none
def Hw(t:Tr bC):(l:List (Nat×LO))->(r:List Sh)->TL r->Option (TL (σH l r))
 |[],r,d=>some d|p::l,r,d=>match Hw t l r d with
  |some d=>match t.get p.1 with|some v=>RA p.2 (σH l r) v d|none=>none
  |none=>none
def ai.put(n:Nat)(l:ai)(d:TL l.σs):Option St:=match H0 n l.T (σH l.h []) d with
 |some (T,d)=>match zN l.h [] d with|some t=>some ⟨T,⟨t,l.nx⟩⟩|none=>none
 |none=>none
def ai.get(l:ai)(st:St):Option (TL l.σs):=match Hw st.h.tr l.h [] ()with|some d=>sQ st.T l.T (σH l.h []) d|none=>none
theorem aaI{n:Nat}{auC:Tr AV}:∀{l:List (Tmp×LA)}{r:List Sh}{d:TL r}{d':TL (σT l r)},sQ auC l r d=some d'->∀{T:Tr AV}{auO:TL r},H0 n l r d'=some (T,auO)->auO=d /\
  ∀t v',T.get t=some v'->∃v,auC.get t=some v/\∀X V,Rel X v V->Rel X v' V
 |[],r,d,d',e,T,auO,h=>by have e:d=d':=Do e;have h:(Tr.nil,d')=(T,auO):=Do h;have h1:Tr.nil=T:=PP Prod.fst h;have h2:d'=auO:=PP Prod.snd h;subst h1;exact⟨h2.symm.trans e.symm,fun t v' q=>by simp[Tr.get]at q⟩|p::l,r,d,d',e,T,auO,h=>by
  simp only[sQ]at e;split at e<;>try cases e
  rename_i auN h₁;split at e<;>try cases e
  rename_i v hv;obtain⟨a1,a2⟩:=aaK _ _ _ _ _ e;simp only[H0]at h;split at h<;>try cases h
  rename_i T₁ auP hp;rw[a1]at hp;obtain⟨b1,b2⟩:=aaI h₁ hp;split at h<;>cases h;rename_i hs;refine⟨b1,?_⟩;intro t v' q;rw[rz hs t]at q
  grind
def vX(o o':bC):Prop:=(∀X l,jA X l o->jA X l o')/\∀n,o'.row=some n->o.row=some n
theorem aqP(τ:Sh)(l:List LA)(ty:TypeId)(r:List Sh)(v:bC)(d:TL r)(d':TL (σO (.fA τ l ty) r))(e:RA (.fA τ l ty) r v d=some d'):(wN (.fA τ l ty) r d').2=d/\vX v (wN (.fA τ l ty) r d').1:=by
 have e2:(match Hv τ ty v with
  |some p=>match nN l r p.2.2 d with|some d=>some (Int.ofNat p.1,p.2.1,d)|none=>none
  |none=>none)=some d':=e
 split at e2<;>try cases e2
 rename_i p hv;split at e2<;>try cases e2
 rename_i auN h₁;obtain⟨a1,a2⟩:=uZ _ _ _ _ _ h₁;have hv:=aj0 hv;subst hv;refine⟨a1,?_,fun n q=>q⟩;rintro X l' ⟨b,c,pre,mid,post,tail,h0,h1,h2,h3,h4⟩;exact⟨b,c,pre,mid,post,tail,h0,h1,h2,a2 X mid h3,h4⟩
theorem aiL:∀(o:LO) (r:List Sh) (v:bC) (d:TL r) (d':TL (σO o r)),RA o r v d=some d'->(wN o r d').2=d/\vX v (wN o r d').1
 |.cells l ty,r,v,d,d',e=>by
  have e2:(match Oj ty v with|some vs=>nN l r vs d|none=>none)=some d':=e;split at e2<;>try cases e2
  rename_i vs hv;unfold Oj at hv;split at hv<;>try cases hv
  split at hv<;>cases hv;rename_i h;have h:=cB h;subst h;obtain⟨a1,a2⟩:=uZ _ _ _ _ _ e2;refine⟨a1,?_,fun n q=>by cases q⟩;rintro X l' ⟨b,c,cs,h1,h2,h3⟩;exact⟨b,c,cs,h1,h2,a2 X cs h3⟩
 |.arr τ ty,r,v,d,d',e=>by
  obtain⟨h1,h2⟩:=qq (y:=d') e;refine⟨h2,?_⟩;show vX v (.arr τ d'.1 ty);unfold ae6 at h1;split at h1<;>try cases h1
  rename_i τ' L ty';split at h1
  .rename_i he hty;have h1:=Do h1;rw[<-h1];have hty:=cB hty;subst hty;have:=Sh.ic he;subst this;exact⟨fun X l h=>h,fun n q=>q⟩
  .cases h1
 |.map κ σ,r,v,d,d',e=>by
  obtain⟨h1,h2⟩:=qq (y:=d') e;refine⟨h2,?_⟩;show vX v (.map κ σ d'.1);unfold ae8 at h1;split at h1<;>try cases h1
  rename_i κ' σ' M;split at h1
  .rename_i he hk;have h1:=Do h1;rw[<-h1];have hk:=oo hk;subst hk;have:=Sh.ic he;subst this;exact⟨fun X l h=>h,fun n q=>by cases q⟩
  .cases h1
 |.fu ty,r,v,d,d',e=>by
  obtain⟨h1,h2⟩:=qq (y:=d') e;refine⟨h2,?_⟩;show vX v (.fu d'.1 ty);unfold Zu at h1;split at h1<;>try cases h1
  rename_i L ty';split at h1
  .rename_i hty;have h1:=Do h1;rw[<-h1];have hty:=cB hty;subst hty;exact⟨fun X l h=>h,fun n q=>by cases q⟩
  .cases h1
 |.fA τ l ty,r,v,d,d',e=>aqP τ l ty r v d d' e
theorem aaJ{avS:Tr bC}:∀{l:List (Nat×LO)}{r:List Sh}{d:TL r}{d':TL (σH l r)},Hw avS l r d=some d'->∀{t:Tr bC},zN l r d'=some t ->
  ∀i o',t.get i=some o'->∃o,avS.get i=some o/\vX o o'
 |[],r,d,d',e,t,h=>by simp only[zN,cM]at h;subst h;exact fun i o' q=>by simp[Tr.get]at q|p::l,r,d,d',e,t,h=>by
  simp only[Hw]at e;split at e<;>try cases e
  rename_i auN h₁;split at e<;>try cases e
  rename_i v hv;obtain⟨a1,a2⟩:=aiL _ _ _ _ _ e;simp only[zN]at h;split at h<;>try cases h
  rename_i avT hp;rw[a1]at hp;have ih:=aaJ h₁ hp;intro i o' q;rw[Tr.dp _ _ _ _ _ h i]at q
  grind
