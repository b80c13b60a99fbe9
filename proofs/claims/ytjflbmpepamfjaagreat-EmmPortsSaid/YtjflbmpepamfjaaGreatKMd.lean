import Derived.Test.YtjflbmpepamfjaaGreatKMc
set_option linter.all false
section
namespace Go.Proofs.YtjflbmpepamfjaaGreat.V
open Go Go.RowKit
open Go.Proofs.YtjflbmpepamfjaaGreat.Ev (Tr Tr.bM nth ct)
structure St where
 T:Tr AV
 h:Hp
structure ig(X:Cx)(n:Nat)(T:Tr AV)(a:Act):Prop where
 size:a.tmps.size=n
 defers:a.defers=[]
 get:∀t v,T.get t=some v->∃V,a.tmps[t]?=some V/\Rel X v V
structure RF(X:Cx)(n:Nat)(st:St)(a:Act):Prop where
 h:X.h=st.h
 T:ig X n st.T a
 H:ab X
def dG(n:Nat)(T:Tr AV)(d:Option Tmp)(v:AV):Option (Tr AV):=match d with|none=>some T|some t=>match Nat.blt t n with|true=>Tr.set FT T t (some v)|false=>none
variable{a:Act}{T:Tr AV}{n:Nat}{X:Cx}
theorem ig.ext{X':Cx}(R:ig X n T a)(E:gw X X'):ig X' n T a:=⟨R.size,R.defers,fun t v h=>let⟨V,h1,h2⟩:=R.get t v h;⟨V,h1,h2.ext E⟩⟩
variable{d:Option Tmp}{v:AV}{T':Tr AV}
theorem lE(h:dG n T d v=some T'):∀t,T'.get t=if d=some t then some v else T.get t:=by
 intro t;unfold dG at h;split at h
 .simp at h;subst h;simp
 .rename_i x;split at h<;>try cases h
  rw[Tr.bM _ _ _ _ _ h t]
  grind
theorem G7{t:Tmp}(h:dG n T (some t) v=some T'):t<n:=by
 simp only[dG]at h;split at h<;>try cases h
 simp_all
theorem ig.put{V:Value}(R:ig X n T a)(hv:Rel X v V)(h:dG n T d v=some T'):ig X n T' (a.put d V):=by
 have hg:=lE h;cases d with
 |none=>refine⟨R.size,R.defers,?_⟩;intro t u hu;rw[hg t]at hu;simp at hu;exact R.get t u hu|some t=>
  have hlt:=G7 h;refine⟨by simp[Act.put,R.size],by simp[Act.put,R.defers],?_⟩;intro u x hu;rw[hg u]at hu;simp only[Act.put,IR];by_cases q:t=u
  .subst q;simp at hu;subst hu;exact⟨V,by simp[R.size,hlt],hv⟩
  .rw[rx (by grind)]at hu;rw[rx q];exact R.get u x hu
def eF(h h':Hp):Prop:=∀b o,h.tr.get b=some o->h'.tr.get b=some o
theorem eF.refl(h:Hp):eF h h:=fun _ _ q=>q
theorem eF.trans{a b c:Hp}(x:eF a b)(y:eF b c):eF a c:=fun i o q=>y i o (x i o q)
abbrev iB(R:Type):=FuncId->List AV->Hp->(Bool->AV->Hp->Option R)->Option R
def zF(P:Program)(f:FuncId)(vs:List AV)(h:Hp)(v:AV)(h':Hp):Prop:=
 (∃fn c,P.funcs[f]?=some fn/\(fn.name == "runtime.NumGoroutine")=false/\fn.body=some c) /\
 ∀X args,X.h=h->ab X->bm X vs args->Calls P f (List.toArray args) X.w fun e w'=>∃X' V,e=.returned V/\X'.w=w'/\X'.h=h'/\ab X'/\aH X X'/\Rel X' v V
def db(P:Program){R:Type}(call:iB R):Prop:=∀f vs h k r,call f vs h k=some r->∃ch v h',k ch v h'=some r/\(ch=false->eF h h')/\zF P f vs h v h'
def aq{R:Type}(g:Bool)(r:Option R):Option R:=match g with|true=>r|false=>none
def br{R:Type}(b:Bool)(x y:Option R):Option R:=match b with|true=>x|false=>y
theorem pW{R:Type}{g:Bool}{x:Option R}{r:R}(h:aq g x=some r):g=true/\x=some r:=by
 cases g
 .cases h
 .exact⟨rfl,h⟩
theorem FM{R:Type}{b:Bool}{x y:Option R}{r:R}(h:br b x y=some r):(b=true/\x=some r)\/(b=false/\y=some r):=by
 cases b
 .exact .inr ⟨rfl,h⟩
 .exact .inl ⟨rfl,h⟩
def agm:Op->Bool|.buildSlice _ _ _=>true|_=>false
def post(sh:TypeId->Option Sh)(n:Nat)(o:Oper)(st:St):Option St:=match agm o.op with
 |false=>some st|true=>match sh 1000000000 with
  |none=>some st|some _=>match o.dst with
   |none=>some st|some t=>match st.T.get t with
    |some (.hd b τ)=>match rX true st.h (.sl τ) (.hd b τ)with
     |some (d,h')=>match dG n st.T (some t) (.fz τ d)with|some T=>some ⟨T,h'⟩|none=>none
     |none=>none
    |_=>some st
variable{st:St}{o:Oper}
theorem Zh{sh:TypeId->Option Sh}{st':St}(h:post sh n o st=some st')(R:RF X n st a):∃X',X'.w=X.w/\RF X' n st' a/\aH X X':=by
 have triv:∀{s:St},some s=some st'->s=st->∃X',X'.w=X.w/\RF X' n st' a/\aH X X':=by intro s e q;cases e;subst q;exact⟨X,rfl,R,aH.refl X⟩
 unfold post at h;split at h
 .exact triv h rfl
 split at h
 .exact triv h rfl
 split at h
 .exact triv h rfl
 rename_i t hdt;split at h
 .rename_i b τ hg;split at h<;>try cases h
  rename_i d h' hf;split at h<;>cases h;rename_i T hT;obtain⟨V,hV,RV⟩:=R.T.get t _ hg;rw[<-R.h]at hf;obtain⟨Fz,hd⟩:=Hr R.H hf RV;refine⟨⟨X.s,h',X.w,X.A⟩,rfl,⟨rfl,?_,Fz.H⟩,Fz.E⟩;have R':=R.T.ext (Fz.E.ei R.H);refine⟨R'.size,R'.defers,?_⟩;intro u x hu;rw[lE hT u]at hu;by_cases q:t=u
  .subst q;rw[BY rfl]at hu;cases hu;exact⟨V,hV,D9 (σ:=.sl τ) hd⟩
  .rw[rx (by grind)]at hu;exact R'.get u x hu
 .exact triv h rfl
section
variable{R:Type}(P:Program)(sh:TypeId->Option Sh)(call:iB R)
def Wt(o:Oper):Bool:=match o.op with|.assign _=>true|_=>false
def Ii(T:Tr AV)(h:Hp)(o:Oper)(k:Bool->AV->Hp->Option R):Option R:=match pU T o with
 |some (f,vs)=>call f vs h k|none=>match qx P sh T h o with
  |some (g,v,h')=>aq g (k (!Wt o) v h')|none=>match ja P sh T h h.next o.op with
   |some (g,ob,v)=>match Tr.set FT h.tr h.next (some ob)with|some tr=>aq g (k true v ⟨tr,h.next+1⟩)|none=>none
   |none=>match jz P T h o with|some (g,v)=>aq g (k false v h)|none=>none
def uQ(ops:Array Oper)(T:Tr AV)(o:Oper)(k:Bool->Tr AV->Option R):Option R:=match o.guard with
 |none=>k true T|some (j,want)=>match nth ops.toList j with
  |some oj=>match oj.dst with
   |some t=>match T.get t with
    |some v=>match v with
     |.bool b=>br b (match Tr.set FT T t (some (.bool true))with|some T=>k want T|none=>none) (match Tr.set FT T t (some (.bool false))with|some T=>k (!want) T|none=>none)
     |.bB []=>k false T|_=>none
    |none=>none
   |none=>none
  |none=>none
def Aj(n:Nat)(ops:Array Oper)(o:Oper)(st:St)(k:Bool->St->Option R):Option R:=uQ ops st.T o fun b T=>match b with
 |true=>Ii P sh call T st.h o fun ch v h'=>match dG n T o.dst v with|some T=>k ch ⟨T,h'⟩|none=>none
 |false=>match dG n T o.dst (.bB [])with|some T=>k false ⟨T,st.h⟩|none=>none
def Hg(n:Nat)(ops:Array Oper)(o:Oper)(st:St)(k:St->Option R):Option R:=Aj P sh call n ops o st fun _ st=>match post sh n o st with|some st=>k st|none=>none
def Ay(n:Nat)(ops:Array Oper):List Oper->St->(St->Option R)->Option R
 |[],st,k=>k st|o::l,st,k=>Hg P sh call n ops o st fun st=>Ay n ops l st k
end
def zE(P:Program)(T:Tr AV)(h:Hp)(o:Oper)(v:AV)(h':Hp):Prop:=∀X a,X.h=h->ab X->gF X T a o.op->∀(K:Act->World->Prop) (Q:Exit->Act->World->Prop),
 (∀X' V,aH X X'->ab X'->X'.h=h'->Rel X' v V->K (a.put o.dst V) X'.w)->o.wp P a X.w K Q
theorem as8{R:Type}{P:Program}{sh:TypeId->Option Sh}{call:iB R}(hc:db P call){h:Hp}{k:Bool->AV->Hp->Option R}{r:R}(e:Ii P sh call T h o k=some r) :
  ∃ch v h',k ch v h'=some r/\(ch=false->eF h h')/\zE P T h o v h':=by
 unfold Ii at e;split at e
 .rename_i f vs hw;obtain⟨ch,v,h',hk,hch,⟨fn,c,hf,hn,hb⟩,hcall⟩:=hc f vs h k r e;refine⟨ch,v,h',hk,hch,?_⟩;intro X a hX H hO K Q hK;obtain⟨Vs,hrun,hR⟩:=DQ hw hO hf hn hb X.w;unfold Oper.wp;rw[hrun,Oper.upon_enter];refine(hcall X Vs hX H hR).mono ?_
  grind
 .split at e
  .rename_i g v h' hr;obtain⟨hg,hk⟩:=pW e;refine⟨_,v,h',hk,?_,?_⟩
   .intro hs;unfold Wt at hs;split at hs
    .rename_i x ho;unfold qx at hr;rw[ho]at hr;simp only[]at hr;split at hr<;>cases hr;exact eF.refl h
    .cases hs
   intro X a hX H hO K Q hK;subst hX;obtain⟨X',n,V,hrun,hgv,h1,h2,h3,h4⟩:=Eh H hr hg hO;unfold Oper.wp;rw[hrun];rcases hgv with rfl|⟨rfl,rfl⟩
   .exact hK X' V h3 h2 h1 h4
   .exact hK X' undef h3 h2 h1 h4
  .split at e
   .rename_i g ob v ha;split at e<;>try cases e
    rename_i tr ht;obtain⟨hg,hk⟩:=pW e;refine⟨_,v,_,hk,(fun q=>by cases q),?_⟩;intro X a hX H hO K Q hK;subst hX;obtain⟨c,ob',V,hrun,hm⟩:=yj H ha hg hO;have E:=Wh (c:=c) (ob:=ob') H ht;have hg:=Tr.bM FT X.h.tr X.h.next _ tr ht;have M:Made X ⟨aW X.s X.h.next (.at X.w.heap.size c),⟨tr,X.h.next+1⟩,{ X.w with heap:=X.w.heap.push ob' },X.A⟩ X.h.next c ob ob':=⟨E.ei H,rfl,cU _ _ _,by show tr.get _=_;rw[hg,BY rfl]⟩;obtain⟨q1,q2⟩:=hm _ M;unfold Oper.wp;rw[hrun];exact hK _ V E (H.new ht q1) rfl q2
   .split at e<;>try cases e
    rename_i g v hr;obtain⟨hg,hk⟩:=pW e;refine⟨_,v,h,hk,(fun _=>eF.refl h),?_⟩;intro X a hX H hO K Q hK;subst hX;obtain⟨V,hrun,hR⟩:=sG H hr hg hO;unfold Oper.wp;rw[hrun];exact hK X V (aH.refl X) H rfl hR
structure Az(ops:Array Oper)(T:Tr AV)(o:Oper)(b:Bool)(T':Tr AV):Prop where
 keep:∀X n a,ig X n T a->ig X n T' a
 is:∀(X:Cx) (a:Act),(∀j w oj t v,o.guard=some (j,w)->ops[j]?=some oj->oj.dst=some t->T.get t=some v->∃V,a.tmps[t]?=some V/\Rel X v V)->Region.wanted o (yielded ops a.tmps)=b
 get:∀t v,T'.get t=some v->T.get t=some v
 get':∀t v,T.get t=some v->T'.get t=some v
variable{ops:Array Oper}
theorem ase{R:Type}{k:Bool->Tr AV->Option R}{r:R}(e:uQ ops T o k=some r):∃b T',k b T'=some r/\Az ops T o b T':=by
 unfold uQ at e;split at e
 .rename_i hg;exact⟨true,T,e,fun _ _ _ h=>h,fun X a _=>by unfold Region.wanted;rw[hg],fun _ _ h=>h,fun _ _ h=>h⟩
 .rename_i j want hg;split at e<;>try cases e
  rename_i oj hj;split at e<;>try cases e
  rename_i t ht;split at e<;>try cases e
  rename_i v hv;have hj':ops[j]?=some oj:=by rw[ct]at hj;simpa using hj
  have same:∀{b:Bool}{T':Tr AV},v=.bool b->Tr.set FT T t (some (.bool b))=some T'->∀u,T'.get u=T.get u:=by
   intro b T' hb hs u;rw[Tr.bM _ _ _ _ _ hs u]
   grind
  split at e
  .rename_i b;rcases FM e with⟨rfl,e2⟩|⟨rfl,e2⟩
   .clear e;have e:=e2;split at e<;>try cases e
    rename_i T' hset;have hs:=same (b:=true) rfl hset;refine⟨want,T',e,fun X n a R=>⟨R.size,R.defers,fun u x hu=>R.get u x (by rw[<-hs u];exact hu)⟩,?_,fun u x hu=>by rw[<-hs u];exact hu,fun u x hu=>by rw[hs u];exact hu⟩;intro X a R;obtain⟨V,h1,h2⟩:=R j want oj t _ hg hj' ht hv;rw[show V=_ from h2]at h1;unfold Region.wanted;rw[hg];cases want<;>simp[yielded,hj',ht,h1]
   .clear e;have e:=e2;split at e<;>try cases e
    rename_i T' hset;have hs:=same (b:=false) rfl hset;refine⟨!want,T',e,fun X n a R=>⟨R.size,R.defers,fun u x hu=>R.get u x (by rw[<-hs u];exact hu)⟩,?_,fun u x hu=>by rw[<-hs u];exact hu,fun u x hu=>by rw[hs u];exact hu⟩;intro X a R;obtain⟨V,h1,h2⟩:=R j want oj t _ hg hj' ht hv;rw[show V=_ from h2]at h1;unfold Region.wanted;rw[hg];cases want<;>simp[yielded,hj',ht,h1]
  .refine⟨false,T,e,fun _ _ _ h=>h,?_,fun _ _ h=>h,fun _ _ h=>h⟩;intro X a R;obtain⟨V,h1,cs,rfl,h2⟩:=R j want oj t _ hg hj' ht hv;unfold Region.wanted;rw[hg];simp[yielded,hj',ht,h1]
  .cases e
def ag1(P:Program)(n:Nat)(ops:Array Oper)(i:Nat)(st st':St):Prop:=∀X a,RF X n st a->∀(K:Act->World->Prop) (Q:Exit->Act->World->Prop),
 (∀X' a',RF X' n st' a'->aH X X'->K a' X'.w)->wpOp P ops Q i K a X.w
theorem Zyu{R:Type}{P:Program}{sh:TypeId->Option Sh}{call:iB R}(hc:db P call){k:Bool->St->Option R}{r:R}
  (e:Aj P sh call n ops o st k=some r):∃ch st' b T v,k ch st'=some r/\(ch=false->eF st.h st'.h)/\Az ops st.T o b T/\dG n T o.dst v=some st'.T /\
   ((b=true/\zE P T st.h o v st'.h)\/(b=false/\v=.bB []/\st'.h=st.h)):=by
 unfold Aj at e;obtain⟨b,T,e,W⟩:=ase e;cases b with
 |true=>
  simp only[]at e;obtain⟨ch,v,h',e,hch,A⟩:=as8 hc e
  grind
 |false=>
  simp only[]at e;split at e<;>try cases e
  rename_i T' hT;exact⟨false,⟨T',st.h⟩,false,T,.bB [],e,fun _=>eF.refl _,W,hT,.inr ⟨rfl,rfl,rfl⟩⟩
theorem ass{R:Type}{P:Program}{sh:TypeId->Option Sh}{call:iB R}(hc:db P call){i:Nat}{k:St->Option R}{r:R}
  (e:Hg P sh call n ops o st k=some r) (hi:ops[i]?=some o):∃st',k st'=some r/\ag1 P n ops i st st':=by
 unfold Hg at e;obtain⟨ch,st',b,T,v,e,_,W,hT,A⟩:=Zyu hc e;split at e<;>try cases e
 rename_i aIu hp;refine⟨aIu,e,?_⟩;intro X a RR K Q hK;have R':=W.keep X n a RR.T;unfold wpOp;rw[hi];simp only[];rw[W.is X a (fun j w oj t v _ _ _ hv=>RR.T.get t v hv)];rcases A with⟨rfl,A⟩|⟨rfl,rfl,hh⟩
 .simp only[aFx];left;refine A X a RR.h RR.H (sU fun t _ u hu=>R'.get t u hu) K Q ?_;intro X' V E H' hh hv;obtain⟨X'',hw,R'',E''⟩:=Zh hp (X:=X') ⟨hh,(R'.ext (E.ei RR.H)).put hv hT,H'⟩;rw[<-hw];exact hK X'' _ R'' (E.trans E'')
 .simp only[GE,aFk];obtain⟨X'',hw,R'',E''⟩:=Zh hp (X:=X) ⟨by rw[hh];exact RR.h,R'.put (v:=.bB []) (V:=undef) ⟨[],rfl,rfl⟩ hT,RR.H⟩
  grind
theorem U9{R:Type}{P:Program}{sh:TypeId->Option Sh}{call:iB R}(hc:db P call){n:Nat}{ops:Array Oper}:∀(l:List Oper) (j:Nat) (st:St) (k:St->Option R) (r:R),Ay P sh call n ops l st k=some r ->
  (∀i,l[i]?=ops[j+i]?)->∃st',k st'=some r/\∀X a,RF X n st a->∀Q:Exit->Act->World->Prop,(∀X' a',RF X' n st' a'->aH X X'->Q .normal a' X'.w)->wpOps P ops Q (List.range' j l.length) a X.w
 |[],j,st,k,r,e,_=>⟨st,e,fun X a RR Q hQ=>hQ X a RR (aH.refl X)⟩|o::l,j,st,k,r,e,hl=>by
  simp only[Ay]at e;obtain⟨aIt,e,S⟩:=ass hc e (i:=j) (by have:=hl 0;simpa using this.symm);obtain⟨st',hk,rest⟩:=U9 hc l (j+1) aIt k r e (by
   intro i;have:=hl (i+1)
   grind)
  refine⟨st',hk,?_⟩;intro X a RR Q hQ;rw[cF,List.range'_succ,wpOps_cons];refine S X a RR _ _ ?_;intro X' a' R' E';exact rest X' a' R' Q (fun X'' a'' R'' E''=>hQ X'' a'' R'' (E'.trans E''))
end Go.Proofs.YtjflbmpepamfjaaGreat.V
end
section
namespace Go.Proofs.YtjflbmpepamfjaaGreat.Ev
open Go Go.RowKit
structure St where
 T:Tr AV
 h:Hp
structure ig(s:Sg)(n:Nat)(T:Tr AV)(nx:Nat)(a:Act):Prop where
 size:a.tmps.size=n
 defers:a.defers=[]
 get:∀t v,T.get t=some v->a.tmps[t]?=some (ah s v)
 ws:∀t v,T.get t=some v->ws nx v=true
def dG(n nx:Nat)(T:Tr AV)(d:Option Tmp)(v:AV):Option (Tr AV):=match d with|none=>some T|some t=>match Nat.blt t n,ws nx v with|true,true=>Tr.set FT T t (some v)|_,_=>none
variable{nx:Nat}{v:AV}{T:Tr AV}{T':Tr AV}{s':Sg}{d:Option Tmp}{s:Sg}{nx':Nat}
theorem ig.put{n:Nat}{a:Act}(R:ig s n T nx a)(hs:∀i,i<nx->s' i=s i)(hn:nx<=nx')(h:dG n nx' T d v=some T') :
  ig s' n T' nx' (a.put d (ah s' v)):=by
 have old:∀t v,T.get t=some v->a.tmps[t]?=some (ah s' v):=fun t v ht=>by rw[sH hs v (R.ws t v ht)];exact R.get t v ht
 unfold dG at h;split at h
 .simp at h;subst h;exact⟨R.size,R.defers,old,fun t v ht=>pO hn v (R.ws t v ht)⟩
 .rename_i t;split at h<;>try cases h
  rename_i hlt hw;rw[acl]at hlt;have hg:=Tr.bM _ _ _ _ _ h;refine⟨by simp[Act.put,R.size],by simp[Act.put,R.defers],?_,?_⟩
  .intro u x hu;rw[hg u]at hu;simp only[Act.put,IR];by_cases q:u=t
   .subst q;simp at hu;subst hu;simp[R.size,hlt]
   grind
  .intro u x hu;rw[hg u]at hu;by_cases q:u=t
   .rw[BY q]at hu;grind
   .rw[rx q]at hu;exact pO hn x (R.ws u x hu)
def sO(ops:Array Oper)(T:Tr AV)(o:Oper):Option Bool:=match o.guard with
 |none=>some true|some (j,want)=>match nth ops.toList j with
  |some oj=>match oj.dst with
   |some t=>match T.get t with
    |some v=>match v with
     |.bool b=>match b,want with|true,true=>some true|false,false=>some true|_,_=>some false
     |_=>some false
    |none=>none
   |none=>none
  |none=>none
variable{b:Bool}{o:Oper}
theorem DG{ops:Array Oper}(h:sO ops T o=some b){a:Act}
  (R:∀j w oj t v,o.guard=some (j,w)->ops[j]?=some oj->oj.dst=some t->T.get t=some v->a.tmps[t]?=some (ah s v)):Region.wanted o (yielded ops a.tmps)=b:=by
 unfold sO at h;unfold Region.wanted;split at h
 .rename_i hg;grind
 .rename_i j want hg;split at h<;>try cases h
  rename_i oj hj;split at h<;>try cases h
  rename_i t ht;split at h<;>try cases h
  rename_i v hv;have hj':ops[j]?=some oj:=by rw[ct]at hj;simpa using hj
  have:=R j want oj t v hg hj' ht hv;rw[hg];simp only[yielded,hj',Option.bind_some,ht,this];cases v with
  |bool c=>simp only[ah];cases c<;>cases want<;>simp at h<;>subst h<;>rfl
  |_=>simp at h;subst h;rfl
abbrev ir:=Sg->Prop
structure fB(F:ir)(h:Hp)(w:World)(F':ir)(h':Hp)(w':World):Prop where
 to:∀s,F s->∃s',F' s'/\Ext s h w s' h' w'
 from_:∀s',F' s'->∃s,F s/\Ext s h w s' h' w'
theorem fB.refl(F:ir)(h:Hp)(w:World):fB F h w F h w:=⟨fun s hs=>⟨s,hs,Ext.refl _ _ _⟩,fun s hs=>⟨s,hs,Ext.refl _ _ _⟩⟩
variable{h:Hp}{h':Hp}{w':World}{F':ir}
theorem fB.trans{F F'':ir}{h'':Hp}{w w'':World}(a:fB F h w F' h' w')(b:fB F' h' w' F'' h'' w''):fB F h w F'' h'' w'':=by
 constructor
 .intro s hs;obtain⟨s',hs',e⟩:=a.to s hs;obtain⟨s'',hs'',e'⟩:=b.to s' hs';exact⟨s'',hs'',e.trans e'⟩
 .intro s'' hs'';obtain⟨s',hs',e'⟩:=b.from_ s'' hs'';obtain⟨s,hs,e⟩:=a.from_ s' hs';exact⟨s,hs,e.trans e'⟩
structure RF(F:ir)(n:Nat)(T:Tr AV)(h:Hp)(a:Act)(w:World):Prop where
 ne:∃s,F s
 T:∀s,F s->ig s n T h.next a
 H:∀s,F s->ab s h w
abbrev Cl:=FuncId->List AV->Hp->Option (AV×Hp)
def db(P:Program)(call:Cl):Prop:=∀f vs h v h',call f vs h=some (v,h')->(∃fn c,P.funcs[f]?=some fn/\(fn.name == "runtime.NumGoroutine")=false/\fn.body=some c) /\
 ∀(F:ir) w args,(∃s,F s)->(∀s,F s->ab s h w/\(aG s vs).toArray=args)->cV h.next vs=true ->
  Calls P f args w fun e w'=>∃F' V,e=.returned V/\fB F h w F' h' w'/\∀s',F' s'->ab s' h' w'/\ah s' v=V
def FQ(P:Program)(call:Cl)(T:Tr AV)(h:Hp)(o:Oper):Option (AV×Hp):=match pU T o with
 |some (f,vs)=>call f vs h|none=>match qx P T h o with
  |some r=>some r|none=>match ja P T h.next o.op with
   |some (ob,v)=>match Tr.set FT h.tr h.next (some ob)with|some tr=>some (v,⟨tr,h.next+1⟩)|none=>none
   |none=>match jz P T h o with|some v=>some (v,h)|none=>none
variable{call:Cl}{K:Act->World->Prop}{P:Program}{Q:Exit->Act->World->Prop}
theorem VT(hc:db P call)(e:FQ P call T h o=some (v,h')){F:ir}{a:Act}{w:World}(hne:∃s,F s)
  (hO:∀s,F s->gF s T a o.op) (hT:∀t v,T.get t=some v->ws h.next v=true) (H:∀s,F s->ab s h w) 
  (hK:∀F' w' V,fB F h w F' h' w'->(∀s',F' s'->ab s' h' w'/\ah s' v=V)->K (a.put o.dst V) w'):o.wp P a w K Q:=by
 obtain⟨aIw,aHK⟩:=hne;unfold FQ at e;unfold Oper.wp;split at e
 .rename_i f vs hw;obtain⟨⟨fn,c,hf,hn,hb⟩,hcall⟩:=hc f vs h v h' e;have aHT:=DQ hw (hO aIw aHK) hf hn hb w;rw[aHT,Oper.upon_enter];refine(hcall F w (aG aIw vs).toArray ⟨aIw,aHK⟩ ?_ (as4 hw hT)).mono ?_
  .intro s hs;refine⟨H s hs,?_⟩;have h₁:=DQ hw (hO s hs) hf hn hb w
   grind
  .rintro e' w' ⟨F',V,rfl,hE,hF⟩;exact hK F' w' V hE hF
 .split at e
  .rename_i r hr;simp at e;subst e;obtain⟨n,aIx,w',hrun,hg,hH,hE⟩:=Eh hr (hO aIw aHK) hT (H aIw aHK);have all:∀s,F s->∃s',vv (ah s' v) n/\ab s' h' w'/\Ext s h w s' h' w':=by
    intro s hs;obtain⟨aIh,s',aIM,aHH,aHv,aHo,aHm⟩:=Eh hr (hO s hs) hT (H s hs)
    grind
   rw[hrun];have hFE:fB F h w (fun s'=>∃s,F s/\vv (ah s' v) n/\ab s' h' w'/\Ext s h w s' h' w') h' w':=⟨fun s hs=>let⟨s',q⟩:=all s hs;⟨s',⟨s,hs,q⟩,q.2.2⟩,fun s' ⟨s,hs,q⟩=>⟨s,hs,q.2.2⟩⟩;rcases hg with rfl|⟨rfl,hu⟩
   .refine hK _ w' (ah aIx v) hFE ?_;rintro s' ⟨s,hs,hg',hH',_⟩;refine⟨hH',?_⟩;rcases hg' with q|⟨q,_⟩
    .simp only[aGj]at q;exact q.symm
    .cases q
   .refine hK _ w' undef hFE ?_;rintro s' ⟨s,hs,hg',hH',_⟩;refine⟨hH',?_⟩;rcases hg' with q|⟨_,q⟩
    .cases q
    .exact q
  .split at e
   .rename_i ob v' ha;split at e<;>try cases e
    rename_i tr ht;obtain⟨ob',hrun,hor,hwo,hwv⟩:=yj ha (hO aIw aHK) (fun x hx u hu=>oI hT hu) w;have all:∀s,F s->ah (aW s h.next (w.heap.size,0)) v=ah (aW aIw h.next (w.heap.size,0)) v/\ab (aW s h.next (w.heap.size,0)) ⟨tr,h.next+1⟩ { w with heap:=w.heap.push ob' } /\
      Ext s h w (aW s h.next (w.heap.size,0)) ⟨tr,h.next+1⟩ { w with heap:=w.heap.push ob' }:=by
     intro s hs;obtain⟨aIj,aHH,aHE,aHR,_⟩:=yj ha (hO s hs) (fun x hx u hu=>oI hT hu) w;rw[hrun]at aHH;simp only[WF,aGj,World.mk.injEq,Array.push_eq_push,aFa,aGk]at aHH;obtain⟨q1,rfl⟩:=aHH;have hn:=(H s hs).new (c:=0) aHE aHR ht;exact⟨q1.symm,hn⟩
    rw[hrun];refine hK (fun s'=>∃s,F s/\s'=aW s h.next (w.heap.size,0)) _ (ah (aW aIw h.next (w.heap.size,0)) v) ⟨?_,?_⟩ ?_
    .exact fun s hs=>⟨_,⟨s,hs,rfl⟩,(all s hs).2.2⟩
    .rintro s' ⟨s,hs,rfl⟩;exact⟨s,hs,(all s hs).2.2⟩
    .rintro s' ⟨s,hs,rfl⟩;exact⟨(all s hs).2.1,(all s hs).1⟩
   .split at e<;>try cases e
    rename_i hr;have aHT:=sG hr (hO aIw aHK) (H aIw aHK);rw[aHT];refine hK F w (ah aIw v) (fB.refl _ _ _) ?_;intro s hs;refine⟨H s hs,?_⟩;have h₁:=sG hr (hO s hs) (H s hs)
    grind
variable{V:Value}
theorem RF.put{F:ir}{n:Nat}{a:Act}{w:World}(R:RF F n T h a w)(hE:fB F h w F' h' w')
  (hF:∀s',F' s'->ab s' h' w'/\ah s' v=V) (hT:dG n h'.next T d v=some T'):RF F' n T' h' (a.put d V) w':=by
 obtain⟨aIw,aHK⟩:=R.ne;obtain⟨aIy,aHM,_⟩:=hE.to aIw aHK;refine⟨⟨aIy,aHM⟩,?_,fun s' hs'=>(hF s' hs').1⟩;intro s' hs';obtain⟨s,hs,e⟩:=hE.from_ s' hs';rw[<-(hF s' hs').2];exact(R.T s hs).put e.sg e.next hT
def uX(P:Program)(call:Cl)(n:Nat)(ops:Array Oper)(o:Oper)(st:St):Option St:=match sO ops st.T o with
 |some true=>match FQ P call st.T st.h o with
  |some (v,h')=>match dG n h'.next st.T o.dst v with|some T=>some ⟨T,h'⟩|none=>none
  |none=>none
 |some false=>match dG n st.h.next st.T o.dst (.bB [])with|some T=>some ⟨T,st.h⟩|none=>none
 |none=>none
variable{st':St}{i:Nat}
theorem as5(hc:db P call){n:Nat}{ops:Array Oper}{st:St}(e:uX P call n ops o st=some st')(hi:ops[i]?=some o){F:ir}{a:Act}{w:World}
  (R:RF F n st.T st.h a w) 
  (hK:∀F' a' w',RF F' n st'.T st'.h a' w'->fB F st.h w F' st'.h w'->K a' w'):wpOp P ops Q i K a w:=by
 obtain⟨aIw,aHK⟩:=R.ne;have aGO:=R.T aIw aHK;unfold uX at e;unfold wpOp;rw[hi];simp only[];split at e
 .rename_i hw;rw[DG hw (fun j w oj t v _ _ _ hv=>aGO.get t v hv)];simp only[aFx];left;split at e<;>try cases e
  rename_i v h' ha;split at e<;>try cases e
  rename_i T' hT;exact VT hc ha R.ne (fun s hs=>sU fun t _ u hu=>(R.T s hs).get t u hu) aGO.ws R.H fun F' w' V hE hF=>hK F' _ w' (R.put hE hF hT) hE
 .rename_i hw;rw[DG hw (fun j w oj t v _ _ _ hv=>aGO.get t v hv)];simp only[GE,aFk];split at e<;>try cases e
  rename_i T' hT;exact hK F _ w (R.put (v:=.bB []) (V:=undef) (fB.refl _ _ _) (fun s hs=>⟨R.H s hs,rfl⟩) hT) (fB.refl _ _ _)
 .cases e
def vD(P:Program)(call:Cl)(n:Nat)(ops:Array Oper):List Oper->St->Option St
 |[],st=>some st|o::l,st=>match uX P call n ops o st with|some st=>vD P call n ops l st|none=>none
theorem VR{P:Program}{call:Cl}(hc:db P call){n:Nat}{ops:Array Oper}{Q:Exit->Act->World->Prop}:∀(l:List Oper) (k:Nat) (st st':St),vD P call n ops l st=some st' ->
  (∀j,l[j]?=ops[k+j]?)->∀(F:ir) (a:Act) (w:World),RF F n st.T st.h a w ->
  (∀F' a' w',RF F' n st'.T st'.h a' w'->fB F st.h w F' st'.h w'->Q .normal a' w') ->
  wpOps P ops Q ((List.range' k l.length)) a w
 |[],k,st,st',e,_,F,a,w,R,hK=>by simp[vD]at e;subst e;exact hK F a w R (fB.refl _ _ _)|o::l,k,st,st',e,hl,F,a,w,R,hK=>by
  simp only[vD]at e;split at e<;>try cases e
  rename_i aIt h₁;rw[cF,List.range'_succ,wpOps_cons];refine as5 hc h₁ (by have:=hl 0;simpa using this.symm) R ?_;intro F' a' w' R' E';refine VR hc l (k+1) aIt st' e ?_ F' a' w' R' ?_
  .intro j;have:=hl (j+1)
   grind
  .intro F'' a'' w'' R'' E'';exact hK F'' a'' w'' R'' (E'.trans E'')
inductive Ex where
 |normal
 |exit (id:Nat)
 |ret
def Ex.to:Ex->Exit
 |.normal=>.normal|.exit id=>.exit id|.ret=>.ret
abbrev Dr:=Cl->Nat->Array Oper->St->Option St
def GI(P:Program)(dr:Dr):Prop:=∀call,db P call->∀n id ops st st',dr call n ops st=some st'->∀F a w,RF F n st.T st.h a w->∀Q:Exit->Act->World->Prop,
 (∀F' a' w',RF F' n st'.T st'.h a' w'->fB F st.h w F' st'.h w'->Q .normal a' w')->(Code.region id ops true).wp P Q a w
abbrev Env:=Tr Func
def kR(P:Program)(E:Env):Prop:=∀f fn,E.get f=some fn->P.funcs[f]?=some fn/\(fn.name == "runtime.NumGoroutine")=false
def iP(n nx:Nat):List AV->Nat->Tr AV->Option (Tr AV)
 |[],_,T=>some T|v::l,i,T=>match dG n nx T (some i) v with|some T=>iP n nx l (i+1) T|none=>none
def iX(P:Program)(st:St):List ResultVar->Option (List AV)
 |[]=>some []|r::l=>match(match r with
   |.tmp t=>st.T.get t|.cell a t=>match st.T.get a with|some u=>lH P st.h t u|none=>none)with
  |some v=>match iX P st l with|some vs=>some (v::vs)|none=>none
  |none=>none
def rT:List AV->AV
 |[v]=>v|l=>.bB l
def orElse(a b:Cl):Cl:=fun f vs h=>match a f vs h with|some r=>some r|none=>b f vs h
theorem We{a b:Cl}(ha:db P a)(hb:db P b):db P (orElse a b):=by
 intro f vs h v h' e;unfold orElse at e;split at e
 .rename_i r hr;simp at e;subst e;exact ha f vs h v h' hr
 .exact hb f vs h v h' e
def j2(P:Program)(E:Env)(run:Nat->Code->St->Option (Ex×St)):Cl:=fun f vs h=>match E.get f with
 |some fn=>match fn.body with
  |some c=>match Nat.ble vs.length fn.ntmps,iP fn.ntmps h.next vs 0 .nil with
   |true,some T=>match run fn.ntmps c ⟨T,h⟩with
    |some (x,st)=>match x with|.exit _=>none|_=>match iX P st fn.results.toList with|some rs=>some (rT rs,st.h)|none=>none
    |none=>none
   |_,_=>none
  |none=>none
 |none=>none
def dH(P:Program)(E:Env)(dr:Dr)(orc:Cl):Nat->Nat->Code->St->Option (Ex×St)
 |0,_,_,_=>none|k+1,n,c,st=>match c with
  |.skip=>some (.normal,st)|.label _=>some (.normal,st)|.region _ ops draw=>match draw with
   |false=>match vD P (orElse orc (j2 P E (dH P E dr orc k))) n ops ops.toList st with|some st=>some (.normal,st)|none=>none
   |true=>match dr (orElse orc (j2 P E (dH P E dr orc k))) n ops st with|some st=>some (.normal,st)|none=>none
  |.seq x y=>match dH P E dr orc k n x st with
   |some (e,st)=>match e with|.normal=>dH P E dr orc k n y st|e=>some (e,st)
   |none=>none
  |.cond c x y=>match aQ st.T c with
   |some v=>match v with
    |.bool b=>match b with|true=>dH P E dr orc k n x st|false=>dH P E dr orc k n y st
    |_=>none
   |none=>none
  |.block id x=>match dH P E dr orc k n x st with
   |some (e,st)=>match e with
    |.exit i=>match Nat.beq i id with|true=>some (.normal,st)|false=>some (.exit i,st)
    |e=>some (e,st)
   |none=>none
  |.loop x=>match dH P E dr orc k n x st with
   |some (e,st)=>match e with|.normal=>dH P E dr orc k n (.loop x) st|e=>some (e,st)
   |none=>none
  |.scope x=>dH P E dr orc k n x st|.exit id=>some (.exit id,st)|.ret=>some (.ret,st)|_=>none
theorem uK{n nx:Nat}:∀{vs:List AV}{i:Nat}{T T':Tr AV},iP n nx vs i T=some T'->∀t v,T'.get t=some v->(i<=t/\vs[t-i]?=some v)\/T.get t=some v
 |[],i,T,T',h,t,v,hv=>by simp[iP]at h;subst h;exact .inr hv|x::l,i,T,T',h,t,v,hv=>by
  simp only[iP]at h;split at h<;>try cases h
  rename_i T₁ h₁;rcases uK h t v hv with⟨hi,hl⟩|hT
  .left
   grind
  .unfold dG at h₁;simp only[]at h₁;split at h₁<;>try cases h₁
   have hg:=Tr.bM _ _ _ _ _ h₁ t
   grind
theorem xZ{P:Program}{st:St}{s:Sg}{n:Nat}{a:Act}{w:World}(R:ig s n st.T st.h.next a)(H:ab s st.h w)(f:ResultVar->Sem Value)
  (hf:∀r,f r=match r with|.tmp t=>pure (a.tmps.getD t undef)|.cell x t=>do loadVar t (<- asAddr (a.tmps.getD x undef))) :
  ∀{l:List ResultVar}{vs:List AV},iX P st l=some vs->(l.mapM f).run P w=.ok (aG s vs) w
 |[],vs,h=>by simp[iX]at h;subst h;rfl|r::l,vs,h=>by
  simp only[iX]at h;split at h<;>try cases h
  rename_i v hv;split at h<;>try cases h
  rename_i vs' hl;have ih:=xZ R H f hf hl;have h1:(f r).run P w=.ok (ah s v) w:=by
   rw[hf r];cases r with
   |tmp t=>
    have:=R.get t v hv
    simp_all
   |cell x t=>
    simp only[]at hv |-;split at hv<;>try cases hv
    rename_i u hu;have hx:=R.get x u hu;have hr:=xU hv H;have hx':a.tmps.getD x undef=ah s u:=by simp[LT,hx]
    rw[hx'];cases u<;>simp only[lH]at hv<;>try cases hv
    simp only[Instr.loadAt,Instr.sureAddr,ah,asAddr,Sem.run_bind,Sem.run_pure,Result.andThen_ok]at hr |-;exact hr
  rw[List.mapM_cons];simp only[Sem.run_bind,h1,Result.andThen_ok,ih,Sem.run_pure,aG]
theorem sR{st:St}{n:Nat}{a:Act}{w:World}(R:ig s n st.T st.h.next a)(H:ab s st.h w){fn:Func}{vs:List AV}(h:iX P st fn.results.toList=some vs) :
  (results fn a.tmps).run P w=.ok (ah s (rT vs)) w:=by
 have h1:=xZ R H _ (fun r=>rfl) h;unfold results;rw[Sem.run_bind,aFU,Sem.run_map];have h2:(List.mapM (fun x=>match x with|.tmp t=>pure (a.tmps.getD t undef)|.cell x t=>do loadVar t (<- asAddr (a.tmps.getD x undef)):ResultVar->Sem Value) fn.results.toList).run P w=.ok (aG s vs) w:=h1;refine(IT (fun r=>((Result.andThen r _).andThen _)) h2).trans ?_;simp only[Result.andThen_ok,Sem.run_pure];congr 1
 match vs with|[]=>simp[rT,aG,ah]|[v]=>simp[rT,aG]|u::v::l=>simp[rT,aG,ah]
def Sound(P:Program)(run:Nat->Code->St->Option (Ex×St)):Prop:=∀n c st e st',run n c st=some (e,st')->∀F a w,RF F n st.T st.h a w->∀Q:Exit->Act->World->Prop,
 (∀F' a' w',RF F' n st'.T st'.h a' w'->fB F st.h w F' st'.h w'->Q e.to a' w')->c.wp P Q a w
theorem WB{E:Env}(hE:kR P E){run:Nat->Code->St->Option (Ex×St)}(hrun:Sound P run):db P (j2 P E run):=by
 intro f vs h v h' e;unfold j2 at e;split at e<;>try cases e
 rename_i fn hf;obtain⟨hfn,hname⟩:=hE f fn hf;split at e<;>try cases e
 rename_i c hb;refine⟨⟨fn,c,hfn,hname,hb⟩,?_⟩;split at e<;>try cases e
 rename_i T hle hT;have hle:=qr hle;split at e<;>try cases e
 rename_i x st hst;intro F w args hne hF hw;have R:RF F fn.ntmps T h { tmps:=args++Array.replicate (fn.ntmps-args.size) undef,defers:=[] } w:=by
  refine⟨hne,?_,fun s hs=>(hF s hs).1⟩;intro s hs;rw[<-(hF s hs).2];have hL:=fQ s vs;refine⟨by simp;omega,rfl,?_,?_⟩
  .intro t u hu;rcases uK hT t u hu with⟨_,h1⟩|h1
   .simp only[Nat.sub_zero]at h1;have hlt:t<vs.length:=by grind
    rw[aFR (by simp;omega)];simp[DY,h1]
   .simp[Tr.get]at h1
  .intro t u hu;rcases uK hT t u hu with⟨_,h1⟩|h1
   .exact(yg _ _).1 hw u (ep h1)
   .simp[Tr.get]at h1
 refine calls_of_wp hfn hb ?_;refine hrun _ _ _ _ _ hst F _ w R _ ?_;intro F' a' w' R' E';have fin:∀rs,iX P st fn.results.toList=some rs->rT rs=v/\st.h=h'->a'.defers=[]/\∃V,(results fn a'.tmps).run P w'=.ok V w' /\
   ∃F' V',Ending.returned V=.returned V'/\fB F h w F' h' w'/\∀s',F' s'->ab s' h' w'/\ah s' v=V':=by
  rintro rs hrs ⟨rfl,rfl⟩;obtain⟨aIy,aHM⟩:=R'.ne;refine⟨(R'.T aIy aHM).defers,ah aIy (rT rs),sR (R'.T aIy aHM) (R'.H aIy aHM) hrs,F',_,rfl,E',?_⟩;intro s hs;refine⟨R'.H s hs,?_⟩;have h1:=sR (R'.T aIy aHM) (R'.H aIy aHM) hrs;have h2:=sR (R'.T s hs) (R'.H s hs) hrs
  grind
 cases x with
 |exit id=>cases e
 |normal=>
  simp only[]at e;split at e<;>try cases e
  rename_i rs hrs;exact fin rs hrs ⟨rfl,rfl⟩
 |ret=>
  simp only[]at e;split at e<;>try cases e
  rename_i rs hrs;exact fin rs hrs ⟨rfl,rfl⟩
theorem Zx4{P:Program}{E:Env}(hE:kR P E){dr:Dr}(hdr:GI P dr){orc:Cl}(ho:db P orc):∀k,Sound P (dH P E dr orc k) /\
  (∀n x st e st',dH P E dr orc k n (.loop x) st=some (e,st')->∀F a w,RF F n st.T st.h a w->∀Q:Exit->Act->World->Prop,
   (∀F' a' w',RF F' n st'.T st'.h a' w'->fB F st.h w F' st'.h w'->Q e.to a' w')->Code.rounds P x Q k a w)
 |0=>⟨fun n c st e st' h=>by simp[dH]at h,fun n c st e st' h=>by simp[dH]at h⟩|k+1=>by
  obtain⟨ih,ihl⟩:=Zx4 hE hdr ho k;have hcl:=We ho (WB hE ih);have loop:(∀n x st e st',dH P E dr orc (k+1) n (.loop x) st=some (e,st')->∀F a w,RF F n st.T st.h a w->∀Q:Exit->Act->World->Prop,
   (∀F' a' w',RF F' n st'.T st'.h a' w'->fB F st.h w F' st'.h w'->Q e.to a' w')->Code.rounds P x Q (k+1) a w):=by
   intro n x st e st' h F a w R Q hQ;simp only[dH]at h;split at h<;>try cases h
   rename_i aHi aIt h₁;rw[rounds_succ];refine ih n x st aHi aIt h₁ F a w R _ ?_;intro F' a' w' R' E';cases aHi with
   |normal=>exact ihl n x aIt e st' h F' a' w' R' Q (fun F'' a'' w'' R'' E''=>hQ F'' a'' w'' R'' (E'.trans E''))|exit id=>simp only[bo,Do]at h;obtain⟨rfl,rfl⟩:=h;exact hQ F' a' w' R' E'
   |ret=>simp only[bo,Do]at h;obtain⟨rfl,rfl⟩:=h;exact hQ F' a' w' R' E'
  refine⟨?_,loop⟩;intro n c st e st' h F a w R Q hQ;cases c with
  |skip=>simp only[dH,bo,Do]at h;obtain⟨rfl,rfl⟩:=h;exact wp_skip (hQ F a w R (fB.refl _ _ _))
  |label l=>simp only[dH,bo,Do]at h;obtain⟨rfl,rfl⟩:=h;exact wp_label (hQ F a w R (fB.refl _ _ _))
  |region id ops draw=>
   simp only[dH]at h;cases draw with
   |false=>
    simp only[]at h;split at h<;>try cases h
    rename_i h₁;refine wp_region ?_;have:=VR hcl (Q:=Q) ops.toList 0 st st' h₁ (by grind) F a w R hQ;rw[List.range_eq_range'];simpa using this
   |true=>
    simp only[]at h;split at h<;>try cases h
    rename_i h₁;exact hdr _ hcl n id ops st st' h₁ F a w R Q hQ
  |seq x y=>
   simp only[dH]at h;split at h<;>try cases h
   rename_i aHi aIt h₁;refine wp_seq (ih n x st aHi aIt h₁ F a w R _ ?_);intro F' a' w' R' E';cases aHi with
   |normal=>exact ih n y aIt e st' h F' a' w' R' Q (fun F'' a'' w'' R'' E''=>hQ F'' a'' w'' R'' (E'.trans E''))|exit id=>simp only[bo,Do]at h;obtain⟨rfl,rfl⟩:=h;exact hQ F' a' w' R' E'
   |ret=>simp only[bo,Do]at h;obtain⟨rfl,rfl⟩:=h;exact hQ F' a' w' R' E'
  |cond c x y=>
   simp only[dH]at h;split at h<;>try cases h
   rename_i v hv;obtain⟨s,hs⟩:=R.ne;have he:a.eval c=ah s v:=by cases c with|tmp t=>simp[Act.eval,LT,(R.T s hs).get t v hv]|const u=>exact(nj hv s).symm|func f=>simp[aQ]at hv;subst hv;rfl|global g=>simp[aQ]at hv
   split at h<;>try cases h
   rename_i b;cases b with|true=>exact wp_cond_true he (ih n x st e st' h F a w R Q hQ)|false=>exact wp_cond_false he (ih n y st e st' h F a w R Q hQ)
  |block id x=>
   simp only[dH]at h;split at h<;>try cases h
   rename_i aHi aIt h₁;refine wp_block (ih n x st aHi aIt h₁ F a w R _ ?_);intro F' a' w' R' E';cases aHi with
   |normal=>simp only[bo,Do]at h;obtain⟨rfl,rfl⟩:=h;exact hQ F' a' w' R' E'
   |ret=>simp only[bo,Do]at h;obtain⟨rfl,rfl⟩:=h;exact hQ F' a' w' R' E'
   |exit i=>
    simp only[]at h;split at h
    .rename_i q;have q:=aK q;simp only[bo,Do]at h;obtain⟨rfl,rfl⟩:=h;simp only[Ex.to,Exit.inBlock,BY q];exact hQ F' a' w' R' E'
    .rename_i q;have q:=NE q;simp only[bo,Do]at h;obtain⟨rfl,rfl⟩:=h;simp only[Ex.to,Exit.inBlock,rx q];exact hQ F' a' w' R' E'
  |loop x=>exact wp_loop_rounds (k+1) (loop n x st e st' h F a w R Q hQ)|scope x=>simp only[dH]at h;refine wp_scope_straight (ih n x st e st' h F a w R _ ?_);intro F' a' w' R' E';have:=hQ F' a' w' R' E';cases e<;>exact this
  |exit id=>simp only[dH,bo,Do]at h;obtain⟨rfl,rfl⟩:=h;exact wp_exit (hQ F a w R (fB.refl _ _ _))
  |ret=>simp only[dH,bo,Do]at h;obtain⟨rfl,rfl⟩:=h;exact wp_ret (hQ F a w R (fB.refl _ _ _))
  |_=>simp[dH]at h
inductive PE where
 |w (j:Nat)
 |p (lo hi:Nat)
def PE.num:PE->Nat
 |.w j=>j|.p lo _=>lo
def PE.top:PE->Nat
 |.w j=>j-1|.p _ hi=>hi
def isW(o:Oper):Bool:=match o.op with
 |.assign _|.store _ _ _|.mapUpdate _ _ _ _|.insert _ _ _ _=>true|.call c=>match c.callee with|.builtin .len|.builtin .max|.builtin .min=>false|_=>true
 |_=>false
def uk:List Edge->jp
 |[]=>[]|e::l=>match Region.binds .any e with|true=>e.on::uk l|false=>uk l
def dI(o:Oper):jp:=uk o.after.toList
theorem Ee:∀{l:List Edge}{x:Nat},x∈uk l↔∃e∈l,Region.binds .any e=true/\e.on=x
 |[],x=>by simp[uk]|e::l,x=>by
  simp only[uk];cases h:Region.binds .any e
  .simp only[];rw[Ee]
   grind
  .simp only[AT];rw[Ee]
   grind
def Hy(nums:jp):jp->Nat->Nat
 |[],m=>m|e::l,m=>match nth nums e with
  |some x=>Hy nums l (match Nat.ble m x with|true=>x|false=>m)
  |none=>Hy nums l m
def qz:List Oper->Nat->jp->List (Bool×Nat)->List (Bool×Nat)
 |[],_,_,acc=>acc|o::l,c,nums,acc=>match isW o with|true=>qz l (c+1) (nums++[c+1]) ((true,c+1)::acc)|false=>let m:=Hy nums (dI o) 0;qz l c (nums++[m]) ((false,m)::acc)
def iW:Nat->jp->Bool
 |_,[]=>false|x,y::l=>match Nat.beq x y with|true=>true|false=>iW x l
theorem pM:∀{x:Nat}{l:jp},iW x l=true↔x∈l
 |x,[]=>by simp[iW]|x,y::l=>by
  simp only[iW];cases h:Nat.beq x y
  .have:=NE h;simp[this,pM]
  simp_all
def GG(i:Nat):List (jp×PE)->Nat->Nat
 |[],m=>m|(es,pe)::l,m=>match iW i es with
  |true=>GG i l (match Nat.ble m pe.top with|true=>m|false=>pe.top)
  |false=>GG i l m
def QX(k:Nat):List (Oper×Bool×Nat)->Nat->List (jp×PE)->List (jp×PE)
 |[],_,acc=>acc|(o,b,x)::l,i,acc=>let es:=dI o;QX k l (i-1) ((es,match b with|true=>PE.w x|false=>PE.p x (GG i acc k))::acc)
def Ik:List Oper->Nat
 |[]=>0|o::l=>match isW o with|true=>Ik l+1|false=>Ik l
def kL(ops:List Oper):List PE:=(QX (Ik ops) (ops.reverse.zip (qz ops 0 [] [])) (ops.length-1) []).map (·.2)
def pj(pl:List PE)(p:PE->Bool):jp->Bool
 |[]=>false|e::l=>match nth pl e with
  |some pe=>match p pe with|true=>true|false=>pj pl p l
  |none=>pj pl p l
theorem D8{pl:List PE}{p:PE->Bool}:∀{l:jp},pj pl p l=true->∃e pe,e∈l/\pl[e]?=some pe/\p pe=true
 |[],h=>by simp[pj]at h|e::l,h=>by
  simp only[pj]at h;split at h
  .rename_i pe he;rw[ct]at he;split at h
   .rename_i q;grind
   .obtain⟨e',pe',h1,h2⟩:=D8 h;grind
  .obtain⟨e',pe',h1,h2⟩:=D8 h;grind
def yh(i:Nat):jp->Bool
 |[]=>true|e::l=>match Nat.blt e i with|true=>yh i l|false=>false
def rZ(i hi:Nat):List Oper->List PE->Bool
 |o::l,pe::ps=>match iW i (dI o),(match pe with|.w j=>Nat.ble j (hi+1)|.p _ h=>Nat.ble h hi)with|true,true=>true|_,_=>rZ i hi l ps
 |_,_=>false
def tmpsOf:List Operand->jp
 |[]=>[]|x::l=>match x with|.tmp t=>t::tmpsOf l|_=>tmpsOf l
def looks(ops:List Oper)(o:Oper):jp:=match o.guard with
 |none=>tmpsOf o.op.operands.toList|some (j,_)=>match nth ops j with
  |some oj=>match oj.dst with|some t=>t::tmpsOf o.op.operands.toList|none=>tmpsOf o.op.operands.toList
  |none=>tmpsOf o.op.operands.toList
def pP(ls es:jp):List Oper->List PE->Nat->Bool
 |y::l,pe::ps,i=>match pe with|.w _=>pP ls es l ps (i+1)|.p _ _=>match y.dst with|none=>pP ls es l ps (i+1)|some t=>match iW t ls with|false=>pP ls es l ps (i+1)|true=>match iW i es with|true=>pP ls es l ps (i+1)|false=>false
 |_,_,_=>true
def zP(ops:List Oper)(pl:List PE)(k i:Nat)(o:Oper)(pe:PE):Bool:=
 match yh i (dI o),pP (looks ops o) (dI o) ops pl 0 with
 |true,true=>match pe with
  |.p lo hi=>match(match lo with|0=>true|lo+1=>pj pl (fun x=>Nat.ble (lo+1) x.num) (dI o))with
   |true=>match Nat.ble k hi with|true=>true|false=>rZ i hi ops pl
   |false=>false
  |.w j=>match Nat.ble 1 j,Nat.ble j k,(match j with|0=>false|1=>true|j+2=>pj pl (fun x=>Nat.ble (j+1) x.num) (dI o))with|true,true,true=>true|_,_,_=>false
 |_,_=>false
def kX(ops:List Oper)(pl:List PE)(k:Nat):List Oper->List PE->Nat->Bool
 |[],[],_=>true|o::l,pe::ps,i=>match zP ops pl k i o pe with|true=>kX ops pl k l ps (i+1)|false=>false
 |_,_,_=>false
def yz:List PE->Nat->Option Nat
 |[],c=>some c|pe::l,c=>match pe with|.p _ _=>yz l c|.w j=>match Nat.beq j (c+1)with|true=>yz l (c+1)|false=>none
def sY(ops:List Oper)(pl:List PE):Option Nat:=match yz pl 0 with
 |some k=>match kX ops pl k ops pl 0 with|true=>some k|false=>none
 |none=>none
abbrev fP:=List (Nat×Nat×aE)
def FU(P:Program)(n:Nat)(ops:Array Oper)(o:Oper)(i:Nat)(st:St)(pd:fP):Option (St×fP):=match sO ops st.T o with
 |some false=>match dG n st.h.next st.T o.dst (.bB [])with|some T=>some (⟨T,st.h⟩,pd)|none=>none
 |some true=>match ja P st.T st.h.next o.op with
  |some (ob,v)=>match dG n (st.h.next+1) st.T o.dst v with|some T=>some (⟨T,⟨st.h.tr,st.h.next+1⟩⟩,(i,st.h.next,ob)::pd)|none=>none
  |none=>match jz P st.T st.h o with
   |some v=>match dG n st.h.next st.T o.dst v with|some T=>some (⟨T,st.h⟩,pd)|none=>none
   |none=>none
 |none=>none
def nv(P:Program)(n:Nat)(ops:Array Oper)(q:Nat):List Oper->List PE->Nat->St->fP->Option (St×fP)
 |o::l,pe::ps,i,st,pd=>match pe with|.w _=>nv P n ops q l ps (i+1) st pd|.p lo _=>match Nat.beq lo q with|false=>nv P n ops q l ps (i+1) st pd|true=>match FU P n ops o i st pd with|some (st,pd)=>nv P n ops q l ps (i+1) st pd|none=>none
 |_,_,_,st,pd=>some (st,pd)
def nS(i:Nat):fP->Option (Nat×aE)
 |[]=>none|(j,id,ob)::l=>match Nat.beq i j with|true=>some (id,ob)|false=>nS i l
def Gb:aE->aE->Bool
 |.cells l ty op,.cells l' ty' op'=>match AV.jV l l',Nat.beq ty ty',op,op' with|true,true,none,none=>true|_,_,_,_=>false
 |.map [] c,.map [] c'=>Nat.beq c c'|_,_=>false
theorem afn{a b:aE}(h:Gb a b=true):a=b:=by
 unfold Gb at h;split at h
 .split at h<;>try cases h
  rename_i h1 h2;rw[AV.pS h1,aK h2]
 .rw[aK h]
 .cases h
def vC(T:Tr AV)(d:Option Tmp)(v:AV):Bool:=match d with|none=>true|some t=>match T.get t with|some u=>AV.eqv u v|none=>false
def wg(P:Program)(ops:Array Oper)(st:St)(pd:fP)(o:Oper)(i:Nat):Bool:=match sO ops st.T o with
 |some false=>match nS i pd with|none=>vC st.T o.dst (.bB [])|some _=>false
 |some true=>match nS i pd with
  |some (id,ob)=>match ja P st.T id o.op with
   |some (ob',v)=>match Gb ob ob' with|true=>vC st.T o.dst v|false=>false
   |none=>false
  |none=>match jz P st.T st.h o with|some v=>vC st.T o.dst v|none=>false
 |none=>false
def pV(P:Program)(ops:Array Oper)(q:Nat)(st:St)(pd:fP):List Oper->List PE->Nat->Bool
 |o::l,pe::ps,i=>match pe with
  |.w _=>pV P ops q st pd l ps (i+1)|.p lo hi=>match Nat.ble lo q,Nat.ble q hi with
   |true,true=>match wg P ops st pd o i with|true=>pV P ops q st pd l ps (i+1)|false=>false
   |_,_=>pV P ops q st pd l ps (i+1)
 |_,_,_=>true
def sT(pl:List PE)(q:Nat):fP->Hp->Option (fP×Hp)
 |[],h=>some ([],h)|(i,id,ob)::l,h=>match sT pl q l h with
  |some (pd,h)=>match nth pl i with
   |some (.p _ hi)=>match Nat.ble hi q with
    |true=>match Tr.set FT h.tr id (some ob)with|some tr=>some (pd,⟨tr,h.next⟩)|none=>none
    |false=>some ((i,id,ob)::pd,h)
   |_=>none
  |none=>none
def mR(j:Nat):List Oper->List PE->Option Oper
 |o::l,pe::ps=>match pe with
  |.w x=>match Nat.beq x j with|true=>some o|false=>mR j l ps
  |.p _ _=>mR j l ps
 |_,_=>none
def rS(P:Program)(call:Cl)(n:Nat)(ops:Array Oper)(pl:List PE):Nat->Nat->St->fP->Option St
 |0,q,st,pd=>match sT pl q pd st.h with|some ([],h)=>some ⟨st.T,h⟩|_=>none
 |r+1,q,st,pd=>match sT pl q pd st.h,mR (q+1) ops.toList pl with
  |some (pd,h),some o=>match uX P call n ops o ⟨st.T,h⟩with
   |some st=>match nv P n ops (q+1) ops.toList pl 0 st pd with
    |some (st,pd)=>match pV P ops (q+1) st pd ops.toList pl 0 with|true=>rS P call n ops pl r (q+1) st pd|false=>none
    |none=>none
   |none=>none
  |_,_=>none
def lf(P:Program):Dr:=fun call n ops st=>match sY ops.toList (kL ops.toList)with
 |some k=>match nv P n ops 0 ops.toList (kL ops.toList) 0 st []with
  |some (st,pd)=>match pV P ops 0 st pd ops.toList (kL ops.toList) 0 with|true=>rS P call n ops (kL ops.toList) k 0 st pd|false=>none
  |none=>none
 |none=>none
structure ju(ops:Array Oper)(pl:List PE)(k:Nat):Prop where
 len:pl.length=ops.size
 below:∀(i:Nat) (o:Oper),ops[i]?=some o->∀e∈dI o,e<i
 fresh:∀(i:Nat) (o:Oper),ops[i]?=some o->∀t,t∈looks ops.toList o->∀(y:Nat) (oy:Oper) (lo hi:Nat),ops[y]?=some oy->pl[y]?=some (.p lo hi)->oy.dst=some t->y∈dI o
 lo:∀(i:Nat) (o:Oper) (lo hi:Nat),ops[i]?=some o->pl[i]?=some (.p lo hi)->lo=0\/∃(e:Nat) (pe:PE),e∈dI o/\pl[e]?=some pe/\lo<=pe.num
 hi:∀(i lo hi:Nat),pl[i]?=some (.p lo hi)->k<=hi\/∃(z:Nat) (o:Oper) (pe:PE),ops[z]?=some o/\pl[z]?=some pe/\i∈dI o/\((∃j,pe=.w j/\j<=hi+1)\/(∃l h,pe=.p l h/\h<=hi))
 w:∀(i:Nat) (o:Oper) (j:Nat),ops[i]?=some o->pl[i]?=some (.w j)->1<=j/\j<=k/\(j=1\/∃(e:Nat) (pe:PE),e∈dI o/\pl[e]?=some pe/\j<=pe.num+1)
 uniq:∀(i i' j:Nat),pl[i]?=some (.w j)->pl[i']?=some (.w j)->i=i'
theorem Zuv{i:Nat}:∀{l:jp},yh i l=true->∀e∈l,e<i
 |[],_,e,he=>by cases he
 |x::l,h,e,he=>by
  simp only[yh]at h;split at h<;>try cases h
  rename_i q;rw[acl]at q;rcases AT.1 he with rfl|he
  .exact q
  .exact Zuv h e he
theorem UQ{i hi:Nat}:∀{os:List Oper}{ps:List PE},rZ i hi os ps=true->∃(z:Nat) (o:Oper) (pe:PE),os[z]?=some o/\ps[z]?=some pe/\i∈dI o/\((∃j,pe=.w j/\j<=hi+1)\/(∃l h,pe=.p l h/\h<=hi))
 |[],_,h=>by simp[rZ]at h|_::_,[],h=>by simp[rZ]at h|o::os,pe::ps,h=>by
  simp only[rZ]at h;split at h
  .rename_i h1 h2;refine⟨0,o,pe,rfl,rfl,pM.1 h1,?_⟩;cases pe with|w j=>exact .inl ⟨j,rfl,qr h2⟩|p l hh=>exact .inr ⟨l,hh,rfl,qr h2⟩
  .obtain⟨z,o',pe',h1,h2,h3⟩:=UQ h;exact⟨z+1,o',pe',by grind,by grind,h3⟩
theorem Zuu{ls es:jp}:∀{os:List Oper}{ps:List PE}{i:Nat},pP ls es os ps i=true->∀(y:Nat) (oy:Oper) (lo hi:Nat) (t:Tmp),os[y]?=some oy->ps[y]?=some (.p lo hi)->oy.dst=some t->t∈ls->i+y∈es
 |[],_,_,_,y,oy,lo,hi,t,h1,_,_,_=>by simp at h1|_::_,[],_,_,y,oy,lo,hi,t,_,h2,_,_=>by simp at h2|o::os,pe::ps,i,h,y,oy,lo,hi,t,h1,h2,h3,h4=>by
  simp only[pP]at h;have rec_:pP ls es os ps (i+1)=true->y≠0->i+y∈es:=by
   intro hh hy;obtain⟨y',rfl⟩:∃y',y=y'+1:=⟨y-1,aGl⟩;have:=Zuu hh y' oy lo hi t (by simpa using h1) (by simpa using h2) h3 h4
   grind
  by_cases hy:y=0
  .subst hy;simp at h1 h2;subst h1;subst h2;simp only[h3]at h;rw[pM.2 h4]at h;simp only[]at h;split at h<;>try cases h
   rename_i q;simpa using pM.1 q
  grind
theorem Zyh{ops:List Oper}{pl:List PE}{k:Nat}:∀{os:List Oper}{ps:List PE}{i:Nat},kX ops pl k os ps i=true->os.length=ps.length/\∀(j:Nat) (o:Oper) (pe:PE),os[j]?=some o->ps[j]?=some pe->zP ops pl k (i+j) o pe=true
 |[],[],_,_=>⟨rfl,fun j o pe h=>by simp at h⟩|[],_::_,_,h=>by simp[kX]at h|_::_,[],_,h=>by simp[kX]at h|o::os,pe::ps,i,h=>by
  simp only[kX]at h;split at h<;>try cases h
  rename_i q;obtain⟨h1,h2⟩:=Zyh h
  grind
theorem N3:∀{pl:List PE}{c k:Nat},yz pl c=some k->(∀(i j:Nat),pl[i]?=some (PE.w j)->c<j)/\(∀(i i' j:Nat),pl[i]?=some (.w j)->pl[i']?=some (.w j)->i=i')
 |[],c,k,h=>⟨fun i j h=>by simp at h,fun i i' j h=>by simp at h⟩|pe::l,c,k,h=>by
  simp only[yz]at h;cases pe with
  |p lo hi=>
   obtain⟨h1,h2⟩:=N3 h
   grind
  |w x=>
   simp only[]at h;split at h<;>try cases h
   rename_i q;have q:=aK q;subst q;obtain⟨h1,h2⟩:=N3 h
   grind
variable{k:Nat}
theorem xK{ops:Array Oper}{pl:List PE}(h:sY ops.toList pl=some k):ju ops pl k:=by
 unfold sY at h;split at h<;>try cases h
 rename_i hW;split at h<;>try cases h
 rename_i hA;obtain⟨hl,hone⟩:=Zyh hA;have hone:∀(i:Nat) (o:Oper) (pe:PE),ops[i]?=some o->pl[i]?=some pe->zP ops.toList pl k i o pe=true:=by intro i o pe ho hp;have:=hone i o pe (by simpa using ho) hp;simpa using this
 have hthere:∀(i:Nat) (o:Oper),ops[i]?=some o->∃pe,pl[i]?=some pe:=by
  intro i o ho;have:i<pl.length:=by
   rw[<-hl];rcases ww i ops.size with q|q
   .simpa using q
   .rw[arC q]at ho;cases ho
  exact⟨pl[i],by simp[this]⟩
 have hthere':∀(i:Nat) (pe:PE),pl[i]?=some pe->∃o,ops[i]?=some o:=by
  intro i pe hp;have:i<ops.size:=by grind
  exact⟨ops[i],by simp[this]⟩
 have split1:∀(i:Nat) (o:Oper) (pe:PE),ops[i]?=some o->pl[i]?=some pe->yh i (dI o)=true/\pP (looks ops.toList o) (dI o) ops.toList pl 0=true/\(match pe with
  |.p lo hi=>match(match lo with|0=>true|lo+1=>pj pl (fun x=>Nat.ble (lo+1) x.num) (dI o))with
   |true=>match Nat.ble k hi with|true=>true|false=>rZ i hi ops.toList pl
   |false=>false
  |.w j=>match Nat.ble 1 j,Nat.ble j k,(match j with|0=>false|1=>true|j+2=>pj pl (fun x=>Nat.ble (j+1) x.num) (dI o))with|true,true,true=>true|_,_,_=>false)=true:=by
  intro i o pe ho hp;have:=hone i o pe ho hp;unfold zP at this;split at this
  .rename_i h1 h2;exact⟨h1,h2,this⟩
  .cases this
 refine⟨by simpa using hl.symm,?_,?_,?_,?_,?_,(N3 hW).2⟩
 .intro i o ho;obtain⟨pe,hp⟩:=hthere i o ho;exact Zuv (split1 i o pe ho hp).1
 .intro i o ho t ht y oy lo hi hy hpy hd;obtain⟨pe,hp⟩:=hthere i o ho;have:=Zuu (split1 i o pe ho hp).2.1 y oy lo hi t (by simpa using hy) hpy hd ht;simpa using this
 .intro i o lo hi ho hp;have:=(split1 i o _ ho hp).2.2;simp only[]at this;split at this
  .rename_i q;cases lo with|zero=>exact .inl rfl|succ lo=>simp only[]at q;obtain⟨e,pe,h1,h2,h3⟩:=D8 q;exact .inr ⟨e,pe,h1,h2,qr h3⟩
  .cases this
 .intro i lo hi hp;obtain⟨o,ho⟩:=hthere' i _ hp;have:=(split1 i o _ ho hp).2.2;simp only[]at this;split at this
  .split at this
   .rename_i q;exact .inl (qr q)
   .obtain⟨z,o',pe',h1,h2,h3⟩:=UQ this;exact .inr ⟨z,o',pe',by simpa using h1,h2,h3⟩
  .cases this
 .intro i o j ho hp;have:=(split1 i o _ ho hp).2.2;simp only[]at this;split at this
  .rename_i q1 q2 q3;refine⟨qr q1,qr q2,?_⟩;cases j with
   |zero=>cases q3
   |succ j=>cases j with|zero=>exact .inl rfl|succ j=>simp only[]at q3;obtain⟨e,pe,h1,h2,h3⟩:=D8 q3;exact .inr ⟨e,pe,h1,h2,by have:=qr h3;omega⟩
  .cases this
theorem qL{j:Nat}:∀{os:List Oper}{ps:List PE}{o:Oper},mR j os ps=some o->∃i:Nat,os[i]?=some o/\ps[i]?=some (.w j)
 |[],_,o,h=>by simp[mR]at h|_::_,[],o,h=>by simp[mR]at h|x::os,pe::ps,o,h=>by
  simp only[mR]at h;split at h
  .split at h
   .rename_i y q;have q:=aK q;subst q;simp at h;subst h;exact⟨0,rfl,rfl⟩
   .obtain⟨i,h1,h2⟩:=qL h;exact⟨i+1,by grind,by simpa using h2⟩
  .obtain⟨i,h1,h2⟩:=qL h;exact⟨i+1,by grind,by grind⟩
theorem Zxb{P:Program}{ops:Array Oper}{q:Nat}{st:St}{pd:fP}:∀{os:List Oper}{ps:List PE}{i:Nat},pV P ops q st pd os ps i=true ->
  ∀(x:Nat) (o:Oper) (lo hi:Nat),os[x]?=some o->ps[x]?=some (.p lo hi)->lo<=q->q<=hi->wg P ops st pd o (i+x)=true
 |[],_,_,_,x,o,lo,hi,h1,_,_,_=>by simp at h1|_::_,[],_,_,x,o,lo,hi,_,h2,_,_=>by simp at h2|y::os,pe::ps,i,h,x,o,lo,hi,h1,h2,h3,h4=>by
  simp only[pV]at h;have rec_:pV P ops q st pd os ps (i+1)=true->x≠0->wg P ops st pd o (i+x)=true:=by
   intro hh hx;obtain⟨x',rfl⟩:∃x',x=x'+1:=⟨x-1,aGl⟩;have:=Zxb hh x' o lo hi (by simpa using h1) (by grind) h3 h4
   grind
  by_cases hx:x=0
  .subst hx;simp at h1 h2;subst h1;subst h2;simp only[avC h3,avC h4]at h
   grind
  grind
theorem lE{n:Nat}(h:dG n nx T d v=some T'):∀t,T'.get t=if d=some t then some v else T.get t:=by
 intro t;unfold dG at h;split at h
 .simp at h;subst h;simp
 .rename_i x;split at h<;>try cases h
  have:=Tr.bM _ _ _ _ _ h t
  grind
variable{t:Tmp}
theorem Wb{n:Nat}(h:dG n nx T d v=some T')(hd:d=some t):t<n/\ws nx v=true:=by
 subst hd;simp only[dG]at h;split at h<;>try cases h
 simp_all
theorem Ea{n:Nat}(h:dG n nx' T d v=some T')(hn:nx<=nx')(hT:∀t v,T.get t=some v->t<n/\ws nx v=true) :
  ∀t u,T'.get t=some u->t<n/\ws nx' u=true:=by
 intro t u hu;rw[lE h t]at hu;by_cases q:d=some t
 .rw[BY q]at hu;simp at hu;subst hu;exact Wb h q
 .rw[rx q]at hu;exact⟨(hT t u hu).1,pO hn u (hT t u hu).2⟩
structure Qj(n q:Nat)(os:List Oper)(ps:List PE)(i:Nat)(st st':St)(new:fP):Prop where
 tr:st'.h.tr=st.h.tr
 next:st.h.next<=st'.h.next
 all:∀t v,st'.T.get t=some v->t<n/\ws st'.h.next v=true
 same:∀t,(∀(x:Nat) (o:Oper) (h:Nat),os[x]?=some o->ps[x]?=some (.p q h)->o.dst≠some t)->st'.T.get t=st.T.get t
 ids:∀p∈new,st.h.next<=p.2.1/\p.2.1<st'.h.next/\jQ st'.h.next p.2.2=true/\∃(x h:Nat),p.1=i+x/\ps[x]?=some (.p q h)
 EG:∀p∈new,∀p'∈new,p.1=p'.1\/p.2.1=p'.2.1->p=p'
variable{pd':fP}
theorem asr{n:Nat}{ops:Array Oper}{st:St}{pd:fP}(e:FU P n ops o i st pd=some (st',pd'))(hT:∀t v,st.T.get t=some v->t<n/\ws st.h.next v=true) :
  st'.h.tr=st.h.tr/\st.h.next<=st'.h.next/\(∀t v,st'.T.get t=some v->t<n/\ws st'.h.next v=true)/\(∀t,o.dst≠some t->st'.T.get t=st.T.get t) /\
  (pd'=pd\/∃ob,pd'=(i,st.h.next,ob)::pd/\st.h.next<st'.h.next/\jQ st'.h.next ob=true):=by
 unfold FU at e;have same:∀{nx v T'},dG n nx st.T o.dst v=some T'->∀t,o.dst≠some t->T'.get t=st.T.get t:=by intro nx v T' h t ht;rw[lE h t,rx ht]
 split at e
 .split at e<;>try cases e
  rename_i T' h;exact⟨rfl,pi _,Ea h (pi _) hT,same h,.inl rfl⟩
 .split at e
  .rename_i ob v ha;split at e<;>try cases e
   rename_i T' h;refine⟨rfl,aGn,Ea h aGn hT,same h,.inr ⟨ob,rfl,aGn,?_⟩⟩;exact(Qs (m:=st.h.next+1) ha aGl (fun x hx u hu=>pO aGl _ (oI (fun t v ht=>(hT t v ht).2) hu))).1
  .split at e<;>try cases e
   split at e<;>try cases e
   rename_i T' h;exact⟨rfl,pi _,Ea h (pi _) hT,same h,.inl rfl⟩
 .cases e
theorem arM{n:Nat}{ops:Array Oper}{q:Nat}:∀{os:List Oper}{ps:List PE}{i:Nat}{st:St}{pd:fP}{st':St}{pd':fP},nv P n ops q os ps i st pd=some (st',pd') ->
  (∀t v,st.T.get t=some v->t<n/\ws st.h.next v=true)->∃new,pd'=new++pd/\Qj n q os ps i st st' new:=by
 intro os
 induction os with
 |nil=>intro ps i st pd st' pd' e hT;simp[nv]at e;obtain⟨rfl,rfl⟩:=e;exact⟨[],rfl,rfl,pi _,hT,fun _ _=>rfl,(fun p hp=>by cases hp),(fun p hp=>by cases hp)⟩
 |cons o os ih=>
  intro ps i st pd st' pd' e hT;cases ps with
  |nil=>simp[nv]at e;obtain⟨rfl,rfl⟩:=e;exact⟨[],rfl,rfl,pi _,hT,fun _ _=>rfl,(fun p hp=>by cases hp),(fun p hp=>by cases hp)⟩
  |cons pe ps=>
   simp only[nv]at e;have skip:nv P n ops q os ps (i+1) st pd=some (st',pd')->(∀h,pe≠.p q h)->∃new,pd'=new++pd/\Qj n q (o::os) (pe::ps) i st st' new:=by
    intro e hne;obtain⟨new,h1,h2⟩:=ih e hT;refine⟨new,h1,h2.tr,h2.next,h2.all,?_,?_,h2.EG⟩
    .intro t ht;exact h2.same t (fun x o' h ho hp=>ht (x+1) o' h (by simpa using ho) (by simpa using hp))
    .intro p hp;obtain⟨a,b,c,x,h,hx,hpx⟩:=h2.ids p hp;exact⟨a,b,c,x+1,h,aGl,by simpa using hpx⟩
   cases pe with
   |w j=>exact skip e (fun h r=>by cases r)
   |p lo hi=>
    simp only[]at e;cases hb:Nat.beq lo q with
    |false=>simp only[hb]at e;exact skip e (fun h r=>by cases r;exact NE hb rfl)
    |true=>
     have hlq:=aK hb;subst hlq;simp only[hb]at e;split at e<;>try cases e
     rename_i aIt aIm h₁;obtain⟨t1,t2,t3,t4,t5⟩:=asr h₁ hT;obtain⟨new,n1,n2⟩:=ih e t3;have same:∀t,(∀(x:Nat) (o':Oper) (h:Nat),(o::os)[x]?=some o'->(PE.p lo hi::ps)[x]?=some (.p lo h)->o'.dst≠some t)->st'.T.get t=st.T.get t:=by intro t ht;rw[n2.same t (fun x o' h ho hp=>ht (x+1) o' h (by simpa using ho) (by simpa using hp))];exact t4 t (ht 0 o hi rfl rfl)
     rcases t5 with rfl|⟨ob,rfl,u1,u2⟩
     .refine⟨new,n1,n2.tr.trans t1,rt t2 n2.next,n2.all,same,?_,n2.EG⟩;intro p hp;obtain⟨a,b,c,x,h,hx,hpx⟩:=n2.ids p hp;exact⟨aGl,b,c,x+1,h,aGl,by simpa using hpx⟩
     .refine⟨new++[(i,st.h.next,ob)],by simp[n1],n2.tr.trans t1,rt t2 n2.next,n2.all,same,?_,?_⟩
      .intro p hp;rcases At.1 hp with hp|hp
       .obtain⟨a,b,c,x,h,hx,hpx⟩:=n2.ids p hp;exact⟨aGl,b,c,x+1,h,aGl,by simpa using hpx⟩
       .simp at hp;subst hp;exact⟨pi _,ro u1 n2.next,qP n2.next u2,0,hi,rfl,rfl⟩
      .intro p hp p' hp' hpp;rcases At.1 hp with hp|hp<;>rcases At.1 hp' with hp'|hp'
       .exact n2.EG p hp p' hp' hpp
       .simp at hp';subst hp';obtain⟨a,b,c,x,h,hx,hpx⟩:=n2.ids p hp;rcases hpp with r|r<;>simp only[]at r<;>omega
       .simp at hp;subst hp;obtain⟨a,b,c,x,h,hx,hpx⟩:=n2.ids p' hp'
        grind
       .simp at hp hp';subst hp;subst hp';rfl
theorem Zus{pl:List PE}{q:Nat}:∀{pd:fP}{h:Hp}{pd':fP}{h':Hp},sT pl q pd h=some (pd',h') ->
  h'.next=h.next/\(∀j o,h'.tr.get j=some o->h.tr.get j=some o\/∃p∈pd,(∃lo hi,pl[p.1]?=some (.p lo hi)/\hi<=q)/\j=p.2.1/\o=p.2.2) /\
  (∀p∈pd',p∈pd/\∃lo hi,pl[p.1]?=some (.p lo hi)/\q<hi)
 |[],h,pd',h',e=>by simp[sT]at e;obtain⟨rfl,rfl⟩:=e;exact⟨rfl,fun j o hj=>.inl hj,fun p hp=>by cases hp⟩
 |(i,id,ob)::l,h,pd',h',e=>by
  simp only[sT]at e;split at e<;>try cases e
  rename_i aIm h₁ he;obtain⟨a1,a2,a3⟩:=Zus he;split at e<;>try cases e
  rename_i lo hi hp;rw[ct]at hp;split at e
  .rename_i hq;have hq:=qr hq;split at e<;>try cases e
   rename_i tr ht;have hg:=Tr.bM _ _ _ _ _ ht;refine⟨a1,?_,fun p hp'=>⟨by simp[(a3 p hp').1],(a3 p hp').2⟩⟩;intro j o hj;rw[hg j]at hj;by_cases r:j=id
   .rw[BY r]at hj;simp at hj;subst hj;exact .inr ⟨(i,id,ob),aGn,⟨lo,hi,hp,hq⟩,r,rfl⟩
   .rw[rx r]at hj;rcases a2 j o hj with x|⟨p,hp',x⟩
    .exact .inl x
    .exact .inr ⟨p,by simp[hp'],x⟩
  .rename_i hq;have hq:q<hi:=by
    rcases ww q hi with r|r
    .exact r
    .rw[avC r]at hq;cases hq
   simp only[bo,Do]at e;obtain⟨rfl,rfl⟩:=e;refine⟨a1,?_,?_⟩
   .intro j o hj;rcases a2 j o hj with x|⟨p,hp',x⟩
    .exact .inl x
    .exact .inr ⟨p,by simp[hp'],x⟩
   grind
theorem U6{i:Nat}:∀{pd:fP}{r:Nat×aE},nS i pd=some r->(i,r.1,r.2)∈pd
 |[],r,h=>by simp[nS]at h|(j,id,ob)::l,r,h=>by
  simp only[nS]at h;split at h
  .rename_i q
   simp_all
  .exact aFl _ (U6 h)
theorem Zyt{i:Nat}:∀{pd:fP},nS i pd=none->∀p∈pd,p.1≠i
 |[],_,p,hp=>by cases hp
 |(j,id,ob)::l,h,p,hp=>by
  simp only[nS]at h;split at h<;>try cases h
  rename_i q;have q:=NE q;rcases AT.1 hp with rfl|hp
  .exact fun r=>q r.symm
  .exact Zyt h p hp
theorem ab.congr{w:World}(H:ab s h w)(hs:∀i,i<h.next->s' i=s i):ab s' h w where
 obj i o hi:=by rw[hs i (H.lt i o hi)];exact(H.obj i o hi).congr hs (H.lt i o hi) (H.ia i o hi)
 inj i j o o' hi hj e:=by rw[hs i (H.lt i o hi),hs j (H.lt j o' hj)]at e;exact H.inj i j o o' hi hj e
 lt:=H.lt
 ia:=H.ia
theorem ab.push{w:World}(H:ab s h w)(ob:Obj):ab s h { w with heap:=w.heap.push ob } where
 obj i o hi:=by have:=H.bound hi;show cj s i o (w.heap.push ob)[(s i).1]?;rw[aFI,rx aGl];exact H.obj i o hi
 inj:=H.inj
 lt:=H.lt
 ia:=H.ia
variable{aIw:Sg}
theorem Ext.congr{aHT:Hp}{aIL w:World}(E:Ext aIw aHT aIL s h w)(hl:∀i o,h.tr.get i=some o->i<h.next)(hs:∀i,i<h.next->s' i=s i):Ext aIw aHT aIL s' h w where
 os:=E.os
 tape:=E.tape
 output:=E.output
 size:=E.size
 sg i hi:=(hs i (ro hi E.next)).trans (E.sg i hi)
 next:=E.next
 frame:=E.frame
 bI j o hj:=by rw[hs j (hl j o hj)];exact E.bI j o hj
 keep:=E.keep
theorem Ext.Q3{aHT:Hp}{aIL w:World}(E:Ext aIw aHT aIL s h w)(hn:h.next<=h'.next)(hg:∀j o,h'.tr.get j=some o->(∃o',h.tr.get j=some o')\/(aIL.heap.size<=(s j).1/\aHT.next<=j)):Ext aIw aHT aIL s h' w where
 os:=E.os
 tape:=E.tape
 output:=E.output
 size:=E.size
 sg:=E.sg
 next:=rt E.next hn
 frame:=E.frame
 bI j o hj:=by
  rcases hg j o hj with⟨o',h'⟩|q
  .exact E.bI j o' h'
  .exact .inr q.1
 keep j o hj hlt:=by
  rcases hg j o hj with⟨o',h'⟩|q
  .exact E.keep j o' h' hlt
  .omega
theorem Ext.push{aHT:Hp}{aIL w:World}(E:Ext aIw aHT aIL s h w)(ob:Obj):Ext aIw aHT aIL s h { w with heap:=w.heap.push ob } where
 os:=E.os
 tape:=E.tape
 output:=E.output
 size:=by simp;have:=E.size;omega
 sg:=E.sg
 next:=E.next
 frame b hb hn:=by have:=E.size;show(w.heap.push ob)[b]?=_;rw[aFI,rx aGl];exact E.frame b hb hn
 bI:=E.bI
 keep:=E.keep
def left:Nat->(Nat->Bool)->Nat
 |0,_=>0|m+1,L=>left m L+(match L m with|true=>0|false=>1)
def mark(L:Nat->Bool)(i:Nat):Nat->Bool:=fun j=>if j=i then true else L j
theorem uG{L:Nat->Bool}{i:Nat}(hi:L i=false):∀m,left m (mark L i)+(if i<m then 1 else 0)=left m L
 |0=>by simp[left]|m+1=>by
  have ih:=uG hi m;simp only[left,mark]
  grind
theorem qM{L:Nat->Bool}:∀{m:Nat},left m L=0->∀i,i<m->L i=true
 |0,_,i,hi=>by omega|m+1,h,i,hi=>by
  simp only[left]at h;cases hm:L m with
  |false=>rw[hm]at h;simp at h|true=>
   rw[hm]at h;rcases ww i m with q|q
   .exact qM aGl i q
   grind
theorem ab.aiF{w:World}(H:ab s h w)(ht:h'.tr=h.tr)(hn:h.next<=h'.next):ab s h' w where
 obj i o hi:=H.obj i o (ht▸hi)
 inj i j o o' hi hj:=H.inj i j o o' (ht▸hi) (ht▸hj)
 lt i o hi:=ro (H.lt i o (ht▸hi)) hn
 ia i o hi:=qP hn (H.ia i o (ht▸hi))
def ow(ops:Array Oper)(pl:List PE)(m:Nat)(L:Nat->Bool)(t:Tmp):Prop:=∃(x:Nat) (o:Oper) (l h:Nat),ops[x]?=some o/\pl[x]?=some (.p l h)/\l<m/\L x=false/\o.dst=some t
structure Inv(n:Nat)(ops:Array Oper)(pl:List PE)(aGE:ir)(aHT:Hp)(aIL:World)(m q:Nat)(L:Nat->Bool)(a:Act)(w:World)(st:St)(pd:fP)(F:ir):Prop where
 ne:∃aIw,aGE aIw
 size:a.tmps.size=n
 defers:a.defers=[]
 free:∀aIw,aGE aIw->∀g:Sg,∃s,F s/\Ext aIw aHT aIL s st.h w/\∀p∈pd,L p.1=false->s p.2.1=g p.2.1
 px:∀s,F s->∃aIw,aGE aIw/\Ext aIw aHT aIL s st.h w
 tmp:∀s,F s->∀t v,st.T.get t=some v->¬ow ops pl m L t->a.tmps[t]?=some (ah s v)
 all:∀t v,st.T.get t=some v->t<n/\ws st.h.next v=true
 H:∀s,F s->ab s st.h w
 low:aHT.next<=st.h.next
 yA:∀p∈pd,aHT.next<=p.2.1
 pid:∀p∈pd,p.2.1<st.h.next/\st.h.tr.get p.2.1=none/\jQ st.h.next p.2.2=true/\∃lo hi,pl[p.1]?=some (.p lo hi)/\lo<m/\q<=hi
 mH:∀p∈pd,L p.1=true->∀s,F s->cj s p.2.1 p.2.2 w.heap[(s p.2.1).1]?/\aIL.heap.size<=(s p.2.1).1/\∀j o,st.h.tr.get j=some o->(s j).1≠(s p.2.1).1
 py:∀p∈pd,∀p'∈pd,L p.1=true->L p'.1=true->∀s,F s->(s p.2.1).1=(s p'.2.1).1->p.2.1=p'.2.1
 ln:∀p∈pd,∀p'∈pd,p.1=p'.1\/p.2.1=p'.2.1->p=p'
 down:∀(z:Nat) (o:Oper),ops[z]?=some o->L z=true->∀e∈dI o,L e=true
 wl:∀(i j:Nat),pl[i]?=some (.w j)->(L i=true↔j<=q)
 lo:∀(i l h:Nat),pl[i]?=some (.p l h)->L i=true->l<=q
 hi:∀(i l h:Nat),pl[i]?=some (.p l h)->h<q->L i=true
section
variable{n:Nat}{ops:Array Oper}{pl:List PE}{aGE:ir}{aHT:Hp}{aIL:World}{q:Nat}{L:Nat->Bool}{a:Act}{w:World}{st:St}{pd:fP}{F:ir}
theorem Inv.enter(I:Inv n ops pl aGE aHT aIL q q L a w st pd F)(hun:∀(i l h:Nat),pl[i]?=some (.p l h)->q<=l->L i=false)
  (e:nv P n ops q ops.toList pl 0 st pd=some (st',pd')) :
  Inv n ops pl aGE aHT aIL (q+1) q L a w st' pd' (fun s=>∃aIy,F aIy/\∀i,i<st.h.next->s i=aIy i):=by
 obtain⟨new,rfl,S⟩:=arM e I.all;have hHcl:∀s aIy,F aIy->(∀i,i<st.h.next->s i=aIy i)->ab s st'.h w:=by intro s aIy h1 hs;exact((I.H aIy h1).congr hs).aiF S.tr S.next
 have hlt:∀aIy,F aIy->∀i o,st.h.tr.get i=some o->i<st.h.next:=fun aIy h1 i o hi=>(I.H aIy h1).lt i o hi;have hEcl:∀aIw s aIy,F aIy->Ext aIw aHT aIL aIy st.h w->(∀i,i<st.h.next->s i=aIy i)->Ext aIw aHT aIL s st'.h w:=by intro aIw s aIy h1 hE hs;refine(hE.congr (hlt aIy h1) hs).Q3 S.next ?_;intro j o hj;rw[S.tr]at hj;exact .inl ⟨o,hj⟩
 have hnew:∀p∈new,L p.1=false:=by intro p hp;obtain⟨_,_,_,x,h,hx,hpx⟩:=S.ids p hp;exact hun p.1 q h (by rw[hx];simpa using hpx) (pi _)
 refine⟨I.ne,I.size,I.defers,?_,?_,?_,S.all,fun s ⟨aIy,h1,hs⟩=>hHcl s aIy h1 hs,rt I.low S.next,?_,?_,?_,?_,?_,I.down,I.wl,I.lo,I.hi⟩
 .intro aIw aHK g;obtain⟨aIy,h1,hE,hg⟩:=I.free aIw aHK g;refine⟨fun i=>if i<st.h.next then aIy i else g i,⟨aIy,h1,fun i hi=>by simp[hi]⟩,hEcl aIw _ aIy h1 hE (fun i hi=>by simp[hi]),?_⟩;intro p hp hL;simp only[];rcases At.1 hp with hp|hp
  .have:=(S.ids p hp).1;rw[rx aGl]
  .rw[BY (I.pid p hp).1];exact hg p hp hL
 .rintro s ⟨aIy,h1,hs⟩;obtain⟨aIw,aHK,hE⟩:=I.px aIy h1;exact⟨aIw,aHK,hEcl aIw s aIy h1 hE hs⟩
 .rintro s ⟨aIy,h1,hs⟩ t v hv hnp;have hsame:st'.T.get t=st.T.get t:=by refine S.same t ?_;intro x o h ho hp hd;exact hnp ⟨x,o,q,h,by simpa using ho,hp,aGl,hun x q h hp (pi _),hd⟩
  rw[hsame]at hv;have hnp':¬ow ops pl q L t:=fun⟨x,o,l,h,p1,p2,p3,p4,p5⟩=>hnp ⟨x,o,l,h,p1,p2,aGl,p4,p5⟩;rw[sH hs v (I.all t v hv).2];exact I.tmp aIy h1 t v hv hnp'
 .intro p hp;rcases At.1 hp with hp|hp
  .exact rt I.low (S.ids p hp).1
  .exact I.yA p hp
 .intro p hp;rcases At.1 hp with hp|hp
  .obtain⟨p1,p2,p3,x,h,hx,hpx⟩:=S.ids p hp;refine⟨p2,?_,p3,q,h,by rw[hx];simpa using hpx,aGl,?_⟩
   .rw[S.tr];cases hg:st.h.tr.get p.2.1 with|none=>rfl|some o=>exfalso;obtain⟨aIw,aHK⟩:=I.ne;obtain⟨aIy,h1,_⟩:=I.free aIw aHK (fun _=>(0,0));have:=hlt aIy h1 _ _ hg;omega
   .rcases ww h q with r|r
    .have h1:=I.hi p.1 q h (by rw[hx];simpa using hpx) r;rw[hnew p hp]at h1;cases h1
    .exact r
  .obtain⟨p1,p2,p3,lo,hi,p4,p5,p6⟩:=I.pid p hp;exact⟨ro p1 S.next,by rw[S.tr];exact p2,qP S.next p3,lo,hi,p4,aGl,p6⟩
 .rintro p hp hL s ⟨aIy,h1,hs⟩;rcases At.1 hp with hp|hp
  .rw[hnew p hp]at hL;cases hL
  .obtain⟨p1,p2,p3,_⟩:=I.pid p hp;obtain⟨r1,r2,r3⟩:=I.mH p hp hL aIy h1;rw[hs p.2.1 p1];refine⟨r1.congr hs p1 p3,r2,?_⟩;intro j o hj;rw[S.tr]at hj;rw[hs j (hlt aIy h1 j o hj)];exact r3 j o hj
 .rintro p hp p' hp' hL hL' s ⟨aIy,h1,hs⟩ he;rcases At.1 hp with hp|hp
  .rw[hnew p hp]at hL;cases hL
  .rcases At.1 hp' with hp'|hp'
   .rw[hnew p' hp']at hL';cases hL'
   .rw[hs _ (I.pid p hp).1,hs _ (I.pid p' hp').1]at he;exact I.py p hp p' hp' hL hL' aIy h1 he
 .intro p hp p' hp' hpp;have cross:∀p∈new,∀p'∈pd,¬(p.1=p'.1\/p.2.1=p'.2.1):=by
   rintro p hp p' hp' (r|r)
   .obtain⟨_,_,_,x,h,hx,hpx⟩:=S.ids p hp;obtain⟨_,_,_,lo,hi,p4,p5,_⟩:=I.pid p' hp'
    grind
   .have:=(S.ids p hp).1;have:=(I.pid p' hp').1;omega
  rcases At.1 hp with hp|hp<;>rcases At.1 hp' with hp'|hp'
  .exact S.EG p hp p' hp' hpp
  .exact absurd hpp (cross p hp p' hp')
  .exact absurd (hpp.imp Eq.symm Eq.symm) (cross p' hp' p hp)
  .exact I.ln p hp p' hp' hpp
theorem xO:∀{l:List Operand}{t:Tmp},Operand.tmp t∈l->t∈tmpsOf l
 |[],t,h=>by cases h
 |x::l,t,h=>by
  rcases AT.1 h with rfl|h2
  .simp[tmpsOf]
  .have:=xO h2;cases x<;>simp[tmpsOf,this]
theorem mw(h:Operand.tmp t∈o.op.operands):t∈looks ops.toList o:=by
 have:=xO (aES.2 h);unfold looks
 grind
theorem qK{oj:Oper}{j:Nat}(h:o.guard=some (j,b))(hj:ops[j]?=some oj)(hd:oj.dst=some t):t∈looks ops.toList o:=by
 unfold looks;have hj':nth ops.toList j=some oj:=by rw[ct];simpa using hj
 simp[h,hj',hd]
theorem Inv.sf{m:Nat}(I:Inv n ops pl aGE aHT aIL m q L a w st pd F)(hP:ju ops pl k)(ho:ops[i]?=some o)(hr:∀e∈dI o,L e=true)
  (ht:t∈looks ops.toList o):¬ow ops pl m L t:=by
 rintro⟨x,ox,l,h,p1,p2,p3,p4,p5⟩;have:=hr x (hP.fresh i o ho t ht x ox l h p1 p2 p5);rw[p4]at this;cases this
theorem Inv.zV(I:Inv n ops pl aGE aHT aIL (q+1) q L a w st pd F)(hP:ju ops pl k)(ho:ops[i]?=some o)(hr:∀e∈dI o,L e=true)(hL:L i=false){l h:Nat}
  (hp:pl[i]?=some (.p l h)):l<=q/\q<=h:=by
 constructor
 .rcases hP.lo i o l h ho hp with r|⟨e,pe,h1,h2,h3⟩
  .omega
  .have hLe:=hr e h1;cases pe with|w j=>have:=(I.wl e j h2).1 hLe;simp only[PE.num]at h3;omega|p l' h'=>have:=I.lo e l' h' h2 hLe;simp only[PE.num]at h3;omega
 .rcases ww h q with r|r
  .have:=I.hi i l h hp r;rw[hL]at this;cases this
  .exact r
theorem ko{j:Nat}(h:L j=true):mark L i j=true:=by unfold mark;split<;>simp[h]
theorem oA{j:Nat}(h:mark L i j=false):L j=false/\j≠i:=by
 unfold mark at h
 grind
theorem Inv.vh{l h:Nat}(I:Inv n ops pl aGE aHT aIL (q+1) q L a w st pd F)(ho:ops[i]?=some o)(hr:∀e∈dI o,L e=true)
  (hp:pl[i]?=some (.p l h)) (hl:l<=q) (hsub:∀s,F' s->F s) (hV:∀s,F' s->∀t,o.dst=some t->∃v,st.T.get t=some v/\ah s v=V)
  (free:∀aIw,aGE aIw->∀g:Sg,∃s,F' s/\Ext aIw aHT aIL s st.h w'/\∀p∈pd,mark L i p.1=false->s p.2.1=g p.2.1)
  (px:∀s,F' s->∃aIw,aGE aIw/\Ext aIw aHT aIL s st.h w') (H:∀s,F' s->ab s st.h w')
  (mH:∀p∈pd,mark L i p.1=true->∀s,F' s->cj s p.2.1 p.2.2 w'.heap[(s p.2.1).1]?/\aIL.heap.size<=(s p.2.1).1/\∀j o,st.h.tr.get j=some o->(s j).1≠(s p.2.1).1)
  (py:∀p∈pd,∀p'∈pd,mark L i p.1=true->mark L i p'.1=true->∀s,F' s->(s p.2.1).1=(s p'.2.1).1->p.2.1=p'.2.1) :
  Inv n ops pl aGE aHT aIL (q+1) q (mark L i) (a.put o.dst V) w' st pd F':=by
 refine⟨I.ne,?_,?_,free,px,?_,I.all,H,I.low,I.yA,I.pid,mH,py,I.ln,?_,?_,?_,fun j l h hj hh=>ko (I.hi j l h hj hh)⟩
 .cases hd:o.dst<;>simp[Act.put,hd,I.size]
 .cases hd:o.dst<;>simp[Act.put,hd,I.defers]
 .intro s hs t v hv hnp;by_cases hd:o.dst=some t
  .obtain⟨v',hv',hc⟩:=hV s hs t hd;rw[hv]at hv';simp at hv';subst hv';simp only[Act.put,hd,IR,aFx];rw[BY (by rw[I.size];exact(I.all t v hv).1),hc]
  .have hnp':¬ow ops pl (q+1) L t:=by
    rintro⟨x,ox,l',h',p1,p2,p3,p4,p5⟩;refine hnp ⟨x,ox,l',h',p1,p2,p3,?_,p5⟩;unfold mark
    grind
   have:=I.tmp s (hsub s hs) t v hv hnp';cases hd':o.dst with|none=>exact this|some d=>simp only[Act.put,IR];rw[rx (fun e=>hd (by rw[hd',e]))];exact this
 .intro z oz hz hLz e he;unfold mark at hLz;split at hLz
  .rename_i e1;subst e1;rw[ho]at hz;simp at hz;subst hz;exact ko (hr e he)
  .exact ko (I.down z oz hz hLz e he)
 .intro j x hj;have hne:j≠i:=by intro e;subst e;rw[hp]at hj;simp at hj
  unfold mark;rw[rx hne];exact I.wl j x hj
 .intro j l' h' hj hLj;unfold mark at hLj;split at hLj
  .rename_i e;subst e;rw[hp]at hj;simp at hj;omega
  .exact I.lo j l' h' hj hLj
theorem NI(h:vC T d v=true)(hd:d=some t):T.get t=some v:=by
 subst hd;simp only[vC]at h;split at h<;>try cases h
 rename_i u hu;rw[hu,AV.ej h]
theorem Inv.step(I:Inv n ops pl aGE aHT aIL (q+1) q L a w st pd F)(hP:ju ops pl k)(ho:ops[i]?=some o)(hr:∀e∈dI o,L e=true)(hL:L i=false)
  {l h:Nat}(hp:pl[i]?=some (.p l h)) (hc:wg P ops st pd o i=true) 
  (hK:∀a' w' F',Inv n ops pl aGE aHT aIL (q+1) q (mark L i) a' w' st pd F'->K a' w'):wpOp P ops Q i K a w:=by
 obtain⟨hlq,hqh⟩:=I.zV hP ho hr hL hp;obtain⟨aIw,aHK⟩:=I.ne;obtain⟨aIy,aHM,_⟩:=I.free aIw aHK (fun _=>(0,0));have hO:∀s,F s->gF s st.T a o.op:=fun s hs=>sU fun t ht u hu=>I.tmp s hs t u hu (I.sf hP ho hr (mw ht));have hW:∀{b},sO ops st.T o=some b->Region.wanted o (yielded ops a.tmps)=b:=fun hw=>DG hw (fun j b oj t v hg hj hd hv=>I.tmp aIy aHM t v hv (I.sf hP ho hr (qK hg hj hd)));have mk:∀{p:Nat×Nat×aE},nS i pd=none->p∈pd->mark L i p.1=L p.1:=by intro p hf hp';unfold mark;rw[rx (Zyt hf p hp')]
 have quiet:∀V,nS i pd=none->(∀s,F s->∀t,o.dst=some t->∃v,st.T.get t=some v/\ah s v=V)->K (a.put o.dst V) w:=by
  intro V hf hV;refine hK _ w F (I.vh ho hr hp hlq (fun s hs=>hs) hV ?_ I.px I.H ?_ ?_)
  .intro aIw aHK g;obtain⟨s,h1,h2,h3⟩:=I.free aIw aHK g;exact⟨s,h1,h2,fun p hp' hm=>h3 p hp' (by rw[mk hf hp']at hm;exact hm)⟩
  .intro p hp' hm;rw[mk hf hp']at hm;exact I.mH p hp' hm
  .intro p hp' p' hp'' hm hm';rw[mk hf hp']at hm;rw[mk hf hp'']at hm';exact I.py p hp' p' hp'' hm hm'
 unfold wpOp;rw[ho];simp only[];unfold wg at hc;split at hc
 .rename_i hw;rw[hW hw];simp only[GE,aFk];split at hc<;>try cases hc
  rename_i hf;exact quiet undef hf (fun s hs t ht=>⟨_,NI hc ht,rfl⟩)
 .rename_i hw;rw[hW hw];simp only[aFx];left;unfold Oper.wp;split at hc
  .rename_i id ob hf;have hmem:=U6 hf;split at hc<;>try cases hc
   rename_i ob' v ha;split at hc<;>try cases hc
   rename_i hob;have hob:=afn hob;subst hob;obtain⟨aIz,aHN,aHn,aHw⟩:=I.free aIw aHK (fun _=>(w.heap.size,0));have hid:aIz id=(w.heap.size,0):=aHw _ hmem hL;obtain⟨aIS,hrun,hor⟩:=GS ha (hO aIz aHN) w hid;rw[hrun];have each:∀s,F s->s id=(w.heap.size,0)->ah s v=ah aIz v/\cj s id ob (some aIS):=by intro s hs hsi;obtain⟨x,hrun',hor'⟩:=GS ha (hO s hs) w hsi;rw[hrun]at hrun';simp only[WF,aGj,World.mk.injEq,Array.push_eq_push,aFa,aGk]at hrun';obtain⟨q1,rfl⟩:=hrun';exact⟨q1.symm,hor'⟩
   have other:∀p∈pd,p.1≠i->p.2.1≠id:=fun p hp' hne e=>hne (IT Prod.fst (I.ln p hp' _ hmem (.inr e)));have old:∀p∈pd,L p.1=true->∀s,F s->(s p.2.1).1<w.heap.size:=by
    intro p hp' hLp s hs;obtain⟨y,hy⟩:=(I.mH p hp' hLp s hs).1.there;rcases ww (s p.2.1).1 w.heap.size with r|r
    .exact r
    .rw[arC r]at hy;cases hy
   have split_:∀p∈pd,mark L i p.1=true->p=(i,id,ob)\/(L p.1=true/\p.1≠i):=by
    intro p hp' hm;unfold mark at hm;split at hm
    .rename_i e;exact .inl (I.ln p hp' _ hmem (.inl e))
    .rename_i e;exact .inr ⟨hm,e⟩
   refine hK _ _ (fun s=>F s/\s id=(w.heap.size,0)) (I.vh ho hr hp hlq (fun s hs=>hs.1) ?_ ?_ ?_ ?_ ?_ ?_)
   .intro s hs t ht;exact⟨v,NI hc ht,(each s hs.1 hs.2).1⟩
   .intro aIx aHL g;obtain⟨s,h1,h2,h3⟩:=I.free aIx aHL (aW g id (w.heap.size,0));refine⟨s,⟨h1,by rw[h3 _ hmem hL];exact cU _ _ _⟩,h2.push aIS,?_⟩;intro p hp' hm;obtain⟨hLp,hne⟩:=oA hm;rw[h3 p hp' hLp];simp only[aW];rw[rx (other p hp' hne)]
   .rintro s ⟨hs,_⟩;obtain⟨aIx,h1,h2⟩:=I.px s hs;exact⟨aIx,h1,h2.push aIS⟩
   .rintro s ⟨hs,_⟩;exact(I.H s hs).push aIS
   .rintro p hp' hm s ⟨hs,hsi⟩;rcases split_ p hp' hm with rfl|⟨hLp,hne⟩
    .rw[hsi];refine⟨?_,?_,?_⟩
     .show cj s id ob (w.heap.push aIS)[w.heap.size]?;simpa using(each s hs hsi).2
     .obtain⟨_,_,hE⟩:=I.px s hs;exact hE.size
     .intro j o' hj;have:=(I.H s hs).bound hj;show(s j).1≠w.heap.size;omega
    .obtain⟨r1,r2,r3⟩:=I.mH p hp' hLp s hs;refine⟨?_,r2,r3⟩;show cj s p.2.1 p.2.2 (w.heap.push aIS)[(s p.2.1).1]?;have:=old p hp' hLp s hs;rw[aFI,rx aGl];exact r1
   .rintro p hp' p' hp'' hm hm' s ⟨hs,hsi⟩ he;rcases split_ p hp' hm with rfl|⟨hLp,hne⟩<;>rcases split_ p' hp'' hm' with rfl|⟨hLp',hne'⟩
    .rfl
    .have:=old p' hp'' hLp' s hs;rw[hsi]at he;simp only[]at he;omega
    .have:=old p hp' hLp s hs;rw[hsi]at he;simp only[]at he;omega
    .exact I.py p hp' p' hp'' hLp hLp' s hs he
  .rename_i hf;split at hc<;>try cases hc
   rename_i v hv;have h₁:=sG hv (hO aIy aHM) (I.H aIy aHM);rw[h₁];refine quiet (ah aIy v) hf ?_;intro s hs t ht;refine⟨v,NI hc ht,?_⟩;have h₂:=sG hv (hO s hs) (I.H s hs);rw[h₁]at h₂;simp only[WF,aGj,aFa]at h₂;exact h₂.symm
 .cases hc
end
end Go.Proofs.YtjflbmpepamfjaaGreat.Ev
end
section
namespace Go.Proofs.YtjflbmpepamfjaaGreat.V
open Go Go.RowKit
open Go.Proofs.YtjflbmpepamfjaaGreat.Ev (Tr Tr.bM nth ct PE ju sY kL xK dI looks tmpsOf xO mw qK iW pM mR qL left mark uG qM cP iw ko oA)
theorem uL{T T':Tr AV}{x:Operand}(h:∀t,x=.tmp t->T'.get t=T.get t):aQ T' x=aQ T x:=by cases x with|tmp t=>exact h t rfl|_=>rfl
theorem Zyx{T T':Tr AV}:∀{l:List Operand},(∀t,.tmp t∈l->T'.get t=T.get t)->dU T' l=dU T l
 |[],_=>rfl|x::l,h=>by simp only[dU];rw[uL (fun t q=>h t (by simp[q])),Zyx (fun t q=>h t (by simp[q]))]
theorem Nc{T T':Tr AV}:∀{l:List (Nat×Operand)},(∀t,.tmp t∈l.map (·.2)->T'.get t=T.get t)->gX T' l=gX T l
 |[],_=>rfl|(i,x)::l,h=>by simp only[gX];rw[uL (fun t q=>h t (by simp[q])),Nc (fun t q=>h t (by grind))]
mutual
theorem Ww{h h₂:Hp}:∀{σ:Sh}{l:List AV}{d:σ.T}{r:List AV}{h':Hp},eu false h σ l=some (d,r,h')->eu false h₂ σ l=some (d,r,h₂)
 |.int k,l,d,r,h',e=>by
  simp only[eu]at e |-;split at e<;>try cases e
  split at e<;>cases e;rename_i q;simp only[q]
 |.bool,l,d,r,h',e=>by simp only[eu]at e |-;split at e<;>cases e;rfl
 |.str,l,d,r,h',e=>by simp only[eu]at e |-;split at e<;>cases e;rfl
 |.agg ss,l,d,r,h',e=>VM (ss:=ss) e|.sl s,l,d,r,h',e=>by
  simp only[eu]at e |-;split at e<;>try cases e
  .rfl
  .split at e<;>cases e;rfl
  .split at e<;>try cases e
   split at e<;>first|(cases e;done)|(rename_i q _;cases q)
  .split at e<;>try cases e
   split at e<;>first|(cases e;done)|(rename_i q _;cases q)
theorem VM{h h₂:Hp}:∀{ss:List Sh}{l:List AV}{d:TL ss}{r:List AV}{h':Hp},ke false h ss l=some (d,r,h')->ke false h₂ ss l=some (d,r,h₂)
 |[],l,d,r,h',e=>by simp only[ke]at e |-;cases e;rfl
 |s::ss,l,d,r,h',e=>by
  simp only[ke]at e |-;split at e<;>try cases e
  rename_i aHf aIq h₁ aHi;split at e<;>try cases e
  rename_i aHg aIr aHV aHj;have:=Eg aHi;subst this;rw[Ww (h₂:=h₂) aHi];simp only[];rw[VM (h₂:=h₂) aHj]
end
theorem NP{h h₂:Hp}{τ:Sh}:∀{n:Nat}{l:List AV}{L:List τ.T},iG h τ n l=some L->iG h₂ τ n l=some L
 |0,l,L,e=>e|n+1,l,L,e=>by
  simp only[iG]at e |-;split at e<;>try cases e
  rename_i x r h₁ hf;split at e<;>try cases e
  rename_i xs hx;rw[Ww (h₂:=h₂) hf];simp only[];rw[NP hx]
def fw:Op->Bool
 |.alloc _|.box _ _|.makeSlice _ _ _|.buildSlice _ _ _|.makeMap _ _=>true|_=>false
def kf:AV->Option Nat
 |.ptr b _=>some b|.hd b _=>some b|.vw b _ _ _=>some b|.mp b=>some b|_=>none
theorem Ej{P:Program}{sh:TypeId->Option Sh}{T:Tr AV}{h:Hp}{n:Nat}{o:Op}{x:Bool×aE×AV}(e:ja P sh T h n o=some x):fw o=true/\kf x.2.2=some n:=by
 unfold ja at e;split at e
 .split at e<;>cases e;exact⟨rfl,rfl⟩
 .split at e<;>cases e;exact⟨rfl,rfl⟩
 .split at e<;>try cases e
  split at e<;>try cases e
  split at e<;>cases e;exact⟨rfl,rfl⟩
 .split at e<;>try cases e
  split at e<;>try cases e
  split at e<;>try cases e
  unfold va at e;split at e
  .split at e<;>try cases e
   split at e<;>cases e<;>exact⟨rfl,rfl⟩
  .cases e;exact⟨rfl,rfl⟩
 .split at e<;>try cases e
  split at e<;>cases e;exact⟨rfl,rfl⟩
 .cases e
theorem asB{h h₂:Hp}{n:Nat}{elem:TypeId}{len sz:Nat}{r:List AV}{s:Option Sh}:va h n elem len sz r s=va h₂ n elem len sz r s:=by
 unfold va;cases s with
 |none=>rfl|some τ=>
  have:iG h τ len r=iG h₂ τ len r:=by cases q:iG h τ len r with|some L=>exact(NP q).symm|none=>cases q':iG h₂ τ len r with|none=>rfl|some L=>rw[NP (h₂:=h) q']at q;cases q
  simp only[this]
theorem NZ{P:Program}{sh:TypeId->Option Sh}{T T':Tr AV}{h h':Hp}{n:Nat}{o:Op}{x:Bool×aE×AV}(e:ja P sh T h n o=some x)(hT:∀t,.tmp t∈o.operands->T'.get t=T.get t):ja P sh T' h' n o=some x:=by
 unfold ja at e |-;cases o<;>try (cases e;done)
 .exact e
 .rename_i elem y
  try dsimp only at e |-
  rw[uL (fun t q=>hT t (by simp[Op.operands,q]))];exact e
 .rename_i t l parts
  try dsimp only at e |-
  rw[Nc (fun t q=>hT t (by simp only[Op.operands,aFt];exact q))];simp only[asB (h:=h') (h₂:=h)];exact e
 .exact e
 .rename_i t l c
  try dsimp only at e |-
  rw[uL (x:=l) (fun t q=>hT t (by simp[Op.operands,q])),uL (x:=c) (fun t q=>hT t (by simp[Op.operands,q]))];exact e
theorem asA{h h':Hp}(L:eF h h'){u:AV}{x:Bool×List AV×Nat}(e:uT h u=some x):uT h' u=some x:=by
 unfold uT at e |-;cases u<;>try (cases e;done)
 .try dsimp only at e |-
  split at e<;>try cases e
  rename_i q;rw[L _ _ q]
 .try dsimp only at e |-
  split at e<;>try cases e
  .rename_i q;rw[L _ _ q];exact e
  .rename_i q;rw[L _ _ q];exact e
 .exact e
 .try dsimp only at e |-
  split at e<;>cases e;rename_i q;rw[L _ _ q]
theorem afb{h h':Hp}(L:eF h h'){u:AV}{n:Nat}(e:lenOf h u=some n):lenOf h' u=some n:=by
 unfold lenOf at e |-;cases u<;>try (cases e;done)
 .exact e
 .try dsimp only at e |-
  split at e<;>try cases e
  .rename_i q;rw[L _ _ q]
  .rename_i q;rw[L _ _ q]
 .exact e
 .exact e
 .exact e
 .try dsimp only at e |-
  split at e<;>cases e;rename_i q;rw[L _ _ q]
theorem arQ{P:Program}{h h':Hp}(L:eF h h'){t:TypeId}{u i:AV}{x:Bool×AV}(e:oC P h t u i=some x):oC P h' t u i=some x:=by
 unfold oC at e |-;cases i<;>try (cases e;done)
 try dsimp only at e |-
 cases hu:P.underlying t with
 |none=>simp[hu]at e|some d=>
  cases d<;>simp only[hu]at e |-<;>try (cases e;done)
  .split at e<;>try cases e
   rename_i sz hs;cases u<;>(try dsimp only at e |-)<;>try (cases e;done)
   .split at e<;>try cases e
    .rename_i q;rw[L _ _ q];exact e
    .rename_i q;rw[L _ _ q];exact e
   .split at e<;>try cases e
    rename_i hz;split at e<;>try cases e
    .rename_i q;rw[L _ _ q]
    .rename_i q;rw[L _ _ q]
   .exact e
   .split at e<;>try cases e
    rename_i q;rw[L _ _ q];exact e
  .exact e
theorem ast{P:Program}{h h':Hp}(L:eF h h'){T T':Tr AV}{t:TypeId}{u:AV}{lo hi:Option Operand}{x:Bool×AV}(e:oF P h T t u lo hi=some x)(h1:dN T' lo=dN T lo)(h2:dN T' hi=dN T hi):oF P h' T' t u lo hi=some x:=by
 unfold oF at e |-;rw[h1,h2];split at e<;>try cases e
 rename_i l r q1 q2
 try simp only[q1,q2]
 cases hu:P.underlying t with
 |none=>simp[hu]at e|some d=>
  cases d<;>simp only[hu]at e |-<;>try (cases e;done)
  .exact e
  .split at e<;>try cases e
   rename_i sz hs;cases u<;>(try dsimp only at e |-)<;>try (cases e;done)
   .exact e
   .split at e<;>try cases e
    rename_i q;rw[L _ _ q];exact e
   .exact e
   .exact e
theorem as6{P:Program}{h h':Hp}(L:eF h h'){t:TypeId}{u i v:AV}{ck:Bool}(e:uY P h t u i ck=some v):uY P h' t u i ck=some v:=by
 unfold uY at e |-;split at e<;>try cases e
 rename_i hu
 try simp only[hu]
 split at e<;>try cases e
 rename_i hk hz
 try simp only[hk,hz]
 split at e<;>try cases e
 split at e<;>try cases e
 rename_i hb;rw[L _ _ hb];exact e
theorem ae1{P:Program}{h h':Hp}(L:eF h h'){ts:Array TypeId}{u v:AV}(e:tL P h ts u=some v):tL P h' ts u=some v:=by
 unfold tL at e |-;split at e<;>try cases e
 rename_i t ht
 try simp only[ht]
 cases hu:P.underlying t with
 |none=>simp[hu]at e|some d=>
  cases d<;>simp only[hu]at e |-<;>first|(cases e;done)|exact e|skip
  split at e<;>try cases e
  rename_i n hn;rw[afb L hn]
theorem arS{P:Program}{h h':Hp}(L:eF h h'){b:Builtin}{ts:Array TypeId}{vs:List AV}{v:AV}(e:oD P h b ts vs=some v):oD P h' b ts vs=some v:=by
 unfold oD at e |-;cases b<;>try (cases e;done)
 .try dsimp only at e |-
  split at e<;>try cases e
  split at e
  .rename_i q
   try simp only[q]
   unfold zB at e |-;split at e<;>try cases e
   split at e<;>try cases e
   rename_i hb;rw[L _ _ hb]
  .rename_i q
   try simp only[q]
   exact ae1 L e
 .exact e
 .exact e
theorem NV{P:Program}{T T':Tr AV}{h h':Hp}(L:eF h h'){o:Oper}{x:Bool×AV}(e:jz P T h o=some x)(hT:∀t,.tmp t∈o.op.operands->T'.get t=T.get t):jz P T' h' o=some x:=by
 have one:∀y,y∈o.op.operands->aQ T' y=aQ T y:=fun y hy=>uL (fun t q=>hT t (by rw[<-q];exact hy));have lst:∀l:List Operand,(∀y∈l,y∈o.op.operands)->dU T' l=dU T l:=fun l hl=>Zyx (fun t q=>hT t (hl _ q));unfold jz at e |-;cases ho:o.op<;>rw[ho]at e one lst<;>(try dsimp only at e |-)<;>try (cases e;done)
 case move y=>rw[one y (by simp[Op.operands])];exact e
 case pick c a b=>rw[one c (by simp[Op.operands]),one a (by simp[Op.operands]),one b (by simp[Op.operands])];exact e
 case build t parts=>rw[Nc (fun t q=>hT t (by rw[ho];simp only[Op.operands,aFt];exact q))];exact e
 case load t y=>
  rw[one y (by simp[Op.operands])];split at e<;>try cases e
  rename_i u hu;unfold lH at e |-;split at e<;>try cases e
  rename_i hc;rw[asA L hc];exact e
 case nilCheck y=>rw[one y (by simp[Op.operands])];exact e
 case binOp op t y z yt=>rw[one y (by simp[Op.operands]),one z (by simp[Op.operands])];exact e
 case unOp op t y=>rw[one y (by simp[Op.operands])];exact e
 case convert s d y=>rw[one y (by simp[Op.operands])];exact e
 case makeFunc fn a b=>
  cases fn<;>(try dsimp only at e |-)<;>try (cases e;done)
  rw[lst a.toList (by intro z hz;simp only[Op.operands];exact aFK.2 (.inl (aES.1 hz))),lst b.toList (by intro z hz;simp only[Op.operands];exact aFK.2 (.inr (aES.1 hz)))];exact e
 case slice t y lo hi mx=>
  cases mx<;>(try dsimp only at e |-)<;>try (cases e;done)
  rw[one y (by simp[Op.operands])];split at e<;>try cases e
  rename_i hu;refine ast L e ?_ ?_
  .cases lo with|none=>rfl|some z=>simp only[dN];rw[one z (by simp[Op.operands])]
  .cases hi with|none=>rfl|some z=>simp only[dN];rw[one z (by simp[Op.operands])]
 case fieldAddr t y f=>rw[one y (by simp[Op.operands])];exact e
 case field t y f=>rw[one y (by simp[Op.operands])];exact e
 case indexAddr t y i=>
  rw[one y (by simp[Op.operands]),one i (by simp[Op.operands])];split at e<;>try cases e
  exact arQ L e
 case index t y i=>rw[one y (by simp[Op.operands]),one i (by simp[Op.operands])];exact e
 case extract t i=>rw[one t (by simp[Op.operands])];exact e
 case lookup t y i ck=>
  rw[one y (by simp[Op.operands]),one i (by simp[Op.operands])];split at e<;>try cases e
  split at e<;>cases e;rename_i v hv;rw[as6 L hv]
 case call c=>
  split at e<;>try cases e
  rename_i b hb;rw[lst c.args.toList (by intro z hz;simp only[Op.operands,Call.operands,hb];simpa using hz)];split at e<;>try cases e
  rename_i vs hvs;split at e<;>cases e;rename_i v hv;rw[arS L hv]
def kp(ops:Array Oper)(T:Tr AV)(o:Oper):Option Bool:=match o.guard with
 |none=>some true|some (j,want)=>match nth ops.toList j with
  |some oj=>match oj.dst with
   |some t=>match T.get t with
    |some (.bool b)=>some (match b with|true=>want|false=>!want)
    |some (.bB [])=>some false|_=>none
   |none=>none
  |none=>none
theorem xM{ops:Array Oper}{T T':Tr AV}{o:Oper}(h:∀t∈looks ops.toList o,T'.get t=T.get t):kp ops T' o=kp ops T o:=by
 unfold kp;split
 .rfl
 .rename_i j want hg;split
  .rename_i oj hj;split
   .rename_i t ht;rw[h t (qK (ops:=ops) hg (by rw[ct]at hj;simpa using hj) ht)]
   .rfl
  .rfl
theorem Nq{ops:Array Oper}{T:Tr AV}{o:Oper}{b:Bool}(e:kp ops T o=some b){X:Cx}{a:Act}(R:∀t∈looks ops.toList o,∀v,T.get t=some v->∃V,a.tmps[t]?=some V/\Rel X v V) :
  Region.wanted o (yielded ops a.tmps)=b:=by
 unfold kp at e;unfold Region.wanted;split at e
 .rename_i hg;grind
 .rename_i j want hg;split at e<;>try cases e
  rename_i oj hj;split at e<;>try cases e
  rename_i t ht;have hj':ops[j]?=some oj:=by rw[ct]at hj;simpa using hj
  have hl:=qK (ops:=ops) hg hj' ht;rw[hg];split at e<;>cases e
  .rename_i c hv;obtain⟨V,h1,h2⟩:=R t hl _ hv;rw[show V=_ from h2]at h1;cases c<;>cases want<;>simp[yielded,hj',ht,h1]
  .rename_i hv;obtain⟨V,h1,cs,rfl,h2⟩:=R t hl _ hv;simp[yielded,hj',ht,h1]
theorem arW{R:Type}{ops:Array Oper}{T:Tr AV}{o:Oper}{k:Bool->Tr AV->Option R}{r:R}(e:uQ ops T o k=some r):∃b T',k b T'=some r/\(∀t,T'.get t=T.get t)/\kp ops T o=some b:=by
 unfold uQ at e;unfold kp;split at e
 .rename_i hg
  grind
 .rename_i j want hg
  try rw[hg]
  split at e<;>try cases e
  rename_i oj hj;split at e<;>try cases e
  rename_i t ht;split at e<;>try cases e
  rename_i v hv;simp only[hj,ht,hv];split at e
  .rename_i b;have same:∀{T':Tr AV},Tr.set FT T t (some (.bool b))=some T'->∀u,T'.get u=T.get u:=by
    intro T' hs u;rw[Tr.bM _ _ _ _ _ hs u]
    grind
   rcases FM e with⟨hb,e2⟩|⟨hb,e2⟩
   .subst hb
    grind
   grind
  .exact⟨false,T,e,fun _=>rfl,rfl⟩
  .cases e
def oG{α:Type}(f:α->α->Bool):List α->List α->Bool
 |[],[]=>true|x::l,y::m=>match f x y with|true=>oG f l m|false=>false
 |_,_=>false
theorem ND{α:Type}{f:α->α->Bool}(h:∀x y,f x y=true->x=y):∀{l m:List α},oG f l m=true->l=m
 |[],[],_=>rfl|x::l,y::m,q=>by
  simp only[oG]at q;split at q
  .rename_i hx;rw[h x y hx,ND h q]
  .cases q
 |[],_::_,q=>by simp[oG]at q|_::_,[],q=>by simp[oG]at q
theorem GX{α:Type}{f:α->α->Bool}(h:∀x,f x x=true):∀l:List α,oG f l l=true
 |[]=>rfl|x::l=>by simp only[oG,h x];exact GX h l
def FY(a b:Int):Bool:=decide (a=b)
def Kw(a b:Bool):Bool:=decide (a=b)
theorem afa{a b:Int}(h:FY a b=true):a=b:=Pi h
theorem ate{a b:Bool}(h:Kw a b=true):a=b:=Pi h
mutual
def Sh.beq:(σ:Sh)->σ.T->σ.T->Bool
 |.int _,a,b=>FY a b|.bool,a,b=>Kw a b|.str,a,b=>Ev.vO a b|.agg l,a,b=>ui l a b|.sl s,a,b=>oG s.beq a b
termination_by structural x=>x
def ui:(l:List Sh)->TL l->TL l->Bool
 |[],_,_=>true|s::l,a,b=>match s.beq a.1 b.1 with|true=>ui l a.2 b.2|false=>false
termination_by structural x=>x
end
mutual
theorem Sh.beq_eq:∀{σ:Sh}{a b:σ.T},σ.beq a b=true->a=b
 |.int _,a,b,h=>afa h|.bool,a,b,h=>ate h|.str,a,b,h=>Ev.N2 h|.agg l,a,b,h=>WD (l:=l) h|.sl s,a,b,h=>ND (fun x y q=>Sh.beq_eq q) h
theorem WD:∀{l:List Sh}{a b:TL l},ui l a b=true->a=b
 |[],a,b,_=>rfl|s::l,a,b,h=>by
  simp only[ui]at h;split at h
  .rename_i q;exact Prod.ext (Sh.beq_eq q) (WD h)
  .cases h
end
def aio{τ τ':Sh}(h:τ.eqv τ'=true)(x:τ.T):τ'.T:=Sh.ej h▸x
mutual
def fS:AV->AV->Option Bool
 |.bool a,v=>match v with|.bool b=>some (decide (a=b))|_=>none
 |.int k a,v=>match v with|.int k' b=>(match j9 k k' with|true=>some (decide (a=b))|false=>none)|_=>none
 |.str a,v=>match v with|.str b=>some (Ev.vO a b)|_=>none
 |.cX,v=>match v with|.cX=>some true|_=>none
 |.ai,v=>match v with|.ai=>some true|_=>none
 |.dt,v=>match v with|.dt=>some true|_=>none
 |.dn,v=>match v with|.dn=>some true|_=>none
 |.dW,v=>match v with|.dW=>some true|_=>none
 |.jl,_=>none|.ptr b o,v=>match v with|.ptr b' o'=>(match Nat.beq b b',Nat.beq o o' with|true,true=>some true|_,_=>none)|_=>none
 |.dK b i z o,v=>match v with|.dK b' i' z' o'=>(match Nat.beq b b',Nat.beq z z',Nat.beq o o' with|true,true,true=>some (decide (i=i'))|_,_,_=>none)|_=>none
 |.fF σ d o,v=>match v with|.fF σ' d' o'=>(match e:σ.eqv σ',Nat.beq o o' with|true,true=>some (σ'.beq (aio e d) d')|_,_=>none)|_=>none
 |.hd b τ,v=>match v with|.hd b' τ'=>(match Nat.beq b b',τ.eqv τ' with|true,true=>some true|_,_=>none)|_=>none
 |.vw b τ o n,v=>match v with|.vw b' τ' o' n'=>(match Nat.beq b b',τ.eqv τ' with|true,true=>some (both (decide (o=o')) (decide (n=n')))|_,_=>none)|_=>none
 |.fz τ L,v=>match v with|.fz τ' L'=>(match e:τ.eqv τ' with|true=>some (oG τ'.beq (j7 e L) L')|false=>none)|_=>none
 |.func f x c,v=>match v with|.func f' x' c'=>(match Nat.beq f f',ql x x',ql c c' with|true,some p,some q=>some (both p q)|_,_,_=>none)|_=>none
 |.eg _ _ _,_=>none|.mp b,v=>match v with|.mp b'=>(match Nat.beq b b' with|true=>some true|false=>none)|_=>none
 |.ez b,v=>match v with|.ez b'=>(match Nat.beq b b' with|true=>some true|false=>none)|_=>none
 |.rp b i,v=>match v with|.rp b' i'=>(match Nat.beq b b' with|true=>some (decide (i=i'))|false=>none)|_=>none
 |.ra b i,v=>match v with|.ra b' i'=>(match Nat.beq b b' with|true=>some (decide (i=i'))|false=>none)|_=>none
 |.agg l,v=>match v with|.agg m=>ql l m|_=>none
 |.bB l,v=>match v with|.bB m=>ql l m|_=>none
termination_by structural x=>x
def ql:List AV->List AV->Option Bool
 |[],m=>match m with|[]=>some true|_=>none
 |x::l,m=>match m with
  |y::m=>(match fS x y,ql l m with|some p,some q=>some (both p q)|_,_=>none)
  |[]=>none
termination_by structural x=>x
end
mutual
theorem UI:∀{a b:AV},fS a b=some true->a=b
 |.bool a,b,h=>by cases b<;>simp only[fS]at h<;>first|(cases h;done)|(simp only[bo,In]at h;rw[h])
 |.int k a,b,h=>by
  cases b<;>simp only[fS]at h<;>first|(cases h;done)|skip
  split at h<;>try cases h
  rename_i hk;simp only[bo,In]at h;rw[my hk,h]
 |.str a,b,h=>by cases b<;>simp only[fS]at h<;>first|(cases h;done)|(simp only[bo]at h;rw[Ev.N2 h])
 |.cX,b,h=>by cases b<;>simp only[fS]at h<;>first|rfl|cases h
 |.ai,b,h=>by cases b<;>simp only[fS]at h<;>first|rfl|cases h
 |.dt,b,h=>by cases b<;>simp only[fS]at h<;>first|rfl|cases h
 |.dn,b,h=>by cases b<;>simp only[fS]at h<;>first|rfl|cases h
 |.dW,b,h=>by cases b<;>simp only[fS]at h<;>first|rfl|cases h
 |.jl,b,h=>by simp only[fS]at h;cases h
 |.ptr x o,b,h=>by
  cases b<;>simp only[fS]at h<;>first|(cases h;done)|skip
  split at h<;>try cases h
  rename_i h1 h2;rw[aK h1,aK h2]
 |.dK x i z o,b,h=>by
  cases b<;>simp only[fS]at h<;>first|(cases h;done)|skip
  split at h<;>try cases h
  rename_i h1 h2 h3;simp only[bo,In]at h;rw[aK h1,aK h2,aK h3,h]
 |.fF σ d o,b,h=>by
  cases b<;>simp only[fS]at h<;>first|(cases h;done)|skip
  split at h<;>try cases h
  rename_i σ' d' o' h1 h2;simp only[bo]at h;have h:=Sh.beq_eq h;rw[aK h2,<-h];have:=Sh.ej h1;subst this;rfl
 |.hd x τ,b,h=>by
  cases b<;>simp only[fS]at h<;>first|(cases h;done)|skip
  split at h<;>try cases h
  rename_i h1 h2;rw[aK h1,Sh.ej h2]
 |.vw x τ o n,b,h=>by
  cases b<;>simp only[fS]at h<;>first|(cases h;done)|skip
  split at h<;>try cases h
  rename_i h1 h2;simp only[bo]at h;obtain⟨h3,h4⟩:=nz h;simp only[In]at h3 h4;rw[aK h1,Sh.ej h2,h3,h4]
 |.fz τ L,b,h=>by
  cases b<;>simp only[fS]at h<;>first|(cases h;done)|skip
  split at h<;>try cases h
  rename_i τ' L' h1;simp only[bo]at h;have h:=ND (fun x y q=>Sh.beq_eq q) h;rw[<-h];have:=Sh.ej h1;subst this;rfl
 |.func f x c,b,h=>by
  cases b<;>simp only[fS]at h<;>first|(cases h;done)|skip
  split at h<;>try cases h
  rename_i p q h1 h2 h3;simp only[bo]at h;obtain⟨h4,h5⟩:=nz h;subst h4;subst h5;rw[aK h1,xY h2,xY h3]
 |.eg _ _ _,b,h=>by simp only[fS]at h;cases h
 |.mp x,b,h=>by
  cases b<;>simp only[fS]at h<;>first|(cases h;done)|skip
  split at h<;>try cases h
  rename_i h1;rw[aK h1]
 |.ez x,b,h=>by
  cases b<;>simp only[fS]at h<;>first|(cases h;done)|skip
  split at h<;>try cases h
  rename_i h1;rw[aK h1]
 |.rp x i,b,h=>by
  cases b<;>simp only[fS]at h<;>first|(cases h;done)|skip
  split at h<;>try cases h
  rename_i h1;simp only[bo,In]at h;rw[aK h1,h]
 |.ra x i,b,h=>by
  cases b<;>simp only[fS]at h<;>first|(cases h;done)|skip
  split at h<;>try cases h
  rename_i h1;simp only[bo,In]at h;rw[aK h1,h]
 |.agg l,b,h=>by cases b<;>simp only[fS]at h<;>first|(cases h;done)|(rw[xY h])
 |.bB l,b,h=>by cases b<;>simp only[fS]at h<;>first|(cases h;done)|(rw[xY h])
theorem xY:∀{a b:List AV},ql a b=some true->a=b
 |[],b,h=>by cases b<;>simp only[ql]at h<;>first|rfl|cases h
 |x::l,b,h=>by
  cases b<;>simp only[ql]at h<;>first|(cases h;done)|skip
  split at h<;>try cases h
  rename_i p q h1 h2;simp only[bo]at h;obtain⟨h4,h5⟩:=nz h;subst h4;subst h5;rw[UI h1,xY h2]
end
def Ax(ts:jp):jp->Bool
 |[]=>true|x::l=>match iW x ts with|true=>false|false=>Ax ts l
theorem Zwt{ts:jp}:∀{l:jp},Ax ts l=true->∀x∈l,x∉ts
 |[],_,x,hx=>by cases hx
 |y::l,h,x,hx=>by
  simp only[Ax]at h;split at h<;>try cases h
  rename_i q;rcases AT.1 hx with rfl|hx
  .intro r;rw[pM.2 r]at q;cases q
  .exact Zwt h x hx
def qW(q:Nat):List Oper->List PE->jp
 |o::l,pe::ps=>match pe with|.w _=>qW q l ps|.p lo _=>match Nat.beq lo q,o.dst with|true,some t=>t::qW q l ps|_,_=>qW q l ps
 |_,_=>[]
theorem Zwb{q:Nat}:∀{os:List Oper}{ps:List PE}{x:Nat}{o:Oper}{hi:Nat}{t:Tmp},os[x]?=some o->ps[x]?=some (.p q hi)->o.dst=some t->t∈qW q os ps
 |[],ps,x,o,hi,t,h,_,_=>by simp at h|o'::os,[],x,o,hi,t,_,h,_=>by simp at h|o'::os,pe::ps,x,o,hi,t,h1,h2,h3=>by
  simp only[qW];cases x with
  |zero=>
   simp at h1 h2
   simp_all
  |succ x=>
   have:=Zwb (q:=q) (x:=x) (by simpa using h1) (by simpa using h2) h3
   grind
def dl:Option Tmp->jp|some t=>[t]|none=>[]
def vA(n:Nat):List Oper->Bool
 |[]=>true|o::l=>match o.dst with
  |some t=>match Nat.blt t n with|true=>vA n l|false=>false
  |none=>vA n l
theorem NK{n:Nat}:∀{os:List Oper},vA n os=true->∀(x:Nat) (o:Oper) (t:Tmp),os[x]?=some o->o.dst=some t->t<n
 |[],_,x,o,t,h,_=>by simp at h|o'::os,h,x,o,t,h1,h2=>by
  simp only[vA]at h;cases x with
  |zero=>
   simp at h1;subst h1;simp only[h2]at h;split at h<;>try cases h
   simp_all
  |succ x=>
   have h1:os[x]?=some o:=by grind
   split at h
   .split at h<;>try cases h
    exact NK h x o t h1 h2
   .exact NK h x o t h1 h2
def oX:List Oper->List PE->jp->Bool
 |o::l,pe::ps,seen=>match o.dst with
  |some t=>match iW t seen with|true=>false|false=>oX l ps (t::seen)
  |none=>match pe with|.w _=>oX l ps seen|.p _ _=>match fw o.op with|true=>false|false=>oX l ps seen
 |_,_,_=>true
theorem DL:∀{os:List Oper}{ps:List PE}{seen:jp},oX os ps seen=true->os.length=ps.length->∀(x:Nat) (o:Oper) (t:Tmp),os[x]?=some o->o.dst=some t->t∉seen
 |[],ps,seen,_,_,x,o,t,h,_=>by simp at h|o'::os,[],seen,_,h,x,o,t,_,_=>by simp at h|o'::os,pe::ps,seen,h,hl,x,o,t,h1,h2=>by
  simp only[oX]at h;simp only[cF,Nat.add_right_cancel_iff]at hl;cases x with
  |zero=>
   simp at h1;subst h1;simp only[h2]at h;split at h<;>try cases h
   rename_i q;intro r;rw[pM.2 r]at q;cases q
  |succ x=>
   have h1:os[x]?=some o:=by grind
   split at h
   .split at h<;>try cases h
    exact fun r=>DL h hl x o t h1 h2 (aFl _ r)
   .split at h
    .exact DL h hl x o t h1 h2
    .split at h<;>try cases h
     exact DL h hl x o t h1 h2
theorem Zyg:∀{os:List Oper}{ps:List PE}{seen:jp},oX os ps seen=true->os.length=ps.length->(∀(x y:Nat) (o o':Oper) (t:Tmp),os[x]?=some o->os[y]?=some o'->o.dst=some t->o'.dst=some t->x=y) /\
  ∀(x:Nat) (o:Oper) (lo hi:Nat),os[x]?=some o->ps[x]?=some (.p lo hi)->fw o.op=true->∃t,o.dst=some t
 |[],ps,seen,_,_=>⟨fun x y o o' t h=>by simp at h,fun x o lo hi h=>by simp at h⟩|aIk::os,[],seen,_,h=>by simp at h|aIk::os,pe::ps,seen,h,hl=>by
  simp only[oX]at h;simp only[cF,Nat.add_right_cancel_iff]at hl;have main:∀seen',oX os ps seen'=true->(∀t,aIk.dst=some t->t∈seen')->(aIk.dst=none->∀lo hi,pe=.p lo hi->fw aIk.op=false) ->
    (∀(x y:Nat) (o o':Oper) (t:Tmp),(aIk::os)[x]?=some o->(aIk::os)[y]?=some o'->o.dst=some t->o'.dst=some t->x=y) /\
    ∀(x:Nat) (o:Oper) (lo hi:Nat),(aIk::os)[x]?=some o->(pe::ps)[x]?=some (.p lo hi)->fw o.op=true->∃t,o.dst=some t:=by
   intro seen' hk aU hmk;obtain⟨r1,r2⟩:=Zyg hk hl;have sn:=DL hk hl
   grind
  grind
section
variable{R:Type}(P:Program)(sh:TypeId->Option Sh)(call:iB R)
def Ib(n:Nat)(ops:Array Oper)(o:Oper)(st:St)(k:St->Option R):Option R:=uQ ops st.T o fun b T=>match b with
 |false=>match dG n T o.dst (.bB [])with|some T=>k ⟨T,st.h⟩|none=>none
 |true=>match ja P sh T st.h st.h.next o.op with
  |some (g,ob,v)=>match Tr.set FT st.h.tr st.h.next (some ob),dG n T o.dst v with|some tr,some T=>aq g (k ⟨T,⟨tr,st.h.next+1⟩⟩)|_,_=>none
  |none=>match jz P T st.h o with
   |some (g,v)=>match dG n T o.dst v with|some T=>aq g (k ⟨T,st.h⟩)|none=>none
   |none=>none
def oH(n:Nat)(ops:Array Oper)(q:Nat):List Oper->List PE->St->(St->Option R)->Option R
 |o::l,pe::ps,st,k=>match pe with|.w _=>oH n ops q l ps st k|.p lo _=>match Nat.beq lo q with|false=>oH n ops q l ps st k|true=>Ib P sh n ops o st fun st=>oH n ops q l ps st k
 |_,_,st,k=>k st
def mz(ops:Array Oper)(q:Nat)(ch:Bool)(ts:jp)(st:St):List Oper->List PE->Option R->Option R
 |o::l,pe::ps,k=>match pe with
  |.w _=>mz ops q ch ts st l ps k|.p lo hi=>match Nat.blt lo q,Nat.ble q hi with
   |true,true=>match Ax ts (looks ops.toList o)with
    |false=>none|true=>match ch,fw o.op with
     |true,false=>match kp ops st.T o with
      |some true=>match jz P st.T st.h o,o.dst with
       |some (g,v),some t=>match st.T.get t with
        |some u=>match fS u v with|some s=>aq g (aq s (mz ops q ch ts st l ps k))|none=>none
        |none=>none
       |some (g,v),none=>aq g (mz ops q ch ts st l ps k)|_,_=>none
      |some false=>mz ops q ch ts st l ps k|none=>none
     |_,_=>mz ops q ch ts st l ps k
   |_,_=>mz ops q ch ts st l ps k
 |_,_,k=>k
def zY(n:Nat)(ops:Array Oper)(pl:List PE):Nat->Nat->St->(St->Option R)->Option R
 |0,_,st,k=>k st|r+1,q,st,k=>match mR (q+1) ops.toList pl with|some o=>Aj P sh call n ops o st fun ch aIt=>oH P sh n ops (q+1) ops.toList pl aIt fun aIu=>mz P ops (q+1) ch (dl o.dst++qW (q+1) ops.toList pl) aIu ops.toList pl (zY n ops pl r (q+1) aIu k)|none=>none
def FO(n:Nat)(ops:Array Oper)(st:St)(k:St->Option R):Option R:=match sY ops.toList (kL ops.toList)with
 |some m=>match oX ops.toList (kL ops.toList) [],vA n ops.toList with|true,true=>oH P sh n ops 0 ops.toList (kL ops.toList) st fun st=>zY P sh call n ops (kL ops.toList) m 0 st k|_,_=>none
 |none=>none
end
def PN(P:Program)(sh:TypeId->Option Sh)(ops:Array Oper)(b:Nat)(T:Tr AV)(h:Hp)(o:Oper)(v:AV):Prop:=
 (kp ops T o=some false/\v=.bB [])\/(kp ops T o=some true/\fw o.op=false/\jz P T h o=some (true,v)) \/
 (kp ops T o=some true/\fw o.op=true/\∃id ob,ja P sh T h id o.op=some (true,ob,v)/\h.tr.get id=some ob/\id<h.next/\b<=id)
theorem PN.congr{P:Program}{sh:TypeId->Option Sh}{ops:Array Oper}{b b':Nat}{T T':Tr AV}{h h':Hp}{o:Oper}{v:AV}(p:PN P sh ops b T h o v)(hT:∀t∈looks ops.toList o,T'.get t=T.get t)(hh:eF h h')(hn:h.next<=h'.next)(hb:b'<=b):PN P sh ops b' T' h' o v:=by
 have hw:=xM (ops:=ops) (T:=T) (T':=T') hT;have hO:∀t,.tmp t∈o.op.operands->T'.get t=T.get t:=fun t q=>hT t (mw q);rcases p with⟨h1,h2⟩|⟨h1,h2,h3⟩|⟨h1,h2,id,ob,h3,h4,h5,h6⟩
 .exact .inl ⟨hw.trans h1,h2⟩
 .exact .inr (.inl ⟨hw.trans h1,h2,NV hh h3 hO⟩)
 .exact .inr (.inr ⟨hw.trans h1,h2,id,ob,NZ h3 hO,hh _ _ h4,ro h5 hn,rt hb h6⟩)
