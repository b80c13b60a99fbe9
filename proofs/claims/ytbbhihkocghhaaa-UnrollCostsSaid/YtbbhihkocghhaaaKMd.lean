import Derived.Test.YtbbhihkocghhaaaKMc
set_option linter.all false
section
namespace Go.Proofs.Ytbbhihkocghhaaa.V
open Go Go.RowKit
open Go.Proofs.Ytbbhihkocghhaaa.Ev (Tr Tr.bE nth bW)
structure St where
 T:Tr AV
 h:Hp
structure fT(X:Cx)(n:Nat)(T:Tr AV)(a:Act):Prop where
 size:a.tmps.size=n
 defers:a.defers=[]
 get:∀t v,T.get t=some v->∃V,a.tmps[t]?=some V/\Rel X v V
structure RF(X:Cx)(n:Nat)(st:St)(a:Act):Prop where
 h:X.h=st.h
 T:fT X n st.T a
 H:ab X
def cW(n:Nat)(T:Tr AV)(d:Option Tmp)(v:AV):Option (Tr AV):=match d with|none=>some T|some t=>match Nat.blt t n with|true=>Tr.set FT T t (some v)|false=>none
variable{X:Cx}{T:Tr AV}{n:Nat}{a:Act}
theorem fT.ext{X':Cx}(R:fT X n T a)(E:fp X X'):fT X' n T a:=⟨R.size,R.defers,fun t v h=>let⟨V,h1,h2⟩:=R.get t v h;⟨V,h1,h2.ext E⟩⟩
variable{T':Tr AV}{v:AV}{d:Option Tmp}
theorem jN(h:cW n T d v=some T'):∀t,T'.get t=if d=some t then some v else T.get t:=by
 intro t;unfold cW at h;split at h
 .simp at h;subst h;simp
 .rename_i x;split at h<;>try cases h
  rw[Tr.bE _ _ _ _ _ h t]
  grind
theorem BK{t:Tmp}(h:cW n T (some t) v=some T'):t<n:=by
 simp only[cW]at h;split at h<;>try cases h
 simp_all
theorem fT.put{V:Value}(R:fT X n T a)(hv:Rel X v V)(h:cW n T d v=some T'):fT X n T' (a.put d V):=by
 have hg:=jN h;cases d with
 |none=>refine⟨R.size,R.defers,?_⟩;intro t u hu;rw[hg t]at hu;simp at hu;exact R.get t u hu|some t=>
  have hlt:=BK h;refine⟨by simp[Act.put,R.size],by simp[Act.put,R.defers],?_⟩;intro u x hu;rw[hg u]at hu;simp only[Act.put,Id];by_cases q:t=u
  .subst q;simp at hu;subst hu;exact⟨V,by simp[R.size,hlt],hv⟩
  .rw[qr (by grind)]at hu;rw[qr q];exact R.get u x hu
def dF(h h':Hp):Prop:=∀b o,h.tr.get b=some o->h'.tr.get b=some o
theorem dF.refl(h:Hp):dF h h:=fun _ _ q=>q
theorem dF.trans{a b c:Hp}(x:dF a b)(y:dF b c):dF a c:=fun i o q=>y i o (x i o q)
abbrev gk(R:Type):=FuncId->List AV->Hp->(Bool->AV->Hp->Option R)->Option R
def vi(P:Program)(f:FuncId)(vs:List AV)(h:Hp)(v:AV)(h':Hp):Prop:=
 (∃fn c,P.funcs[f]?=some fn/\(fn.name == "runtime.NumGoroutine")=false/\fn.body=some c) /\
 ∀X args,X.h=h->ab X->bc X vs args->Calls P f (List.toArray args) X.w fun e w'=>∃X' V,e=.returned V/\X'.w=w'/\X'.h=h'/\ab X'/\aB X X'/\Rel X' v V
def dM(P:Program){R:Type}(call:gk R):Prop:=∀f vs h k r,call f vs h k=some r->∃ch v h',k ch v h'=some r/\(ch=false->dF h h')/\vi P f vs h v h'
def ak{R:Type}(g:Bool)(r:Option R):Option R:=match g with|true=>r|false=>none
def br{R:Type}(b:Bool)(x y:Option R):Option R:=match b with|true=>x|false=>y
theorem mR{R:Type}{g:Bool}{x:Option R}{r:R}(h:ak g x=some r):g=true/\x=some r:=by
 cases g
 .cases h
 .exact⟨rfl,h⟩
theorem AZ{R:Type}{b:Bool}{x y:Option R}{r:R}(h:br b x y=some r):(b=true/\x=some r)\/(b=false/\y=some r):=by
 cases b
 .exact .inr ⟨rfl,h⟩
 .exact .inl ⟨rfl,h⟩
def Ub:Op->Bool|.buildSlice _ _ _=>true|_=>false
def post(sh:TypeId->Option Sh)(n:Nat)(o:Oper)(st:St):Option St:=match Ub o.op with
 |false=>some st|true=>match sh 1000000000 with
  |none=>some st|some _=>match o.dst with
   |none=>some st|some t=>match st.T.get t with
    |some (.hd b τ)=>match oD true st.h (.sl τ) (.hd b τ)with
     |some (d,h')=>match cW n st.T (some t) (.fz τ d)with|some T=>some ⟨T,h'⟩|none=>none
     |none=>none
    |_=>some st
variable{o:Oper}{st:St}
theorem Pj{sh:TypeId->Option Sh}{st':St}(h:post sh n o st=some st')(R:RF X n st a):∃X',X'.w=X.w/\RF X' n st' a/\aB X X':=by
 have triv:∀{s:St},some s=some st'->s=st->∃X',X'.w=X.w/\RF X' n st' a/\aB X X':=by intro s e q;cases e;subst q;exact⟨X,rfl,R,aB.refl X⟩
 unfold post at h;split at h
 .exact triv h rfl
 split at h
 .exact triv h rfl
 split at h
 .exact triv h rfl
 rename_i t hdt;split at h
 .rename_i b τ hg;split at h<;>try cases h
  rename_i d h' hf;split at h<;>cases h;rename_i T hT;obtain⟨V,hV,RV⟩:=R.T.get t _ hg;rw[<-R.h]at hf;obtain⟨Fz,hd⟩:=Cb R.H hf RV;refine⟨⟨X.s,h',X.w,X.A⟩,rfl,⟨rfl,?_,Fz.H⟩,Fz.E⟩;have R':=R.T.ext (Fz.E.dw R.H);refine⟨R'.size,R'.defers,?_⟩;intro u x hu;rw[jN hT u]at hu;by_cases q:t=u
  .subst q;rw[ut rfl]at hu;cases hu;exact⟨V,hV,zp (σ:=.sl τ) hd⟩
  .rw[qr (by grind)]at hu;exact R'.get u x hu
 .exact triv h rfl
section
variable{R:Type}(P:Program)(sh:TypeId->Option Sh)(call:gk R)
def Mp(o:Oper):Bool:=match o.op with|.assign _=>true|_=>false
def Cv(T:Tr AV)(h:Hp)(o:Oper)(k:Bool->AV->Hp->Option R):Option R:=match mP T o with
 |some (f,vs)=>call f vs h k|none=>match nv P sh T h o with
  |some (g,v,h')=>ak g (k (!Mp o) v h')|none=>match gX P sh T h h.next o.op with
   |some (g,ob,v)=>match Tr.set FT h.tr h.next (some ob)with|some tr=>ak g (k true v ⟨tr,h.next+1⟩)|none=>none
   |none=>match iD P T h o with|some (g,v)=>ak g (k false v h)|none=>none
def qy(ops:Array Oper)(T:Tr AV)(o:Oper)(k:Bool->Tr AV->Option R):Option R:=match o.guard with
 |none=>k true T|some (j,want)=>match nth ops.toList j with
  |some oj=>match oj.dst with
   |some t=>match T.get t with
    |some v=>match v with
     |.bool b=>br b (match Tr.set FT T t (some (.bool true))with|some T=>k want T|none=>none) (match Tr.set FT T t (some (.bool false))with|some T=>k (!want) T|none=>none)
     |.bD []=>k false T|_=>none
    |none=>none
   |none=>none
  |none=>none
def vM(n:Nat)(ops:Array Oper)(o:Oper)(st:St)(k:Bool->St->Option R):Option R:=qy ops st.T o fun b T=>match b with
 |true=>Cv P sh call T st.h o fun ch v h'=>match cW n T o.dst v with|some T=>k ch ⟨T,h'⟩|none=>none
 |false=>match cW n T o.dst (.bD [])with|some T=>k false ⟨T,st.h⟩|none=>none
def BS(n:Nat)(ops:Array Oper)(o:Oper)(st:St)(k:St->Option R):Option R:=vM P sh call n ops o st fun _ st=>match post sh n o st with|some st=>k st|none=>none
def vU(n:Nat)(ops:Array Oper):List Oper->St->(St->Option R)->Option R
 |[],st,k=>k st|o::l,st,k=>BS P sh call n ops o st fun st=>vU n ops l st k
end
def vh(P:Program)(T:Tr AV)(h:Hp)(o:Oper)(v:AV)(h':Hp):Prop:=∀X a,X.h=h->ab X->fA X T a o.op->∀(K:Act->World->Prop) (Q:Exit->Act->World->Prop),
 (∀X' V,aB X X'->ab X'->X'.h=h'->Rel X' v V->K (a.put o.dst V) X'.w)->o.wp P a X.w K Q
theorem Yc{R:Type}{P:Program}{sh:TypeId->Option Sh}{call:gk R}(hc:dM P call){h:Hp}{k:Bool->AV->Hp->Option R}{r:R}(e:Cv P sh call T h o k=some r) :
  ∃ch v h',k ch v h'=some r/\(ch=false->dF h h')/\vh P T h o v h':=by
 unfold Cv at e;split at e
 .rename_i f vs hw;obtain⟨ch,v,h',hk,hch,⟨fn,c,hf,hn,hb⟩,hcall⟩:=hc f vs h k r e;refine⟨ch,v,h',hk,hch,?_⟩;intro X a hX H hO K Q hK;obtain⟨Vs,hrun,hR⟩:=ze hw hO hf hn hb X.w;unfold Oper.wp;rw[hrun,Oper.upon_enter];refine(hcall X Vs hX H hR).mono ?_
  grind
 .split at e
  .rename_i g v h' hr;obtain⟨hg,hk⟩:=mR e;refine⟨_,v,h',hk,?_,?_⟩
   .intro hs;unfold Mp at hs;split at hs
    .rename_i x ho;unfold nv at hr;rw[ho]at hr;simp only[]at hr;split at hr<;>cases hr;exact dF.refl h
    .cases hs
   intro X a hX H hO K Q hK;subst hX;obtain⟨X',n,V,hrun,hgv,h1,h2,h3,h4⟩:=zy H hr hg hO;unfold Oper.wp;rw[hrun];rcases hgv with rfl|⟨rfl,rfl⟩
   .exact hK X' V h3 h2 h1 h4
   .exact hK X' undef h3 h2 h1 h4
  .split at e
   .rename_i g ob v ha;split at e<;>try cases e
    rename_i tr ht;obtain⟨hg,hk⟩:=mR e;refine⟨_,v,_,hk,(fun q=>by cases q),?_⟩;intro X a hX H hO K Q hK;subst hX;obtain⟨c,ob',V,hrun,hm⟩:=tO H ha hg hO;have E:=Md (c:=c) (ob:=ob') H ht;have hg:=Tr.bE FT X.h.tr X.h.next _ tr ht;have M:Made X ⟨aQ X.s X.h.next (.at X.w.heap.size c),⟨tr,X.h.next+1⟩,{ X.w with heap:=X.w.heap.push ob' },X.A⟩ X.h.next c ob ob':=⟨E.dw H,rfl,cE _ _ _,by show tr.get _=_;rw[hg,ut rfl]⟩;obtain⟨q1,q2⟩:=hm _ M;unfold Oper.wp;rw[hrun];exact hK _ V E (H.new ht q1) rfl q2
   .split at e<;>try cases e
    rename_i g v hr;obtain⟨hg,hk⟩:=mR e;refine⟨_,v,h,hk,(fun _=>dF.refl h),?_⟩;intro X a hX H hO K Q hK;subst hX;obtain⟨V,hrun,hR⟩:=oP H hr hg hO;unfold Oper.wp;rw[hrun];exact hK X V (aB.refl X) H rfl hR
structure vV(ops:Array Oper)(T:Tr AV)(o:Oper)(b:Bool)(T':Tr AV):Prop where
 aH:∀X n a,fT X n T a->fT X n T' a
 is:∀(X:Cx) (a:Act),(∀j w oj t v,o.guard=some (j,w)->ops[j]?=some oj->oj.dst=some t->T.get t=some v->∃V,a.tmps[t]?=some V/\Rel X v V)->Region.wanted o (yielded ops a.tmps)=b
 get:∀t v,T'.get t=some v->T.get t=some v
 get':∀t v,T.get t=some v->T'.get t=some v
variable{ops:Array Oper}
theorem Xb{R:Type}{k:Bool->Tr AV->Option R}{r:R}(e:qy ops T o k=some r):∃b T',k b T'=some r/\vV ops T o b T':=by
 unfold qy at e;split at e
 .rename_i hg;exact⟨true,T,e,fun _ _ _ h=>h,fun X a _=>by unfold Region.wanted;rw[hg],fun _ _ h=>h,fun _ _ h=>h⟩
 .rename_i j want hg;split at e<;>try cases e
  rename_i oj hj;split at e<;>try cases e
  rename_i t ht;split at e<;>try cases e
  rename_i v hv;have hj':ops[j]?=some oj:=by rw[bW]at hj;simpa using hj
  have same:∀{b:Bool}{T':Tr AV},v=.bool b->Tr.set FT T t (some (.bool b))=some T'->∀u,T'.get u=T.get u:=by
   intro b T' hb hs u;rw[Tr.bE _ _ _ _ _ hs u]
   grind
  split at e
  .rename_i b;rcases AZ e with⟨rfl,e2⟩|⟨rfl,e2⟩
   .clear e;have e:=e2;split at e<;>try cases e
    rename_i T' hset;have hs:=same (b:=true) rfl hset;refine⟨want,T',e,fun X n a R=>⟨R.size,R.defers,fun u x hu=>R.get u x (by rw[<-hs u];exact hu)⟩,?_,fun u x hu=>by rw[<-hs u];exact hu,fun u x hu=>by rw[hs u];exact hu⟩;intro X a R;obtain⟨V,h1,h2⟩:=R j want oj t _ hg hj' ht hv;rw[show V=_ from h2]at h1;unfold Region.wanted;rw[hg];cases want<;>simp[yielded,hj',ht,h1]
   .clear e;have e:=e2;split at e<;>try cases e
    rename_i T' hset;have hs:=same (b:=false) rfl hset;refine⟨!want,T',e,fun X n a R=>⟨R.size,R.defers,fun u x hu=>R.get u x (by rw[<-hs u];exact hu)⟩,?_,fun u x hu=>by rw[<-hs u];exact hu,fun u x hu=>by rw[hs u];exact hu⟩;intro X a R;obtain⟨V,h1,h2⟩:=R j want oj t _ hg hj' ht hv;rw[show V=_ from h2]at h1;unfold Region.wanted;rw[hg];cases want<;>simp[yielded,hj',ht,h1]
  .refine⟨false,T,e,fun _ _ _ h=>h,?_,fun _ _ h=>h,fun _ _ h=>h⟩;intro X a R;obtain⟨V,h1,cs,rfl,h2⟩:=R j want oj t _ hg hj' ht hv;unfold Region.wanted;rw[hg];simp[yielded,hj',ht,h1]
  .cases e
def UJ(P:Program)(n:Nat)(ops:Array Oper)(i:Nat)(st st':St):Prop:=∀X a,RF X n st a->∀(K:Act->World->Prop) (Q:Exit->Act->World->Prop),
 (∀X' a',RF X' n st' a'->aB X X'->K a' X'.w)->wpOp P ops Q i K a X.w
theorem Q4{R:Type}{P:Program}{sh:TypeId->Option Sh}{call:gk R}(hc:dM P call){k:Bool->St->Option R}{r:R}
  (e:vM P sh call n ops o st k=some r):∃ch st' b T v,k ch st'=some r/\(ch=false->dF st.h st'.h)/\vV ops st.T o b T/\cW n T o.dst v=some st'.T /\
   ((b=true/\vh P T st.h o v st'.h)\/(b=false/\v=.bD []/\st'.h=st.h)):=by
 unfold vM at e;obtain⟨b,T,e,W⟩:=Xb e;cases b with
 |true=>
  simp only[]at e;obtain⟨ch,v,h',e,hch,A⟩:=Yc hc e
  grind
 |false=>
  simp only[]at e;split at e<;>try cases e
  rename_i T' hT;exact⟨false,⟨T',st.h⟩,false,T,.bD [],e,fun _=>dF.refl _,W,hT,.inr ⟨rfl,rfl,rfl⟩⟩
theorem Xp{R:Type}{P:Program}{sh:TypeId->Option Sh}{call:gk R}(hc:dM P call){i:Nat}{k:St->Option R}{r:R}
  (e:BS P sh call n ops o st k=some r) (hi:ops[i]?=some o):∃st',k st'=some r/\UJ P n ops i st st':=by
 unfold BS at e;obtain⟨ch,st',b,T,v,e,_,W,hT,A⟩:=Q4 hc e;split at e<;>try cases e
 rename_i aeG hp;refine⟨aeG,e,?_⟩;intro X a RR K Q hK;have R':=W.aH X n a RR.T;unfold wpOp;rw[hi];simp only[];rw[W.is X a (fun j w oj t v _ _ _ hv=>RR.T.get t v hv)];rcases A with⟨rfl,A⟩|⟨rfl,rfl,hh⟩
 .simp only[abE];left;refine A X a RR.h RR.H (o9 fun t _ u hu=>R'.get t u hu) K Q ?_;intro X' V E H' hh hv;obtain⟨X'',hw,R'',E''⟩:=Pj hp (X:=X') ⟨hh,(R'.ext (E.dw RR.H)).put hv hT,H'⟩;rw[<-hw];exact hK X'' _ R'' (E.trans E'')
 .simp only[GE,abu];obtain⟨X'',hw,R'',E''⟩:=Pj hp (X:=X) ⟨by rw[hh];exact RR.h,R'.put (v:=.bD []) (V:=undef) ⟨[],rfl,rfl⟩ hT,RR.H⟩
  grind
theorem KX{R:Type}{P:Program}{sh:TypeId->Option Sh}{call:gk R}(hc:dM P call){n:Nat}{ops:Array Oper}:∀(l:List Oper) (j:Nat) (st:St) (k:St->Option R) (r:R),vU P sh call n ops l st k=some r ->
  (∀i,l[i]?=ops[j+i]?)->∃st',k st'=some r/\∀X a,RF X n st a->∀Q:Exit->Act->World->Prop,(∀X' a',RF X' n st' a'->aB X X'->Q .normal a' X'.w)->wpOps P ops Q (List.range' j l.length) a X.w
 |[],j,st,k,r,e,_=>⟨st,e,fun X a RR Q hQ=>hQ X a RR (aB.refl X)⟩|o::l,j,st,k,r,e,hl=>by
  simp only[vU]at e;obtain⟨aeF,e,S⟩:=Xp hc e (i:=j) (by have:=hl 0;simpa using this.symm);obtain⟨st',hk,rest⟩:=KX hc l (j+1) aeF k r e (by
   intro i;have:=hl (i+1)
   grind)
  refine⟨st',hk,?_⟩;intro X a RR Q hQ;rw[cq,List.range'_succ,wpOps_cons];refine S X a RR _ _ ?_;intro X' a' R' E';exact rest X' a' R' Q (fun X'' a'' R'' E''=>hQ X'' a'' R'' (E'.trans E''))
end Go.Proofs.Ytbbhihkocghhaaa.V
end
section
namespace Go.Proofs.Ytbbhihkocghhaaa.Ev
open Go Go.RowKit
structure St where
 T:Tr AV
 h:Hp
structure fT(s:Sg)(n:Nat)(T:Tr AV)(nx:Nat)(a:Act):Prop where
 size:a.tmps.size=n
 defers:a.defers=[]
 get:∀t v,T.get t=some v->a.tmps[t]?=some (ah s v)
 ws:∀t v,T.get t=some v->ws nx v=true
def cW(n nx:Nat)(T:Tr AV)(d:Option Tmp)(v:AV):Option (Tr AV):=match d with|none=>some T|some t=>match Nat.blt t n,ws nx v with|true,true=>Tr.set FT T t (some v)|_,_=>none
variable{s':Sg}{s:Sg}{T':Tr AV}{nx:Nat}{nx':Nat}{d:Option Tmp}{T:Tr AV}{v:AV}
theorem fT.put{n:Nat}{a:Act}(R:fT s n T nx a)(hs:∀i,i<nx->s' i=s i)(hn:nx<=nx')(h:cW n nx' T d v=some T') :
  fT s' n T' nx' (a.put d (ah s' v)):=by
 have old:∀t v,T.get t=some v->a.tmps[t]?=some (ah s' v):=fun t v ht=>by rw[oQ hs v (R.ws t v ht)];exact R.get t v ht
 unfold cW at h;split at h
 .simp at h;subst h;exact⟨R.size,R.defers,old,fun t v ht=>mJ hn v (R.ws t v ht)⟩
 .rename_i t;split at h<;>try cases h
  rename_i hlt hw;rw[WP]at hlt;have hg:=Tr.bE _ _ _ _ _ h;refine⟨by simp[Act.put,R.size],by simp[Act.put,R.defers],?_,?_⟩
  .intro u x hu;rw[hg u]at hu;simp only[Act.put,Id];by_cases q:u=t
   .subst q;simp at hu;subst hu;simp[R.size,hlt]
   grind
  .intro u x hu;rw[hg u]at hu;by_cases q:u=t
   .rw[ut q]at hu;grind
   .rw[qr q]at hu;exact mJ hn x (R.ws u x hu)
def oY(ops:Array Oper)(T:Tr AV)(o:Oper):Option Bool:=match o.guard with
 |none=>some true|some (j,want)=>match nth ops.toList j with
  |some oj=>match oj.dst with
   |some t=>match T.get t with
    |some v=>match v with
     |.bool b=>match b,want with|true,true=>some true|false,false=>some true|_,_=>some false
     |_=>some false
    |none=>none
   |none=>none
  |none=>none
variable{o:Oper}{b:Bool}
theorem y5{ops:Array Oper}(h:oY ops T o=some b){a:Act}
  (R:∀j w oj t v,o.guard=some (j,w)->ops[j]?=some oj->oj.dst=some t->T.get t=some v->a.tmps[t]?=some (ah s v)):Region.wanted o (yielded ops a.tmps)=b:=by
 unfold oY at h;unfold Region.wanted;split at h
 .rename_i hg;grind
 .rename_i j want hg;split at h<;>try cases h
  rename_i oj hj;split at h<;>try cases h
  rename_i t ht;split at h<;>try cases h
  rename_i v hv;have hj':ops[j]?=some oj:=by rw[bW]at hj;simpa using hj
  have:=R j want oj t v hg hj' ht hv;rw[hg];simp only[yielded,hj',Option.bind_some,ht,this];cases v with
  |bool c=>simp only[ah];cases c<;>cases want<;>simp at h<;>subst h<;>rfl
  |_=>simp at h;subst h;rfl
abbrev fY:=Sg->Prop
structure eo(F:fY)(h:Hp)(w:World)(F':fY)(h':Hp)(w':World):Prop where
 to:∀s,F s->∃s',F' s'/\Ext s h w s' h' w'
 from_:∀s',F' s'->∃s,F s/\Ext s h w s' h' w'
theorem eo.refl(F:fY)(h:Hp)(w:World):eo F h w F h w:=⟨fun s hs=>⟨s,hs,Ext.refl _ _ _⟩,fun s hs=>⟨s,hs,Ext.refl _ _ _⟩⟩
variable{w':World}{F':fY}{h':Hp}{h:Hp}
theorem eo.trans{F F'':fY}{h'':Hp}{w w'':World}(a:eo F h w F' h' w')(b:eo F' h' w' F'' h'' w''):eo F h w F'' h'' w'':=by
 constructor
 .intro s hs;obtain⟨s',hs',e⟩:=a.to s hs;obtain⟨s'',hs'',e'⟩:=b.to s' hs';exact⟨s'',hs'',e.trans e'⟩
 .intro s'' hs'';obtain⟨s',hs',e'⟩:=b.from_ s'' hs'';obtain⟨s,hs,e⟩:=a.from_ s' hs';exact⟨s,hs,e.trans e'⟩
structure RF(F:fY)(n:Nat)(T:Tr AV)(h:Hp)(a:Act)(w:World):Prop where
 ne:∃s,F s
 T:∀s,F s->fT s n T h.next a
 H:∀s,F s->ab s h w
abbrev Cl:=FuncId->List AV->Hp->Option (AV×Hp)
def dM(P:Program)(call:Cl):Prop:=∀f vs h v h',call f vs h=some (v,h')->(∃fn c,P.funcs[f]?=some fn/\(fn.name == "runtime.NumGoroutine")=false/\fn.body=some c) /\
 ∀(F:fY) w args,(∃s,F s)->(∀s,F s->ab s h w/\(aL s vs).toArray=args)->cC h.next vs=true ->
  Calls P f args w fun e w'=>∃F' V,e=.returned V/\eo F h w F' h' w'/\∀s',F' s'->ab s' h' w'/\ah s' v=V
def Bb(P:Program)(call:Cl)(T:Tr AV)(h:Hp)(o:Oper):Option (AV×Hp):=match mP T o with
 |some (f,vs)=>call f vs h|none=>match nv P T h o with
  |some r=>some r|none=>match gX P T h.next o.op with
   |some (ob,v)=>match Tr.set FT h.tr h.next (some ob)with|some tr=>some (v,⟨tr,h.next+1⟩)|none=>none
   |none=>match iD P T h o with|some v=>some (v,h)|none=>none
variable{P:Program}{Q:Exit->Act->World->Prop}{call:Cl}{K:Act->World->Prop}
theorem LL(hc:dM P call)(e:Bb P call T h o=some (v,h')){F:fY}{a:Act}{w:World}(hne:∃s,F s)
  (hO:∀s,F s->fA s T a o.op) (hT:∀t v,T.get t=some v->ws h.next v=true) (H:∀s,F s->ab s h w) 
  (hK:∀F' w' V,eo F h w F' h' w'->(∀s',F' s'->ab s' h' w'/\ah s' v=V)->K (a.put o.dst V) w'):o.wp P a w K Q:=by
 obtain⟨aeI,adX⟩:=hne;unfold Bb at e;unfold Oper.wp;split at e
 .rename_i f vs hw;obtain⟨⟨fn,c,hf,hn,hb⟩,hcall⟩:=hc f vs h v h' e;have aeg:=ze hw (hO aeI adX) hf hn hb w;rw[aeg,Oper.upon_enter];refine(hcall F w (aL aeI vs).toArray ⟨aeI,adX⟩ ?_ (X6 hw hT)).mono ?_
  .intro s hs;refine⟨H s hs,?_⟩;have h₁:=ze hw (hO s hs) hf hn hb w
   grind
  .rintro e' w' ⟨F',V,rfl,hE,hF⟩;exact hK F' w' V hE hF
 .split at e
  .rename_i r hr;simp at e;subst e;obtain⟨n,aeJ,w',hrun,hg,hH,hE⟩:=zy hr (hO aeI adX) hT (H aeI adX);have all:∀s,F s->∃s',qX (ah s' v) n/\ab s' h' w'/\Ext s h w s' h' w':=by
    intro s hs;obtain⟨aeu,s',afe,adU,adI,adB,adz⟩:=zy hr (hO s hs) hT (H s hs)
    grind
   rw[hrun];have hFE:eo F h w (fun s'=>∃s,F s/\qX (ah s' v) n/\ab s' h' w'/\Ext s h w s' h' w') h' w':=⟨fun s hs=>let⟨s',q⟩:=all s hs;⟨s',⟨s,hs,q⟩,q.2.2⟩,fun s' ⟨s,hs,q⟩=>⟨s,hs,q.2.2⟩⟩;rcases hg with rfl|⟨rfl,hu⟩
   .refine hK _ w' (ah aeJ v) hFE ?_;rintro s' ⟨s,hs,hg',hH',_⟩;refine⟨hH',?_⟩;rcases hg' with q|⟨q,_⟩
    .simp only[aco]at q;exact q.symm
    .cases q
   .refine hK _ w' undef hFE ?_;rintro s' ⟨s,hs,hg',hH',_⟩;refine⟨hH',?_⟩;rcases hg' with q|⟨_,q⟩
    .cases q
    .exact q
  .split at e
   .rename_i ob v' ha;split at e<;>try cases e
    rename_i tr ht;obtain⟨ob',hrun,hor,hwo,hwv⟩:=tO ha (hO aeI adX) (fun x hx u hu=>lQ hT hu) w;have all:∀s,F s->ah (aQ s h.next (w.heap.size,0)) v=ah (aQ aeI h.next (w.heap.size,0)) v/\ab (aQ s h.next (w.heap.size,0)) ⟨tr,h.next+1⟩ { w with heap:=w.heap.push ob' } /\
      Ext s h w (aQ s h.next (w.heap.size,0)) ⟨tr,h.next+1⟩ { w with heap:=w.heap.push ob' }:=by
     intro s hs;obtain⟨aew,adU,adR,aee,_⟩:=tO ha (hO s hs) (fun x hx u hu=>lQ hT hu) w;rw[hrun]at adU;simp only[ST,aco,World.mk.injEq,Array.push_eq_push,abj,acr]at adU;obtain⟨q1,rfl⟩:=adU;have hn:=(H s hs).new (c:=0) adR aee ht;exact⟨q1.symm,hn⟩
    rw[hrun];refine hK (fun s'=>∃s,F s/\s'=aQ s h.next (w.heap.size,0)) _ (ah (aQ aeI h.next (w.heap.size,0)) v) ⟨?_,?_⟩ ?_
    .exact fun s hs=>⟨_,⟨s,hs,rfl⟩,(all s hs).2.2⟩
    .rintro s' ⟨s,hs,rfl⟩;exact⟨s,hs,(all s hs).2.2⟩
    .rintro s' ⟨s,hs,rfl⟩;exact⟨(all s hs).2.1,(all s hs).1⟩
   .split at e<;>try cases e
    rename_i hr;have aeg:=oP hr (hO aeI adX) (H aeI adX);rw[aeg];refine hK F w (ah aeI v) (eo.refl _ _ _) ?_;intro s hs;refine⟨H s hs,?_⟩;have h₁:=oP hr (hO s hs) (H s hs)
    grind
variable{V:Value}
theorem RF.put{F:fY}{n:Nat}{a:Act}{w:World}(R:RF F n T h a w)(hE:eo F h w F' h' w')
  (hF:∀s',F' s'->ab s' h' w'/\ah s' v=V) (hT:cW n h'.next T d v=some T'):RF F' n T' h' (a.put d V) w':=by
 obtain⟨aeI,adX⟩:=R.ne;obtain⟨aeK,adZ,_⟩:=hE.to aeI adX;refine⟨⟨aeK,adZ⟩,?_,fun s' hs'=>(hF s' hs').1⟩;intro s' hs';obtain⟨s,hs,e⟩:=hE.from_ s' hs';rw[<-(hF s' hs').2];exact(R.T s hs).put e.sg e.next hT
def qI(P:Program)(call:Cl)(n:Nat)(ops:Array Oper)(o:Oper)(st:St):Option St:=match oY ops st.T o with
 |some true=>match Bb P call st.T st.h o with
  |some (v,h')=>match cW n h'.next st.T o.dst v with|some T=>some ⟨T,h'⟩|none=>none
  |none=>none
 |some false=>match cW n st.h.next st.T o.dst (.bD [])with|some T=>some ⟨T,st.h⟩|none=>none
 |none=>none
variable{st':St}{i:Nat}
theorem X8(hc:dM P call){n:Nat}{ops:Array Oper}{st:St}(e:qI P call n ops o st=some st')(hi:ops[i]?=some o){F:fY}{a:Act}{w:World}
  (R:RF F n st.T st.h a w) 
  (hK:∀F' a' w',RF F' n st'.T st'.h a' w'->eo F st.h w F' st'.h w'->K a' w'):wpOp P ops Q i K a w:=by
 obtain⟨aeI,adX⟩:=R.ne;have acY:=R.T aeI adX;unfold qI at e;unfold wpOp;rw[hi];simp only[];split at e
 .rename_i hw;rw[y5 hw (fun j w oj t v _ _ _ hv=>acY.get t v hv)];simp only[abE];left;split at e<;>try cases e
  rename_i v h' ha;split at e<;>try cases e
  rename_i T' hT;exact LL hc ha R.ne (fun s hs=>o9 fun t _ u hu=>(R.T s hs).get t u hu) acY.ws R.H fun F' w' V hE hF=>hK F' _ w' (R.put hE hF hT) hE
 .rename_i hw;rw[y5 hw (fun j w oj t v _ _ _ hv=>acY.get t v hv)];simp only[GE,abu];split at e<;>try cases e
  rename_i T' hT;exact hK F _ w (R.put (v:=.bD []) (V:=undef) (eo.refl _ _ _) (fun s hs=>⟨R.H s hs,rfl⟩) hT) (eo.refl _ _ _)
 .cases e
def re(P:Program)(call:Cl)(n:Nat)(ops:Array Oper):List Oper->St->Option St
 |[],st=>some st|o::l,st=>match qI P call n ops o st with|some st=>re P call n ops l st|none=>none
theorem LJ{P:Program}{call:Cl}(hc:dM P call){n:Nat}{ops:Array Oper}{Q:Exit->Act->World->Prop}:∀(l:List Oper) (k:Nat) (st st':St),re P call n ops l st=some st' ->
  (∀j,l[j]?=ops[k+j]?)->∀(F:fY) (a:Act) (w:World),RF F n st.T st.h a w ->
  (∀F' a' w',RF F' n st'.T st'.h a' w'->eo F st.h w F' st'.h w'->Q .normal a' w') ->
  wpOps P ops Q ((List.range' k l.length)) a w
 |[],k,st,st',e,_,F,a,w,R,hK=>by simp[re]at e;subst e;exact hK F a w R (eo.refl _ _ _)|o::l,k,st,st',e,hl,F,a,w,R,hK=>by
  simp only[re]at e;split at e<;>try cases e
  rename_i aeF h₁;rw[cq,List.range'_succ,wpOps_cons];refine X8 hc h₁ (by have:=hl 0;simpa using this.symm) R ?_;intro F' a' w' R' E';refine LJ hc l (k+1) aeF st' e ?_ F' a' w' R' ?_
  .intro j;have:=hl (j+1)
   grind
  .intro F'' a'' w'' R'' E'';exact hK F'' a'' w'' R'' (E'.trans E'')
inductive Ex where
 |normal
 |exit (id:Nat)
 |ret
def Ex.to:Ex->Exit
 |.normal=>.normal|.exit id=>.exit id|.ret=>.ret
abbrev Dr:=Cl->Nat->Array Oper->St->Option St
def vJ(P:Program)(dr:Dr):Prop:=∀call,dM P call->∀n id ops st st',dr call n ops st=some st'->∀F a w,RF F n st.T st.h a w->∀Q:Exit->Act->World->Prop,
 (∀F' a' w',RF F' n st'.T st'.h a' w'->eo F st.h w F' st'.h w'->Q .normal a' w')->(Code.region id ops true).wp P Q a w
abbrev Env:=Tr Func
def jq(P:Program)(E:Env):Prop:=∀f fn,E.get f=some fn->P.funcs[f]?=some fn/\(fn.name == "runtime.NumGoroutine")=false
def gJ(n nx:Nat):List AV->Nat->Tr AV->Option (Tr AV)
 |[],_,T=>some T|v::l,i,T=>match cW n nx T (some i) v with|some T=>gJ n nx l (i+1) T|none=>none
def gV(P:Program)(st:St):List ResultVar->Option (List AV)
 |[]=>some []|r::l=>match(match r with
   |.tmp t=>st.T.get t|.cell a t=>match st.T.get a with|some u=>jP P st.h t u|none=>none)with
  |some v=>match gV P st l with|some vs=>some (v::vs)|none=>none
  |none=>none
def ot:List AV->AV
 |[v]=>v|l=>.bD l
def orElse(a b:Cl):Cl:=fun f vs h=>match a f vs h with|some r=>some r|none=>b f vs h
theorem XO{a b:Cl}(ha:dM P a)(hb:dM P b):dM P (orElse a b):=by
 intro f vs h v h' e;unfold orElse at e;split at e
 .rename_i r hr;simp at e;subst e;exact ha f vs h v h' hr
 .exact hb f vs h v h' e
def tY(P:Program)(E:Env)(run:Nat->Code->St->Option (Ex×St)):Cl:=fun f vs h=>match E.get f with
 |some fn=>match fn.body with
  |some c=>match Nat.ble vs.length fn.ntmps,gJ fn.ntmps h.next vs 0 .nil with
   |true,some T=>match run fn.ntmps c ⟨T,h⟩with
    |some (x,st)=>match x with|.exit _=>none|_=>match gV P st fn.results.toList with|some rs=>some (ot rs,st.h)|none=>none
    |none=>none
   |_,_=>none
  |none=>none
 |none=>none
def eK(P:Program)(E:Env)(dr:Dr)(ej:Cl):Nat->Nat->Code->St->Option (Ex×St)
 |0,_,_,_=>none|k+1,n,c,st=>match c with
  |.skip=>some (.normal,st)|.label _=>some (.normal,st)|.region _ ops draw=>match draw with
   |false=>match re P (orElse ej (tY P E (eK P E dr ej k))) n ops ops.toList st with|some st=>some (.normal,st)|none=>none
   |true=>match dr (orElse ej (tY P E (eK P E dr ej k))) n ops st with|some st=>some (.normal,st)|none=>none
  |.seq x y=>match eK P E dr ej k n x st with
   |some (e,st)=>match e with|.normal=>eK P E dr ej k n y st|e=>some (e,st)
   |none=>none
  |.cond c x y=>match aK st.T c with
   |some v=>match v with
    |.bool b=>match b with|true=>eK P E dr ej k n x st|false=>eK P E dr ej k n y st
    |_=>none
   |none=>none
  |.block id x=>match eK P E dr ej k n x st with
   |some (e,st)=>match e with
    |.exit i=>match Nat.beq i id with|true=>some (.normal,st)|false=>some (.exit i,st)
    |e=>some (e,st)
   |none=>none
  |.loop x=>match eK P E dr ej k n x st with
   |some (e,st)=>match e with|.normal=>eK P E dr ej k n (.loop x) st|e=>some (e,st)
   |none=>none
  |.scope x=>eK P E dr ej k n x st|.exit id=>some (.exit id,st)|.ret=>some (.ret,st)|_=>none
theorem qp{n nx:Nat}:∀{vs:List AV}{i:Nat}{T T':Tr AV},gJ n nx vs i T=some T'->∀t v,T'.get t=some v->(i<=t/\vs[t-i]?=some v)\/T.get t=some v
 |[],i,T,T',h,t,v,hv=>by simp[gJ]at h;subst h;exact .inr hv|x::l,i,T,T',h,t,v,hv=>by
  simp only[gJ]at h;split at h<;>try cases h
  rename_i T₁ h₁;rcases qp h t v hv with⟨hi,hl⟩|hT
  .left
   grind
  .unfold cW at h₁;simp only[]at h₁;split at h₁<;>try cases h₁
   have hg:=Tr.bE _ _ _ _ _ h₁ t
   grind
theorem tD{P:Program}{st:St}{s:Sg}{n:Nat}{a:Act}{w:World}(R:fT s n st.T st.h.next a)(H:ab s st.h w)(f:ResultVar->Sem Value)
  (hf:∀r,f r=match r with|.tmp t=>pure (a.tmps.getD t undef)|.cell x t=>do loadVar t (<- asAddr (a.tmps.getD x undef))) :
  ∀{l:List ResultVar}{vs:List AV},gV P st l=some vs->(l.mapM f).run P w=.ok (aL s vs) w
 |[],vs,h=>by simp[gV]at h;subst h;rfl|r::l,vs,h=>by
  simp only[gV]at h;split at h<;>try cases h
  rename_i v hv;split at h<;>try cases h
  rename_i vs' hl;have ih:=tD R H f hf hl;have h1:(f r).run P w=.ok (ah s v) w:=by
   rw[hf r];cases r with
   |tmp t=>
    have:=R.get t v hv
    simp_all
   |cell x t=>
    simp only[]at hv |-;split at hv<;>try cases hv
    rename_i u hu;have hx:=R.get x u hu;have hr:=tw hv H;have hx':a.tmps.getD x undef=ah s u:=by simp[In,hx]
    rw[hx'];cases u<;>simp only[jP]at hv<;>try cases hv
    simp only[Instr.loadAt,Instr.sureAddr,ah,asAddr,Sem.run_bind,Sem.run_pure,Result.andThen_ok]at hr |-;exact hr
  rw[List.mapM_cons];simp only[Sem.run_bind,h1,Result.andThen_ok,ih,Sem.run_pure,aL]
theorem o5{st:St}{n:Nat}{a:Act}{w:World}(R:fT s n st.T st.h.next a)(H:ab s st.h w){fn:Func}{vs:List AV}(h:gV P st fn.results.toList=some vs) :
  (results fn a.tmps).run P w=.ok (ah s (ot vs)) w:=by
 have h1:=tD R H _ (fun r=>rfl) h;unfold results;rw[Sem.run_bind,acb,Sem.run_map];have h2:(List.mapM (fun x=>match x with|.tmp t=>pure (a.tmps.getD t undef)|.cell x t=>do loadVar t (<- asAddr (a.tmps.getD x undef)):ResultVar->Sem Value) fn.results.toList).run P w=.ok (aL s vs) w:=h1;refine(abp (fun r=>((Result.andThen r _).andThen _)) h2).trans ?_;simp only[Result.andThen_ok,Sem.run_pure];congr 1
 match vs with|[]=>simp[ot,aL,ah]|[v]=>simp[ot,aL]|u::v::l=>simp[ot,aL,ah]
def Sound(P:Program)(run:Nat->Code->St->Option (Ex×St)):Prop:=∀n c st e st',run n c st=some (e,st')->∀F a w,RF F n st.T st.h a w->∀Q:Exit->Act->World->Prop,
 (∀F' a' w',RF F' n st'.T st'.h a' w'->eo F st.h w F' st'.h w'->Q e.to a' w')->c.wp P Q a w
theorem My{E:Env}(hE:jq P E){run:Nat->Code->St->Option (Ex×St)}(hrun:Sound P run):dM P (tY P E run):=by
 intro f vs h v h' e;unfold tY at e;split at e<;>try cases e
 rename_i fn hf;obtain⟨hfn,hname⟩:=hE f fn hf;split at e<;>try cases e
 rename_i c hb;refine⟨⟨fn,c,hfn,hname,hb⟩,?_⟩;split at e<;>try cases e
 rename_i T hle hT;have hle:=pi hle;split at e<;>try cases e
 rename_i x st hst;intro F w args hne hF hw;have R:RF F fn.ntmps T h { tmps:=args++Array.replicate (fn.ntmps-args.size) undef,defers:=[] } w:=by
  refine⟨hne,?_,fun s hs=>(hF s hs).1⟩;intro s hs;rw[<-(hF s hs).2];have hL:=ga s vs;refine⟨by simp;omega,rfl,?_,?_⟩
  .intro t u hu;rcases qp hT t u hu with⟨_,h1⟩|h1
   .simp only[Nat.sub_zero]at h1;have hlt:t<vs.length:=by grind
    rw[Array.getElem?_append_left (by simp;omega)];simp[zm,h1]
   .simp[Tr.get]at h1
  .intro t u hu;rcases qp hT t u hu with⟨_,h1⟩|h1
   .exact(tL _ _).1 hw u (d8 h1)
   .simp[Tr.get]at h1
 refine calls_of_wp hfn hb ?_;refine hrun _ _ _ _ _ hst F _ w R _ ?_;intro F' a' w' R' E';have fin:∀rs,gV P st fn.results.toList=some rs->ot rs=v/\st.h=h'->a'.defers=[]/\∃V,(results fn a'.tmps).run P w'=.ok V w' /\
   ∃F' V',Ending.returned V=.returned V'/\eo F h w F' h' w'/\∀s',F' s'->ab s' h' w'/\ah s' v=V':=by
  rintro rs hrs ⟨rfl,rfl⟩;obtain⟨aeK,adZ⟩:=R'.ne;refine⟨(R'.T aeK adZ).defers,ah aeK (ot rs),o5 (R'.T aeK adZ) (R'.H aeK adZ) hrs,F',_,rfl,E',?_⟩;intro s hs;refine⟨R'.H s hs,?_⟩;have h1:=o5 (R'.T aeK adZ) (R'.H aeK adZ) hrs;have h2:=o5 (R'.T s hs) (R'.H s hs) hrs
  grind
 cases x with
 |exit id=>cases e
 |normal=>
  simp only[]at e;split at e<;>try cases e
  rename_i rs hrs;exact fin rs hrs ⟨rfl,rfl⟩
 |ret=>
  simp only[]at e;split at e<;>try cases e
  rename_i rs hrs;exact fin rs hrs ⟨rfl,rfl⟩
theorem QH{P:Program}{E:Env}(hE:jq P E){dr:Dr}(hdr:vJ P dr){ej:Cl}(ho:dM P ej):∀k,Sound P (eK P E dr ej k) /\
  (∀n x st e st',eK P E dr ej k n (.loop x) st=some (e,st')->∀F a w,RF F n st.T st.h a w->∀Q:Exit->Act->World->Prop,
   (∀F' a' w',RF F' n st'.T st'.h a' w'->eo F st.h w F' st'.h w'->Q e.to a' w')->Code.rounds P x Q k a w)
 |0=>⟨fun n c st e st' h=>by simp[eK]at h,fun n c st e st' h=>by simp[eK]at h⟩|k+1=>by
  obtain⟨ih,ihl⟩:=QH hE hdr ho k;have hcl:=XO ho (My hE ih);have loop:(∀n x st e st',eK P E dr ej (k+1) n (.loop x) st=some (e,st')->∀F a w,RF F n st.T st.h a w->∀Q:Exit->Act->World->Prop,
   (∀F' a' w',RF F' n st'.T st'.h a' w'->eo F st.h w F' st'.h w'->Q e.to a' w')->Code.rounds P x Q (k+1) a w):=by
   intro n x st e st' h F a w R Q hQ;simp only[eK]at h;split at h<;>try cases h
   rename_i adv aeF h₁;rw[rounds_succ];refine ih n x st adv aeF h₁ F a w R _ ?_;intro F' a' w' R' E';cases adv with
   |normal=>exact ihl n x aeF e st' h F' a' w' R' Q (fun F'' a'' w'' R'' E''=>hQ F'' a'' w'' R'' (E'.trans E''))|exit id=>simp only[bf,ww]at h;obtain⟨rfl,rfl⟩:=h;exact hQ F' a' w' R' E'
   |ret=>simp only[bf,ww]at h;obtain⟨rfl,rfl⟩:=h;exact hQ F' a' w' R' E'
  refine⟨?_,loop⟩;intro n c st e st' h F a w R Q hQ;cases c with
  |skip=>simp only[eK,bf,ww]at h;obtain⟨rfl,rfl⟩:=h;exact wp_skip (hQ F a w R (eo.refl _ _ _))
  |label l=>simp only[eK,bf,ww]at h;obtain⟨rfl,rfl⟩:=h;exact wp_label (hQ F a w R (eo.refl _ _ _))
  |region id ops draw=>
   simp only[eK]at h;cases draw with
   |false=>
    simp only[]at h;split at h<;>try cases h
    rename_i h₁;refine wp_region ?_;have:=LJ hcl (Q:=Q) ops.toList 0 st st' h₁ (by grind) F a w R hQ;rw[List.range_eq_range'];simpa using this
   |true=>
    simp only[]at h;split at h<;>try cases h
    rename_i h₁;exact hdr _ hcl n id ops st st' h₁ F a w R Q hQ
  |seq x y=>
   simp only[eK]at h;split at h<;>try cases h
   rename_i adv aeF h₁;refine wp_seq (ih n x st adv aeF h₁ F a w R _ ?_);intro F' a' w' R' E';cases adv with
   |normal=>exact ih n y aeF e st' h F' a' w' R' Q (fun F'' a'' w'' R'' E''=>hQ F'' a'' w'' R'' (E'.trans E''))|exit id=>simp only[bf,ww]at h;obtain⟨rfl,rfl⟩:=h;exact hQ F' a' w' R' E'
   |ret=>simp only[bf,ww]at h;obtain⟨rfl,rfl⟩:=h;exact hQ F' a' w' R' E'
  |cond c x y=>
   simp only[eK]at h;split at h<;>try cases h
   rename_i v hv;obtain⟨s,hs⟩:=R.ne;have he:a.eval c=ah s v:=by cases c with|tmp t=>simp[Act.eval,In,(R.T s hs).get t v hv]|const u=>exact(kI hv s).symm|func f=>simp[aK]at hv;subst hv;rfl|global g=>simp[aK]at hv
   split at h<;>try cases h
   rename_i b;cases b with|true=>exact wp_cond_true he (ih n x st e st' h F a w R Q hQ)|false=>exact wp_cond_false he (ih n y st e st' h F a w R Q hQ)
  |block id x=>
   simp only[eK]at h;split at h<;>try cases h
   rename_i adv aeF h₁;refine wp_block (ih n x st adv aeF h₁ F a w R _ ?_);intro F' a' w' R' E';cases adv with
   |normal=>simp only[bf,ww]at h;obtain⟨rfl,rfl⟩:=h;exact hQ F' a' w' R' E'
   |ret=>simp only[bf,ww]at h;obtain⟨rfl,rfl⟩:=h;exact hQ F' a' w' R' E'
   |exit i=>
    simp only[]at h;split at h
    .rename_i q;have q:=aW q;simp only[bf,ww]at h;obtain⟨rfl,rfl⟩:=h;simp only[Ex.to,Exit.inBlock,ut q];exact hQ F' a' w' R' E'
    .rename_i q;have q:=IT q;simp only[bf,ww]at h;obtain⟨rfl,rfl⟩:=h;simp only[Ex.to,Exit.inBlock,qr q];exact hQ F' a' w' R' E'
  |loop x=>exact wp_loop_rounds (k+1) (loop n x st e st' h F a w R Q hQ)|scope x=>simp only[eK]at h;refine wp_scope_straight (ih n x st e st' h F a w R _ ?_);intro F' a' w' R' E';have:=hQ F' a' w' R' E';cases e<;>exact this
  |exit id=>simp only[eK,bf,ww]at h;obtain⟨rfl,rfl⟩:=h;exact wp_exit (hQ F a w R (eo.refl _ _ _))
  |ret=>simp only[eK,bf,ww]at h;obtain⟨rfl,rfl⟩:=h;exact wp_ret (hQ F a w R (eo.refl _ _ _))
  |_=>simp[eK]at h
inductive PE where
 |w (j:Nat)
 |p (lo hi:Nat)
def PE.num:PE->Nat
 |.w j=>j|.p lo _=>lo
def PE.top:PE->Nat
 |.w j=>j-1|.p _ hi=>hi
def Rk(o:Oper):Bool:=match o.op with
 |.assign _|.store _ _ _|.mapUpdate _ _ _ _|.insert _ _ _ _=>true|.call c=>match c.callee with|.builtin .len|.builtin .max|.builtin .min=>false|_=>true
 |_=>false
def pY:List Edge->jp
 |[]=>[]|e::l=>match Region.binds .any e with|true=>e.on::pY l|false=>pY l
def cX(o:Oper):jp:=pY o.after.toList
theorem zu:∀{l:List Edge}{x:Nat},x∈pY l↔∃e∈l,Region.binds .any e=true/\e.on=x
 |[],x=>by simp[pY]|e::l,x=>by
  simp only[pY];cases h:Region.binds .any e
  .simp only[];rw[zu]
   grind
  .simp only[BY];rw[zu]
   grind
def Ch(nums:jp):jp->Nat->Nat
 |[],m=>m|e::l,m=>match nth nums e with
  |some x=>Ch nums l (match Nat.ble m x with|true=>x|false=>m)
  |none=>Ch nums l m
def nA:List Oper->Nat->jp->List (Bool×Nat)->List (Bool×Nat)
 |[],_,_,acc=>acc|o::l,c,nums,acc=>match Rk o with|true=>nA l (c+1) (nums++[c+1]) ((true,c+1)::acc)|false=>let m:=Ch nums (cX o) 0;nA l c (nums++[m]) ((false,m)::acc)
def gU:Nat->jp->Bool
 |_,[]=>false|x,y::l=>match Nat.beq x y with|true=>true|false=>gU x l
theorem mH:∀{x:Nat}{l:jp},gU x l=true↔x∈l
 |x,[]=>by simp[gU]|x,y::l=>by
  simp only[gU];cases h:Nat.beq x y
  .have:=IT h;simp[this,mH]
  simp_all
def Bq(i:Nat):List (jp×PE)->Nat->Nat
 |[],m=>m|(es,pe)::l,m=>match gU i es with
  |true=>Bq i l (match Nat.ble m pe.top with|true=>m|false=>pe.top)
  |false=>Bq i l m
def Kf(k:Nat):List (Oper×Bool×Nat)->Nat->List (jp×PE)->List (jp×PE)
 |[],_,acc=>acc|(o,b,x)::l,i,acc=>let es:=cX o;Kf k l (i-1) ((es,match b with|true=>PE.w x|false=>PE.p x (Bq i acc k))::acc)
def Cy:List Oper->Nat
 |[]=>0|o::l=>match Rk o with|true=>Cy l+1|false=>Cy l
def jv(ops:List Oper):List PE:=(Kf (Cy ops) (ops.reverse.zip (nA ops 0 [] [])) (ops.length-1) []).map (·.2)
def mj(pl:List PE)(p:PE->Bool):jp->Bool
 |[]=>false|e::l=>match nth pl e with
  |some pe=>match p pe with|true=>true|false=>mj pl p l
  |none=>mj pl p l
theorem zo{pl:List PE}{p:PE->Bool}:∀{l:jp},mj pl p l=true->∃e pe,e∈l/\pl[e]?=some pe/\p pe=true
 |[],h=>by simp[mj]at h|e::l,h=>by
  simp only[mj]at h;split at h
  .rename_i pe he;rw[bW]at he;split at h
   .rename_i q;grind
   .obtain⟨e',pe',h1,h2⟩:=zo h;grind
  .obtain⟨e',pe',h1,h2⟩:=zo h;grind
def tM(i:Nat):jp->Bool
 |[]=>true|e::l=>match Nat.blt e i with|true=>tM i l|false=>false
def oF(i hi:Nat):List Oper->List PE->Bool
 |o::l,pe::ps=>match gU i (cX o),(match pe with|.w j=>Nat.ble j (hi+1)|.p _ h=>Nat.ble h hi)with|true,true=>true|_,_=>oF i hi l ps
 |_,_=>false
def tmpsOf:List Operand->jp
 |[]=>[]|x::l=>match x with|.tmp t=>t::tmpsOf l|_=>tmpsOf l
def looks(ops:List Oper)(o:Oper):jp:=match o.guard with
 |none=>tmpsOf o.op.operands.toList|some (j,_)=>match nth ops j with
  |some oj=>match oj.dst with|some t=>t::tmpsOf o.op.operands.toList|none=>tmpsOf o.op.operands.toList
  |none=>tmpsOf o.op.operands.toList
def mK(ls es:jp):List Oper->List PE->Nat->Bool
 |y::l,pe::ps,i=>match pe with|.w _=>mK ls es l ps (i+1)|.p _ _=>match y.dst with|none=>mK ls es l ps (i+1)|some t=>match gU t ls with|false=>mK ls es l ps (i+1)|true=>match gU i es with|true=>mK ls es l ps (i+1)|false=>false
 |_,_,_=>true
def vz(ops:List Oper)(pl:List PE)(k i:Nat)(o:Oper)(pe:PE):Bool:=
 match tM i (cX o),mK (looks ops o) (cX o) ops pl 0 with
 |true,true=>match pe with
  |.p lo hi=>match(match lo with|0=>true|lo+1=>mj pl (fun x=>Nat.ble (lo+1) x.num) (cX o))with
   |true=>match Nat.ble k hi with|true=>true|false=>oF i hi ops pl
   |false=>false
  |.w j=>match Nat.ble 1 j,Nat.ble j k,(match j with|0=>false|1=>true|j+2=>mj pl (fun x=>Nat.ble (j+1) x.num) (cX o))with|true,true,true=>true|_,_,_=>false
 |_,_=>false
def jD(ops:List Oper)(pl:List PE)(k:Nat):List Oper->List PE->Nat->Bool
 |[],[],_=>true|o::l,pe::ps,i=>match vz ops pl k i o pe with|true=>jD ops pl k l ps (i+1)|false=>false
 |_,_,_=>false
def uc:List PE->Nat->Option Nat
 |[],c=>some c|pe::l,c=>match pe with|.p _ _=>uc l c|.w j=>match Nat.beq j (c+1)with|true=>uc l (c+1)|false=>none
def pg(ops:List Oper)(pl:List PE):Option Nat:=match uc pl 0 with
 |some k=>match jD ops pl k ops pl 0 with|true=>some k|false=>none
 |none=>none
abbrev eS:=List (Nat×Nat×aI)
def Bd(P:Program)(n:Nat)(ops:Array Oper)(o:Oper)(i:Nat)(st:St)(pd:eS):Option (St×eS):=match oY ops st.T o with
 |some false=>match cW n st.h.next st.T o.dst (.bD [])with|some T=>some (⟨T,st.h⟩,pd)|none=>none
 |some true=>match gX P st.T st.h.next o.op with
  |some (ob,v)=>match cW n (st.h.next+1) st.T o.dst v with|some T=>some (⟨T,⟨st.h.tr,st.h.next+1⟩⟩,(i,st.h.next,ob)::pd)|none=>none
  |none=>match iD P st.T st.h o with
   |some v=>match cW n st.h.next st.T o.dst v with|some T=>some (⟨T,st.h⟩,pd)|none=>none
   |none=>none
 |none=>none
def kJ(P:Program)(n:Nat)(ops:Array Oper)(q:Nat):List Oper->List PE->Nat->St->eS->Option (St×eS)
 |o::l,pe::ps,i,st,pd=>match pe with|.w _=>kJ P n ops q l ps (i+1) st pd|.p lo _=>match Nat.beq lo q with|false=>kJ P n ops q l ps (i+1) st pd|true=>match Bd P n ops o i st pd with|some (st,pd)=>kJ P n ops q l ps (i+1) st pd|none=>none
 |_,_,_,st,pd=>some (st,pd)
def kW(i:Nat):eS->Option (Nat×aI)
 |[]=>none|(j,id,ob)::l=>match Nat.beq i j with|true=>some (id,ob)|false=>kW i l
def Bn:aI->aI->Bool
 |.cells l ty op,.cells l' ty' op'=>match AV.iY l l',Nat.beq ty ty',op,op' with|true,true,none,none=>true|_,_,_,_=>false
 |.map [] c,.map [] c'=>Nat.beq c c'|_,_=>false
theorem Th{a b:aI}(h:Bn a b=true):a=b:=by
 unfold Bn at h;split at h
 .split at h<;>try cases h
  rename_i h1 h2;rw[AV.mN h1,aW h2]
 .rw[aW h]
 .cases h
def q9(T:Tr AV)(d:Option Tmp)(v:AV):Bool:=match d with|none=>true|some t=>match T.get t with|some u=>AV.eqv u v|none=>false
def rM(P:Program)(ops:Array Oper)(st:St)(pd:eS)(o:Oper)(i:Nat):Bool:=match oY ops st.T o with
 |some false=>match kW i pd with|none=>q9 st.T o.dst (.bD [])|some _=>false
 |some true=>match kW i pd with
  |some (id,ob)=>match gX P st.T id o.op with
   |some (ob',v)=>match Bn ob ob' with|true=>q9 st.T o.dst v|false=>false
   |none=>false
  |none=>match iD P st.T st.h o with|some v=>q9 st.T o.dst v|none=>false
 |none=>false
def mQ(P:Program)(ops:Array Oper)(q:Nat)(st:St)(pd:eS):List Oper->List PE->Nat->Bool
 |o::l,pe::ps,i=>match pe with
  |.w _=>mQ P ops q st pd l ps (i+1)|.p lo hi=>match Nat.ble lo q,Nat.ble q hi with
   |true,true=>match rM P ops st pd o i with|true=>mQ P ops q st pd l ps (i+1)|false=>false
   |_,_=>mQ P ops q st pd l ps (i+1)
 |_,_,_=>true
def o6(pl:List PE)(q:Nat):eS->Hp->Option (eS×Hp)
 |[],h=>some ([],h)|(i,id,ob)::l,h=>match o6 pl q l h with
  |some (pd,h)=>match nth pl i with
   |some (.p _ hi)=>match Nat.ble hi q with
    |true=>match Tr.set FT h.tr id (some ob)with|some tr=>some (pd,⟨tr,h.next⟩)|none=>none
    |false=>some ((i,id,ob)::pd,h)
   |_=>none
  |none=>none
def ku(j:Nat):List Oper->List PE->Option Oper
 |o::l,pe::ps=>match pe with
  |.w x=>match Nat.beq x j with|true=>some o|false=>ku j l ps
  |.p _ _=>ku j l ps
 |_,_=>none
def oq(P:Program)(call:Cl)(n:Nat)(ops:Array Oper)(pl:List PE):Nat->Nat->St->eS->Option St
 |0,q,st,pd=>match o6 pl q pd st.h with|some ([],h)=>some ⟨st.T,h⟩|_=>none
 |r+1,q,st,pd=>match o6 pl q pd st.h,ku (q+1) ops.toList pl with
  |some (pd,h),some o=>match qI P call n ops o ⟨st.T,h⟩with
   |some st=>match kJ P n ops (q+1) ops.toList pl 0 st pd with
    |some (st,pd)=>match mQ P ops (q+1) st pd ops.toList pl 0 with|true=>oq P call n ops pl r (q+1) st pd|false=>none
    |none=>none
   |none=>none
  |_,_=>none
def Cr(P:Program):Dr:=fun call n ops st=>match pg ops.toList (jv ops.toList)with
 |some k=>match kJ P n ops 0 ops.toList (jv ops.toList) 0 st []with
  |some (st,pd)=>match mQ P ops 0 st pd ops.toList (jv ops.toList) 0 with|true=>oq P call n ops (jv ops.toList) k 0 st pd|false=>none
  |none=>none
 |none=>none
structure iz(ops:Array Oper)(pl:List PE)(k:Nat):Prop where
 len:pl.length=ops.size
 below:∀(i:Nat) (o:Oper),ops[i]?=some o->∀e∈cX o,e<i
 fresh:∀(i:Nat) (o:Oper),ops[i]?=some o->∀t,t∈looks ops.toList o->∀(y:Nat) (oy:Oper) (lo hi:Nat),ops[y]?=some oy->pl[y]?=some (.p lo hi)->oy.dst=some t->y∈cX o
 lo:∀(i:Nat) (o:Oper) (lo hi:Nat),ops[i]?=some o->pl[i]?=some (.p lo hi)->lo=0\/∃(e:Nat) (pe:PE),e∈cX o/\pl[e]?=some pe/\lo<=pe.num
 hi:∀(i lo hi:Nat),pl[i]?=some (.p lo hi)->k<=hi\/∃(z:Nat) (o:Oper) (pe:PE),ops[z]?=some o/\pl[z]?=some pe/\i∈cX o/\((∃j,pe=.w j/\j<=hi+1)\/(∃l h,pe=.p l h/\h<=hi))
 w:∀(i:Nat) (o:Oper) (j:Nat),ops[i]?=some o->pl[i]?=some (.w j)->1<=j/\j<=k/\(j=1\/∃(e:Nat) (pe:PE),e∈cX o/\pl[e]?=some pe/\j<=pe.num+1)
 uniq:∀(i i' j:Nat),pl[i]?=some (.w j)->pl[i']?=some (.w j)->i=i'
theorem Qv{i:Nat}:∀{l:jp},tM i l=true->∀e∈l,e<i
 |[],_,e,he=>by cases he
 |x::l,h,e,he=>by
  simp only[tM]at h;split at h<;>try cases h
  rename_i q;rw[WP]at q;rcases BY.1 he with rfl|he
  .exact q
  .exact Qv h e he
theorem KE{i hi:Nat}:∀{os:List Oper}{ps:List PE},oF i hi os ps=true->∃(z:Nat) (o:Oper) (pe:PE),os[z]?=some o/\ps[z]?=some pe/\i∈cX o/\((∃j,pe=.w j/\j<=hi+1)\/(∃l h,pe=.p l h/\h<=hi))
 |[],_,h=>by simp[oF]at h|_::_,[],h=>by simp[oF]at h|o::os,pe::ps,h=>by
  simp only[oF]at h;split at h
  .rename_i h1 h2;refine⟨0,o,pe,rfl,rfl,mH.1 h1,?_⟩;cases pe with|w j=>exact .inl ⟨j,rfl,pi h2⟩|p l hh=>exact .inr ⟨l,hh,rfl,pi h2⟩
  .obtain⟨z,o',pe',h1,h2,h3⟩:=KE h;exact⟨z+1,o',pe',by grind,by grind,h3⟩
theorem Qu{ls es:jp}:∀{os:List Oper}{ps:List PE}{i:Nat},mK ls es os ps i=true->∀(y:Nat) (oy:Oper) (lo hi:Nat) (t:Tmp),os[y]?=some oy->ps[y]?=some (.p lo hi)->oy.dst=some t->t∈ls->i+y∈es
 |[],_,_,_,y,oy,lo,hi,t,h1,_,_,_=>by simp at h1|_::_,[],_,_,y,oy,lo,hi,t,_,h2,_,_=>by simp at h2|o::os,pe::ps,i,h,y,oy,lo,hi,t,h1,h2,h3,h4=>by
  simp only[mK]at h;have rec_:mK ls es os ps (i+1)=true->y≠0->i+y∈es:=by
   intro hh hy;obtain⟨y',rfl⟩:∃y',y=y'+1:=⟨y-1,acs⟩;have:=Qu hh y' oy lo hi t (by simpa using h1) (by simpa using h2) h3 h4
   grind
  by_cases hy:y=0
  .subst hy;simp at h1 h2;subst h1;subst h2;simp only[h3]at h;rw[mH.2 h4]at h;simp only[]at h;split at h<;>try cases h
   rename_i q;simpa using mH.1 q
  grind
theorem QT{ops:List Oper}{pl:List PE}{k:Nat}:∀{os:List Oper}{ps:List PE}{i:Nat},jD ops pl k os ps i=true->os.length=ps.length/\∀(j:Nat) (o:Oper) (pe:PE),os[j]?=some o->ps[j]?=some pe->vz ops pl k (i+j) o pe=true
 |[],[],_,_=>⟨rfl,fun j o pe h=>by simp at h⟩|[],_::_,_,h=>by simp[jD]at h|_::_,[],_,h=>by simp[jD]at h|o::os,pe::ps,i,h=>by
  simp only[jD]at h;split at h<;>try cases h
  rename_i q;obtain⟨h1,h2⟩:=QT h
  grind
theorem Hw:∀{pl:List PE}{c k:Nat},uc pl c=some k->(∀(i j:Nat),pl[i]?=some (PE.w j)->c<j)/\(∀(i i' j:Nat),pl[i]?=some (.w j)->pl[i']?=some (.w j)->i=i')
 |[],c,k,h=>⟨fun i j h=>by simp at h,fun i i' j h=>by simp at h⟩|pe::l,c,k,h=>by
  simp only[uc]at h;cases pe with
  |p lo hi=>
   obtain⟨h1,h2⟩:=Hw h
   grind
  |w x=>
   simp only[]at h;split at h<;>try cases h
   rename_i q;have q:=aW q;subst q;obtain⟨h1,h2⟩:=Hw h
   grind
variable{k:Nat}
theorem th{ops:Array Oper}{pl:List PE}(h:pg ops.toList pl=some k):iz ops pl k:=by
 unfold pg at h;split at h<;>try cases h
 rename_i hW;split at h<;>try cases h
 rename_i hA;obtain⟨hl,hone⟩:=QT hA;have hone:∀(i:Nat) (o:Oper) (pe:PE),ops[i]?=some o->pl[i]?=some pe->vz ops.toList pl k i o pe=true:=by intro i o pe ho hp;have:=hone i o pe (by simpa using ho) hp;simpa using this
 have hthere:∀(i:Nat) (o:Oper),ops[i]?=some o->∃pe,pl[i]?=some pe:=by
  intro i o ho;have:i<pl.length:=by
   rw[<-hl];rcases rt i ops.size with q|q
   .simpa using q
   .rw[aaT q]at ho;cases ho
  exact⟨pl[i],by simp[this]⟩
 have hthere':∀(i:Nat) (pe:PE),pl[i]?=some pe->∃o,ops[i]?=some o:=by
  intro i pe hp;have:i<ops.size:=by grind
  exact⟨ops[i],by simp[this]⟩
 have split1:∀(i:Nat) (o:Oper) (pe:PE),ops[i]?=some o->pl[i]?=some pe->tM i (cX o)=true/\mK (looks ops.toList o) (cX o) ops.toList pl 0=true/\(match pe with
  |.p lo hi=>match(match lo with|0=>true|lo+1=>mj pl (fun x=>Nat.ble (lo+1) x.num) (cX o))with
   |true=>match Nat.ble k hi with|true=>true|false=>oF i hi ops.toList pl
   |false=>false
  |.w j=>match Nat.ble 1 j,Nat.ble j k,(match j with|0=>false|1=>true|j+2=>mj pl (fun x=>Nat.ble (j+1) x.num) (cX o))with|true,true,true=>true|_,_,_=>false)=true:=by
  intro i o pe ho hp;have:=hone i o pe ho hp;unfold vz at this;split at this
  .rename_i h1 h2;exact⟨h1,h2,this⟩
  .cases this
 refine⟨by simpa using hl.symm,?_,?_,?_,?_,?_,(Hw hW).2⟩
 .intro i o ho;obtain⟨pe,hp⟩:=hthere i o ho;exact Qv (split1 i o pe ho hp).1
 .intro i o ho t ht y oy lo hi hy hpy hd;obtain⟨pe,hp⟩:=hthere i o ho;have:=Qu (split1 i o pe ho hp).2.1 y oy lo hi t (by simpa using hy) hpy hd ht;simpa using this
 .intro i o lo hi ho hp;have:=(split1 i o _ ho hp).2.2;simp only[]at this;split at this
  .rename_i q;cases lo with|zero=>exact .inl rfl|succ lo=>simp only[]at q;obtain⟨e,pe,h1,h2,h3⟩:=zo q;exact .inr ⟨e,pe,h1,h2,pi h3⟩
  .cases this
 .intro i lo hi hp;obtain⟨o,ho⟩:=hthere' i _ hp;have:=(split1 i o _ ho hp).2.2;simp only[]at this;split at this
  .split at this
   .rename_i q;exact .inl (pi q)
   .obtain⟨z,o',pe',h1,h2,h3⟩:=KE this;exact .inr ⟨z,o',pe',by simpa using h1,h2,h3⟩
  .cases this
 .intro i o j ho hp;have:=(split1 i o _ ho hp).2.2;simp only[]at this;split at this
  .rename_i q1 q2 q3;refine⟨pi q1,pi q2,?_⟩;cases j with
   |zero=>cases q3
   |succ j=>cases j with|zero=>exact .inl rfl|succ j=>simp only[]at q3;obtain⟨e,pe,h1,h2,h3⟩:=zo q3;exact .inr ⟨e,pe,h1,h2,by have:=pi h3;omega⟩
  .cases this
theorem nJ{j:Nat}:∀{os:List Oper}{ps:List PE}{o:Oper},ku j os ps=some o->∃i:Nat,os[i]?=some o/\ps[i]?=some (.w j)
 |[],_,o,h=>by simp[ku]at h|_::_,[],o,h=>by simp[ku]at h|x::os,pe::ps,o,h=>by
  simp only[ku]at h;split at h
  .split at h
   .rename_i y q;have q:=aW q;subst q;simp at h;subst h;exact⟨0,rfl,rfl⟩
   .obtain⟨i,h1,h2⟩:=nJ h;exact⟨i+1,by grind,by simpa using h2⟩
  .obtain⟨i,h1,h2⟩:=nJ h;exact⟨i+1,by grind,by grind⟩
theorem QI{P:Program}{ops:Array Oper}{q:Nat}{st:St}{pd:eS}:∀{os:List Oper}{ps:List PE}{i:Nat},mQ P ops q st pd os ps i=true ->
  ∀(x:Nat) (o:Oper) (lo hi:Nat),os[x]?=some o->ps[x]?=some (.p lo hi)->lo<=q->q<=hi->rM P ops st pd o (i+x)=true
 |[],_,_,_,x,o,lo,hi,h1,_,_,_=>by simp at h1|_::_,[],_,_,x,o,lo,hi,_,h2,_,_=>by simp at h2|y::os,pe::ps,i,h,x,o,lo,hi,h1,h2,h3,h4=>by
  simp only[mQ]at h;have rec_:mQ P ops q st pd os ps (i+1)=true->x≠0->rM P ops st pd o (i+x)=true:=by
   intro hh hx;obtain⟨x',rfl⟩:∃x',x=x'+1:=⟨x-1,acs⟩;have:=QI hh x' o lo hi (by simpa using h1) (by grind) h3 h4
   grind
  by_cases hx:x=0
  .subst hx;simp at h1 h2;subst h1;subst h2;simp only[aaY h3,aaY h4]at h
   grind
  grind
theorem jN{n:Nat}(h:cW n nx T d v=some T'):∀t,T'.get t=if d=some t then some v else T.get t:=by
 intro t;unfold cW at h;split at h
 .simp at h;subst h;simp
 .rename_i x;split at h<;>try cases h
  have:=Tr.bE _ _ _ _ _ h t
  grind
variable{t:Tmp}
theorem LZ{n:Nat}(h:cW n nx T d v=some T')(hd:d=some t):t<n/\ws nx v=true:=by
 subst hd;simp only[cW]at h;split at h<;>try cases h
 simp_all
theorem zq{n:Nat}(h:cW n nx' T d v=some T')(hn:nx<=nx')(hT:∀t v,T.get t=some v->t<n/\ws nx v=true) :
  ∀t u,T'.get t=some u->t<n/\ws nx' u=true:=by
 intro t u hu;rw[jN h t]at hu;by_cases q:d=some t
 .rw[ut q]at hu;simp at hu;subst hu;exact LZ h q
 .rw[qr q]at hu;exact⟨(hT t u hu).1,mJ hn u (hT t u hu).2⟩
structure JA(n q:Nat)(os:List Oper)(ps:List PE)(i:Nat)(st st':St)(new:eS):Prop where
 tr:st'.h.tr=st.h.tr
 next:st.h.next<=st'.h.next
 all:∀t v,st'.T.get t=some v->t<n/\ws st'.h.next v=true
 same:∀t,(∀(x:Nat) (o:Oper) (h:Nat),os[x]?=some o->ps[x]?=some (.p q h)->o.dst≠some t)->st'.T.get t=st.T.get t
 ids:∀p∈new,st.h.next<=p.2.1/\p.2.1<st'.h.next/\iV st'.h.next p.2.2=true/\∃(x h:Nat),p.1=i+x/\ps[x]?=some (.p q h)
 zM:∀p∈new,∀p'∈new,p.1=p'.1\/p.2.1=p'.2.1->p=p'
variable{pd':eS}
theorem Xo{n:Nat}{ops:Array Oper}{st:St}{pd:eS}(e:Bd P n ops o i st pd=some (st',pd'))(hT:∀t v,st.T.get t=some v->t<n/\ws st.h.next v=true) :
  st'.h.tr=st.h.tr/\st.h.next<=st'.h.next/\(∀t v,st'.T.get t=some v->t<n/\ws st'.h.next v=true)/\(∀t,o.dst≠some t->st'.T.get t=st.T.get t) /\
  (pd'=pd\/∃ob,pd'=(i,st.h.next,ob)::pd/\st.h.next<st'.h.next/\iV st'.h.next ob=true):=by
 unfold Bd at e;have same:∀{nx v T'},cW n nx st.T o.dst v=some T'->∀t,o.dst≠some t->T'.get t=st.T.get t:=by intro nx v T' h t ht;rw[jN h t,qr ht]
 split at e
 .split at e<;>try cases e
  rename_i T' h;exact⟨rfl,ol _,zq h (ol _) hT,same h,.inl rfl⟩
 .split at e
  .rename_i ob v ha;split at e<;>try cases e
   rename_i T' h;refine⟨rfl,acv,zq h acv hT,same h,.inr ⟨ob,rfl,acv,?_⟩⟩;exact(JK (m:=st.h.next+1) ha acs (fun x hx u hu=>mJ acs _ (lQ (fun t v ht=>(hT t v ht).2) hu))).1
  .split at e<;>try cases e
   split at e<;>try cases e
   rename_i T' h;exact⟨rfl,ol _,zq h (ol _) hT,same h,.inl rfl⟩
 .cases e
theorem Wz{n:Nat}{ops:Array Oper}{q:Nat}:∀{os:List Oper}{ps:List PE}{i:Nat}{st:St}{pd:eS}{st':St}{pd':eS},kJ P n ops q os ps i st pd=some (st',pd') ->
  (∀t v,st.T.get t=some v->t<n/\ws st.h.next v=true)->∃new,pd'=new++pd/\JA n q os ps i st st' new:=by
 intro os
 induction os with
 |nil=>intro ps i st pd st' pd' e hT;simp[kJ]at e;obtain⟨rfl,rfl⟩:=e;exact⟨[],rfl,rfl,ol _,hT,fun _ _=>rfl,(fun p hp=>by cases hp),(fun p hp=>by cases hp)⟩
 |cons o os ih=>
  intro ps i st pd st' pd' e hT;cases ps with
  |nil=>simp[kJ]at e;obtain⟨rfl,rfl⟩:=e;exact⟨[],rfl,rfl,ol _,hT,fun _ _=>rfl,(fun p hp=>by cases hp),(fun p hp=>by cases hp)⟩
  |cons pe ps=>
   simp only[kJ]at e;have skip:kJ P n ops q os ps (i+1) st pd=some (st',pd')->(∀h,pe≠.p q h)->∃new,pd'=new++pd/\JA n q (o::os) (pe::ps) i st st' new:=by
    intro e hne;obtain⟨new,h1,h2⟩:=ih e hT;refine⟨new,h1,h2.tr,h2.next,h2.all,?_,?_,h2.zM⟩
    .intro t ht;exact h2.same t (fun x o' h ho hp=>ht (x+1) o' h (by simpa using ho) (by simpa using hp))
    .intro p hp;obtain⟨a,b,c,x,h,hx,hpx⟩:=h2.ids p hp;exact⟨a,b,c,x+1,h,acs,by simpa using hpx⟩
   cases pe with
   |w j=>exact skip e (fun h r=>by cases r)
   |p lo hi=>
    simp only[]at e;cases hb:Nat.beq lo q with
    |false=>simp only[hb]at e;exact skip e (fun h r=>by cases r;exact IT hb rfl)
    |true=>
     have hlq:=aW hb;subst hlq;simp only[hb]at e;split at e<;>try cases e
     rename_i aeF aez h₁;obtain⟨t1,t2,t3,t4,t5⟩:=Xo h₁ hT;obtain⟨new,n1,n2⟩:=ih e t3;have same:∀t,(∀(x:Nat) (o':Oper) (h:Nat),(o::os)[x]?=some o'->(PE.p lo hi::ps)[x]?=some (.p lo h)->o'.dst≠some t)->st'.T.get t=st.T.get t:=by intro t ht;rw[n2.same t (fun x o' h ho hp=>ht (x+1) o' h (by simpa using ho) (by simpa using hp))];exact t4 t (ht 0 o hi rfl rfl)
     rcases t5 with rfl|⟨ob,rfl,u1,u2⟩
     .refine⟨new,n1,n2.tr.trans t1,pp t2 n2.next,n2.all,same,?_,n2.zM⟩;intro p hp;obtain⟨a,b,c,x,h,hx,hpx⟩:=n2.ids p hp;exact⟨acs,b,c,x+1,h,acs,by simpa using hpx⟩
     .refine⟨new++[(i,st.h.next,ob)],by simp[n1],n2.tr.trans t1,pp t2 n2.next,n2.all,same,?_,?_⟩
      .intro p hp;rcases AC.1 hp with hp|hp
       .obtain⟨a,b,c,x,h,hx,hpx⟩:=n2.ids p hp;exact⟨acs,b,c,x+1,h,acs,by simpa using hpx⟩
       .simp at hp;subst hp;exact⟨ol _,rg u1 n2.next,nM n2.next u2,0,hi,rfl,rfl⟩
      .intro p hp p' hp' hpp;rcases AC.1 hp with hp|hp<;>rcases AC.1 hp' with hp'|hp'
       .exact n2.zM p hp p' hp' hpp
       .simp at hp';subst hp';obtain⟨a,b,c,x,h,hx,hpx⟩:=n2.ids p hp;rcases hpp with r|r<;>simp only[]at r<;>omega
       .simp at hp;subst hp;obtain⟨a,b,c,x,h,hx,hpx⟩:=n2.ids p' hp'
        grind
       .simp at hp hp';subst hp;subst hp';rfl
theorem Qt{pl:List PE}{q:Nat}:∀{pd:eS}{h:Hp}{pd':eS}{h':Hp},o6 pl q pd h=some (pd',h') ->
  h'.next=h.next/\(∀j o,h'.tr.get j=some o->h.tr.get j=some o\/∃p∈pd,(∃lo hi,pl[p.1]?=some (.p lo hi)/\hi<=q)/\j=p.2.1/\o=p.2.2) /\
  (∀p∈pd',p∈pd/\∃lo hi,pl[p.1]?=some (.p lo hi)/\q<hi)
 |[],h,pd',h',e=>by simp[o6]at e;obtain⟨rfl,rfl⟩:=e;exact⟨rfl,fun j o hj=>.inl hj,fun p hp=>by cases hp⟩
 |(i,id,ob)::l,h,pd',h',e=>by
  simp only[o6]at e;split at e<;>try cases e
  rename_i aez h₁ he;obtain⟨a1,a2,a3⟩:=Qt he;split at e<;>try cases e
  rename_i lo hi hp;rw[bW]at hp;split at e
  .rename_i hq;have hq:=pi hq;split at e<;>try cases e
   rename_i tr ht;have hg:=Tr.bE _ _ _ _ _ ht;refine⟨a1,?_,fun p hp'=>⟨by simp[(a3 p hp').1],(a3 p hp').2⟩⟩;intro j o hj;rw[hg j]at hj;by_cases r:j=id
   .rw[ut r]at hj;simp at hj;subst hj;exact .inr ⟨(i,id,ob),acv,⟨lo,hi,hp,hq⟩,r,rfl⟩
   .rw[qr r]at hj;rcases a2 j o hj with x|⟨p,hp',x⟩
    .exact .inl x
    .exact .inr ⟨p,by simp[hp'],x⟩
  .rename_i hq;have hq:q<hi:=by
    rcases rt q hi with r|r
    .exact r
    .rw[aaY r]at hq;cases hq
   simp only[bf,ww]at e;obtain⟨rfl,rfl⟩:=e;refine⟨a1,?_,?_⟩
   .intro j o hj;rcases a2 j o hj with x|⟨p,hp',x⟩
    .exact .inl x
    .exact .inr ⟨p,by simp[hp'],x⟩
   grind
theorem KU{i:Nat}:∀{pd:eS}{r:Nat×aI},kW i pd=some r->(i,r.1,r.2)∈pd
 |[],r,h=>by simp[kW]at h|(j,id,ob)::l,r,h=>by
  simp only[kW]at h;split at h
  .rename_i q
   simp_all
  .exact abl _ (KU h)
theorem Q3{i:Nat}:∀{pd:eS},kW i pd=none->∀p∈pd,p.1≠i
 |[],_,p,hp=>by cases hp
 |(j,id,ob)::l,h,p,hp=>by
  simp only[kW]at h;split at h<;>try cases h
  rename_i q;have q:=IT q;rcases BY.1 hp with rfl|hp
  .exact fun r=>q r.symm
  .exact Q3 h p hp
theorem ab.congr{w:World}(H:ab s h w)(hs:∀i,i<h.next->s' i=s i):ab s' h w where
 obj i o hi:=by rw[hs i (H.lt i o hi)];exact(H.obj i o hi).congr hs (H.lt i o hi) (H.fO i o hi)
 inj i j o o' hi hj e:=by rw[hs i (H.lt i o hi),hs j (H.lt j o' hj)]at e;exact H.inj i j o o' hi hj e
 lt:=H.lt
 fO:=H.fO
theorem ab.push{w:World}(H:ab s h w)(ob:Obj):ab s h { w with heap:=w.heap.push ob } where
 obj i o hi:=by have:=H.bound hi;show bS s i o (w.heap.push ob)[(s i).1]?;rw[abA,qr acs];exact H.obj i o hi
 inj:=H.inj
 lt:=H.lt
 fO:=H.fO
variable{aeI:Sg}
theorem Ext.congr{aeg:Hp}{afd w:World}(E:Ext aeI aeg afd s h w)(hl:∀i o,h.tr.get i=some o->i<h.next)(hs:∀i,i<h.next->s' i=s i):Ext aeI aeg afd s' h w where
 os:=E.os
 tape:=E.tape
 output:=E.output
 size:=E.size
 sg i hi:=(hs i (rg hi E.next)).trans (E.sg i hi)
 next:=E.next
 frame:=E.frame
 bz j o hj:=by rw[hs j (hl j o hj)];exact E.bz j o hj
 aH:=E.aH
theorem Ext.Kj{aeg:Hp}{afd w:World}(E:Ext aeI aeg afd s h w)(hn:h.next<=h'.next)(hg:∀j o,h'.tr.get j=some o->(∃o',h.tr.get j=some o')\/(afd.heap.size<=(s j).1/\aeg.next<=j)):Ext aeI aeg afd s h' w where
 os:=E.os
 tape:=E.tape
 output:=E.output
 size:=E.size
 sg:=E.sg
 next:=pp E.next hn
 frame:=E.frame
 bz j o hj:=by
  rcases hg j o hj with⟨o',h'⟩|q
  .exact E.bz j o' h'
  .exact .inr q.1
 aH j o hj hlt:=by
  rcases hg j o hj with⟨o',h'⟩|q
  .exact E.aH j o' h' hlt
  .omega
theorem Ext.push{aeg:Hp}{afd w:World}(E:Ext aeI aeg afd s h w)(ob:Obj):Ext aeI aeg afd s h { w with heap:=w.heap.push ob } where
 os:=E.os
 tape:=E.tape
 output:=E.output
 size:=by simp;have:=E.size;omega
 sg:=E.sg
 next:=E.next
 frame b hb hn:=by have:=E.size;show(w.heap.push ob)[b]?=_;rw[abA,qr acs];exact E.frame b hb hn
 bz:=E.bz
 aH:=E.aH
def left:Nat->(Nat->Bool)->Nat
 |0,_=>0|m+1,L=>left m L+(match L m with|true=>0|false=>1)
def mark(L:Nat->Bool)(i:Nat):Nat->Bool:=fun j=>if j=i then true else L j
theorem ql{L:Nat->Bool}{i:Nat}(hi:L i=false):∀m,left m (mark L i)+(if i<m then 1 else 0)=left m L
 |0=>by simp[left]|m+1=>by
  have ih:=ql hi m;simp only[left,mark]
  grind
theorem nK{L:Nat->Bool}:∀{m:Nat},left m L=0->∀i,i<m->L i=true
 |0,_,i,hi=>by omega|m+1,h,i,hi=>by
  simp only[left]at h;cases hm:L m with
  |false=>rw[hm]at h;simp at h|true=>
   rw[hm]at h;rcases rt i m with q|q
   .exact nK acs i q
   grind
theorem ab.VU{w:World}(H:ab s h w)(ht:h'.tr=h.tr)(hn:h.next<=h'.next):ab s h' w where
 obj i o hi:=H.obj i o (ht▸hi)
 inj i j o o' hi hj:=H.inj i j o o' (ht▸hi) (ht▸hj)
 lt i o hi:=rg (H.lt i o (ht▸hi)) hn
 fO i o hi:=nM hn (H.fO i o (ht▸hi))
def lF(ops:Array Oper)(pl:List PE)(m:Nat)(L:Nat->Bool)(t:Tmp):Prop:=∃(x:Nat) (o:Oper) (l h:Nat),ops[x]?=some o/\pl[x]?=some (.p l h)/\l<m/\L x=false/\o.dst=some t
structure Inv(n:Nat)(ops:Array Oper)(pl:List PE)(acM:fY)(aeg:Hp)(afd:World)(m q:Nat)(L:Nat->Bool)(a:Act)(w:World)(st:St)(pd:eS)(F:fY):Prop where
 ne:∃aeI,acM aeI
 size:a.tmps.size=n
 defers:a.defers=[]
 free:∀aeI,acM aeI->∀g:Sg,∃s,F s/\Ext aeI aeg afd s st.h w/\∀p∈pd,L p.1=false->s p.2.1=g p.2.1
 mv:∀s,F s->∃aeI,acM aeI/\Ext aeI aeg afd s st.h w
 tmp:∀s,F s->∀t v,st.T.get t=some v->¬lF ops pl m L t->a.tmps[t]?=some (ah s v)
 all:∀t v,st.T.get t=some v->t<n/\ws st.h.next v=true
 H:∀s,F s->ab s st.h w
 low:aeg.next<=st.h.next
 ud:∀p∈pd,aeg.next<=p.2.1
 pid:∀p∈pd,p.2.1<st.h.next/\st.h.tr.get p.2.1=none/\iV st.h.next p.2.2=true/\∃lo hi,pl[p.1]?=some (.p lo hi)/\lo<m/\q<=hi
 km:∀p∈pd,L p.1=true->∀s,F s->bS s p.2.1 p.2.2 w.heap[(s p.2.1).1]?/\afd.heap.size<=(s p.2.1).1/\∀j o,st.h.tr.get j=some o->(s j).1≠(s p.2.1).1
 mw:∀p∈pd,∀p'∈pd,L p.1=true->L p'.1=true->∀s,F s->(s p.2.1).1=(s p'.2.1).1->p.2.1=p'.2.1
 jH:∀p∈pd,∀p'∈pd,p.1=p'.1\/p.2.1=p'.2.1->p=p'
 down:∀(z:Nat) (o:Oper),ops[z]?=some o->L z=true->∀e∈cX o,L e=true
 wl:∀(i j:Nat),pl[i]?=some (.w j)->(L i=true↔j<=q)
 lo:∀(i l h:Nat),pl[i]?=some (.p l h)->L i=true->l<=q
 hi:∀(i l h:Nat),pl[i]?=some (.p l h)->h<q->L i=true
section
variable{n:Nat}{ops:Array Oper}{pl:List PE}{acM:fY}{aeg:Hp}{afd:World}{q:Nat}{L:Nat->Bool}{a:Act}{w:World}{st:St}{pd:eS}{F:fY}
theorem Inv.enter(I:Inv n ops pl acM aeg afd q q L a w st pd F)(hun:∀(i l h:Nat),pl[i]?=some (.p l h)->q<=l->L i=false)
  (e:kJ P n ops q ops.toList pl 0 st pd=some (st',pd')) :
  Inv n ops pl acM aeg afd (q+1) q L a w st' pd' (fun s=>∃aeK,F aeK/\∀i,i<st.h.next->s i=aeK i):=by
 obtain⟨new,rfl,S⟩:=Wz e I.all;have hHcl:∀s aeK,F aeK->(∀i,i<st.h.next->s i=aeK i)->ab s st'.h w:=by intro s aeK h1 hs;exact((I.H aeK h1).congr hs).VU S.tr S.next
 have hlt:∀aeK,F aeK->∀i o,st.h.tr.get i=some o->i<st.h.next:=fun aeK h1 i o hi=>(I.H aeK h1).lt i o hi;have hEcl:∀aeI s aeK,F aeK->Ext aeI aeg afd aeK st.h w->(∀i,i<st.h.next->s i=aeK i)->Ext aeI aeg afd s st'.h w:=by intro aeI s aeK h1 hE hs;refine(hE.congr (hlt aeK h1) hs).Kj S.next ?_;intro j o hj;rw[S.tr]at hj;exact .inl ⟨o,hj⟩
 have hnew:∀p∈new,L p.1=false:=by intro p hp;obtain⟨_,_,_,x,h,hx,hpx⟩:=S.ids p hp;exact hun p.1 q h (by rw[hx];simpa using hpx) (ol _)
 refine⟨I.ne,I.size,I.defers,?_,?_,?_,S.all,fun s ⟨aeK,h1,hs⟩=>hHcl s aeK h1 hs,pp I.low S.next,?_,?_,?_,?_,?_,I.down,I.wl,I.lo,I.hi⟩
 .intro aeI adX g;obtain⟨aeK,h1,hE,hg⟩:=I.free aeI adX g;refine⟨fun i=>if i<st.h.next then aeK i else g i,⟨aeK,h1,fun i hi=>by simp[hi]⟩,hEcl aeI _ aeK h1 hE (fun i hi=>by simp[hi]),?_⟩;intro p hp hL;simp only[];rcases AC.1 hp with hp|hp
  .have:=(S.ids p hp).1;rw[qr acs]
  .rw[ut (I.pid p hp).1];exact hg p hp hL
 .rintro s ⟨aeK,h1,hs⟩;obtain⟨aeI,adX,hE⟩:=I.mv aeK h1;exact⟨aeI,adX,hEcl aeI s aeK h1 hE hs⟩
 .rintro s ⟨aeK,h1,hs⟩ t v hv hnp;have hsame:st'.T.get t=st.T.get t:=by refine S.same t ?_;intro x o h ho hp hd;exact hnp ⟨x,o,q,h,by simpa using ho,hp,acs,hun x q h hp (ol _),hd⟩
  rw[hsame]at hv;have hnp':¬lF ops pl q L t:=fun⟨x,o,l,h,p1,p2,p3,p4,p5⟩=>hnp ⟨x,o,l,h,p1,p2,acs,p4,p5⟩;rw[oQ hs v (I.all t v hv).2];exact I.tmp aeK h1 t v hv hnp'
 .intro p hp;rcases AC.1 hp with hp|hp
  .exact pp I.low (S.ids p hp).1
  .exact I.ud p hp
 .intro p hp;rcases AC.1 hp with hp|hp
  .obtain⟨p1,p2,p3,x,h,hx,hpx⟩:=S.ids p hp;refine⟨p2,?_,p3,q,h,by rw[hx];simpa using hpx,acs,?_⟩
   .rw[S.tr];cases hg:st.h.tr.get p.2.1 with|none=>rfl|some o=>exfalso;obtain⟨aeI,adX⟩:=I.ne;obtain⟨aeK,h1,_⟩:=I.free aeI adX (fun _=>(0,0));have:=hlt aeK h1 _ _ hg;omega
   .rcases rt h q with r|r
    .have h1:=I.hi p.1 q h (by rw[hx];simpa using hpx) r;rw[hnew p hp]at h1;cases h1
    .exact r
  .obtain⟨p1,p2,p3,lo,hi,p4,p5,p6⟩:=I.pid p hp;exact⟨rg p1 S.next,by rw[S.tr];exact p2,nM S.next p3,lo,hi,p4,acs,p6⟩
 .rintro p hp hL s ⟨aeK,h1,hs⟩;rcases AC.1 hp with hp|hp
  .rw[hnew p hp]at hL;cases hL
  .obtain⟨p1,p2,p3,_⟩:=I.pid p hp;obtain⟨r1,r2,r3⟩:=I.km p hp hL aeK h1;rw[hs p.2.1 p1];refine⟨r1.congr hs p1 p3,r2,?_⟩;intro j o hj;rw[S.tr]at hj;rw[hs j (hlt aeK h1 j o hj)];exact r3 j o hj
 .rintro p hp p' hp' hL hL' s ⟨aeK,h1,hs⟩ he;rcases AC.1 hp with hp|hp
  .rw[hnew p hp]at hL;cases hL
  .rcases AC.1 hp' with hp'|hp'
   .rw[hnew p' hp']at hL';cases hL'
   .rw[hs _ (I.pid p hp).1,hs _ (I.pid p' hp').1]at he;exact I.mw p hp p' hp' hL hL' aeK h1 he
 .intro p hp p' hp' hpp;have cross:∀p∈new,∀p'∈pd,¬(p.1=p'.1\/p.2.1=p'.2.1):=by
   rintro p hp p' hp' (r|r)
   .obtain⟨_,_,_,x,h,hx,hpx⟩:=S.ids p hp;obtain⟨_,_,_,lo,hi,p4,p5,_⟩:=I.pid p' hp'
    grind
   .have:=(S.ids p hp).1;have:=(I.pid p' hp').1;omega
  rcases AC.1 hp with hp|hp<;>rcases AC.1 hp' with hp'|hp'
  .exact S.zM p hp p' hp' hpp
  .exact absurd hpp (cross p hp p' hp')
  .exact absurd (hpp.imp Eq.symm Eq.symm) (cross p' hp' p hp)
  .exact I.jH p hp p' hp' hpp
theorem tm:∀{l:List Operand}{t:Tmp},Operand.tmp t∈l->t∈tmpsOf l
 |[],t,h=>by cases h
 |x::l,t,h=>by
  rcases BY.1 h with rfl|h2
  .simp[tmpsOf]
  .have:=tm h2;cases x<;>simp[tmpsOf,this]
theorem ke(h:Operand.tmp t∈o.op.operands):t∈looks ops.toList o:=by
 have:=tm (aba.2 h);unfold looks
 grind
theorem nG{oj:Oper}{j:Nat}(h:o.guard=some (j,b))(hj:ops[j]?=some oj)(hd:oj.dst=some t):t∈looks ops.toList o:=by
 unfold looks;have hj':nth ops.toList j=some oj:=by rw[bW];simpa using hj
 simp[h,hj',hd]
theorem Inv.oI{m:Nat}(I:Inv n ops pl acM aeg afd m q L a w st pd F)(hP:iz ops pl k)(ho:ops[i]?=some o)(hr:∀e∈cX o,L e=true)
  (ht:t∈looks ops.toList o):¬lF ops pl m L t:=by
 rintro⟨x,ox,l,h,p1,p2,p3,p4,p5⟩;have:=hr x (hP.fresh i o ho t ht x ox l h p1 p2 p5);rw[p4]at this;cases this
theorem Inv.vE(I:Inv n ops pl acM aeg afd (q+1) q L a w st pd F)(hP:iz ops pl k)(ho:ops[i]?=some o)(hr:∀e∈cX o,L e=true)(hL:L i=false){l h:Nat}
  (hp:pl[i]?=some (.p l h)):l<=q/\q<=h:=by
 constructor
 .rcases hP.lo i o l h ho hp with r|⟨e,pe,h1,h2,h3⟩
  .omega
  .have hLe:=hr e h1;cases pe with|w j=>have:=(I.wl e j h2).1 hLe;simp only[PE.num]at h3;omega|p l' h'=>have:=I.lo e l' h' h2 hLe;simp only[PE.num]at h3;omega
 .rcases rt h q with r|r
  .have:=I.hi i l h hp r;rw[hL]at this;cases this
  .exact r
theorem jl{j:Nat}(h:L j=true):mark L i j=true:=by unfold mark;split<;>simp[h]
theorem lG{j:Nat}(h:mark L i j=false):L j=false/\j≠i:=by
 unfold mark at h
 grind
theorem Inv.qQ{l h:Nat}(I:Inv n ops pl acM aeg afd (q+1) q L a w st pd F)(ho:ops[i]?=some o)(hr:∀e∈cX o,L e=true)
  (hp:pl[i]?=some (.p l h)) (hl:l<=q) (hsub:∀s,F' s->F s) (hV:∀s,F' s->∀t,o.dst=some t->∃v,st.T.get t=some v/\ah s v=V)
  (free:∀aeI,acM aeI->∀g:Sg,∃s,F' s/\Ext aeI aeg afd s st.h w'/\∀p∈pd,mark L i p.1=false->s p.2.1=g p.2.1)
  (mv:∀s,F' s->∃aeI,acM aeI/\Ext aeI aeg afd s st.h w') (H:∀s,F' s->ab s st.h w')
  (km:∀p∈pd,mark L i p.1=true->∀s,F' s->bS s p.2.1 p.2.2 w'.heap[(s p.2.1).1]?/\afd.heap.size<=(s p.2.1).1/\∀j o,st.h.tr.get j=some o->(s j).1≠(s p.2.1).1)
  (mw:∀p∈pd,∀p'∈pd,mark L i p.1=true->mark L i p'.1=true->∀s,F' s->(s p.2.1).1=(s p'.2.1).1->p.2.1=p'.2.1) :
  Inv n ops pl acM aeg afd (q+1) q (mark L i) (a.put o.dst V) w' st pd F':=by
 refine⟨I.ne,?_,?_,free,mv,?_,I.all,H,I.low,I.ud,I.pid,km,mw,I.jH,?_,?_,?_,fun j l h hj hh=>jl (I.hi j l h hj hh)⟩
 .cases hd:o.dst<;>simp[Act.put,hd,I.size]
 .cases hd:o.dst<;>simp[Act.put,hd,I.defers]
 .intro s hs t v hv hnp;by_cases hd:o.dst=some t
  .obtain⟨v',hv',hc⟩:=hV s hs t hd;rw[hv]at hv';simp at hv';subst hv';simp only[Act.put,hd,Id,abE];rw[ut (by rw[I.size];exact(I.all t v hv).1),hc]
  .have hnp':¬lF ops pl (q+1) L t:=by
    rintro⟨x,ox,l',h',p1,p2,p3,p4,p5⟩;refine hnp ⟨x,ox,l',h',p1,p2,p3,?_,p5⟩;unfold mark
    grind
   have:=I.tmp s (hsub s hs) t v hv hnp';cases hd':o.dst with|none=>exact this|some d=>simp only[Act.put,Id];rw[qr (fun e=>hd (by rw[hd',e]))];exact this
 .intro z oz hz hLz e he;unfold mark at hLz;split at hLz
  .rename_i e1;subst e1;rw[ho]at hz;simp at hz;subst hz;exact jl (hr e he)
  .exact jl (I.down z oz hz hLz e he)
 .intro j x hj;have hne:j≠i:=by intro e;subst e;rw[hp]at hj;simp at hj
  unfold mark;rw[qr hne];exact I.wl j x hj
 .intro j l' h' hj hLj;unfold mark at hLj;split at hLj
  .rename_i e;subst e;rw[hp]at hj;simp at hj;omega
  .exact I.lo j l' h' hj hLj
theorem Ha(h:q9 T d v=true)(hd:d=some t):T.get t=some v:=by
 subst hd;simp only[q9]at h;split at h<;>try cases h
 rename_i u hu;rw[hu,AV.eg h]
theorem Inv.step(I:Inv n ops pl acM aeg afd (q+1) q L a w st pd F)(hP:iz ops pl k)(ho:ops[i]?=some o)(hr:∀e∈cX o,L e=true)(hL:L i=false)
  {l h:Nat}(hp:pl[i]?=some (.p l h)) (hc:rM P ops st pd o i=true) 
  (hK:∀a' w' F',Inv n ops pl acM aeg afd (q+1) q (mark L i) a' w' st pd F'->K a' w'):wpOp P ops Q i K a w:=by
 obtain⟨hlq,hqh⟩:=I.vE hP ho hr hL hp;obtain⟨aeI,adX⟩:=I.ne;obtain⟨aeK,adZ,_⟩:=I.free aeI adX (fun _=>(0,0));have hO:∀s,F s->fA s st.T a o.op:=fun s hs=>o9 fun t ht u hu=>I.tmp s hs t u hu (I.oI hP ho hr (ke ht));have hW:∀{b},oY ops st.T o=some b->Region.wanted o (yielded ops a.tmps)=b:=fun hw=>y5 hw (fun j b oj t v hg hj hd hv=>I.tmp aeK adZ t v hv (I.oI hP ho hr (nG hg hj hd)));have mk:∀{p:Nat×Nat×aI},kW i pd=none->p∈pd->mark L i p.1=L p.1:=by intro p hf hp';unfold mark;rw[qr (Q3 hf p hp')]
 have quiet:∀V,kW i pd=none->(∀s,F s->∀t,o.dst=some t->∃v,st.T.get t=some v/\ah s v=V)->K (a.put o.dst V) w:=by
  intro V hf hV;refine hK _ w F (I.qQ ho hr hp hlq (fun s hs=>hs) hV ?_ I.mv I.H ?_ ?_)
  .intro aeI adX g;obtain⟨s,h1,h2,h3⟩:=I.free aeI adX g;exact⟨s,h1,h2,fun p hp' hm=>h3 p hp' (by rw[mk hf hp']at hm;exact hm)⟩
  .intro p hp' hm;rw[mk hf hp']at hm;exact I.km p hp' hm
  .intro p hp' p' hp'' hm hm';rw[mk hf hp']at hm;rw[mk hf hp'']at hm';exact I.mw p hp' p' hp'' hm hm'
 unfold wpOp;rw[ho];simp only[];unfold rM at hc;split at hc
 .rename_i hw;rw[hW hw];simp only[GE,abu];split at hc<;>try cases hc
  rename_i hf;exact quiet undef hf (fun s hs t ht=>⟨_,Ha hc ht,rfl⟩)
 .rename_i hw;rw[hW hw];simp only[abE];left;unfold Oper.wp;split at hc
  .rename_i id ob hf;have hmem:=KU hf;split at hc<;>try cases hc
   rename_i ob' v ha;split at hc<;>try cases hc
   rename_i hob;have hob:=Th hob;subst hob;obtain⟨aeL,aea,adA,adJ⟩:=I.free aeI adX (fun _=>(w.heap.size,0));have hid:aeL id=(w.heap.size,0):=adJ _ hmem hL;obtain⟨afl,hrun,hor⟩:=BC ha (hO aeL aea) w hid;rw[hrun];have each:∀s,F s->s id=(w.heap.size,0)->ah s v=ah aeL v/\bS s id ob (some afl):=by intro s hs hsi;obtain⟨x,hrun',hor'⟩:=BC ha (hO s hs) w hsi;rw[hrun]at hrun';simp only[ST,aco,World.mk.injEq,Array.push_eq_push,abj,acr]at hrun';obtain⟨q1,rfl⟩:=hrun';exact⟨q1.symm,hor'⟩
   have other:∀p∈pd,p.1≠i->p.2.1≠id:=fun p hp' hne e=>hne (abp Prod.fst (I.jH p hp' _ hmem (.inr e)));have old:∀p∈pd,L p.1=true->∀s,F s->(s p.2.1).1<w.heap.size:=by
    intro p hp' hLp s hs;obtain⟨y,hy⟩:=(I.km p hp' hLp s hs).1.there;rcases rt (s p.2.1).1 w.heap.size with r|r
    .exact r
    .rw[aaT r]at hy;cases hy
   have split_:∀p∈pd,mark L i p.1=true->p=(i,id,ob)\/(L p.1=true/\p.1≠i):=by
    intro p hp' hm;unfold mark at hm;split at hm
    .rename_i e;exact .inl (I.jH p hp' _ hmem (.inl e))
    .rename_i e;exact .inr ⟨hm,e⟩
   refine hK _ _ (fun s=>F s/\s id=(w.heap.size,0)) (I.qQ ho hr hp hlq (fun s hs=>hs.1) ?_ ?_ ?_ ?_ ?_ ?_)
   .intro s hs t ht;exact⟨v,Ha hc ht,(each s hs.1 hs.2).1⟩
   .intro aeJ adY g;obtain⟨s,h1,h2,h3⟩:=I.free aeJ adY (aQ g id (w.heap.size,0));refine⟨s,⟨h1,by rw[h3 _ hmem hL];exact cE _ _ _⟩,h2.push afl,?_⟩;intro p hp' hm;obtain⟨hLp,hne⟩:=lG hm;rw[h3 p hp' hLp];simp only[aQ];rw[qr (other p hp' hne)]
   .rintro s ⟨hs,_⟩;obtain⟨aeJ,h1,h2⟩:=I.mv s hs;exact⟨aeJ,h1,h2.push afl⟩
   .rintro s ⟨hs,_⟩;exact(I.H s hs).push afl
   .rintro p hp' hm s ⟨hs,hsi⟩;rcases split_ p hp' hm with rfl|⟨hLp,hne⟩
    .rw[hsi];refine⟨?_,?_,?_⟩
     .show bS s id ob (w.heap.push afl)[w.heap.size]?;simpa using(each s hs hsi).2
     .obtain⟨_,_,hE⟩:=I.mv s hs;exact hE.size
     .intro j o' hj;have:=(I.H s hs).bound hj;show(s j).1≠w.heap.size;omega
    .obtain⟨r1,r2,r3⟩:=I.km p hp' hLp s hs;refine⟨?_,r2,r3⟩;show bS s p.2.1 p.2.2 (w.heap.push afl)[(s p.2.1).1]?;have:=old p hp' hLp s hs;rw[abA,qr acs];exact r1
   .rintro p hp' p' hp'' hm hm' s ⟨hs,hsi⟩ he;rcases split_ p hp' hm with rfl|⟨hLp,hne⟩<;>rcases split_ p' hp'' hm' with rfl|⟨hLp',hne'⟩
    .rfl
    .have:=old p' hp'' hLp' s hs;rw[hsi]at he;simp only[]at he;omega
    .have:=old p hp' hLp s hs;rw[hsi]at he;simp only[]at he;omega
    .exact I.mw p hp' p' hp'' hLp hLp' s hs he
  .rename_i hf;split at hc<;>try cases hc
   rename_i v hv;have h₁:=oP hv (hO aeK adZ) (I.H aeK adZ);rw[h₁];refine quiet (ah aeK v) hf ?_;intro s hs t ht;refine⟨v,Ha hc ht,?_⟩;have h₂:=oP hv (hO s hs) (I.H s hs);rw[h₁]at h₂;simp only[ST,aco,abj]at h₂;exact h₂.symm
 .cases hc
end
end Go.Proofs.Ytbbhihkocghhaaa.Ev
end
section
namespace Go.Proofs.Ytbbhihkocghhaaa.V
open Go Go.RowKit
open Go.Proofs.Ytbbhihkocghhaaa.Ev (Tr Tr.bE nth bW PE iz pg jv th cX looks tmpsOf tm ke nG gU mH ku nJ left mark ql nK cz gb jl lG)
theorem qt{T T':Tr AV}{x:Operand}(h:∀t,x=.tmp t->T'.get t=T.get t):aK T' x=aK T x:=by cases x with|tmp t=>exact h t rfl|_=>rfl
theorem Q6{T T':Tr AV}:∀{l:List Operand},(∀t,.tmp t∈l->T'.get t=T.get t)->di T' l=di T l
 |[],_=>rfl|x::l,h=>by simp only[di];rw[qt (fun t q=>h t (by simp[q])),Q6 (fun t q=>h t (by simp[q]))]
theorem GC{T T':Tr AV}:∀{l:List (Nat×Operand)},(∀t,.tmp t∈l.map (·.2)->T'.get t=T.get t)->fL T' l=fL T l
 |[],_=>rfl|(i,x)::l,h=>by simp only[fL];rw[qt (fun t q=>h t (by simp[q])),GC (fun t q=>h t (by grind))]
mutual
theorem Mt{h h₂:Hp}:∀{σ:Sh}{l:List AV}{d:σ.T}{r:List AV}{h':Hp},dz false h σ l=some (d,r,h')->dz false h₂ σ l=some (d,r,h₂)
 |.int k,l,d,r,h',e=>by
  simp only[dz]at e |-;split at e<;>try cases e
  split at e<;>cases e;rename_i q;simp only[q]
 |.bool,l,d,r,h',e=>by simp only[dz]at e |-;split at e<;>cases e;rfl
 |.str,l,d,r,h',e=>by simp only[dz]at e |-;split at e<;>cases e;rfl
 |.agg ss,l,d,r,h',e=>LD (ss:=ss) e|.sl s,l,d,r,h',e=>by
  simp only[dz]at e |-;split at e<;>try cases e
  .rfl
  .split at e<;>cases e;rfl
  .split at e<;>try cases e
   split at e<;>first|(cases e;done)|(rename_i q _;cases q)
  .split at e<;>try cases e
   split at e<;>first|(cases e;done)|(rename_i q _;cases q)
theorem LD{h h₂:Hp}:∀{ss:List Sh}{l:List AV}{d:TL ss}{r:List AV}{h':Hp},je false h ss l=some (d,r,h')->je false h₂ ss l=some (d,r,h₂)
 |[],l,d,r,h',e=>by simp only[je]at e |-;cases e;rfl
 |s::ss,l,d,r,h',e=>by
  simp only[je]at e |-;split at e<;>try cases e
  rename_i ads aeC h₁ adv;split at e<;>try cases e
  rename_i adt aeD aei adw;have:=zw adv;subst this;rw[Mt (h₂:=h₂) adv];simp only[];rw[LD (h₂:=h₂) adw]
end
theorem Hh{h h₂:Hp}{τ:Sh}:∀{n:Nat}{l:List AV}{L:List τ.T},gw h τ n l=some L->gw h₂ τ n l=some L
 |0,l,L,e=>e|n+1,l,L,e=>by
  simp only[gw]at e |-;split at e<;>try cases e
  rename_i x r h₁ hf;split at e<;>try cases e
  rename_i xs hx;rw[Mt (h₂:=h₂) hf];simp only[];rw[Hh hx]
def ef:Op->Bool
 |.alloc _|.box _ _|.makeSlice _ _ _|.buildSlice _ _ _|.makeMap _ _=>true|_=>false
def jf:AV->Option Nat
 |.ptr b _=>some b|.hd b _=>some b|.vw b _ _ _=>some b|.mp b=>some b|_=>none
theorem zA{P:Program}{sh:TypeId->Option Sh}{T:Tr AV}{h:Hp}{n:Nat}{o:Op}{x:Bool×aI×AV}(e:gX P sh T h n o=some x):ef o=true/\jf x.2.2=some n:=by
 unfold gX at e;split at e
 .split at e<;>cases e;exact⟨rfl,rfl⟩
 .split at e<;>cases e;exact⟨rfl,rfl⟩
 .split at e<;>try cases e
  split at e<;>try cases e
  split at e<;>cases e;exact⟨rfl,rfl⟩
 .split at e<;>try cases e
  split at e<;>try cases e
  split at e<;>try cases e
  unfold qL at e;split at e
  .split at e<;>try cases e
   split at e<;>cases e<;>exact⟨rfl,rfl⟩
  .cases e;exact⟨rfl,rfl⟩
 .split at e<;>try cases e
  split at e<;>cases e;exact⟨rfl,rfl⟩
 .cases e
theorem Xy{h h₂:Hp}{n:Nat}{elem:TypeId}{len sz:Nat}{r:List AV}{s:Option Sh}:qL h n elem len sz r s=qL h₂ n elem len sz r s:=by
 unfold qL;cases s with
 |none=>rfl|some τ=>
  have:gw h τ len r=gw h₂ τ len r:=by cases q:gw h τ len r with|some L=>exact(Hh q).symm|none=>cases q':gw h₂ τ len r with|none=>rfl|some L=>rw[Hh (h₂:=h) q']at q;cases q
  simp only[this]
theorem Hs{P:Program}{sh:TypeId->Option Sh}{T T':Tr AV}{h h':Hp}{n:Nat}{o:Op}{x:Bool×aI×AV}(e:gX P sh T h n o=some x)(hT:∀t,.tmp t∈o.operands->T'.get t=T.get t):gX P sh T' h' n o=some x:=by
 unfold gX at e |-;cases o<;>try (cases e;done)
 .exact e
 .rename_i elem y
  try dsimp only at e |-
  rw[qt (fun t q=>hT t (by simp[Op.operands,q]))];exact e
 .rename_i t l parts
  try dsimp only at e |-
  rw[GC (fun t q=>hT t (by simp only[Op.operands,abC];exact q))];simp only[Xy (h:=h') (h₂:=h)];exact e
 .exact e
 .rename_i t l c
  try dsimp only at e |-
  rw[qt (x:=l) (fun t q=>hT t (by simp[Op.operands,q])),qt (x:=c) (fun t q=>hT t (by simp[Op.operands,q]))];exact e
theorem Xx{h h':Hp}(L:dF h h'){u:AV}{x:Bool×List AV×Nat}(e:qE h u=some x):qE h' u=some x:=by
 unfold qE at e |-;cases u<;>try (cases e;done)
 .try dsimp only at e |-
  split at e<;>try cases e
  rename_i q;rw[L _ _ q]
 .try dsimp only at e |-
  split at e<;>try cases e
  .rename_i q;rw[L _ _ q];exact e
  .rename_i q;rw[L _ _ q];exact e
 .exact e
 .try dsimp only at e |-
  split at e<;>cases e;rename_i q;rw[L _ _ q]
theorem S4{h h':Hp}(L:dF h h'){u:AV}{n:Nat}(e:lenOf h u=some n):lenOf h' u=some n:=by
 unfold lenOf at e |-;cases u<;>try (cases e;done)
 .exact e
 .try dsimp only at e |-
  split at e<;>try cases e
  .rename_i q;rw[L _ _ q]
  .rename_i q;rw[L _ _ q]
 .exact e
 .exact e
 .exact e
 .try dsimp only at e |-
  split at e<;>cases e;rename_i q;rw[L _ _ q]
theorem WE{P:Program}{h h':Hp}(L:dF h h'){t:TypeId}{u i:AV}{x:Bool×AV}(e:lI P h t u i=some x):lI P h' t u i=some x:=by
 unfold lI at e |-;cases i<;>try (cases e;done)
 try dsimp only at e |-
 cases hu:P.underlying t with
 |none=>simp[hu]at e|some d=>
  cases d<;>simp only[hu]at e |-<;>try (cases e;done)
  .split at e<;>try cases e
   rename_i sz hs;cases u<;>(try dsimp only at e |-)<;>try (cases e;done)
   .split at e<;>try cases e
    .rename_i q;rw[L _ _ q];exact e
    .rename_i q;rw[L _ _ q];exact e
   .split at e<;>try cases e
    rename_i hz;split at e<;>try cases e
    .rename_i q;rw[L _ _ q]
    .rename_i q;rw[L _ _ q]
   .exact e
   .split at e<;>try cases e
    rename_i q;rw[L _ _ q];exact e
  .exact e
theorem Xq{P:Program}{h h':Hp}(L:dF h h'){T T':Tr AV}{t:TypeId}{u:AV}{lo hi:Option Operand}{x:Bool×AV}(e:lN P h T t u lo hi=some x)(h1:da T' lo=da T lo)(h2:da T' hi=da T hi):lN P h' T' t u lo hi=some x:=by
 unfold lN at e |-;rw[h1,h2];split at e<;>try cases e
 rename_i l r q1 q2
 try simp only[q1,q2]
 cases hu:P.underlying t with
 |none=>simp[hu]at e|some d=>
  cases d<;>simp only[hu]at e |-<;>try (cases e;done)
  .exact e
  .split at e<;>try cases e
   rename_i sz hs;cases u<;>(try dsimp only at e |-)<;>try (cases e;done)
   .exact e
   .split at e<;>try cases e
    rename_i q;rw[L _ _ q];exact e
   .exact e
   .exact e
theorem X9{P:Program}{h h':Hp}(L:dF h h'){t:TypeId}{u i v:AV}{ck:Bool}(e:qJ P h t u i ck=some v):qJ P h' t u i ck=some v:=by
 unfold qJ at e |-;split at e<;>try cases e
 rename_i hu
 try simp only[hu]
 split at e<;>try cases e
 rename_i hk hz
 try simp only[hk,hz]
 split at e<;>try cases e
 split at e<;>try cases e
 rename_i hb;rw[L _ _ hb];exact e
theorem SS{P:Program}{h h':Hp}(L:dF h h'){ts:Array TypeId}{u v:AV}(e:pA P h ts u=some v):pA P h' ts u=some v:=by
 unfold pA at e |-;split at e<;>try cases e
 rename_i t ht
 try simp only[ht]
 cases hu:P.underlying t with
 |none=>simp[hu]at e|some d=>
  cases d<;>simp only[hu]at e |-<;>first|(cases e;done)|exact e|skip
  split at e<;>try cases e
  rename_i n hn;rw[S4 L hn]
theorem WH{P:Program}{h h':Hp}(L:dF h h'){b:Builtin}{ts:Array TypeId}{vs:List AV}{v:AV}(e:lJ P h b ts vs=some v):lJ P h' b ts vs=some v:=by
 unfold lJ at e |-;cases b<;>try (cases e;done)
 .try dsimp only at e |-
  split at e<;>try cases e
  split at e
  .rename_i q
   try simp only[q]
   unfold ve at e |-;split at e<;>try cases e
   split at e<;>try cases e
   rename_i hb;rw[L _ _ hb]
  .rename_i q
   try simp only[q]
   exact SS L e
 .exact e
 .exact e
theorem Ho{P:Program}{T T':Tr AV}{h h':Hp}(L:dF h h'){o:Oper}{x:Bool×AV}(e:iD P T h o=some x)(hT:∀t,.tmp t∈o.op.operands->T'.get t=T.get t):iD P T' h' o=some x:=by
 have one:∀y,y∈o.op.operands->aK T' y=aK T y:=fun y hy=>qt (fun t q=>hT t (by rw[<-q];exact hy));have lst:∀l:List Operand,(∀y∈l,y∈o.op.operands)->di T' l=di T l:=fun l hl=>Q6 (fun t q=>hT t (hl _ q));unfold iD at e |-;cases ho:o.op<;>rw[ho]at e one lst<;>(try dsimp only at e |-)<;>try (cases e;done)
 case move y=>rw[one y (by simp[Op.operands])];exact e
 case pick c a b=>rw[one c (by simp[Op.operands]),one a (by simp[Op.operands]),one b (by simp[Op.operands])];exact e
 case build t parts=>rw[GC (fun t q=>hT t (by rw[ho];simp only[Op.operands,abC];exact q))];exact e
 case load t y=>
  rw[one y (by simp[Op.operands])];split at e<;>try cases e
  rename_i u hu;unfold jP at e |-;split at e<;>try cases e
  rename_i hc;rw[Xx L hc];exact e
 case nilCheck y=>rw[one y (by simp[Op.operands])];exact e
 case binOp op t y z yt=>rw[one y (by simp[Op.operands]),one z (by simp[Op.operands])];exact e
 case unOp op t y=>rw[one y (by simp[Op.operands])];exact e
 case convert s d y=>rw[one y (by simp[Op.operands])];exact e
 case makeFunc fn a b=>
  cases fn<;>(try dsimp only at e |-)<;>try (cases e;done)
  rw[lst a.toList (by intro z hz;simp only[Op.operands];exact abQ.2 (.inl (aba.1 hz))),lst b.toList (by intro z hz;simp only[Op.operands];exact abQ.2 (.inr (aba.1 hz)))];exact e
 case slice t y lo hi mx=>
  cases mx<;>(try dsimp only at e |-)<;>try (cases e;done)
  rw[one y (by simp[Op.operands])];split at e<;>try cases e
  rename_i hu;refine Xq L e ?_ ?_
  .cases lo with|none=>rfl|some z=>simp only[da];rw[one z (by simp[Op.operands])]
  .cases hi with|none=>rfl|some z=>simp only[da];rw[one z (by simp[Op.operands])]
 case fieldAddr t y f=>rw[one y (by simp[Op.operands])];exact e
 case field t y f=>rw[one y (by simp[Op.operands])];exact e
 case indexAddr t y i=>
  rw[one y (by simp[Op.operands]),one i (by simp[Op.operands])];split at e<;>try cases e
  exact WE L e
 case index t y i=>rw[one y (by simp[Op.operands]),one i (by simp[Op.operands])];exact e
 case extract t i=>rw[one t (by simp[Op.operands])];exact e
 case lookup t y i ck=>
  rw[one y (by simp[Op.operands]),one i (by simp[Op.operands])];split at e<;>try cases e
  split at e<;>cases e;rename_i v hv;rw[X9 L hv]
 case call c=>
  split at e<;>try cases e
  rename_i b hb;rw[lst c.args.toList (by intro z hz;simp only[Op.operands,Call.operands,hb];simpa using hz)];split at e<;>try cases e
  rename_i vs hvs;split at e<;>cases e;rename_i v hv;rw[WH L hv]
def jm(ops:Array Oper)(T:Tr AV)(o:Oper):Option Bool:=match o.guard with
 |none=>some true|some (j,want)=>match nth ops.toList j with
  |some oj=>match oj.dst with
   |some t=>match T.get t with
    |some (.bool b)=>some (match b with|true=>want|false=>!want)
    |some (.bD [])=>some false|_=>none
   |none=>none
  |none=>none
theorem tj{ops:Array Oper}{T T':Tr AV}{o:Oper}(h:∀t∈looks ops.toList o,T'.get t=T.get t):jm ops T' o=jm ops T o:=by
 unfold jm;split
 .rfl
 .rename_i j want hg;split
  .rename_i oj hj;split
   .rename_i t ht;rw[h t (nG (ops:=ops) hg (by rw[bW]at hj;simpa using hj) ht)]
   .rfl
  .rfl
theorem GP{ops:Array Oper}{T:Tr AV}{o:Oper}{b:Bool}(e:jm ops T o=some b){X:Cx}{a:Act}(R:∀t∈looks ops.toList o,∀v,T.get t=some v->∃V,a.tmps[t]?=some V/\Rel X v V) :
  Region.wanted o (yielded ops a.tmps)=b:=by
 unfold jm at e;unfold Region.wanted;split at e
 .rename_i hg;grind
 .rename_i j want hg;split at e<;>try cases e
  rename_i oj hj;split at e<;>try cases e
  rename_i t ht;have hj':ops[j]?=some oj:=by rw[bW]at hj;simpa using hj
  have hl:=nG (ops:=ops) hg hj' ht;rw[hg];split at e<;>cases e
  .rename_i c hv;obtain⟨V,h1,h2⟩:=R t hl _ hv;rw[show V=_ from h2]at h1;cases c<;>cases want<;>simp[yielded,hj',ht,h1]
  .rename_i hv;obtain⟨V,h1,cs,rfl,h2⟩:=R t hl _ hv;simp[yielded,hj',ht,h1]
theorem WL{R:Type}{ops:Array Oper}{T:Tr AV}{o:Oper}{k:Bool->Tr AV->Option R}{r:R}(e:qy ops T o k=some r):∃b T',k b T'=some r/\(∀t,T'.get t=T.get t)/\jm ops T o=some b:=by
 unfold qy at e;unfold jm;split at e
 .rename_i hg
  grind
 .rename_i j want hg
  try rw[hg]
  split at e<;>try cases e
  rename_i oj hj;split at e<;>try cases e
  rename_i t ht;split at e<;>try cases e
  rename_i v hv;simp only[hj,ht,hv];split at e
  .rename_i b;have same:∀{T':Tr AV},Tr.set FT T t (some (.bool b))=some T'->∀u,T'.get u=T.get u:=by
    intro T' hs u;rw[Tr.bE _ _ _ _ _ hs u]
    grind
   rcases AZ e with⟨hb,e2⟩|⟨hb,e2⟩
   .subst hb
    grind
   grind
  .exact⟨false,T,e,fun _=>rfl,rfl⟩
  .cases e
def lO{α:Type}(f:α->α->Bool):List α->List α->Bool
 |[],[]=>true|x::l,y::m=>match f x y with|true=>lO f l m|false=>false
 |_,_=>false
theorem G6{α:Type}{f:α->α->Bool}(h:∀x y,f x y=true->x=y):∀{l m:List α},lO f l m=true->l=m
 |[],[],_=>rfl|x::l,y::m,q=>by
  simp only[lO]at q;split at q
  .rename_i hx;rw[h x y hx,G6 h q]
  .cases q
 |[],_::_,q=>by simp[lO]at q|_::_,[],q=>by simp[lO]at q
theorem BG{α:Type}{f:α->α->Bool}(h:∀x,f x x=true):∀l:List α,lO f l l=true
 |[]=>rfl|x::l=>by simp only[lO,h x];exact BG h l
def Bh(a b:Int):Bool:=decide (a=b)
def EP(a b:Bool):Bool:=decide (a=b)
theorem S3{a b:Int}(h:Bh a b=true):a=b:=WF h
theorem Yi{a b:Bool}(h:EP a b=true):a=b:=WF h
mutual
def Sh.beq:(σ:Sh)->σ.T->σ.T->Bool
 |.int _,a,b=>Bh a b|.bool,a,b=>EP a b|.str,a,b=>Ev.rz a b|.agg l,a,b=>pW l a b|.sl s,a,b=>lO s.beq a b
termination_by structural x=>x
def pW:(l:List Sh)->TL l->TL l->Bool
 |[],_,_=>true|s::l,a,b=>match s.beq a.1 b.1 with|true=>pW l a.2 b.2|false=>false
termination_by structural x=>x
end
mutual
theorem Sh.beq_eq:∀{σ:Sh}{a b:σ.T},σ.beq a b=true->a=b
 |.int _,a,b,h=>S3 h|.bool,a,b,h=>Yi h|.str,a,b,h=>Ev.Hv h|.agg l,a,b,h=>MA (l:=l) h|.sl s,a,b,h=>G6 (fun x y q=>Sh.beq_eq q) h
theorem MA:∀{l:List Sh}{a b:TL l},pW l a b=true->a=b
 |[],a,b,_=>rfl|s::l,a,b,h=>by
  simp only[pW]at h;split at h
  .rename_i q;exact Prod.ext (Sh.beq_eq q) (MA h)
  .cases h
end
def VF{τ τ':Sh}(h:τ.eqv τ'=true)(x:τ.T):τ'.T:=Sh.eg h▸x
mutual
def eX:AV->AV->Option Bool
 |.bool a,v=>match v with|.bool b=>some (decide (a=b))|_=>none
 |.int k a,v=>match v with|.int k' b=>(match jc k k' with|true=>some (decide (a=b))|false=>none)|_=>none
 |.str a,v=>match v with|.str b=>some (Ev.rz a b)|_=>none
 |.cK,v=>match v with|.cK=>some true|_=>none
 |.bu,v=>match v with|.bu=>some true|_=>none
 |.cR,v=>match v with|.cR=>some true|_=>none
 |.cQ,v=>match v with|.cQ=>some true|_=>none
 |.dy,v=>match v with|.dy=>some true|_=>none
 |.ij,_=>none|.ptr b o,v=>match v with|.ptr b' o'=>(match Nat.beq b b',Nat.beq o o' with|true,true=>some true|_,_=>none)|_=>none
 |.cY b i z o,v=>match v with|.cY b' i' z' o'=>(match Nat.beq b b',Nat.beq z z',Nat.beq o o' with|true,true,true=>some (decide (i=i'))|_,_,_=>none)|_=>none
 |.eC σ d o,v=>match v with|.eC σ' d' o'=>(match e:σ.eqv σ',Nat.beq o o' with|true,true=>some (σ'.beq (VF e d) d')|_,_=>none)|_=>none
 |.hd b τ,v=>match v with|.hd b' τ'=>(match Nat.beq b b',τ.eqv τ' with|true,true=>some true|_,_=>none)|_=>none
 |.vw b τ o n,v=>match v with|.vw b' τ' o' n'=>(match Nat.beq b b',τ.eqv τ' with|true,true=>some (both (decide (o=o')) (decide (n=n')))|_,_=>none)|_=>none
 |.fz τ L,v=>match v with|.fz τ' L'=>(match e:τ.eqv τ' with|true=>some (lO τ'.beq (ja e L) L')|false=>none)|_=>none
 |.func f x c,v=>match v with|.func f' x' c'=>(match Nat.beq f f',mZ x x',mZ c c' with|true,some p,some q=>some (both p q)|_,_,_=>none)|_=>none
 |.dt _ _ _,_=>none|.mp b,v=>match v with|.mp b'=>(match Nat.beq b b' with|true=>some true|false=>none)|_=>none
 |.dA b,v=>match v with|.dA b'=>(match Nat.beq b b' with|true=>some true|false=>none)|_=>none
 |.rp b i,v=>match v with|.rp b' i'=>(match Nat.beq b b' with|true=>some (decide (i=i'))|false=>none)|_=>none
 |.ra b i,v=>match v with|.ra b' i'=>(match Nat.beq b b' with|true=>some (decide (i=i'))|false=>none)|_=>none
 |.agg l,v=>match v with|.agg m=>mZ l m|_=>none
 |.bD l,v=>match v with|.bD m=>mZ l m|_=>none
termination_by structural x=>x
def mZ:List AV->List AV->Option Bool
 |[],m=>match m with|[]=>some true|_=>none
 |x::l,m=>match m with
  |y::m=>(match eX x y,mZ l m with|some p,some q=>some (both p q)|_,_=>none)
  |[]=>none
termination_by structural x=>x
end
mutual
theorem Ky:∀{a b:AV},eX a b=some true->a=b
 |.bool a,b,h=>by cases b<;>simp only[eX]at h<;>first|(cases h;done)|(simp only[bf,FS]at h;rw[h])
 |.int k a,b,h=>by
  cases b<;>simp only[eX]at h<;>first|(cases h;done)|skip
  split at h<;>try cases h
  rename_i hk;simp only[bf,FS]at h;rw[kf hk,h]
 |.str a,b,h=>by cases b<;>simp only[eX]at h<;>first|(cases h;done)|(simp only[bf]at h;rw[Ev.Hv h])
 |.cK,b,h=>by cases b<;>simp only[eX]at h<;>first|rfl|cases h
 |.bu,b,h=>by cases b<;>simp only[eX]at h<;>first|rfl|cases h
 |.cR,b,h=>by cases b<;>simp only[eX]at h<;>first|rfl|cases h
 |.cQ,b,h=>by cases b<;>simp only[eX]at h<;>first|rfl|cases h
 |.dy,b,h=>by cases b<;>simp only[eX]at h<;>first|rfl|cases h
 |.ij,b,h=>by simp only[eX]at h;cases h
 |.ptr x o,b,h=>by
  cases b<;>simp only[eX]at h<;>first|(cases h;done)|skip
  split at h<;>try cases h
  rename_i h1 h2;rw[aW h1,aW h2]
 |.cY x i z o,b,h=>by
  cases b<;>simp only[eX]at h<;>first|(cases h;done)|skip
  split at h<;>try cases h
  rename_i h1 h2 h3;simp only[bf,FS]at h;rw[aW h1,aW h2,aW h3,h]
 |.eC σ d o,b,h=>by
  cases b<;>simp only[eX]at h<;>first|(cases h;done)|skip
  split at h<;>try cases h
  rename_i σ' d' o' h1 h2;simp only[bf]at h;have h:=Sh.beq_eq h;rw[aW h2,<-h];have:=Sh.eg h1;subst this;rfl
 |.hd x τ,b,h=>by
  cases b<;>simp only[eX]at h<;>first|(cases h;done)|skip
  split at h<;>try cases h
  rename_i h1 h2;rw[aW h1,Sh.eg h2]
 |.vw x τ o n,b,h=>by
  cases b<;>simp only[eX]at h<;>first|(cases h;done)|skip
  split at h<;>try cases h
  rename_i h1 h2;simp only[bf]at h;obtain⟨h3,h4⟩:=kK h;simp only[FS]at h3 h4;rw[aW h1,Sh.eg h2,h3,h4]
 |.fz τ L,b,h=>by
  cases b<;>simp only[eX]at h<;>first|(cases h;done)|skip
  split at h<;>try cases h
  rename_i τ' L' h1;simp only[bf]at h;have h:=G6 (fun x y q=>Sh.beq_eq q) h;rw[<-h];have:=Sh.eg h1;subst this;rfl
 |.func f x c,b,h=>by
  cases b<;>simp only[eX]at h<;>first|(cases h;done)|skip
  split at h<;>try cases h
  rename_i p q h1 h2 h3;simp only[bf]at h;obtain⟨h4,h5⟩:=kK h;subst h4;subst h5;rw[aW h1,tC h2,tC h3]
 |.dt _ _ _,b,h=>by simp only[eX]at h;cases h
 |.mp x,b,h=>by
  cases b<;>simp only[eX]at h<;>first|(cases h;done)|skip
  split at h<;>try cases h
  rename_i h1;rw[aW h1]
 |.dA x,b,h=>by
  cases b<;>simp only[eX]at h<;>first|(cases h;done)|skip
  split at h<;>try cases h
  rename_i h1;rw[aW h1]
 |.rp x i,b,h=>by
  cases b<;>simp only[eX]at h<;>first|(cases h;done)|skip
  split at h<;>try cases h
  rename_i h1;simp only[bf,FS]at h;rw[aW h1,h]
 |.ra x i,b,h=>by
  cases b<;>simp only[eX]at h<;>first|(cases h;done)|skip
  split at h<;>try cases h
  rename_i h1;simp only[bf,FS]at h;rw[aW h1,h]
 |.agg l,b,h=>by cases b<;>simp only[eX]at h<;>first|(cases h;done)|(rw[tC h])
 |.bD l,b,h=>by cases b<;>simp only[eX]at h<;>first|(cases h;done)|(rw[tC h])
theorem tC:∀{a b:List AV},mZ a b=some true->a=b
 |[],b,h=>by cases b<;>simp only[mZ]at h<;>first|rfl|cases h
 |x::l,b,h=>by
  cases b<;>simp only[mZ]at h<;>first|(cases h;done)|skip
  split at h<;>try cases h
  rename_i p q h1 h2;simp only[bf]at h;obtain⟨h4,h5⟩:=kK h;subst h4;subst h5;rw[Ky h1,tC h2]
end
def vS(ts:jp):jp->Bool
 |[]=>true|x::l=>match gU x ts with|true=>false|false=>vS ts l
theorem QD{ts:jp}:∀{l:jp},vS ts l=true->∀x∈l,x∉ts
 |[],_,x,hx=>by cases hx
 |y::l,h,x,hx=>by
  simp only[vS]at h;split at h<;>try cases h
  rename_i q;rcases BY.1 hx with rfl|hx
  .intro r;rw[mH.2 r]at q;cases q
  .exact QD h x hx
def nU(q:Nat):List Oper->List PE->jp
 |o::l,pe::ps=>match pe with|.w _=>nU q l ps|.p lo _=>match Nat.beq lo q,o.dst with|true,some t=>t::nU q l ps|_,_=>nU q l ps
 |_,_=>[]
theorem QC{q:Nat}:∀{os:List Oper}{ps:List PE}{x:Nat}{o:Oper}{hi:Nat}{t:Tmp},os[x]?=some o->ps[x]?=some (.p q hi)->o.dst=some t->t∈nU q os ps
 |[],ps,x,o,hi,t,h,_,_=>by simp at h|o'::os,[],x,o,hi,t,_,h,_=>by simp at h|o'::os,pe::ps,x,o,hi,t,h1,h2,h3=>by
  simp only[nU];cases x with
  |zero=>
   simp at h1 h2
   simp_all
  |succ x=>
   have:=QC (q:=q) (x:=x) (by simpa using h1) (by simpa using h2) h3
   grind
def dl:Option Tmp->jp|some t=>[t]|none=>[]
def qZ(n:Nat):List Oper->Bool
 |[]=>true|o::l=>match o.dst with
  |some t=>match Nat.blt t n with|true=>qZ n l|false=>false
  |none=>qZ n l
theorem Hc{n:Nat}:∀{os:List Oper},qZ n os=true->∀(x:Nat) (o:Oper) (t:Tmp),os[x]?=some o->o.dst=some t->t<n
 |[],_,x,o,t,h,_=>by simp at h|o'::os,h,x,o,t,h1,h2=>by
  simp only[qZ]at h;cases x with
  |zero=>
   simp at h1;subst h1;simp only[h2]at h;split at h<;>try cases h
   simp_all
  |succ x=>
   have h1:os[x]?=some o:=by grind
   split at h
   .split at h<;>try cases h
    exact Hc h x o t h1 h2
   .exact Hc h x o t h1 h2
def mb:List Oper->List PE->jp->Bool
 |o::l,pe::ps,seen=>match o.dst with
  |some t=>match gU t seen with|true=>false|false=>mb l ps (t::seen)
  |none=>match pe with|.w _=>mb l ps seen|.p _ _=>match ef o.op with|true=>false|false=>mb l ps seen
 |_,_,_=>true
theorem y9:∀{os:List Oper}{ps:List PE}{seen:jp},mb os ps seen=true->os.length=ps.length->∀(x:Nat) (o:Oper) (t:Tmp),os[x]?=some o->o.dst=some t->t∉seen
 |[],ps,seen,_,_,x,o,t,h,_=>by simp at h|o'::os,[],seen,_,h,x,o,t,_,_=>by simp at h|o'::os,pe::ps,seen,h,hl,x,o,t,h1,h2=>by
  simp only[mb]at h;simp only[cq,Nat.add_right_cancel_iff]at hl;cases x with
  |zero=>
   simp at h1;subst h1;simp only[h2]at h;split at h<;>try cases h
   rename_i q;intro r;rw[mH.2 r]at q;cases q
  |succ x=>
   have h1:os[x]?=some o:=by grind
   split at h
   .split at h<;>try cases h
    exact fun r=>y9 h hl x o t h1 h2 (abl _ r)
   .split at h
    .exact y9 h hl x o t h1 h2
    .split at h<;>try cases h
     exact y9 h hl x o t h1 h2
theorem QS:∀{os:List Oper}{ps:List PE}{seen:jp},mb os ps seen=true->os.length=ps.length->(∀(x y:Nat) (o o':Oper) (t:Tmp),os[x]?=some o->os[y]?=some o'->o.dst=some t->o'.dst=some t->x=y) /\
  ∀(x:Nat) (o:Oper) (lo hi:Nat),os[x]?=some o->ps[x]?=some (.p lo hi)->ef o.op=true->∃t,o.dst=some t
 |[],ps,seen,_,_=>⟨fun x y o o' t h=>by simp at h,fun x o lo hi h=>by simp at h⟩|aex::os,[],seen,_,h=>by simp at h|aex::os,pe::ps,seen,h,hl=>by
  simp only[mb]at h;simp only[cq,Nat.add_right_cancel_iff]at hl;have main:∀seen',mb os ps seen'=true->(∀t,aex.dst=some t->t∈seen')->(aex.dst=none->∀lo hi,pe=.p lo hi->ef aex.op=false) ->
    (∀(x y:Nat) (o o':Oper) (t:Tmp),(aex::os)[x]?=some o->(aex::os)[y]?=some o'->o.dst=some t->o'.dst=some t->x=y) /\
    ∀(x:Nat) (o:Oper) (lo hi:Nat),(aex::os)[x]?=some o->(pe::ps)[x]?=some (.p lo hi)->ef o.op=true->∃t,o.dst=some t:=by
   intro seen' hk aR hmk;obtain⟨r1,r2⟩:=QS hk hl;have sn:=y9 hk hl
   grind
  grind
section
variable{R:Type}(P:Program)(sh:TypeId->Option Sh)(call:gk R)
def Co(n:Nat)(ops:Array Oper)(o:Oper)(st:St)(k:St->Option R):Option R:=qy ops st.T o fun b T=>match b with
 |false=>match cW n T o.dst (.bD [])with|some T=>k ⟨T,st.h⟩|none=>none
 |true=>match gX P sh T st.h st.h.next o.op with
  |some (g,ob,v)=>match Tr.set FT st.h.tr st.h.next (some ob),cW n T o.dst v with|some tr,some T=>ak g (k ⟨T,⟨tr,st.h.next+1⟩⟩)|_,_=>none
  |none=>match iD P T st.h o with
   |some (g,v)=>match cW n T o.dst v with|some T=>ak g (k ⟨T,st.h⟩)|none=>none
   |none=>none
def lP(n:Nat)(ops:Array Oper)(q:Nat):List Oper->List PE->St->(St->Option R)->Option R
 |o::l,pe::ps,st,k=>match pe with|.w _=>lP n ops q l ps st k|.p lo _=>match Nat.beq lo q with|false=>lP n ops q l ps st k|true=>Co P sh n ops o st fun st=>lP n ops q l ps st k
 |_,_,st,k=>k st
def kg(ops:Array Oper)(q:Nat)(ch:Bool)(ts:jp)(st:St):List Oper->List PE->Option R->Option R
 |o::l,pe::ps,k=>match pe with
  |.w _=>kg ops q ch ts st l ps k|.p lo hi=>match Nat.blt lo q,Nat.ble q hi with
   |true,true=>match vS ts (looks ops.toList o)with
    |false=>none|true=>match ch,ef o.op with
     |true,false=>match jm ops st.T o with
      |some true=>match iD P st.T st.h o,o.dst with
       |some (g,v),some t=>match st.T.get t with
        |some u=>match eX u v with|some s=>ak g (ak s (kg ops q ch ts st l ps k))|none=>none
        |none=>none
       |some (g,v),none=>ak g (kg ops q ch ts st l ps k)|_,_=>none
      |some false=>kg ops q ch ts st l ps k|none=>none
     |_,_=>kg ops q ch ts st l ps k
   |_,_=>kg ops q ch ts st l ps k
 |_,_,k=>k
def vF(n:Nat)(ops:Array Oper)(pl:List PE):Nat->Nat->St->(St->Option R)->Option R
 |0,_,st,k=>k st|r+1,q,st,k=>match ku (q+1) ops.toList pl with|some o=>vM P sh call n ops o st fun ch aeF=>lP P sh n ops (q+1) ops.toList pl aeF fun aeG=>kg P ops (q+1) ch (dl o.dst++nU (q+1) ops.toList pl) aeG ops.toList pl (vF n ops pl r (q+1) aeG k)|none=>none
def A9(n:Nat)(ops:Array Oper)(st:St)(k:St->Option R):Option R:=match pg ops.toList (jv ops.toList)with
 |some m=>match mb ops.toList (jv ops.toList) [],qZ n ops.toList with|true,true=>lP P sh n ops 0 ops.toList (jv ops.toList) st fun st=>vF P sh call n ops (jv ops.toList) m 0 st k|_,_=>none
 |none=>none
end
def PN(P:Program)(sh:TypeId->Option Sh)(ops:Array Oper)(b:Nat)(T:Tr AV)(h:Hp)(o:Oper)(v:AV):Prop:=
 (jm ops T o=some false/\v=.bD [])\/(jm ops T o=some true/\ef o.op=false/\iD P T h o=some (true,v)) \/
 (jm ops T o=some true/\ef o.op=true/\∃id ob,gX P sh T h id o.op=some (true,ob,v)/\h.tr.get id=some ob/\id<h.next/\b<=id)
theorem PN.congr{P:Program}{sh:TypeId->Option Sh}{ops:Array Oper}{b b':Nat}{T T':Tr AV}{h h':Hp}{o:Oper}{v:AV}(p:PN P sh ops b T h o v)(hT:∀t∈looks ops.toList o,T'.get t=T.get t)(hh:dF h h')(hn:h.next<=h'.next)(hb:b'<=b):PN P sh ops b' T' h' o v:=by
 have hw:=tj (ops:=ops) (T:=T) (T':=T') hT;have hO:∀t,.tmp t∈o.op.operands->T'.get t=T.get t:=fun t q=>hT t (ke q);rcases p with⟨h1,h2⟩|⟨h1,h2,h3⟩|⟨h1,h2,id,ob,h3,h4,h5,h6⟩
 .exact .inl ⟨hw.trans h1,h2⟩
 .exact .inr (.inl ⟨hw.trans h1,h2,Ho hh h3 hO⟩)
 .exact .inr (.inr ⟨hw.trans h1,h2,id,ob,Hs h3 hO,hh _ _ h4,rg h5 hn,pp hb h6⟩)
