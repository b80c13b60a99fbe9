import Derived.Test.YtkcpdpplobhpaaaGreatWMc
set_option linter.unusedVariables false
set_option linter.unusedSimpArgs false
set_option linter.unnecessarySimpa false
section
namespace Go.Proofs.YtkcpdpplobhpaaaGreat.V
open Go Go.RowKit
open Go.Proofs.YtkcpdpplobhpaaaGreat.Ev (Tr Tr.cI nth dI)
structure St where
 T:Tr AV
 h:Hp
structure kI(X:Cx)(n:Nat)(T:Tr AV)(a:Act):Prop where
 size:a.tmps.size=n
 defers:a.defers=[]
 get:∀t v,T.get t=some v->∃V,a.tmps[t]?=some V/\Rel X v V
structure RF(X:Cx)(n:Nat)(st:St)(a:Act):Prop where
 h:X.h=st.h
 T:kI X n st.T a
 H:aF X
def gm(n:Nat)(T:Tr AV)(d:Option Tmp)(v:AV):Option (Tr AV):=match d with|none=>some T|some t=>match Nat.blt t n with|true=>Tr.set FT T t (some v)|false=>none
theorem kI.ext{X X':Cx}{n:Nat}{T:Tr AV}{a:Act}(R:kI X n T a)(E:gl X X'):kI X' n T a:=⟨R.size,R.defers,fun t v h=>let⟨V,h1,h2⟩:=R.get t v h;⟨V,h1,h2.ext E⟩⟩
theorem oY{n:Nat}{T T':Tr AV}{d:Option Tmp}{v:AV}(h:gm n T d v=some T'):∀t,T'.get t=if d=some t then some v else T.get t:=by
 intro t;unfold gm at h;split at h
 .simp at h;subst h;simp
 .rename_i x;split at h<;>try cases h
  rw[Tr.cI _ _ _ _ _ h t];by_cases q:t=x
  .subst q;simp
  .rw[if_neg q,if_neg (fun r=>q (by simpa using r.symm))]
theorem JZ{n:Nat}{T T':Tr AV}{t:Tmp}{v:AV}(h:gm n T (some t) v=some T'):t<n:=by
 simp only[gm]at h;split at h<;>try cases h
 rename_i q
 rwa [Nat.blt_eq]at q
theorem kI.put{X:Cx}{n:Nat}{T T':Tr AV}{a:Act}{d:Option Tmp}{v:AV}{V:Value}(R:kI X n T a)(hv:Rel X v V)(h:gm n T d v=some T'):kI X n T' (a.put d V):=by
 have hg:=oY h;cases d with
 |none=>refine⟨R.size,R.defers,?_⟩;intro t u hu;rw[hg t]at hu;simp at hu;exact R.get t u hu|some t=>
  have hlt:=JZ h;refine⟨by simp[Act.put,R.size],by simp[Act.put,R.defers],?_⟩;intro u x hu;rw[hg u]at hu;simp only[Act.put,Array.getElem?_setIfInBounds];by_cases q:t=u
  .subst q;simp at hu;subst hu;exact⟨V,by simp[R.size,hlt],hv⟩
  .rw[if_neg (by simpa using q)]at hu;rw[if_neg q];exact R.get u x hu
def fl(h h':Hp):Prop:=∀b o,h.tr.get b=some o->h'.tr.get b=some o
theorem fl.refl(h:Hp):fl h h:=fun _ _ q=>q
theorem fl.trans{a b c:Hp}(x:fl a b)(y:fl b c):fl a c:=fun i o q=>y i o (x i o q)
abbrev iM(R:Type):=FuncId->List AV->Hp->(Bool->AV->Hp->Option R)->Option R
def AK(P:Program)(f:FuncId)(vs:List AV)(h:Hp)(v:AV)(h':Hp):Prop:=
 (∃fn c,P.funcs[f]?=some fn/\(fn.name == "runtime.NumGoroutine")=false/\fn.body=some c) /\
 ∀X args,X.h=h->aF X->bB X vs args->Calls P f (List.toArray args) X.w fun e w'=>∃X' V,e=.returned V/\X'.w=w'/\X'.h=h'/\aF X'/\aO X X'/\Rel X' v V
def kf(P:Program){R:Type}(call:iM R):Prop:=∀f vs h k r,call f vs h k=some r->∃ch v h',k ch v h'=some r/\(ch=false->fl h h')/\AK P f vs h v h'
def ai{R:Type}(g:Bool)(r:Option R):Option R:=match g with|true=>r|false=>none
def br{R:Type}(b:Bool)(x y:Option R):Option R:=match b with|true=>x|false=>y
theorem nB{R:Type}{g:Bool}{x:Option R}{r:R}(h:ai g x=some r):g=true/\x=some r:=by
 cases g
 .cases h
 .exact⟨rfl,h⟩
theorem Jp{R:Type}{b:Bool}{x y:Option R}{r:R}(h:br b x y=some r):(b=true/\x=some r)\/(b=false/\y=some r):=by
 cases b
 .exact .inr ⟨rfl,h⟩
 .exact .inl ⟨rfl,h⟩
def agz:Op->Bool|.buildSlice _ _ _=>true|_=>false
def post(sh:TypeId->Option Sh)(n:Nat)(o:Oper)(st:St):Option St:=match agz o.op with
 |false=>some st|true=>match sh 1000000000 with
  |none=>some st|some _=>match o.dst with
   |none=>some st|some t=>match st.T.get t with
    |some (.hd b τ)=>match qZ true st.h (.sl τ) (.hd b τ)with
     |some (d,h')=>match gm n st.T (some t) (.fz τ d)with|some T=>some ⟨T,h'⟩|none=>none
     |none=>none
    |_=>some st
theorem abv{sh:TypeId->Option Sh}{n:Nat}{o:Oper}{st st':St}(h:post sh n o st=some st'){X:Cx}{a:Act}(R:RF X n st a):∃X',X'.w=X.w/\RF X' n st' a/\aO X X':=by
 have triv:∀{s:St},some s=some st'->s=st->∃X',X'.w=X.w/\RF X' n st' a/\aO X X':=by intro s e q;cases e;subst q;exact⟨X,rfl,R,aO.refl X⟩
 unfold post at h;split at h
 .exact triv h rfl
 split at h
 .exact triv h rfl
 split at h
 .exact triv h rfl
 rename_i t hdt;split at h
 .rename_i b τ hg;split at h<;>try cases h
  rename_i d h' hf;split at h<;>cases h;rename_i T hT;obtain⟨V,hV,RV⟩:=R.T.get t _ hg;rw[<-R.h]at hf;obtain⟨Fz,hd⟩:=Ke R.H hf RV;refine⟨⟨X.s,h',X.w,X.A⟩,rfl,⟨rfl,?_,Fz.H⟩,Fz.E⟩;have R':=R.T.ext (Fz.E.eS R.H);refine⟨R'.size,R'.defers,?_⟩;intro u x hu;rw[oY hT u]at hu;by_cases q:t=u
  .subst q;rw[if_pos rfl]at hu;cases hu;exact⟨V,hV,FM (σ:=.sl τ) hd⟩
  .rw[if_neg (by simpa using q)]at hu;exact R'.get u x hu
 .exact triv h rfl
section
variable{R:Type}(P:Program)(sh:TypeId->Option Sh)(call:iM R)
def XK(o:Oper):Bool:=match o.op with|.assign _=>true|_=>false
def Kx(T:Tr AV)(h:Hp)(o:Oper)(k:Bool->AV->Hp->Option R):Option R:=match Qv T o with
 |some (f,vs)=>call f vs h k|none=>match DA P sh T h o with
  |some (g,v,h')=>ai g (k (!XK o) v h')|none=>match og P sh T h h.next o.op with
   |some (g,ob,v)=>match Tr.set FT h.tr h.next (some ob)with|some tr=>ai g (k true v ⟨tr,h.next+1⟩)|none=>none
   |none=>match mF P T h o with|some (g,v)=>ai g (k false v h)|none=>none
def ug(ops:Array Oper)(T:Tr AV)(o:Oper)(k:Bool->Tr AV->Option R):Option R:=match o.guard with
 |none=>k true T|some (j,want)=>match nth ops.toList j with
  |some oj=>match oj.dst with
   |some t=>match T.get t with
    |some v=>match v with
     |.bool b=>br b (match Tr.set FT T t (some (.bool true))with|some T=>k want T|none=>none) (match Tr.set FT T t (some (.bool false))with|some T=>k (!want) T|none=>none)
     |.cM []=>k false T|_=>none
    |none=>none
   |none=>none
  |none=>none
def Bf(n:Nat)(ops:Array Oper)(o:Oper)(st:St)(k:Bool->St->Option R):Option R:=ug ops st.T o fun b T=>match b with
 |true=>Kx P sh call T st.h o fun ch v h'=>match gm n T o.dst v with|some T=>k ch ⟨T,h'⟩|none=>none
 |false=>match gm n T o.dst (.cM [])with|some T=>k false ⟨T,st.h⟩|none=>none
def J7(n:Nat)(ops:Array Oper)(o:Oper)(st:St)(k:St->Option R):Option R:=Bf P sh call n ops o st fun _ st=>match post sh n o st with|some st=>k st|none=>none
def sI(n:Nat)(ops:Array Oper):List Oper->St->(St->Option R)->Option R
 |[],st,k=>k st|o::l,st,k=>J7 P sh call n ops o st fun st=>sI n ops l st k
end
def AJ(P:Program)(T:Tr AV)(h:Hp)(o:Oper)(v:AV)(h':Hp):Prop:=∀X a,X.h=h->aF X->oJ X T a o.op->∀(K:Act->World->Prop) (Q:Exit->Act->World->Prop),
 (∀X' V,aO X X'->aF X'->X'.h=h'->Rel X' v V->K (a.put o.dst V) X'.w)->o.wp P a X.w K Q
theorem akc{R:Type}{P:Program}{sh:TypeId->Option Sh}{call:iM R}(hc:kf P call){T:Tr AV}{h:Hp}{o:Oper}{k:Bool->AV->Hp->Option R}{r:R}(e:Kx P sh call T h o k=some r) :
  ∃ch v h',k ch v h'=some r/\(ch=false->fl h h')/\AJ P T h o v h':=by
 unfold Kx at e;split at e
 .rename_i f vs hw;obtain⟨ch,v,h',hk,hch,⟨fn,c,hf,hn,hb⟩,hcall⟩:=hc f vs h k r e;refine⟨ch,v,h',hk,hch,?_⟩;intro X a hX H hO K Q hK;obtain⟨Vs,hrun,hR⟩:=Zs1 hw hO hf hn hb X.w;unfold Oper.wp;rw[hrun,Oper.upon_enter];refine(hcall X Vs hX H hR).mono ?_;rintro e' w' ⟨X',V,rfl,rfl,h1,h2,h3,h4⟩;exact hK X' V h3 h2 h1 h4
 .split at e
  .rename_i g v h' hr;obtain⟨hg,hk⟩:=nB e;refine⟨_,v,h',hk,?_,?_⟩
   .intro hs;unfold XK at hs;split at hs
    .rename_i x ho;unfold DA at hr;rw[ho]at hr;simp only[]at hr;split at hr<;>cases hr;exact fl.refl h
    .cases hs
   intro X a hX H hO K Q hK;subst hX;obtain⟨X',n,V,hrun,hgv,h1,h2,h3,h4⟩:=Zvo H hr hg hO;unfold Oper.wp;rw[hrun];rcases hgv with rfl|⟨rfl,rfl⟩
   .exact hK X' V h3 h2 h1 h4
   .exact hK X' undef h3 h2 h1 h4
  .split at e
   .rename_i g ob v ha;split at e<;>try cases e
    rename_i tr ht;obtain⟨hg,hk⟩:=nB e;refine⟨_,v,_,hk,(fun q=>by cases q),?_⟩;intro X a hX H hO K Q hK;subst hX;obtain⟨c,ob',V,hrun,hm⟩:=Zx7 H ha hg hO;have E:=Xw (c:=c) (ob:=ob') H ht;have hg:=Tr.cI FT X.h.tr X.h.next _ tr ht;have M:Made X ⟨bZ X.s X.h.next (.at X.w.heap.size c),⟨tr,X.h.next+1⟩,{ X.w with heap:=X.w.heap.push ob' },X.A⟩ X.h.next c ob ob':=⟨E.eS H,rfl,fG _ _ _,by show tr.get _=_;rw[hg,if_pos rfl]⟩;obtain⟨q1,q2⟩:=hm _ M;unfold Oper.wp;rw[hrun];exact hK _ V E (H.new ht q1) rfl q2
   .split at e<;>try cases e
    rename_i g v hr;obtain⟨hg,hk⟩:=nB e;refine⟨_,v,h,hk,(fun _=>fl.refl h),?_⟩;intro X a hX H hO K Q hK;subst hX;obtain⟨V,hrun,hR⟩:=Zlk H hr hg hO;unfold Oper.wp;rw[hrun];exact hK X V (aO.refl X) H rfl hR
structure Bn(ops:Array Oper)(T:Tr AV)(o:Oper)(b:Bool)(T':Tr AV):Prop where
 bj:∀X n a,kI X n T a->kI X n T' a
 is:∀(X:Cx) (a:Act),(∀j w oj t v,o.guard=some (j,w)->ops[j]?=some oj->oj.dst=some t->T.get t=some v->∃V,a.tmps[t]?=some V/\Rel X v V)->Region.wanted o (yielded ops a.tmps)=b
 get:∀t v,T'.get t=some v->T.get t=some v
 get':∀t v,T.get t=some v->T'.get t=some v
theorem ajr{R:Type}{ops:Array Oper}{T:Tr AV}{o:Oper}{k:Bool->Tr AV->Option R}{r:R}(e:ug ops T o k=some r):∃b T',k b T'=some r/\Bn ops T o b T':=by
 unfold ug at e;split at e
 .rename_i hg;exact⟨true,T,e,fun _ _ _ h=>h,fun X a _=>by unfold Region.wanted;rw[hg],fun _ _ h=>h,fun _ _ h=>h⟩
 .rename_i j want hg;split at e<;>try cases e
  rename_i oj hj;split at e<;>try cases e
  rename_i t ht;split at e<;>try cases e
  rename_i v hv;have hj':ops[j]?=some oj:=by rw[dI]at hj;simpa using hj
  have same:∀{b:Bool}{T':Tr AV},v=.bool b->Tr.set FT T t (some (.bool b))=some T'->∀u,T'.get u=T.get u:=by
   intro b T' hb hs u;rw[Tr.cI _ _ _ _ _ hs u];by_cases q:u=t
   .subst q;rw[if_pos rfl,hv,hb]
   .rw[if_neg q]
  split at e
  .rename_i b;rcases Jp e with⟨rfl,e2⟩|⟨rfl,e2⟩
   .clear e;have e:=e2;split at e<;>try cases e
    rename_i T' hset;have hs:=same (b:=true) rfl hset;refine⟨want,T',e,fun X n a R=>⟨R.size,R.defers,fun u x hu=>R.get u x (by rw[<-hs u];exact hu)⟩,?_,fun u x hu=>by rw[<-hs u];exact hu,fun u x hu=>by rw[hs u];exact hu⟩;intro X a R;obtain⟨V,h1,h2⟩:=R j want oj t _ hg hj' ht hv;rw[show V=_ from h2]at h1;unfold Region.wanted;rw[hg];cases want<;>simp[yielded,hj',ht,h1]
   .clear e;have e:=e2;split at e<;>try cases e
    rename_i T' hset;have hs:=same (b:=false) rfl hset;refine⟨!want,T',e,fun X n a R=>⟨R.size,R.defers,fun u x hu=>R.get u x (by rw[<-hs u];exact hu)⟩,?_,fun u x hu=>by rw[<-hs u];exact hu,fun u x hu=>by rw[hs u];exact hu⟩;intro X a R;obtain⟨V,h1,h2⟩:=R j want oj t _ hg hj' ht hv;rw[show V=_ from h2]at h1;unfold Region.wanted;rw[hg];cases want<;>simp[yielded,hj',ht,h1]
  .refine⟨false,T,e,fun _ _ _ h=>h,?_,fun _ _ h=>h,fun _ _ h=>h⟩;intro X a R;obtain⟨V,h1,cs,rfl,h2⟩:=R j want oj t _ hg hj' ht hv;unfold Region.wanted;rw[hg];simp[yielded,hj',ht,h1]
  .cases e
def ahn(P:Program)(n:Nat)(ops:Array Oper)(i:Nat)(st st':St):Prop:=∀X a,RF X n st a->∀(K:Act->World->Prop) (Q:Exit->Act->World->Prop),
 (∀X' a',RF X' n st' a'->aO X X'->K a' X'.w)->wpOp P ops Q i K a X.w
theorem Zyu{R:Type}{P:Program}{sh:TypeId->Option Sh}{call:iM R}(hc:kf P call){n:Nat}{ops:Array Oper}{o:Oper}{st:St}{k:Bool->St->Option R}{r:R}
  (e:Bf P sh call n ops o st k=some r):∃ch st' b T v,k ch st'=some r/\(ch=false->fl st.h st'.h)/\Bn ops st.T o b T/\gm n T o.dst v=some st'.T /\
   ((b=true/\AJ P T st.h o v st'.h)\/(b=false/\v=.cM []/\st'.h=st.h)):=by
 unfold Bf at e;obtain⟨b,T,e,W⟩:=ajr e;cases b with
 |true=>
  simp only[]at e;obtain⟨ch,v,h',e,hch,A⟩:=akc hc e;split at e<;>try cases e
  rename_i T' hT;exact⟨ch,⟨T',h'⟩,true,T,v,e,hch,W,hT,.inl ⟨rfl,A⟩⟩
 |false=>
  simp only[]at e;split at e<;>try cases e
  rename_i T' hT;exact⟨false,⟨T',st.h⟩,false,T,.cM [],e,fun _=>fl.refl _,W,hT,.inr ⟨rfl,rfl,rfl⟩⟩
theorem Xk{R:Type}{P:Program}{sh:TypeId->Option Sh}{call:iM R}(hc:kf P call){n:Nat}{ops:Array Oper}{o:Oper}{i:Nat}{st:St}{k:St->Option R}{r:R}
  (e:J7 P sh call n ops o st k=some r) (hi:ops[i]?=some o):∃st',k st'=some r/\ahn P n ops i st st':=by
 unfold J7 at e;obtain⟨ch,st',b,T,v,e,_,W,hT,A⟩:=Zyu hc e;split at e<;>try cases e
 rename_i st₂ hp;refine⟨st₂,e,?_⟩;intro X a RR K Q hK;have R':=W.bj X n a RR.T;unfold wpOp;rw[hi];simp only[];rw[W.is X a (fun j w oj t v _ _ _ hv=>RR.T.get t v hv)];rcases A with⟨rfl,A⟩|⟨rfl,rfl,hh⟩
 .simp only[if_true];left;refine A X a RR.h RR.H (Qp fun t _ u hu=>R'.get t u hu) K Q ?_;intro X' V E H' hh hv;obtain⟨X'',hw,R'',E''⟩:=abv hp (X:=X') ⟨hh,(R'.ext (E.eS RR.H)).put hv hT,H'⟩;rw[<-hw];exact hK X'' _ R'' (E.trans E'')
 .simp only[Bool.false_eq_true,if_false];obtain⟨X'',hw,R'',E''⟩:=abv hp (X:=X) ⟨by rw[hh];exact RR.h,R'.put (v:=.cM []) (V:=undef) ⟨[],rfl,rfl⟩ hT,RR.H⟩;rw[<-hw];exact hK X'' _ R'' E''
theorem Wu{R:Type}{P:Program}{sh:TypeId->Option Sh}{call:iM R}(hc:kf P call){n:Nat}{ops:Array Oper}:∀(l:List Oper) (j:Nat) (st:St) (k:St->Option R) (r:R),sI P sh call n ops l st k=some r ->
  (∀i,l[i]?=ops[j+i]?)->∃st',k st'=some r/\∀X a,RF X n st a->∀Q:Exit->Act->World->Prop,(∀X' a',RF X' n st' a'->aO X X'->Q .normal a' X'.w)->wpOps P ops Q (List.range' j l.length) a X.w
 |[],j,st,k,r,e,_=>⟨st,e,fun X a RR Q hQ=>hQ X a RR (aO.refl X)⟩|o::l,j,st,k,r,e,hl=>by simp only[sI]at e;obtain⟨st₁,e,S⟩:=Xk hc e (i:=j) (by have:=hl 0;simpa using this.symm);obtain⟨st',hk,rest⟩:=Wu hc l (j+1) st₁ k r e (by intro i;have:=hl (i+1);simp only[List.getElem?_cons_succ]at this;rw[this];congr 1;omega);refine⟨st',hk,?_⟩;intro X a RR Q hQ;rw[cp,List.range'_succ,wpOps_cons];refine S X a RR _ _ ?_;intro X' a' R' E';exact rest X' a' R' Q (fun X'' a'' R'' E''=>hQ X'' a'' R'' (E'.trans E''))
end Go.Proofs.YtkcpdpplobhpaaaGreat.V
end
section
namespace Go.Proofs.YtkcpdpplobhpaaaGreat.Ev
open Go Go.RowKit
structure St where
 T:Tr AV
 h:Hp
abbrev DY:=Sg->Prop
inductive Ex where
 |normal
 |exit (id:Nat)
 |ret
def Ex.to:Ex->Exit
 |.normal=>.normal|.exit id=>.exit id|.ret=>.ret
abbrev Env:=Tr Func
inductive PE where
 |w (j:Nat)
 |p (lo hi:Nat)
def PE.num:PE->Nat
 |.w j=>j|.p lo _=>lo
def PE.top:PE->Nat
 |.w j=>j-1|.p _ hi=>hi
def isW(o:Oper):Bool:=match o.op with
 |.assign _|.store _ _ _|.mapUpdate _ _ _ _|.insert _ _ _ _=>true|.call c=>match c.callee with|.builtin .len|.builtin .max|.builtin .min=>false|_=>true
 |_=>false
def tw:List Edge->List Nat
 |[]=>[]|e::l=>match Region.binds .any e with|true=>e.on::tw l|false=>tw l
def fC(o:Oper):List Nat:=tw o.after.toList
theorem FP:∀{l:List Edge}{x:Nat},x∈tw l↔∃e∈l,Region.binds .any e=true/\e.on=x
 |[],x=>by simp[tw]|e::l,x=>by
  simp only[tw];cases h:Region.binds .any e
  .simp only[];rw[FP];constructor
   .rintro⟨e',he',q⟩;exact⟨e',by simp[he'],q⟩
   .rintro⟨e',he',hb,q⟩;rcases List.mem_cons.1 he' with rfl|he'
    .rw[h]at hb;cases hb
    .exact⟨e',he',hb,q⟩
  .simp only[List.mem_cons];rw[FP];constructor
   .rintro(rfl|⟨e',he',q⟩)
    .exact⟨e,by simp,h,rfl⟩
    .exact⟨e',.inr he',q⟩
   .rintro⟨e',he',hb,q⟩;rcases he' with rfl|he'
    .exact .inl q.symm
    .exact .inr ⟨e',he',hb,q⟩
def Kj(nums:List Nat):List Nat->Nat->Nat
 |[],m=>m|e::l,m=>match nth nums e with
  |some x=>Kj nums l (match Nat.ble m x with|true=>x|false=>m)
  |none=>Kj nums l m
def pK:List Oper->Nat->List Nat->List (Bool×Nat)->List (Bool×Nat)
 |[],_,_,acc=>acc|o::l,c,nums,acc=>match isW o with|true=>pK l (c+1) (nums++[c+1]) ((true,c+1)::acc)|false=>let m:=Kj nums (fC o) 0;pK l c (nums++[m]) ((false,m)::acc)
def jr:Nat->List Nat->Bool
 |_,[]=>false|x,y::l=>match Nat.beq x y with|true=>true|false=>jr x l
theorem oZ:∀{x:Nat}{l:List Nat},jr x l=true↔x∈l
 |x,[]=>by simp[jr]|x,y::l=>by
  simp only[jr];cases h:Nat.beq x y
  .have:=Nat.ne_of_beq_eq_false h;simp[this,oZ]
  .have:=bD h;simp[this]
def JK(i:Nat):List (List Nat×PE)->Nat->Nat
 |[],m=>m|(es,pe)::l,m=>match jr i es with
  |true=>JK i l (match Nat.ble m pe.top with|true=>m|false=>pe.top)
  |false=>JK i l m
def VD(k:Nat):List (Oper×Bool×Nat)->Nat->List (List Nat×PE)->List (List Nat×PE)
 |[],_,acc=>acc|(o,b,x)::l,i,acc=>let es:=fC o;VD k l (i-1) ((es,match b with|true=>PE.w x|false=>PE.p x (JK i acc k))::acc)
def Kz:List Oper->Nat
 |[]=>0|o::l=>match isW o with|true=>Kz l+1|false=>Kz l
def pY(ops:List Oper):List PE:=(VD (Kz ops) (ops.reverse.zip (pK ops 0 [] [])) (ops.length-1) []).map (·.2)
def oM(pl:List PE)(p:PE->Bool):List Nat->Bool
 |[]=>false|e::l=>match nth pl e with
  |some pe=>match p pe with|true=>true|false=>oM pl p l
  |none=>oM pl p l
theorem FL{pl:List PE}{p:PE->Bool}:∀{l:List Nat},oM pl p l=true->∃e pe,e∈l/\pl[e]?=some pe/\p pe=true
 |[],h=>by simp[oM]at h|e::l,h=>by
  simp only[oM]at h;split at h
  .rename_i pe he;rw[dI]at he;split at h
   .rename_i q;exact⟨e,pe,by simp,he,q⟩
   .obtain⟨e',pe',h1,h2⟩:=FL h;exact⟨e',pe',by simp[h1],h2⟩
  .obtain⟨e',pe',h1,h2⟩:=FL h;exact⟨e',pe',by simp[h1],h2⟩
def yj(i:Nat):List Nat->Bool
 |[]=>true|e::l=>match Nat.blt e i with|true=>yj i l|false=>false
def rh(i hi:Nat):List Oper->List PE->Bool
 |o::l,pe::ps=>match jr i (fC o),(match pe with|.w j=>Nat.ble j (hi+1)|.p _ h=>Nat.ble h hi)with|true,true=>true|_,_=>rh i hi l ps
 |_,_=>false
def tmpsOf:List Operand->List Nat
 |[]=>[]|x::l=>match x with|.tmp t=>t::tmpsOf l|_=>tmpsOf l
def looks(ops:List Oper)(o:Oper):List Nat:=match o.guard with
 |none=>tmpsOf o.op.operands.toList|some (j,_)=>match nth ops j with
  |some oj=>match oj.dst with|some t=>t::tmpsOf o.op.operands.toList|none=>tmpsOf o.op.operands.toList
  |none=>tmpsOf o.op.operands.toList
def o6(ls es:List Nat):List Oper->List PE->Nat->Bool
 |y::l,pe::ps,i=>match pe with|.w _=>o6 ls es l ps (i+1)|.p _ _=>match y.dst with|none=>o6 ls es l ps (i+1)|some t=>match jr t ls with|false=>o6 ls es l ps (i+1)|true=>match jr i es with|true=>o6 ls es l ps (i+1)|false=>false
 |_,_,_=>true
def AW(ops:List Oper)(pl:List PE)(k i:Nat)(o:Oper)(pe:PE):Bool:=
 match yj i (fC o),o6 (looks ops o) (fC o) ops pl 0 with
 |true,true=>match pe with
  |.p lo hi=>match(match lo with|0=>true|lo+1=>oM pl (fun x=>Nat.ble (lo+1) x.num) (fC o))with
   |true=>match Nat.ble k hi with|true=>true|false=>rh i hi ops pl
   |false=>false
  |.w j=>match Nat.ble 1 j,Nat.ble j k,(match j with|0=>false|1=>true|j+2=>oM pl (fun x=>Nat.ble (j+1) x.num) (fC o))with|true,true,true=>true|_,_,_=>false
 |_,_=>false
def lD(ops:List Oper)(pl:List PE)(k:Nat):List Oper->List PE->Nat->Bool
 |[],[],_=>true|o::l,pe::ps,i=>match AW ops pl k i o pe with|true=>lD ops pl k l ps (i+1)|false=>false
 |_,_,_=>false
def yp:List PE->Nat->Option Nat
 |[],c=>some c|pe::l,c=>match pe with|.p _ _=>yp l c|.w j=>match Nat.beq j (c+1)with|true=>yp l (c+1)|false=>none
def ue(ops:List Oper)(pl:List PE):Option Nat:=match yp pl 0 with
 |some k=>match lD ops pl k ops pl 0 with|true=>some k|false=>none
 |none=>none
abbrev VW:=List (Nat×Nat×bu)
def nG(j:Nat):List Oper->List PE->Option Oper
 |o::l,pe::ps=>match pe with
  |.w x=>match Nat.beq x j with|true=>some o|false=>nG j l ps
  |.p _ _=>nG j l ps
 |_,_=>none
structure mE(ops:Array Oper)(pl:List PE)(k:Nat):Prop where
 len:pl.length=ops.size
 below:∀(i:Nat) (o:Oper),ops[i]?=some o->∀e∈fC o,e<i
 fresh:∀(i:Nat) (o:Oper),ops[i]?=some o->∀t,t∈looks ops.toList o->∀(y:Nat) (oy:Oper) (lo hi:Nat),ops[y]?=some oy->pl[y]?=some (.p lo hi)->oy.dst=some t->y∈fC o
 lo:∀(i:Nat) (o:Oper) (lo hi:Nat),ops[i]?=some o->pl[i]?=some (.p lo hi)->lo=0\/∃(e:Nat) (pe:PE),e∈fC o/\pl[e]?=some pe/\lo<=pe.num
 hi:∀(i lo hi:Nat),pl[i]?=some (.p lo hi)->k<=hi\/∃(z:Nat) (o:Oper) (pe:PE),ops[z]?=some o/\pl[z]?=some pe/\i∈fC o/\((∃j,pe=.w j/\j<=hi+1)\/(∃l h,pe=.p l h/\h<=hi))
 w:∀(i:Nat) (o:Oper) (j:Nat),ops[i]?=some o->pl[i]?=some (.w j)->1<=j/\j<=k/\(j=1\/∃(e:Nat) (pe:PE),e∈fC o/\pl[e]?=some pe/\j<=pe.num+1)
 uniq:∀(i i' j:Nat),pl[i]?=some (.w j)->pl[i']?=some (.w j)->i=i'
theorem Zuv{i:Nat}:∀{l:List Nat},yj i l=true->∀e∈l,e<i
 |[],_,e,he=>by cases he
 |x::l,h,e,he=>by
  simp only[yj]at h;split at h<;>try cases h
  rename_i q;rw[Nat.blt_eq]at q;rcases List.mem_cons.1 he with rfl|he
  .exact q
  .exact Zuv h e he
theorem We{i hi:Nat}:∀{os:List Oper}{ps:List PE},rh i hi os ps=true->∃(z:Nat) (o:Oper) (pe:PE),os[z]?=some o/\ps[z]?=some pe/\i∈fC o/\((∃j,pe=.w j/\j<=hi+1)\/(∃l h,pe=.p l h/\h<=hi))
 |[],_,h=>by simp[rh]at h|_::_,[],h=>by simp[rh]at h|o::os,pe::ps,h=>by
  simp only[rh]at h;split at h
  .rename_i h1 h2;refine⟨0,o,pe,rfl,rfl,oZ.1 h1,?_⟩;cases pe with|w j=>exact .inl ⟨j,rfl,Nat.le_of_ble_eq_true h2⟩|p l hh=>exact .inr ⟨l,hh,rfl,Nat.le_of_ble_eq_true h2⟩
  .obtain⟨z,o',pe',h1,h2,h3⟩:=We h;exact⟨z+1,o',pe',by simpa using h1,by simpa using h2,h3⟩
theorem Zuu{ls es:List Nat}:∀{os:List Oper}{ps:List PE}{i:Nat},o6 ls es os ps i=true->∀(y:Nat) (oy:Oper) (lo hi:Nat) (t:Tmp),os[y]?=some oy->ps[y]?=some (.p lo hi)->oy.dst=some t->t∈ls->i+y∈es
 |[],_,_,_,y,oy,lo,hi,t,h1,_,_,_=>by simp at h1|_::_,[],_,_,y,oy,lo,hi,t,_,h2,_,_=>by simp at h2|o::os,pe::ps,i,h,y,oy,lo,hi,t,h1,h2,h3,h4=>by
  simp only[o6]at h;have rec_:o6 ls es os ps (i+1)=true->y≠0->i+y∈es:=by intro hh hy;obtain⟨y',rfl⟩:∃y',y=y'+1:=⟨y-1,by omega⟩;have:=Zuu hh y' oy lo hi t (by simpa using h1) (by simpa using h2) h3 h4;rw[show i+(y'+1)=i+1+y' by omega];exact this
  by_cases hy:y=0
  .subst hy;simp at h1 h2;subst h1;subst h2;simp only[h3]at h;rw[oZ.2 h4]at h;simp only[]at h;split at h<;>try cases h
   rename_i q;simpa using oZ.1 q
  .refine rec_ ?_ hy;cases pe with
   |w j=>exact h|p l hh=>
    simp only[]at h;split at h
    .exact h
    .split at h
     .exact h
     .split at h
      .exact h
      .cases h
theorem Zyh{ops:List Oper}{pl:List PE}{k:Nat}:∀{os:List Oper}{ps:List PE}{i:Nat},lD ops pl k os ps i=true->os.length=ps.length/\∀(j:Nat) (o:Oper) (pe:PE),os[j]?=some o->ps[j]?=some pe->AW ops pl k (i+j) o pe=true
 |[],[],_,_=>⟨rfl,fun j o pe h=>by simp at h⟩|[],_::_,_,h=>by simp[lD]at h|_::_,[],_,h=>by simp[lD]at h|o::os,pe::ps,i,h=>by
  simp only[lD]at h;split at h<;>try cases h
  rename_i q;obtain⟨h1,h2⟩:=Zyh h;refine⟨by simp[h1],?_⟩;intro j o' pe' ho hp;cases j with|zero=>simp at ho hp;subst ho;subst hp;simpa using q|succ j=>have:=h2 j o' pe' (by simpa using ho) (by simpa using hp);rw[show i+(j+1)=i+1+j by omega];exact this
theorem QT:∀{pl:List PE}{c k:Nat},yp pl c=some k->(∀(i j:Nat),pl[i]?=some (PE.w j)->c<j)/\(∀(i i' j:Nat),pl[i]?=some (.w j)->pl[i']?=some (.w j)->i=i')
 |[],c,k,h=>⟨fun i j h=>by simp at h,fun i i' j h=>by simp at h⟩|pe::l,c,k,h=>by
  simp only[yp]at h;cases pe with
  |p lo hi=>
   obtain⟨h1,h2⟩:=QT h;constructor
   .intro i j hi;cases i with|zero=>simp at hi|succ i=>exact h1 i j (by simpa using hi)
   .intro i i' j hi hi';cases i with|zero=>simp at hi|succ i=>cases i' with|zero=>simp at hi'|succ i'=>rw[h2 i i' j (by simpa using hi) (by simpa using hi')]
  |w x=>
   simp only[]at h;split at h<;>try cases h
   rename_i q;have q:=bD q;subst q;obtain⟨h1,h2⟩:=QT h;constructor
   .intro i j hi;cases i with|zero=>simp at hi;omega|succ i=>have:=h1 i j (by simpa using hi);omega
   .intro i i' j hi hi';cases i with
    |zero=>simp at hi;subst hi;cases i' with|zero=>rfl|succ i'=>have:=h1 i' _ (by simpa using hi');omega
    |succ i=>cases i' with|zero=>simp at hi';subst hi';have:=h1 i _ (by simpa using hi);omega|succ i'=>rw[h2 i i' j (by simpa using hi) (by simpa using hi')]
theorem Fo{ops:Array Oper}{pl:List PE}{k:Nat}(h:ue ops.toList pl=some k):mE ops pl k:=by
 unfold ue at h;split at h<;>try cases h
 rename_i hW;split at h<;>try cases h
 rename_i hA;obtain⟨hl,hone⟩:=Zyh hA;have hone:∀(i:Nat) (o:Oper) (pe:PE),ops[i]?=some o->pl[i]?=some pe->AW ops.toList pl k i o pe=true:=by intro i o pe ho hp;have:=hone i o pe (by simpa using ho) hp;simpa using this
 have hthere:∀(i:Nat) (o:Oper),ops[i]?=some o->∃pe,pl[i]?=some pe:=by
  intro i o ho;have:i<pl.length:=by
   rw[<-hl];rcases de i ops.size with q|q
   .simpa using q
   .rw[Array.getElem?_eq_none q]at ho;cases ho
  exact⟨pl[i],by simp[this]⟩
 have hthere':∀(i:Nat) (pe:PE),pl[i]?=some pe->∃o,ops[i]?=some o:=by
  intro i pe hp;have:i<ops.size:=by
   rcases de i pl.length with q|q
   .have:ops.size=pl.length:=by simpa using hl
    omega
   .rw[ep q]at hp;cases hp
  exact⟨ops[i],by simp[this]⟩
 have split1:∀(i:Nat) (o:Oper) (pe:PE),ops[i]?=some o->pl[i]?=some pe->yj i (fC o)=true/\o6 (looks ops.toList o) (fC o) ops.toList pl 0=true/\(match pe with
  |.p lo hi=>match(match lo with|0=>true|lo+1=>oM pl (fun x=>Nat.ble (lo+1) x.num) (fC o))with
   |true=>match Nat.ble k hi with|true=>true|false=>rh i hi ops.toList pl
   |false=>false
  |.w j=>match Nat.ble 1 j,Nat.ble j k,(match j with|0=>false|1=>true|j+2=>oM pl (fun x=>Nat.ble (j+1) x.num) (fC o))with|true,true,true=>true|_,_,_=>false)=true:=by
  intro i o pe ho hp;have:=hone i o pe ho hp;unfold AW at this;split at this
  .rename_i h1 h2;exact⟨h1,h2,this⟩
  .cases this
 refine⟨by simpa using hl.symm,?_,?_,?_,?_,?_,(QT hW).2⟩
 .intro i o ho;obtain⟨pe,hp⟩:=hthere i o ho;exact Zuv (split1 i o pe ho hp).1
 .intro i o ho t ht y oy lo hi hy hpy hd;obtain⟨pe,hp⟩:=hthere i o ho;have:=Zuu (split1 i o pe ho hp).2.1 y oy lo hi t (by simpa using hy) hpy hd ht;simpa using this
 .intro i o lo hi ho hp;have:=(split1 i o _ ho hp).2.2;simp only[]at this;split at this
  .rename_i q;cases lo with|zero=>exact .inl rfl|succ lo=>simp only[]at q;obtain⟨e,pe,h1,h2,h3⟩:=FL q;exact .inr ⟨e,pe,h1,h2,Nat.le_of_ble_eq_true h3⟩
  .cases this
 .intro i lo hi hp;obtain⟨o,ho⟩:=hthere' i _ hp;have:=(split1 i o _ ho hp).2.2;simp only[]at this;split at this
  .split at this
   .rename_i q;exact .inl (Nat.le_of_ble_eq_true q)
   .obtain⟨z,o',pe',h1,h2,h3⟩:=We this;exact .inr ⟨z,o',pe',by simpa using h1,h2,h3⟩
  .cases this
 .intro i o j ho hp;have:=(split1 i o _ ho hp).2.2;simp only[]at this;split at this
  .rename_i q1 q2 q3;refine⟨Nat.le_of_ble_eq_true q1,Nat.le_of_ble_eq_true q2,?_⟩;cases j with
   |zero=>cases q3
   |succ j=>cases j with|zero=>exact .inl rfl|succ j=>simp only[]at q3;obtain⟨e,pe,h1,h2,h3⟩:=FL q3;exact .inr ⟨e,pe,h1,h2,by have:=Nat.le_of_ble_eq_true h3;omega⟩
  .cases this
theorem tS{j:Nat}:∀{os:List Oper}{ps:List PE}{o:Oper},nG j os ps=some o->∃i:Nat,os[i]?=some o/\ps[i]?=some (.w j)
 |[],_,o,h=>by simp[nG]at h|_::_,[],o,h=>by simp[nG]at h|x::os,pe::ps,o,h=>by
  simp only[nG]at h;split at h
  .split at h
   .rename_i y q;have q:=bD q;subst q;simp at h;subst h;exact⟨0,rfl,rfl⟩
   .obtain⟨i,h1,h2⟩:=tS h;exact⟨i+1,by simpa using h1,by simpa using h2⟩
  .obtain⟨i,h1,h2⟩:=tS h;exact⟨i+1,by simpa using h1,by simpa using h2⟩
def left:Nat->(Nat->Bool)->Nat
 |0,_=>0|m+1,L=>left m L+(match L m with|true=>0|false=>1)
def mark(L:Nat->Bool)(i:Nat):Nat->Bool:=fun j=>if j=i then true else L j
theorem xR{L:Nat->Bool}{i:Nat}(hi:L i=false):∀m,left m (mark L i)+(if i<m then 1 else 0)=left m L
 |0=>by simp[left]|m+1=>by
  have ih:=xR hi m;simp only[left,mark];by_cases q:m=i
  .subst q;simp only[if_true,hi];simp at ih;simp[ih]
  .rw[if_neg q];by_cases r:i<m
   .simp only[r,if_true]at ih;rw[if_pos (by omega)];omega
   .simp only[r,if_false]at ih;rw[if_neg (by omega)];omega
theorem rz{L:Nat->Bool}:∀{m:Nat},left m L=0->∀i,i<m->L i=true
 |0,_,i,hi=>by omega|m+1,h,i,hi=>by
  simp only[left]at h;cases hm:L m with
  |false=>rw[hm]at h;simp at h|true=>
   rw[hm]at h;rcases de i m with q|q
   .exact rz (by simpa using h) i q
   .rw[show i=m by omega];exact hm
section
variable{n:Nat}{ops:Array Oper}{pl:List PE}{F₀:DY}{h₀:Hp}{w₀:World}{q:Nat}{L:Nat->Bool}{a:Act}{w:World}{st:St}{pd:VW}{F:DY}
theorem xP:∀{l:List Operand}{t:Tmp},Operand.tmp t∈l->t∈tmpsOf l
 |[],t,h=>by cases h
 |x::l,t,h=>by
  rcases List.mem_cons.1 h with rfl|h2
  .simp[tmpsOf]
  .have:=xP h2;cases x<;>simp[tmpsOf,this]
theorem nW{o:Oper}{t:Tmp}(h:Operand.tmp t∈o.op.operands):t∈looks ops.toList o:=by
 have:=xP (Array.mem_toList_iff.2 h);unfold looks;split
 .exact this
 .split
  .split
   .exact eK _ this
   .exact this
  .exact this
theorem tO{o oj:Oper}{t:Tmp}{j:Nat}{b:Bool}(h:o.guard=some (j,b))(hj:ops[j]?=some oj)(hd:oj.dst=some t):t∈looks ops.toList o:=by
 unfold looks;have hj':nth ops.toList j=some oj:=by rw[dI];simpa using hj
 simp[h,hj',hd]
theorem oX{i j:Nat}(h:L j=true):mark L i j=true:=by unfold mark;split<;>simp[h]
theorem oV{i j:Nat}(h:mark L i j=false):L j=false/\j≠i:=by
 unfold mark at h;split at h
 .cases h
 .rename_i q;exact⟨h,q⟩
end
end Go.Proofs.YtkcpdpplobhpaaaGreat.Ev
end
section
namespace Go.Proofs.YtkcpdpplobhpaaaGreat.V
open Go Go.RowKit
open Go.Proofs.YtkcpdpplobhpaaaGreat.Ev (Tr Tr.cI nth dI PE mE ue pY Fo fC looks tmpsOf xP nW tO jr oZ nG tS left mark xR rz fJ j8 oX oV)
theorem ub{T T':Tr AV}{x:Operand}(h:∀t,x=.tmp t->T'.get t=T.get t):dp T' x=dp T x:=by cases x with|tmp t=>exact h t rfl|_=>rfl
theorem Zyx{T T':Tr AV}:∀{l:List Operand},(∀t,.tmp t∈l->T'.get t=T.get t)->jJ T' l=jJ T l
 |[],_=>rfl|x::l,h=>by simp only[jJ];rw[ub (fun t q=>h t (by simp[q])),Zyx (fun t q=>h t (by simp[q]))]
theorem Qe{T T':Tr AV}:∀{l:List (Nat×Operand)},(∀t,.tmp t∈l.map (·.2)->T'.get t=T.get t)->nV T' l=nV T l
 |[],_=>rfl|(i,x)::l,h=>by simp only[nV];rw[ub (fun t q=>h t (by simp[q])),Qe (fun t q=>h t (by simp only[List.map_cons];exact eK _ q))]
mutual
theorem XN{h h₂:Hp}:∀{σ:Sh}{l:List AV}{d:σ.T}{r:List AV}{h':Hp},fi false h σ l=some (d,r,h')->fi false h₂ σ l=some (d,r,h₂)
 |.int k,l,d,r,h',e=>by
  simp only[fi]at e |-;split at e<;>try cases e
  split at e<;>cases e;rename_i q;simp only[q]
 |.bool,l,d,r,h',e=>by simp only[fi]at e |-;split at e<;>cases e;rfl
 |.str,l,d,r,h',e=>by simp only[fi]at e |-;split at e<;>cases e;rfl
 |.agg ss,l,d,r,h',e=>W7 (ss:=ss) e|.sl s,l,d,r,h',e=>by
  simp only[fi]at e |-;split at e<;>try cases e
  .rfl
  .split at e<;>cases e;rfl
  .split at e<;>try cases e
   split at e<;>first|(cases e;done)|(rename_i q _;cases q)
  .split at e<;>try cases e
   split at e<;>first|(cases e;done)|(rename_i q _;cases q)
theorem W7{h h₂:Hp}:∀{ss:List Sh}{l:List AV}{d:TL ss}{r:List AV}{h':Hp},kL false h ss l=some (d,r,h')->kL false h₂ ss l=some (d,r,h₂)
 |[],l,d,r,h',e=>by simp only[kL]at e |-;cases e;rfl
 |s::ss,l,d,r,h',e=>by
  simp only[kL]at e |-;split at e<;>try cases e
  rename_i d₁ r₁ h₁ e₁;split at e<;>try cases e
  rename_i d₂ r₂ h₂' e₂;have:=FR e₁;subst this;rw[XN (h₂:=h₂) e₁];simp only[];rw[W7 (h₂:=h₂) e₂]
end
theorem QD{h h₂:Hp}{τ:Sh}:∀{n:Nat}{l:List AV}{L:List τ.T},jm h τ n l=some L->jm h₂ τ n l=some L
 |0,l,L,e=>e|n+1,l,L,e=>by
  simp only[jm]at e |-;split at e<;>try cases e
  rename_i x r h₁ hf;split at e<;>try cases e
  rename_i xs hx;rw[XN (h₂:=h₂) hf];simp only[];rw[QD hx]
def fU:Op->Bool
 |.alloc _|.box _ _|.makeSlice _ _ _|.buildSlice _ _ _|.makeMap _ _=>true|_=>false
def kM:AV->Option Nat
 |.ptr b _=>some b|.hd b _=>some b|.vw b _ _ _=>some b|.mp b=>some b|_=>none
theorem FU{P:Program}{sh:TypeId->Option Sh}{T:Tr AV}{h:Hp}{n:Nat}{o:Op}{x:Bool×bu×AV}(e:og P sh T h n o=some x):fU o=true/\kM x.2.2=some n:=by
 unfold og at e;split at e
 .split at e<;>cases e;exact⟨rfl,rfl⟩
 .split at e<;>cases e;exact⟨rfl,rfl⟩
 .split at e<;>try cases e
  split at e<;>try cases e
  split at e<;>cases e;exact⟨rfl,rfl⟩
 .split at e<;>try cases e
  split at e<;>try cases e
  split at e<;>try cases e
  unfold uv at e;split at e
  .split at e<;>try cases e
   split at e<;>cases e<;>exact⟨rfl,rfl⟩
  .cases e;exact⟨rfl,rfl⟩
 .split at e<;>try cases e
  split at e<;>cases e;exact⟨rfl,rfl⟩
 .cases e
theorem ajO{h h₂:Hp}{n:Nat}{elem:TypeId}{len sz:Nat}{r:List AV}{s:Option Sh}:uv h n elem len sz r s=uv h₂ n elem len sz r s:=by
 unfold uv;cases s with
 |none=>rfl|some τ=>
  have:jm h τ len r=jm h₂ τ len r:=by cases q:jm h τ len r with|some L=>exact(QD q).symm|none=>cases q':jm h₂ τ len r with|none=>rfl|some L=>rw[QD (h₂:=h) q']at q;cases q
  simp only[this]
theorem QN{P:Program}{sh:TypeId->Option Sh}{T T':Tr AV}{h h':Hp}{n:Nat}{o:Op}{x:Bool×bu×AV}(e:og P sh T h n o=some x)(hT:∀t,.tmp t∈o.operands->T'.get t=T.get t):og P sh T' h' n o=some x:=by
 unfold og at e |-;cases o<;>try (cases e;done)
 .exact e
 .rename_i elem y
  try dsimp only at e |-
  rw[ub (fun t q=>hT t (by simp[Op.operands,q]))];exact e
 .rename_i t l parts
  try dsimp only at e |-
  rw[Qe (fun t q=>hT t (by simp only[Op.operands,List.mem_toArray];exact q))];simp only[ajO (h:=h') (h₂:=h)];exact e
 .exact e
 .rename_i t l c
  try dsimp only at e |-
  rw[ub (x:=l) (fun t q=>hT t (by simp[Op.operands,q])),ub (x:=c) (fun t q=>hT t (by simp[Op.operands,q]))];exact e
theorem ajN{h h':Hp}(L:fl h h'){u:AV}{x:Bool×List AV×Nat}(e:uj h u=some x):uj h' u=some x:=by
 unfold uj at e |-;cases u<;>try (cases e;done)
 .try dsimp only at e |-
  split at e<;>try cases e
  rename_i q;rw[L _ _ q]
 .try dsimp only at e |-
  split at e<;>try cases e
  .rename_i q;rw[L _ _ q];exact e
  .rename_i q;rw[L _ _ q];exact e
 .exact e
 .try dsimp only at e |-
  split at e<;>cases e;rename_i q;rw[L _ _ q]
theorem afw{h h':Hp}(L:fl h h'){u:AV}{n:Nat}(e:lenOf h u=some n):lenOf h' u=some n:=by
 unfold lenOf at e |-;cases u<;>try (cases e;done)
 .exact e
 .try dsimp only at e |-
  split at e<;>try cases e
  .rename_i q;rw[L _ _ q]
  .rename_i q;rw[L _ _ q]
 .exact e
 .exact e
 .exact e
 .try dsimp only at e |-
  split at e<;>cases e;rename_i q;rw[L _ _ q]
theorem ai3{P:Program}{h h':Hp}(L:fl h h'){t:TypeId}{u i:AV}{x:Bool×AV}(e:tT P h t u i=some x):tT P h' t u i=some x:=by
 unfold tT at e |-;cases i<;>try (cases e;done)
 try dsimp only at e |-
 cases hu:P.underlying t with
 |none=>simp[hu]at e|some d=>
  cases d<;>simp only[hu]at e |-<;>try (cases e;done)
  .split at e<;>try cases e
   rename_i sz hs;cases u<;>(try dsimp only at e |-)<;>try (cases e;done)
   .split at e<;>try cases e
    .rename_i q;rw[L _ _ q];exact e
    .rename_i q;rw[L _ _ q];exact e
   .split at e<;>try cases e
    rename_i hz;split at e<;>try cases e
    .rename_i q;rw[L _ _ q]
    .rename_i q;rw[L _ _ q]
   .exact e
   .split at e<;>try cases e
    rename_i q;rw[L _ _ q];exact e
  .exact e
theorem ajF{P:Program}{h h':Hp}(L:fl h h'){T T':Tr AV}{t:TypeId}{u:AV}{lo hi:Option Operand}{x:Bool×AV}(e:ua P h T t u lo hi=some x)(h1:lf T' lo=lf T lo)(h2:lf T' hi=lf T hi):ua P h' T' t u lo hi=some x:=by
 unfold ua at e |-;rw[h1,h2];split at e<;>try cases e
 rename_i l r q1 q2
 try simp only[q1,q2]
 cases hu:P.underlying t with
 |none=>simp[hu]at e|some d=>
  cases d<;>simp only[hu]at e |-<;>try (cases e;done)
  .exact e
  .split at e<;>try cases e
   rename_i sz hs;cases u<;>(try dsimp only at e |-)<;>try (cases e;done)
   .exact e
   .split at e<;>try cases e
    rename_i q;rw[L _ _ q];exact e
   .exact e
   .exact e
theorem aka{P:Program}{h h':Hp}(L:fl h h'){t:TypeId}{u i v:AV}{ck:Bool}(e:uu P h t u i ck=some v):uu P h' t u i ck=some v:=by
 unfold uu at e |-;split at e<;>try cases e
 rename_i hu
 try simp only[hu]
 split at e<;>try cases e
 rename_i hk hz
 try simp only[hk,hz]
 split at e<;>try cases e
 split at e<;>try cases e
 rename_i hb;rw[L _ _ hb];exact e
theorem ae9{P:Program}{h h':Hp}(L:fl h h'){ts:Array TypeId}{u v:AV}(e:sy P h ts u=some v):sy P h' ts u=some v:=by
 unfold sy at e |-;split at e<;>try cases e
 rename_i t ht
 try simp only[ht]
 cases hu:P.underlying t with
 |none=>simp[hu]at e|some d=>
  cases d<;>simp only[hu]at e |-<;>first|(cases e;done)|exact e|skip
  split at e<;>try cases e
  rename_i n hn;rw[afw L hn]
theorem ai4{P:Program}{h h':Hp}(L:fl h h'){b:Builtin}{ts:Array TypeId}{vs:List AV}{v:AV}(e:tU P h b ts vs=some v):tU P h' b ts vs=some v:=by
 unfold tU at e |-;cases b<;>try (cases e;done)
 .try dsimp only at e |-
  split at e<;>try cases e
  split at e
  .rename_i q
   try simp only[q]
   unfold Ag at e |-;split at e<;>try cases e
   split at e<;>try cases e
   rename_i hb;rw[L _ _ hb]
  .rename_i q
   try simp only[q]
   exact ae9 L e
 .exact e
 .exact e
theorem QL{P:Program}{T T':Tr AV}{h h':Hp}(L:fl h h'){o:Oper}{x:Bool×AV}(e:mF P T h o=some x)(hT:∀t,.tmp t∈o.op.operands->T'.get t=T.get t):mF P T' h' o=some x:=by
 have one:∀y,y∈o.op.operands->dp T' y=dp T y:=fun y hy=>ub (fun t q=>hT t (by rw[<-q];exact hy));have lst:∀l:List Operand,(∀y∈l,y∈o.op.operands)->jJ T' l=jJ T l:=fun l hl=>Zyx (fun t q=>hT t (hl _ q));unfold mF at e |-;cases ho:o.op<;>rw[ho]at e one lst<;>(try dsimp only at e |-)<;>try (cases e;done)
 case move y=>rw[one y (by simp[Op.operands])];exact e
 case pick c a b=>rw[one c (by simp[Op.operands]),one a (by simp[Op.operands]),one b (by simp[Op.operands])];exact e
 case build t parts=>rw[Qe (fun t q=>hT t (by rw[ho];simp only[Op.operands,List.mem_toArray];exact q))];exact e
 case load t y=>
  rw[one y (by simp[Op.operands])];split at e<;>try cases e
  rename_i u hu;unfold rC at e |-;split at e<;>try cases e
  rename_i hc;rw[ajN L hc];exact e
 case nilCheck y=>rw[one y (by simp[Op.operands])];exact e
 case binOp op t y z yt=>rw[one y (by simp[Op.operands]),one z (by simp[Op.operands])];exact e
 case unOp op t y=>rw[one y (by simp[Op.operands])];exact e
 case convert s d y=>rw[one y (by simp[Op.operands])];exact e
 case makeFunc fn a b=>
  cases fn<;>(try dsimp only at e |-)<;>try (cases e;done)
  rw[lst a.toList (by intro z hz;simp only[Op.operands];exact Array.mem_append.2 (.inl (Array.mem_toList_iff.1 hz))),lst b.toList (by intro z hz;simp only[Op.operands];exact Array.mem_append.2 (.inr (Array.mem_toList_iff.1 hz)))];exact e
 case slice t y lo hi mx=>
  cases mx<;>(try dsimp only at e |-)<;>try (cases e;done)
  rw[one y (by simp[Op.operands])];split at e<;>try cases e
  rename_i hu;refine ajF L e ?_ ?_
  .cases lo with|none=>rfl|some z=>simp only[lf];rw[one z (by simp[Op.operands])]
  .cases hi with|none=>rfl|some z=>simp only[lf];rw[one z (by simp[Op.operands])]
 case fieldAddr t y f=>rw[one y (by simp[Op.operands])];exact e
 case field t y f=>rw[one y (by simp[Op.operands])];exact e
 case indexAddr t y i=>
  rw[one y (by simp[Op.operands]),one i (by simp[Op.operands])];split at e<;>try cases e
  exact ai3 L e
 case index t y i=>rw[one y (by simp[Op.operands]),one i (by simp[Op.operands])];exact e
 case extract t i=>rw[one t (by simp[Op.operands])];exact e
 case lookup t y i ck=>
  rw[one y (by simp[Op.operands]),one i (by simp[Op.operands])];split at e<;>try cases e
  split at e<;>cases e;rename_i v hv;rw[aka L hv]
 case call c=>
  split at e<;>try cases e
  rename_i b hb;rw[lst c.args.toList (by intro z hz;simp only[Op.operands,Call.operands,hb];simpa using hz)];split at e<;>try cases e
  rename_i vs hvs;split at e<;>cases e;rename_i v hv;rw[ai4 L hv]
def kR(ops:Array Oper)(T:Tr AV)(o:Oper):Option Bool:=match o.guard with
 |none=>some true|some (j,want)=>match nth ops.toList j with
  |some oj=>match oj.dst with
   |some t=>match T.get t with
    |some (.bool b)=>some (match b with|true=>want|false=>!want)
    |some (.cM [])=>some false|_=>none
   |none=>none
  |none=>none
theorem xO{ops:Array Oper}{T T':Tr AV}{o:Oper}(h:∀t∈looks ops.toList o,T'.get t=T.get t):kR ops T' o=kR ops T o:=by
 unfold kR;split
 .rfl
 .rename_i j want hg;split
  .rename_i oj hj;split
   .rename_i t ht;rw[h t (tO (ops:=ops) hg (by rw[dI]at hj;simpa using hj) ht)]
   .rfl
  .rfl
theorem Qn{ops:Array Oper}{T:Tr AV}{o:Oper}{b:Bool}(e:kR ops T o=some b){X:Cx}{a:Act}(R:∀t∈looks ops.toList o,∀v,T.get t=some v->∃V,a.tmps[t]?=some V/\Rel X v V) :
  Region.wanted o (yielded ops a.tmps)=b:=by
 unfold kR at e;unfold Region.wanted;split at e
 .rename_i hg;rw[hg];simp at e;subst e;rfl
 .rename_i j want hg;split at e<;>try cases e
  rename_i oj hj;split at e<;>try cases e
  rename_i t ht;have hj':ops[j]?=some oj:=by rw[dI]at hj;simpa using hj
  have hl:=tO (ops:=ops) hg hj' ht;rw[hg];split at e<;>cases e
  .rename_i c hv;obtain⟨V,h1,h2⟩:=R t hl _ hv;rw[show V=_ from h2]at h1;cases c<;>cases want<;>simp[yielded,hj',ht,h1]
  .rename_i hv;obtain⟨V,h1,cs,rfl,h2⟩:=R t hl _ hv;simp[yielded,hj',ht,h1]
theorem ai8{R:Type}{ops:Array Oper}{T:Tr AV}{o:Oper}{k:Bool->Tr AV->Option R}{r:R}(e:ug ops T o k=some r):∃b T',k b T'=some r/\(∀t,T'.get t=T.get t)/\kR ops T o=some b:=by
 unfold ug at e;unfold kR;split at e
 .rename_i hg
  try rw[hg]
  exact⟨true,T,e,fun _=>rfl,rfl⟩
 .rename_i j want hg
  try rw[hg]
  split at e<;>try cases e
  rename_i oj hj;split at e<;>try cases e
  rename_i t ht;split at e<;>try cases e
  rename_i v hv;simp only[hj,ht,hv];split at e
  .rename_i b;have same:∀{T':Tr AV},Tr.set FT T t (some (.bool b))=some T'->∀u,T'.get u=T.get u:=by
    intro T' hs u;rw[Tr.cI _ _ _ _ _ hs u];by_cases q:u=t
    .subst q;rw[if_pos rfl,hv]
    .rw[if_neg q]
   rcases Jp e with⟨hb,e2⟩|⟨hb,e2⟩
   .subst hb;clear e;have e:=e2;split at e<;>try cases e
    rename_i T' hset;exact⟨_,T',e,same hset,rfl⟩
   .subst hb;clear e;have e:=e2;split at e<;>try cases e
    rename_i T' hset;exact⟨_,T',e,same hset,rfl⟩
  .exact⟨false,T,e,fun _=>rfl,rfl⟩
  .cases e
def fp{α:Type}(f:α->α->Bool):List α->List α->Bool
 |[],[]=>true|x::l,y::m=>match f x y with|true=>fp f l m|false=>false
 |_,_=>false
theorem QA{α:Type}{f:α->α->Bool}(h:∀x y,f x y=true->x=y):∀{l m:List α},fp f l m=true->l=m
 |[],[],_=>rfl|x::l,y::m,q=>by
  simp only[fp]at q;split at q
  .rename_i hx;rw[h x y hx,QA h q]
  .cases q
 |[],_::_,q=>by simp[fp]at q|_::_,[],q=>by simp[fp]at q
theorem jX{α:Type}{f:α->α->Bool}(h:∀x,f x x=true):∀l:List α,fp f l l=true
 |[]=>rfl|x::l=>by simp only[fp,h x];exact jX h l
def JA(a b:Int):Bool:=decide (a=b)
def N8(a b:Bool):Bool:=decide (a=b)
theorem afp{a b:Int}(h:JA a b=true):a=b:=of_decide_eq_true h
theorem akh{a b:Bool}(h:N8 a b=true):a=b:=of_decide_eq_true h
mutual
def Sh.beq:(σ:Sh)->σ.T->σ.T->Bool
 |.int _,a,b=>JA a b|.bool,a,b=>N8 a b|.str,a,b=>Ev.vE a b|.agg l,a,b=>tq l a b|.sl s,a,b=>fp s.beq a b
termination_by structural x=>x
def tq:(l:List Sh)->TL l->TL l->Bool
 |[],_,_=>true|s::l,a,b=>match s.beq a.1 b.1 with|true=>tq l a.2 b.2|false=>false
termination_by structural x=>x
end
mutual
theorem Sh.beq_eq:∀{σ:Sh}{a b:σ.T},σ.beq a b=true->a=b
 |.int _,a,b,h=>afp h|.bool,a,b,h=>akh h|.str,a,b,h=>Ev.QS h|.agg l,a,b,h=>XT (l:=l) h|.sl s,a,b,h=>QA (fun x y q=>Sh.beq_eq q) h
theorem XT:∀{l:List Sh}{a b:TL l},tq l a b=true->a=b
 |[],a,b,_=>rfl|s::l,a,b,h=>by
  simp only[tq]at h;split at h
  .rename_i q;exact Prod.ext (Sh.beq_eq q) (XT h)
  .cases h
end
def aic{τ τ':Sh}(h:τ.eqv τ'=true)(x:τ.T):τ'.T:=Sh.fK h▸x
mutual
def gp:AV->AV->Option Bool
 |.bool a,v=>match v with|.bool b=>some (decide (a=b))|_=>none
 |.int k a,v=>match v with|.int k' b=>(match kC k k' with|true=>some (decide (a=b))|false=>none)|_=>none
 |.str a,v=>match v with|.str b=>some (Ev.vE a b)|_=>none
 |.ed,v=>match v with|.ed=>some true|_=>none
 |.bk,v=>match v with|.bk=>some true|_=>none
 |.fE,v=>match v with|.fE=>some true|_=>none
 |.fj,v=>match v with|.fj=>some true|_=>none
 |.fV,v=>match v with|.fV=>some true|_=>none
 |.jK,_=>none|.ptr b o,v=>match v with|.ptr b' o'=>(match Nat.beq b b',Nat.beq o o' with|true,true=>some true|_,_=>none)|_=>none
 |.dT b i z o,v=>match v with|.dT b' i' z' o'=>(match Nat.beq b b',Nat.beq z z',Nat.beq o o' with|true,true,true=>some (decide (i=i'))|_,_,_=>none)|_=>none
 |.fX σ d o,v=>match v with|.fX σ' d' o'=>(match e:σ.eqv σ',Nat.beq o o' with|true,true=>some (σ'.beq (aic e d) d')|_,_=>none)|_=>none
 |.hd b τ,v=>match v with|.hd b' τ'=>(match Nat.beq b b',τ.eqv τ' with|true,true=>some true|_,_=>none)|_=>none
 |.vw b τ o n,v=>match v with|.vw b' τ' o' n'=>(match Nat.beq b b',τ.eqv τ' with|true,true=>some (both (decide (o=o')) (decide (n=n')))|_,_=>none)|_=>none
 |.fz τ L,v=>match v with|.fz τ' L'=>(match e:τ.eqv τ' with|true=>some (fp τ'.beq (jW e L) L')|false=>none)|_=>none
 |.func f x c,v=>match v with|.func f' x' c'=>(match Nat.beq f f',py x x',py c c' with|true,some p,some q=>some (both p q)|_,_,_=>none)|_=>none
 |.ej _ _ _,_=>none|.mp b,v=>match v with|.mp b'=>(match Nat.beq b b' with|true=>some true|false=>none)|_=>none
 |.dW b,v=>match v with|.dW b'=>(match Nat.beq b b' with|true=>some true|false=>none)|_=>none
 |.rp b i,v=>match v with|.rp b' i'=>(match Nat.beq b b' with|true=>some (decide (i=i'))|false=>none)|_=>none
 |.ra b i,v=>match v with|.ra b' i'=>(match Nat.beq b b' with|true=>some (decide (i=i'))|false=>none)|_=>none
 |.agg l,v=>match v with|.agg m=>py l m|_=>none
 |.cM l,v=>match v with|.cM m=>py l m|_=>none
termination_by structural x=>x
def py:List AV->List AV->Option Bool
 |[],m=>match m with|[]=>some true|_=>none
 |x::l,m=>match m with
  |y::m=>(match gp x y,py l m with|some p,some q=>some (both p q)|_,_=>none)
  |[]=>none
termination_by structural x=>x
end
mutual
theorem V8:∀{a b:AV},gp a b=some true->a=b
 |.bool a,b,h=>by cases b<;>simp only[gp]at h<;>first|(cases h;done)|(simp only[bV,decide_eq_true_eq]at h;rw[h])
 |.int k a,b,h=>by
  cases b<;>simp only[gp]at h<;>first|(cases h;done)|skip
  split at h<;>try cases h
  rename_i hk;simp only[bV,decide_eq_true_eq]at h;rw[mD hk,h]
 |.str a,b,h=>by cases b<;>simp only[gp]at h<;>first|(cases h;done)|(simp only[bV]at h;rw[Ev.QS h])
 |.ed,b,h=>by cases b<;>simp only[gp]at h<;>first|rfl|cases h
 |.bk,b,h=>by cases b<;>simp only[gp]at h<;>first|rfl|cases h
 |.fE,b,h=>by cases b<;>simp only[gp]at h<;>first|rfl|cases h
 |.fj,b,h=>by cases b<;>simp only[gp]at h<;>first|rfl|cases h
 |.fV,b,h=>by cases b<;>simp only[gp]at h<;>first|rfl|cases h
 |.jK,b,h=>by simp only[gp]at h;cases h
 |.ptr x o,b,h=>by
  cases b<;>simp only[gp]at h<;>first|(cases h;done)|skip
  split at h<;>try cases h
  rename_i h1 h2;rw[bD h1,bD h2]
 |.dT x i z o,b,h=>by
  cases b<;>simp only[gp]at h<;>first|(cases h;done)|skip
  split at h<;>try cases h
  rename_i h1 h2 h3;simp only[bV,decide_eq_true_eq]at h;rw[bD h1,bD h2,bD h3,h]
 |.fX σ d o,b,h=>by
  cases b<;>simp only[gp]at h<;>first|(cases h;done)|skip
  split at h<;>try cases h
  rename_i σ' d' o' h1 h2;simp only[bV]at h;have h:=Sh.beq_eq h;rw[bD h2,<-h];have:=Sh.fK h1;subst this;rfl
 |.hd x τ,b,h=>by
  cases b<;>simp only[gp]at h<;>first|(cases h;done)|skip
  split at h<;>try cases h
  rename_i h1 h2;rw[bD h1,Sh.fK h2]
 |.vw x τ o n,b,h=>by
  cases b<;>simp only[gp]at h<;>first|(cases h;done)|skip
  split at h<;>try cases h
  rename_i h1 h2;simp only[bV]at h;obtain⟨h3,h4⟩:=nv h;simp only[decide_eq_true_eq]at h3 h4;rw[bD h1,Sh.fK h2,h3,h4]
 |.fz τ L,b,h=>by
  cases b<;>simp only[gp]at h<;>first|(cases h;done)|skip
  split at h<;>try cases h
  rename_i τ' L' h1;simp only[bV]at h;have h:=QA (fun x y q=>Sh.beq_eq q) h;rw[<-h];have:=Sh.fK h1;subst this;rfl
 |.func f x c,b,h=>by
  cases b<;>simp only[gp]at h<;>first|(cases h;done)|skip
  split at h<;>try cases h
  rename_i p q h1 h2 h3;simp only[bV]at h;obtain⟨h4,h5⟩:=nv h;subst h4;subst h5;rw[bD h1,yc h2,yc h3]
 |.ej _ _ _,b,h=>by simp only[gp]at h;cases h
 |.mp x,b,h=>by
  cases b<;>simp only[gp]at h<;>first|(cases h;done)|skip
  split at h<;>try cases h
  rename_i h1;rw[bD h1]
 |.dW x,b,h=>by
  cases b<;>simp only[gp]at h<;>first|(cases h;done)|skip
  split at h<;>try cases h
  rename_i h1;rw[bD h1]
 |.rp x i,b,h=>by
  cases b<;>simp only[gp]at h<;>first|(cases h;done)|skip
  split at h<;>try cases h
  rename_i h1;simp only[bV,decide_eq_true_eq]at h;rw[bD h1,h]
 |.ra x i,b,h=>by
  cases b<;>simp only[gp]at h<;>first|(cases h;done)|skip
  split at h<;>try cases h
  rename_i h1;simp only[bV,decide_eq_true_eq]at h;rw[bD h1,h]
 |.agg l,b,h=>by cases b<;>simp only[gp]at h<;>first|(cases h;done)|(rw[yc h])
 |.cM l,b,h=>by cases b<;>simp only[gp]at h<;>first|(cases h;done)|(rw[yc h])
theorem yc:∀{a b:List AV},py a b=some true->a=b
 |[],b,h=>by cases b<;>simp only[py]at h<;>first|rfl|cases h
 |x::l,b,h=>by
  cases b<;>simp only[py]at h<;>first|(cases h;done)|skip
  split at h<;>try cases h
  rename_i p q h1 h2;simp only[bV]at h;obtain⟨h4,h5⟩:=nv h;subst h4;subst h5;rw[V8 h1,yc h2]
end
def Bm(ts:List Nat):List Nat->Bool
 |[]=>true|x::l=>match jr x ts with|true=>false|false=>Bm ts l
theorem Zwt{ts:List Nat}:∀{l:List Nat},Bm ts l=true->∀x∈l,x∉ts
 |[],_,x,hx=>by cases hx
 |y::l,h,x,hx=>by
  simp only[Bm]at h;split at h<;>try cases h
  rename_i q;rcases List.mem_cons.1 hx with rfl|hx
  .intro r;rw[oZ.2 r]at q;cases q
  .exact Zwt h x hx
def qh(q:Nat):List Oper->List PE->List Nat
 |o::l,pe::ps=>match pe with|.w _=>qh q l ps|.p lo _=>match Nat.beq lo q,o.dst with|true,some t=>t::qh q l ps|_,_=>qh q l ps
 |_,_=>[]
theorem Zwb{q:Nat}:∀{os:List Oper}{ps:List PE}{x:Nat}{o:Oper}{hi:Nat}{t:Tmp},os[x]?=some o->ps[x]?=some (.p q hi)->o.dst=some t->t∈qh q os ps
 |[],ps,x,o,hi,t,h,_,_=>by simp at h|o'::os,[],x,o,hi,t,_,h,_=>by simp at h|o'::os,pe::ps,x,o,hi,t,h1,h2,h3=>by
  simp only[qh];cases x with
  |zero=>simp at h1 h2;subst h1;subst h2;have:Nat.beq q q=true:=Nat.beq_refl q;simp[this,h3]|succ x=>
   have:=Zwb (q:=q) (x:=x) (by simpa using h1) (by simpa using h2) h3;cases pe with
   |w j=>exact this|p lo hi'=>
    simp only[];split
    .exact eK _ this
    .exact this
def dl:Option Tmp->List Nat|some t=>[t]|none=>[]
def vq(n:Nat):List Oper->Bool
 |[]=>true|o::l=>match o.dst with
  |some t=>match Nat.blt t n with|true=>vq n l|false=>false
  |none=>vq n l
theorem QB{n:Nat}:∀{os:List Oper},vq n os=true->∀(x:Nat) (o:Oper) (t:Tmp),os[x]?=some o->o.dst=some t->t<n
 |[],_,x,o,t,h,_=>by simp at h|o'::os,h,x,o,t,h1,h2=>by
  simp only[vq]at h;cases x with
  |zero=>
   simp at h1;subst h1;simp only[h2]at h;split at h<;>try cases h
   rename_i q
   rwa [Nat.blt_eq]at q
  |succ x=>
   have h1:os[x]?=some o:=by simpa using h1
   split at h
   .split at h<;>try cases h
    exact QB h x o t h1 h2
   .exact QB h x o t h1 h2
def oG:List Oper->List PE->List Nat->Bool
 |o::l,pe::ps,seen=>match o.dst with
  |some t=>match jr t seen with|true=>false|false=>oG l ps (t::seen)
  |none=>match pe with|.w _=>oG l ps seen|.p _ _=>match fU o.op with|true=>false|false=>oG l ps seen
 |_,_,_=>true
theorem FB:∀{os:List Oper}{ps:List PE}{seen:List Nat},oG os ps seen=true->os.length=ps.length->∀(x:Nat) (o:Oper) (t:Tmp),os[x]?=some o->o.dst=some t->t∉seen
 |[],ps,seen,_,_,x,o,t,h,_=>by simp at h|o'::os,[],seen,_,h,x,o,t,_,_=>by simp at h|o'::os,pe::ps,seen,h,hl,x,o,t,h1,h2=>by
  simp only[oG]at h;simp only[cp,Nat.add_right_cancel_iff]at hl;cases x with
  |zero=>
   simp at h1;subst h1;simp only[h2]at h;split at h<;>try cases h
   rename_i q;intro r;rw[oZ.2 r]at q;cases q
  |succ x=>
   have h1:os[x]?=some o:=by simpa using h1
   split at h
   .split at h<;>try cases h
    exact fun r=>FB h hl x o t h1 h2 (eK _ r)
   .split at h
    .exact FB h hl x o t h1 h2
    .split at h<;>try cases h
     exact FB h hl x o t h1 h2
theorem Zyg:∀{os:List Oper}{ps:List PE}{seen:List Nat},oG os ps seen=true->os.length=ps.length->(∀(x y:Nat) (o o':Oper) (t:Tmp),os[x]?=some o->os[y]?=some o'->o.dst=some t->o'.dst=some t->x=y) /\
  ∀(x:Nat) (o:Oper) (lo hi:Nat),os[x]?=some o->ps[x]?=some (.p lo hi)->fU o.op=true->∃t,o.dst=some t
 |[],ps,seen,_,_=>⟨fun x y o o' t h=>by simp at h,fun x o lo hi h=>by simp at h⟩|o₁::os,[],seen,_,h=>by simp at h|o₁::os,pe::ps,seen,h,hl=>by
  simp only[oG]at h;simp only[cp,Nat.add_right_cancel_iff]at hl;have main:∀seen',oG os ps seen'=true->(∀t,o₁.dst=some t->t∈seen')->(o₁.dst=none->∀lo hi,pe=.p lo hi->fU o₁.op=false) ->
    (∀(x y:Nat) (o o':Oper) (t:Tmp),(o₁::os)[x]?=some o->(o₁::os)[y]?=some o'->o.dst=some t->o'.dst=some t->x=y) /\
    ∀(x:Nat) (o:Oper) (lo hi:Nat),(o₁::os)[x]?=some o->(pe::ps)[x]?=some (.p lo hi)->fU o.op=true->∃t,o.dst=some t:=by
   intro seen' hk aY hmk;obtain⟨r1,r2⟩:=Zyg hk hl;have sn:=FB hk hl;constructor
   .intro x y o o' t hx hy h1 h2;cases x with
    |zero=>cases y with|zero=>rfl|succ y=>simp at hx hy;subst hx;exact absurd (aY t h1) (sn y o' t hy h2)
    |succ x=>cases y with|zero=>simp at hx hy;subst hy;exact absurd (aY t h2) (sn x o t hx h1)|succ y=>rw[r1 x y o o' t (by simpa using hx) (by simpa using hy) h1 h2]
   .intro x o lo hi hx hp hm;cases x with
    |zero=>simp at hx hp;subst hx;cases hd:o₁.dst with|some t=>exact⟨t,rfl⟩|none=>have:=hmk hd lo hi hp;rw[hm]at this;cases this
    |succ x=>exact r2 x o lo hi (by simpa using hx) (by simpa using hp) hm
  split at h
  .rename_i t ht;split at h<;>try cases h
   exact main _ h (fun t' h'=>by rw[ht]at h';cases h';simp) (fun h'=>by rw[ht]at h';cases h')
  .rename_i hd;split at h
   .exact main _ h (fun t h'=>by rw[hd]at h';cases h') (fun _ lo hi q=>by cases q)
   .split at h<;>try cases h
    rename_i hm;exact main _ h (fun t h'=>by rw[hd]at h';cases h') (fun _ _ _ _=>hm)
section
variable{R:Type}(P:Program)(sh:TypeId->Option Sh)(call:iM R)
def Kr(n:Nat)(ops:Array Oper)(o:Oper)(st:St)(k:St->Option R):Option R:=ug ops st.T o fun b T=>match b with
 |false=>match gm n T o.dst (.cM [])with|some T=>k ⟨T,st.h⟩|none=>none
 |true=>match og P sh T st.h st.h.next o.op with
  |some (g,ob,v)=>match Tr.set FT st.h.tr st.h.next (some ob),gm n T o.dst v with|some tr,some T=>ai g (k ⟨T,⟨tr,st.h.next+1⟩⟩)|_,_=>none
  |none=>match mF P T st.h o with
   |some (g,v)=>match gm n T o.dst v with|some T=>ai g (k ⟨T,st.h⟩)|none=>none
   |none=>none
def n9(n:Nat)(ops:Array Oper)(q:Nat):List Oper->List PE->St->(St->Option R)->Option R
 |o::l,pe::ps,st,k=>match pe with|.w _=>n9 n ops q l ps st k|.p lo _=>match Nat.beq lo q with|false=>n9 n ops q l ps st k|true=>Kr P sh n ops o st fun st=>n9 n ops q l ps st k
 |_,_,st,k=>k st
def mI(ops:Array Oper)(q:Nat)(ch:Bool)(ts:List Nat)(st:St):List Oper->List PE->Option R->Option R
 |o::l,pe::ps,k=>match pe with
  |.w _=>mI ops q ch ts st l ps k|.p lo hi=>match Nat.blt lo q,Nat.ble q hi with
   |true,true=>match Bm ts (looks ops.toList o)with
    |false=>none|true=>match ch,fU o.op with
     |true,false=>match kR ops st.T o with
      |some true=>match mF P st.T st.h o,o.dst with
       |some (g,v),some t=>match st.T.get t with
        |some u=>match gp u v with|some s=>ai g (ai s (mI ops q ch ts st l ps k))|none=>none
        |none=>none
       |some (g,v),none=>ai g (mI ops q ch ts st l ps k)|_,_=>none
      |some false=>mI ops q ch ts st l ps k|none=>none
     |_,_=>mI ops q ch ts st l ps k
   |_,_=>mI ops q ch ts st l ps k
 |_,_,k=>k
def A4(n:Nat)(ops:Array Oper)(pl:List PE):Nat->Nat->St->(St->Option R)->Option R
 |0,_,st,k=>k st|r+1,q,st,k=>match nG (q+1) ops.toList pl with|some o=>Bf P sh call n ops o st fun ch st₁=>n9 P sh n ops (q+1) ops.toList pl st₁ fun st₂=>mI P ops (q+1) ch (dl o.dst++qh (q+1) ops.toList pl) st₂ ops.toList pl (A4 n ops pl r (q+1) st₂ k)|none=>none
def Jr(n:Nat)(ops:Array Oper)(st:St)(k:St->Option R):Option R:=match ue ops.toList (pY ops.toList)with
 |some m=>match oG ops.toList (pY ops.toList) [],vq n ops.toList with|true,true=>n9 P sh n ops 0 ops.toList (pY ops.toList) st fun st=>A4 P sh call n ops (pY ops.toList) m 0 st k|_,_=>none
 |none=>none
end
def PN(P:Program)(sh:TypeId->Option Sh)(ops:Array Oper)(b:Nat)(T:Tr AV)(h:Hp)(o:Oper)(v:AV):Prop:=
 (kR ops T o=some false/\v=.cM [])\/(kR ops T o=some true/\fU o.op=false/\mF P T h o=some (true,v)) \/
 (kR ops T o=some true/\fU o.op=true/\∃id ob,og P sh T h id o.op=some (true,ob,v)/\h.tr.get id=some ob/\id<h.next/\b<=id)
theorem PN.congr{P:Program}{sh:TypeId->Option Sh}{ops:Array Oper}{b b':Nat}{T T':Tr AV}{h h':Hp}{o:Oper}{v:AV}(p:PN P sh ops b T h o v)(hT:∀t∈looks ops.toList o,T'.get t=T.get t)(hh:fl h h')(hn:h.next<=h'.next)(hb:b'<=b):PN P sh ops b' T' h' o v:=by
 have hw:=xO (ops:=ops) (T:=T) (T':=T') hT;have hO:∀t,.tmp t∈o.op.operands->T'.get t=T.get t:=fun t q=>hT t (nW q);rcases p with⟨h1,h2⟩|⟨h1,h2,h3⟩|⟨h1,h2,id,ob,h3,h4,h5,h6⟩
 .exact .inl ⟨hw.trans h1,h2⟩
 .exact .inr (.inl ⟨hw.trans h1,h2,QL hh h3 hO⟩)
 .exact .inr (.inr ⟨hw.trans h1,h2,id,ob,QN h3 hO,hh _ _ h4,iS h5 hn,dK hb h6⟩)
