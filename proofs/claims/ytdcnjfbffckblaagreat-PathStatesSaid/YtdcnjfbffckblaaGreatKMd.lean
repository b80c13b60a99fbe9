import Derived.Test.YtdcnjfbffckblaaGreatKMc
set_option linter.unusedVariables false
set_option linter.unusedSimpArgs false
set_option linter.unnecessarySimpa false
section
namespace Go.Proofs.YtdcnjfbffckblaaGreat.V
open Go Go.RowKit
open Go.Proofs.YtdcnjfbffckblaaGreat.Ev (Tr Tr.bz nth bI)
structure St where
 T:Tr AV
 h:Hp
structure eZ(X:Cx)(n:Nat)(T:Tr AV)(a:Act):Prop where
 size:a.tmps.size=n
 defers:a.defers=[]
 get:∀t v,T.get t=some v->∃V,a.tmps[t]?=some V/\Rel X v V
structure RF(X:Cx)(n:Nat)(st:St)(a:Act):Prop where
 h:X.h=st.h
 T:eZ X n st.T a
 H:ab X
def cI(n:Nat)(T:Tr AV)(d:Option Tmp)(v:AV):Option (Tr AV):=match d with|none=>some T|some t=>match Nat.blt t n with|true=>Tr.set FT T t (some v)|false=>none
theorem eZ.ext{X X':Cx}{n:Nat}{T:Tr AV}{a:Act}(R:eZ X n T a)(E:ez X X'):eZ X' n T a:=⟨R.size,R.defers,fun t v h=>let⟨V,h1,h2⟩:=R.get t v h;⟨V,h1,h2.ext E⟩⟩
theorem iJ{n:Nat}{T T':Tr AV}{d:Option Tmp}{v:AV}(h:cI n T d v=some T'):∀t,T'.get t=if d=some t then some v else T.get t:=by
 intro t;unfold cI at h;split at h
 .simp at h;subst h;simp
 .rename_i x;split at h<;>try cases h
  rw[Tr.bz _ _ _ _ _ h t];by_cases q:t=x
  .subst q;simp
  .rw[if_neg q,if_neg (fun r=>q (by simpa using r.symm))]
theorem AR{n:Nat}{T T':Tr AV}{t:Tmp}{v:AV}(h:cI n T (some t) v=some T'):t<n:=by
 simp only[cI]at h;split at h<;>try cases h
 rename_i q
 rwa [Nat.blt_eq]at q
theorem eZ.put{X:Cx}{n:Nat}{T T':Tr AV}{a:Act}{d:Option Tmp}{v:AV}{V:Value}(R:eZ X n T a)(hv:Rel X v V)(h:cI n T d v=some T'):eZ X n T' (a.put d V):=by
 have hg:=iJ h;cases d with
 |none=>refine⟨R.size,R.defers,?_⟩;intro t u hu;rw[hg t]at hu;simp at hu;exact R.get t u hu|some t=>
  have hlt:=AR h;refine⟨by simp[Act.put,R.size],by simp[Act.put,R.defers],?_⟩;intro u x hu;rw[hg u]at hu;simp only[Act.put,Array.getElem?_setIfInBounds];by_cases q:t=u
  .subst q;simp at hu;subst hu;exact⟨V,by simp[R.size,hlt],hv⟩
  .rw[if_neg (by simpa using q)]at hu;rw[if_neg q];exact R.get u x hu
def dm(h h':Hp):Prop:=∀b o,h.tr.get b=some o->h'.tr.get b=some o
theorem dm.refl(h:Hp):dm h h:=fun _ _ q=>q
theorem dm.trans{a b c:Hp}(x:dm a b)(y:dm b c):dm a c:=fun i o q=>y i o (x i o q)
abbrev fj(R:Type):=FuncId->List AV->Hp->(Bool->AV->Hp->Option R)->Option R
def tX(P:Program)(f:FuncId)(vs:List AV)(h:Hp)(v:AV)(h':Hp):Prop:=
 (∃fn c,P.funcs[f]?=some fn/\(fn.name == "runtime.NumGoroutine")=false/\fn.body=some c) /\
 ∀X args,X.h=h->ab X->bg X vs args->Calls P f (List.toArray args) X.w fun e w'=>∃X' V,e=.returned V/\X'.w=w'/\X'.h=h'/\ab X'/\aH X X'/\Rel X' v V
def cT(P:Program){R:Type}(call:fj R):Prop:=∀f vs h k r,call f vs h k=some r->∃ch v h',k ch v h'=some r/\(ch=false->dm h h')/\tX P f vs h v h'
def ak{R:Type}(g:Bool)(r:Option R):Option R:=match g with|true=>r|false=>none
def br{R:Type}(b:Bool)(x y:Option R):Option R:=match b with|true=>x|false=>y
theorem mz{R:Type}{g:Bool}{x:Option R}{r:R}(h:ak g x=some r):g=true/\x=some r:=by
 cases g
 .cases h
 .exact⟨rfl,h⟩
theorem zU{R:Type}{b:Bool}{x y:Option R}{r:R}(h:br b x y=some r):(b=true/\x=some r)\/(b=false/\y=some r):=by
 cases b
 .exact .inr ⟨rfl,h⟩
 .exact .inl ⟨rfl,h⟩
def TX:Op->Bool|.buildSlice _ _ _=>true|_=>false
def post(sh:TypeId->Option Sh)(n:Nat)(o:Oper)(st:St):Option St:=match TX o.op with
 |false=>some st|true=>match sh 1000000000 with
  |none=>some st|some _=>match o.dst with
   |none=>some st|some t=>match st.T.get t with
    |some (.hd b τ)=>match nq true st.h (.sl τ) (.hd b τ)with
     |some (d,h')=>match cI n st.T (some t) (.fz τ d)with|some T=>some ⟨T,h'⟩|none=>none
     |none=>none
    |_=>some st
theorem OV{sh:TypeId->Option Sh}{n:Nat}{o:Oper}{st st':St}(h:post sh n o st=some st'){X:Cx}{a:Act}(R:RF X n st a):∃X',X'.w=X.w/\RF X' n st' a/\aH X X':=by
 have triv:∀{s:St},some s=some st'->s=st->∃X',X'.w=X.w/\RF X' n st' a/\aH X X':=by intro s e q;cases e;subst q;exact⟨X,rfl,R,aH.refl X⟩
 unfold post at h;split at h
 .exact triv h rfl
 split at h
 .exact triv h rfl
 split at h
 .exact triv h rfl
 rename_i t hdt;split at h
 .rename_i b τ hg;split at h<;>try cases h
  rename_i d h' hf;split at h<;>cases h;rename_i T hT;obtain⟨V,hV,RV⟩:=R.T.get t _ hg;rw[<-R.h]at hf;obtain⟨Fz,hd⟩:=Bi R.H hf RV;refine⟨⟨X.s,h',X.w,X.A⟩,rfl,⟨rfl,?_,Fz.H⟩,Fz.E⟩;have R':=R.T.ext (Fz.E.db R.H);refine⟨R'.size,R'.defers,?_⟩;intro u x hu;rw[iJ hT u]at hu;by_cases q:t=u
  .subst q;rw[if_pos rfl]at hu;cases hu;exact⟨V,hV,yG (σ:=.sl τ) hd⟩
  .rw[if_neg (by simpa using q)]at hu;exact R'.get u x hu
 .exact triv h rfl
section
variable{R:Type}(P:Program)(sh:TypeId->Option Sh)(call:fj R)
def LJ(o:Oper):Bool:=match o.op with|.assign _=>true|_=>false
def BE(T:Tr AV)(h:Hp)(o:Oper)(k:Bool->AV->Hp->Option R):Option R:=match lG T o with
 |some (f,vs)=>call f vs h k|none=>match lV P sh T h o with
  |some (g,v,h')=>ak g (k (!LJ o) v h')|none=>match fJ P sh T h h.next o.op with
   |some (g,ob,v)=>match Tr.set FT h.tr h.next (some ob)with|some tr=>ak g (k true v ⟨tr,h.next+1⟩)|none=>none
   |none=>match gb P T h o with|some (g,v)=>ak g (k false v h)|none=>none
def pw(ops:Array Oper)(T:Tr AV)(o:Oper)(k:Bool->Tr AV->Option R):Option R:=match o.guard with
 |none=>k true T|some (j,want)=>match nth ops.toList j with
  |some oj=>match oj.dst with
   |some t=>match T.get t with
    |some v=>match v with
     |.bool b=>br b (match Tr.set FT T t (some (.bool true))with|some T=>k want T|none=>none) (match Tr.set FT T t (some (.bool false))with|some T=>k (!want) T|none=>none)
     |.bk []=>k false T|_=>none
    |none=>none
   |none=>none
  |none=>none
def uu(n:Nat)(ops:Array Oper)(o:Oper)(st:St)(k:Bool->St->Option R):Option R:=pw ops st.T o fun b T=>match b with
 |true=>BE P sh call T st.h o fun ch v h'=>match cI n T o.dst v with|some T=>k ch ⟨T,h'⟩|none=>none
 |false=>match cI n T o.dst (.bk [])with|some T=>k false ⟨T,st.h⟩|none=>none
def A9(n:Nat)(ops:Array Oper)(o:Oper)(st:St)(k:St->Option R):Option R:=uu P sh call n ops o st fun _ st=>match post sh n o st with|some st=>k st|none=>none
def uB(n:Nat)(ops:Array Oper):List Oper->St->(St->Option R)->Option R
 |[],st,k=>k st|o::l,st,k=>A9 P sh call n ops o st fun st=>uB n ops l st k
end
def tW(P:Program)(T:Tr AV)(h:Hp)(o:Oper)(v:AV)(h':Hp):Prop:=∀X a,X.h=h->ab X->eJ X T a o.op->∀(K:Act->World->Prop) (Q:Exit->Act->World->Prop),
 (∀X' V,aH X X'->ab X'->X'.h=h'->Rel X' v V->K (a.put o.dst V) X'.w)->o.wp P a X.w K Q
theorem XD{R:Type}{P:Program}{sh:TypeId->Option Sh}{call:fj R}(hc:cT P call){T:Tr AV}{h:Hp}{o:Oper}{k:Bool->AV->Hp->Option R}{r:R}(e:BE P sh call T h o k=some r) :
  ∃ch v h',k ch v h'=some r/\(ch=false->dm h h')/\tW P T h o v h':=by
 unfold BE at e;split at e
 .rename_i f vs hw;obtain⟨ch,v,h',hk,hch,⟨fn,c,hf,hn,hb⟩,hcall⟩:=hc f vs h k r e;refine⟨ch,v,h',hk,hch,?_⟩;intro X a hX H hO K Q hK;obtain⟨Vs,hrun,hR⟩:=yu hw hO hf hn hb X.w;unfold Oper.wp;rw[hrun,Oper.upon_enter];refine(hcall X Vs hX H hR).mono ?_;rintro e' w' ⟨X',V,rfl,rfl,h1,h2,h3,h4⟩;exact hK X' V h3 h2 h1 h4
 .split at e
  .rename_i g v h' hr;obtain⟨hg,hk⟩:=mz e;refine⟨_,v,h',hk,?_,?_⟩
   .intro hs;unfold LJ at hs;split at hs
    .rename_i x ho;unfold lV at hr;rw[ho]at hr;simp only[]at hr;split at hr<;>cases hr;exact dm.refl h
    .cases hs
   intro X a hX H hO K Q hK;subst hX;obtain⟨X',n,V,hrun,hgv,h1,h2,h3,h4⟩:=yO H hr hg hO;unfold Oper.wp;rw[hrun];rcases hgv with rfl|⟨rfl,rfl⟩
   .exact hK X' V h3 h2 h1 h4
   .exact hK X' undef h3 h2 h1 h4
  .split at e
   .rename_i g ob v ha;split at e<;>try cases e
    rename_i tr ht;obtain⟨hg,hk⟩:=mz e;refine⟨_,v,_,hk,(fun q=>by cases q),?_⟩;intro X a hX H hO K Q hK;subst hX;obtain⟨c,ob',V,hrun,hm⟩:=s0 H ha hg hO;have E:=Lr (c:=c) (ob:=ob') H ht;have hg:=Tr.bz FT X.h.tr X.h.next _ tr ht;have M:Made X ⟨aT X.s X.h.next (.at X.w.heap.size c),⟨tr,X.h.next+1⟩,{ X.w with heap:=X.w.heap.push ob' },X.A⟩ X.h.next c ob ob':=⟨E.db H,rfl,cd _ _ _,by show tr.get _=_;rw[hg,if_pos rfl]⟩;obtain⟨q1,q2⟩:=hm _ M;unfold Oper.wp;rw[hrun];exact hK _ V E (H.new ht q1) rfl q2
   .split at e<;>try cases e
    rename_i g v hr;obtain⟨hg,hk⟩:=mz e;refine⟨_,v,h,hk,(fun _=>dm.refl h),?_⟩;intro X a hX H hO K Q hK;subst hX;obtain⟨V,hrun,hR⟩:=nM H hr hg hO;unfold Oper.wp;rw[hrun];exact hK X V (aH.refl X) H rfl hR
structure uC(ops:Array Oper)(T:Tr AV)(o:Oper)(b:Bool)(T':Tr AV):Prop where
 aN:∀X n a,eZ X n T a->eZ X n T' a
 is:∀(X:Cx) (a:Act),(∀j w oj t v,o.guard=some (j,w)->ops[j]?=some oj->oj.dst=some t->T.get t=some v->∃V,a.tmps[t]?=some V/\Rel X v V)->Region.wanted o (yielded ops a.tmps)=b
 get:∀t v,T'.get t=some v->T.get t=some v
 get':∀t v,T.get t=some v->T'.get t=some v
theorem WE{R:Type}{ops:Array Oper}{T:Tr AV}{o:Oper}{k:Bool->Tr AV->Option R}{r:R}(e:pw ops T o k=some r):∃b T',k b T'=some r/\uC ops T o b T':=by
 unfold pw at e;split at e
 .rename_i hg;exact⟨true,T,e,fun _ _ _ h=>h,fun X a _=>by unfold Region.wanted;rw[hg],fun _ _ h=>h,fun _ _ h=>h⟩
 .rename_i j want hg;split at e<;>try cases e
  rename_i oj hj;split at e<;>try cases e
  rename_i t ht;split at e<;>try cases e
  rename_i v hv;have hj':ops[j]?=some oj:=by rw[bI]at hj;simpa using hj
  have same:∀{b:Bool}{T':Tr AV},v=.bool b->Tr.set FT T t (some (.bool b))=some T'->∀u,T'.get u=T.get u:=by
   intro b T' hb hs u;rw[Tr.bz _ _ _ _ _ hs u];by_cases q:u=t
   .subst q;rw[if_pos rfl,hv,hb]
   .rw[if_neg q]
  split at e
  .rename_i b;rcases zU e with⟨rfl,e2⟩|⟨rfl,e2⟩
   .clear e;have e:=e2;split at e<;>try cases e
    rename_i T' hset;have hs:=same (b:=true) rfl hset;refine⟨want,T',e,fun X n a R=>⟨R.size,R.defers,fun u x hu=>R.get u x (by rw[<-hs u];exact hu)⟩,?_,fun u x hu=>by rw[<-hs u];exact hu,fun u x hu=>by rw[hs u];exact hu⟩;intro X a R;obtain⟨V,h1,h2⟩:=R j want oj t _ hg hj' ht hv;rw[show V=_ from h2]at h1;unfold Region.wanted;rw[hg];cases want<;>simp[yielded,hj',ht,h1]
   .clear e;have e:=e2;split at e<;>try cases e
    rename_i T' hset;have hs:=same (b:=false) rfl hset;refine⟨!want,T',e,fun X n a R=>⟨R.size,R.defers,fun u x hu=>R.get u x (by rw[<-hs u];exact hu)⟩,?_,fun u x hu=>by rw[<-hs u];exact hu,fun u x hu=>by rw[hs u];exact hu⟩;intro X a R;obtain⟨V,h1,h2⟩:=R j want oj t _ hg hj' ht hv;rw[show V=_ from h2]at h1;unfold Region.wanted;rw[hg];cases want<;>simp[yielded,hj',ht,h1]
  .refine⟨false,T,e,fun _ _ _ h=>h,?_,fun _ _ h=>h,fun _ _ h=>h⟩;intro X a R;obtain⟨V,h1,cs,rfl,h2⟩:=R j want oj t _ hg hj' ht hv;unfold Region.wanted;rw[hg];simp[yielded,hj',ht,h1]
  .cases e
def Uu(P:Program)(n:Nat)(ops:Array Oper)(i:Nat)(st st':St):Prop:=∀X a,RF X n st a->∀(K:Act->World->Prop) (Q:Exit->Act->World->Prop),
 (∀X' a',RF X' n st' a'->aH X X'->K a' X'.w)->wpOp P ops Q i K a X.w
theorem Rf{R:Type}{P:Program}{sh:TypeId->Option Sh}{call:fj R}(hc:cT P call){n:Nat}{ops:Array Oper}{o:Oper}{st:St}{k:Bool->St->Option R}{r:R}
  (e:uu P sh call n ops o st k=some r):∃ch st' b T v,k ch st'=some r/\(ch=false->dm st.h st'.h)/\uC ops st.T o b T/\cI n T o.dst v=some st'.T /\
   ((b=true/\tW P T st.h o v st'.h)\/(b=false/\v=.bk []/\st'.h=st.h)):=by
 unfold uu at e;obtain⟨b,T,e,W⟩:=WE e;cases b with
 |true=>
  simp only[]at e;obtain⟨ch,v,h',e,hch,A⟩:=XD hc e;split at e<;>try cases e
  rename_i T' hT;exact⟨ch,⟨T',h'⟩,true,T,v,e,hch,W,hT,.inl ⟨rfl,A⟩⟩
 |false=>
  simp only[]at e;split at e<;>try cases e
  rename_i T' hT;exact⟨false,⟨T',st.h⟩,false,T,.bk [],e,fun _=>dm.refl _,W,hT,.inr ⟨rfl,rfl,rfl⟩⟩
theorem WX{R:Type}{P:Program}{sh:TypeId->Option Sh}{call:fj R}(hc:cT P call){n:Nat}{ops:Array Oper}{o:Oper}{i:Nat}{st:St}{k:St->Option R}{r:R}
  (e:A9 P sh call n ops o st k=some r) (hi:ops[i]?=some o):∃st',k st'=some r/\Uu P n ops i st st':=by
 unfold A9 at e;obtain⟨ch,st',b,T,v,e,_,W,hT,A⟩:=Rf hc e;split at e<;>try cases e
 rename_i st₂ hp;refine⟨st₂,e,?_⟩;intro X a RR K Q hK;have R':=W.aN X n a RR.T;unfold wpOp;rw[hi];simp only[];rw[W.is X a (fun j w oj t v _ _ _ hv=>RR.T.get t v hv)];rcases A with⟨rfl,A⟩|⟨rfl,rfl,hh⟩
 .simp only[if_true];left;refine A X a RR.h RR.H (oa fun t _ u hu=>R'.get t u hu) K Q ?_;intro X' V E H' hh hv;obtain⟨X'',hw,R'',E''⟩:=OV hp (X:=X') ⟨hh,(R'.ext (E.db RR.H)).put hv hT,H'⟩;rw[<-hw];exact hK X'' _ R'' (E.trans E'')
 .simp only[Bool.false_eq_true,if_false];obtain⟨X'',hw,R'',E''⟩:=OV hp (X:=X) ⟨by rw[hh];exact RR.h,R'.put (v:=.bk []) (V:=undef) ⟨[],rfl,rfl⟩ hT,RR.H⟩;rw[<-hw];exact hK X'' _ R'' E''
theorem Kh{R:Type}{P:Program}{sh:TypeId->Option Sh}{call:fj R}(hc:cT P call){n:Nat}{ops:Array Oper}:∀(l:List Oper) (j:Nat) (st:St) (k:St->Option R) (r:R),uB P sh call n ops l st k=some r ->
  (∀i,l[i]?=ops[j+i]?)->∃st',k st'=some r/\∀X a,RF X n st a->∀Q:Exit->Act->World->Prop,(∀X' a',RF X' n st' a'->aH X X'->Q .normal a' X'.w)->wpOps P ops Q (List.range' j l.length) a X.w
 |[],j,st,k,r,e,_=>⟨st,e,fun X a RR Q hQ=>hQ X a RR (aH.refl X)⟩|o::l,j,st,k,r,e,hl=>by simp only[uB]at e;obtain⟨st₁,e,S⟩:=WX hc e (i:=j) (by have:=hl 0;simpa using this.symm);obtain⟨st',hk,rest⟩:=Kh hc l (j+1) st₁ k r e (by intro i;have:=hl (i+1);simp only[List.getElem?_cons_succ]at this;rw[this];congr 1;omega);refine⟨st',hk,?_⟩;intro X a RR Q hQ;rw[cx,List.range'_succ,wpOps_cons];refine S X a RR _ _ ?_;intro X' a' R' E';exact rest X' a' R' Q (fun X'' a'' R'' E''=>hQ X'' a'' R'' (E'.trans E''))
end Go.Proofs.YtdcnjfbffckblaaGreat.V
end
section
namespace Go.Proofs.YtdcnjfbffckblaaGreat.Ev
open Go Go.RowKit
structure St where
 T:Tr AV
 h:Hp
structure eZ(s:Sg)(n:Nat)(T:Tr AV)(nx:Nat)(a:Act):Prop where
 size:a.tmps.size=n
 defers:a.defers=[]
 get:∀t v,T.get t=some v->a.tmps[t]?=some (ae s v)
 ws:∀t v,T.get t=some v->ws nx v=true
def cI(n nx:Nat)(T:Tr AV)(d:Option Tmp)(v:AV):Option (Tr AV):=match d with|none=>some T|some t=>match Nat.blt t n,ws nx v with|true,true=>Tr.set FT T t (some v)|_,_=>none
theorem eZ.put{s s':Sg}{n nx nx':Nat}{T T':Tr AV}{a:Act}{d:Option Tmp}{v:AV}(R:eZ s n T nx a)(hs:∀i,i<nx->s' i=s i)(hn:nx<=nx')(h:cI n nx' T d v=some T') :
  eZ s' n T' nx' (a.put d (ae s' v)):=by
 have old:∀t v,T.get t=some v->a.tmps[t]?=some (ae s' v):=fun t v ht=>by rw[nN hs v (R.ws t v ht)];exact R.get t v ht
 unfold cI at h;split at h
 .simp at h;subst h;exact⟨R.size,R.defers,old,fun t v ht=>lx hn v (R.ws t v ht)⟩
 .rename_i t;split at h<;>try cases h
  rename_i hlt hw;rw[Nat.blt_eq]at hlt;have hg:=Tr.bz _ _ _ _ _ h;refine⟨by simp[Act.put,R.size],by simp[Act.put,R.defers],?_,?_⟩
  .intro u x hu;rw[hg u]at hu;simp only[Act.put,Array.getElem?_setIfInBounds];by_cases q:u=t
   .subst q;simp at hu;subst hu;simp[R.size,hlt]
   .rw[if_neg q]at hu;rw[if_neg (fun r=>q r.symm)];exact old u x hu
  .intro u x hu;rw[hg u]at hu;by_cases q:u=t
   .rw[if_pos q]at hu;simp at hu;subst hu;exact hw
   .rw[if_neg q]at hu;exact lx hn x (R.ws u x hu)
def nV(ops:Array Oper)(T:Tr AV)(o:Oper):Option Bool:=match o.guard with
 |none=>some true|some (j,want)=>match nth ops.toList j with
  |some oj=>match oj.dst with
   |some t=>match T.get t with
    |some v=>match v with
     |.bool b=>match b,want with|true,true=>some true|false,false=>some true|_,_=>some false
     |_=>some false
    |none=>none
   |none=>none
  |none=>none
theorem yk{ops:Array Oper}{T:Tr AV}{o:Oper}{b:Bool}(h:nV ops T o=some b){s:Sg}{a:Act}
  (R:∀j w oj t v,o.guard=some (j,w)->ops[j]?=some oj->oj.dst=some t->T.get t=some v->a.tmps[t]?=some (ae s v)):Region.wanted o (yielded ops a.tmps)=b:=by
 unfold nV at h;unfold Region.wanted;split at h
 .rename_i hg;rw[hg];simp at h;subst h;rfl
 .rename_i j want hg;split at h<;>try cases h
  rename_i oj hj;split at h<;>try cases h
  rename_i t ht;split at h<;>try cases h
  rename_i v hv;have hj':ops[j]?=some oj:=by rw[bI]at hj;simpa using hj
  have:=R j want oj t v hg hj' ht hv;rw[hg];simp only[yielded,hj',Option.bind_some,ht,this];cases v with
  |bool c=>simp only[ae];cases c<;>cases want<;>simp at h<;>subst h<;>rfl
  |_=>simp at h;subst h;rfl
abbrev fb:=Sg->Prop
structure dM(F:fb)(h:Hp)(w:World)(F':fb)(h':Hp)(w':World):Prop where
 to:∀s,F s->∃s',F' s'/\Ext s h w s' h' w'
 from_:∀s',F' s'->∃s,F s/\Ext s h w s' h' w'
theorem dM.refl(F:fb)(h:Hp)(w:World):dM F h w F h w:=⟨fun s hs=>⟨s,hs,Ext.refl _ _ _⟩,fun s hs=>⟨s,hs,Ext.refl _ _ _⟩⟩
theorem dM.trans{F F' F'':fb}{h h' h'':Hp}{w w' w'':World}(a:dM F h w F' h' w')(b:dM F' h' w' F'' h'' w''):dM F h w F'' h'' w'':=by
 constructor
 .intro s hs;obtain⟨s',hs',e⟩:=a.to s hs;obtain⟨s'',hs'',e'⟩:=b.to s' hs';exact⟨s'',hs'',e.trans e'⟩
 .intro s'' hs'';obtain⟨s',hs',e'⟩:=b.from_ s'' hs'';obtain⟨s,hs,e⟩:=a.from_ s' hs';exact⟨s,hs,e.trans e'⟩
structure RF(F:fb)(n:Nat)(T:Tr AV)(h:Hp)(a:Act)(w:World):Prop where
 ne:∃s,F s
 T:∀s,F s->eZ s n T h.next a
 H:∀s,F s->ab s h w
abbrev Cl:=FuncId->List AV->Hp->Option (AV×Hp)
def cT(P:Program)(call:Cl):Prop:=∀f vs h v h',call f vs h=some (v,h')->(∃fn c,P.funcs[f]?=some fn/\(fn.name == "runtime.NumGoroutine")=false/\fn.body=some c) /\
 ∀(F:fb) w args,(∃s,F s)->(∀s,F s->ab s h w/\(aD s vs).toArray=args)->cf h.next vs=true ->
  Calls P f args w fun e w'=>∃F' V,e=.returned V/\dM F h w F' h' w'/\∀s',F' s'->ab s' h' w'/\ae s' v=V
def zY(P:Program)(call:Cl)(T:Tr AV)(h:Hp)(o:Oper):Option (AV×Hp):=match lG T o with
 |some (f,vs)=>call f vs h|none=>match lV P T h o with
  |some r=>some r|none=>match fJ P T h.next o.op with
   |some (ob,v)=>match Tr.set FT h.tr h.next (some ob)with|some tr=>some (v,⟨tr,h.next+1⟩)|none=>none
   |none=>match gb P T h o with|some v=>some (v,h)|none=>none
theorem KZ{P:Program}{call:Cl}(hc:cT P call){T:Tr AV}{h h':Hp}{o:Oper}{v:AV}(e:zY P call T h o=some (v,h')){F:fb}{a:Act}{w:World}(hne:∃s,F s)
  (hO:∀s,F s->eJ s T a o.op) (hT:∀t v,T.get t=some v->ws h.next v=true) (H:∀s,F s->ab s h w) {K:Act->World->Prop}{Q:Exit->Act->World->Prop}
  (hK:∀F' w' V,dM F h w F' h' w'->(∀s',F' s'->ab s' h' w'/\ae s' v=V)->K (a.put o.dst V) w'):o.wp P a w K Q:=by
 obtain⟨s₀,hs₀⟩:=hne;unfold zY at e;unfold Oper.wp;split at e
 .rename_i f vs hw;obtain⟨⟨fn,c,hf,hn,hb⟩,hcall⟩:=hc f vs h v h' e;have h₀:=yu hw (hO s₀ hs₀) hf hn hb w;rw[h₀,Oper.upon_enter];refine(hcall F w (aD s₀ vs).toArray ⟨s₀,hs₀⟩ ?_ (Xz hw hT)).mono ?_
  .intro s hs;refine⟨H s hs,?_⟩;have h₁:=yu hw (hO s hs) hf hn hb w;rw[h₀]at h₁;simp only[Result.ok.injEq,Next.enter.injEq,true_and,and_true]at h₁;exact h₁.symm
  .rintro e' w' ⟨F',V,rfl,hE,hF⟩;exact hK F' w' V hE hF
 .split at e
  .rename_i r hr;simp at e;subst e;obtain⟨n,s₀',w',hrun,hg,hH,hE⟩:=yO hr (hO s₀ hs₀) hT (H s₀ hs₀);have all:∀s,F s->∃s',qj (ae s' v) n/\ab s' h' w'/\Ext s h w s' h' w':=by intro s hs;obtain⟨n₁,s',w₁,hrun₁,hg₁,hH₁,hE₁⟩:=yO hr (hO s hs) hT (H s hs);rw[hrun]at hrun₁;simp only[Result.ok.injEq]at hrun₁;obtain⟨rfl,rfl⟩:=hrun₁;exact⟨s',hg₁,hH₁,hE₁⟩
   rw[hrun];have hFE:dM F h w (fun s'=>∃s,F s/\qj (ae s' v) n/\ab s' h' w'/\Ext s h w s' h' w') h' w':=⟨fun s hs=>let⟨s',q⟩:=all s hs;⟨s',⟨s,hs,q⟩,q.2.2⟩,fun s' ⟨s,hs,q⟩=>⟨s,hs,q.2.2⟩⟩;rcases hg with rfl|⟨rfl,hu⟩
   .refine hK _ w' (ae s₀' v) hFE ?_;rintro s' ⟨s,hs,hg',hH',_⟩;refine⟨hH',?_⟩;rcases hg' with q|⟨q,_⟩
    .simp only[Next.value.injEq]at q;exact q.symm
    .cases q
   .refine hK _ w' undef hFE ?_;rintro s' ⟨s,hs,hg',hH',_⟩;refine⟨hH',?_⟩;rcases hg' with q|⟨_,q⟩
    .cases q
    .exact q
  .split at e
   .rename_i ob v' ha;split at e<;>try cases e
    rename_i tr ht;obtain⟨ob',hrun,hor,hwo,hwv⟩:=s0 ha (hO s₀ hs₀) (fun x hx u hu=>kh hT hu) w;have all:∀s,F s->ae (aT s h.next (w.heap.size,0)) v=ae (aT s₀ h.next (w.heap.size,0)) v/\ab (aT s h.next (w.heap.size,0)) ⟨tr,h.next+1⟩ { w with heap:=w.heap.push ob' } /\
      Ext s h w (aT s h.next (w.heap.size,0)) ⟨tr,h.next+1⟩ { w with heap:=w.heap.push ob' }:=by
     intro s hs;obtain⟨ob₁,hrun₁,hor₁,hwo₁,_⟩:=s0 ha (hO s hs) (fun x hx u hu=>kh hT hu) w;rw[hrun]at hrun₁;simp only[Result.ok.injEq,Next.value.injEq,World.mk.injEq,Array.push_eq_push,and_true,true_and]at hrun₁;obtain⟨q1,rfl⟩:=hrun₁;have hn:=(H s hs).new (c:=0) hor₁ hwo₁ ht;exact⟨q1.symm,hn⟩
    rw[hrun];refine hK (fun s'=>∃s,F s/\s'=aT s h.next (w.heap.size,0)) _ (ae (aT s₀ h.next (w.heap.size,0)) v) ⟨?_,?_⟩ ?_
    .exact fun s hs=>⟨_,⟨s,hs,rfl⟩,(all s hs).2.2⟩
    .rintro s' ⟨s,hs,rfl⟩;exact⟨s,hs,(all s hs).2.2⟩
    .rintro s' ⟨s,hs,rfl⟩;exact⟨(all s hs).2.1,(all s hs).1⟩
   .split at e<;>try cases e
    rename_i hr;have h₀:=nM hr (hO s₀ hs₀) (H s₀ hs₀);rw[h₀];refine hK F w (ae s₀ v) (dM.refl _ _ _) ?_;intro s hs;refine⟨H s hs,?_⟩;have h₁:=nM hr (hO s hs) (H s hs);rw[h₀]at h₁;simp only[Result.ok.injEq,Next.value.injEq,and_true]at h₁;exact h₁.symm
theorem RF.put{F F':fb}{n:Nat}{T T':Tr AV}{h h':Hp}{a:Act}{w w':World}{d:Option Tmp}{v:AV}{V:Value}(R:RF F n T h a w)(hE:dM F h w F' h' w')
  (hF:∀s',F' s'->ab s' h' w'/\ae s' v=V) (hT:cI n h'.next T d v=some T'):RF F' n T' h' (a.put d V) w':=by
 obtain⟨s₀,hs₀⟩:=R.ne;obtain⟨s₁,hs₁,_⟩:=hE.to s₀ hs₀;refine⟨⟨s₁,hs₁⟩,?_,fun s' hs'=>(hF s' hs').1⟩;intro s' hs';obtain⟨s,hs,e⟩:=hE.from_ s' hs';rw[<-(hF s' hs').2];exact(R.T s hs).put e.sg e.next hT
def pH(P:Program)(call:Cl)(n:Nat)(ops:Array Oper)(o:Oper)(st:St):Option St:=match nV ops st.T o with
 |some true=>match zY P call st.T st.h o with
  |some (v,h')=>match cI n h'.next st.T o.dst v with|some T=>some ⟨T,h'⟩|none=>none
  |none=>none
 |some false=>match cI n st.h.next st.T o.dst (.bk [])with|some T=>some ⟨T,st.h⟩|none=>none
 |none=>none
theorem XA{P:Program}{call:Cl}(hc:cT P call){n:Nat}{ops:Array Oper}{o:Oper}{i:Nat}{st st':St}(e:pH P call n ops o st=some st')(hi:ops[i]?=some o){F:fb}{a:Act}{w:World}
  (R:RF F n st.T st.h a w) {K:Act->World->Prop}{Q:Exit->Act->World->Prop}
  (hK:∀F' a' w',RF F' n st'.T st'.h a' w'->dM F st.h w F' st'.h w'->K a' w'):wpOp P ops Q i K a w:=by
 obtain⟨s₀,hs₀⟩:=R.ne;have R₀:=R.T s₀ hs₀;unfold pH at e;unfold wpOp;rw[hi];simp only[];split at e
 .rename_i hw;rw[yk hw (fun j w oj t v _ _ _ hv=>R₀.get t v hv)];simp only[if_true];left;split at e<;>try cases e
  rename_i v h' ha;split at e<;>try cases e
  rename_i T' hT;exact KZ hc ha R.ne (fun s hs=>oa fun t _ u hu=>(R.T s hs).get t u hu) R₀.ws R.H fun F' w' V hE hF=>hK F' _ w' (R.put hE hF hT) hE
 .rename_i hw;rw[yk hw (fun j w oj t v _ _ _ hv=>R₀.get t v hv)];simp only[Bool.false_eq_true,if_false];split at e<;>try cases e
  rename_i T' hT;exact hK F _ w (R.put (v:=.bk []) (V:=undef) (dM.refl _ _ _) (fun s hs=>⟨R.H s hs,rfl⟩) hT) (dM.refl _ _ _)
 .cases e
def qv(P:Program)(call:Cl)(n:Nat)(ops:Array Oper):List Oper->St->Option St
 |[],st=>some st|o::l,st=>match pH P call n ops o st with|some st=>qv P call n ops l st|none=>none
theorem KX{P:Program}{call:Cl}(hc:cT P call){n:Nat}{ops:Array Oper}{Q:Exit->Act->World->Prop}:∀(l:List Oper) (k:Nat) (st st':St),qv P call n ops l st=some st' ->
  (∀j,l[j]?=ops[k+j]?)->∀(F:fb) (a:Act) (w:World),RF F n st.T st.h a w ->
  (∀F' a' w',RF F' n st'.T st'.h a' w'->dM F st.h w F' st'.h w'->Q .normal a' w') ->
  wpOps P ops Q ((List.range' k l.length)) a w
 |[],k,st,st',e,_,F,a,w,R,hK=>by simp[qv]at e;subst e;exact hK F a w R (dM.refl _ _ _)|o::l,k,st,st',e,hl,F,a,w,R,hK=>by
  simp only[qv]at e;split at e<;>try cases e
  rename_i st₁ h₁;rw[cx,List.range'_succ,wpOps_cons];refine XA hc h₁ (by have:=hl 0;simpa using this.symm) R ?_;intro F' a' w' R' E';refine KX hc l (k+1) st₁ st' e ?_ F' a' w' R' ?_
  .intro j;have:=hl (j+1);simp only[List.getElem?_cons_succ]at this;rw[this];congr 1;omega
  .intro F'' a'' w'' R'' E'';exact hK F'' a'' w'' R'' (E'.trans E'')
inductive Ex where
 |normal
 |exit (id:Nat)
 |ret
def Ex.to:Ex->Exit
 |.normal=>.normal|.exit id=>.exit id|.ret=>.ret
abbrev Dr:=Cl->Nat->Array Oper->St->Option St
def Ax(P:Program)(dr:Dr):Prop:=∀call,cT P call->∀n id ops st st',dr call n ops st=some st'->∀F a w,RF F n st.T st.h a w->∀Q:Exit->Act->World->Prop,
 (∀F' a' w',RF F' n st'.T st'.h a' w'->dM F st.h w F' st'.h w'->Q .normal a' w')->(Code.region id ops true).wp P Q a w
abbrev Env:=Tr Func
def iS(P:Program)(E:Env):Prop:=∀f fn,E.get f=some fn->P.funcs[f]?=some fn/\(fn.name == "runtime.NumGoroutine")=false
def fx(n nx:Nat):List AV->Nat->Tr AV->Option (Tr AV)
 |[],_,T=>some T|v::l,i,T=>match cI n nx T (some i) v with|some T=>fx n nx l (i+1) T|none=>none
def fq(P:Program)(st:St):List ResultVar->Option (List AV)
 |[]=>some []|r::l=>match(match r with
   |.tmp t=>st.T.get t|.cell a t=>match st.T.get a with|some u=>iM P st.h t u|none=>none)with
  |some v=>match fq P st l with|some vs=>some (v::vs)|none=>none
  |none=>none
def mW:List AV->AV
 |[v]=>v|l=>.bk l
def orElse(a b:Cl):Cl:=fun f vs h=>match a f vs h with|some r=>some r|none=>b f vs h
theorem Lo{P:Program}{a b:Cl}(ha:cT P a)(hb:cT P b):cT P (orElse a b):=by
 intro f vs h v h' e;unfold orElse at e;split at e
 .rename_i r hr;simp at e;subst e;exact ha f vs h v h' hr
 .exact hb f vs h v h' e
def bo(P:Program)(E:Env)(run:Nat->Code->St->Option (Ex×St)):Cl:=fun f vs h=>match E.get f with
 |some fn=>match fn.body with
  |some c=>match Nat.ble vs.length fn.ntmps,fx fn.ntmps h.next vs 0 .nil with
   |true,some T=>match run fn.ntmps c ⟨T,h⟩with
    |some (x,st)=>match x with|.exit _=>none|_=>match fq P st fn.results.toList with|some rs=>some (mW rs,st.h)|none=>none
    |none=>none
   |_,_=>none
  |none=>none
 |none=>none
def dq(P:Program)(E:Env)(dr:Dr)(orc:Cl):Nat->Nat->Code->St->Option (Ex×St)
 |0,_,_,_=>none|k+1,n,c,st=>match c with
  |.skip=>some (.normal,st)|.label _=>some (.normal,st)|.region _ ops draw=>match draw with
   |false=>match qv P (orElse orc (bo P E (dq P E dr orc k))) n ops ops.toList st with|some st=>some (.normal,st)|none=>none
   |true=>match dr (orElse orc (bo P E (dq P E dr orc k))) n ops st with|some st=>some (.normal,st)|none=>none
  |.seq x y=>match dq P E dr orc k n x st with
   |some (e,st)=>match e with|.normal=>dq P E dr orc k n y st|e=>some (e,st)
   |none=>none
  |.cond c x y=>match aM st.T c with
   |some v=>match v with
    |.bool b=>match b with|true=>dq P E dr orc k n x st|false=>dq P E dr orc k n y st
    |_=>none
   |none=>none
  |.block id x=>match dq P E dr orc k n x st with
   |some (e,st)=>match e with
    |.exit i=>match Nat.beq i id with|true=>some (.normal,st)|false=>some (.exit i,st)
    |e=>some (e,st)
   |none=>none
  |.loop x=>match dq P E dr orc k n x st with
   |some (e,st)=>match e with|.normal=>dq P E dr orc k n (.loop x) st|e=>some (e,st)
   |none=>none
  |.scope x=>dq P E dr orc k n x st|.exit id=>some (.exit id,st)|.ret=>some (.ret,st)|_=>none
theorem pj{n nx:Nat}:∀{vs:List AV}{i:Nat}{T T':Tr AV},fx n nx vs i T=some T'->∀t v,T'.get t=some v->(i<=t/\vs[t-i]?=some v)\/T.get t=some v
 |[],i,T,T',h,t,v,hv=>by simp[fx]at h;subst h;exact .inr hv|x::l,i,T,T',h,t,v,hv=>by
  simp only[fx]at h;split at h<;>try cases h
  rename_i T₁ h₁;rcases pj h t v hv with⟨hi,hl⟩|hT
  .left;refine⟨by omega,?_⟩;rw[show t-i=(t-(i+1))+1 by omega];simpa using hl
  .unfold cI at h₁;simp only[]at h₁;split at h₁<;>try cases h₁
   have hg:=Tr.bz _ _ _ _ _ h₁ t;rw[hg]at hT;by_cases q:t=i
   .subst q;simp at hT;subst hT;left;simp
   .rw[if_neg q]at hT;exact .inr hT
theorem sP{P:Program}{st:St}{s:Sg}{n:Nat}{a:Act}{w:World}(R:eZ s n st.T st.h.next a)(H:ab s st.h w)(f:ResultVar->Sem Value)
  (hf:∀r,f r=match r with|.tmp t=>pure (a.tmps.getD t undef)|.cell x t=>do loadVar t (<- asAddr (a.tmps.getD x undef))) :
  ∀{l:List ResultVar}{vs:List AV},fq P st l=some vs->(l.mapM f).run P w=.ok (aD s vs) w
 |[],vs,h=>by simp[fq]at h;subst h;rfl|r::l,vs,h=>by
  simp only[fq]at h;split at h<;>try cases h
  rename_i v hv;split at h<;>try cases h
  rename_i vs' hl;have ih:=sP R H f hf hl;have h1:(f r).run P w=.ok (ae s v) w:=by
   rw[hf r];cases r with
   |tmp t=>have:=R.get t v hv;simp[Array.getD_eq_getD_getElem?,this]|cell x t=>
    simp only[]at hv |-;split at hv<;>try cases hv
    rename_i u hu;have hx:=R.get x u hu;have hr:=sK hv H;have hx':a.tmps.getD x undef=ae s u:=by simp[Array.getD_eq_getD_getElem?,hx]
    rw[hx'];cases u<;>simp only[iM]at hv<;>try cases hv
    simp only[Instr.loadAt,Instr.sureAddr,ae,asAddr,Sem.run_bind,Sem.run_pure,Result.andThen_ok]at hr |-;exact hr
  rw[List.mapM_cons];simp only[Sem.run_bind,h1,Result.andThen_ok,ih,Sem.run_pure,aD]
theorem n0{P:Program}{st:St}{s:Sg}{n:Nat}{a:Act}{w:World}(R:eZ s n st.T st.h.next a)(H:ab s st.h w){fn:Func}{vs:List AV}(h:fq P st fn.results.toList=some vs) :
  (results fn a.tmps).run P w=.ok (ae s (mW vs)) w:=by
 have h1:=sP R H _ (fun r=>rfl) h;unfold results;rw[Sem.run_bind,Array.mapM_eq_mapM_toList,Sem.run_map];have h2:(List.mapM (fun x=>match x with|.tmp t=>pure (a.tmps.getD t undef)|.cell x t=>do loadVar t (<- asAddr (a.tmps.getD x undef)):ResultVar->Sem Value) fn.results.toList).run P w=.ok (aD s vs) w:=h1;refine(congrArg (fun r=>((Result.andThen r _).andThen _)) h2).trans ?_;simp only[Result.andThen_ok,Sem.run_pure];congr 1
 match vs with|[]=>simp[mW,aD,ae]|[v]=>simp[mW,aD]|u::v::l=>simp[mW,aD,ae]
def Sound(P:Program)(run:Nat->Code->St->Option (Ex×St)):Prop:=∀n c st e st',run n c st=some (e,st')->∀F a w,RF F n st.T st.h a w->∀Q:Exit->Act->World->Prop,
 (∀F' a' w',RF F' n st'.T st'.h a' w'->dM F st.h w F' st'.h w'->Q e.to a' w')->c.wp P Q a w
theorem LX{P:Program}{E:Env}(hE:iS P E){run:Nat->Code->St->Option (Ex×St)}(hrun:Sound P run):cT P (bo P E run):=by
 intro f vs h v h' e;unfold bo at e;split at e<;>try cases e
 rename_i fn hf;obtain⟨hfn,hname⟩:=hE f fn hf;split at e<;>try cases e
 rename_i c hb;refine⟨⟨fn,c,hfn,hname,hb⟩,?_⟩;split at e<;>try cases e
 rename_i T hle hT;have hle:=Nat.le_of_ble_eq_true hle;split at e<;>try cases e
 rename_i x st hst;intro F w args hne hF hw;have R:RF F fn.ntmps T h { tmps:=args++Array.replicate (fn.ntmps-args.size) undef,defers:=[] } w:=by
  refine⟨hne,?_,fun s hs=>(hF s hs).1⟩;intro s hs;rw[<-(hF s hs).2];have hL:=dY s vs;refine⟨by simp;omega,rfl,?_,?_⟩
  .intro t u hu;rcases pj hT t u hu with⟨_,h1⟩|h1
   .simp only[Nat.sub_zero]at h1;have hlt:t<vs.length:=by
     rcases Nat.lt_or_ge t vs.length with q|q
     .exact q
     .rw[List.getElem?_eq_none q]at h1;cases h1
    rw[Array.getElem?_append_left (by simp;omega)];simp[yD,h1]
   .simp[Tr.get]at h1
  .intro t u hu;rcases pj hT t u hu with⟨_,h1⟩|h1
   .exact(sY _ _).1 hw u (cK h1)
   .simp[Tr.get]at h1
 refine calls_of_wp hfn hb ?_;refine hrun _ _ _ _ _ hst F _ w R _ ?_;intro F' a' w' R' E';have fin:∀rs,fq P st fn.results.toList=some rs->mW rs=v/\st.h=h'->a'.defers=[]/\∃V,(results fn a'.tmps).run P w'=.ok V w' /\
   ∃F' V',Ending.returned V=.returned V'/\dM F h w F' h' w'/\∀s',F' s'->ab s' h' w'/\ae s' v=V':=by
  rintro rs hrs ⟨rfl,rfl⟩;obtain⟨s₁,hs₁⟩:=R'.ne;refine⟨(R'.T s₁ hs₁).defers,ae s₁ (mW rs),n0 (R'.T s₁ hs₁) (R'.H s₁ hs₁) hrs,F',_,rfl,E',?_⟩;intro s hs;refine⟨R'.H s hs,?_⟩;have h1:=n0 (R'.T s₁ hs₁) (R'.H s₁ hs₁) hrs;have h2:=n0 (R'.T s hs) (R'.H s hs) hrs;rw[h1]at h2;simp only[Result.ok.injEq,and_true]at h2;exact h2.symm
 cases x with
 |exit id=>cases e
 |normal=>
  simp only[]at e;split at e<;>try cases e
  rename_i rs hrs;exact fin rs hrs ⟨rfl,rfl⟩
 |ret=>
  simp only[]at e;split at e<;>try cases e
  rename_i rs hrs;exact fin rs hrs ⟨rfl,rfl⟩
theorem QT{P:Program}{E:Env}(hE:iS P E){dr:Dr}(hdr:Ax P dr){orc:Cl}(ho:cT P orc):∀k,Sound P (dq P E dr orc k) /\
  (∀n x st e st',dq P E dr orc k n (.loop x) st=some (e,st')->∀F a w,RF F n st.T st.h a w->∀Q:Exit->Act->World->Prop,
   (∀F' a' w',RF F' n st'.T st'.h a' w'->dM F st.h w F' st'.h w'->Q e.to a' w')->Code.rounds P x Q k a w)
 |0=>⟨fun n c st e st' h=>by simp[dq]at h,fun n c st e st' h=>by simp[dq]at h⟩|k+1=>by
  obtain⟨ih,ihl⟩:=QT hE hdr ho k;have hcl:=Lo ho (LX hE ih);have loop:(∀n x st e st',dq P E dr orc (k+1) n (.loop x) st=some (e,st')->∀F a w,RF F n st.T st.h a w->∀Q:Exit->Act->World->Prop,
   (∀F' a' w',RF F' n st'.T st'.h a' w'->dM F st.h w F' st'.h w'->Q e.to a' w')->Code.rounds P x Q (k+1) a w):=by
   intro n x st e st' h F a w R Q hQ;simp only[dq]at h;split at h<;>try cases h
   rename_i e₁ st₁ h₁;rw[rounds_succ];refine ih n x st e₁ st₁ h₁ F a w R _ ?_;intro F' a' w' R' E';cases e₁ with
   |normal=>exact ihl n x st₁ e st' h F' a' w' R' Q (fun F'' a'' w'' R'' E''=>hQ F'' a'' w'' R'' (E'.trans E''))|exit id=>simp only[aX,Prod.mk.injEq]at h;obtain⟨rfl,rfl⟩:=h;exact hQ F' a' w' R' E'
   |ret=>simp only[aX,Prod.mk.injEq]at h;obtain⟨rfl,rfl⟩:=h;exact hQ F' a' w' R' E'
  refine⟨?_,loop⟩;intro n c st e st' h F a w R Q hQ;cases c with
  |skip=>simp only[dq,aX,Prod.mk.injEq]at h;obtain⟨rfl,rfl⟩:=h;exact wp_skip (hQ F a w R (dM.refl _ _ _))
  |label l=>simp only[dq,aX,Prod.mk.injEq]at h;obtain⟨rfl,rfl⟩:=h;exact wp_label (hQ F a w R (dM.refl _ _ _))
  |region id ops draw=>
   simp only[dq]at h;cases draw with
   |false=>
    simp only[]at h;split at h<;>try cases h
    rename_i h₁;refine wp_region ?_;have:=KX hcl (Q:=Q) ops.toList 0 st st' h₁ (by intro j;simp) F a w R hQ;rw[List.range_eq_range'];simpa using this
   |true=>
    simp only[]at h;split at h<;>try cases h
    rename_i h₁;exact hdr _ hcl n id ops st st' h₁ F a w R Q hQ
  |seq x y=>
   simp only[dq]at h;split at h<;>try cases h
   rename_i e₁ st₁ h₁;refine wp_seq (ih n x st e₁ st₁ h₁ F a w R _ ?_);intro F' a' w' R' E';cases e₁ with
   |normal=>exact ih n y st₁ e st' h F' a' w' R' Q (fun F'' a'' w'' R'' E''=>hQ F'' a'' w'' R'' (E'.trans E''))|exit id=>simp only[aX,Prod.mk.injEq]at h;obtain⟨rfl,rfl⟩:=h;exact hQ F' a' w' R' E'
   |ret=>simp only[aX,Prod.mk.injEq]at h;obtain⟨rfl,rfl⟩:=h;exact hQ F' a' w' R' E'
  |cond c x y=>
   simp only[dq]at h;split at h<;>try cases h
   rename_i v hv;obtain⟨s,hs⟩:=R.ne;have he:a.eval c=ae s v:=by cases c with|tmp t=>simp[Act.eval,Array.getD_eq_getD_getElem?,(R.T s hs).get t v hv]|const u=>exact(jB hv s).symm|func f=>simp[aM]at hv;subst hv;rfl|global g=>simp[aM]at hv
   split at h<;>try cases h
   rename_i b;cases b with|true=>exact wp_cond_true he (ih n x st e st' h F a w R Q hQ)|false=>exact wp_cond_false he (ih n y st e st' h F a w R Q hQ)
  |block id x=>
   simp only[dq]at h;split at h<;>try cases h
   rename_i e₁ st₁ h₁;refine wp_block (ih n x st e₁ st₁ h₁ F a w R _ ?_);intro F' a' w' R' E';cases e₁ with
   |normal=>simp only[aX,Prod.mk.injEq]at h;obtain⟨rfl,rfl⟩:=h;exact hQ F' a' w' R' E'
   |ret=>simp only[aX,Prod.mk.injEq]at h;obtain⟨rfl,rfl⟩:=h;exact hQ F' a' w' R' E'
   |exit i=>
    simp only[]at h;split at h
    .rename_i q;have q:=aA q;simp only[aX,Prod.mk.injEq]at h;obtain⟨rfl,rfl⟩:=h;simp only[Ex.to,Exit.inBlock,if_pos q];exact hQ F' a' w' R' E'
    .rename_i q;have q:=Nat.ne_of_beq_eq_false q;simp only[aX,Prod.mk.injEq]at h;obtain⟨rfl,rfl⟩:=h;simp only[Ex.to,Exit.inBlock,if_neg q];exact hQ F' a' w' R' E'
  |loop x=>exact wp_loop_rounds (k+1) (loop n x st e st' h F a w R Q hQ)|scope x=>simp only[dq]at h;refine wp_scope_straight (ih n x st e st' h F a w R _ ?_);intro F' a' w' R' E';have:=hQ F' a' w' R' E';cases e<;>exact this
  |exit id=>simp only[dq,aX,Prod.mk.injEq]at h;obtain⟨rfl,rfl⟩:=h;exact wp_exit (hQ F a w R (dM.refl _ _ _))
  |ret=>simp only[dq,aX,Prod.mk.injEq]at h;obtain⟨rfl,rfl⟩:=h;exact wp_ret (hQ F a w R (dM.refl _ _ _))
  |_=>simp[dq]at h
inductive PE where
 |w (j:Nat)
 |p (lo hi:Nat)
def PE.num:PE->Nat
 |.w j=>j|.p lo _=>lo
def PE.top:PE->Nat
 |.w j=>j-1|.p _ hi=>hi
def RJ(o:Oper):Bool:=match o.op with
 |.assign _|.store _ _ _|.mapUpdate _ _ _ _|.insert _ _ _ _=>true|.call c=>match c.callee with|.builtin .len|.builtin .max|.builtin .min=>false|_=>true
 |_=>false
def oU:List Edge->List Nat
 |[]=>[]|e::l=>match Region.binds .any e with|true=>e.on::oU l|false=>oU l
def cS(o:Oper):List Nat:=oU o.after.toList
theorem yL:∀{l:List Edge}{x:Nat},x∈oU l↔∃e∈l,Region.binds .any e=true/\e.on=x
 |[],x=>by simp[oU]|e::l,x=>by
  simp only[oU];cases h:Region.binds .any e
  .simp only[];rw[yL];constructor
   .rintro⟨e',he',q⟩;exact⟨e',by simp[he'],q⟩
   .rintro⟨e',he',hb,q⟩;rcases List.mem_cons.1 he' with rfl|he'
    .rw[h]at hb;cases hb
    .exact⟨e',he',hb,q⟩
  .simp only[List.mem_cons];rw[yL];constructor
   .rintro(rfl|⟨e',he',q⟩)
    .exact⟨e,by simp,h,rfl⟩
    .exact⟨e',.inr he',q⟩
   .rintro⟨e',he',hb,q⟩;rcases he' with rfl|he'
    .exact .inl q.symm
    .exact .inr ⟨e',he',hb,q⟩
def Bp(nums:List Nat):List Nat->Nat->Nat
 |[],m=>m|e::l,m=>match nth nums e with
  |some x=>Bp nums l (match Nat.ble m x with|true=>x|false=>m)
  |none=>Bp nums l m
def lY:List Oper->Nat->List Nat->List (Bool×Nat)->List (Bool×Nat)
 |[],_,_,acc=>acc|o::l,c,nums,acc=>match RJ o with|true=>lY l (c+1) (nums++[c+1]) ((true,c+1)::acc)|false=>let m:=Bp nums (cS o) 0;lY l c (nums++[m]) ((false,m)::acc)
def fD:Nat->List Nat->Bool
 |_,[]=>false|x,y::l=>match Nat.beq x y with|true=>true|false=>fD x l
theorem lq:∀{x:Nat}{l:List Nat},fD x l=true↔x∈l
 |x,[]=>by simp[fD]|x,y::l=>by
  simp only[fD];cases h:Nat.beq x y
  .have:=Nat.ne_of_beq_eq_false h;simp[this,lq]
  .have:=aA h;simp[this]
def Au(i:Nat):List (List Nat×PE)->Nat->Nat
 |[],m=>m|(es,pe)::l,m=>match fD i es with
  |true=>Au i l (match Nat.ble m pe.top with|true=>m|false=>pe.top)
  |false=>Au i l m
def Jz(k:Nat):List (Oper×Bool×Nat)->Nat->List (List Nat×PE)->List (List Nat×PE)
 |[],_,acc=>acc|(o,b,x)::l,i,acc=>let es:=cS o;Jz k l (i-1) ((es,match b with|true=>PE.w x|false=>PE.p x (Au i acc k))::acc)
def BG:List Oper->Nat
 |[]=>0|o::l=>match RJ o with|true=>BG l+1|false=>BG l
def ik(ops:List Oper):List PE:=(Jz (BG ops) (ops.reverse.zip (lY ops 0 [] [])) (ops.length-1) []).map (·.2)
def kR(pl:List PE)(p:PE->Bool):List Nat->Bool
 |[]=>false|e::l=>match nth pl e with
  |some pe=>match p pe with|true=>true|false=>kR pl p l
  |none=>kR pl p l
theorem yF{pl:List PE}{p:PE->Bool}:∀{l:List Nat},kR pl p l=true->∃e pe,e∈l/\pl[e]?=some pe/\p pe=true
 |[],h=>by simp[kR]at h|e::l,h=>by
  simp only[kR]at h;split at h
  .rename_i pe he;rw[bI]at he;split at h
   .rename_i q;exact⟨e,pe,by simp,he,q⟩
   .obtain⟨e',pe',h1,h2⟩:=yF h;exact⟨e',pe',by simp[h1],h2⟩
  .obtain⟨e',pe',h1,h2⟩:=yF h;exact⟨e',pe',by simp[h1],h2⟩
def sZ(i:Nat):List Nat->Bool
 |[]=>true|e::l=>match Nat.blt e i with|true=>sZ i l|false=>false
def ny(i hi:Nat):List Oper->List PE->Bool
 |o::l,pe::ps=>match fD i (cS o),(match pe with|.w j=>Nat.ble j (hi+1)|.p _ h=>Nat.ble h hi)with|true,true=>true|_,_=>ny i hi l ps
 |_,_=>false
def tmpsOf:List Operand->List Nat
 |[]=>[]|x::l=>match x with|.tmp t=>t::tmpsOf l|_=>tmpsOf l
def looks(ops:List Oper)(o:Oper):List Nat:=match o.guard with
 |none=>tmpsOf o.op.operands.toList|some (j,_)=>match nth ops j with
  |some oj=>match oj.dst with|some t=>t::tmpsOf o.op.operands.toList|none=>tmpsOf o.op.operands.toList
  |none=>tmpsOf o.op.operands.toList
def lz(ls es:List Nat):List Oper->List PE->Nat->Bool
 |y::l,pe::ps,i=>match pe with|.w _=>lz ls es l ps (i+1)|.p _ _=>match y.dst with|none=>lz ls es l ps (i+1)|some t=>match fD t ls with|false=>lz ls es l ps (i+1)|true=>match fD i es with|true=>lz ls es l ps (i+1)|false=>false
 |_,_,_=>true
def uf(ops:List Oper)(pl:List PE)(k i:Nat)(o:Oper)(pe:PE):Bool:=
 match sZ i (cS o),lz (looks ops o) (cS o) ops pl 0 with
 |true,true=>match pe with
  |.p lo hi=>match(match lo with|0=>true|lo+1=>kR pl (fun x=>Nat.ble (lo+1) x.num) (cS o))with
   |true=>match Nat.ble k hi with|true=>true|false=>ny i hi ops pl
   |false=>false
  |.w j=>match Nat.ble 1 j,Nat.ble j k,(match j with|0=>false|1=>true|j+2=>kR pl (fun x=>Nat.ble (j+1) x.num) (cS o))with|true,true,true=>true|_,_,_=>false
 |_,_=>false
def iy(ops:List Oper)(pl:List PE)(k:Nat):List Oper->List PE->Nat->Bool
 |[],[],_=>true|o::l,pe::ps,i=>match uf ops pl k i o pe with|true=>iy ops pl k l ps (i+1)|false=>false
 |_,_,_=>false
def ti:List PE->Nat->Option Nat
 |[],c=>some c|pe::l,c=>match pe with|.p _ _=>ti l c|.w j=>match Nat.beq j (c+1)with|true=>ti l (c+1)|false=>none
def oe(ops:List Oper)(pl:List PE):Option Nat:=match ti pl 0 with
 |some k=>match iy ops pl k ops pl 0 with|true=>some k|false=>none
 |none=>none
abbrev dX:=List (Nat×Nat×aC)
def z6(P:Program)(n:Nat)(ops:Array Oper)(o:Oper)(i:Nat)(st:St)(pd:dX):Option (St×dX):=match nV ops st.T o with
 |some false=>match cI n st.h.next st.T o.dst (.bk [])with|some T=>some (⟨T,st.h⟩,pd)|none=>none
 |some true=>match fJ P st.T st.h.next o.op with
  |some (ob,v)=>match cI n (st.h.next+1) st.T o.dst v with|some T=>some (⟨T,⟨st.h.tr,st.h.next+1⟩⟩,(i,st.h.next,ob)::pd)|none=>none
  |none=>match gb P st.T st.h o with
   |some v=>match cI n st.h.next st.T o.dst v with|some T=>some (⟨T,st.h⟩,pd)|none=>none
   |none=>none
 |none=>none
def jE(P:Program)(n:Nat)(ops:Array Oper)(q:Nat):List Oper->List PE->Nat->St->dX->Option (St×dX)
 |o::l,pe::ps,i,st,pd=>match pe with|.w _=>jE P n ops q l ps (i+1) st pd|.p lo _=>match Nat.beq lo q with|false=>jE P n ops q l ps (i+1) st pd|true=>match z6 P n ops o i st pd with|some (st,pd)=>jE P n ops q l ps (i+1) st pd|none=>none
 |_,_,_,st,pd=>some (st,pd)
def jP(i:Nat):dX->Option (Nat×aC)
 |[]=>none|(j,id,ob)::l=>match Nat.beq i j with|true=>some (id,ob)|false=>jP i l
def Aj:aC->aC->Bool
 |.cells l ty op,.cells l' ty' op'=>match AV.gA l l',Nat.beq ty ty',op,op' with|true,true,none,none=>true|_,_,_,_=>false
 |.map [] c,.map [] c'=>Nat.beq c c'|_,_=>false
theorem Tj{a b:aC}(h:Aj a b=true):a=b:=by
 unfold Aj at h;split at h
 .split at h<;>try cases h
  rename_i h1 h2;rw[AV.lE h1,aA h2]
 .rw[aA h]
 .cases h
def qu(T:Tr AV)(d:Option Tmp)(v:AV):Bool:=match d with|none=>true|some t=>match T.get t with|some u=>AV.eqv u v|none=>false
def qY(P:Program)(ops:Array Oper)(st:St)(pd:dX)(o:Oper)(i:Nat):Bool:=match nV ops st.T o with
 |some false=>match jP i pd with|none=>qu st.T o.dst (.bk [])|some _=>false
 |some true=>match jP i pd with
  |some (id,ob)=>match fJ P st.T id o.op with
   |some (ob',v)=>match Aj ob ob' with|true=>qu st.T o.dst v|false=>false
   |none=>false
  |none=>match gb P st.T st.h o with|some v=>qu st.T o.dst v|none=>false
 |none=>false
def lH(P:Program)(ops:Array Oper)(q:Nat)(st:St)(pd:dX):List Oper->List PE->Nat->Bool
 |o::l,pe::ps,i=>match pe with
  |.w _=>lH P ops q st pd l ps (i+1)|.p lo hi=>match Nat.ble lo q,Nat.ble q hi with
   |true,true=>match qY P ops st pd o i with|true=>lH P ops q st pd l ps (i+1)|false=>false
   |_,_=>lH P ops q st pd l ps (i+1)
 |_,_,_=>true
def n9(pl:List PE)(q:Nat):dX->Hp->Option (dX×Hp)
 |[],h=>some ([],h)|(i,id,ob)::l,h=>match n9 pl q l h with
  |some (pd,h)=>match nth pl i with
   |some (.p _ hi)=>match Nat.ble hi q with
    |true=>match Tr.set FT h.tr id (some ob)with|some tr=>some (pd,⟨tr,h.next⟩)|none=>none
    |false=>some ((i,id,ob)::pd,h)
   |_=>none
  |none=>none
def jn(j:Nat):List Oper->List PE->Option Oper
 |o::l,pe::ps=>match pe with
  |.w x=>match Nat.beq x j with|true=>some o|false=>jn j l ps
  |.p _ _=>jn j l ps
 |_,_=>none
def mV(P:Program)(call:Cl)(n:Nat)(ops:Array Oper)(pl:List PE):Nat->Nat->St->dX->Option St
 |0,q,st,pd=>match n9 pl q pd st.h with|some ([],h)=>some ⟨st.T,h⟩|_=>none
 |r+1,q,st,pd=>match n9 pl q pd st.h,jn (q+1) ops.toList pl with
  |some (pd,h),some o=>match pH P call n ops o ⟨st.T,h⟩with
   |some st=>match jE P n ops (q+1) ops.toList pl 0 st pd with
    |some (st,pd)=>match lH P ops (q+1) st pd ops.toList pl 0 with|true=>mV P call n ops pl r (q+1) st pd|false=>none
    |none=>none
   |none=>none
  |_,_=>none
def mY(P:Program):Dr:=fun call n ops st=>match oe ops.toList (ik ops.toList)with
 |some k=>match jE P n ops 0 ops.toList (ik ops.toList) 0 st []with
  |some (st,pd)=>match lH P ops 0 st pd ops.toList (ik ops.toList) 0 with|true=>mV P call n ops (ik ops.toList) k 0 st pd|false=>none
  |none=>none
 |none=>none
structure fY(ops:Array Oper)(pl:List PE)(k:Nat):Prop where
 len:pl.length=ops.size
 below:∀(i:Nat) (o:Oper),ops[i]?=some o->∀e∈cS o,e<i
 fresh:∀(i:Nat) (o:Oper),ops[i]?=some o->∀t,t∈looks ops.toList o->∀(y:Nat) (oy:Oper) (lo hi:Nat),ops[y]?=some oy->pl[y]?=some (.p lo hi)->oy.dst=some t->y∈cS o
 lo:∀(i:Nat) (o:Oper) (lo hi:Nat),ops[i]?=some o->pl[i]?=some (.p lo hi)->lo=0\/∃(e:Nat) (pe:PE),e∈cS o/\pl[e]?=some pe/\lo<=pe.num
 hi:∀(i lo hi:Nat),pl[i]?=some (.p lo hi)->k<=hi\/∃(z:Nat) (o:Oper) (pe:PE),ops[z]?=some o/\pl[z]?=some pe/\i∈cS o/\((∃j,pe=.w j/\j<=hi+1)\/(∃l h,pe=.p l h/\h<=hi))
 w:∀(i:Nat) (o:Oper) (j:Nat),ops[i]?=some o->pl[i]?=some (.w j)->1<=j/\j<=k/\(j=1\/∃(e:Nat) (pe:PE),e∈cS o/\pl[e]?=some pe/\j<=pe.num+1)
 uniq:∀(i i' j:Nat),pl[i]?=some (.w j)->pl[i']?=some (.w j)->i=i'
theorem QD{i:Nat}:∀{l:List Nat},sZ i l=true->∀e∈l,e<i
 |[],_,e,he=>by cases he
 |x::l,h,e,he=>by
  simp only[sZ]at h;split at h<;>try cases h
  rename_i q;rw[Nat.blt_eq]at q;rcases List.mem_cons.1 he with rfl|he
  .exact q
  .exact QD h e he
theorem JU{i hi:Nat}:∀{os:List Oper}{ps:List PE},ny i hi os ps=true->∃(z:Nat) (o:Oper) (pe:PE),os[z]?=some o/\ps[z]?=some pe/\i∈cS o/\((∃j,pe=.w j/\j<=hi+1)\/(∃l h,pe=.p l h/\h<=hi))
 |[],_,h=>by simp[ny]at h|_::_,[],h=>by simp[ny]at h|o::os,pe::ps,h=>by
  simp only[ny]at h;split at h
  .rename_i h1 h2;refine⟨0,o,pe,rfl,rfl,lq.1 h1,?_⟩;cases pe with|w j=>exact .inl ⟨j,rfl,Nat.le_of_ble_eq_true h2⟩|p l hh=>exact .inr ⟨l,hh,rfl,Nat.le_of_ble_eq_true h2⟩
  .obtain⟨z,o',pe',h1,h2,h3⟩:=JU h;exact⟨z+1,o',pe',by simpa using h1,by simpa using h2,h3⟩
theorem QC{ls es:List Nat}:∀{os:List Oper}{ps:List PE}{i:Nat},lz ls es os ps i=true->∀(y:Nat) (oy:Oper) (lo hi:Nat) (t:Tmp),os[y]?=some oy->ps[y]?=some (.p lo hi)->oy.dst=some t->t∈ls->i+y∈es
 |[],_,_,_,y,oy,lo,hi,t,h1,_,_,_=>by simp at h1|_::_,[],_,_,y,oy,lo,hi,t,_,h2,_,_=>by simp at h2|o::os,pe::ps,i,h,y,oy,lo,hi,t,h1,h2,h3,h4=>by
  simp only[lz]at h;have rec_:lz ls es os ps (i+1)=true->y≠0->i+y∈es:=by intro hh hy;obtain⟨y',rfl⟩:∃y',y=y'+1:=⟨y-1,by omega⟩;have:=QC hh y' oy lo hi t (by simpa using h1) (by simpa using h2) h3 h4;rw[show i+(y'+1)=i+1+y' by omega];exact this
  by_cases hy:y=0
  .subst hy;simp at h1 h2;subst h1;subst h2;simp only[h3]at h;rw[lq.2 h4]at h;simp only[]at h;split at h<;>try cases h
   rename_i q;simpa using lq.1 q
  .refine rec_ ?_ hy;cases pe with
   |w j=>exact h|p l hh=>
    simp only[]at h;split at h
    .exact h
    .split at h
     .exact h
     .split at h
      .exact h
      .cases h
theorem Q5{ops:List Oper}{pl:List PE}{k:Nat}:∀{os:List Oper}{ps:List PE}{i:Nat},iy ops pl k os ps i=true->os.length=ps.length/\∀(j:Nat) (o:Oper) (pe:PE),os[j]?=some o->ps[j]?=some pe->uf ops pl k (i+j) o pe=true
 |[],[],_,_=>⟨rfl,fun j o pe h=>by simp at h⟩|[],_::_,_,h=>by simp[iy]at h|_::_,[],_,h=>by simp[iy]at h|o::os,pe::ps,i,h=>by
  simp only[iy]at h;split at h<;>try cases h
  rename_i q;obtain⟨h1,h2⟩:=Q5 h;refine⟨by simp[h1],?_⟩;intro j o' pe' ho hp;cases j with|zero=>simp at ho hp;subst ho;subst hp;simpa using q|succ j=>have:=h2 j o' pe' (by simpa using ho) (by simpa using hp);rw[show i+(j+1)=i+1+j by omega];exact this
theorem GX:∀{pl:List PE}{c k:Nat},ti pl c=some k->(∀(i j:Nat),pl[i]?=some (PE.w j)->c<j)/\(∀(i i' j:Nat),pl[i]?=some (.w j)->pl[i']?=some (.w j)->i=i')
 |[],c,k,h=>⟨fun i j h=>by simp at h,fun i i' j h=>by simp at h⟩|pe::l,c,k,h=>by
  simp only[ti]at h;cases pe with
  |p lo hi=>
   obtain⟨h1,h2⟩:=GX h;constructor
   .intro i j hi;cases i with|zero=>simp at hi|succ i=>exact h1 i j (by simpa using hi)
   .intro i i' j hi hi';cases i with|zero=>simp at hi|succ i=>cases i' with|zero=>simp at hi'|succ i'=>rw[h2 i i' j (by simpa using hi) (by simpa using hi')]
  |w x=>
   simp only[]at h;split at h<;>try cases h
   rename_i q;have q:=aA q;subst q;obtain⟨h1,h2⟩:=GX h;constructor
   .intro i j hi;cases i with|zero=>simp at hi;omega|succ i=>have:=h1 i j (by simpa using hi);omega
   .intro i i' j hi hi';cases i with
    |zero=>simp at hi;subst hi;cases i' with|zero=>rfl|succ i'=>have:=h1 i' _ (by simpa using hi');omega
    |succ i=>cases i' with|zero=>simp at hi';subst hi';have:=h1 i _ (by simpa using hi);omega|succ i'=>rw[h2 i i' j (by simpa using hi) (by simpa using hi')]
theorem sy{ops:Array Oper}{pl:List PE}{k:Nat}(h:oe ops.toList pl=some k):fY ops pl k:=by
 unfold oe at h;split at h<;>try cases h
 rename_i hW;split at h<;>try cases h
 rename_i hA;obtain⟨hl,hone⟩:=Q5 hA;have hone:∀(i:Nat) (o:Oper) (pe:PE),ops[i]?=some o->pl[i]?=some pe->uf ops.toList pl k i o pe=true:=by intro i o pe ho hp;have:=hone i o pe (by simpa using ho) hp;simpa using this
 have hthere:∀(i:Nat) (o:Oper),ops[i]?=some o->∃pe,pl[i]?=some pe:=by
  intro i o ho;have:i<pl.length:=by
   rw[<-hl];rcases Nat.lt_or_ge i ops.size with q|q
   .simpa using q
   .rw[Array.getElem?_eq_none q]at ho;cases ho
  exact⟨pl[i],by simp[this]⟩
 have hthere':∀(i:Nat) (pe:PE),pl[i]?=some pe->∃o,ops[i]?=some o:=by
  intro i pe hp;have:i<ops.size:=by
   rcases Nat.lt_or_ge i pl.length with q|q
   .have:ops.size=pl.length:=by simpa using hl
    omega
   .rw[List.getElem?_eq_none q]at hp;cases hp
  exact⟨ops[i],by simp[this]⟩
 have split1:∀(i:Nat) (o:Oper) (pe:PE),ops[i]?=some o->pl[i]?=some pe->sZ i (cS o)=true/\lz (looks ops.toList o) (cS o) ops.toList pl 0=true/\(match pe with
  |.p lo hi=>match(match lo with|0=>true|lo+1=>kR pl (fun x=>Nat.ble (lo+1) x.num) (cS o))with
   |true=>match Nat.ble k hi with|true=>true|false=>ny i hi ops.toList pl
   |false=>false
  |.w j=>match Nat.ble 1 j,Nat.ble j k,(match j with|0=>false|1=>true|j+2=>kR pl (fun x=>Nat.ble (j+1) x.num) (cS o))with|true,true,true=>true|_,_,_=>false)=true:=by
  intro i o pe ho hp;have:=hone i o pe ho hp;unfold uf at this;split at this
  .rename_i h1 h2;exact⟨h1,h2,this⟩
  .cases this
 refine⟨by simpa using hl.symm,?_,?_,?_,?_,?_,(GX hW).2⟩
 .intro i o ho;obtain⟨pe,hp⟩:=hthere i o ho;exact QD (split1 i o pe ho hp).1
 .intro i o ho t ht y oy lo hi hy hpy hd;obtain⟨pe,hp⟩:=hthere i o ho;have:=QC (split1 i o pe ho hp).2.1 y oy lo hi t (by simpa using hy) hpy hd ht;simpa using this
 .intro i o lo hi ho hp;have:=(split1 i o _ ho hp).2.2;simp only[]at this;split at this
  .rename_i q;cases lo with|zero=>exact .inl rfl|succ lo=>simp only[]at q;obtain⟨e,pe,h1,h2,h3⟩:=yF q;exact .inr ⟨e,pe,h1,h2,Nat.le_of_ble_eq_true h3⟩
  .cases this
 .intro i lo hi hp;obtain⟨o,ho⟩:=hthere' i _ hp;have:=(split1 i o _ ho hp).2.2;simp only[]at this;split at this
  .split at this
   .rename_i q;exact .inl (Nat.le_of_ble_eq_true q)
   .obtain⟨z,o',pe',h1,h2,h3⟩:=JU this;exact .inr ⟨z,o',pe',by simpa using h1,h2,h3⟩
  .cases this
 .intro i o j ho hp;have:=(split1 i o _ ho hp).2.2;simp only[]at this;split at this
  .rename_i q1 q2 q3;refine⟨Nat.le_of_ble_eq_true q1,Nat.le_of_ble_eq_true q2,?_⟩;cases j with
   |zero=>cases q3
   |succ j=>cases j with|zero=>exact .inl rfl|succ j=>simp only[]at q3;obtain⟨e,pe,h1,h2,h3⟩:=yF q3;exact .inr ⟨e,pe,h1,h2,by have:=Nat.le_of_ble_eq_true h3;omega⟩
  .cases this
theorem me{j:Nat}:∀{os:List Oper}{ps:List PE}{o:Oper},jn j os ps=some o->∃i:Nat,os[i]?=some o/\ps[i]?=some (.w j)
 |[],_,o,h=>by simp[jn]at h|_::_,[],o,h=>by simp[jn]at h|x::os,pe::ps,o,h=>by
  simp only[jn]at h;split at h
  .split at h
   .rename_i y q;have q:=aA q;subst q;simp at h;subst h;exact⟨0,rfl,rfl⟩
   .obtain⟨i,h1,h2⟩:=me h;exact⟨i+1,by simpa using h1,by simpa using h2⟩
  .obtain⟨i,h1,h2⟩:=me h;exact⟨i+1,by simpa using h1,by simpa using h2⟩
theorem QU{P:Program}{ops:Array Oper}{q:Nat}{st:St}{pd:dX}:∀{os:List Oper}{ps:List PE}{i:Nat},lH P ops q st pd os ps i=true ->
  ∀(x:Nat) (o:Oper) (lo hi:Nat),os[x]?=some o->ps[x]?=some (.p lo hi)->lo<=q->q<=hi->qY P ops st pd o (i+x)=true
 |[],_,_,_,x,o,lo,hi,h1,_,_,_=>by simp at h1|_::_,[],_,_,x,o,lo,hi,_,h2,_,_=>by simp at h2|y::os,pe::ps,i,h,x,o,lo,hi,h1,h2,h3,h4=>by
  simp only[lH]at h;have rec_:lH P ops q st pd os ps (i+1)=true->x≠0->qY P ops st pd o (i+x)=true:=by intro hh hx;obtain⟨x',rfl⟩:∃x',x=x'+1:=⟨x-1,by omega⟩;have:=QU hh x' o lo hi (by simpa using h1) (by simpa using h2) h3 h4;rw[show i+(x'+1)=i+1+x' by omega];exact this
  by_cases hx:x=0
  .subst hx;simp at h1 h2;subst h1;subst h2;simp only[Nat.ble_eq_true_of_le h3,Nat.ble_eq_true_of_le h4]at h;split at h<;>try cases h
   rename_i r;simpa using r
  .refine rec_ ?_ hx;cases pe with
   |w j=>exact h|p l hh=>
    simp only[]at h;split at h
    .split at h
     .exact h
     .cases h
    .exact h
theorem iJ{n nx:Nat}{T T':Tr AV}{d:Option Tmp}{v:AV}(h:cI n nx T d v=some T'):∀t,T'.get t=if d=some t then some v else T.get t:=by
 intro t;unfold cI at h;split at h
 .simp at h;subst h;simp
 .rename_i x;split at h<;>try cases h
  have:=Tr.bz _ _ _ _ _ h t;rw[this];by_cases q:t=x
  .subst q;simp
  .rw[if_neg q,if_neg (fun r=>q (by simpa using r.symm))]
theorem Lk{n nx:Nat}{T T':Tr AV}{d:Option Tmp}{v:AV}(h:cI n nx T d v=some T'){t:Tmp}(hd:d=some t):t<n/\ws nx v=true:=by
 subst hd;simp only[cI]at h;split at h<;>try cases h
 rename_i q1 q2;rw[Nat.blt_eq]at q1;exact⟨q1,q2⟩
theorem yH{n nx nx':Nat}{T T':Tr AV}{d:Option Tmp}{v:AV}(h:cI n nx' T d v=some T')(hn:nx<=nx')(hT:∀t v,T.get t=some v->t<n/\ws nx v=true) :
  ∀t u,T'.get t=some u->t<n/\ws nx' u=true:=by
 intro t u hu;rw[iJ h t]at hu;by_cases q:d=some t
 .rw[if_pos q]at hu;simp at hu;subst hu;exact Lk h q
 .rw[if_neg q]at hu;exact⟨(hT t u hu).1,lx hn u (hT t u hu).2⟩
structure I4(n q:Nat)(os:List Oper)(ps:List PE)(i:Nat)(st st':St)(new:dX):Prop where
 tr:st'.h.tr=st.h.tr
 next:st.h.next<=st'.h.next
 all:∀t v,st'.T.get t=some v->t<n/\ws st'.h.next v=true
 same:∀t,(∀(x:Nat) (o:Oper) (h:Nat),os[x]?=some o->ps[x]?=some (.p q h)->o.dst≠some t)->st'.T.get t=st.T.get t
 ids:∀p∈new,st.h.next<=p.2.1/\p.2.1<st'.h.next/\gp st'.h.next p.2.2=true/\∃(x h:Nat),p.1=i+x/\ps[x]?=some (.p q h)
 zh:∀p∈new,∀p'∈new,p.1=p'.1\/p.2.1=p'.2.1->p=p'
theorem WW{P:Program}{n:Nat}{ops:Array Oper}{o:Oper}{i:Nat}{st st':St}{pd pd':dX}(e:z6 P n ops o i st pd=some (st',pd'))(hT:∀t v,st.T.get t=some v->t<n/\ws st.h.next v=true) :
  st'.h.tr=st.h.tr/\st.h.next<=st'.h.next/\(∀t v,st'.T.get t=some v->t<n/\ws st'.h.next v=true)/\(∀t,o.dst≠some t->st'.T.get t=st.T.get t) /\
  (pd'=pd\/∃ob,pd'=(i,st.h.next,ob)::pd/\st.h.next<st'.h.next/\gp st'.h.next ob=true):=by
 unfold z6 at e;have same:∀{nx v T'},cI n nx st.T o.dst v=some T'->∀t,o.dst≠some t->T'.get t=st.T.get t:=by intro nx v T' h t ht;rw[iJ h t,if_neg ht]
 split at e
 .split at e<;>try cases e
  rename_i T' h;exact⟨rfl,Nat.le_refl _,yH h (Nat.le_refl _) hT,same h,.inl rfl⟩
 .split at e
  .rename_i ob v ha;split at e<;>try cases e
   rename_i T' h;refine⟨rfl,by simp,yH h (by simp) hT,same h,.inr ⟨ob,rfl,by simp,?_⟩⟩;exact(I9 (m:=st.h.next+1) ha (by omega) (fun x hx u hu=>lx (by omega) _ (kh (fun t v ht=>(hT t v ht).2) hu))).1
  .split at e<;>try cases e
   split at e<;>try cases e
   rename_i T' h;exact⟨rfl,Nat.le_refl _,yH h (Nat.le_refl _) hT,same h,.inl rfl⟩
 .cases e
theorem V2{P:Program}{n:Nat}{ops:Array Oper}{q:Nat}:∀{os:List Oper}{ps:List PE}{i:Nat}{st:St}{pd:dX}{st':St}{pd':dX},jE P n ops q os ps i st pd=some (st',pd') ->
  (∀t v,st.T.get t=some v->t<n/\ws st.h.next v=true)->∃new,pd'=new++pd/\I4 n q os ps i st st' new:=by
 intro os
 induction os with
 |nil=>intro ps i st pd st' pd' e hT;simp[jE]at e;obtain⟨rfl,rfl⟩:=e;exact⟨[],rfl,rfl,Nat.le_refl _,hT,fun _ _=>rfl,(fun p hp=>by cases hp),(fun p hp=>by cases hp)⟩
 |cons o os ih=>
  intro ps i st pd st' pd' e hT;cases ps with
  |nil=>simp[jE]at e;obtain⟨rfl,rfl⟩:=e;exact⟨[],rfl,rfl,Nat.le_refl _,hT,fun _ _=>rfl,(fun p hp=>by cases hp),(fun p hp=>by cases hp)⟩
  |cons pe ps=>
   simp only[jE]at e;have skip:jE P n ops q os ps (i+1) st pd=some (st',pd')->(∀h,pe≠.p q h)->∃new,pd'=new++pd/\I4 n q (o::os) (pe::ps) i st st' new:=by
    intro e hne;obtain⟨new,h1,h2⟩:=ih e hT;refine⟨new,h1,h2.tr,h2.next,h2.all,?_,?_,h2.zh⟩
    .intro t ht;exact h2.same t (fun x o' h ho hp=>ht (x+1) o' h (by simpa using ho) (by simpa using hp))
    .intro p hp;obtain⟨a,b,c,x,h,hx,hpx⟩:=h2.ids p hp;exact⟨a,b,c,x+1,h,by omega,by simpa using hpx⟩
   cases pe with
   |w j=>exact skip e (fun h r=>by cases r)
   |p lo hi=>
    simp only[]at e;cases hb:Nat.beq lo q with
    |false=>simp only[hb]at e;exact skip e (fun h r=>by cases r;exact Nat.ne_of_beq_eq_false hb rfl)
    |true=>
     have hlq:=aA hb;subst hlq;simp only[hb]at e;split at e<;>try cases e
     rename_i st₁ pd₁ h₁;obtain⟨t1,t2,t3,t4,t5⟩:=WW h₁ hT;obtain⟨new,n1,n2⟩:=ih e t3;have same:∀t,(∀(x:Nat) (o':Oper) (h:Nat),(o::os)[x]?=some o'->(PE.p lo hi::ps)[x]?=some (.p lo h)->o'.dst≠some t)->st'.T.get t=st.T.get t:=by intro t ht;rw[n2.same t (fun x o' h ho hp=>ht (x+1) o' h (by simpa using ho) (by simpa using hp))];exact t4 t (ht 0 o hi rfl rfl)
     rcases t5 with rfl|⟨ob,rfl,u1,u2⟩
     .refine⟨new,n1,n2.tr.trans t1,Nat.le_trans t2 n2.next,n2.all,same,?_,n2.zh⟩;intro p hp;obtain⟨a,b,c,x,h,hx,hpx⟩:=n2.ids p hp;exact⟨by omega,b,c,x+1,h,by omega,by simpa using hpx⟩
     .refine⟨new++[(i,st.h.next,ob)],by simp[n1],n2.tr.trans t1,Nat.le_trans t2 n2.next,n2.all,same,?_,?_⟩
      .intro p hp;rcases List.mem_append.1 hp with hp|hp
       .obtain⟨a,b,c,x,h,hx,hpx⟩:=n2.ids p hp;exact⟨by omega,b,c,x+1,h,by omega,by simpa using hpx⟩
       .simp at hp;subst hp;exact⟨Nat.le_refl _,Nat.lt_of_lt_of_le u1 n2.next,mi n2.next u2,0,hi,rfl,rfl⟩
      .intro p hp p' hp' hpp;rcases List.mem_append.1 hp with hp|hp<;>rcases List.mem_append.1 hp' with hp'|hp'
       .exact n2.zh p hp p' hp' hpp
       .simp at hp';subst hp';obtain⟨a,b,c,x,h,hx,hpx⟩:=n2.ids p hp;rcases hpp with r|r<;>simp only[]at r<;>omega
       .simp at hp;subst hp;obtain⟨a,b,c,x,h,hx,hpx⟩:=n2.ids p' hp';rcases hpp with r|r<;>simp only[]at r<;>omega
       .simp at hp hp';subst hp;subst hp';rfl
theorem QB{pl:List PE}{q:Nat}:∀{pd:dX}{h:Hp}{pd':dX}{h':Hp},n9 pl q pd h=some (pd',h') ->
  h'.next=h.next/\(∀j o,h'.tr.get j=some o->h.tr.get j=some o\/∃p∈pd,(∃lo hi,pl[p.1]?=some (.p lo hi)/\hi<=q)/\j=p.2.1/\o=p.2.2) /\
  (∀p∈pd',p∈pd/\∃lo hi,pl[p.1]?=some (.p lo hi)/\q<hi)
 |[],h,pd',h',e=>by simp[n9]at e;obtain⟨rfl,rfl⟩:=e;exact⟨rfl,fun j o hj=>.inl hj,fun p hp=>by cases hp⟩
 |(i,id,ob)::l,h,pd',h',e=>by
  simp only[n9]at e;split at e<;>try cases e
  rename_i pd₁ h₁ he;obtain⟨a1,a2,a3⟩:=QB he;split at e<;>try cases e
  rename_i lo hi hp;rw[bI]at hp;split at e
  .rename_i hq;have hq:=Nat.le_of_ble_eq_true hq;split at e<;>try cases e
   rename_i tr ht;have hg:=Tr.bz _ _ _ _ _ ht;refine⟨a1,?_,fun p hp'=>⟨by simp[(a3 p hp').1],(a3 p hp').2⟩⟩;intro j o hj;rw[hg j]at hj;by_cases r:j=id
   .rw[if_pos r]at hj;simp at hj;subst hj;exact .inr ⟨(i,id,ob),by simp,⟨lo,hi,hp,hq⟩,r,rfl⟩
   .rw[if_neg r]at hj;rcases a2 j o hj with x|⟨p,hp',x⟩
    .exact .inl x
    .exact .inr ⟨p,by simp[hp'],x⟩
  .rename_i hq;have hq:q<hi:=by
    rcases Nat.lt_or_ge q hi with r|r
    .exact r
    .rw[Nat.ble_eq_true_of_le r]at hq;cases hq
   simp only[aX,Prod.mk.injEq]at e;obtain⟨rfl,rfl⟩:=e;refine⟨a1,?_,?_⟩
   .intro j o hj;rcases a2 j o hj with x|⟨p,hp',x⟩
    .exact .inl x
    .exact .inr ⟨p,by simp[hp'],x⟩
   .intro p hp';rcases List.mem_cons.1 hp' with rfl|hp'
    .exact⟨by simp,lo,hi,hp,hq⟩
    .exact⟨by simp[(a3 p hp').1],(a3 p hp').2⟩
theorem Ke{i:Nat}:∀{pd:dX}{r:Nat×aC},jP i pd=some r->(i,r.1,r.2)∈pd
 |[],r,h=>by simp[jP]at h|(j,id,ob)::l,r,h=>by
  simp only[jP]at h;split at h
  .rename_i q;have q:=aA q;subst q;simp at h;subst h;simp
  .exact List.mem_cons_of_mem _ (Ke h)
theorem Re{i:Nat}:∀{pd:dX},jP i pd=none->∀p∈pd,p.1≠i
 |[],_,p,hp=>by cases hp
 |(j,id,ob)::l,h,p,hp=>by
  simp only[jP]at h;split at h<;>try cases h
  rename_i q;have q:=Nat.ne_of_beq_eq_false q;rcases List.mem_cons.1 hp with rfl|hp
  .exact fun r=>q r.symm
  .exact Re h p hp
theorem ab.congr{s s':Sg}{h:Hp}{w:World}(H:ab s h w)(hs:∀i,i<h.next->s' i=s i):ab s' h w where
 obj i o hi:=by rw[hs i (H.lt i o hi)];exact(H.obj i o hi).congr hs (H.lt i o hi) (H.eX i o hi)
 inj i j o o' hi hj e:=by rw[hs i (H.lt i o hi),hs j (H.lt j o' hj)]at e;exact H.inj i j o o' hi hj e
 lt:=H.lt
 eX:=H.eX
theorem ab.push{s:Sg}{h:Hp}{w:World}(H:ab s h w)(ob:Obj):ab s h { w with heap:=w.heap.push ob } where
 obj i o hi:=by have:=H.bound hi;show bG s i o (w.heap.push ob)[(s i).1]?;rw[Array.getElem?_push,if_neg (by omega)];exact H.obj i o hi
 inj:=H.inj
 lt:=H.lt
 eX:=H.eX
theorem Ext.congr{s₀ s s':Sg}{h₀ h:Hp}{w₀ w:World}(E:Ext s₀ h₀ w₀ s h w)(hl:∀i o,h.tr.get i=some o->i<h.next)(hs:∀i,i<h.next->s' i=s i):Ext s₀ h₀ w₀ s' h w where
 os:=E.os
 tape:=E.tape
 output:=E.output
 size:=E.size
 sg i hi:=(hs i (Nat.lt_of_lt_of_le hi E.next)).trans (E.sg i hi)
 next:=E.next
 frame:=E.frame
 bx j o hj:=by rw[hs j (hl j o hj)];exact E.bx j o hj
 aN:=E.aN
theorem Ext.JD{s₀ s:Sg}{h₀ h h':Hp}{w₀ w:World}(E:Ext s₀ h₀ w₀ s h w)(hn:h.next<=h'.next)(hg:∀j o,h'.tr.get j=some o->(∃o',h.tr.get j=some o')\/(w₀.heap.size<=(s j).1/\h₀.next<=j)):Ext s₀ h₀ w₀ s h' w where
 os:=E.os
 tape:=E.tape
 output:=E.output
 size:=E.size
 sg:=E.sg
 next:=Nat.le_trans E.next hn
 frame:=E.frame
 bx j o hj:=by
  rcases hg j o hj with⟨o',h'⟩|q
  .exact E.bx j o' h'
  .exact .inr q.1
 aN j o hj hlt:=by
  rcases hg j o hj with⟨o',h'⟩|q
  .exact E.aN j o' h' hlt
  .omega
theorem Ext.push{s₀ s:Sg}{h₀ h:Hp}{w₀ w:World}(E:Ext s₀ h₀ w₀ s h w)(ob:Obj):Ext s₀ h₀ w₀ s h { w with heap:=w.heap.push ob } where
 os:=E.os
 tape:=E.tape
 output:=E.output
 size:=by simp;have:=E.size;omega
 sg:=E.sg
 next:=E.next
 frame b hb hn:=by have:=E.size;show(w.heap.push ob)[b]?=_;rw[Array.getElem?_push,if_neg (by omega)];exact E.frame b hb hn
 bx:=E.bx
 aN:=E.aN
def left:Nat->(Nat->Bool)->Nat
 |0,_=>0|m+1,L=>left m L+(match L m with|true=>0|false=>1)
def mark(L:Nat->Bool)(i:Nat):Nat->Bool:=fun j=>if j=i then true else L j
theorem pf{L:Nat->Bool}{i:Nat}(hi:L i=false):∀m,left m (mark L i)+(if i<m then 1 else 0)=left m L
 |0=>by simp[left]|m+1=>by
  have ih:=pf hi m;simp only[left,mark];by_cases q:m=i
  .subst q;simp only[if_true,hi];simp at ih;simp[ih]
  .rw[if_neg q];by_cases r:i<m
   .simp only[r,if_true]at ih;rw[if_pos (by omega)];omega
   .simp only[r,if_false]at ih;rw[if_neg (by omega)];omega
theorem mf{L:Nat->Bool}:∀{m:Nat},left m L=0->∀i,i<m->L i=true
 |0,_,i,hi=>by omega|m+1,h,i,hi=>by
  simp only[left]at h;cases hm:L m with
  |false=>rw[hm]at h;simp at h|true=>
   rw[hm]at h;rcases Nat.lt_or_ge i m with q|q
   .exact mf (by simpa using h) i q
   .rw[show i=m by omega];exact hm
theorem ab.Vp{s:Sg}{h h':Hp}{w:World}(H:ab s h w)(ht:h'.tr=h.tr)(hn:h.next<=h'.next):ab s h' w where
 obj i o hi:=H.obj i o (ht▸hi)
 inj i j o o' hi hj:=H.inj i j o o' (ht▸hi) (ht▸hj)
 lt i o hi:=Nat.lt_of_lt_of_le (H.lt i o (ht▸hi)) hn
 eX i o hi:=mi hn (H.eX i o (ht▸hi))
def j4(ops:Array Oper)(pl:List PE)(m:Nat)(L:Nat->Bool)(t:Tmp):Prop:=∃(x:Nat) (o:Oper) (l h:Nat),ops[x]?=some o/\pl[x]?=some (.p l h)/\l<m/\L x=false/\o.dst=some t
structure Inv(n:Nat)(ops:Array Oper)(pl:List PE)(F₀:fb)(h₀:Hp)(w₀:World)(m q:Nat)(L:Nat->Bool)(a:Act)(w:World)(st:St)(pd:dX)(F:fb):Prop where
 ne:∃s₀,F₀ s₀
 size:a.tmps.size=n
 defers:a.defers=[]
 free:∀s₀,F₀ s₀->∀g:Sg,∃s,F s/\Ext s₀ h₀ w₀ s st.h w/\∀p∈pd,L p.1=false->s p.2.1=g p.2.1
 kY:∀s,F s->∃s₀,F₀ s₀/\Ext s₀ h₀ w₀ s st.h w
 tmp:∀s,F s->∀t v,st.T.get t=some v->¬j4 ops pl m L t->a.tmps[t]?=some (ae s v)
 all:∀t v,st.T.get t=some v->t<n/\ws st.h.next v=true
 H:∀s,F s->ab s st.h w
 low:h₀.next<=st.h.next
 tj:∀p∈pd,h₀.next<=p.2.1
 pid:∀p∈pd,p.2.1<st.h.next/\st.h.tr.get p.2.1=none/\gp st.h.next p.2.2=true/\∃lo hi,pl[p.1]?=some (.p lo hi)/\lo<m/\q<=hi
 jf:∀p∈pd,L p.1=true->∀s,F s->bG s p.2.1 p.2.2 w.heap[(s p.2.1).1]?/\w₀.heap.size<=(s p.2.1).1/\∀j o,st.h.tr.get j=some o->(s j).1≠(s p.2.1).1
 kZ:∀p∈pd,∀p'∈pd,L p.1=true->L p'.1=true->∀s,F s->(s p.2.1).1=(s p'.2.1).1->p.2.1=p'.2.1
 iF:∀p∈pd,∀p'∈pd,p.1=p'.1\/p.2.1=p'.2.1->p=p'
 down:∀(z:Nat) (o:Oper),ops[z]?=some o->L z=true->∀e∈cS o,L e=true
 wl:∀(i j:Nat),pl[i]?=some (.w j)->(L i=true↔j<=q)
 lo:∀(i l h:Nat),pl[i]?=some (.p l h)->L i=true->l<=q
 hi:∀(i l h:Nat),pl[i]?=some (.p l h)->h<q->L i=true
section
variable{n:Nat}{ops:Array Oper}{pl:List PE}{F₀:fb}{h₀:Hp}{w₀:World}{q:Nat}{L:Nat->Bool}{a:Act}{w:World}{st:St}{pd:dX}{F:fb}
theorem Inv.enter{P:Program}{st':St}{pd':dX}(I:Inv n ops pl F₀ h₀ w₀ q q L a w st pd F)(hun:∀(i l h:Nat),pl[i]?=some (.p l h)->q<=l->L i=false)
  (e:jE P n ops q ops.toList pl 0 st pd=some (st',pd')) :
  Inv n ops pl F₀ h₀ w₀ (q+1) q L a w st' pd' (fun s=>∃s₁,F s₁/\∀i,i<st.h.next->s i=s₁ i):=by
 obtain⟨new,rfl,S⟩:=V2 e I.all;have hHcl:∀s s₁,F s₁->(∀i,i<st.h.next->s i=s₁ i)->ab s st'.h w:=by intro s s₁ h1 hs;exact((I.H s₁ h1).congr hs).Vp S.tr S.next
 have hlt:∀s₁,F s₁->∀i o,st.h.tr.get i=some o->i<st.h.next:=fun s₁ h1 i o hi=>(I.H s₁ h1).lt i o hi;have hEcl:∀s₀ s s₁,F s₁->Ext s₀ h₀ w₀ s₁ st.h w->(∀i,i<st.h.next->s i=s₁ i)->Ext s₀ h₀ w₀ s st'.h w:=by intro s₀ s s₁ h1 hE hs;refine(hE.congr (hlt s₁ h1) hs).JD S.next ?_;intro j o hj;rw[S.tr]at hj;exact .inl ⟨o,hj⟩
 have hnew:∀p∈new,L p.1=false:=by intro p hp;obtain⟨_,_,_,x,h,hx,hpx⟩:=S.ids p hp;exact hun p.1 q h (by rw[hx];simpa using hpx) (Nat.le_refl _)
 refine⟨I.ne,I.size,I.defers,?_,?_,?_,S.all,fun s ⟨s₁,h1,hs⟩=>hHcl s s₁ h1 hs,Nat.le_trans I.low S.next,?_,?_,?_,?_,?_,I.down,I.wl,I.lo,I.hi⟩
 .intro s₀ hs₀ g;obtain⟨s₁,h1,hE,hg⟩:=I.free s₀ hs₀ g;refine⟨fun i=>if i<st.h.next then s₁ i else g i,⟨s₁,h1,fun i hi=>by simp[hi]⟩,hEcl s₀ _ s₁ h1 hE (fun i hi=>by simp[hi]),?_⟩;intro p hp hL;simp only[];rcases List.mem_append.1 hp with hp|hp
  .have:=(S.ids p hp).1;rw[if_neg (by omega)]
  .rw[if_pos (I.pid p hp).1];exact hg p hp hL
 .rintro s ⟨s₁,h1,hs⟩;obtain⟨s₀,hs₀,hE⟩:=I.kY s₁ h1;exact⟨s₀,hs₀,hEcl s₀ s s₁ h1 hE hs⟩
 .rintro s ⟨s₁,h1,hs⟩ t v hv hnp;have hsame:st'.T.get t=st.T.get t:=by refine S.same t ?_;intro x o h ho hp hd;exact hnp ⟨x,o,q,h,by simpa using ho,hp,by omega,hun x q h hp (Nat.le_refl _),hd⟩
  rw[hsame]at hv;have hnp':¬j4 ops pl q L t:=fun⟨x,o,l,h,p1,p2,p3,p4,p5⟩=>hnp ⟨x,o,l,h,p1,p2,by omega,p4,p5⟩;rw[nN hs v (I.all t v hv).2];exact I.tmp s₁ h1 t v hv hnp'
 .intro p hp;rcases List.mem_append.1 hp with hp|hp
  .exact Nat.le_trans I.low (S.ids p hp).1
  .exact I.tj p hp
 .intro p hp;rcases List.mem_append.1 hp with hp|hp
  .obtain⟨p1,p2,p3,x,h,hx,hpx⟩:=S.ids p hp;refine⟨p2,?_,p3,q,h,by rw[hx];simpa using hpx,by omega,?_⟩
   .rw[S.tr];cases hg:st.h.tr.get p.2.1 with|none=>rfl|some o=>exfalso;obtain⟨s₀,hs₀⟩:=I.ne;obtain⟨s₁,h1,_⟩:=I.free s₀ hs₀ (fun _=>(0,0));have:=hlt s₁ h1 _ _ hg;omega
   .rcases Nat.lt_or_ge h q with r|r
    .have h1:=I.hi p.1 q h (by rw[hx];simpa using hpx) r;rw[hnew p hp]at h1;cases h1
    .exact r
  .obtain⟨p1,p2,p3,lo,hi,p4,p5,p6⟩:=I.pid p hp;exact⟨Nat.lt_of_lt_of_le p1 S.next,by rw[S.tr];exact p2,mi S.next p3,lo,hi,p4,by omega,p6⟩
 .rintro p hp hL s ⟨s₁,h1,hs⟩;rcases List.mem_append.1 hp with hp|hp
  .rw[hnew p hp]at hL;cases hL
  .obtain⟨p1,p2,p3,_⟩:=I.pid p hp;obtain⟨r1,r2,r3⟩:=I.jf p hp hL s₁ h1;rw[hs p.2.1 p1];refine⟨r1.congr hs p1 p3,r2,?_⟩;intro j o hj;rw[S.tr]at hj;rw[hs j (hlt s₁ h1 j o hj)];exact r3 j o hj
 .rintro p hp p' hp' hL hL' s ⟨s₁,h1,hs⟩ he;rcases List.mem_append.1 hp with hp|hp
  .rw[hnew p hp]at hL;cases hL
  .rcases List.mem_append.1 hp' with hp'|hp'
   .rw[hnew p' hp']at hL';cases hL'
   .rw[hs _ (I.pid p hp).1,hs _ (I.pid p' hp').1]at he;exact I.kZ p hp p' hp' hL hL' s₁ h1 he
 .intro p hp p' hp' hpp;have cross:∀p∈new,∀p'∈pd,¬(p.1=p'.1\/p.2.1=p'.2.1):=by
   rintro p hp p' hp' (r|r)
   .obtain⟨_,_,_,x,h,hx,hpx⟩:=S.ids p hp;obtain⟨_,_,_,lo,hi,p4,p5,_⟩:=I.pid p' hp';have:pl[p.1]?=some (.p q h):=by rw[hx];simpa using hpx
    rw[r,p4]at this;simp at this;omega
   .have:=(S.ids p hp).1;have:=(I.pid p' hp').1;omega
  rcases List.mem_append.1 hp with hp|hp<;>rcases List.mem_append.1 hp' with hp'|hp'
  .exact S.zh p hp p' hp' hpp
  .exact absurd hpp (cross p hp p' hp')
  .exact absurd (hpp.imp Eq.symm Eq.symm) (cross p' hp' p hp)
  .exact I.iF p hp p' hp' hpp
theorem sB:∀{l:List Operand}{t:Tmp},Operand.tmp t∈l->t∈tmpsOf l
 |[],t,h=>by cases h
 |x::l,t,h=>by
  rcases List.mem_cons.1 h with rfl|h2
  .simp[tmpsOf]
  .have:=sB h2;cases x<;>simp[tmpsOf,this]
theorem jb{o:Oper}{t:Tmp}(h:Operand.tmp t∈o.op.operands):t∈looks ops.toList o:=by
 have:=sB (Array.mem_toList_iff.2 h);unfold looks;split
 .exact this
 .split
  .split
   .exact List.mem_cons_of_mem _ this
   .exact this
  .exact this
theorem mc{o oj:Oper}{t:Tmp}{j:Nat}{b:Bool}(h:o.guard=some (j,b))(hj:ops[j]?=some oj)(hd:oj.dst=some t):t∈looks ops.toList o:=by
 unfold looks;have hj':nth ops.toList j=some oj:=by rw[bI];simpa using hj
 simp[h,hj',hd]
theorem Inv.nB{m k:Nat}(I:Inv n ops pl F₀ h₀ w₀ m q L a w st pd F)(hP:fY ops pl k){i:Nat}{o:Oper}(ho:ops[i]?=some o)(hr:∀e∈cS o,L e=true)
  {t:Tmp}(ht:t∈looks ops.toList o):¬j4 ops pl m L t:=by
 rintro⟨x,ox,l,h,p1,p2,p3,p4,p5⟩;have:=hr x (hP.fresh i o ho t ht x ox l h p1 p2 p5);rw[p4]at this;cases this
theorem Inv.ui{k:Nat}(I:Inv n ops pl F₀ h₀ w₀ (q+1) q L a w st pd F)(hP:fY ops pl k){i:Nat}{o:Oper}(ho:ops[i]?=some o)(hr:∀e∈cS o,L e=true)(hL:L i=false){l h:Nat}
  (hp:pl[i]?=some (.p l h)):l<=q/\q<=h:=by
 constructor
 .rcases hP.lo i o l h ho hp with r|⟨e,pe,h1,h2,h3⟩
  .omega
  .have hLe:=hr e h1;cases pe with|w j=>have:=(I.wl e j h2).1 hLe;simp only[PE.num]at h3;omega|p l' h'=>have:=I.lo e l' h' h2 hLe;simp only[PE.num]at h3;omega
 .rcases Nat.lt_or_ge h q with r|r
  .have:=I.hi i l h hp r;rw[hL]at this;cases this
  .exact r
theorem gY{i j:Nat}(h:L j=true):mark L i j=true:=by unfold mark;split<;>simp[h]
theorem j6{i j:Nat}(h:mark L i j=false):L j=false/\j≠i:=by
 unfold mark at h;split at h
 .cases h
 .rename_i q;exact⟨h,q⟩
theorem Inv.pU{F':fb}{w':World}{i:Nat}{o:Oper}{l h:Nat}{V:Value}(I:Inv n ops pl F₀ h₀ w₀ (q+1) q L a w st pd F)(ho:ops[i]?=some o)(hr:∀e∈cS o,L e=true)
  (hp:pl[i]?=some (.p l h)) (hl:l<=q) (hsub:∀s,F' s->F s) (hV:∀s,F' s->∀t,o.dst=some t->∃v,st.T.get t=some v/\ae s v=V)
  (free:∀s₀,F₀ s₀->∀g:Sg,∃s,F' s/\Ext s₀ h₀ w₀ s st.h w'/\∀p∈pd,mark L i p.1=false->s p.2.1=g p.2.1)
  (kY:∀s,F' s->∃s₀,F₀ s₀/\Ext s₀ h₀ w₀ s st.h w') (H:∀s,F' s->ab s st.h w')
  (jf:∀p∈pd,mark L i p.1=true->∀s,F' s->bG s p.2.1 p.2.2 w'.heap[(s p.2.1).1]?/\w₀.heap.size<=(s p.2.1).1/\∀j o,st.h.tr.get j=some o->(s j).1≠(s p.2.1).1)
  (kZ:∀p∈pd,∀p'∈pd,mark L i p.1=true->mark L i p'.1=true->∀s,F' s->(s p.2.1).1=(s p'.2.1).1->p.2.1=p'.2.1) :
  Inv n ops pl F₀ h₀ w₀ (q+1) q (mark L i) (a.put o.dst V) w' st pd F':=by
 refine⟨I.ne,?_,?_,free,kY,?_,I.all,H,I.low,I.tj,I.pid,jf,kZ,I.iF,?_,?_,?_,fun j l h hj hh=>gY (I.hi j l h hj hh)⟩
 .cases hd:o.dst<;>simp[Act.put,hd,I.size]
 .cases hd:o.dst<;>simp[Act.put,hd,I.defers]
 .intro s hs t v hv hnp;by_cases hd:o.dst=some t
  .obtain⟨v',hv',hc⟩:=hV s hs t hd;rw[hv]at hv';simp at hv';subst hv';simp only[Act.put,hd,Array.getElem?_setIfInBounds,if_true];rw[if_pos (by rw[I.size];exact(I.all t v hv).1),hc]
  .have hnp':¬j4 ops pl (q+1) L t:=by
    rintro⟨x,ox,l',h',p1,p2,p3,p4,p5⟩;refine hnp ⟨x,ox,l',h',p1,p2,p3,?_,p5⟩;unfold mark;split
    .rename_i e;subst e;rw[ho]at p1;simp at p1;subst p1;exact absurd p5 hd
    .exact p4
   have:=I.tmp s (hsub s hs) t v hv hnp';cases hd':o.dst with|none=>exact this|some d=>simp only[Act.put,Array.getElem?_setIfInBounds];rw[if_neg (fun e=>hd (by rw[hd',e]))];exact this
 .intro z oz hz hLz e he;unfold mark at hLz;split at hLz
  .rename_i e1;subst e1;rw[ho]at hz;simp at hz;subst hz;exact gY (hr e he)
  .exact gY (I.down z oz hz hLz e he)
 .intro j x hj;have hne:j≠i:=by intro e;subst e;rw[hp]at hj;simp at hj
  unfold mark;rw[if_neg hne];exact I.wl j x hj
 .intro j l' h' hj hLj;unfold mark at hLj;split at hLj
  .rename_i e;subst e;rw[hp]at hj;simp at hj;omega
  .exact I.lo j l' h' hj hLj
theorem Gz{T:Tr AV}{d:Option Tmp}{v:AV}(h:qu T d v=true){t:Tmp}(hd:d=some t):T.get t=some v:=by
 subst hd;simp only[qu]at h;split at h<;>try cases h
 rename_i u hu;rw[hu,AV.dc h]
theorem Inv.step{P:Program}{k:Nat}(I:Inv n ops pl F₀ h₀ w₀ (q+1) q L a w st pd F)(hP:fY ops pl k){i:Nat}{o:Oper}(ho:ops[i]?=some o)(hr:∀e∈cS o,L e=true)(hL:L i=false)
  {l h:Nat}(hp:pl[i]?=some (.p l h)) (hc:qY P ops st pd o i=true) {K:Act->World->Prop}{Q:Exit->Act->World->Prop}
  (hK:∀a' w' F',Inv n ops pl F₀ h₀ w₀ (q+1) q (mark L i) a' w' st pd F'->K a' w'):wpOp P ops Q i K a w:=by
 obtain⟨hlq,hqh⟩:=I.ui hP ho hr hL hp;obtain⟨s₀,hs₀⟩:=I.ne;obtain⟨s₁,hs₁,_⟩:=I.free s₀ hs₀ (fun _=>(0,0));have hO:∀s,F s->eJ s st.T a o.op:=fun s hs=>oa fun t ht u hu=>I.tmp s hs t u hu (I.nB hP ho hr (jb ht));have hW:∀{b},nV ops st.T o=some b->Region.wanted o (yielded ops a.tmps)=b:=fun hw=>yk hw (fun j b oj t v hg hj hd hv=>I.tmp s₁ hs₁ t v hv (I.nB hP ho hr (mc hg hj hd)));have mk:∀{p:Nat×Nat×aC},jP i pd=none->p∈pd->mark L i p.1=L p.1:=by intro p hf hp';unfold mark;rw[if_neg (Re hf p hp')]
 have quiet:∀V,jP i pd=none->(∀s,F s->∀t,o.dst=some t->∃v,st.T.get t=some v/\ae s v=V)->K (a.put o.dst V) w:=by
  intro V hf hV;refine hK _ w F (I.pU ho hr hp hlq (fun s hs=>hs) hV ?_ I.kY I.H ?_ ?_)
  .intro s₀ hs₀ g;obtain⟨s,h1,h2,h3⟩:=I.free s₀ hs₀ g;exact⟨s,h1,h2,fun p hp' hm=>h3 p hp' (by rw[mk hf hp']at hm;exact hm)⟩
  .intro p hp' hm;rw[mk hf hp']at hm;exact I.jf p hp' hm
  .intro p hp' p' hp'' hm hm';rw[mk hf hp']at hm;rw[mk hf hp'']at hm';exact I.kZ p hp' p' hp'' hm hm'
 unfold wpOp;rw[ho];simp only[];unfold qY at hc;split at hc
 .rename_i hw;rw[hW hw];simp only[Bool.false_eq_true,if_false];split at hc<;>try cases hc
  rename_i hf;exact quiet undef hf (fun s hs t ht=>⟨_,Gz hc ht,rfl⟩)
 .rename_i hw;rw[hW hw];simp only[if_true];left;unfold Oper.wp;split at hc
  .rename_i id ob hf;have hmem:=Ke hf;split at hc<;>try cases hc
   rename_i ob' v ha;split at hc<;>try cases hc
   rename_i hob;have hob:=Tj hob;subst hob;obtain⟨s₂,hs₂,hE₂,hg₂⟩:=I.free s₀ hs₀ (fun _=>(w.heap.size,0));have hid:s₂ id=(w.heap.size,0):=hg₂ _ hmem hL;obtain⟨x₂,hrun,hor⟩:=AG ha (hO s₂ hs₂) w hid;rw[hrun];have each:∀s,F s->s id=(w.heap.size,0)->ae s v=ae s₂ v/\bG s id ob (some x₂):=by intro s hs hsi;obtain⟨x,hrun',hor'⟩:=AG ha (hO s hs) w hsi;rw[hrun]at hrun';simp only[Result.ok.injEq,Next.value.injEq,World.mk.injEq,Array.push_eq_push,and_true,true_and]at hrun';obtain⟨q1,rfl⟩:=hrun';exact⟨q1.symm,hor'⟩
   have other:∀p∈pd,p.1≠i->p.2.1≠id:=fun p hp' hne e=>hne (congrArg Prod.fst (I.iF p hp' _ hmem (.inr e)));have old:∀p∈pd,L p.1=true->∀s,F s->(s p.2.1).1<w.heap.size:=by
    intro p hp' hLp s hs;obtain⟨y,hy⟩:=(I.jf p hp' hLp s hs).1.there;rcases Nat.lt_or_ge (s p.2.1).1 w.heap.size with r|r
    .exact r
    .rw[Array.getElem?_eq_none r]at hy;cases hy
   have split_:∀p∈pd,mark L i p.1=true->p=(i,id,ob)\/(L p.1=true/\p.1≠i):=by
    intro p hp' hm;unfold mark at hm;split at hm
    .rename_i e;exact .inl (I.iF p hp' _ hmem (.inl e))
    .rename_i e;exact .inr ⟨hm,e⟩
   refine hK _ _ (fun s=>F s/\s id=(w.heap.size,0)) (I.pU ho hr hp hlq (fun s hs=>hs.1) ?_ ?_ ?_ ?_ ?_ ?_)
   .intro s hs t ht;exact⟨v,Gz hc ht,(each s hs.1 hs.2).1⟩
   .intro s₀' hs₀' g;obtain⟨s,h1,h2,h3⟩:=I.free s₀' hs₀' (aT g id (w.heap.size,0));refine⟨s,⟨h1,by rw[h3 _ hmem hL];exact cd _ _ _⟩,h2.push x₂,?_⟩;intro p hp' hm;obtain⟨hLp,hne⟩:=j6 hm;rw[h3 p hp' hLp];simp only[aT];rw[if_neg (other p hp' hne)]
   .rintro s ⟨hs,_⟩;obtain⟨s₀',h1,h2⟩:=I.kY s hs;exact⟨s₀',h1,h2.push x₂⟩
   .rintro s ⟨hs,_⟩;exact(I.H s hs).push x₂
   .rintro p hp' hm s ⟨hs,hsi⟩;rcases split_ p hp' hm with rfl|⟨hLp,hne⟩
    .rw[hsi];refine⟨?_,?_,?_⟩
     .show bG s id ob (w.heap.push x₂)[w.heap.size]?;simpa using(each s hs hsi).2
     .obtain⟨_,_,hE⟩:=I.kY s hs;exact hE.size
     .intro j o' hj;have:=(I.H s hs).bound hj;show(s j).1≠w.heap.size;omega
    .obtain⟨r1,r2,r3⟩:=I.jf p hp' hLp s hs;refine⟨?_,r2,r3⟩;show bG s p.2.1 p.2.2 (w.heap.push x₂)[(s p.2.1).1]?;have:=old p hp' hLp s hs;rw[Array.getElem?_push,if_neg (by omega)];exact r1
   .rintro p hp' p' hp'' hm hm' s ⟨hs,hsi⟩ he;rcases split_ p hp' hm with rfl|⟨hLp,hne⟩<;>rcases split_ p' hp'' hm' with rfl|⟨hLp',hne'⟩
    .rfl
    .have:=old p' hp'' hLp' s hs;rw[hsi]at he;simp only[]at he;omega
    .have:=old p hp' hLp s hs;rw[hsi]at he;simp only[]at he;omega
    .exact I.kZ p hp' p' hp'' hLp hLp' s hs he
  .rename_i hf;split at hc<;>try cases hc
   rename_i v hv;have h₁:=nM hv (hO s₁ hs₁) (I.H s₁ hs₁);rw[h₁];refine quiet (ae s₁ v) hf ?_;intro s hs t ht;refine⟨v,Gz hc ht,?_⟩;have h₂:=nM hv (hO s hs) (I.H s hs);rw[h₁]at h₂;simp only[Result.ok.injEq,Next.value.injEq,and_true]at h₂;exact h₂.symm
 .cases hc
end
end Go.Proofs.YtdcnjfbffckblaaGreat.Ev
end
section
namespace Go.Proofs.YtdcnjfbffckblaaGreat.V
open Go Go.RowKit
open Go.Proofs.YtdcnjfbffckblaaGreat.Ev (Tr Tr.bz nth bI PE fY oe ik sy cS looks tmpsOf sB jb mc fD lq jn me left mark pf mf bY fe gY j6)
theorem pk{T T':Tr AV}{x:Operand}(h:∀t,x=.tmp t->T'.get t=T.get t):aM T' x=aM T x:=by cases x with|tmp t=>exact h t rfl|_=>rfl
theorem Rh{T T':Tr AV}:∀{l:List Operand},(∀t,.tmp t∈l->T'.get t=T.get t)->cY T' l=cY T l
 |[],_=>rfl|x::l,h=>by simp only[cY];rw[pk (fun t q=>h t (by simp[q])),Rh (fun t q=>h t (by simp[q]))]
theorem F8{T T':Tr AV}:∀{l:List (Nat×Operand)},(∀t,.tmp t∈l.map (·.2)->T'.get t=T.get t)->eU T' l=eU T l
 |[],_=>rfl|(i,x)::l,h=>by simp only[eU];rw[pk (fun t q=>h t (by simp[q])),F8 (fun t q=>h t (by simp only[List.map_cons];exact List.mem_cons_of_mem _ q))]
mutual
theorem LP{h h₂:Hp}:∀{σ:Sh}{l:List AV}{d:σ.T}{r:List AV}{h':Hp},di false h σ l=some (d,r,h')->di false h₂ σ l=some (d,r,h₂)
 |.int k,l,d,r,h',e=>by
  simp only[di]at e |-;split at e<;>try cases e
  split at e<;>cases e;rename_i q;simp only[q]
 |.bool,l,d,r,h',e=>by simp only[di]at e |-;split at e<;>cases e;rfl
 |.str,l,d,r,h',e=>by simp only[di]at e |-;split at e<;>cases e;rfl
 |.agg ss,l,d,r,h',e=>KR (ss:=ss) e|.sl s,l,d,r,h',e=>by
  simp only[di]at e |-;split at e<;>try cases e
  .rfl
  .split at e<;>cases e;rfl
  .split at e<;>try cases e
   split at e<;>first|(cases e;done)|(rename_i q _;cases q)
  .split at e<;>try cases e
   split at e<;>first|(cases e;done)|(rename_i q _;cases q)
theorem KR{h h₂:Hp}:∀{ss:List Sh}{l:List AV}{d:TL ss}{r:List AV}{h':Hp},gP false h ss l=some (d,r,h')->gP false h₂ ss l=some (d,r,h₂)
 |[],l,d,r,h',e=>by simp only[gP]at e |-;cases e;rfl
 |s::ss,l,d,r,h',e=>by
  simp only[gP]at e |-;split at e<;>try cases e
  rename_i d₁ r₁ h₁ e₁;split at e<;>try cases e
  rename_i d₂ r₂ h₂' e₂;have:=yN e₁;subst this;rw[LP (h₂:=h₂) e₁];simp only[];rw[KR (h₂:=h₂) e₂]
end
theorem GH{h h₂:Hp}{τ:Sh}:∀{n:Nat}{l:List AV}{L:List τ.T},fA h τ n l=some L->fA h₂ τ n l=some L
 |0,l,L,e=>e|n+1,l,L,e=>by
  simp only[fA]at e |-;split at e<;>try cases e
  rename_i x r h₁ hf;split at e<;>try cases e
  rename_i xs hx;rw[LP (h₂:=h₂) hf];simp only[];rw[GH hx]
def dJ:Op->Bool
 |.alloc _|.box _ _|.makeSlice _ _ _|.buildSlice _ _ _|.makeMap _ _=>true|_=>false
def gQ:AV->Option Nat
 |.ptr b _=>some b|.hd b _=>some b|.vw b _ _ _=>some b|.mp b=>some b|_=>none
theorem yQ{P:Program}{sh:TypeId->Option Sh}{T:Tr AV}{h:Hp}{n:Nat}{o:Op}{x:Bool×aC×AV}(e:fJ P sh T h n o=some x):dJ o=true/\gQ x.2.2=some n:=by
 unfold fJ at e;split at e
 .split at e<;>cases e;exact⟨rfl,rfl⟩
 .split at e<;>cases e;exact⟨rfl,rfl⟩
 .split at e<;>try cases e
  split at e<;>try cases e
  split at e<;>cases e;exact⟨rfl,rfl⟩
 .split at e<;>try cases e
  split at e<;>try cases e
  split at e<;>try cases e
  unfold pK at e;split at e
  .split at e<;>try cases e
   split at e<;>cases e<;>exact⟨rfl,rfl⟩
  .cases e;exact⟨rfl,rfl⟩
 .split at e<;>try cases e
  split at e<;>cases e;exact⟨rfl,rfl⟩
 .cases e
theorem Xa{h h₂:Hp}{n:Nat}{elem:TypeId}{len sz:Nat}{r:List AV}{s:Option Sh}:pK h n elem len sz r s=pK h₂ n elem len sz r s:=by
 unfold pK;cases s with
 |none=>rfl|some τ=>
  have:fA h τ len r=fA h₂ τ len r:=by cases q:fA h τ len r with|some L=>exact(GH q).symm|none=>cases q':fA h₂ τ len r with|none=>rfl|some L=>rw[GH (h₂:=h) q']at q;cases q
  simp only[this]
theorem GS{P:Program}{sh:TypeId->Option Sh}{T T':Tr AV}{h h':Hp}{n:Nat}{o:Op}{x:Bool×aC×AV}(e:fJ P sh T h n o=some x)(hT:∀t,.tmp t∈o.operands->T'.get t=T.get t):fJ P sh T' h' n o=some x:=by
 unfold fJ at e |-;cases o<;>try (cases e;done)
 .exact e
 .rename_i elem y
  try dsimp only at e |-
  rw[pk (fun t q=>hT t (by simp[Op.operands,q]))];exact e
 .rename_i t l parts
  try dsimp only at e |-
  rw[F8 (fun t q=>hT t (by simp only[Op.operands,List.mem_toArray];exact q))];simp only[Xa (h:=h') (h₂:=h)];exact e
 .exact e
 .rename_i t l c
  try dsimp only at e |-
  rw[pk (x:=l) (fun t q=>hT t (by simp[Op.operands,q])),pk (x:=c) (fun t q=>hT t (by simp[Op.operands,q]))];exact e
theorem W9{h h':Hp}(L:dm h h'){u:AV}{x:Bool×List AV×Nat}(e:pA h u=some x):pA h' u=some x:=by
 unfold pA at e |-;cases u<;>try (cases e;done)
 .try dsimp only at e |-
  split at e<;>try cases e
  rename_i q;rw[L _ _ q]
 .try dsimp only at e |-
  split at e<;>try cases e
  .rename_i q;rw[L _ _ q];exact e
  .rename_i q;rw[L _ _ q];exact e
 .exact e
 .try dsimp only at e |-
  split at e<;>cases e;rename_i q;rw[L _ _ q]
theorem S9{h h':Hp}(L:dm h h'){u:AV}{n:Nat}(e:lenOf h u=some n):lenOf h' u=some n:=by
 unfold lenOf at e |-;cases u<;>try (cases e;done)
 .exact e
 .try dsimp only at e |-
  split at e<;>try cases e
  .rename_i q;rw[L _ _ q]
  .rename_i q;rw[L _ _ q]
 .exact e
 .exact e
 .exact e
 .try dsimp only at e |-
  split at e<;>cases e;rename_i q;rw[L _ _ q]
theorem V9{P:Program}{h h':Hp}(L:dm h h'){t:TypeId}{u i:AV}{x:Bool×AV}(e:j8 P h t u i=some x):j8 P h' t u i=some x:=by
 unfold j8 at e |-;cases i<;>try (cases e;done)
 try dsimp only at e |-
 cases hu:P.underlying t with
 |none=>simp[hu]at e|some d=>
  cases d<;>simp only[hu]at e |-<;>try (cases e;done)
  .split at e<;>try cases e
   rename_i sz hs;cases u<;>(try dsimp only at e |-)<;>try (cases e;done)
   .split at e<;>try cases e
    .rename_i q;rw[L _ _ q];exact e
    .rename_i q;rw[L _ _ q];exact e
   .split at e<;>try cases e
    rename_i hz;split at e<;>try cases e
    .rename_i q;rw[L _ _ q]
    .rename_i q;rw[L _ _ q]
   .exact e
   .split at e<;>try cases e
    rename_i q;rw[L _ _ q];exact e
  .exact e
theorem WY{P:Program}{h h':Hp}(L:dm h h'){T T':Tr AV}{t:TypeId}{u:AV}{lo hi:Option Operand}{x:Bool×AV}(e:kf P h T t u lo hi=some x)(h1:cU T' lo=cU T lo)(h2:cU T' hi=cU T hi):kf P h' T' t u lo hi=some x:=by
 unfold kf at e |-;rw[h1,h2];split at e<;>try cases e
 rename_i l r q1 q2
 try simp only[q1,q2]
 cases hu:P.underlying t with
 |none=>simp[hu]at e|some d=>
  cases d<;>simp only[hu]at e |-<;>try (cases e;done)
  .exact e
  .split at e<;>try cases e
   rename_i sz hs;cases u<;>(try dsimp only at e |-)<;>try (cases e;done)
   .exact e
   .split at e<;>try cases e
    rename_i q;rw[L _ _ q];exact e
   .exact e
   .exact e
theorem XB{P:Program}{h h':Hp}(L:dm h h'){t:TypeId}{u i v:AV}{ck:Bool}(e:pI P h t u i ck=some v):pI P h' t u i ck=some v:=by
 unfold pI at e |-;split at e<;>try cases e
 rename_i hu
 try simp only[hu]
 split at e<;>try cases e
 rename_i hk hz
 try simp only[hk,hz]
 split at e<;>try cases e
 split at e<;>try cases e
 rename_i hb;rw[L _ _ hb];exact e
theorem S0{P:Program}{h h':Hp}(L:dm h h'){ts:Array TypeId}{u v:AV}(e:oD P h ts u=some v):oD P h' ts u=some v:=by
 unfold oD at e |-;split at e<;>try cases e
 rename_i t ht
 try simp only[ht]
 cases hu:P.underlying t with
 |none=>simp[hu]at e|some d=>
  cases d<;>simp only[hu]at e |-<;>first|(cases e;done)|exact e|skip
  split at e<;>try cases e
  rename_i n hn;rw[S9 L hn]
theorem Wb{P:Program}{h h':Hp}(L:dm h h'){b:Builtin}{ts:Array TypeId}{vs:List AV}{v:AV}(e:j9 P h b ts vs=some v):j9 P h' b ts vs=some v:=by
 unfold j9 at e |-;cases b<;>try (cases e;done)
 .try dsimp only at e |-
  split at e<;>try cases e
  split at e
  .rename_i q
   try simp only[q]
   unfold tT at e |-;split at e<;>try cases e
   split at e<;>try cases e
   rename_i hb;rw[L _ _ hb]
  .rename_i q
   try simp only[q]
   exact S0 L e
 .exact e
 .exact e
theorem GP{P:Program}{T T':Tr AV}{h h':Hp}(L:dm h h'){o:Oper}{x:Bool×AV}(e:gb P T h o=some x)(hT:∀t,.tmp t∈o.op.operands->T'.get t=T.get t):gb P T' h' o=some x:=by
 have one:∀y,y∈o.op.operands->aM T' y=aM T y:=fun y hy=>pk (fun t q=>hT t (by rw[<-q];exact hy));have lst:∀l:List Operand,(∀y∈l,y∈o.op.operands)->cY T' l=cY T l:=fun l hl=>Rh (fun t q=>hT t (hl _ q));unfold gb at e |-;cases ho:o.op<;>rw[ho]at e one lst<;>(try dsimp only at e |-)<;>try (cases e;done)
 case move y=>rw[one y (by simp[Op.operands])];exact e
 case pick c a b=>rw[one c (by simp[Op.operands]),one a (by simp[Op.operands]),one b (by simp[Op.operands])];exact e
 case build t parts=>rw[F8 (fun t q=>hT t (by rw[ho];simp only[Op.operands,List.mem_toArray];exact q))];exact e
 case load t y=>
  rw[one y (by simp[Op.operands])];split at e<;>try cases e
  rename_i u hu;unfold iM at e |-;split at e<;>try cases e
  rename_i hc;rw[W9 L hc];exact e
 case nilCheck y=>rw[one y (by simp[Op.operands])];exact e
 case binOp op t y z yt=>rw[one y (by simp[Op.operands]),one z (by simp[Op.operands])];exact e
 case unOp op t y=>rw[one y (by simp[Op.operands])];exact e
 case convert s d y=>rw[one y (by simp[Op.operands])];exact e
 case makeFunc fn a b=>
  cases fn<;>(try dsimp only at e |-)<;>try (cases e;done)
  rw[lst a.toList (by intro z hz;simp only[Op.operands];exact Array.mem_append.2 (.inl (Array.mem_toList_iff.1 hz))),lst b.toList (by intro z hz;simp only[Op.operands];exact Array.mem_append.2 (.inr (Array.mem_toList_iff.1 hz)))];exact e
 case slice t y lo hi mx=>
  cases mx<;>(try dsimp only at e |-)<;>try (cases e;done)
  rw[one y (by simp[Op.operands])];split at e<;>try cases e
  rename_i hu;refine WY L e ?_ ?_
  .cases lo with|none=>rfl|some z=>simp only[cU];rw[one z (by simp[Op.operands])]
  .cases hi with|none=>rfl|some z=>simp only[cU];rw[one z (by simp[Op.operands])]
 case fieldAddr t y f=>rw[one y (by simp[Op.operands])];exact e
 case field t y f=>rw[one y (by simp[Op.operands])];exact e
 case indexAddr t y i=>
  rw[one y (by simp[Op.operands]),one i (by simp[Op.operands])];split at e<;>try cases e
  exact V9 L e
 case index t y i=>rw[one y (by simp[Op.operands]),one i (by simp[Op.operands])];exact e
 case extract t i=>rw[one t (by simp[Op.operands])];exact e
 case lookup t y i ck=>
  rw[one y (by simp[Op.operands]),one i (by simp[Op.operands])];split at e<;>try cases e
  split at e<;>cases e;rename_i v hv;rw[XB L hv]
 case call c=>
  split at e<;>try cases e
  rename_i b hb;rw[lst c.args.toList (by intro z hz;simp only[Op.operands,Call.operands,hb];simpa using hz)];split at e<;>try cases e
  rename_i vs hvs;split at e<;>cases e;rename_i v hv;rw[Wb L hv]
def gZ(ops:Array Oper)(T:Tr AV)(o:Oper):Option Bool:=match o.guard with
 |none=>some true|some (j,want)=>match nth ops.toList j with
  |some oj=>match oj.dst with
   |some t=>match T.get t with
    |some (.bool b)=>some (match b with|true=>want|false=>!want)
    |some (.bk [])=>some false|_=>none
   |none=>none
  |none=>none
theorem sA{ops:Array Oper}{T T':Tr AV}{o:Oper}(h:∀t∈looks ops.toList o,T'.get t=T.get t):gZ ops T' o=gZ ops T o:=by
 unfold gZ;split
 .rfl
 .rename_i j want hg;split
  .rename_i oj hj;split
   .rename_i t ht;rw[h t (mc (ops:=ops) hg (by rw[bI]at hj;simpa using hj) ht)]
   .rfl
  .rfl
theorem Gh{ops:Array Oper}{T:Tr AV}{o:Oper}{b:Bool}(e:gZ ops T o=some b){X:Cx}{a:Act}(R:∀t∈looks ops.toList o,∀v,T.get t=some v->∃V,a.tmps[t]?=some V/\Rel X v V) :
  Region.wanted o (yielded ops a.tmps)=b:=by
 unfold gZ at e;unfold Region.wanted;split at e
 .rename_i hg;rw[hg];simp at e;subst e;rfl
 .rename_i j want hg;split at e<;>try cases e
  rename_i oj hj;split at e<;>try cases e
  rename_i t ht;have hj':ops[j]?=some oj:=by rw[bI]at hj;simpa using hj
  have hl:=mc (ops:=ops) hg hj' ht;rw[hg];split at e<;>cases e
  .rename_i c hv;obtain⟨V,h1,h2⟩:=R t hl _ hv;rw[show V=_ from h2]at h1;cases c<;>cases want<;>simp[yielded,hj',ht,h1]
  .rename_i hv;obtain⟨V,h1,cs,rfl,h2⟩:=R t hl _ hv;simp[yielded,hj',ht,h1]
theorem Wg{R:Type}{ops:Array Oper}{T:Tr AV}{o:Oper}{k:Bool->Tr AV->Option R}{r:R}(e:pw ops T o k=some r):∃b T',k b T'=some r/\(∀t,T'.get t=T.get t)/\gZ ops T o=some b:=by
 unfold pw at e;unfold gZ;split at e
 .rename_i hg
  try rw[hg]
  exact⟨true,T,e,fun _=>rfl,rfl⟩
 .rename_i j want hg
  try rw[hg]
  split at e<;>try cases e
  rename_i oj hj;split at e<;>try cases e
  rename_i t ht;split at e<;>try cases e
  rename_i v hv;simp only[hj,ht,hv];split at e
  .rename_i b;have same:∀{T':Tr AV},Tr.set FT T t (some (.bool b))=some T'->∀u,T'.get u=T.get u:=by
    intro T' hs u;rw[Tr.bz _ _ _ _ _ hs u];by_cases q:u=t
    .subst q;rw[if_pos rfl,hv]
    .rw[if_neg q]
   rcases zU e with⟨hb,e2⟩|⟨hb,e2⟩
   .subst hb;clear e;have e:=e2;split at e<;>try cases e
    rename_i T' hset;exact⟨_,T',e,same hset,rfl⟩
   .subst hb;clear e;have e:=e2;split at e<;>try cases e
    rename_i T' hset;exact⟨_,T',e,same hset,rfl⟩
  .exact⟨false,T,e,fun _=>rfl,rfl⟩
  .cases e
def lB{α:Type}(f:α->α->Bool):List α->List α->Bool
 |[],[]=>true|x::l,y::m=>match f x y with|true=>lB f l m|false=>false
 |_,_=>false
theorem Gv{α:Type}{f:α->α->Bool}(h:∀x y,f x y=true->x=y):∀{l m:List α},lB f l m=true->l=m
 |[],[],_=>rfl|x::l,y::m,q=>by
  simp only[lB]at q;split at q
  .rename_i hx;rw[h x y hx,Gv h q]
  .cases q
 |[],_::_,q=>by simp[lB]at q|_::_,[],q=>by simp[lB]at q
theorem J2{α:Type}{f:α->α->Bool}(h:∀x,f x x=true):∀l:List α,lB f l l=true
 |[]=>rfl|x::l=>by simp only[lB,h x];exact J2 h l
def Ad(a b:Int):Bool:=decide (a=b)
def DY(a b:Bool):Bool:=decide (a=b)
theorem S8{a b:Int}(h:Ad a b=true):a=b:=of_decide_eq_true h
theorem XJ{a b:Bool}(h:DY a b=true):a=b:=of_decide_eq_true h
mutual
def Sh.beq:(σ:Sh)->σ.T->σ.T->Bool
 |.int _,a,b=>Ad a b|.bool,a,b=>DY a b|.str,a,b=>Ev.qH a b|.agg l,a,b=>oS l a b|.sl s,a,b=>lB s.beq a b
termination_by structural x=>x
def oS:(l:List Sh)->TL l->TL l->Bool
 |[],_,_=>true|s::l,a,b=>match s.beq a.1 b.1 with|true=>oS l a.2 b.2|false=>false
termination_by structural x=>x
end
mutual
theorem Sh.beq_eq:∀{σ:Sh}{a b:σ.T},σ.beq a b=true->a=b
 |.int _,a,b,h=>S8 h|.bool,a,b,h=>XJ h|.str,a,b,h=>Ev.GW h|.agg l,a,b,h=>LZ (l:=l) h|.sl s,a,b,h=>Gv (fun x y q=>Sh.beq_eq q) h
theorem LZ:∀{l:List Sh}{a b:TL l},oS l a b=true->a=b
 |[],a,b,_=>rfl|s::l,a,b,h=>by
  simp only[oS]at h;split at h
  .rename_i q;exact Prod.ext (Sh.beq_eq q) (LZ h)
  .cases h
end
def Vf{τ τ':Sh}(h:τ.eqv τ'=true)(x:τ.T):τ'.T:=Sh.dc h▸x
mutual
def ec:AV->AV->Option Bool
 |.bool a,v=>match v with|.bool b=>some (decide (a=b))|_=>none
 |.int k a,v=>match v with|.int k' b=>(match gL k k' with|true=>some (decide (a=b))|false=>none)|_=>none
 |.str a,v=>match v with|.str b=>some (Ev.qH a b)|_=>none
 |.cg,v=>match v with|.cg=>some true|_=>none
 |.av,v=>match v with|.av=>some true|_=>none
 |.cE,v=>match v with|.cE=>some true|_=>none
 |.cD,v=>match v with|.cD=>some true|_=>none
 |.cZ,v=>match v with|.cZ=>some true|_=>none
 |.fU,_=>none|.ptr b o,v=>match v with|.ptr b' o'=>(match Nat.beq b b',Nat.beq o o' with|true,true=>some true|_,_=>none)|_=>none
 |.da b i z o,v=>match v with|.da b' i' z' o'=>(match Nat.beq b b',Nat.beq z z',Nat.beq o o' with|true,true,true=>some (decide (i=i'))|_,_,_=>none)|_=>none
 |.dO σ d o,v=>match v with|.dO σ' d' o'=>(match e:σ.eqv σ',Nat.beq o o' with|true,true=>some (σ'.beq (Vf e d) d')|_,_=>none)|_=>none
 |.hd b τ,v=>match v with|.hd b' τ'=>(match Nat.beq b b',τ.eqv τ' with|true,true=>some true|_,_=>none)|_=>none
 |.vw b τ o n,v=>match v with|.vw b' τ' o' n'=>(match Nat.beq b b',τ.eqv τ' with|true,true=>some (both (decide (o=o')) (decide (n=n')))|_,_=>none)|_=>none
 |.fz τ L,v=>match v with|.fz τ' L'=>(match e:τ.eqv τ' with|true=>some (lB τ'.beq (gg e L) L')|false=>none)|_=>none
 |.func f x c,v=>match v with|.func f' x' c'=>(match Nat.beq f f',lM x x',lM c c' with|true,some p,some q=>some (both p q)|_,_,_=>none)|_=>none
 |.eW _ _ _,_=>none|.mp b,v=>match v with|.mp b'=>(match Nat.beq b b' with|true=>some true|false=>none)|_=>none
 |.dk b,v=>match v with|.dk b'=>(match Nat.beq b b' with|true=>some true|false=>none)|_=>none
 |.rp b i,v=>match v with|.rp b' i'=>(match Nat.beq b b' with|true=>some (decide (i=i'))|false=>none)|_=>none
 |.ra b i,v=>match v with|.ra b' i'=>(match Nat.beq b b' with|true=>some (decide (i=i'))|false=>none)|_=>none
 |.agg l,v=>match v with|.agg m=>lM l m|_=>none
 |.bk l,v=>match v with|.bk m=>lM l m|_=>none
termination_by structural x=>x
def lM:List AV->List AV->Option Bool
 |[],m=>match m with|[]=>some true|_=>none
 |x::l,m=>match m with
  |y::m=>(match ec x y,lM l m with|some p,some q=>some (both p q)|_,_=>none)
  |[]=>none
termination_by structural x=>x
end
mutual
theorem JO:∀{a b:AV},ec a b=some true->a=b
 |.bool a,b,h=>by cases b<;>simp only[ec]at h<;>first|(cases h;done)|(simp only[aX,decide_eq_true_eq]at h;rw[h])
 |.int k a,b,h=>by
  cases b<;>simp only[ec]at h<;>first|(cases h;done)|skip
  split at h<;>try cases h
  rename_i hk;simp only[aX,decide_eq_true_eq]at h;rw[jc hk,h]
 |.str a,b,h=>by cases b<;>simp only[ec]at h<;>first|(cases h;done)|(simp only[aX]at h;rw[Ev.GW h])
 |.cg,b,h=>by cases b<;>simp only[ec]at h<;>first|rfl|cases h
 |.av,b,h=>by cases b<;>simp only[ec]at h<;>first|rfl|cases h
 |.cE,b,h=>by cases b<;>simp only[ec]at h<;>first|rfl|cases h
 |.cD,b,h=>by cases b<;>simp only[ec]at h<;>first|rfl|cases h
 |.cZ,b,h=>by cases b<;>simp only[ec]at h<;>first|rfl|cases h
 |.fU,b,h=>by simp only[ec]at h;cases h
 |.ptr x o,b,h=>by
  cases b<;>simp only[ec]at h<;>first|(cases h;done)|skip
  split at h<;>try cases h
  rename_i h1 h2;rw[aA h1,aA h2]
 |.da x i z o,b,h=>by
  cases b<;>simp only[ec]at h<;>first|(cases h;done)|skip
  split at h<;>try cases h
  rename_i h1 h2 h3;simp only[aX,decide_eq_true_eq]at h;rw[aA h1,aA h2,aA h3,h]
 |.dO σ d o,b,h=>by
  cases b<;>simp only[ec]at h<;>first|(cases h;done)|skip
  split at h<;>try cases h
  rename_i σ' d' o' h1 h2;simp only[aX]at h;have h:=Sh.beq_eq h;rw[aA h2,<-h];have:=Sh.dc h1;subst this;rfl
 |.hd x τ,b,h=>by
  cases b<;>simp only[ec]at h<;>first|(cases h;done)|skip
  split at h<;>try cases h
  rename_i h1 h2;rw[aA h1,Sh.dc h2]
 |.vw x τ o n,b,h=>by
  cases b<;>simp only[ec]at h<;>first|(cases h;done)|skip
  split at h<;>try cases h
  rename_i h1 h2;simp only[aX]at h;obtain⟨h3,h4⟩:=jF h;simp only[decide_eq_true_eq]at h3 h4;rw[aA h1,Sh.dc h2,h3,h4]
 |.fz τ L,b,h=>by
  cases b<;>simp only[ec]at h<;>first|(cases h;done)|skip
  split at h<;>try cases h
  rename_i τ' L' h1;simp only[aX]at h;have h:=Gv (fun x y q=>Sh.beq_eq q) h;rw[<-h];have:=Sh.dc h1;subst this;rfl
 |.func f x c,b,h=>by
  cases b<;>simp only[ec]at h<;>first|(cases h;done)|skip
  split at h<;>try cases h
  rename_i p q h1 h2 h3;simp only[aX]at h;obtain⟨h4,h5⟩:=jF h;subst h4;subst h5;rw[aA h1,sO h2,sO h3]
 |.eW _ _ _,b,h=>by simp only[ec]at h;cases h
 |.mp x,b,h=>by
  cases b<;>simp only[ec]at h<;>first|(cases h;done)|skip
  split at h<;>try cases h
  rename_i h1;rw[aA h1]
 |.dk x,b,h=>by
  cases b<;>simp only[ec]at h<;>first|(cases h;done)|skip
  split at h<;>try cases h
  rename_i h1;rw[aA h1]
 |.rp x i,b,h=>by
  cases b<;>simp only[ec]at h<;>first|(cases h;done)|skip
  split at h<;>try cases h
  rename_i h1;simp only[aX,decide_eq_true_eq]at h;rw[aA h1,h]
 |.ra x i,b,h=>by
  cases b<;>simp only[ec]at h<;>first|(cases h;done)|skip
  split at h<;>try cases h
  rename_i h1;simp only[aX,decide_eq_true_eq]at h;rw[aA h1,h]
 |.agg l,b,h=>by cases b<;>simp only[ec]at h<;>first|(cases h;done)|(rw[sO h])
 |.bk l,b,h=>by cases b<;>simp only[ec]at h<;>first|(cases h;done)|(rw[sO h])
theorem sO:∀{a b:List AV},lM a b=some true->a=b
 |[],b,h=>by cases b<;>simp only[lM]at h<;>first|rfl|cases h
 |x::l,b,h=>by
  cases b<;>simp only[lM]at h<;>first|(cases h;done)|skip
  split at h<;>try cases h
  rename_i p q h1 h2;simp only[aX]at h;obtain⟨h4,h5⟩:=jF h;subst h4;subst h5;rw[JO h1,sO h2]
end
def uA(ts:List Nat):List Nat->Bool
 |[]=>true|x::l=>match fD x ts with|true=>false|false=>uA ts l
theorem QQ{ts:List Nat}:∀{l:List Nat},uA ts l=true->∀x∈l,x∉ts
 |[],_,x,hx=>by cases hx
 |y::l,h,x,hx=>by
  simp only[uA]at h;split at h<;>try cases h
  rename_i q;rcases List.mem_cons.1 hx with rfl|hx
  .intro r;rw[lq.2 r]at q;cases q
  .exact QQ h x hx
def mv(q:Nat):List Oper->List PE->List Nat
 |o::l,pe::ps=>match pe with|.w _=>mv q l ps|.p lo _=>match Nat.beq lo q,o.dst with|true,some t=>t::mv q l ps|_,_=>mv q l ps
 |_,_=>[]
theorem QN{q:Nat}:∀{os:List Oper}{ps:List PE}{x:Nat}{o:Oper}{hi:Nat}{t:Tmp},os[x]?=some o->ps[x]?=some (.p q hi)->o.dst=some t->t∈mv q os ps
 |[],ps,x,o,hi,t,h,_,_=>by simp at h|o'::os,[],x,o,hi,t,_,h,_=>by simp at h|o'::os,pe::ps,x,o,hi,t,h1,h2,h3=>by
  simp only[mv];cases x with
  |zero=>simp at h1 h2;subst h1;subst h2;have:Nat.beq q q=true:=Nat.beq_refl q;simp[this,h3]|succ x=>
   have:=QN (q:=q) (x:=x) (by simpa using h1) (by simpa using h2) h3;cases pe with
   |w j=>exact this|p lo hi'=>
    simp only[];split
    .exact List.mem_cons_of_mem _ this
    .exact this
def dl:Option Tmp->List Nat|some t=>[t]|none=>[]
def qm(n:Nat):List Oper->Bool
 |[]=>true|o::l=>match o.dst with
  |some t=>match Nat.blt t n with|true=>qm n l|false=>false
  |none=>qm n l
theorem GB{n:Nat}:∀{os:List Oper},qm n os=true->∀(x:Nat) (o:Oper) (t:Tmp),os[x]?=some o->o.dst=some t->t<n
 |[],_,x,o,t,h,_=>by simp at h|o'::os,h,x,o,t,h1,h2=>by
  simp only[qm]at h;cases x with
  |zero=>
   simp at h1;subst h1;simp only[h2]at h;split at h<;>try cases h
   rename_i q
   rwa [Nat.blt_eq]at q
  |succ x=>
   have h1:os[x]?=some o:=by simpa using h1
   split at h
   .split at h<;>try cases h
    exact GB h x o t h1 h2
   .exact GB h x o t h1 h2
def kJ:List Oper->List PE->List Nat->Bool
 |o::l,pe::ps,seen=>match o.dst with
  |some t=>match fD t seen with|true=>false|false=>kJ l ps (t::seen)
  |none=>match pe with|.w _=>kJ l ps seen|.p _ _=>match dJ o.op with|true=>false|false=>kJ l ps seen
 |_,_,_=>true
theorem yo:∀{os:List Oper}{ps:List PE}{seen:List Nat},kJ os ps seen=true->os.length=ps.length->∀(x:Nat) (o:Oper) (t:Tmp),os[x]?=some o->o.dst=some t->t∉seen
 |[],ps,seen,_,_,x,o,t,h,_=>by simp at h|o'::os,[],seen,_,h,x,o,t,_,_=>by simp at h|o'::os,pe::ps,seen,h,hl,x,o,t,h1,h2=>by
  simp only[kJ]at h;simp only[cx,Nat.add_right_cancel_iff]at hl;cases x with
  |zero=>
   simp at h1;subst h1;simp only[h2]at h;split at h<;>try cases h
   rename_i q;intro r;rw[lq.2 r]at q;cases q
  |succ x=>
   have h1:os[x]?=some o:=by simpa using h1
   split at h
   .split at h<;>try cases h
    exact fun r=>yo h hl x o t h1 h2 (List.mem_cons_of_mem _ r)
   .split at h
    .exact yo h hl x o t h1 h2
    .split at h<;>try cases h
     exact yo h hl x o t h1 h2
theorem Q4:∀{os:List Oper}{ps:List PE}{seen:List Nat},kJ os ps seen=true->os.length=ps.length->(∀(x y:Nat) (o o':Oper) (t:Tmp),os[x]?=some o->os[y]?=some o'->o.dst=some t->o'.dst=some t->x=y) /\
  ∀(x:Nat) (o:Oper) (lo hi:Nat),os[x]?=some o->ps[x]?=some (.p lo hi)->dJ o.op=true->∃t,o.dst=some t
 |[],ps,seen,_,_=>⟨fun x y o o' t h=>by simp at h,fun x o lo hi h=>by simp at h⟩|o₁::os,[],seen,_,h=>by simp at h|o₁::os,pe::ps,seen,h,hl=>by
  simp only[kJ]at h;simp only[cx,Nat.add_right_cancel_iff]at hl;have main:∀seen',kJ os ps seen'=true->(∀t,o₁.dst=some t->t∈seen')->(o₁.dst=none->∀lo hi,pe=.p lo hi->dJ o₁.op=false) ->
    (∀(x y:Nat) (o o':Oper) (t:Tmp),(o₁::os)[x]?=some o->(o₁::os)[y]?=some o'->o.dst=some t->o'.dst=some t->x=y) /\
    ∀(x:Nat) (o:Oper) (lo hi:Nat),(o₁::os)[x]?=some o->(pe::ps)[x]?=some (.p lo hi)->dJ o.op=true->∃t,o.dst=some t:=by
   intro seen' hk ba hmk;obtain⟨r1,r2⟩:=Q4 hk hl;have sn:=yo hk hl;constructor
   .intro x y o o' t hx hy h1 h2;cases x with
    |zero=>cases y with|zero=>rfl|succ y=>simp at hx hy;subst hx;exact absurd (ba t h1) (sn y o' t hy h2)
    |succ x=>cases y with|zero=>simp at hx hy;subst hy;exact absurd (ba t h2) (sn x o t hx h1)|succ y=>rw[r1 x y o o' t (by simpa using hx) (by simpa using hy) h1 h2]
   .intro x o lo hi hx hp hm;cases x with
    |zero=>simp at hx hp;subst hx;cases hd:o₁.dst with|some t=>exact⟨t,rfl⟩|none=>have:=hmk hd lo hi hp;rw[hm]at this;cases this
    |succ x=>exact r2 x o lo hi (by simpa using hx) (by simpa using hp) hm
  split at h
  .rename_i t ht;split at h<;>try cases h
   exact main _ h (fun t' h'=>by rw[ht]at h';cases h';simp) (fun h'=>by rw[ht]at h';cases h')
  .rename_i hd;split at h
   .exact main _ h (fun t h'=>by rw[hd]at h';cases h') (fun _ lo hi q=>by cases q)
   .split at h<;>try cases h
    rename_i hm;exact main _ h (fun t h'=>by rw[hd]at h';cases h') (fun _ _ _ _=>hm)
section
variable{R:Type}(P:Program)(sh:TypeId->Option Sh)(call:fj R)
def Bz(n:Nat)(ops:Array Oper)(o:Oper)(st:St)(k:St->Option R):Option R:=pw ops st.T o fun b T=>match b with
 |false=>match cI n T o.dst (.bk [])with|some T=>k ⟨T,st.h⟩|none=>none
 |true=>match fJ P sh T st.h st.h.next o.op with
  |some (g,ob,v)=>match Tr.set FT st.h.tr st.h.next (some ob),cI n T o.dst v with|some tr,some T=>ak g (k ⟨T,⟨tr,st.h.next+1⟩⟩)|_,_=>none
  |none=>match gb P T st.h o with
   |some (g,v)=>match cI n T o.dst v with|some T=>ak g (k ⟨T,st.h⟩)|none=>none
   |none=>none
def kg(n:Nat)(ops:Array Oper)(q:Nat):List Oper->List PE->St->(St->Option R)->Option R
 |o::l,pe::ps,st,k=>match pe with|.w _=>kg n ops q l ps st k|.p lo _=>match Nat.beq lo q with|false=>kg n ops q l ps st k|true=>Bz P sh n ops o st fun st=>kg n ops q l ps st k
 |_,_,st,k=>k st
def je(ops:Array Oper)(q:Nat)(ch:Bool)(ts:List Nat)(st:St):List Oper->List PE->Option R->Option R
 |o::l,pe::ps,k=>match pe with
  |.w _=>je ops q ch ts st l ps k|.p lo hi=>match Nat.blt lo q,Nat.ble q hi with
   |true,true=>match uA ts (looks ops.toList o)with
    |false=>none|true=>match ch,dJ o.op with
     |true,false=>match gZ ops st.T o with
      |some true=>match gb P st.T st.h o,o.dst with
       |some (g,v),some t=>match st.T.get t with
        |some u=>match ec u v with|some s=>ak g (ak s (je ops q ch ts st l ps k))|none=>none
        |none=>none
       |some (g,v),none=>ak g (je ops q ch ts st l ps k)|_,_=>none
      |some false=>je ops q ch ts st l ps k|none=>none
     |_,_=>je ops q ch ts st l ps k
   |_,_=>je ops q ch ts st l ps k
 |_,_,k=>k
def uj(n:Nat)(ops:Array Oper)(pl:List PE):Nat->Nat->St->(St->Option R)->Option R
 |0,_,st,k=>k st|r+1,q,st,k=>match jn (q+1) ops.toList pl with|some o=>uu P sh call n ops o st fun ch st₁=>kg P sh n ops (q+1) ops.toList pl st₁ fun st₂=>je P ops (q+1) ch (dl o.dst++mv (q+1) ops.toList pl) st₂ ops.toList pl (uj n ops pl r (q+1) st₂ k)|none=>none
def zW(n:Nat)(ops:Array Oper)(st:St)(k:St->Option R):Option R:=match oe ops.toList (ik ops.toList)with
 |some m=>match kJ ops.toList (ik ops.toList) [],qm n ops.toList with|true,true=>kg P sh n ops 0 ops.toList (ik ops.toList) st fun st=>uj P sh call n ops (ik ops.toList) m 0 st k|_,_=>none
 |none=>none
end
def PN(P:Program)(sh:TypeId->Option Sh)(ops:Array Oper)(b:Nat)(T:Tr AV)(h:Hp)(o:Oper)(v:AV):Prop:=
 (gZ ops T o=some false/\v=.bk [])\/(gZ ops T o=some true/\dJ o.op=false/\gb P T h o=some (true,v)) \/
 (gZ ops T o=some true/\dJ o.op=true/\∃id ob,fJ P sh T h id o.op=some (true,ob,v)/\h.tr.get id=some ob/\id<h.next/\b<=id)
theorem PN.congr{P:Program}{sh:TypeId->Option Sh}{ops:Array Oper}{b b':Nat}{T T':Tr AV}{h h':Hp}{o:Oper}{v:AV}(p:PN P sh ops b T h o v)(hT:∀t∈looks ops.toList o,T'.get t=T.get t)(hh:dm h h')(hn:h.next<=h'.next)(hb:b'<=b):PN P sh ops b' T' h' o v:=by
 have hw:=sA (ops:=ops) (T:=T) (T':=T') hT;have hO:∀t,.tmp t∈o.op.operands->T'.get t=T.get t:=fun t q=>hT t (jb q);rcases p with⟨h1,h2⟩|⟨h1,h2,h3⟩|⟨h1,h2,id,ob,h3,h4,h5,h6⟩
 .exact .inl ⟨hw.trans h1,h2⟩
 .exact .inr (.inl ⟨hw.trans h1,h2,GP hh h3 hO⟩)
 .exact .inr (.inr ⟨hw.trans h1,h2,id,ob,GS h3 hO,hh _ _ h4,Nat.lt_of_lt_of_le h5 hn,Nat.le_trans hb h6⟩)
