import Derived.Test.YtmkbdfidnfmgmaaGreatKMc
set_option linter.all false
section
namespace Go.Proofs.YtmkbdfidnfmgmaaGreat.V
open Go Go.RowKit
open Go.Proofs.YtmkbdfidnfmgmaaGreat.Ev (Tr Tr.d6 nth fc)
structure St where
 T:Tr AV
 h:Hp
structure lN(X:Cx)(n:Nat)(T:Tr AV)(a:Act):Prop where
 size:a.tmps.size=n
 defers:a.defers=[]
 get:∀t v,T.get t=some v->∃V,a.tmps[t]?=some V/\Rel X v V
structure RF(X:Cx)(n:Nat)(st:St)(a:Act):Prop where
 h:X.h=st.h
 T:lN X n st.T a
 H:bn X
def jg(n:Nat)(T:Tr AV)(d:Option Tmp)(v:AV):Option (Tr AV):=match d with|none=>some T|some t=>match Nat.blt t n with|true=>Tr.set FT T t (some v)|false=>none
variable{X:Cx}{a:Act}{n:Nat}{T:Tr AV}
theorem lN.ext{X':Cx}(R:lN X n T a)(E:jm X X'):lN X' n T a:=⟨R.size,R.defers,fun t v h=>let⟨V,h1,h2⟩:=R.get t v h;⟨V,h1,h2.ext E⟩⟩
variable{v:AV}{d:Option Tmp}{T':Tr AV}
theorem qo(h:jg n T d v=some T'):∀t,T'.get t=if d=some t then some v else T.get t:=by
 intro t;unfold jg at h;split at h
 .simp at h;subst h;simp
 .rename_i x;split at h<;>try cases h
  rw[Tr.d6 _ _ _ _ _ h t]
  grind
theorem Pq{t:Tmp}(h:jg n T (some t) v=some T'):t<n:=by
 simp only[jg]at h;split at h<;>try cases h
 simp_all
theorem lN.put{V:Value}(R:lN X n T a)(hv:Rel X v V)(h:jg n T d v=some T'):lN X n T' (a.put d V):=by
 have hg:=qo h;cases d with
 |none=>refine⟨R.size,R.defers,?_⟩;intro t u hu;rw[hg t]at hu;simp at hu;exact R.get t u hu|some t=>
  have hlt:=Pq h;refine⟨by simp[Act.put,R.size],by simp[Act.put,R.defers],?_⟩;intro u x hu;rw[hg u]at hu;simp only[Act.put,asV];by_cases q:t=u
  .subst q;simp at hu;subst hu;exact⟨V,by simp[R.size,hlt],hv⟩
  .rw[Fr (by grind)]at hu;rw[Fr q];exact R.get u x hu
def fT(h h':Hp):Prop:=∀b o,h.tr.get b=some o->h'.tr.get b=some o
theorem fT.refl(h:Hp):fT h h:=fun _ _ q=>q
theorem fT.trans{a b c:Hp}(x:fT a b)(y:fT b c):fT a c:=fun i o q=>y i o (x i o q)
abbrev jz(R:Type):=FuncId->List AV->Hp->(Bool->AV->Hp->Option R)->Option R
def Fp(P:Program)(f:FuncId)(vs:List AV)(h:Hp)(v:AV)(h':Hp):Prop:=
 (∃fn c,P.funcs[f]?=some fn/\(fn.name == "runtime.NumGoroutine")=false/\fn.body=some c) /\
 ∀X args,X.h=h->bn X->cE X vs args->Calls P f (List.toArray args) X.w fun e w'=>∃X' V,e=.returned V/\X'.w=w'/\X'.h=h'/\bn X'/\bL X X'/\Rel X' v V
def lx(P:Program){R:Type}(call:jz R):Prop:=∀f vs h k r,call f vs h k=some r->∃ch v h',k ch v h'=some r/\(ch=false->fT h h')/\Fp P f vs h v h'
def aj{R:Type}(g:Bool)(r:Option R):Option R:=match g with|true=>r|false=>none
def br{R:Type}(b:Bool)(x y:Option R):Option R:=match b with|true=>x|false=>y
theorem sb{R:Type}{g:Bool}{x:Option R}{r:R}(h:aj g x=some r):g=true/\x=some r:=by
 cases g
 .cases h
 .exact⟨rfl,h⟩
theorem OO{R:Type}{b:Bool}{x y:Option R}{r:R}(h:br b x y=some r):(b=true/\x=some r)\/(b=false/\y=some r):=by
 cases b
 .exact .inr ⟨rfl,h⟩
 .exact .inl ⟨rfl,h⟩
def al4:Op->Bool|.buildSlice _ _ _=>true|_=>false
def post(sh:TypeId->Option Sh)(n:Nat)(o:Oper)(st:St):Option St:=match al4 o.op with
 |false=>some st|true=>match sh 1000000000 with
  |none=>some st|some _=>match o.dst with
   |none=>some st|some t=>match st.T.get t with
    |some (.hd b τ)=>match tA true st.h (.sl τ) (.hd b τ)with
     |some (d,h')=>match jg n st.T (some t) (.fz τ d)with|some T=>some ⟨T,h'⟩|none=>none
     |none=>none
    |_=>some st
variable{st:St}{o:Oper}
theorem afW{sh:TypeId->Option Sh}{st':St}(h:post sh n o st=some st')(R:RF X n st a):∃X',X'.w=X.w/\RF X' n st' a/\bL X X':=by
 have triv:∀{s:St},some s=some st'->s=st->∃X',X'.w=X.w/\RF X' n st' a/\bL X X':=by intro s e q;cases e;subst q;exact⟨X,rfl,R,bL.refl X⟩
 unfold post at h;split at h
 .exact triv h rfl
 split at h
 .exact triv h rfl
 split at h
 .exact triv h rfl
 rename_i t hdt;split at h
 .rename_i b τ hg;split at h<;>try cases h
  rename_i d h' hf;split at h<;>cases h;rename_i T hT;obtain⟨V,hV,RV⟩:=R.T.get t _ hg;rw[<-R.h]at hf;obtain⟨Fz,hd⟩:=PB R.H hf RV;refine⟨⟨X.s,h',X.w,X.A⟩,rfl,⟨rfl,?_,Fz.H⟩,Fz.E⟩;have R':=R.T.ext (Fz.E.fC R.H);refine⟨R'.size,R'.defers,?_⟩;intro u x hu;rw[qo hT u]at hu;by_cases q:t=u
  .subst q;rw[IO rfl]at hu;cases hu;exact⟨V,hV,JC (σ:=.sl τ) hd⟩
  .rw[Fr (by grind)]at hu;exact R'.get u x hu
 .exact triv h rfl
section
variable{R:Type}(P:Program)(sh:TypeId->Option Sh)(call:jz R)
def ad0(o:Oper):Bool:=match o.op with|.assign _=>true|_=>false
def PU(T:Tr AV)(h:Hp)(o:Oper)(k:Bool->AV->Hp->Option R):Option R:=match TY T o with
 |some (f,vs)=>call f vs h k|none=>match Hk P sh T h o with
  |some (g,v,h')=>aj g (k (!ad0 o) v h')|none=>match o8 P sh T h h.next o.op with
   |some (g,ob,v)=>match Tr.set FT h.tr h.next (some ob)with|some tr=>aj g (k true v ⟨tr,h.next+1⟩)|none=>none
   |none=>match nc P T h o with|some (g,v)=>aj g (k false v h)|none=>none
def vO(ops:Array Oper)(T:Tr AV)(o:Oper)(k:Bool->Tr AV->Option R):Option R:=match o.guard with
 |none=>k true T|some (j,want)=>match nth ops.toList j with
  |some oj=>match oj.dst with
   |some t=>match T.get t with
    |some v=>match v with
     |.bool b=>br b (match Tr.set FT T t (some (.bool true))with|some T=>k want T|none=>none) (match Tr.set FT T t (some (.bool false))with|some T=>k (!want) T|none=>none)
     |.dW []=>k false T|_=>none
    |none=>none
   |none=>none
  |none=>none
def FL(n:Nat)(ops:Array Oper)(o:Oper)(st:St)(k:Bool->St->Option R):Option R:=vO ops st.T o fun b T=>match b with
 |true=>PU P sh call T st.h o fun ch v h'=>match jg n T o.dst v with|some T=>k ch ⟨T,h'⟩|none=>none
 |false=>match jg n T o.dst (.dW [])with|some T=>k false ⟨T,st.h⟩|none=>none
def Px(n:Nat)(ops:Array Oper)(o:Oper)(st:St)(k:St->Option R):Option R:=FL P sh call n ops o st fun _ st=>match post sh n o st with|some st=>k st|none=>none
def FR(n:Nat)(ops:Array Oper):List Oper->St->(St->Option R)->Option R
 |[],st,k=>k st|o::l,st,k=>Px P sh call n ops o st fun st=>FR n ops l st k
end
def Fo(P:Program)(T:Tr AV)(h:Hp)(o:Oper)(v:AV)(h':Hp):Prop:=∀X a,X.h=h->bn X->pT X T a o.op->∀(K:Act->World->Prop) (Q:Exit->Act->World->Prop),
 (∀X' V,bL X X'->bn X'->X'.h=h'->Rel X' v V->K (a.put o.dst V) X'.w)->o.wp P a X.w K Q
theorem ap7{R:Type}{P:Program}{sh:TypeId->Option Sh}{call:jz R}(hc:lx P call){h:Hp}{k:Bool->AV->Hp->Option R}{r:R}(e:PU P sh call T h o k=some r) :
  ∃ch v h',k ch v h'=some r/\(ch=false->fT h h')/\Fo P T h o v h':=by
 unfold PU at e;split at e
 .rename_i f vs hw;obtain⟨ch,v,h',hk,hch,⟨fn,c,hf,hn,hb⟩,hcall⟩:=hc f vs h k r e;refine⟨ch,v,h',hk,hch,?_⟩;intro X a hX H hO K Q hK;obtain⟨Vs,hrun,hR⟩:=Zs1 hw hO hf hn hb X.w;unfold Oper.wp;rw[hrun,Oper.upon_enter];refine(hcall X Vs hX H hR).mono ?_
  grind
 .split at e
  .rename_i g v h' hr;obtain⟨hg,hk⟩:=sb e;refine⟨_,v,h',hk,?_,?_⟩
   .intro hs;unfold ad0 at hs;split at hs
    .rename_i x ho;unfold Hk at hr;rw[ho]at hr;simp only[]at hr;split at hr<;>cases hr;exact fT.refl h
    .cases hs
   intro X a hX H hO K Q hK;subst hX;obtain⟨X',n,V,hrun,hgv,h1,h2,h3,h4⟩:=Zvo H hr hg hO;unfold Oper.wp;rw[hrun];rcases hgv with rfl|⟨rfl,rfl⟩
   .exact hK X' V h3 h2 h1 h4
   .exact hK X' undef h3 h2 h1 h4
  .split at e
   .rename_i g ob v ha;split at e<;>try cases e
    rename_i tr ht;obtain⟨hg,hk⟩:=sb e;refine⟨_,v,_,hk,(fun q=>by cases q),?_⟩;intro X a hX H hO K Q hK;subst hX;obtain⟨c,ob',V,hrun,hm⟩:=Zx7 H ha hg hO;have E:=adQ (c:=c) (ob:=ob') H ht;have hg:=Tr.d6 FT X.h.tr X.h.next _ tr ht;have M:Made X ⟨dw X.s X.h.next (.at X.w.heap.size c),⟨tr,X.h.next+1⟩,{ X.w with heap:=X.w.heap.push ob' },X.A⟩ X.h.next c ob ob':=⟨E.fC H,rfl,iu _ _ _,by show tr.get _=_;rw[hg,IO rfl]⟩;obtain⟨q1,q2⟩:=hm _ M;unfold Oper.wp;rw[hrun];exact hK _ V E (H.new ht q1) rfl q2
   .split at e<;>try cases e
    rename_i g v hr;obtain⟨hg,hk⟩:=sb e;refine⟨_,v,h,hk,(fun _=>fT.refl h),?_⟩;intro X a hX H hO K Q hK;subst hX;obtain⟨V,hrun,hR⟩:=Zlk H hr hg hO;unfold Oper.wp;rw[hrun];exact hK X V (bL.refl X) H rfl hR
structure FU(ops:Array Oper)(T:Tr AV)(o:Oper)(b:Bool)(T':Tr AV):Prop where
 bU:∀X n a,lN X n T a->lN X n T' a
 is:∀(X:Cx) (a:Act),(∀j w oj t v,o.guard=some (j,w)->ops[j]?=some oj->oj.dst=some t->T.get t=some v->∃V,a.tmps[t]?=some V/\Rel X v V)->Region.wanted o (yielded ops a.tmps)=b
 get:∀t v,T'.get t=some v->T.get t=some v
 get':∀t v,T.get t=some v->T'.get t=some v
variable{ops:Array Oper}
theorem apn{R:Type}{k:Bool->Tr AV->Option R}{r:R}(e:vO ops T o k=some r):∃b T',k b T'=some r/\FU ops T o b T':=by
 unfold vO at e;split at e
 .rename_i hg;exact⟨true,T,e,fun _ _ _ h=>h,fun X a _=>by unfold Region.wanted;rw[hg],fun _ _ h=>h,fun _ _ h=>h⟩
 .rename_i j want hg;split at e<;>try cases e
  rename_i oj hj;split at e<;>try cases e
  rename_i t ht;split at e<;>try cases e
  rename_i v hv;have hj':ops[j]?=some oj:=by rw[fc]at hj;simpa using hj
  have same:∀{b:Bool}{T':Tr AV},v=.bool b->Tr.set FT T t (some (.bool b))=some T'->∀u,T'.get u=T.get u:=by
   intro b T' hb hs u;rw[Tr.d6 _ _ _ _ _ hs u]
   grind
  split at e
  .rename_i b;rcases OO e with⟨rfl,e2⟩|⟨rfl,e2⟩
   .clear e;have e:=e2;split at e<;>try cases e
    rename_i T' hset;have hs:=same (b:=true) rfl hset;refine⟨want,T',e,fun X n a R=>⟨R.size,R.defers,fun u x hu=>R.get u x (by rw[<-hs u];exact hu)⟩,?_,fun u x hu=>by rw[<-hs u];exact hu,fun u x hu=>by rw[hs u];exact hu⟩;intro X a R;obtain⟨V,h1,h2⟩:=R j want oj t _ hg hj' ht hv;rw[show V=_ from h2]at h1;unfold Region.wanted;rw[hg];cases want<;>simp[yielded,hj',ht,h1]
   .clear e;have e:=e2;split at e<;>try cases e
    rename_i T' hset;have hs:=same (b:=false) rfl hset;refine⟨!want,T',e,fun X n a R=>⟨R.size,R.defers,fun u x hu=>R.get u x (by rw[<-hs u];exact hu)⟩,?_,fun u x hu=>by rw[<-hs u];exact hu,fun u x hu=>by rw[hs u];exact hu⟩;intro X a R;obtain⟨V,h1,h2⟩:=R j want oj t _ hg hj' ht hv;rw[show V=_ from h2]at h1;unfold Region.wanted;rw[hg];cases want<;>simp[yielded,hj',ht,h1]
  .refine⟨false,T,e,fun _ _ _ h=>h,?_,fun _ _ h=>h,fun _ _ h=>h⟩;intro X a R;obtain⟨V,h1,cs,rfl,h2⟩:=R j want oj t _ hg hj' ht hv;unfold Region.wanted;rw[hg];simp[yielded,hj',ht,h1]
  .cases e
def am3(P:Program)(n:Nat)(ops:Array Oper)(i:Nat)(st st':St):Prop:=∀X a,RF X n st a->∀(K:Act->World->Prop) (Q:Exit->Act->World->Prop),
 (∀X' a',RF X' n st' a'->bL X X'->K a' X'.w)->wpOp P ops Q i K a X.w
theorem Zyu{R:Type}{P:Program}{sh:TypeId->Option Sh}{call:jz R}(hc:lx P call){k:Bool->St->Option R}{r:R}
  (e:FL P sh call n ops o st k=some r):∃ch st' b T v,k ch st'=some r/\(ch=false->fT st.h st'.h)/\FU ops st.T o b T/\jg n T o.dst v=some st'.T /\
   ((b=true/\Fo P T st.h o v st'.h)\/(b=false/\v=.dW []/\st'.h=st.h)):=by
 unfold FL at e;obtain⟨b,T,e,W⟩:=apn e;cases b with
 |true=>
  simp only[]at e;obtain⟨ch,v,h',e,hch,A⟩:=ap7 hc e
  grind
 |false=>
  simp only[]at e;split at e<;>try cases e
  rename_i T' hT;exact⟨false,⟨T',st.h⟩,false,T,.dW [],e,fun _=>fT.refl _,W,hT,.inr ⟨rfl,rfl,rfl⟩⟩
theorem apy{R:Type}{P:Program}{sh:TypeId->Option Sh}{call:jz R}(hc:lx P call){i:Nat}{k:St->Option R}{r:R}
  (e:Px P sh call n ops o st k=some r) (hi:ops[i]?=some o):∃st',k st'=some r/\am3 P n ops i st st':=by
 unfold Px at e;obtain⟨ch,st',b,T,v,e,_,W,hT,A⟩:=Zyu hc e;split at e<;>try cases e
 rename_i avU hp;refine⟨avU,e,?_⟩;intro X a RR K Q hK;have R':=W.bU X n a RR.T;unfold wpOp;rw[hi];simp only[];rw[W.is X a (fun j w oj t v _ _ _ hv=>RR.T.get t v hv)];rcases A with⟨rfl,A⟩|⟨rfl,rfl,hh⟩
 .simp only[aub];left;refine A X a RR.h RR.H (TU fun t _ u hu=>R'.get t u hu) K Q ?_;intro X' V E H' hh hv;obtain⟨X'',hw,R'',E''⟩:=afW hp (X:=X') ⟨hh,(R'.ext (E.fC RR.H)).put hv hT,H'⟩;rw[<-hw];exact hK X'' _ R'' (E.trans E'')
 .simp only[asL,aua];obtain⟨X'',hw,R'',E''⟩:=afW hp (X:=X) ⟨by rw[hh];exact RR.h,R'.put (v:=.dW []) (V:=undef) ⟨[],rfl,rfl⟩ hT,RR.H⟩
  grind
theorem ac0{R:Type}{P:Program}{sh:TypeId->Option Sh}{call:jz R}(hc:lx P call){n:Nat}{ops:Array Oper}:∀(l:List Oper) (j:Nat) (st:St) (k:St->Option R) (r:R),FR P sh call n ops l st k=some r ->
  (∀i,l[i]?=ops[j+i]?)->∃st',k st'=some r/\∀X a,RF X n st a->∀Q:Exit->Act->World->Prop,(∀X' a',RF X' n st' a'->bL X X'->Q .normal a' X'.w)->wpOps P ops Q (List.range' j l.length) a X.w
 |[],j,st,k,r,e,_=>⟨st,e,fun X a RR Q hQ=>hQ X a RR (bL.refl X)⟩|o::l,j,st,k,r,e,hl=>by
  simp only[FR]at e;obtain⟨avT,e,S⟩:=apy hc e (i:=j) (by have:=hl 0;simpa using this.symm);obtain⟨st',hk,rest⟩:=ac0 hc l (j+1) avT k r e (by
   intro i;have:=hl (i+1)
   grind)
  refine⟨st',hk,?_⟩;intro X a RR Q hQ;rw[dG,List.range'_succ,wpOps_cons];refine S X a RR _ _ ?_;intro X' a' R' E';exact rest X' a' R' Q (fun X'' a'' R'' E''=>hQ X'' a'' R'' (E'.trans E''))
end Go.Proofs.YtmkbdfidnfmgmaaGreat.V
end
section
namespace Go.Proofs.YtmkbdfidnfmgmaaGreat.Ev
open Go Go.RowKit
structure St where
 T:Tr AV
 h:Hp
def jg(n nx:Nat)(T:Tr AV)(d:Option Tmp)(v:AV):Option (Tr AV):=match d with|none=>some T|some t=>match Nat.blt t n,ws nx v with|true,true=>Tr.set FT T t (some v)|_,_=>none
abbrev Ip:=Sg->Prop
abbrev Cl:=FuncId->List AV->Hp->Option (AV×Hp)
inductive Ex where
 |normal
 |exit (id:Nat)
 |ret
def Ex.to:Ex->Exit
 |.normal=>.normal|.exit id=>.exit id|.ret=>.ret
abbrev Env:=Tr Func
def kQ(n nx:Nat):List AV->Nat->Tr AV->Option (Tr AV)
 |[],_,T=>some T|v::l,i,T=>match jg n nx T (some i) v with|some T=>kQ n nx l (i+1) T|none=>none
def lU(P:Program)(st:St):List ResultVar->Option (List AV)
 |[]=>some []|r::l=>match(match r with
   |.tmp t=>st.T.get t|.cell a t=>match st.T.get a with|some u=>qq P st.h t u|none=>none)with
  |some v=>match lU P st l with|some vs=>some (v::vs)|none=>none
  |none=>none
def aoC:List AV->AV
 |[v]=>v|l=>.dW l
def JQ(P:Program)(E:Env)(run:Nat->Code->St->Option (Ex×St)):Cl:=fun f vs h=>match E.get f with
 |some fn=>match fn.body with
  |some c=>match Nat.ble vs.length fn.ntmps,kQ fn.ntmps h.next vs 0 .nil with
   |true,some T=>match run fn.ntmps c ⟨T,h⟩with
    |some (x,st)=>match x with|.exit _=>none|_=>match lU P st fn.results.toList with|some rs=>some (aoC rs,st.h)|none=>none
    |none=>none
   |_,_=>none
  |none=>none
 |none=>none
inductive PE where
 |w (j:Nat)
 |p (lo hi:Nat)
def PE.num:PE->Nat
 |.w j=>j|.p lo _=>lo
def PE.top:PE->Nat
 |.w j=>j-1|.p _ hi=>hi
def isW(o:Oper):Bool:=match o.op with
 |.assign _|.store _ _ _|.mapUpdate _ _ _ _|.insert _ _ _ _=>true|.call c=>match c.callee with|.builtin .len|.builtin .max|.builtin .min=>false|_=>true
 |_=>false
def vd:List Edge->md
 |[]=>[]|e::l=>match Region.binds .any e with|true=>e.on::vd l|false=>vd l
def gg(o:Oper):md:=vd o.after.toList
theorem JG:∀{l:List Edge}{x:Nat},x∈vd l↔∃e∈l,Region.binds .any e=true/\e.on=x
 |[],x=>by simp[vd]|e::l,x=>by
  simp only[vd];cases h:Region.binds .any e
  .simp only[];rw[JG]
   grind
  .simp only[Fn];rw[JG]
   grind
def PG(nums:md):md->Nat->Nat
 |[],m=>m|e::l,m=>match nth nums e with
  |some x=>PG nums l (match Nat.ble m x with|true=>x|false=>m)
  |none=>PG nums l m
def rJ:List Oper->Nat->md->List (Bool×Nat)->List (Bool×Nat)
 |[],_,_,acc=>acc|o::l,c,nums,acc=>match isW o with|true=>rJ l (c+1) (nums++[c+1]) ((true,c+1)::acc)|false=>let m:=PG nums (gg o) 0;rJ l c (nums++[m]) ((false,m)::acc)
def j2:Nat->md->Bool
 |_,[]=>false|x,y::l=>match Nat.beq x y with|true=>true|false=>j2 x l
theorem qp:∀{x:Nat}{l:md},j2 x l=true↔x∈l
 |x,[]=>by simp[j2]|x,y::l=>by
  simp only[j2];cases h:Nat.beq x y
  .have:=asF h;simp[this,qp]
  simp_all
def O3(i:Nat):List (md×PE)->Nat->Nat
 |[],m=>m|(es,pe)::l,m=>match j2 i es with
  |true=>O3 i l (match Nat.ble m pe.top with|true=>m|false=>pe.top)
  |false=>O3 i l m
def ab0(k:Nat):List (Oper×Bool×Nat)->Nat->List (md×PE)->List (md×PE)
 |[],_,acc=>acc|(o,b,x)::l,i,acc=>let es:=gg o;ab0 k l (i-1) ((es,match b with|true=>PE.w x|false=>PE.p x (O3 i acc k))::acc)
def PW:List Oper->Nat
 |[]=>0|o::l=>match isW o with|true=>PW l+1|false=>PW l
def rT(ops:List Oper):List PE:=(ab0 (PW ops) (ops.reverse.zip (rJ ops 0 [] [])) (ops.length-1) []).map (·.2)
def p9(pl:List PE)(p:PE->Bool):md->Bool
 |[]=>false|e::l=>match nth pl e with
  |some pe=>match p pe with|true=>true|false=>p9 pl p l
  |none=>p9 pl p l
theorem JB{pl:List PE}{p:PE->Bool}:∀{l:md},p9 pl p l=true->∃e pe,e∈l/\pl[e]?=some pe/\p pe=true
 |[],h=>by simp[p9]at h|e::l,h=>by
  simp only[p9]at h;split at h
  .rename_i pe he;rw[fc]at he;split at h
   .rename_i q;grind
   .obtain⟨e',pe',h1,h2⟩:=JB h;grind
  .obtain⟨e',pe',h1,h2⟩:=JB h;grind
def zj(i:Nat):md->Bool
 |[]=>true|e::l=>match Nat.blt e i with|true=>zj i l|false=>false
def tB(i hi:Nat):List Oper->List PE->Bool
 |o::l,pe::ps=>match j2 i (gg o),(match pe with|.w j=>Nat.ble j (hi+1)|.p _ h=>Nat.ble h hi)with|true,true=>true|_,_=>tB i hi l ps
 |_,_=>false
def tmpsOf:List Operand->md
 |[]=>[]|x::l=>match x with|.tmp t=>t::tmpsOf l|_=>tmpsOf l
def looks(ops:List Oper)(o:Oper):md:=match o.guard with
 |none=>tmpsOf o.op.operands.toList|some (j,_)=>match nth ops j with
  |some oj=>match oj.dst with|some t=>t::tmpsOf o.op.operands.toList|none=>tmpsOf o.op.operands.toList
  |none=>tmpsOf o.op.operands.toList
def qt(ls es:md):List Oper->List PE->Nat->Bool
 |y::l,pe::ps,i=>match pe with|.w _=>qt ls es l ps (i+1)|.p _ _=>match y.dst with|none=>qt ls es l ps (i+1)|some t=>match j2 t ls with|false=>qt ls es l ps (i+1)|true=>match j2 i es with|true=>qt ls es l ps (i+1)|false=>false
 |_,_,_=>true
def FA(ops:List Oper)(pl:List PE)(k i:Nat)(o:Oper)(pe:PE):Bool:=
 match zj i (gg o),qt (looks ops o) (gg o) ops pl 0 with
 |true,true=>match pe with
  |.p lo hi=>match(match lo with|0=>true|lo+1=>p9 pl (fun x=>Nat.ble (lo+1) x.num) (gg o))with
   |true=>match Nat.ble k hi with|true=>true|false=>tB i hi ops pl
   |false=>false
  |.w j=>match Nat.ble 1 j,Nat.ble j k,(match j with|0=>false|1=>true|j+2=>p9 pl (fun x=>Nat.ble (j+1) x.num) (gg o))with|true,true,true=>true|_,_,_=>false
 |_,_=>false
def mi(ops:List Oper)(pl:List PE)(k:Nat):List Oper->List PE->Nat->Bool
 |[],[],_=>true|o::l,pe::ps,i=>match FA ops pl k i o pe with|true=>mi ops pl k l ps (i+1)|false=>false
 |_,_,_=>false
def zt:List PE->Nat->Option Nat
 |[],c=>some c|pe::l,c=>match pe with|.p _ _=>zt l c|.w j=>match Nat.beq j (c+1)with|true=>zt l (c+1)|false=>none
def vM(ops:List Oper)(pl:List PE):Option Nat:=match zt pl 0 with
 |some k=>match mi ops pl k ops pl 0 with|true=>some k|false=>none
 |none=>none
abbrev acC:=List (Nat×Nat×cp)
def ou(j:Nat):List Oper->List PE->Option Oper
 |o::l,pe::ps=>match pe with
  |.w x=>match Nat.beq x j with|true=>some o|false=>ou j l ps
  |.p _ _=>ou j l ps
 |_,_=>none
structure nb(ops:Array Oper)(pl:List PE)(k:Nat):Prop where
 len:pl.length=ops.size
 below:∀(i:Nat) (o:Oper),ops[i]?=some o->∀e∈gg o,e<i
 fresh:∀(i:Nat) (o:Oper),ops[i]?=some o->∀t,t∈looks ops.toList o->∀(y:Nat) (oy:Oper) (lo hi:Nat),ops[y]?=some oy->pl[y]?=some (.p lo hi)->oy.dst=some t->y∈gg o
 lo:∀(i:Nat) (o:Oper) (lo hi:Nat),ops[i]?=some o->pl[i]?=some (.p lo hi)->lo=0\/∃(e:Nat) (pe:PE),e∈gg o/\pl[e]?=some pe/\lo<=pe.num
 hi:∀(i lo hi:Nat),pl[i]?=some (.p lo hi)->k<=hi\/∃(z:Nat) (o:Oper) (pe:PE),ops[z]?=some o/\pl[z]?=some pe/\i∈gg o/\((∃j,pe=.w j/\j<=hi+1)\/(∃l h,pe=.p l h/\h<=hi))
 w:∀(i:Nat) (o:Oper) (j:Nat),ops[i]?=some o->pl[i]?=some (.w j)->1<=j/\j<=k/\(j=1\/∃(e:Nat) (pe:PE),e∈gg o/\pl[e]?=some pe/\j<=pe.num+1)
 uniq:∀(i i' j:Nat),pl[i]?=some (.w j)->pl[i']?=some (.w j)->i=i'
theorem Zuv{i:Nat}:∀{l:md},zj i l=true->∀e∈l,e<i
 |[],_,e,he=>by cases he
 |x::l,h,e,he=>by
  simp only[zj]at h;split at h<;>try cases h
  rename_i q;rw[atP]at q;rcases Fn.1 he with rfl|he
  .exact q
  .exact Zuv h e he
theorem acN{i hi:Nat}:∀{os:List Oper}{ps:List PE},tB i hi os ps=true->∃(z:Nat) (o:Oper) (pe:PE),os[z]?=some o/\ps[z]?=some pe/\i∈gg o/\((∃j,pe=.w j/\j<=hi+1)\/(∃l h,pe=.p l h/\h<=hi))
 |[],_,h=>by simp[tB]at h|_::_,[],h=>by simp[tB]at h|o::os,pe::ps,h=>by
  simp only[tB]at h;split at h
  .rename_i h1 h2;refine⟨0,o,pe,rfl,rfl,qp.1 h1,?_⟩;cases pe with|w j=>exact .inl ⟨j,rfl,abs h2⟩|p l hh=>exact .inr ⟨l,hh,rfl,abs h2⟩
  .obtain⟨z,o',pe',h1,h2,h3⟩:=acN h;exact⟨z+1,o',pe',by grind,by grind,h3⟩
theorem Zuu{ls es:md}:∀{os:List Oper}{ps:List PE}{i:Nat},qt ls es os ps i=true->∀(y:Nat) (oy:Oper) (lo hi:Nat) (t:Tmp),os[y]?=some oy->ps[y]?=some (.p lo hi)->oy.dst=some t->t∈ls->i+y∈es
 |[],_,_,_,y,oy,lo,hi,t,h1,_,_,_=>by simp at h1|_::_,[],_,_,y,oy,lo,hi,t,_,h2,_,_=>by simp at h2|o::os,pe::ps,i,h,y,oy,lo,hi,t,h1,h2,h3,h4=>by
  simp only[qt]at h;have rec_:qt ls es os ps (i+1)=true->y≠0->i+y∈es:=by
   intro hh hy;obtain⟨y',rfl⟩:∃y',y=y'+1:=⟨y-1,auc⟩;have:=Zuu hh y' oy lo hi t (by simpa using h1) (by simpa using h2) h3 h4
   grind
  by_cases hy:y=0
  .subst hy;simp at h1 h2;subst h1;subst h2;simp only[h3]at h;rw[qp.2 h4]at h;simp only[]at h;split at h<;>try cases h
   rename_i q;simpa using qp.1 q
  grind
theorem Zyh{ops:List Oper}{pl:List PE}{k:Nat}:∀{os:List Oper}{ps:List PE}{i:Nat},mi ops pl k os ps i=true->os.length=ps.length/\∀(j:Nat) (o:Oper) (pe:PE),os[j]?=some o->ps[j]?=some pe->FA ops pl k (i+j) o pe=true
 |[],[],_,_=>⟨rfl,fun j o pe h=>by simp at h⟩|[],_::_,_,h=>by simp[mi]at h|_::_,[],_,h=>by simp[mi]at h|o::os,pe::ps,i,h=>by
  simp only[mi]at h;split at h<;>try cases h
  rename_i q;obtain⟨h1,h2⟩:=Zyh h
  grind
theorem Un:∀{pl:List PE}{c k:Nat},zt pl c=some k->(∀(i j:Nat),pl[i]?=some (PE.w j)->c<j)/\(∀(i i' j:Nat),pl[i]?=some (.w j)->pl[i']?=some (.w j)->i=i')
 |[],c,k,h=>⟨fun i j h=>by simp at h,fun i i' j h=>by simp at h⟩|pe::l,c,k,h=>by
  simp only[zt]at h;cases pe with
  |p lo hi=>
   obtain⟨h1,h2⟩:=Un h
   grind
  |w x=>
   simp only[]at h;split at h<;>try cases h
   rename_i q;have q:=db q;subst q;obtain⟨h1,h2⟩:=Un h
   grind
theorem Ji{ops:Array Oper}{pl:List PE}{k:Nat}(h:vM ops.toList pl=some k):nb ops pl k:=by
 unfold vM at h;split at h<;>try cases h
 rename_i hW;split at h<;>try cases h
 rename_i hA;obtain⟨hl,hone⟩:=Zyh hA;have hone:∀(i:Nat) (o:Oper) (pe:PE),ops[i]?=some o->pl[i]?=some pe->FA ops.toList pl k i o pe=true:=by intro i o pe ho hp;have:=hone i o pe (by simpa using ho) hp;simpa using this
 have hthere:∀(i:Nat) (o:Oper),ops[i]?=some o->∃pe,pl[i]?=some pe:=by
  intro i o ho;have:i<pl.length:=by
   rw[<-hl];rcases adc i ops.size with q|q
   .simpa using q
   .rw[atT q]at ho;cases ho
  exact⟨pl[i],by simp[this]⟩
 have hthere':∀(i:Nat) (pe:PE),pl[i]?=some pe->∃o,ops[i]?=some o:=by
  intro i pe hp;have:i<ops.size:=by grind
  exact⟨ops[i],by simp[this]⟩
 have split1:∀(i:Nat) (o:Oper) (pe:PE),ops[i]?=some o->pl[i]?=some pe->zj i (gg o)=true/\qt (looks ops.toList o) (gg o) ops.toList pl 0=true/\(match pe with
  |.p lo hi=>match(match lo with|0=>true|lo+1=>p9 pl (fun x=>Nat.ble (lo+1) x.num) (gg o))with
   |true=>match Nat.ble k hi with|true=>true|false=>tB i hi ops.toList pl
   |false=>false
  |.w j=>match Nat.ble 1 j,Nat.ble j k,(match j with|0=>false|1=>true|j+2=>p9 pl (fun x=>Nat.ble (j+1) x.num) (gg o))with|true,true,true=>true|_,_,_=>false)=true:=by
  intro i o pe ho hp;have:=hone i o pe ho hp;unfold FA at this;split at this
  .rename_i h1 h2;exact⟨h1,h2,this⟩
  .cases this
 refine⟨by simpa using hl.symm,?_,?_,?_,?_,?_,(Un hW).2⟩
 .intro i o ho;obtain⟨pe,hp⟩:=hthere i o ho;exact Zuv (split1 i o pe ho hp).1
 .intro i o ho t ht y oy lo hi hy hpy hd;obtain⟨pe,hp⟩:=hthere i o ho;have:=Zuu (split1 i o pe ho hp).2.1 y oy lo hi t (by simpa using hy) hpy hd ht;simpa using this
 .intro i o lo hi ho hp;have:=(split1 i o _ ho hp).2.2;simp only[]at this;split at this
  .rename_i q;cases lo with|zero=>exact .inl rfl|succ lo=>simp only[]at q;obtain⟨e,pe,h1,h2,h3⟩:=JB q;exact .inr ⟨e,pe,h1,h2,abs h3⟩
  .cases this
 .intro i lo hi hp;obtain⟨o,ho⟩:=hthere' i _ hp;have:=(split1 i o _ ho hp).2.2;simp only[]at this;split at this
  .split at this
   .rename_i q;exact .inl (abs q)
   .obtain⟨z,o',pe',h1,h2,h3⟩:=acN this;exact .inr ⟨z,o',pe',by simpa using h1,h2,h3⟩
  .cases this
 .intro i o j ho hp;have:=(split1 i o _ ho hp).2.2;simp only[]at this;split at this
  .rename_i q1 q2 q3;refine⟨abs q1,abs q2,?_⟩;cases j with
   |zero=>cases q3
   |succ j=>cases j with|zero=>exact .inl rfl|succ j=>simp only[]at q3;obtain⟨e,pe,h1,h2,h3⟩:=JB q3;exact .inr ⟨e,pe,h1,h2,by have:=abs h3;omega⟩
  .cases this
theorem vC{j:Nat}:∀{os:List Oper}{ps:List PE}{o:Oper},ou j os ps=some o->∃i:Nat,os[i]?=some o/\ps[i]?=some (.w j)
 |[],_,o,h=>by simp[ou]at h|_::_,[],o,h=>by simp[ou]at h|x::os,pe::ps,o,h=>by
  simp only[ou]at h;split at h
  .split at h
   .rename_i y q;have q:=db q;subst q;simp at h;subst h;exact⟨0,rfl,rfl⟩
   .obtain⟨i,h1,h2⟩:=vC h;exact⟨i+1,by grind,by simpa using h2⟩
  .obtain⟨i,h1,h2⟩:=vC h;exact⟨i+1,by grind,by grind⟩
def left:Nat->(Nat->Bool)->Nat
 |0,_=>0|m+1,L=>left m L+(match L m with|true=>0|false=>1)
def mark(L:Nat->Bool)(i:Nat):Nat->Bool:=fun j=>if j=i then true else L j
theorem yS{L:Nat->Bool}{i:Nat}(hi:L i=false):∀m,left m (mark L i)+(if i<m then 1 else 0)=left m L
 |0=>by simp[left]|m+1=>by
  have ih:=yS hi m;simp only[left,mark]
  grind
theorem tJ{L:Nat->Bool}:∀{m:Nat},left m L=0->∀i,i<m->L i=true
 |0,_,i,hi=>by omega|m+1,h,i,hi=>by
  simp only[left]at h;cases hm:L m with
  |false=>rw[hm]at h;simp at h|true=>
   rw[hm]at h;rcases adc i m with q|q
   .exact tJ auc i q
   grind
section
variable{n:Nat}{ops:Array Oper}{pl:List PE}{auw:Ip}{avw:Hp}{awg:World}{q:Nat}{L:Nat->Bool}{a:Act}{w:World}{st:St}{pd:acC}{F:Ip}
theorem yR:∀{l:List Operand}{t:Tmp},Operand.tmp t∈l->t∈tmpsOf l
 |[],t,h=>by cases h
 |x::l,t,h=>by
  rcases Fn.1 h with rfl|h2
  .simp[tmpsOf]
  .have:=yR h2;cases x<;>simp[tmpsOf,this]
theorem oU{o:Oper}{t:Tmp}(h:Operand.tmp t∈o.op.operands):t∈looks ops.toList o:=by
 have:=yR (ath.2 h);unfold looks
 grind
theorem vz{o oj:Oper}{t:Tmp}{j:Nat}{b:Bool}(h:o.guard=some (j,b))(hj:ops[j]?=some oj)(hd:oj.dst=some t):t∈looks ops.toList o:=by
 unfold looks;have hj':nth ops.toList j=some oj:=by rw[fc];simpa using hj
 simp[h,hj',hd]
theorem lY{i j:Nat}(h:L j=true):mark L i j=true:=by unfold mark;split<;>simp[h]
theorem qm{i j:Nat}(h:mark L i j=false):L j=false/\j≠i:=by
 unfold mark at h
 grind
end
end Go.Proofs.YtmkbdfidnfmgmaaGreat.Ev
end
section
namespace Go.Proofs.YtmkbdfidnfmgmaaGreat.V
open Go Go.RowKit
open Go.Proofs.YtmkbdfidnfmgmaaGreat.Ev (Tr Tr.d6 nth fc PE nb vM rT Ji gg looks tmpsOf yR oU vz j2 qp ou vC left mark yS tJ ie lV lY qm)
theorem vJ{T T':Tr AV}{x:Operand}(h:∀t,x=.tmp t->T'.get t=T.get t):dX T' x=dX T x:=by cases x with|tmp t=>exact h t rfl|_=>rfl
theorem Zyx{T T':Tr AV}:∀{l:List Operand},(∀t,.tmp t∈l->T'.get t=T.get t)->kh T' l=kh T l
 |[],_=>rfl|x::l,h=>by simp only[kh];rw[vJ (fun t q=>h t (by simp[q])),Zyx (fun t q=>h t (by simp[q]))]
theorem TM{T T':Tr AV}:∀{l:List (Nat×Operand)},(∀t,.tmp t∈l.map (·.2)->T'.get t=T.get t)->oS T' l=oS T l
 |[],_=>rfl|(i,x)::l,h=>by simp only[oS];rw[vJ (fun t q=>h t (by simp[q])),TM (fun t q=>h t (by grind))]
mutual
theorem ad4{h h₂:Hp}:∀{σ:Sh}{l:List AV}{d:σ.T}{r:List AV}{h':Hp},fN false h σ l=some (d,r,h')->fN false h₂ σ l=some (d,r,h₂)
 |.int k,l,d,r,h',e=>by
  simp only[fN]at e |-;split at e<;>try cases e
  split at e<;>cases e;rename_i q;simp only[q]
 |.bool,l,d,r,h',e=>by simp only[fN]at e |-;split at e<;>cases e;rfl
 |.str,l,d,r,h',e=>by simp only[fN]at e |-;split at e<;>cases e;rfl
 |.agg ss,l,d,r,h',e=>ads (ss:=ss) e|.sl s,l,d,r,h',e=>by
  simp only[fN]at e |-;split at e<;>try cases e
  .rfl
  .split at e<;>cases e;rfl
  .split at e<;>try cases e
   split at e<;>first|(cases e;done)|(rename_i q _;cases q)
  .split at e<;>try cases e
   split at e<;>first|(cases e;done)|(rename_i q _;cases q)
theorem ads{h h₂:Hp}:∀{ss:List Sh}{l:List AV}{d:TL ss}{r:List AV}{h':Hp},lB false h ss l=some (d,r,h')->lB false h₂ ss l=some (d,r,h₂)
 |[],l,d,r,h',e=>by simp only[lB]at e |-;cases e;rfl
 |s::ss,l,d,r,h',e=>by
  simp only[lB]at e |-;split at e<;>try cases e
  rename_i auX avQ h₁ ava;split at e<;>try cases e
  rename_i auY avR avy avb;have:=JI ava;subst this;rw[ad4 (h₂:=h₂) ava];simp only[];rw[ads (h₂:=h₂) avb]
end
theorem Ub{h h₂:Hp}{τ:Sh}:∀{n:Nat}{l:List AV}{L:List τ.T},iI h τ n l=some L->iI h₂ τ n l=some L
 |0,l,L,e=>e|n+1,l,L,e=>by
  simp only[iI]at e |-;split at e<;>try cases e
  rename_i x r h₁ hf;split at e<;>try cases e
  rename_i xs hx;rw[ad4 (h₂:=h₂) hf];simp only[];rw[Ub hx]
def gH:Op->Bool
 |.alloc _|.box _ _|.makeSlice _ _ _|.buildSlice _ _ _|.makeMap _ _=>true|_=>false
def lD:AV->Option Nat
 |.ptr b _=>some b|.hd b _=>some b|.vw b _ _ _=>some b|.mp b=>some b|_=>none
theorem JJ{P:Program}{sh:TypeId->Option Sh}{T:Tr AV}{h:Hp}{n:Nat}{o:Op}{x:Bool×cp×AV}(e:o8 P sh T h n o=some x):gH o=true/\lD x.2.2=some n:=by
 unfold o8 at e;split at e
 .split at e<;>cases e;exact⟨rfl,rfl⟩
 .split at e<;>cases e;exact⟨rfl,rfl⟩
 .split at e<;>try cases e
  split at e<;>try cases e
  split at e<;>cases e;exact⟨rfl,rfl⟩
 .split at e<;>try cases e
  split at e<;>try cases e
  split at e<;>try cases e
  unfold vT at e;split at e
  .split at e<;>try cases e
   split at e<;>cases e<;>exact⟨rfl,rfl⟩
  .cases e;exact⟨rfl,rfl⟩
 .split at e<;>try cases e
  split at e<;>cases e;exact⟨rfl,rfl⟩
 .cases e
theorem apH{h h₂:Hp}{n:Nat}{elem:TypeId}{len sz:Nat}{r:List AV}{s:Option Sh}:vT h n elem len sz r s=vT h₂ n elem len sz r s:=by
 unfold vT;cases s with
 |none=>rfl|some τ=>
  have:iI h τ len r=iI h₂ τ len r:=by cases q:iI h τ len r with|some L=>exact(Ub q).symm|none=>cases q':iI h₂ τ len r with|none=>rfl|some L=>rw[Ub (h₂:=h) q']at q;cases q
  simp only[this]
theorem Uj{P:Program}{sh:TypeId->Option Sh}{T T':Tr AV}{h h':Hp}{n:Nat}{o:Op}{x:Bool×cp×AV}(e:o8 P sh T h n o=some x)(hT:∀t,.tmp t∈o.operands->T'.get t=T.get t):o8 P sh T' h' n o=some x:=by
 unfold o8 at e |-;cases o<;>try (cases e;done)
 .exact e
 .rename_i elem y
  try dsimp only at e |-
  rw[vJ (fun t q=>hT t (by simp[Op.operands,q]))];exact e
 .rename_i t l parts
  try dsimp only at e |-
  rw[TM (fun t q=>hT t (by simp only[Op.operands,atY];exact q))];simp only[apH (h:=h') (h₂:=h)];exact e
 .exact e
 .rename_i t l c
  try dsimp only at e |-
  rw[vJ (x:=l) (fun t q=>hT t (by simp[Op.operands,q])),vJ (x:=c) (fun t q=>hT t (by simp[Op.operands,q]))];exact e
theorem apG{h h':Hp}(L:fT h h'){u:AV}{x:Bool×List AV×Nat}(e:vQ h u=some x):vQ h' u=some x:=by
 unfold vQ at e |-;cases u<;>try (cases e;done)
 .try dsimp only at e |-
  split at e<;>try cases e
  rename_i q;rw[L _ _ q]
 .try dsimp only at e |-
  split at e<;>try cases e
  .rename_i q;rw[L _ _ q];exact e
  .rename_i q;rw[L _ _ q];exact e
 .exact e
 .try dsimp only at e |-
  split at e<;>cases e;rename_i q;rw[L _ _ q]
theorem ak0{h h':Hp}(L:fT h h'){u:AV}{n:Nat}(e:lenOf h u=some n):lenOf h' u=some n:=by
 unfold lenOf at e |-;cases u<;>try (cases e;done)
 .exact e
 .try dsimp only at e |-
  split at e<;>try cases e
  .rename_i q;rw[L _ _ q]
  .rename_i q;rw[L _ _ q]
 .exact e
 .exact e
 .exact e
 .try dsimp only at e |-
  split at e<;>cases e;rename_i q;rw[L _ _ q]
theorem aoZ{P:Program}{h h':Hp}(L:fT h h'){t:TypeId}{u i:AV}{x:Bool×AV}(e:vD P h t u i=some x):vD P h' t u i=some x:=by
 unfold vD at e |-;cases i<;>try (cases e;done)
 try dsimp only at e |-
 cases hu:P.underlying t with
 |none=>simp[hu]at e|some d=>
  cases d<;>simp only[hu]at e |-<;>try (cases e;done)
  .split at e<;>try cases e
   rename_i sz hs;cases u<;>(try dsimp only at e |-)<;>try (cases e;done)
   .split at e<;>try cases e
    .rename_i q;rw[L _ _ q];exact e
    .rename_i q;rw[L _ _ q];exact e
   .split at e<;>try cases e
    rename_i hz;split at e<;>try cases e
    .rename_i q;rw[L _ _ q]
    .rename_i q;rw[L _ _ q]
   .exact e
   .split at e<;>try cases e
    rename_i q;rw[L _ _ q];exact e
  .exact e
theorem apz{P:Program}{h h':Hp}(L:fT h h'){T T':Tr AV}{t:TypeId}{u:AV}{lo hi:Option Operand}{x:Bool×AV}(e:vI P h T t u lo hi=some x)(h1:l8 T' lo=l8 T lo)(h2:l8 T' hi=l8 T hi):vI P h' T' t u lo hi=some x:=by
 unfold vI at e |-;rw[h1,h2];split at e<;>try cases e
 rename_i l r q1 q2
 try simp only[q1,q2]
 cases hu:P.underlying t with
 |none=>simp[hu]at e|some d=>
  cases d<;>simp only[hu]at e |-<;>try (cases e;done)
  .exact e
  .split at e<;>try cases e
   rename_i sz hs;cases u<;>(try dsimp only at e |-)<;>try (cases e;done)
   .exact e
   .split at e<;>try cases e
    rename_i q;rw[L _ _ q];exact e
   .exact e
   .exact e
theorem ap5{P:Program}{h h':Hp}(L:fT h h'){t:TypeId}{u i v:AV}{ck:Bool}(e:vS P h t u i ck=some v):vS P h' t u i ck=some v:=by
 unfold vS at e |-;split at e<;>try cases e
 rename_i hu
 try simp only[hu]
 split at e<;>try cases e
 rename_i hk hz
 try simp only[hk,hz]
 split at e<;>try cases e
 split at e<;>try cases e
 rename_i hb;rw[L _ _ hb];exact e
theorem akQ{P:Program}{h h':Hp}(L:fT h h'){ts:Array TypeId}{u v:AV}(e:uM P h ts u=some v):uM P h' ts u=some v:=by
 unfold uM at e |-;split at e<;>try cases e
 rename_i t ht
 try simp only[ht]
 cases hu:P.underlying t with
 |none=>simp[hu]at e|some d=>
  cases d<;>simp only[hu]at e |-<;>first|(cases e;done)|exact e|skip
  split at e<;>try cases e
  rename_i n hn;rw[ak0 L hn]
theorem ao0{P:Program}{h h':Hp}(L:fT h h'){b:Builtin}{ts:Array TypeId}{vs:List AV}{v:AV}(e:vE P h b ts vs=some v):vE P h' b ts vs=some v:=by
 unfold vE at e |-;cases b<;>try (cases e;done)
 .try dsimp only at e |-
  split at e<;>try cases e
  split at e
  .rename_i q
   try simp only[q]
   unfold EX at e |-;split at e<;>try cases e
   split at e<;>try cases e
   rename_i hb;rw[L _ _ hb]
  .rename_i q
   try simp only[q]
   exact akQ L e
 .exact e
 .exact e
theorem Uh{P:Program}{T T':Tr AV}{h h':Hp}(L:fT h h'){o:Oper}{x:Bool×AV}(e:nc P T h o=some x)(hT:∀t,.tmp t∈o.op.operands->T'.get t=T.get t):nc P T' h' o=some x:=by
 have one:∀y,y∈o.op.operands->dX T' y=dX T y:=fun y hy=>vJ (fun t q=>hT t (by rw[<-q];exact hy));have lst:∀l:List Operand,(∀y∈l,y∈o.op.operands)->kh T' l=kh T l:=fun l hl=>Zyx (fun t q=>hT t (hl _ q));unfold nc at e |-;cases ho:o.op<;>rw[ho]at e one lst<;>(try dsimp only at e |-)<;>try (cases e;done)
 case move y=>rw[one y (by simp[Op.operands])];exact e
 case pick c a b=>rw[one c (by simp[Op.operands]),one a (by simp[Op.operands]),one b (by simp[Op.operands])];exact e
 case build t parts=>rw[TM (fun t q=>hT t (by rw[ho];simp only[Op.operands,atY];exact q))];exact e
 case load t y=>
  rw[one y (by simp[Op.operands])];split at e<;>try cases e
  rename_i u hu;unfold qq at e |-;split at e<;>try cases e
  rename_i hc;rw[apG L hc];exact e
 case nilCheck y=>rw[one y (by simp[Op.operands])];exact e
 case binOp op t y z yt=>rw[one y (by simp[Op.operands]),one z (by simp[Op.operands])];exact e
 case unOp op t y=>rw[one y (by simp[Op.operands])];exact e
 case convert s d y=>rw[one y (by simp[Op.operands])];exact e
 case makeFunc fn a b=>
  cases fn<;>(try dsimp only at e |-)<;>try (cases e;done)
  rw[lst a.toList (by intro z hz;simp only[Op.operands];exact atZ.2 (.inl (ath.1 hz))),lst b.toList (by intro z hz;simp only[Op.operands];exact atZ.2 (.inr (ath.1 hz)))];exact e
 case slice t y lo hi mx=>
  cases mx<;>(try dsimp only at e |-)<;>try (cases e;done)
  rw[one y (by simp[Op.operands])];split at e<;>try cases e
  rename_i hu;refine apz L e ?_ ?_
  .cases lo with|none=>rfl|some z=>simp only[l8];rw[one z (by simp[Op.operands])]
  .cases hi with|none=>rfl|some z=>simp only[l8];rw[one z (by simp[Op.operands])]
 case fieldAddr t y f=>rw[one y (by simp[Op.operands])];exact e
 case field t y f=>rw[one y (by simp[Op.operands])];exact e
 case indexAddr t y i=>
  rw[one y (by simp[Op.operands]),one i (by simp[Op.operands])];split at e<;>try cases e
  exact aoZ L e
 case index t y i=>rw[one y (by simp[Op.operands]),one i (by simp[Op.operands])];exact e
 case extract t i=>rw[one t (by simp[Op.operands])];exact e
 case lookup t y i ck=>
  rw[one y (by simp[Op.operands]),one i (by simp[Op.operands])];split at e<;>try cases e
  split at e<;>cases e;rename_i v hv;rw[ap5 L hv]
 case call c=>
  split at e<;>try cases e
  rename_i b hb;rw[lst c.args.toList (by intro z hz;simp only[Op.operands,Call.operands,hb];simpa using hz)];split at e<;>try cases e
  rename_i vs hvs;split at e<;>cases e;rename_i v hv;rw[ao0 L hv]
def lE(ops:Array Oper)(T:Tr AV)(o:Oper):Option Bool:=match o.guard with
 |none=>some true|some (j,want)=>match nth ops.toList j with
  |some oj=>match oj.dst with
   |some t=>match T.get t with
    |some (.bool b)=>some (match b with|true=>want|false=>!want)
    |some (.dW [])=>some false|_=>none
   |none=>none
  |none=>none
theorem yQ{ops:Array Oper}{T T':Tr AV}{o:Oper}(h:∀t∈looks ops.toList o,T'.get t=T.get t):lE ops T' o=lE ops T o:=by
 unfold lE;split
 .rfl
 .rename_i j want hg;split
  .rename_i oj hj;split
   .rename_i t ht;rw[h t (vz (ops:=ops) hg (by rw[fc]at hj;simpa using hj) ht)]
   .rfl
  .rfl
theorem TR{ops:Array Oper}{T:Tr AV}{o:Oper}{b:Bool}(e:lE ops T o=some b){X:Cx}{a:Act}(R:∀t∈looks ops.toList o,∀v,T.get t=some v->∃V,a.tmps[t]?=some V/\Rel X v V) :
  Region.wanted o (yielded ops a.tmps)=b:=by
 unfold lE at e;unfold Region.wanted;split at e
 .rename_i hg;grind
 .rename_i j want hg;split at e<;>try cases e
  rename_i oj hj;split at e<;>try cases e
  rename_i t ht;have hj':ops[j]?=some oj:=by rw[fc]at hj;simpa using hj
  have hl:=vz (ops:=ops) hg hj' ht;rw[hg];split at e<;>cases e
  .rename_i c hv;obtain⟨V,h1,h2⟩:=R t hl _ hv;rw[show V=_ from h2]at h1;cases c<;>cases want<;>simp[yielded,hj',ht,h1]
  .rename_i hv;obtain⟨V,h1,cs,rfl,h2⟩:=R t hl _ hv;simp[yielded,hj',ht,h1]
theorem ao4{R:Type}{ops:Array Oper}{T:Tr AV}{o:Oper}{k:Bool->Tr AV->Option R}{r:R}(e:vO ops T o k=some r):∃b T',k b T'=some r/\(∀t,T'.get t=T.get t)/\lE ops T o=some b:=by
 unfold vO at e;unfold lE;split at e
 .rename_i hg
  grind
 .rename_i j want hg
  try rw[hg]
  split at e<;>try cases e
  rename_i oj hj;split at e<;>try cases e
  rename_i t ht;split at e<;>try cases e
  rename_i v hv;simp only[hj,ht,hv];split at e
  .rename_i b;have same:∀{T':Tr AV},Tr.set FT T t (some (.bool b))=some T'->∀u,T'.get u=T.get u:=by
    intro T' hs u;rw[Tr.d6 _ _ _ _ _ hs u]
    grind
   rcases OO e with⟨hb,e2⟩|⟨hb,e2⟩
   .subst hb
    grind
   grind
  .exact⟨false,T,e,fun _=>rfl,rfl⟩
  .cases e
def iP{α:Type}(f:α->α->Bool):List α->List α->Bool
 |[],[]=>true|x::l,y::m=>match f x y with|true=>iP f l m|false=>false
 |_,_=>false
theorem T7{α:Type}{f:α->α->Bool}(h:∀x y,f x y=true->x=y):∀{l m:List α},iP f l m=true->l=m
 |[],[],_=>rfl|x::l,y::m,q=>by
  simp only[iP]at q;split at q
  .rename_i hx;rw[h x y hx,T7 h q]
  .cases q
 |[],_::_,q=>by simp[iP]at q|_::_,[],q=>by simp[iP]at q
theorem xQ{α:Type}{f:α->α->Bool}(h:∀x,f x x=true):∀l:List α,iP f l l=true
 |[]=>rfl|x::l=>by simp only[iP,h x];exact xQ h l
def OX(a b:Int):Bool:=decide (a=b)
def RS(a b:Bool):Bool:=decide (a=b)
theorem akZ{a b:Int}(h:OX a b=true):a=b:=asl h
theorem aqc{a b:Bool}(h:RS a b=true):a=b:=asl h
mutual
def Sh.beq:(σ:Sh)->σ.T->σ.T->Bool
 |.int _,a,b=>OX a b|.bool,a,b=>RS a b|.str,a,b=>Ev.xG a b|.agg l,a,b=>vb l a b|.sl s,a,b=>iP s.beq a b
termination_by structural x=>x
def vb:(l:List Sh)->TL l->TL l->Bool
 |[],_,_=>true|s::l,a,b=>match s.beq a.1 b.1 with|true=>vb l a.2 b.2|false=>false
termination_by structural x=>x
end
mutual
theorem Sh.beq_eq:∀{σ:Sh}{a b:σ.T},σ.beq a b=true->a=b
 |.int _,a,b,h=>akZ h|.bool,a,b,h=>aqc h|.str,a,b,h=>Ev.Um h|.agg l,a,b,h=>aec (l:=l) h|.sl s,a,b,h=>T7 (fun x y q=>Sh.beq_eq q) h
theorem aec:∀{l:List Sh}{a b:TL l},vb l a b=true->a=b
 |[],a,b,_=>rfl|s::l,a,b,h=>by
  simp only[vb]at h;split at h
  .rename_i q;exact Prod.ext (Sh.beq_eq q) (aec h)
  .cases h
end
def an7{τ τ':Sh}(h:τ.eqv τ'=true)(x:τ.T):τ'.T:=Sh.ig h▸x
mutual
def iw:AV->AV->Option Bool
 |.bool a,v=>match v with|.bool b=>some (decide (a=b))|_=>none
 |.int k a,v=>match v with|.int k' b=>(match lu k k' with|true=>some (decide (a=b))|false=>none)|_=>none
 |.str a,v=>match v with|.str b=>some (Ev.xG a b)|_=>none
 |.fi,v=>match v with|.fi=>some true|_=>none
 |.aR,v=>match v with|.aR=>some true|_=>none
 |.gj,v=>match v with|.gj=>some true|_=>none
 |.fS,v=>match v with|.fS=>some true|_=>none
 |.gN,v=>match v with|.gN=>some true|_=>none
 |.ki,_=>none|.ptr b o,v=>match v with|.ptr b' o'=>(match Nat.beq b b',Nat.beq o o' with|true,true=>some true|_,_=>none)|_=>none
 |.fy b i z o,v=>match v with|.fy b' i' z' o'=>(match Nat.beq b b',Nat.beq z z',Nat.beq o o' with|true,true,true=>some (decide (i=i'))|_,_,_=>none)|_=>none
 |.gX σ d o,v=>match v with|.gX σ' d' o'=>(match e:σ.eqv σ',Nat.beq o o' with|true,true=>some (σ'.beq (an7 e d) d')|_,_=>none)|_=>none
 |.hd b τ,v=>match v with|.hd b' τ'=>(match Nat.beq b b',τ.eqv τ' with|true,true=>some true|_,_=>none)|_=>none
 |.vw b τ o n,v=>match v with|.vw b' τ' o' n'=>(match Nat.beq b b',τ.eqv τ' with|true,true=>some (both (decide (o=o')) (decide (n=n')))|_,_=>none)|_=>none
 |.fz τ L,v=>match v with|.fz τ' L'=>(match e:τ.eqv τ' with|true=>some (iP τ'.beq (lj e L) L')|false=>none)|_=>none
 |.func f x c,v=>match v with|.func f' x' c'=>(match Nat.beq f f',qW x x',qW c c' with|true,some p,some q=>some (both p q)|_,_,_=>none)|_=>none
 |.ji _ _ _,_=>none|.mp b,v=>match v with|.mp b'=>(match Nat.beq b b' with|true=>some true|false=>none)|_=>none
 |.ik b,v=>match v with|.ik b'=>(match Nat.beq b b' with|true=>some true|false=>none)|_=>none
 |.rp b i,v=>match v with|.rp b' i'=>(match Nat.beq b b' with|true=>some (decide (i=i'))|false=>none)|_=>none
 |.ra b i,v=>match v with|.ra b' i'=>(match Nat.beq b b' with|true=>some (decide (i=i'))|false=>none)|_=>none
 |.agg l,v=>match v with|.agg m=>qW l m|_=>none
 |.dW l,v=>match v with|.dW m=>qW l m|_=>none
termination_by structural x=>x
def qW:List AV->List AV->Option Bool
 |[],m=>match m with|[]=>some true|_=>none
 |x::l,m=>match m with
  |y::m=>(match iw x y,qW l m with|some p,some q=>some (both p q)|_,_=>none)
  |[]=>none
termination_by structural x=>x
end
mutual
theorem acH:∀{a b:AV},iw a b=some true->a=b
 |.bool a,b,h=>by cases b<;>simp only[iw]at h<;>first|(cases h;done)|(simp only[dm,IS]at h;rw[h])
 |.int k a,b,h=>by
  cases b<;>simp only[iw]at h<;>first|(cases h;done)|skip
  split at h<;>try cases h
  rename_i hk;simp only[dm,IS]at h;rw[na hk,h]
 |.str a,b,h=>by cases b<;>simp only[iw]at h<;>first|(cases h;done)|(simp only[dm]at h;rw[Ev.Um h])
 |.fi,b,h=>by cases b<;>simp only[iw]at h<;>first|rfl|cases h
 |.aR,b,h=>by cases b<;>simp only[iw]at h<;>first|rfl|cases h
 |.gj,b,h=>by cases b<;>simp only[iw]at h<;>first|rfl|cases h
 |.fS,b,h=>by cases b<;>simp only[iw]at h<;>first|rfl|cases h
 |.gN,b,h=>by cases b<;>simp only[iw]at h<;>first|rfl|cases h
 |.ki,b,h=>by simp only[iw]at h;cases h
 |.ptr x o,b,h=>by
  cases b<;>simp only[iw]at h<;>first|(cases h;done)|skip
  split at h<;>try cases h
  rename_i h1 h2;rw[db h1,db h2]
 |.fy x i z o,b,h=>by
  cases b<;>simp only[iw]at h<;>first|(cases h;done)|skip
  split at h<;>try cases h
  rename_i h1 h2 h3;simp only[dm,IS]at h;rw[db h1,db h2,db h3,h]
 |.gX σ d o,b,h=>by
  cases b<;>simp only[iw]at h<;>first|(cases h;done)|skip
  split at h<;>try cases h
  rename_i σ' d' o' h1 h2;simp only[dm]at h;have h:=Sh.beq_eq h;rw[db h2,<-h];have:=Sh.ig h1;subst this;rfl
 |.hd x τ,b,h=>by
  cases b<;>simp only[iw]at h<;>first|(cases h;done)|skip
  split at h<;>try cases h
  rename_i h1 h2;rw[db h1,Sh.ig h2]
 |.vw x τ o n,b,h=>by
  cases b<;>simp only[iw]at h<;>first|(cases h;done)|skip
  split at h<;>try cases h
  rename_i h1 h2;simp only[dm]at h;obtain⟨h3,h4⟩:=oY h;simp only[IS]at h3 h4;rw[db h1,Sh.ig h2,h3,h4]
 |.fz τ L,b,h=>by
  cases b<;>simp only[iw]at h<;>first|(cases h;done)|skip
  split at h<;>try cases h
  rename_i τ' L' h1;simp only[dm]at h;have h:=T7 (fun x y q=>Sh.beq_eq q) h;rw[<-h];have:=Sh.ig h1;subst this;rfl
 |.func f x c,b,h=>by
  cases b<;>simp only[iw]at h<;>first|(cases h;done)|skip
  split at h<;>try cases h
  rename_i p q h1 h2 h3;simp only[dm]at h;obtain⟨h4,h5⟩:=oY h;subst h4;subst h5;rw[db h1,zb h2,zb h3]
 |.ji _ _ _,b,h=>by simp only[iw]at h;cases h
 |.mp x,b,h=>by
  cases b<;>simp only[iw]at h<;>first|(cases h;done)|skip
  split at h<;>try cases h
  rename_i h1;rw[db h1]
 |.ik x,b,h=>by
  cases b<;>simp only[iw]at h<;>first|(cases h;done)|skip
  split at h<;>try cases h
  rename_i h1;rw[db h1]
 |.rp x i,b,h=>by
  cases b<;>simp only[iw]at h<;>first|(cases h;done)|skip
  split at h<;>try cases h
  rename_i h1;simp only[dm,IS]at h;rw[db h1,h]
 |.ra x i,b,h=>by
  cases b<;>simp only[iw]at h<;>first|(cases h;done)|skip
  split at h<;>try cases h
  rename_i h1;simp only[dm,IS]at h;rw[db h1,h]
 |.agg l,b,h=>by cases b<;>simp only[iw]at h<;>first|(cases h;done)|(rw[zb h])
 |.dW l,b,h=>by cases b<;>simp only[iw]at h<;>first|(cases h;done)|(rw[zb h])
theorem zb:∀{a b:List AV},qW a b=some true->a=b
 |[],b,h=>by cases b<;>simp only[qW]at h<;>first|rfl|cases h
 |x::l,b,h=>by
  cases b<;>simp only[qW]at h<;>first|(cases h;done)|skip
  split at h<;>try cases h
  rename_i p q h1 h2;simp only[dm]at h;obtain⟨h4,h5⟩:=oY h;subst h4;subst h5;rw[acH h1,zb h2]
end
def FP(ts:md):md->Bool
 |[]=>true|x::l=>match j2 x ts with|true=>false|false=>FP ts l
theorem Zwt{ts:md}:∀{l:md},FP ts l=true->∀x∈l,x∉ts
 |[],_,x,hx=>by cases hx
 |y::l,h,x,hx=>by
  simp only[FP]at h;split at h<;>try cases h
  rename_i q;rcases Fn.1 hx with rfl|hx
  .intro r;rw[qp.2 r]at q;cases q
  .exact Zwt h x hx
def r9(q:Nat):List Oper->List PE->md
 |o::l,pe::ps=>match pe with|.w _=>r9 q l ps|.p lo _=>match Nat.beq lo q,o.dst with|true,some t=>t::r9 q l ps|_,_=>r9 q l ps
 |_,_=>[]
theorem Zwb{q:Nat}:∀{os:List Oper}{ps:List PE}{x:Nat}{o:Oper}{hi:Nat}{t:Tmp},os[x]?=some o->ps[x]?=some (.p q hi)->o.dst=some t->t∈r9 q os ps
 |[],ps,x,o,hi,t,h,_,_=>by simp at h|o'::os,[],x,o,hi,t,_,h,_=>by simp at h|o'::os,pe::ps,x,o,hi,t,h1,h2,h3=>by
  simp only[r9];cases x with
  |zero=>
   simp at h1 h2
   simp_all
  |succ x=>
   have:=Zwb (q:=q) (x:=x) (by simpa using h1) (by simpa using h2) h3
   grind
def dl:Option Tmp->md|some t=>[t]|none=>[]
def xu(n:Nat):List Oper->Bool
 |[]=>true|o::l=>match o.dst with
  |some t=>match Nat.blt t n with|true=>xu n l|false=>false
  |none=>xu n l
theorem T8{n:Nat}:∀{os:List Oper},xu n os=true->∀(x:Nat) (o:Oper) (t:Tmp),os[x]?=some o->o.dst=some t->t<n
 |[],_,x,o,t,h,_=>by simp at h|o'::os,h,x,o,t,h1,h2=>by
  simp only[xu]at h;cases x with
  |zero=>
   simp at h1;subst h1;simp only[h2]at h;split at h<;>try cases h
   simp_all
  |succ x=>
   have h1:os[x]?=some o:=by grind
   split at h
   .split at h<;>try cases h
    exact T8 h x o t h1 h2
   .exact T8 h x o t h1 h2
def pO:List Oper->List PE->md->Bool
 |o::l,pe::ps,seen=>match o.dst with
  |some t=>match j2 t seen with|true=>false|false=>pO l ps (t::seen)
  |none=>match pe with|.w _=>pO l ps seen|.p _ _=>match gH o.op with|true=>false|false=>pO l ps seen
 |_,_,_=>true
theorem Jt:∀{os:List Oper}{ps:List PE}{seen:md},pO os ps seen=true->os.length=ps.length->∀(x:Nat) (o:Oper) (t:Tmp),os[x]?=some o->o.dst=some t->t∉seen
 |[],ps,seen,_,_,x,o,t,h,_=>by simp at h|o'::os,[],seen,_,h,x,o,t,_,_=>by simp at h|o'::os,pe::ps,seen,h,hl,x,o,t,h1,h2=>by
  simp only[pO]at h;simp only[dG,Nat.add_right_cancel_iff]at hl;cases x with
  |zero=>
   simp at h1;subst h1;simp only[h2]at h;split at h<;>try cases h
   rename_i q;intro r;rw[qp.2 r]at q;cases q
  |succ x=>
   have h1:os[x]?=some o:=by grind
   split at h
   .split at h<;>try cases h
    exact fun r=>Jt h hl x o t h1 h2 (Id _ r)
   .split at h
    .exact Jt h hl x o t h1 h2
    .split at h<;>try cases h
     exact Jt h hl x o t h1 h2
theorem Zyg:∀{os:List Oper}{ps:List PE}{seen:md},pO os ps seen=true->os.length=ps.length->(∀(x y:Nat) (o o':Oper) (t:Tmp),os[x]?=some o->os[y]?=some o'->o.dst=some t->o'.dst=some t->x=y) /\
  ∀(x:Nat) (o:Oper) (lo hi:Nat),os[x]?=some o->ps[x]?=some (.p lo hi)->gH o.op=true->∃t,o.dst=some t
 |[],ps,seen,_,_=>⟨fun x y o o' t h=>by simp at h,fun x o lo hi h=>by simp at h⟩|avN::os,[],seen,_,h=>by simp at h|avN::os,pe::ps,seen,h,hl=>by
  simp only[pO]at h;simp only[dG,Nat.add_right_cancel_iff]at hl;have main:∀seen',pO os ps seen'=true->(∀t,avN.dst=some t->t∈seen')->(avN.dst=none->∀lo hi,pe=.p lo hi->gH avN.op=false) ->
    (∀(x y:Nat) (o o':Oper) (t:Tmp),(avN::os)[x]?=some o->(avN::os)[y]?=some o'->o.dst=some t->o'.dst=some t->x=y) /\
    ∀(x:Nat) (o:Oper) (lo hi:Nat),(avN::os)[x]?=some o->(pe::ps)[x]?=some (.p lo hi)->gH o.op=true->∃t,o.dst=some t:=by
   intro seen' hk aS hmk;obtain⟨r1,r2⟩:=Zyg hk hl;have sn:=Jt hk hl
   grind
  grind
section
variable{R:Type}(P:Program)(sh:TypeId->Option Sh)(call:jz R)
def PQ(n:Nat)(ops:Array Oper)(o:Oper)(st:St)(k:St->Option R):Option R:=vO ops st.T o fun b T=>match b with
 |false=>match jg n T o.dst (.dW [])with|some T=>k ⟨T,st.h⟩|none=>none
 |true=>match o8 P sh T st.h st.h.next o.op with
  |some (g,ob,v)=>match Tr.set FT st.h.tr st.h.next (some ob),jg n T o.dst v with|some tr,some T=>aj g (k ⟨T,⟨tr,st.h.next+1⟩⟩)|_,_=>none
  |none=>match nc P T st.h o with
   |some (g,v)=>match jg n T o.dst v with|some T=>aj g (k ⟨T,st.h⟩)|none=>none
   |none=>none
def o0(n:Nat)(ops:Array Oper)(q:Nat):List Oper->List PE->St->(St->Option R)->Option R
 |o::l,pe::ps,st,k=>match pe with|.w _=>o0 n ops q l ps st k|.p lo _=>match Nat.beq lo q with|false=>o0 n ops q l ps st k|true=>PQ P sh n ops o st fun st=>o0 n ops q l ps st k
 |_,_,st,k=>k st
def nh(ops:Array Oper)(q:Nat)(ch:Bool)(ts:md)(st:St):List Oper->List PE->Option R->Option R
 |o::l,pe::ps,k=>match pe with
  |.w _=>nh ops q ch ts st l ps k|.p lo hi=>match Nat.blt lo q,Nat.ble q hi with
   |true,true=>match FP ts (looks ops.toList o)with
    |false=>none|true=>match ch,gH o.op with
     |true,false=>match lE ops st.T o with
      |some true=>match nc P st.T st.h o,o.dst with
       |some (g,v),some t=>match st.T.get t with
        |some u=>match iw u v with|some s=>aj g (aj s (nh ops q ch ts st l ps k))|none=>none
        |none=>none
       |some (g,v),none=>aj g (nh ops q ch ts st l ps k)|_,_=>none
      |some false=>nh ops q ch ts st l ps k|none=>none
     |_,_=>nh ops q ch ts st l ps k
   |_,_=>nh ops q ch ts st l ps k
 |_,_,k=>k
def FE(n:Nat)(ops:Array Oper)(pl:List PE):Nat->Nat->St->(St->Option R)->Option R
 |0,_,st,k=>k st|r+1,q,st,k=>match ou (q+1) ops.toList pl with|some o=>FL P sh call n ops o st fun ch avT=>o0 P sh n ops (q+1) ops.toList pl avT fun avU=>nh P ops (q+1) ch (dl o.dst++r9 (q+1) ops.toList pl) avU ops.toList pl (FE n ops pl r (q+1) avU k)|none=>none
def OR(n:Nat)(ops:Array Oper)(st:St)(k:St->Option R):Option R:=match vM ops.toList (rT ops.toList)with
 |some m=>match pO ops.toList (rT ops.toList) [],xu n ops.toList with|true,true=>o0 P sh n ops 0 ops.toList (rT ops.toList) st fun st=>FE P sh call n ops (rT ops.toList) m 0 st k|_,_=>none
 |none=>none
end
def PN(P:Program)(sh:TypeId->Option Sh)(ops:Array Oper)(b:Nat)(T:Tr AV)(h:Hp)(o:Oper)(v:AV):Prop:=
 (lE ops T o=some false/\v=.dW [])\/(lE ops T o=some true/\gH o.op=false/\nc P T h o=some (true,v)) \/
 (lE ops T o=some true/\gH o.op=true/\∃id ob,o8 P sh T h id o.op=some (true,ob,v)/\h.tr.get id=some ob/\id<h.next/\b<=id)
theorem PN.congr{P:Program}{sh:TypeId->Option Sh}{ops:Array Oper}{b b':Nat}{T T':Tr AV}{h h':Hp}{o:Oper}{v:AV}(p:PN P sh ops b T h o v)(hT:∀t∈looks ops.toList o,T'.get t=T.get t)(hh:fT h h')(hn:h.next<=h'.next)(hb:b'<=b):PN P sh ops b' T' h' o v:=by
 have hw:=yQ (ops:=ops) (T:=T) (T':=T') hT;have hO:∀t,.tmp t∈o.op.operands->T'.get t=T.get t:=fun t q=>hT t (oU q);rcases p with⟨h1,h2⟩|⟨h1,h2,h3⟩|⟨h1,h2,id,ob,h3,h4,h5,h6⟩
 .exact .inl ⟨hw.trans h1,h2⟩
 .exact .inr (.inl ⟨hw.trans h1,h2,Uh hh h3 hO⟩)
 .exact .inr (.inr ⟨hw.trans h1,h2,id,ob,Uj h3 hO,hh _ _ h4,arm h5 hn,EQ hb h6⟩)
