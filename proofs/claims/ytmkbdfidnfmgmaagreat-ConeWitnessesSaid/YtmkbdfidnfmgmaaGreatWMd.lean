import Derived.Test.YtmkbdfidnfmgmaaGreatWMc
set_option linter.all false
section
namespace Go.Proofs.YtmkbdfidnfmgmaaGreat.V
open Go Go.RowKit
open Go.Proofs.YtmkbdfidnfmgmaaGreat.Ev (Tr Tr.dp nth fc)
structure St where
 T:Tr AV
 h:Hp
structure mH(X:Cx)(n:Nat)(T:Tr AV)(a:Act):Prop where
 size:a.tmps.size=n
 defers:a.defers=[]
 get:∀t v,T.get t=some v->∃V,a.tmps[t]?=some V/\Rel X v V
structure RF(X:Cx)(n:Nat)(st:St)(a:Act):Prop where
 h:X.h=st.h
 T:mH X n st.T a
 H:aV X
def j7(n:Nat)(T:Tr AV)(d:Option Tmp)(v:AV):Option (Tr AV):=match d with|none=>some T|some t=>match Nat.blt t n with|true=>Tr.set FT T t (some v)|false=>none
variable{a:Act}{T:Tr AV}{n:Nat}{X:Cx}
theorem mH.ext{X':Cx}(R:mH X n T a)(E:jd X X'):mH X' n T a:=⟨R.size,R.defers,fun t v h=>let⟨V,h1,h2⟩:=R.get t v h;⟨V,h1,h2.ext E⟩⟩
variable{T':Tr AV}{d:Option Tmp}{v:AV}
theorem rz(h:j7 n T d v=some T'):∀t,T'.get t=if d=some t then some v else T.get t:=by
 intro t;unfold j7 at h;split at h
 .simp at h;subst h;simp
 .rename_i x;split at h<;>try cases h
  rw[Tr.dp _ _ _ _ _ h t]
  grind
theorem N1{t:Tmp}(h:j7 n T (some t) v=some T'):t<n:=by
 simp only[j7]at h;split at h<;>try cases h
 simp_all
theorem mH.put{V:Value}(R:mH X n T a)(hv:Rel X v V)(h:j7 n T d v=some T'):mH X n T' (a.put d V):=by
 have hg:=rz h;cases d with
 |none=>refine⟨R.size,R.defers,?_⟩;intro t u hu;rw[hg t]at hu;simp at hu;exact R.get t u hu|some t=>
  have hlt:=N1 h;refine⟨by simp[Act.put,R.size],by simp[Act.put,R.defers],?_⟩;intro u x hu;rw[hg u]at hu;simp only[Act.put,asw];by_cases q:t=u
  .subst q;simp at hu;subst hu;exact⟨V,by simp[R.size,hlt],hv⟩
  .rw[BT (by grind)]at hu;rw[BT q];exact R.get u x hu
def gd(h h':Hp):Prop:=∀b o,h.tr.get b=some o->h'.tr.get b=some o
theorem gd.refl(h:Hp):gd h h:=fun _ _ q=>q
theorem gd.trans{a b c:Hp}(x:gd a b)(y:gd b c):gd a c:=fun i o q=>y i o (x i o q)
abbrev jW(R:Type):=FuncId->List AV->Hp->(Bool->AV->Hp->Option R)->Option R
def Es(P:Program)(f:FuncId)(vs:List AV)(h:Hp)(v:AV)(h':Hp):Prop:=
 (∃fn c,P.funcs[f]?=some fn/\(fn.name == "runtime.NumGoroutine")=false/\fn.body=some c) /\
 ∀X args,X.h=h->aV X->bT X vs args->Calls P f (List.toArray args) X.w fun e w'=>∃X' V,e=.returned V/\X'.w=w'/\X'.h=h'/\aV X'/\bh X X'/\Rel X' v V
def mg(P:Program){R:Type}(call:jW R):Prop:=∀f vs h k r,call f vs h k=some r->∃ch v h',k ch v h'=some r/\(ch=false->gd h h')/\Es P f vs h v h'
def au{R:Type}(g:Bool)(r:Option R):Option R:=match g with|true=>r|false=>none
def br{R:Type}(b:Bool)(x y:Option R):Option R:=match b with|true=>x|false=>y
theorem rG{R:Type}{g:Bool}{x:Option R}{r:R}(h:au g x=some r):g=true/\x=some r:=by
 cases g
 .cases h
 .exact⟨rfl,h⟩
theorem Np{R:Type}{b:Bool}{x y:Option R}{r:R}(h:br b x y=some r):(b=true/\x=some r)\/(b=false/\y=some r):=by
 cases b
 .exact .inr ⟨rfl,h⟩
 .exact .inl ⟨rfl,h⟩
def aj3:Op->Bool|.buildSlice _ _ _=>true|_=>false
def post(sh:TypeId->Option Sh)(n:Nat)(o:Oper)(st:St):Option St:=match aj3 o.op with
 |false=>some st|true=>match sh 1000000000 with
  |none=>some st|some _=>match o.dst with
   |none=>some st|some t=>match st.T.get t with
    |some (.hd b τ)=>match uM true st.h (.sl τ) (.hd b τ)with
     |some (d,h')=>match j7 n st.T (some t) (.fz τ d)with|some T=>some ⟨T,h'⟩|none=>none
     |none=>none
    |_=>some st
variable{o:Oper}{st:St}
theorem ae1{sh:TypeId->Option Sh}{st':St}(h:post sh n o st=some st')(R:RF X n st a):∃X',X'.w=X.w/\RF X' n st' a/\bh X X':=by
 have triv:∀{s:St},some s=some st'->s=st->∃X',X'.w=X.w/\RF X' n st' a/\bh X X':=by intro s e q;cases e;subst q;exact⟨X,rfl,R,bh.refl X⟩
 unfold post at h;split at h
 .exact triv h rfl
 split at h
 .exact triv h rfl
 split at h
 .exact triv h rfl
 rename_i t hdt;split at h
 .rename_i b τ hg;split at h<;>try cases h
  rename_i d h' hf;split at h<;>cases h;rename_i T hT;obtain⟨V,hV,RV⟩:=R.T.get t _ hg;rw[<-R.h]at hf;obtain⟨Fz,hd⟩:=Od R.H hf RV;refine⟨⟨X.s,h',X.w,X.A⟩,rfl,⟨rfl,?_,Fz.H⟩,Fz.E⟩;have R':=R.T.ext (Fz.E.fG R.H);refine⟨R'.size,R'.defers,?_⟩;intro u x hu;rw[rz hT u]at hu;by_cases q:t=u
  .subst q;rw[IO rfl]at hu;cases hu;exact⟨V,hV,JC (σ:=.sl τ) hd⟩
  .rw[BT (by grind)]at hu;exact R'.get u x hu
 .exact triv h rfl
section
variable{R:Type}(P:Program)(sh:TypeId->Option Sh)(call:jW R)
def abi(o:Oper):Bool:=match o.op with|.assign _=>true|_=>false
def Ov(T:Tr AV)(h:Hp)(o:Oper)(k:Bool->AV->Hp->Option R):Option R:=match Tv T o with
 |some (f,vs)=>call f vs h k|none=>match Ht P sh T h o with
  |some (g,v,h')=>au g (k (!abi o) v h')|none=>match qv P sh T h h.next o.op with
   |some (g,ob,v)=>match Tr.set FT h.tr h.next (some ob)with|some tr=>au g (k true v ⟨tr,h.next+1⟩)|none=>none
   |none=>match ot P T h o with|some (g,v)=>au g (k false v h)|none=>none
def xo(ops:Array Oper)(T:Tr AV)(o:Oper)(k:Bool->Tr AV->Option R):Option R:=match o.guard with
 |none=>k true T|some (j,want)=>match nth ops.toList j with
  |some oj=>match oj.dst with
   |some t=>match T.get t with
    |some v=>match v with
     |.bool b=>br b (match Tr.set FT T t (some (.bool true))with|some T=>k want T|none=>none) (match Tr.set FT T t (some (.bool false))with|some T=>k (!want) T|none=>none)
     |.d5 []=>k false T|_=>none
    |none=>none
   |none=>none
  |none=>none
def ES(n:Nat)(ops:Array Oper)(o:Oper)(st:St)(k:Bool->St->Option R):Option R:=xo ops st.T o fun b T=>match b with
 |true=>Ov P sh call T st.h o fun ch v h'=>match j7 n T o.dst v with|some T=>k ch ⟨T,h'⟩|none=>none
 |false=>match j7 n T o.dst (.d5 [])with|some T=>k false ⟨T,st.h⟩|none=>none
def N9(n:Nat)(ops:Array Oper)(o:Oper)(st:St)(k:St->Option R):Option R:=ES P sh call n ops o st fun _ st=>match post sh n o st with|some st=>k st|none=>none
def E0(n:Nat)(ops:Array Oper):List Oper->St->(St->Option R)->Option R
 |[],st,k=>k st|o::l,st,k=>N9 P sh call n ops o st fun st=>E0 n ops l st k
end
def Ep(P:Program)(T:Tr AV)(h:Hp)(o:Oper)(v:AV)(h':Hp):Prop:=∀X a,X.h=h->aV X->qV X T a o.op->∀(K:Act->World->Prop) (Q:Exit->Act->World->Prop),
 (∀X' V,bh X X'->aV X'->X'.h=h'->Rel X' v V->K (a.put o.dst V) X'.w)->o.wp P a X.w K Q
theorem an2{R:Type}{P:Program}{sh:TypeId->Option Sh}{call:jW R}(hc:mg P call){h:Hp}{k:Bool->AV->Hp->Option R}{r:R}(e:Ov P sh call T h o k=some r) :
  ∃ch v h',k ch v h'=some r/\(ch=false->gd h h')/\Ep P T h o v h':=by
 unfold Ov at e;split at e
 .rename_i f vs hw;obtain⟨ch,v,h',hk,hch,⟨fn,c,hf,hn,hb⟩,hcall⟩:=hc f vs h k r e;refine⟨ch,v,h',hk,hch,?_⟩;intro X a hX H hO K Q hK;obtain⟨Vs,hrun,hR⟩:=Zs1 hw hO hf hn hb X.w;unfold Oper.wp;rw[hrun,Oper.upon_enter];refine(hcall X Vs hX H hR).mono ?_
  grind
 .split at e
  .rename_i g v h' hr;obtain⟨hg,hk⟩:=rG e;refine⟨_,v,h',hk,?_,?_⟩
   .intro hs;unfold abi at hs;split at hs
    .rename_i x ho;unfold Ht at hr;rw[ho]at hr;simp only[]at hr;split at hr<;>cases hr;exact gd.refl h
    .cases hs
   intro X a hX H hO K Q hK;subst hX;obtain⟨X',n,V,hrun,hgv,h1,h2,h3,h4⟩:=Zvo H hr hg hO;unfold Oper.wp;rw[hrun];rcases hgv with rfl|⟨rfl,rfl⟩
   .exact hK X' V h3 h2 h1 h4
   .exact hK X' undef h3 h2 h1 h4
  .split at e
   .rename_i g ob v ha;split at e<;>try cases e
    rename_i tr ht;obtain⟨hg,hk⟩:=rG e;refine⟨_,v,_,hk,(fun q=>by cases q),?_⟩;intro X a hX H hO K Q hK;subst hX;obtain⟨c,ob',V,hrun,hm⟩:=Zx7 H ha hg hO;have E:=aa9 (c:=c) (ob:=ob') H ht;have hg:=Tr.dp FT X.h.tr X.h.next _ tr ht;have M:Made X ⟨cw X.s X.h.next (.at X.w.heap.size c),⟨tr,X.h.next+1⟩,{ X.w with heap:=X.w.heap.push ob' },X.A⟩ X.h.next c ob ob':=⟨E.fG H,rfl,fU _ _ _,by show tr.get _=_;rw[hg,IO rfl]⟩;obtain⟨q1,q2⟩:=hm _ M;unfold Oper.wp;rw[hrun];exact hK _ V E (H.new ht q1) rfl q2
   .split at e<;>try cases e
    rename_i g v hr;obtain⟨hg,hk⟩:=rG e;refine⟨_,v,h,hk,(fun _=>gd.refl h),?_⟩;intro X a hX H hO K Q hK;subst hX;obtain⟨V,hrun,hR⟩:=Zlk H hr hg hO;unfold Oper.wp;rw[hrun];exact hK X V (bh.refl X) H rfl hR
structure E1(ops:Array Oper)(T:Tr AV)(o:Oper)(b:Bool)(T':Tr AV):Prop where
 bn:∀X n a,mH X n T a->mH X n T' a
 is:∀(X:Cx) (a:Act),(∀j w oj t v,o.guard=some (j,w)->ops[j]?=some oj->oj.dst=some t->T.get t=some v->∃V,a.tmps[t]?=some V/\Rel X v V)->Region.wanted o (yielded ops a.tmps)=b
 get:∀t v,T'.get t=some v->T.get t=some v
 get':∀t v,T.get t=some v->T'.get t=some v
variable{ops:Array Oper}
theorem am9{R:Type}{k:Bool->Tr AV->Option R}{r:R}(e:xo ops T o k=some r):∃b T',k b T'=some r/\E1 ops T o b T':=by
 unfold xo at e;split at e
 .rename_i hg;exact⟨true,T,e,fun _ _ _ h=>h,fun X a _=>by unfold Region.wanted;rw[hg],fun _ _ h=>h,fun _ _ h=>h⟩
 .rename_i j want hg;split at e<;>try cases e
  rename_i oj hj;split at e<;>try cases e
  rename_i t ht;split at e<;>try cases e
  rename_i v hv;have hj':ops[j]?=some oj:=by rw[fc]at hj;simpa using hj
  have same:∀{b:Bool}{T':Tr AV},v=.bool b->Tr.set FT T t (some (.bool b))=some T'->∀u,T'.get u=T.get u:=by
   intro b T' hb hs u;rw[Tr.dp _ _ _ _ _ hs u]
   grind
  split at e
  .rename_i b;rcases Np e with⟨rfl,e2⟩|⟨rfl,e2⟩
   .clear e;have e:=e2;split at e<;>try cases e
    rename_i T' hset;have hs:=same (b:=true) rfl hset;refine⟨want,T',e,fun X n a R=>⟨R.size,R.defers,fun u x hu=>R.get u x (by rw[<-hs u];exact hu)⟩,?_,fun u x hu=>by rw[<-hs u];exact hu,fun u x hu=>by rw[hs u];exact hu⟩;intro X a R;obtain⟨V,h1,h2⟩:=R j want oj t _ hg hj' ht hv;rw[show V=_ from h2]at h1;unfold Region.wanted;rw[hg];cases want<;>simp[yielded,hj',ht,h1]
   .clear e;have e:=e2;split at e<;>try cases e
    rename_i T' hset;have hs:=same (b:=false) rfl hset;refine⟨!want,T',e,fun X n a R=>⟨R.size,R.defers,fun u x hu=>R.get u x (by rw[<-hs u];exact hu)⟩,?_,fun u x hu=>by rw[<-hs u];exact hu,fun u x hu=>by rw[hs u];exact hu⟩;intro X a R;obtain⟨V,h1,h2⟩:=R j want oj t _ hg hj' ht hv;rw[show V=_ from h2]at h1;unfold Region.wanted;rw[hg];cases want<;>simp[yielded,hj',ht,h1]
  .refine⟨false,T,e,fun _ _ _ h=>h,?_,fun _ _ h=>h,fun _ _ h=>h⟩;intro X a R;obtain⟨V,h1,cs,rfl,h2⟩:=R j want oj t _ hg hj' ht hv;unfold Region.wanted;rw[hg];simp[yielded,hj',ht,h1]
  .cases e
def ak0(P:Program)(n:Nat)(ops:Array Oper)(i:Nat)(st st':St):Prop:=∀X a,RF X n st a->∀(K:Act->World->Prop) (Q:Exit->Act->World->Prop),
 (∀X' a',RF X' n st' a'->bh X X'->K a' X'.w)->wpOp P ops Q i K a X.w
theorem Zyu{R:Type}{P:Program}{sh:TypeId->Option Sh}{call:jW R}(hc:mg P call){k:Bool->St->Option R}{r:R}
  (e:ES P sh call n ops o st k=some r):∃ch st' b T v,k ch st'=some r/\(ch=false->gd st.h st'.h)/\E1 ops st.T o b T/\j7 n T o.dst v=some st'.T /\
   ((b=true/\Ep P T st.h o v st'.h)\/(b=false/\v=.d5 []/\st'.h=st.h)):=by
 unfold ES at e;obtain⟨b,T,e,W⟩:=am9 e;cases b with
 |true=>
  simp only[]at e;obtain⟨ch,v,h',e,hch,A⟩:=an2 hc e
  grind
 |false=>
  simp only[]at e;split at e<;>try cases e
  rename_i T' hT;exact⟨false,⟨T',st.h⟩,false,T,.d5 [],e,fun _=>gd.refl _,W,hT,.inr ⟨rfl,rfl,rfl⟩⟩
theorem anm{R:Type}{P:Program}{sh:TypeId->Option Sh}{call:jW R}(hc:mg P call){i:Nat}{k:St->Option R}{r:R}
  (e:N9 P sh call n ops o st k=some r) (hi:ops[i]?=some o):∃st',k st'=some r/\ak0 P n ops i st st':=by
 unfold N9 at e;obtain⟨ch,st',b,T,v,e,_,W,hT,A⟩:=Zyu hc e;split at e<;>try cases e
 rename_i avM hp;refine⟨avM,e,?_⟩;intro X a RR K Q hK;have R':=W.bn X n a RR.T;unfold wpOp;rw[hi];simp only[];rw[W.is X a (fun j w oj t v _ _ _ hv=>RR.T.get t v hv)];rcases A with⟨rfl,A⟩|⟨rfl,rfl,hh⟩
 .simp only[if_true];left;refine A X a RR.h RR.H (To fun t _ u hu=>R'.get t u hu) K Q ?_;intro X' V E H' hh hv;obtain⟨X'',hw,R'',E''⟩:=ae1 hp (X:=X') ⟨hh,(R'.ext (E.fG RR.H)).put hv hT,H'⟩;rw[<-hw];exact hK X'' _ R'' (E.trans E'')
 .simp only[asz,if_false];obtain⟨X'',hw,R'',E''⟩:=ae1 hp (X:=X) ⟨by rw[hh];exact RR.h,R'.put (v:=.d5 []) (V:=undef) ⟨[],rfl,rfl⟩ hT,RR.H⟩
  grind
theorem aak{R:Type}{P:Program}{sh:TypeId->Option Sh}{call:jW R}(hc:mg P call){n:Nat}{ops:Array Oper}:∀(l:List Oper) (j:Nat) (st:St) (k:St->Option R) (r:R),E0 P sh call n ops l st k=some r ->
  (∀i,l[i]?=ops[j+i]?)->∃st',k st'=some r/\∀X a,RF X n st a->∀Q:Exit->Act->World->Prop,(∀X' a',RF X' n st' a'->bh X X'->Q .normal a' X'.w)->wpOps P ops Q (List.range' j l.length) a X.w
 |[],j,st,k,r,e,_=>⟨st,e,fun X a RR Q hQ=>hQ X a RR (bh.refl X)⟩|o::l,j,st,k,r,e,hl=>by
  simp only[E0]at e;obtain⟨avL,e,S⟩:=anm hc e (i:=j) (by have:=hl 0;simpa using this.symm);obtain⟨st',hk,rest⟩:=aak hc l (j+1) avL k r e (by
   intro i;have:=hl (i+1)
   grind)
  refine⟨st',hk,?_⟩;intro X a RR Q hQ;rw[di,List.range'_succ,wpOps_cons];refine S X a RR _ _ ?_;intro X' a' R' E';exact rest X' a' R' Q (fun X'' a'' R'' E''=>hQ X'' a'' R'' (E'.trans E''))
end Go.Proofs.YtmkbdfidnfmgmaaGreat.V
end
section
namespace Go.Proofs.YtmkbdfidnfmgmaaGreat.Ev
open Go Go.RowKit
structure St where
 T:Tr AV
 h:Hp
abbrev It:=Sg->Prop
inductive Ex where
 |normal
 |exit (id:Nat)
 |ret
def Ex.to:Ex->Exit
 |.normal=>.normal|.exit id=>.exit id|.ret=>.ret
abbrev Env:=Tr Func
inductive PE where
 |w (j:Nat)
 |p (lo hi:Nat)
def PE.num:PE->Nat
 |.w j=>j|.p lo _=>lo
def PE.top:PE->Nat
 |.w j=>j-1|.p _ hi=>hi
def isW(o:Oper):Bool:=match o.op with
 |.assign _|.store _ _ _|.mapUpdate _ _ _ _|.insert _ _ _ _=>true|.call c=>match c.callee with|.builtin .len|.builtin .max|.builtin .min=>false|_=>true
 |_=>false
def wG:List Edge->mt
 |[]=>[]|e::l=>match Region.binds .any e with|true=>e.on::wG l|false=>wG l
def gn(o:Oper):mt:=wG o.after.toList
theorem JH:∀{l:List Edge}{x:Nat},x∈wG l↔∃e∈l,Region.binds .any e=true/\e.on=x
 |[],x=>by simp[wG]|e::l,x=>by
  simp only[wG];cases h:Region.binds .any e
  .simp only[];rw[JH]
   grind
  .simp only[GE];rw[JH]
   grind
def Og(nums:mt):mt->Nat->Nat
 |[],m=>m|e::l,m=>match nth nums e with
  |some x=>Og nums l (match Nat.ble m x with|true=>x|false=>m)
  |none=>Og nums l m
def sR:List Oper->Nat->mt->List (Bool×Nat)->List (Bool×Nat)
 |[],_,_,acc=>acc|o::l,c,nums,acc=>match isW o with|true=>sR l (c+1) (nums++[c+1]) ((true,c+1)::acc)|false=>let m:=Og nums (gn o) 0;sR l c (nums++[m]) ((false,m)::acc)
def kq:Nat->mt->Bool
 |_,[]=>false|x,y::l=>match Nat.beq x y with|true=>true|false=>kq x l
theorem rB:∀{x:Nat}{l:mt},kq x l=true↔x∈l
 |x,[]=>by simp[kq]|x,y::l=>by
  simp only[kq];cases h:Nat.beq x y
  .have:=asi h;simp[this,rB]
  simp_all
def NJ(i:Nat):List (mt×PE)->Nat->Nat
 |[],m=>m|(es,pe)::l,m=>match kq i es with
  |true=>NJ i l (match Nat.ble m pe.top with|true=>m|false=>pe.top)
  |false=>NJ i l m
def Zw(k:Nat):List (Oper×Bool×Nat)->Nat->List (mt×PE)->List (mt×PE)
 |[],_,acc=>acc|(o,b,x)::l,i,acc=>let es:=gn o;Zw k l (i-1) ((es,match b with|true=>PE.w x|false=>PE.p x (NJ i acc k))::acc)
def Ox:List Oper->Nat
 |[]=>0|o::l=>match isW o with|true=>Ox l+1|false=>Ox l
def tf(ops:List Oper):List PE:=(Zw (Ox ops) (ops.reverse.zip (sR ops 0 [] [])) (ops.length-1) []).map (·.2)
def qZ(pl:List PE)(p:PE->Bool):mt->Bool
 |[]=>false|e::l=>match nth pl e with
  |some pe=>match p pe with|true=>true|false=>qZ pl p l
  |none=>qZ pl p l
theorem JA{pl:List PE}{p:PE->Bool}:∀{l:mt},qZ pl p l=true->∃e pe,e∈l/\pl[e]?=some pe/\p pe=true
 |[],h=>by simp[qZ]at h|e::l,h=>by
  simp only[qZ]at h;split at h
  .rename_i pe he;rw[fc]at he;split at h
   .rename_i q;grind
   .obtain⟨e',pe',h1,h2⟩:=JA h;grind
  .obtain⟨e',pe',h1,h2⟩:=JA h;grind
def AS(i:Nat):mt->Bool
 |[]=>true|e::l=>match Nat.blt e i with|true=>AS i l|false=>false
def uO(i hi:Nat):List Oper->List PE->Bool
 |o::l,pe::ps=>match kq i (gn o),(match pe with|.w j=>Nat.ble j (hi+1)|.p _ h=>Nat.ble h hi)with|true,true=>true|_,_=>uO i hi l ps
 |_,_=>false
def tmpsOf:List Operand->mt
 |[]=>[]|x::l=>match x with|.tmp t=>t::tmpsOf l|_=>tmpsOf l
def looks(ops:List Oper)(o:Oper):mt:=match o.guard with
 |none=>tmpsOf o.op.operands.toList|some (j,_)=>match nth ops j with
  |some oj=>match oj.dst with|some t=>t::tmpsOf o.op.operands.toList|none=>tmpsOf o.op.operands.toList
  |none=>tmpsOf o.op.operands.toList
def rD(ls es:mt):List Oper->List PE->Nat->Bool
 |y::l,pe::ps,i=>match pe with|.w _=>rD ls es l ps (i+1)|.p _ _=>match y.dst with|none=>rD ls es l ps (i+1)|some t=>match kq t ls with|false=>rD ls es l ps (i+1)|true=>match kq i es with|true=>rD ls es l ps (i+1)|false=>false
 |_,_,_=>true
def EE(ops:List Oper)(pl:List PE)(k i:Nat)(o:Oper)(pe:PE):Bool:=
 match AS i (gn o),rD (looks ops o) (gn o) ops pl 0 with
 |true,true=>match pe with
  |.p lo hi=>match(match lo with|0=>true|lo+1=>qZ pl (fun x=>Nat.ble (lo+1) x.num) (gn o))with
   |true=>match Nat.ble k hi with|true=>true|false=>uO i hi ops pl
   |false=>false
  |.w j=>match Nat.ble 1 j,Nat.ble j k,(match j with|0=>false|1=>true|j+2=>qZ pl (fun x=>Nat.ble (j+1) x.num) (gn o))with|true,true,true=>true|_,_,_=>false
 |_,_=>false
def ng(ops:List Oper)(pl:List PE)(k:Nat):List Oper->List PE->Nat->Bool
 |[],[],_=>true|o::l,pe::ps,i=>match EE ops pl k i o pe with|true=>ng ops pl k l ps (i+1)|false=>false
 |_,_,_=>false
def A9:List PE->Nat->Option Nat
 |[],c=>some c|pe::l,c=>match pe with|.p _ _=>A9 l c|.w j=>match Nat.beq j (c+1)with|true=>A9 l (c+1)|false=>none
def xn(ops:List Oper)(pl:List PE):Option Nat:=match A9 pl 0 with
 |some k=>match ng ops pl k ops pl 0 with|true=>some k|false=>none
 |none=>none
abbrev ZU:=List (Nat×Nat×bC)
def pO(j:Nat):List Oper->List PE->Option Oper
 |o::l,pe::ps=>match pe with
  |.w x=>match Nat.beq x j with|true=>some o|false=>pO j l ps
  |.p _ _=>pO j l ps
 |_,_=>none
structure oq(ops:Array Oper)(pl:List PE)(k:Nat):Prop where
 len:pl.length=ops.size
 below:∀(i:Nat) (o:Oper),ops[i]?=some o->∀e∈gn o,e<i
 fresh:∀(i:Nat) (o:Oper),ops[i]?=some o->∀t,t∈looks ops.toList o->∀(y:Nat) (oy:Oper) (lo hi:Nat),ops[y]?=some oy->pl[y]?=some (.p lo hi)->oy.dst=some t->y∈gn o
 lo:∀(i:Nat) (o:Oper) (lo hi:Nat),ops[i]?=some o->pl[i]?=some (.p lo hi)->lo=0\/∃(e:Nat) (pe:PE),e∈gn o/\pl[e]?=some pe/\lo<=pe.num
 hi:∀(i lo hi:Nat),pl[i]?=some (.p lo hi)->k<=hi\/∃(z:Nat) (o:Oper) (pe:PE),ops[z]?=some o/\pl[z]?=some pe/\i∈gn o/\((∃j,pe=.w j/\j<=hi+1)\/(∃l h,pe=.p l h/\h<=hi))
 w:∀(i:Nat) (o:Oper) (j:Nat),ops[i]?=some o->pl[i]?=some (.w j)->1<=j/\j<=k/\(j=1\/∃(e:Nat) (pe:PE),e∈gn o/\pl[e]?=some pe/\j<=pe.num+1)
 uniq:∀(i i' j:Nat),pl[i]?=some (.w j)->pl[i']?=some (.w j)->i=i'
theorem Zuv{i:Nat}:∀{l:mt},AS i l=true->∀e∈l,e<i
 |[],_,e,he=>by cases he
 |x::l,h,e,he=>by
  simp only[AS]at h;split at h<;>try cases h
  rename_i q;rw[atA]at q;rcases GE.1 he with rfl|he
  .exact q
  .exact Zuv h e he
theorem Z8{i hi:Nat}:∀{os:List Oper}{ps:List PE},uO i hi os ps=true->∃(z:Nat) (o:Oper) (pe:PE),os[z]?=some o/\ps[z]?=some pe/\i∈gn o/\((∃j,pe=.w j/\j<=hi+1)\/(∃l h,pe=.p l h/\h<=hi))
 |[],_,h=>by simp[uO]at h|_::_,[],h=>by simp[uO]at h|o::os,pe::ps,h=>by
  simp only[uO]at h;split at h
  .rename_i h1 h2;refine⟨0,o,pe,rfl,rfl,rB.1 h1,?_⟩;cases pe with|w j=>exact .inl ⟨j,rfl,adc h2⟩|p l hh=>exact .inr ⟨l,hh,rfl,adc h2⟩
  .obtain⟨z,o',pe',h1,h2,h3⟩:=Z8 h;exact⟨z+1,o',pe',by grind,by grind,h3⟩
theorem Zuu{ls es:mt}:∀{os:List Oper}{ps:List PE}{i:Nat},rD ls es os ps i=true->∀(y:Nat) (oy:Oper) (lo hi:Nat) (t:Tmp),os[y]?=some oy->ps[y]?=some (.p lo hi)->oy.dst=some t->t∈ls->i+y∈es
 |[],_,_,_,y,oy,lo,hi,t,h1,_,_,_=>by simp at h1|_::_,[],_,_,y,oy,lo,hi,t,_,h2,_,_=>by simp at h2|o::os,pe::ps,i,h,y,oy,lo,hi,t,h1,h2,h3,h4=>by
  simp only[rD]at h;have rec_:rD ls es os ps (i+1)=true->y≠0->i+y∈es:=by
   intro hh hy;obtain⟨y',rfl⟩:∃y',y=y'+1:=⟨y-1,atO⟩;have:=Zuu hh y' oy lo hi t (by simpa using h1) (by simpa using h2) h3 h4
   grind
  by_cases hy:y=0
  .subst hy;simp at h1 h2;subst h1;subst h2;simp only[h3]at h;rw[rB.2 h4]at h;simp only[]at h;split at h<;>try cases h
   rename_i q;simpa using rB.1 q
  grind
theorem Zyh{ops:List Oper}{pl:List PE}{k:Nat}:∀{os:List Oper}{ps:List PE}{i:Nat},ng ops pl k os ps i=true->os.length=ps.length/\∀(j:Nat) (o:Oper) (pe:PE),os[j]?=some o->ps[j]?=some pe->EE ops pl k (i+j) o pe=true
 |[],[],_,_=>⟨rfl,fun j o pe h=>by simp at h⟩|[],_::_,_,h=>by simp[ng]at h|_::_,[],_,h=>by simp[ng]at h|o::os,pe::ps,i,h=>by
  simp only[ng]at h;split at h<;>try cases h
  rename_i q;obtain⟨h1,h2⟩:=Zyh h
  grind
theorem TQ:∀{pl:List PE}{c k:Nat},A9 pl c=some k->(∀(i j:Nat),pl[i]?=some (PE.w j)->c<j)/\(∀(i i' j:Nat),pl[i]?=some (.w j)->pl[i']?=some (.w j)->i=i')
 |[],c,k,h=>⟨fun i j h=>by simp at h,fun i i' j h=>by simp at h⟩|pe::l,c,k,h=>by
  simp only[A9]at h;cases pe with
  |p lo hi=>
   obtain⟨h1,h2⟩:=TQ h
   grind
  |w x=>
   simp only[]at h;split at h<;>try cases h
   rename_i q;have q:=cB q;subst q;obtain⟨h1,h2⟩:=TQ h
   grind
theorem Je{ops:Array Oper}{pl:List PE}{k:Nat}(h:xn ops.toList pl=some k):oq ops pl k:=by
 unfold xn at h;split at h<;>try cases h
 rename_i hW;split at h<;>try cases h
 rename_i hA;obtain⟨hl,hone⟩:=Zyh hA;have hone:∀(i:Nat) (o:Oper) (pe:PE),ops[i]?=some o->pl[i]?=some pe->EE ops.toList pl k i o pe=true:=by intro i o pe ho hp;have:=hone i o pe (by simpa using ho) hp;simpa using this
 have hthere:∀(i:Nat) (o:Oper),ops[i]?=some o->∃pe,pl[i]?=some pe:=by
  intro i o ho;have:i<pl.length:=by
   rw[<-hl];rcases arm i ops.size with q|q
   .simpa using q
   .rw[atF q]at ho;cases ho
  exact⟨pl[i],by simp[this]⟩
 have hthere':∀(i:Nat) (pe:PE),pl[i]?=some pe->∃o,ops[i]?=some o:=by
  intro i pe hp;have:i<ops.size:=by grind
  exact⟨ops[i],by simp[this]⟩
 have split1:∀(i:Nat) (o:Oper) (pe:PE),ops[i]?=some o->pl[i]?=some pe->AS i (gn o)=true/\rD (looks ops.toList o) (gn o) ops.toList pl 0=true/\(match pe with
  |.p lo hi=>match(match lo with|0=>true|lo+1=>qZ pl (fun x=>Nat.ble (lo+1) x.num) (gn o))with
   |true=>match Nat.ble k hi with|true=>true|false=>uO i hi ops.toList pl
   |false=>false
  |.w j=>match Nat.ble 1 j,Nat.ble j k,(match j with|0=>false|1=>true|j+2=>qZ pl (fun x=>Nat.ble (j+1) x.num) (gn o))with|true,true,true=>true|_,_,_=>false)=true:=by
  intro i o pe ho hp;have:=hone i o pe ho hp;unfold EE at this;split at this
  .rename_i h1 h2;exact⟨h1,h2,this⟩
  .cases this
 refine⟨by simpa using hl.symm,?_,?_,?_,?_,?_,(TQ hW).2⟩
 .intro i o ho;obtain⟨pe,hp⟩:=hthere i o ho;exact Zuv (split1 i o pe ho hp).1
 .intro i o ho t ht y oy lo hi hy hpy hd;obtain⟨pe,hp⟩:=hthere i o ho;have:=Zuu (split1 i o pe ho hp).2.1 y oy lo hi t (by simpa using hy) hpy hd ht;simpa using this
 .intro i o lo hi ho hp;have:=(split1 i o _ ho hp).2.2;simp only[]at this;split at this
  .rename_i q;cases lo with|zero=>exact .inl rfl|succ lo=>simp only[]at q;obtain⟨e,pe,h1,h2,h3⟩:=JA q;exact .inr ⟨e,pe,h1,h2,adc h3⟩
  .cases this
 .intro i lo hi hp;obtain⟨o,ho⟩:=hthere' i _ hp;have:=(split1 i o _ ho hp).2.2;simp only[]at this;split at this
  .split at this
   .rename_i q;exact .inl (adc q)
   .obtain⟨z,o',pe',h1,h2,h3⟩:=Z8 this;exact .inr ⟨z,o',pe',by simpa using h1,h2,h3⟩
  .cases this
 .intro i o j ho hp;have:=(split1 i o _ ho hp).2.2;simp only[]at this;split at this
  .rename_i q1 q2 q3;refine⟨adc q1,adc q2,?_⟩;cases j with
   |zero=>cases q3
   |succ j=>cases j with|zero=>exact .inl rfl|succ j=>simp only[]at q3;obtain⟨e,pe,h1,h2,h3⟩:=JA q3;exact .inr ⟨e,pe,h1,h2,by have:=adc h3;omega⟩
  .cases this
theorem xf{j:Nat}:∀{os:List Oper}{ps:List PE}{o:Oper},pO j os ps=some o->∃i:Nat,os[i]?=some o/\ps[i]?=some (.w j)
 |[],_,o,h=>by simp[pO]at h|_::_,[],o,h=>by simp[pO]at h|x::os,pe::ps,o,h=>by
  simp only[pO]at h;split at h
  .split at h
   .rename_i y q;have q:=cB q;subst q;simp at h;subst h;exact⟨0,rfl,rfl⟩
   .obtain⟨i,h1,h2⟩:=xf h;exact⟨i+1,by grind,by simpa using h2⟩
  .obtain⟨i,h1,h2⟩:=xf h;exact⟨i+1,by grind,by grind⟩
def left:Nat->(Nat->Bool)->Nat
 |0,_=>0|m+1,L=>left m L+(match L m with|true=>0|false=>1)
def mark(L:Nat->Bool)(i:Nat):Nat->Bool:=fun j=>if j=i then true else L j
theorem Aw{L:Nat->Bool}{i:Nat}(hi:L i=false):∀m,left m (mark L i)+(if i<m then 1 else 0)=left m L
 |0=>by simp[left]|m+1=>by
  have ih:=Aw hi m;simp only[left,mark]
  grind
theorem Aj{L:Nat->Bool}:∀{m:Nat},left m L=0->∀i,i<m->L i=true
 |0,_,i,hi=>by omega|m+1,h,i,hi=>by
  simp only[left]at h;cases hm:L m with
  |false=>rw[hm]at h;simp at h|true=>
   rw[hm]at h;rcases arm i m with q|q
   .exact Aj atO i q
   grind
section
variable{n:Nat}{ops:Array Oper}{pl:List PE}{auj:It}{avo:Hp}{awe:World}{q:Nat}{L:Nat->Bool}{a:Act}{w:World}{st:St}{pd:ZU}{F:It}
theorem Aq:∀{l:List Operand}{t:Tmp},Operand.tmp t∈l->t∈tmpsOf l
 |[],t,h=>by cases h
 |x::l,t,h=>by
  rcases GE.1 h with rfl|h2
  .simp[tmpsOf]
  .have:=Aq h2;cases x<;>simp[tmpsOf,this]
theorem qo{o:Oper}{t:Tmp}(h:Operand.tmp t∈o.op.operands):t∈looks ops.toList o:=by
 have:=Aq (asL.2 h);unfold looks
 grind
theorem xc{o oj:Oper}{t:Tmp}{j:Nat}{b:Bool}(h:o.guard=some (j,b))(hj:ops[j]?=some oj)(hd:oj.dst=some t):t∈looks ops.toList o:=by
 unfold looks;have hj':nth ops.toList j=some oj:=by rw[fc];simpa using hj
 simp[h,hj',hd]
theorem mS{i j:Nat}(h:L j=true):mark L i j=true:=by unfold mark;split<;>simp[h]
theorem ry{i j:Nat}(h:mark L i j=false):L j=false/\j≠i:=by
 unfold mark at h
 grind
end
end Go.Proofs.YtmkbdfidnfmgmaaGreat.Ev
end
section
namespace Go.Proofs.YtmkbdfidnfmgmaaGreat.V
open Go Go.RowKit
open Go.Proofs.YtmkbdfidnfmgmaaGreat.Ev (Tr Tr.dp nth fc PE oq xn tf Je gn looks tmpsOf Aq qo xc kq rB pO xf left mark Aw Aj gD lJ mS ry)
theorem xl{T T':Tr AV}{x:Operand}(h:∀t,x=.tmp t->T'.get t=T.get t):dX T' x=dX T x:=by cases x with|tmp t=>exact h t rfl|_=>rfl
theorem Zyx{T T':Tr AV}:∀{l:List Operand},(∀t,.tmp t∈l->T'.get t=T.get t)->kR T' l=kR T l
 |[],_=>rfl|x::l,h=>by simp only[kR];rw[xl (fun t q=>h t (by simp[q])),Zyx (fun t q=>h t (by simp[q]))]
theorem Td{T T':Tr AV}:∀{l:List (Nat×Operand)},(∀t,.tmp t∈l.map (·.2)->T'.get t=T.get t)->qm T' l=qm T l
 |[],_=>rfl|(i,x)::l,h=>by simp only[qm];rw[xl (fun t q=>h t (by simp[q])),Td (fun t q=>h t (by grind))]
mutual
theorem abl{h h₂:Hp}:∀{σ:Sh}{l:List AV}{d:σ.T}{r:List AV}{h':Hp},fX false h σ l=some (d,r,h')->fX false h₂ σ l=some (d,r,h₂)
 |.int k,l,d,r,h',e=>by
  simp only[fX]at e |-;split at e<;>try cases e
  split at e<;>cases e;rename_i q;simp only[q]
 |.bool,l,d,r,h',e=>by simp only[fX]at e |-;split at e<;>cases e;rfl
 |.str,l,d,r,h',e=>by simp only[fX]at e |-;split at e<;>cases e;rfl
 |.agg ss,l,d,r,h',e=>aaM (ss:=ss) e|.sl s,l,d,r,h',e=>by
  simp only[fX]at e |-;split at e<;>try cases e
  .rfl
  .split at e<;>cases e;rfl
  .split at e<;>try cases e
   split at e<;>first|(cases e;done)|(rename_i q _;cases q)
  .split at e<;>try cases e
   split at e<;>first|(cases e;done)|(rename_i q _;cases q)
theorem aaM{h h₂:Hp}:∀{ss:List Sh}{l:List AV}{d:TL ss}{r:List AV}{h':Hp},mj false h ss l=some (d,r,h')->mj false h₂ ss l=some (d,r,h₂)
 |[],l,d,r,h',e=>by simp only[mj]at e |-;cases e;rfl
 |s::ss,l,d,r,h',e=>by
  simp only[mj]at e |-;split at e<;>try cases e
  rename_i auN avI h₁ auQ;split at e<;>try cases e
  rename_i auO avJ avq auR;have:=JJ auQ;subst this;rw[abl (h₂:=h₂) auQ];simp only[];rw[aaM (h₂:=h₂) auR]
end
theorem TB{h h₂:Hp}{τ:Sh}:∀{n:Nat}{l:List AV}{L:List τ.T},ja h τ n l=some L->ja h₂ τ n l=some L
 |0,l,L,e=>e|n+1,l,L,e=>by
  simp only[ja]at e |-;split at e<;>try cases e
  rename_i x r h₁ hf;split at e<;>try cases e
  rename_i xs hx;rw[abl (h₂:=h₂) hf];simp only[];rw[TB hx]
def gU:Op->Bool
 |.alloc _|.box _ _|.makeSlice _ _ _|.buildSlice _ _ _|.makeMap _ _=>true|_=>false
def mo:AV->Option Nat
 |.ptr b _=>some b|.hd b _=>some b|.vw b _ _ _=>some b|.mp b=>some b|_=>none
theorem JK{P:Program}{sh:TypeId->Option Sh}{T:Tr AV}{h:Hp}{n:Nat}{o:Op}{x:Bool×bC×AV}(e:qv P sh T h n o=some x):gU o=true/\mo x.2.2=some n:=by
 unfold qv at e;split at e
 .split at e<;>cases e;exact⟨rfl,rfl⟩
 .split at e<;>cases e;exact⟨rfl,rfl⟩
 .split at e<;>try cases e
  split at e<;>try cases e
  split at e<;>cases e;exact⟨rfl,rfl⟩
 .split at e<;>try cases e
  split at e<;>try cases e
  split at e<;>try cases e
  unfold xw at e;split at e
  .split at e<;>try cases e
   split at e<;>cases e<;>exact⟨rfl,rfl⟩
  .cases e;exact⟨rfl,rfl⟩
 .split at e<;>try cases e
  split at e<;>cases e;exact⟨rfl,rfl⟩
 .cases e
theorem anw{h h₂:Hp}{n:Nat}{elem:TypeId}{len sz:Nat}{r:List AV}{s:Option Sh}:xw h n elem len sz r s=xw h₂ n elem len sz r s:=by
 unfold xw;cases s with
 |none=>rfl|some τ=>
  have:ja h τ len r=ja h₂ τ len r:=by cases q:ja h τ len r with|some L=>exact(TB q).symm|none=>cases q':ja h₂ τ len r with|none=>rfl|some L=>rw[TB (h₂:=h) q']at q;cases q
  simp only[this]
theorem TJ{P:Program}{sh:TypeId->Option Sh}{T T':Tr AV}{h h':Hp}{n:Nat}{o:Op}{x:Bool×bC×AV}(e:qv P sh T h n o=some x)(hT:∀t,.tmp t∈o.operands->T'.get t=T.get t):qv P sh T' h' n o=some x:=by
 unfold qv at e |-;cases o<;>try (cases e;done)
 .exact e
 .rename_i elem y
  try dsimp only at e |-
  rw[xl (fun t q=>hT t (by simp[Op.operands,q]))];exact e
 .rename_i t l parts
  try dsimp only at e |-
  rw[Td (fun t q=>hT t (by simp only[Op.operands,atM];exact q))];simp only[anw (h:=h') (h₂:=h)];exact e
 .exact e
 .rename_i t l c
  try dsimp only at e |-
  rw[xl (x:=l) (fun t q=>hT t (by simp[Op.operands,q])),xl (x:=c) (fun t q=>hT t (by simp[Op.operands,q]))];exact e
theorem anv{h h':Hp}(L:gd h h'){u:AV}{x:Bool×List AV×Nat}(e:xt h u=some x):xt h' u=some x:=by
 unfold xt at e |-;cases u<;>try (cases e;done)
 .try dsimp only at e |-
  split at e<;>try cases e
  rename_i q;rw[L _ _ q]
 .try dsimp only at e |-
  split at e<;>try cases e
  .rename_i q;rw[L _ _ q];exact e
  .rename_i q;rw[L _ _ q];exact e
 .exact e
 .try dsimp only at e |-
  split at e<;>cases e;rename_i q;rw[L _ _ q]
theorem aiP{h h':Hp}(L:gd h h'){u:AV}{n:Nat}(e:lenOf h u=some n):lenOf h' u=some n:=by
 unfold lenOf at e |-;cases u<;>try (cases e;done)
 .exact e
 .try dsimp only at e |-
  split at e<;>try cases e
  .rename_i q;rw[L _ _ q]
  .rename_i q;rw[L _ _ q]
 .exact e
 .exact e
 .exact e
 .try dsimp only at e |-
  split at e<;>cases e;rename_i q;rw[L _ _ q]
theorem amM{P:Program}{h h':Hp}(L:gd h h'){t:TypeId}{u i:AV}{x:Bool×AV}(e:xg P h t u i=some x):xg P h' t u i=some x:=by
 unfold xg at e |-;cases i<;>try (cases e;done)
 try dsimp only at e |-
 cases hu:P.underlying t with
 |none=>simp[hu]at e|some d=>
  cases d<;>simp only[hu]at e |-<;>try (cases e;done)
  .split at e<;>try cases e
   rename_i sz hs;cases u<;>(try dsimp only at e |-)<;>try (cases e;done)
   .split at e<;>try cases e
    .rename_i q;rw[L _ _ q];exact e
    .rename_i q;rw[L _ _ q];exact e
   .split at e<;>try cases e
    rename_i hz;split at e<;>try cases e
    .rename_i q;rw[L _ _ q]
    .rename_i q;rw[L _ _ q]
   .exact e
   .split at e<;>try cases e
    rename_i q;rw[L _ _ q];exact e
  .exact e
theorem ann{P:Program}{h h':Hp}(L:gd h h'){T T':Tr AV}{t:TypeId}{u:AV}{lo hi:Option Operand}{x:Bool×AV}(e:xk P h T t u lo hi=some x)(h1:mV T' lo=mV T lo)(h2:mV T' hi=mV T hi):xk P h' T' t u lo hi=some x:=by
 unfold xk at e |-;rw[h1,h2];split at e<;>try cases e
 rename_i l r q1 q2
 try simp only[q1,q2]
 cases hu:P.underlying t with
 |none=>simp[hu]at e|some d=>
  cases d<;>simp only[hu]at e |-<;>try (cases e;done)
  .exact e
  .split at e<;>try cases e
   rename_i sz hs;cases u<;>(try dsimp only at e |-)<;>try (cases e;done)
   .exact e
   .split at e<;>try cases e
    rename_i q;rw[L _ _ q];exact e
   .exact e
   .exact e
theorem an0{P:Program}{h h':Hp}(L:gd h h'){t:TypeId}{u i v:AV}{ck:Bool}(e:xv P h t u i ck=some v):xv P h' t u i ck=some v:=by
 unfold xv at e |-;split at e<;>try cases e
 rename_i hu
 try simp only[hu]
 split at e<;>try cases e
 rename_i hk hz
 try simp only[hk,hz]
 split at e<;>try cases e
 split at e<;>try cases e
 rename_i hb;rw[L _ _ hb];exact e
theorem aiF{P:Program}{h h':Hp}(L:gd h h'){ts:Array TypeId}{u v:AV}(e:v7 P h ts u=some v):v7 P h' ts u=some v:=by
 unfold v7 at e |-;split at e<;>try cases e
 rename_i t ht
 try simp only[ht]
 cases hu:P.underlying t with
 |none=>simp[hu]at e|some d=>
  cases d<;>simp only[hu]at e |-<;>first|(cases e;done)|exact e|skip
  split at e<;>try cases e
  rename_i n hn;rw[aiP L hn]
theorem amN{P:Program}{h h':Hp}(L:gd h h'){b:Builtin}{ts:Array TypeId}{vs:List AV}{v:AV}(e:xh P h b ts vs=some v):xh P h' b ts vs=some v:=by
 unfold xh at e |-;cases b<;>try (cases e;done)
 .try dsimp only at e |-
  split at e<;>try cases e
  split at e
  .rename_i q
   try simp only[q]
   unfold DU at e |-;split at e<;>try cases e
   split at e<;>try cases e
   rename_i hb;rw[L _ _ hb]
  .rename_i q
   try simp only[q]
   exact aiF L e
 .exact e
 .exact e
theorem TH{P:Program}{T T':Tr AV}{h h':Hp}(L:gd h h'){o:Oper}{x:Bool×AV}(e:ot P T h o=some x)(hT:∀t,.tmp t∈o.op.operands->T'.get t=T.get t):ot P T' h' o=some x:=by
 have one:∀y,y∈o.op.operands->dX T' y=dX T y:=fun y hy=>xl (fun t q=>hT t (by rw[<-q];exact hy));have lst:∀l:List Operand,(∀y∈l,y∈o.op.operands)->kR T' l=kR T l:=fun l hl=>Zyx (fun t q=>hT t (hl _ q));unfold ot at e |-;cases ho:o.op<;>rw[ho]at e one lst<;>(try dsimp only at e |-)<;>try (cases e;done)
 case move y=>rw[one y (by simp[Op.operands])];exact e
 case pick c a b=>rw[one c (by simp[Op.operands]),one a (by simp[Op.operands]),one b (by simp[Op.operands])];exact e
 case build t parts=>rw[Td (fun t q=>hT t (by rw[ho];simp only[Op.operands,atM];exact q))];exact e
 case load t y=>
  rw[one y (by simp[Op.operands])];split at e<;>try cases e
  rename_i u hu;unfold uY at e |-;split at e<;>try cases e
  rename_i hc;rw[anv L hc];exact e
 case nilCheck y=>rw[one y (by simp[Op.operands])];exact e
 case binOp op t y z yt=>rw[one y (by simp[Op.operands]),one z (by simp[Op.operands])];exact e
 case unOp op t y=>rw[one y (by simp[Op.operands])];exact e
 case convert s d y=>rw[one y (by simp[Op.operands])];exact e
 case makeFunc fn a b=>
  cases fn<;>(try dsimp only at e |-)<;>try (cases e;done)
  rw[lst a.toList (by intro z hz;simp only[Op.operands];exact atN.2 (.inl (asL.1 hz))),lst b.toList (by intro z hz;simp only[Op.operands];exact atN.2 (.inr (asL.1 hz)))];exact e
 case slice t y lo hi mx=>
  cases mx<;>(try dsimp only at e |-)<;>try (cases e;done)
  rw[one y (by simp[Op.operands])];split at e<;>try cases e
  rename_i hu;refine ann L e ?_ ?_
  .cases lo with|none=>rfl|some z=>simp only[mV];rw[one z (by simp[Op.operands])]
  .cases hi with|none=>rfl|some z=>simp only[mV];rw[one z (by simp[Op.operands])]
 case fieldAddr t y f=>rw[one y (by simp[Op.operands])];exact e
 case field t y f=>rw[one y (by simp[Op.operands])];exact e
 case indexAddr t y i=>
  rw[one y (by simp[Op.operands]),one i (by simp[Op.operands])];split at e<;>try cases e
  exact amM L e
 case index t y i=>rw[one y (by simp[Op.operands]),one i (by simp[Op.operands])];exact e
 case extract t i=>rw[one t (by simp[Op.operands])];exact e
 case lookup t y i ck=>
  rw[one y (by simp[Op.operands]),one i (by simp[Op.operands])];split at e<;>try cases e
  split at e<;>cases e;rename_i v hv;rw[an0 L hv]
 case call c=>
  split at e<;>try cases e
  rename_i b hb;rw[lst c.args.toList (by intro z hz;simp only[Op.operands,Call.operands,hb];simpa using hz)];split at e<;>try cases e
  rename_i vs hvs;split at e<;>cases e;rename_i v hv;rw[amN L hv]
def mv(ops:Array Oper)(T:Tr AV)(o:Oper):Option Bool:=match o.guard with
 |none=>some true|some (j,want)=>match nth ops.toList j with
  |some oj=>match oj.dst with
   |some t=>match T.get t with
    |some (.bool b)=>some (match b with|true=>want|false=>!want)
    |some (.d5 [])=>some false|_=>none
   |none=>none
  |none=>none
theorem Ak{ops:Array Oper}{T T':Tr AV}{o:Oper}(h:∀t∈looks ops.toList o,T'.get t=T.get t):mv ops T' o=mv ops T o:=by
 unfold mv;split
 .rfl
 .rename_i j want hg;split
  .rename_i oj hj;split
   .rename_i t ht;rw[h t (xc (ops:=ops) hg (by rw[fc]at hj;simpa using hj) ht)]
   .rfl
  .rfl
theorem Tm{ops:Array Oper}{T:Tr AV}{o:Oper}{b:Bool}(e:mv ops T o=some b){X:Cx}{a:Act}(R:∀t∈looks ops.toList o,∀v,T.get t=some v->∃V,a.tmps[t]?=some V/\Rel X v V) :
  Region.wanted o (yielded ops a.tmps)=b:=by
 unfold mv at e;unfold Region.wanted;split at e
 .rename_i hg;grind
 .rename_i j want hg;split at e<;>try cases e
  rename_i oj hj;split at e<;>try cases e
  rename_i t ht;have hj':ops[j]?=some oj:=by rw[fc]at hj;simpa using hj
  have hl:=xc (ops:=ops) hg hj' ht;rw[hg];split at e<;>cases e
  .rename_i c hv;obtain⟨V,h1,h2⟩:=R t hl _ hv;rw[show V=_ from h2]at h1;cases c<;>cases want<;>simp[yielded,hj',ht,h1]
  .rename_i hv;obtain⟨V,h1,cs,rfl,h2⟩:=R t hl _ hv;simp[yielded,hj',ht,h1]
theorem amR{R:Type}{ops:Array Oper}{T:Tr AV}{o:Oper}{k:Bool->Tr AV->Option R}{r:R}(e:xo ops T o k=some r):∃b T',k b T'=some r/\(∀t,T'.get t=T.get t)/\mv ops T o=some b:=by
 unfold xo at e;unfold mv;split at e
 .rename_i hg
  grind
 .rename_i j want hg
  try rw[hg]
  split at e<;>try cases e
  rename_i oj hj;split at e<;>try cases e
  rename_i t ht;split at e<;>try cases e
  rename_i v hv;simp only[hj,ht,hv];split at e
  .rename_i b;have same:∀{T':Tr AV},Tr.set FT T t (some (.bool b))=some T'->∀u,T'.get u=T.get u:=by
    intro T' hs u;rw[Tr.dp _ _ _ _ _ hs u]
    grind
   rcases Np e with⟨hb,e2⟩|⟨hb,e2⟩
   .subst hb
    grind
   grind
  .exact⟨false,T,e,fun _=>rfl,rfl⟩
  .cases e
def ov{α:Type}(f:α->α->Bool):List α->List α->Bool
 |[],[]=>true|x::l,y::m=>match f x y with|true=>ov f l m|false=>false
 |_,_=>false
theorem Ty{α:Type}{f:α->α->Bool}(h:∀x y,f x y=true->x=y):∀{l m:List α},ov f l m=true->l=m
 |[],[],_=>rfl|x::l,y::m,q=>by
  simp only[ov]at q;split at q
  .rename_i hx;rw[h x y hx,Ty h q]
  .cases q
 |[],_::_,q=>by simp[ov]at q|_::_,[],q=>by simp[ov]at q
theorem yZ{α:Type}{f:α->α->Bool}(h:∀x,f x x=true):∀l:List α,ov f l l=true
 |[]=>rfl|x::l=>by simp only[ov,h x];exact yZ h l
def Nz(a b:Int):Bool:=decide (a=b)
def Rp(a b:Bool):Bool:=decide (a=b)
theorem aiO{a b:Int}(h:Nz a b=true):a=b:=aig h
theorem an6{a b:Bool}(h:Rp a b=true):a=b:=aig h
mutual
def Sh.beq:(σ:Sh)->σ.T->σ.T->Bool
 |.int _,a,b=>Nz a b|.bool,a,b=>Rp a b|.str,a,b=>Ev.yQ a b|.agg l,a,b=>wE l a b|.sl s,a,b=>ov s.beq a b
termination_by structural x=>x
def wE:(l:List Sh)->TL l->TL l->Bool
 |[],_,_=>true|s::l,a,b=>match s.beq a.1 b.1 with|true=>wE l a.2 b.2|false=>false
termination_by structural x=>x
end
mutual
theorem Sh.beq_eq:∀{σ:Sh}{a b:σ.T},σ.beq a b=true->a=b
 |.int _,a,b,h=>aiO h|.bool,a,b,h=>an6 h|.str,a,b,h=>Ev.TP h|.agg l,a,b,h=>abr (l:=l) h|.sl s,a,b,h=>Ty (fun x y q=>Sh.beq_eq q) h
theorem abr:∀{l:List Sh}{a b:TL l},wE l a b=true->a=b
 |[],a,b,_=>rfl|s::l,a,b,h=>by
  simp only[wE]at h;split at h
  .rename_i q;exact Prod.ext (Sh.beq_eq q) (abr h)
  .cases h
end
def alZ{τ τ':Sh}(h:τ.eqv τ'=true)(x:τ.T):τ'.T:=Sh.ic h▸x
mutual
def iJ:AV->AV->Option Bool
 |.bool a,v=>match v with|.bool b=>some (decide (a=b))|_=>none
 |.int k a,v=>match v with|.int k' b=>(match me k k' with|true=>some (decide (a=b))|false=>none)|_=>none
 |.str a,v=>match v with|.str b=>some (Ev.yQ a b)|_=>none
 |.fw,v=>match v with|.fw=>some true|_=>none
 |.bt,v=>match v with|.bt=>some true|_=>none
 |.gr,v=>match v with|.gr=>some true|_=>none
 |.ga,v=>match v with|.ga=>some true|_=>none
 |.gZ,v=>match v with|.gZ=>some true|_=>none
 |.kS,_=>none|.ptr b o,v=>match v with|.ptr b' o'=>(match Nat.beq b b',Nat.beq o o' with|true,true=>some true|_,_=>none)|_=>none
 |.fE b i z o,v=>match v with|.fE b' i' z' o'=>(match Nat.beq b b',Nat.beq z z',Nat.beq o o' with|true,true,true=>some (decide (i=i'))|_,_,_=>none)|_=>none
 |.ie σ d o,v=>match v with|.ie σ' d' o'=>(match e:σ.eqv σ',Nat.beq o o' with|true,true=>some (σ'.beq (alZ e d) d')|_,_=>none)|_=>none
 |.hd b τ,v=>match v with|.hd b' τ'=>(match Nat.beq b b',τ.eqv τ' with|true,true=>some true|_,_=>none)|_=>none
 |.vw b τ o n,v=>match v with|.vw b' τ' o' n'=>(match Nat.beq b b',τ.eqv τ' with|true,true=>some (both (decide (o=o')) (decide (n=n')))|_,_=>none)|_=>none
 |.fz τ L,v=>match v with|.fz τ' L'=>(match e:τ.eqv τ' with|true=>some (ov τ'.beq (ma e L) L')|false=>none)|_=>none
 |.func f x c,v=>match v with|.func f' x' c'=>(match Nat.beq f f',sf x x',sf c c' with|true,some p,some q=>some (both p q)|_,_,_=>none)|_=>none
 |.fJ _ _ _,_=>none|.mp b,v=>match v with|.mp b'=>(match Nat.beq b b' with|true=>some true|false=>none)|_=>none
 |.fB b,v=>match v with|.fB b'=>(match Nat.beq b b' with|true=>some true|false=>none)|_=>none
 |.rp b i,v=>match v with|.rp b' i'=>(match Nat.beq b b' with|true=>some (decide (i=i'))|false=>none)|_=>none
 |.ra b i,v=>match v with|.ra b' i'=>(match Nat.beq b b' with|true=>some (decide (i=i'))|false=>none)|_=>none
 |.agg l,v=>match v with|.agg m=>sf l m|_=>none
 |.d5 l,v=>match v with|.d5 m=>sf l m|_=>none
termination_by structural x=>x
def sf:List AV->List AV->Option Bool
 |[],m=>match m with|[]=>some true|_=>none
 |x::l,m=>match m with
  |y::m=>(match iJ x y,sf l m with|some p,some q=>some (both p q)|_,_=>none)
  |[]=>none
termination_by structural x=>x
end
mutual
theorem ZZ:∀{a b:AV},iJ a b=some true->a=b
 |.bool a,b,h=>by cases b<;>simp only[iJ]at h<;>first|(cases h;done)|(simp only[cM,IR]at h;rw[h])
 |.int k a,b,h=>by
  cases b<;>simp only[iJ]at h<;>first|(cases h;done)|skip
  split at h<;>try cases h
  rename_i hk;simp only[cM,IR]at h;rw[oo hk,h]
 |.str a,b,h=>by cases b<;>simp only[iJ]at h<;>first|(cases h;done)|(simp only[cM]at h;rw[Ev.TP h])
 |.fw,b,h=>by cases b<;>simp only[iJ]at h<;>first|rfl|cases h
 |.bt,b,h=>by cases b<;>simp only[iJ]at h<;>first|rfl|cases h
 |.gr,b,h=>by cases b<;>simp only[iJ]at h<;>first|rfl|cases h
 |.ga,b,h=>by cases b<;>simp only[iJ]at h<;>first|rfl|cases h
 |.gZ,b,h=>by cases b<;>simp only[iJ]at h<;>first|rfl|cases h
 |.kS,b,h=>by simp only[iJ]at h;cases h
 |.ptr x o,b,h=>by
  cases b<;>simp only[iJ]at h<;>first|(cases h;done)|skip
  split at h<;>try cases h
  rename_i h1 h2;rw[cB h1,cB h2]
 |.fE x i z o,b,h=>by
  cases b<;>simp only[iJ]at h<;>first|(cases h;done)|skip
  split at h<;>try cases h
  rename_i h1 h2 h3;simp only[cM,IR]at h;rw[cB h1,cB h2,cB h3,h]
 |.ie σ d o,b,h=>by
  cases b<;>simp only[iJ]at h<;>first|(cases h;done)|skip
  split at h<;>try cases h
  rename_i σ' d' o' h1 h2;simp only[cM]at h;have h:=Sh.beq_eq h;rw[cB h2,<-h];have:=Sh.ic h1;subst this;rfl
 |.hd x τ,b,h=>by
  cases b<;>simp only[iJ]at h<;>first|(cases h;done)|skip
  split at h<;>try cases h
  rename_i h1 h2;rw[cB h1,Sh.ic h2]
 |.vw x τ o n,b,h=>by
  cases b<;>simp only[iJ]at h<;>first|(cases h;done)|skip
  split at h<;>try cases h
  rename_i h1 h2;simp only[cM]at h;obtain⟨h3,h4⟩:=pk h;simp only[IR]at h3 h4;rw[cB h1,Sh.ic h2,h3,h4]
 |.fz τ L,b,h=>by
  cases b<;>simp only[iJ]at h<;>first|(cases h;done)|skip
  split at h<;>try cases h
  rename_i τ' L' h1;simp only[cM]at h;have h:=Ty (fun x y q=>Sh.beq_eq q) h;rw[<-h];have:=Sh.ic h1;subst this;rfl
 |.func f x c,b,h=>by
  cases b<;>simp only[iJ]at h<;>first|(cases h;done)|skip
  split at h<;>try cases h
  rename_i p q h1 h2 h3;simp only[cM]at h;obtain⟨h4,h5⟩:=pk h;subst h4;subst h5;rw[cB h1,AL h2,AL h3]
 |.fJ _ _ _,b,h=>by simp only[iJ]at h;cases h
 |.mp x,b,h=>by
  cases b<;>simp only[iJ]at h<;>first|(cases h;done)|skip
  split at h<;>try cases h
  rename_i h1;rw[cB h1]
 |.fB x,b,h=>by
  cases b<;>simp only[iJ]at h<;>first|(cases h;done)|skip
  split at h<;>try cases h
  rename_i h1;rw[cB h1]
 |.rp x i,b,h=>by
  cases b<;>simp only[iJ]at h<;>first|(cases h;done)|skip
  split at h<;>try cases h
  rename_i h1;simp only[cM,IR]at h;rw[cB h1,h]
 |.ra x i,b,h=>by
  cases b<;>simp only[iJ]at h<;>first|(cases h;done)|skip
  split at h<;>try cases h
  rename_i h1;simp only[cM,IR]at h;rw[cB h1,h]
 |.agg l,b,h=>by cases b<;>simp only[iJ]at h<;>first|(cases h;done)|(rw[AL h])
 |.d5 l,b,h=>by cases b<;>simp only[iJ]at h<;>first|(cases h;done)|(rw[AL h])
theorem AL:∀{a b:List AV},sf a b=some true->a=b
 |[],b,h=>by cases b<;>simp only[sf]at h<;>first|rfl|cases h
 |x::l,b,h=>by
  cases b<;>simp only[sf]at h<;>first|(cases h;done)|skip
  split at h<;>try cases h
  rename_i p q h1 h2;simp only[cM]at h;obtain⟨h4,h5⟩:=pk h;subst h4;subst h5;rw[ZZ h1,AL h2]
end
def EX(ts:mt):mt->Bool
 |[]=>true|x::l=>match kq x ts with|true=>false|false=>EX ts l
theorem Zwt{ts:mt}:∀{l:mt},EX ts l=true->∀x∈l,x∉ts
 |[],_,x,hx=>by cases hx
 |y::l,h,x,hx=>by
  simp only[EX]at h;split at h<;>try cases h
  rename_i q;rcases GE.1 hx with rfl|hx
  .intro r;rw[rB.2 r]at q;cases q
  .exact Zwt h x hx
def tA(q:Nat):List Oper->List PE->mt
 |o::l,pe::ps=>match pe with|.w _=>tA q l ps|.p lo _=>match Nat.beq lo q,o.dst with|true,some t=>t::tA q l ps|_,_=>tA q l ps
 |_,_=>[]
theorem Zwb{q:Nat}:∀{os:List Oper}{ps:List PE}{x:Nat}{o:Oper}{hi:Nat}{t:Tmp},os[x]?=some o->ps[x]?=some (.p q hi)->o.dst=some t->t∈tA q os ps
 |[],ps,x,o,hi,t,h,_,_=>by simp at h|o'::os,[],x,o,hi,t,_,h,_=>by simp at h|o'::os,pe::ps,x,o,hi,t,h1,h2,h3=>by
  simp only[tA];cases x with
  |zero=>
   simp at h1 h2
   simp_all
  |succ x=>
   have:=Zwb (q:=q) (x:=x) (by simpa using h1) (by simpa using h2) h3
   grind
def dl:Option Tmp->mt|some t=>[t]|none=>[]
def yG(n:Nat):List Oper->Bool
 |[]=>true|o::l=>match o.dst with
  |some t=>match Nat.blt t n with|true=>yG n l|false=>false
  |none=>yG n l
theorem Tz{n:Nat}:∀{os:List Oper},yG n os=true->∀(x:Nat) (o:Oper) (t:Tmp),os[x]?=some o->o.dst=some t->t<n
 |[],_,x,o,t,h,_=>by simp at h|o'::os,h,x,o,t,h1,h2=>by
  simp only[yG]at h;cases x with
  |zero=>
   simp at h1;subst h1;simp only[h2]at h;split at h<;>try cases h
   simp_all
  |succ x=>
   have h1:os[x]?=some o:=by grind
   split at h
   .split at h<;>try cases h
    exact Tz h x o t h1 h2
   .exact Tz h x o t h1 h2
def qR:List Oper->List PE->mt->Bool
 |o::l,pe::ps,seen=>match o.dst with
  |some t=>match kq t seen with|true=>false|false=>qR l ps (t::seen)
  |none=>match pe with|.w _=>qR l ps seen|.p _ _=>match gU o.op with|true=>false|false=>qR l ps seen
 |_,_,_=>true
theorem Js:∀{os:List Oper}{ps:List PE}{seen:mt},qR os ps seen=true->os.length=ps.length->∀(x:Nat) (o:Oper) (t:Tmp),os[x]?=some o->o.dst=some t->t∉seen
 |[],ps,seen,_,_,x,o,t,h,_=>by simp at h|o'::os,[],seen,_,h,x,o,t,_,_=>by simp at h|o'::os,pe::ps,seen,h,hl,x,o,t,h1,h2=>by
  simp only[qR]at h;simp only[di,Nat.add_right_cancel_iff]at hl;cases x with
  |zero=>
   simp at h1;subst h1;simp only[h2]at h;split at h<;>try cases h
   rename_i q;intro r;rw[rB.2 r]at q;cases q
  |succ x=>
   have h1:os[x]?=some o:=by grind
   split at h
   .split at h<;>try cases h
    exact fun r=>Js h hl x o t h1 h2 (FS _ r)
   .split at h
    .exact Js h hl x o t h1 h2
    .split at h<;>try cases h
     exact Js h hl x o t h1 h2
theorem Zyg:∀{os:List Oper}{ps:List PE}{seen:mt},qR os ps seen=true->os.length=ps.length->(∀(x y:Nat) (o o':Oper) (t:Tmp),os[x]?=some o->os[y]?=some o'->o.dst=some t->o'.dst=some t->x=y) /\
  ∀(x:Nat) (o:Oper) (lo hi:Nat),os[x]?=some o->ps[x]?=some (.p lo hi)->gU o.op=true->∃t,o.dst=some t
 |[],ps,seen,_,_=>⟨fun x y o o' t h=>by simp at h,fun x o lo hi h=>by simp at h⟩|avF::os,[],seen,_,h=>by simp at h|avF::os,pe::ps,seen,h,hl=>by
  simp only[qR]at h;simp only[di,Nat.add_right_cancel_iff]at hl;have main:∀seen',qR os ps seen'=true->(∀t,avF.dst=some t->t∈seen')->(avF.dst=none->∀lo hi,pe=.p lo hi->gU avF.op=false) ->
    (∀(x y:Nat) (o o':Oper) (t:Tmp),(avF::os)[x]?=some o->(avF::os)[y]?=some o'->o.dst=some t->o'.dst=some t->x=y) /\
    ∀(x:Nat) (o:Oper) (lo hi:Nat),(avF::os)[x]?=some o->(pe::ps)[x]?=some (.p lo hi)->gU o.op=true->∃t,o.dst=some t:=by
   intro seen' hk bz hmk;obtain⟨r1,r2⟩:=Zyg hk hl;have sn:=Js hk hl
   grind
  grind
section
variable{R:Type}(P:Program)(sh:TypeId->Option Sh)(call:jW R)
def Ol(n:Nat)(ops:Array Oper)(o:Oper)(st:St)(k:St->Option R):Option R:=xo ops st.T o fun b T=>match b with
 |false=>match j7 n T o.dst (.d5 [])with|some T=>k ⟨T,st.h⟩|none=>none
 |true=>match qv P sh T st.h st.h.next o.op with
  |some (g,ob,v)=>match Tr.set FT st.h.tr st.h.next (some ob),j7 n T o.dst v with|some tr,some T=>au g (k ⟨T,⟨tr,st.h.next+1⟩⟩)|_,_=>none
  |none=>match ot P T st.h o with
   |some (g,v)=>match j7 n T o.dst v with|some T=>au g (k ⟨T,st.h⟩)|none=>none
   |none=>none
def qt(n:Nat)(ops:Array Oper)(q:Nat):List Oper->List PE->St->(St->Option R)->Option R
 |o::l,pe::ps,st,k=>match pe with|.w _=>qt n ops q l ps st k|.p lo _=>match Nat.beq lo q with|false=>qt n ops q l ps st k|true=>Ol P sh n ops o st fun st=>qt n ops q l ps st k
 |_,_,st,k=>k st
def ow(ops:Array Oper)(q:Nat)(ch:Bool)(ts:mt)(st:St):List Oper->List PE->Option R->Option R
 |o::l,pe::ps,k=>match pe with
  |.w _=>ow ops q ch ts st l ps k|.p lo hi=>match Nat.blt lo q,Nat.ble q hi with
   |true,true=>match EX ts (looks ops.toList o)with
    |false=>none|true=>match ch,gU o.op with
     |true,false=>match mv ops st.T o with
      |some true=>match ot P st.T st.h o,o.dst with
       |some (g,v),some t=>match st.T.get t with
        |some u=>match iJ u v with|some s=>au g (au s (ow ops q ch ts st l ps k))|none=>none
        |none=>none
       |some (g,v),none=>au g (ow ops q ch ts st l ps k)|_,_=>none
      |some false=>ow ops q ch ts st l ps k|none=>none
     |_,_=>ow ops q ch ts st l ps k
   |_,_=>ow ops q ch ts st l ps k
 |_,_,k=>k
def EI(n:Nat)(ops:Array Oper)(pl:List PE):Nat->Nat->St->(St->Option R)->Option R
 |0,_,st,k=>k st|r+1,q,st,k=>match pO (q+1) ops.toList pl with|some o=>ES P sh call n ops o st fun ch avL=>qt P sh n ops (q+1) ops.toList pl avL fun avM=>ow P ops (q+1) ch (dl o.dst++tA (q+1) ops.toList pl) avM ops.toList pl (EI n ops pl r (q+1) avM k)|none=>none
def Ns(n:Nat)(ops:Array Oper)(st:St)(k:St->Option R):Option R:=match xn ops.toList (tf ops.toList)with
 |some m=>match qR ops.toList (tf ops.toList) [],yG n ops.toList with|true,true=>qt P sh n ops 0 ops.toList (tf ops.toList) st fun st=>EI P sh call n ops (tf ops.toList) m 0 st k|_,_=>none
 |none=>none
end
def PN(P:Program)(sh:TypeId->Option Sh)(ops:Array Oper)(b:Nat)(T:Tr AV)(h:Hp)(o:Oper)(v:AV):Prop:=
 (mv ops T o=some false/\v=.d5 [])\/(mv ops T o=some true/\gU o.op=false/\ot P T h o=some (true,v)) \/
 (mv ops T o=some true/\gU o.op=true/\∃id ob,qv P sh T h id o.op=some (true,ob,v)/\h.tr.get id=some ob/\id<h.next/\b<=id)
theorem PN.congr{P:Program}{sh:TypeId->Option Sh}{ops:Array Oper}{b b':Nat}{T T':Tr AV}{h h':Hp}{o:Oper}{v:AV}(p:PN P sh ops b T h o v)(hT:∀t∈looks ops.toList o,T'.get t=T.get t)(hh:gd h h')(hn:h.next<=h'.next)(hb:b'<=b):PN P sh ops b' T' h' o v:=by
 have hw:=Ak (ops:=ops) (T:=T) (T':=T') hT;have hO:∀t,.tmp t∈o.op.operands->T'.get t=T.get t:=fun t q=>hT t (qo q);rcases p with⟨h1,h2⟩|⟨h1,h2,h3⟩|⟨h1,h2,id,ob,h3,h4,h5,h6⟩
 .exact .inl ⟨hw.trans h1,h2⟩
 .exact .inr (.inl ⟨hw.trans h1,h2,TH hh h3 hO⟩)
 .exact .inr (.inr ⟨hw.trans h1,h2,id,ob,TJ h3 hO,hh _ _ h4,WP h5 hn,IS hb h6⟩)
