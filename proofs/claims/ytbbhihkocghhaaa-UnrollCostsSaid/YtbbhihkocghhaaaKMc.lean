import Derived.Test.YtbbhihkocghhaaaKMb
import Derived.MapKept
set_option linter.all false
section
namespace Go.Proofs.Ytbbhihkocghhaaa.V
open Go Go.RowKit Go.MapKept
open Go.Proofs.Ytbbhihkocghhaaa.Ev (Tr Tr.bE nth bW bU dK ir)
def sj:AV->Bool|.agg _=>true|_=>false
variable{X:Cx}{V:Value}
theorem LV{v:AV}(R:Rel X v V):ER V=sj v:=by
 cases v with
 |agg l=>obtain⟨cs,rfl,_⟩:=R;rfl
 |bD l=>obtain⟨cs,rfl,_⟩:=R;rfl
 |ij=>have:Ev.jO V=true:=R;cases V<;>first|rfl|cases this
 |bool b=>rw[show V=_ from R];rfl|int k n=>rw[show V=_ from R];rfl|str s=>rw[show V=_ from R];rfl|cK=>rw[show V=_ from R];rfl|bu=>rw[R];rfl|cR=>rw[R];rfl|cQ=>rw[R];rfl|dy=>rw[R];rfl|ptr b off=>obtain⟨x,c,h1,rfl⟩:=R;rfl
 |cY b i z o=>obtain⟨x,c,h1,rfl,_⟩:=R;rfl
 |eC σ d o=>obtain⟨b,off,cs,rfl,_⟩:=R;rfl
 |hd b τ=>obtain⟨l,h1,hc,_⟩:=R;cases V<;>first|rfl|cases hc
 |vw b τ off len=>obtain⟨l,a,c,h1,rfl,_⟩:=R;rfl
 |fz τ L=>obtain⟨a,len,cap,e,_⟩:=R;simp at e;rw[e];rfl
 |func f x c=>obtain⟨xs,cs,rfl,_⟩:=R;rfl
 |dt τ z L=>obtain⟨_,a,l,c,rfl,_⟩:=R;rfl
 |mp b=>obtain⟨x,c,h1,rfl⟩:=R;rfl
 |dA b=>obtain⟨l,h1,rfl⟩:=R;cases l<;>rfl
 |rp b i=>obtain⟨x,c,m,p,h1,h2,rfl⟩:=R;rfl
 |ra b i=>obtain⟨x,c,m,h1,h2,rfl⟩:=R;rfl
def aaG:Bool->List AV->AV
 |false,[v]=>v|_,l=>.agg l
def vQ(σ:Sh)(d:σ.T):AV:=aaG (pV σ) (kL σ d)
variable{σ:Sh}{d:σ.T}
theorem zp(h:cH X.w X.out σ d V):Rel X (vQ σ d) V:=by
 obtain⟨h1,h2⟩:=h;have hr:=qn h1;have single:∀{u:AV},ER V=false->bc X [u] V.cells.toList->Rel X u V:=by
  intro u hv q;have:V.cells=#[V]:=by cases V<;>first|rfl|cases hv
  obtain⟨v,r,e,q1,q2⟩:=q
  grind
 cases σ with
 |agg l=>cases V with|agg cs=>exact⟨cs.toList,acv,by simpa[Value.cells]using hr⟩|_=>cases h2
 |int k=>exact single h2 hr|bool=>exact single h2 hr|str=>exact single h2 hr|sl s=>exact single h2 hr
def oD(kl:Bool)(h:Hp)(σ:Sh)(v:AV):Option (σ.T×Hp):=match sj v,pV σ with
 |true,true|false,false=>match dz kl h σ (bV v)with
  |some (d,l,h)=>match l with|[]=>some (d,h)|_=>none
  |none=>none
 |_,_=>none
theorem Cb{kl:Bool}(H:ab X){v:AV}{h':Hp}(e:oD kl X.h σ v=some (d,h'))(R:Rel X v V) :
  dS X h'/\cH X.w (Cx.out ⟨X.s,h',X.w,X.A⟩) σ d V:=by
 have hag:=LV R;unfold oD at e;have main:sj v=pV σ->(match dz kl X.h σ (bV v)with
  |some (d,l,h)=>match l with|[]=>some (d,h)|_=>none
  |none=>none)=some (d,h')->dS X h'/\cH X.w (Cx.out ⟨X.s,h',X.w,X.A⟩) σ d V:=by
  intro ha e;split at e<;>try cases e
  rename_i ads l h₁ hf;split at e<;>cases e;obtain⟨F,c,r,he,h1,h2⟩:=nS H hf (ju R);have:r=[]:=h2;exact⟨F,by grind,by rw[hag,ha]⟩
 grind
def mu(σ:Sh)(M:cU σ)(k:Int):σ.T:=match M with|[]=>σ.zero|p::M=>match decide (p.1=k)with|true=>p.2.1|false=>mu σ M k
def nC{σ:Sh}(M:cU σ)(k:Int):Bool:=match M with|[]=>false|p::M=>match decide (p.1=k)with|true=>true|false=>nC M k
def iO{σ:Sh}(k:Int)(v:σ.T)(M:cU σ):cU σ:=match M with|[]=>[(k,v,())]|p::M=>match decide (k<p.1)with|true=>(k,v,())::p::M|false=>match decide (p.1=k)with|true=>(k,v,())::M|false=>p::iO k v M
def js{σ:Sh}(k:Int)(M:cU σ):cU σ:=match M with|[]=>[]|p::M=>match decide (p.1=k)with|true=>M|false=>p::js k M
variable{k:Int}{M:cU σ}{q:Int×σ.T×Unit}{v:σ.T}
theorem Td(h:q∈iO k v M):q.1=k\/q∈M:=by
 induction M with
 |nil=>simp only[iO,abS]at h;subst h;exact .inl rfl|cons p M ih=>
  unfold iO at h
  grind
theorem QE(h:M.Pairwise (fun p q=>p.1<q.1)):(iO k v M).Pairwise (fun p q=>p.1<q.1):=by
 induction M with
 |nil=>simp[iO]|cons p M ih=>
  obtain⟨h1,h2⟩:=aaV.1 h;unfold iO;split
  .rename_i hk;refine aaV.2 ⟨fun q hq=>?_,h⟩
   grind
  .rename_i hk;have hk:=abc hk;split
   .rename_i he;exact aaV.2 ⟨fun q hq=>by grind,h2⟩
   .rename_i he;have he:=abc he;refine aaV.2 ⟨fun q hq=>?_,ih h2⟩;rcases Td hq with e|hq
    .omega
    .exact h1 q hq
theorem Te(h:∀p∈M,p.1≠k):(iO k v M).Perm (M++[(k,v,())]):=by
 induction M with
 |nil=>exact .refl _|cons p M ih=>
  unfold iO;split
  .exact(List.perm_append_singleton (k,v,()) (p::M)).symm
  simp_all
variable{u:σ.T}{B:cU σ}
theorem Tf(hs:M.Pairwise (fun p q=>p.1<q.1)){A:cU σ}(h:(A++(k,u,())::B).Perm M):(A++(k,v,())::B).Perm (iO k v M):=by
 have hm:(k,u,())∈M:=h.subset acv;obtain⟨C,D,rfl⟩:=List.append_of_mem hm;have hAB:(A++B).Perm (C++D):=by have h1:((k,u,())::(A++B)).Perm ((k,u,())::(C++D)):=List.perm_middle.symm.trans (h.trans List.perm_middle);exact(List.perm_cons _).1 h1
 have hput:iO k v (C++(k,u,())::D)=C++(k,v,())::D:=by
  clear h hm hAB
  induction C with
  |nil=>
   unfold iO
   grind
  |cons p C ih=>obtain⟨h1,h2⟩:=aaV.1 hs;have:=h1 (k,u,()) acv;rw[PP,iO,iK (show ¬k<p.1 by omega),iK (show ¬p.1=k by have:p.1<k:=this;omega),PP];rw[ih h2]
 rw[hput];exact List.perm_middle.trans ((hAB.cons _).trans List.perm_middle.symm)
theorem XS(h:∀p∈M,p.1≠k):js k M=M:=by induction M with|nil=>rfl|cons p M ih=>rw[js];grind
theorem S8(h:q∈js k M):q∈M:=by
 induction M with
 |nil=>exact h|cons p M ih=>
  unfold js at h
  grind
theorem WO(h:M.Pairwise (fun p q=>p.1<q.1)):(js k M).Pairwise (fun p q=>p.1<q.1):=by
 induction M with
 |nil=>exact h|cons p M ih=>
  obtain⟨h1,h2⟩:=aaV.1 h;unfold js;split
  .exact h2
  .exact aaV.2 ⟨fun q hq=>h1 q (S8 hq),ih h2⟩
theorem S9(hs:M.Pairwise (fun p q=>p.1<q.1)){A:cU σ}(h:(A++(k,u,())::B).Perm M):(A++B).Perm (js k M):=by
 have hm:(k,u,())∈M:=h.subset acv;obtain⟨C,D,rfl⟩:=List.append_of_mem hm;have hAB :=by have h1 :=List.perm_middle.symm.trans (h.trans List.perm_middle);exact(List.perm_cons _).1 h1
 have hput:js k (C++(k,u,())::D)=C++D:=by
  clear h hm hAB
  induction C with|nil=>unfold js;grind|cons p C ih=>obtain⟨h1,h2⟩:=aaV.1 hs;have:=h1 (k,u,()) acv;rw[PP,js,iK acs,PP];rw[ih h2]
 rw[hput];exact hAB
theorem XP(h:∀p∈M,p.1≠k):mu σ M k=σ.zero/\nC M k=false:=by induction M with|nil=>exact⟨rfl,rfl⟩|cons p M ih=>rw[mu,nC];grind
theorem Tc(hs:M.Pairwise (fun p q=>p.1<q.1))(h:(k,u,())∈M):mu σ M k=u/\nC M k=true:=by
 induction M with
 |nil=>cases h
 |cons p M ih=>
  obtain⟨h1,h2⟩:=aaV.1 hs;rcases BY.1 h with rfl|h
  .rw[mu,nC,gO rfl];exact⟨rfl,rfl⟩
  .have:=h1 _ h;rw[mu,nC,iK acs];exact ih h2 h
variable{A:Nat->Prop}{w:World}{κ:IntKind}
theorem gg.len:∀{es:List MapEntry}{N:cU σ},gg w A κ σ es N->es.length=N.length
 |[],N,h=>by rw[h];rfl|e::es,N,h=>by cases N with|nil=>exact h.elim|cons p N=>rw[cq,cq,gg.len h.2.2]
theorem gg.at_:∀{es:List MapEntry}{N:cU σ}{j:Nat}{e:MapEntry},gg w A κ σ es N->es[j]?=some e ->
  ∃P p S,N=P++p::S/\P.length=j/\e.key=.int κ p.1/\cH w A σ p.2.1 e.val/\gg w A κ σ (es.eraseIdx j) (P++S) /\
   ∀e' v,e'.key=.int κ p.1->cH w A σ v e'.val->gg w A κ σ (es.set j e') (P++(p.1,v,())::S)
 |[],N,j,e,h,q=>by simp at q|x::es,N,j,e,h,q=>by cases N with|nil=>exact h.elim|cons p N=>cases j with|zero=>simp at q;subst q;exact⟨[],p,N,rfl,rfl,h.1,h.2.1,h.2.2,fun e' v h1 h2=>⟨h1,h2,h.2.2⟩⟩|succ j=>obtain⟨P,p',S,rfl,h1,h2,h3,h4,h5⟩:=gg.at_ h.2.2 (by simpa using q);exact⟨p::P,p',S,rfl,by simp[h1],h2,h3,⟨h.1,h.2.1,h4⟩,fun e' v g1 g2=>⟨h.1,h.2.1,h5 e' v g1 g2⟩⟩
theorem gg.snoc{e:MapEntry}{p:Int×σ.T×Unit}(h1:e.key=.int κ p.1)(h2:cH w A σ p.2.1 e.val):∀{es:List MapEntry}{N:cU σ},gg w A κ σ es N->gg w A κ σ (es++[e]) (N++[p])
 |[],N,h=>by rw[h];exact⟨h1,h2,rfl⟩|x::es,N,h=>by cases N with|nil=>exact h.elim|cons q N=>exact⟨h.1,h.2.1,gg.snoc h1 h2 h.2.2⟩
theorem gg.keys:∀{es:List MapEntry}{N:cU σ},gg w A κ σ es N->(∀e∈es,∃p∈N,e.key=.int κ p.1)/\∀p∈N,∃e∈es,e.key=.int κ p.1
 |[],N,h=>by rw[h];simp|x::es,N,h=>by
  cases N with
  |nil=>exact h.elim|cons q N=>
   obtain⟨g1,g2⟩:=gg.keys h.2.2;refine⟨fun e he=>?_,fun p hp=>?_⟩
   .rcases BY.1 he with rfl|he
    .exact⟨q,acv,h.1⟩
    grind
   .rcases BY.1 hp with rfl|hp
    .exact⟨x,acv,h.1⟩
    grind
variable{clk:Nat}{es:Array MapEntry}
theorem gn.isKey(h:gn w A κ σ es clk M):∀x∈es.toList,IsKey (.int κ) x.key:=by obtain⟨N,h1,h2,_⟩:=h;intro x hx;obtain⟨p,_,hp⟩:=h2.keys.1 x hx;rw[hp];rfl
theorem gn.find(h:gn w A κ σ es clk M)(k:Int) :
  (Instr.findNow (.int κ) (.int κ k) es.toList 0=some none/\∀p∈M,p.1≠k)\/∃j e u,Instr.findNow (.int κ) (.int κ k) es.toList 0=some (some (j,e.val))/\es.toList[j]?=some e/\e.key=.int κ k/\(k,u,())∈M/\cH w A σ u e.val:=by
 have hk:=h.isKey;obtain⟨N,h1,h2,h3,_⟩:=h;rcases findNow_spec (d:=.int κ) (k:=.int κ k) rfl es.toList 0 hk with⟨g1,g2⟩|⟨j,e,g1,g2,g3⟩
 .refine .inl ⟨g1,fun p hp q=>?_⟩;obtain⟨e,he,hek⟩:=h2.keys.2 p (h1.symm.subset hp)
  grind
 .obtain⟨P,p,S,rfl,_,q1,q2,_⟩:=h2.at_ g2
  grind
mutual
def mO:Sh->List AV->Option (List AV)
 |.int k,l=>match l with
  |.int k' n::r=>match jc k' k,n with|true,.ofNat 0=>some r|_,_=>none
  |_=>none
 |.bool,l=>match l with|.bool false::r=>some r|_=>none
 |.str,l=>match l with
  |.str s::r=>match Nat.beq s.size 0 with|true=>some r|false=>none
  |_=>none
 |.agg ss,l=>tK ss l|.sl s,l=>match l with|.bu::r=>some r|_=>none
termination_by structural x=>x
def tK:List Sh->List AV->Option (List AV)
 |[],r=>some r|s::l,r=>match mO s r with|some r=>tK l r|none=>none
termination_by structural x=>x
end
mutual
theorem GY{X:Cx}{w:World}{A:Nat->Prop}:∀{σ:Sh}{l r:List AV},mO σ l=some r->∀{cs:kw},bc X l cs->∃c e,cs=c++e/\Cs w A σ σ.zero c/\bc X r e
 |.int k,l,r,e,cs,R=>by
  simp only[mO]at e;split at e<;>try cases e
  rename_i k' n r';split at e<;>try cases e
  rename_i n' hk;obtain⟨v,t,rfl,h1,h2⟩:=R;have:=kf hk;subst this;exact⟨[v],t,rfl,by rw[show v=_ from h1];rfl,h2⟩
 |.bool,l,r,e,cs,R=>by
  simp only[mO]at e;split at e<;>try cases e
  obtain⟨v,t,rfl,h1,h2⟩:=R;exact⟨[v],t,rfl,by rw[show v=_ from h1];rfl,h2⟩
 |.str,l,r,e,cs,R=>by
  simp only[mO]at e;split at e<;>try cases e
  rename_i s r';split at e<;>try cases e
  rename_i hs;obtain⟨v,t,rfl,h1,h2⟩:=R;have hz:s=ByteArray.empty:=by have:=aW hs;cases s with|mk d=>have:d.size=0:=this;have:d=#[]:=Array.eq_empty_of_size_eq_zero this;subst this;rfl
  subst hz;exact⟨[v],t,rfl,by rw[show v=_ from h1];rfl,h2⟩
 |.agg ss,l,r,e,cs,R=>QB (ss:=ss) e R|.sl s,l,r,e,cs,R=>by
  simp only[mO]at e;split at e<;>try cases e
  obtain⟨v,t,rfl,h1,h2⟩:=R;exact⟨[v],t,rfl,⟨none,0,0,by rw[show v=_ from h1],rfl,ol _,fun q=>absurd rfl q⟩,h2⟩
theorem QB{X:Cx}{w:World}{A:Nat->Prop}:∀{ss:List Sh}{l r:List AV},tK ss l=some r->∀{cs:kw},bc X l cs->∃c e,cs=c++e/\fg w A ss (Br ss) c/\bc X r e
 |[],l,r,e,cs,R=>by simp only[tK,bf]at e;subst e;exact⟨[],cs,rfl,rfl,R⟩|s::ss,l,r,e,cs,R=>by
  simp only[tK]at e;split at e<;>try cases e
  rename_i aeC adv;obtain⟨c,t,rfl,q1,q2⟩:=GY (A:=A) (w:=w) adv R;obtain⟨c',t',rfl,q3,q4⟩:=QB (A:=A) (w:=w) e q2;exact⟨c++c',t',acv,⟨c,c',rfl,q1,q3⟩,q4⟩
end
def Bj(σ:Sh)(M:cU σ)(k:Int)(ck:Bool):AV:=match ck with|true=>.bD [vQ σ (mu σ M k),.bool (nC M k)]|false=>vQ σ (mu σ M k)
def qJ(P:Program)(h:Hp)(t:TypeId)(u i:AV)(ck:Bool):Option AV:=match P.underlying t with
 |some (.map kt et)=>match P.underlying kt,dL P et with
  |some (.int afm),some z=>match u,i with
   |.mp b,.int κ' k=>match h.tr.get b with
    |some (.map κ σ M)=>match jc afm κ,jc κ' κ,sj z,pV σ,mO σ (bV z)with|true,true,false,false,some []=>some (Bj σ M k ck)|true,true,true,true,some []=>some (Bj σ M k ck)|_,_,_,_,_=>none
    |_=>none
   |_,_=>none
  |_,_=>none
 |_=>none
theorem Xt{P:Program}{X:Cx}(H:ab X){t:TypeId}{u i v:AV}{ck:Bool}(e:qJ P X.h t u i ck=some v){U I:Value}(R:Rel X u U)(RI:Rel X i I) :
  ∃V,(Instr.lookup t U I ck).run P X.w=.ok V X.w/\Rel X v V:=by
 unfold qJ at e;split at e<;>try cases e
 rename_i kt et hu;split at e<;>try cases e
 rename_i afm z hk hz;split at e<;>try cases e
 rename_i b κ' k;split at e<;>try cases e
 rename_i κ σ M hb;obtain⟨x,c,hs,rfl⟩:=R;rw[show I=_ from RI];obtain⟨x',c',es,clk,e1,e2,e3⟩:=H.obj b _ _ hb hs;cases e1;obtain⟨Z,hZ0,RZ⟩:=fZ hz X X.w;have main:jc afm κ=true->jc κ' κ=true->sj z=pV σ->mO σ (bV z)=some []->some (Bj σ M k ck)=some v->∃V,(Instr.lookup t (.map (some x)) (.int κ' k) ck).run P X.w=.ok V X.w/\Rel X v V:=by
  intro q1 q2 q3 q4 ev;clear e;have q1:=kf q1;have q2:=kf q2;subst q1;subst q2;have hkey:IsKey (.int κ') (.int κ' k):=rfl;have hD:∃V ok,(do
    let(v,ok) <- match <- Instr.findKey kt (.int κ' k) es.toList with|some (_,v)=>pure (v,true)|none=>pure (<- zeroValue et,false)
    pure (if ck then Value.tuple #[v,.bool ok]else v):Sem Value).run P X.w=.ok (if ck then Value.tuple #[V,.bool ok]else V) X.w/\ok=nC M k/\cH X.w X.out σ (mu σ M k) V:=by
   rcases e3.find k with⟨g1,g2⟩|⟨j,en,d,g1,g2,g3,g4,g5⟩
   .obtain⟨p1,p2⟩:=XP g2;refine⟨Z,false,by simp[run_findKey hk g1,hZ0],p2.symm,?_⟩;rw[p1];obtain⟨zc,zr,f1,f2,f3⟩:=GY (X:=X) (w:=X.w) (A:=X.out) q4 (ju RZ);have:zr=[]:=f3;subst this;rw[dE]at f1;exact⟨by grind,by rw[LV RZ,q3]⟩
   .obtain⟨N,n1,n2,n3,_⟩:=e3;obtain⟨p1,p2⟩:=Tc n3 g4;exact⟨en.val,true,by simp[run_findKey hk g1],p2.symm,by grind⟩
  obtain⟨V,ok,hr,bM,hdat⟩:=hD;refine⟨if ck then Value.tuple #[V,.bool ok]else V,?_,?_⟩
  .have h0:(getObj x).run P X.w=.ok (.map es clk) X.w:=Go.MapKept.run_getObj_map e2;simp only[Instr.lookup,Sem.run_bind,run_underlying hu,Result.andThen_ok,h0,Sem.run_pure,run_checkKey hk hkey];simp only[Sem.run_bind]at hr;exact hr
  .cases ck with
   |true=>cases ev;exact⟨[V,.bool ok],rfl,V,_,rfl,zp hdat,_,_,rfl,by rw[bM];rfl,rfl⟩
   |false=>cases ev;exact zp hdat
 grind
def Bu(P:Program)(h:Hp)(t:TypeId)(u i v:AV):Option Hp:=match P.underlying t with
 |some (.map kt _)=>match P.underlying kt with
  |some (.int afm)=>match u,i with
   |.mp b,.int κ' k=>match h.tr.get b with
    |some (.map κ σ M)=>match jc afm κ,jc κ' κ,oD false h σ v with
     |true,true,some (d,_)=>match Tr.set FT h.tr b (some (.map κ σ (iO k d M)))with|some tr=>some ⟨tr,h.next⟩|none=>none
     |_,_,_=>none
    |_=>none
   |_,_=>none
  |_=>none
 |_=>none
theorem xJ{P:Program}{w:World}{x:Nat}{es:Array MapEntry}{clk:Nat}(h:w.heap[x]?=some (.map es clk))(o:Obj):(setObj x o).run P w=.ok () (bU w x o):=Go.MapKept.run_setObj_map o h
theorem gn.set{w:World}{A:Nat->Prop}{κ:IntKind}{σ:Sh}{es:Array MapEntry}{clk:Nat}{M:cU σ}(h:gn w A κ σ es clk M){j:Nat}{e:MapEntry}{k:Int}{d:σ.T}{V:Value}(he:es.toList[j]?=some e)(hk:e.key=.int κ k)
  (hd:cH w A σ d V):gn w A κ σ (es.modify j fun e=>{ e with key:=.int κ k,val:=V }) clk (iO k d M):=by
 obtain⟨N,h1,h2,h3,h4,h5⟩:=h;obtain⟨Q,p,S,rfl,_,q1,_,_,q2⟩:=h2.at_ he;rw[hk]at q1;simp only[Value.int.injEq,acr]at q1;obtain⟨a,u,⟨⟩⟩:=p;simp only at q1;subst q1;have hl:(es.modify j fun e=>{ e with key:=.int κ k,val:=V }).toList=es.toList.set j { e with key:=.int κ k,val:=V }:=by
  rw[Array.toList_modify];apply aaO
  grind
 refine⟨Q++(k,d,())::S,Tf h3 h1,?_,QE h3,?_,?_⟩
 .rw[hl]
  grind
 .intro y hy
  grind
 .rw[hl];have hb:(es.toList.set j { e with key:=.int κ k,val:=V }).map (·.born)=es.toList.map (·.born):=by
   rw[List.map_set];apply aaO
   grind
  have h5':=(List.pairwise_map (f:=fun e:MapEntry=>e.born) (R:=fun a b=>a≠b)).2 h5
  grind
theorem gn.push{w:World}{A:Nat->Prop}{κ:IntKind}{σ:Sh}{es:Array MapEntry}{clk:Nat}{M:cU σ}(h:gn w A κ σ es clk M){k:Int}{d:σ.T}{V:Value}(hk:∀p∈M,p.1≠k)
  (hd:cH w A σ d V):gn w A κ σ (es.push { key:=.int κ k,val:=V,born:=clk }) (clk+1) (iO k d M):=by
 obtain⟨N,h1,h2,h3,h4,h5⟩:=h;refine⟨N++[(k,d,())],(h1.append_right _).trans (Te hk).symm,?_,QE h3,?_,?_⟩
 .rw[Array.toList_push];exact gg.snoc rfl hd h2
 .intro y hy
  grind
 grind
theorem WB{P:Program}{X:Cx}(H:ab X){h':Hp}{t:TypeId}{u i v:AV}(e:Bu P X.h t u i v=some h'){U I V:Value}(R:Rel X u U)(RI:Rel X i I)(RV:Rel X v V) :
  ∃w',(Instr.mapUpdate t U I V).run P X.w=.ok () w'/\ab ⟨X.s,h',w',X.A⟩/\aB X ⟨X.s,h',w',X.A⟩:=by
 unfold Bu at e;split at e<;>try cases e
 rename_i kt et hu;split at e<;>try cases e
 rename_i afm hk;split at e<;>try cases e
 rename_i b κ' k;split at e<;>try cases e
 rename_i κ σ M hb;split at e<;>try cases e
 rename_i d h₁ q1 q2 hf;split at e<;>cases e;rename_i tr ht;have q1:=kf q1;have q2:=kf q2;subst q1;subst q2;obtain⟨x,c,hs,rfl⟩:=R;rw[show I=_ from RI];obtain⟨x',c',es,clk,e1,e2,e3⟩:=H.obj b _ _ hb hs;cases e1;have hsame:h₁=X.h:=by
  unfold oD at hf;split at hf<;>try cases hf
  all_goals
   split at hf<;>try cases hf
   rename_i hfr;split at hf<;>cases hf;exact zw hfr
 subst hsame;obtain⟨F,hd⟩:=Cb H hf RV;have hd:cH X.w X.out σ d V:=hd;have hkey:IsKey (.int κ') (.int κ' k):=rfl;have fin:∀es' clk',gn X.w X.out κ' σ es' clk' (iO k d M)->ab ⟨X.s,⟨tr,X.h.next⟩,bU X.w x (.map es' clk'),X.A⟩/\aB X ⟨X.s,⟨tr,X.h.next⟩,bU X.w x (.map es' clk'),X.A⟩:=by intro es' clk' hm;have E:=aB.put (ob:=.map es' clk') H hb hs (by intro n q;cases q) ht;refine⟨H.put hb hs (by intro n q;cases q) ht ⟨x,c,es',clk',rfl,?_,hm.aH E.keeps⟩,E⟩;show(bU X.w x _).heap[x]?=_;rw[dK,ut ⟨rfl,gW e2⟩]
 have h0:(getObj x).run P X.w=.ok (.map es clk) X.w:=Go.MapKept.run_getObj_map e2;rcases e3.find k with⟨g1,g2⟩|⟨j,en,u,g1,g2,g3,g4,g5⟩
 .obtain⟨f1,f2⟩:=fin _ _ (e3.push (V:=V) g2 hd);exact⟨_,by simp only[Instr.mapUpdate,Sem.run_bind,run_underlying hu,Result.andThen_ok,h0,run_checkKey hk hkey,run_findKey hk g1,xJ e2],f1,f2⟩
 .obtain⟨f1,f2⟩:=fin _ _ (e3.set (V:=V) g2 g3 hd);have hj:es[j]?=some en:=by grind
  have hkk:((es[j]?).map (·.key)).getD (.int κ' k)=.int κ' k:=by grind
  exact⟨_,by simp only[Instr.mapUpdate,Sem.run_bind,run_underlying hu,Result.andThen_ok,h0,run_checkKey hk hkey,run_findKey hk g1,hkk,run_keyThatStays hkey,xJ e2],f1,f2⟩
def Bv(P:Program)(h:Hp)(ts:Array TypeId)(u i:AV):Option Hp:=match nth ts.toList 0 with
 |some t=>match P.underlying t with
  |some (.map kt _)=>match P.underlying kt with
   |some (.int afm)=>match u,i with
    |.mp b,.int κ' k=>match h.tr.get b with
     |some (.map κ σ M)=>match jc afm κ,jc κ' κ with
      |true,true=>match Tr.set FT h.tr b (some (.map κ σ (js k M)))with|some tr=>some ⟨tr,h.next⟩|none=>none
      |_,_=>none
     |_=>none
    |_,_=>none
   |_=>none
  |_=>none
 |none=>none
theorem gn.erase{w:World}{A:Nat->Prop}{κ:IntKind}{σ:Sh}{es:Array MapEntry}{clk:Nat}{M:cU σ}(h:gn w A κ σ es clk M){j:Nat}{e:MapEntry}{k:Int}(he:es.toList[j]?=some e)(hk:e.key=.int κ k) :
  gn w A κ σ (es.eraseIdxIfInBounds j) clk (js k M):=by
 obtain⟨N,h1,h2,h3,h4,h5⟩:=h;obtain⟨Q,p,S,rfl,_,q1,_,q2,_⟩:=h2.at_ he;rw[hk]at q1;simp at q1;subst q1;have hl:(es.eraseIdxIfInBounds j).toList=es.toList.eraseIdx j:=by simp_all
 refine⟨Q++S,S9 h3 h1,?_,WO h3,?_,?_⟩
 .rw[hl];exact q2
 .intro y hy
  grind
 grind
theorem WC{P:Program}{X:Cx}(H:ab X){h':Hp}{ts:Array TypeId}{ty:TypeId}{u i:AV}(e:Bv P X.h ts u i=some h'){U I:Value}(R:Rel X u U)(RI:Rel X i I) :
  ∃w',(Builtin.delete_ ts ty #[U,I]).run P X.w=.ok (.tuple #[]) w'/\ab ⟨X.s,h',w',X.A⟩/\aB X ⟨X.s,h',w',X.A⟩:=by
 unfold Bv at e;split at e<;>try cases e
 rename_i t htt;split at e<;>try cases e
 rename_i kt et hu;split at e<;>try cases e
 rename_i afm hk;split at e<;>try cases e
 rename_i b κ' k;split at e<;>try cases e
 rename_i κ σ M hb;split at e<;>try cases e
 rename_i q1 q2;split at e<;>cases e;rename_i tr ht;have q1:=kf q1;have q2:=kf q2;subst q1;subst q2;obtain⟨x,c,hs,rfl⟩:=R;rw[RI];have htt:ts[0]?=some t:=by rw[bW]at htt;simpa using htt
 obtain⟨x',c',es,clk,e1,e2,e3⟩:=H.obj b _ _ hb hs;cases e1;have hkey:IsKey (.int κ') (.int κ' k):=rfl;have fin:∀es' clk',gn X.w X.out κ' σ es' clk' (js k M)->ab ⟨X.s,⟨tr,X.h.next⟩,bU X.w x (.map es' clk'),X.A⟩/\aB X ⟨X.s,⟨tr,X.h.next⟩,bU X.w x (.map es' clk'),X.A⟩:=by intro es' clk' hm;have E:=aB.put (ob:=.map es' clk') H hb hs (by intro n q;cases q) ht;refine⟨H.put hb hs (by intro n q;cases q) ht ⟨x,c,es',clk',rfl,?_,hm.aH E.keeps⟩,E⟩;rw[dK,ut ⟨rfl,gW e2⟩]
 have h0:(getObj x).run P X.w=.ok (.map es clk) X.w:=Go.MapKept.run_getObj_map e2;rcases e3.find k with⟨g1,g2⟩|⟨j,en,u,g1,g2,g3,g4,g5⟩
 .obtain⟨f1,f2⟩:=fin es clk (by rw[XS g2];exact e3);refine⟨_,?_,f1,f2⟩;simp only[Builtin.delete_,htt,Array.getElem?_eq_getElem,pu,pm,rx,Sem.run_bind,run_underlying hu,Result.andThen_ok,h0,run_checkKey hk hkey,run_findKey hk g1,xJ e2,Sem.run_pure]
 .obtain⟨f1,f2⟩:=fin _ _ (e3.erase g2 g3);refine⟨_,?_,f1,f2⟩;simp only[Builtin.delete_,htt,pu,pm,rx,Sem.run_bind,run_underlying hu,Result.andThen_ok,h0,run_checkKey hk hkey,run_findKey hk g1,xJ e2,Sem.run_pure]
open Go.Proofs.Ytbbhihkocghhaaa.Ev (Tr Tr.bE nth bW takeN du eu eW bU dK ir still fK run_underlying run_typeInfo run_sizeOf cz dk places mD gb ld jM jj qC vR)
theorem tE{P:Program}{t0 t1 ty:TypeId}{ts:Array TypeId}{elem:TypeId}{d1:TypeDesc}{sz n:Nat}{z:AV}{info:TypeInfo}{base:lc}{sLen sCap:Nat}{Y:Value}{old new:kw}{X:Cx}{w:World}
  (ht0:ts[0]?=some t0) (ht1:ts[1]?=some t1) (hu0:P.underlying t0=some (.slice elem)) (hu1:P.underlying t1=some d1) (hd:∀k,d1≠.int k) (hs:cz P elem=some sz) (hz:dL P elem=some z)
  (hi:P.info? elem=some info) (hzl:(bV z).length=sz) (hn:(Builtin.lenOf Y).run P w=.ok n w) (hnot:sCap<sLen+n) (hb:(2*(sLen+n)+192)*info.bytes<=281474976710656) (hne:sLen+n<=1099511627776)
  (hold:∀d,(Builtin.firstCells sz sLen (.slice base sLen sCap)).run P { w with drawn:=d }=.ok old.toArray { w with drawn:=d })
  (hnew:∀d,(Builtin.firstCells sz n Y).run P { w with drawn:=d }=.ok new.toArray { w with drawn:=d }) :
  ∃c,sLen+n<=c/\∃d,∃rest:kw,rest.length=(c-(sLen+n))*sz/\(Builtin.append_ ts ty #[.slice base sLen sCap,Y]).run P w =
   .ok (.slice (some ⟨w.heap.size,0,none⟩) (sLen+n) c) { w with drawn:=d,heap:=w.heap.push (.cells (old++new++rest).toArray elem (0,0)) }:=by
 refine⟨(Question.appendCap (sLen+n) sCap elem).cut (w.tape w.drawn (.appendCap (sLen+n) sCap elem)),by simp[Question.cut],w.drawn+1,?_⟩;obtain⟨Z,hzr,RZ⟩:=fZ hz X w;have hz0:∀w,(zeroValue elem).run P w=.ok Z w:=by
  intro w';obtain⟨Z',h1,_⟩:=fZ hz X w';unfold dL at hz;simp only[hi]at hz;split at hz<;>try cases hz
  rename_i v hv;simp only[zeroValue,Sem.run_bind,run_typeInfo hi,Result.andThen_ok,hv,Sem.run_pure]at hzr |-;simp only[ST,abj]at hzr;rw[hzr]
 have hzs:Z.cells.size=sz:=by rw[<-NE,(ju RZ).length,hzl]
 generalize hc:(Question.appendCap (sLen+n) sCap elem).cut (w.tape w.drawn (.appendCap (sLen+n) sCap elem))=c;refine⟨(Builtin.zeroCells Z.cells (c-(sLen+n))).toList,by simp[Builtin.zeroCells,hzs],?_⟩;have hbig:¬(Builtin.nextslicecap (sLen+n) sCap*info.bytes > 2^48):=by have:=OF info.bytes (qC hnot);show ¬(281474976710656<_);omega
 have hk:(match d1 with|.int _=>true|_=>false)=false:=by cases d1<;>first|rfl|exact absurd rfl (hd _)
 have hmax:¬(((sLen+n:Nat):Int) > IntKind.i64.max/\(false=true\/info.bytes=0)):=by
  intro q;have h1:=q.1;have:IntKind.i64.max=9223372036854775807:=acw
  rw[this]at h1;omega
 unfold Builtin.append_;simp only[ht0,ht1,pu,pm,rx,Sem.run_bind,run_underlying hu0,run_underlying hu1,Result.andThen_ok,run_sizeOf hs,Sem.run_pure,run_typeInfo hi];rw[qr aci];simp only[Sem.run_bind,hn,Result.andThen_ok];rw[qr (by omega:¬sLen+n<=sCap)];simp only[Sem.run_bind,run_typeInfo hi,Result.andThen_ok];rw[qr hmax];simp only[Sem.run_bind,run_typeInfo hi,Result.andThen_ok];rw[qr hbig];simp only[Sem.run_bind,run_choose,Question.forced,GE,abu,Result.andThen_ok,run_typeInfo hi,run_askRoom,hold,hc,Bool.not_false,abE,hnew,hz0,newRow,run_newObj,Sem.run_pure];congr 3
 simp_all
theorem zt{P:Program}{t0 t1 ty:TypeId}{ts:Array TypeId}{elem:TypeId}{d1:TypeDesc}{sz n:Nat}{b off:Nat}{sLen sCap:Nat}{Y:Value}{new:kw}{w w':World}
  (ht0:ts[0]?=some t0) (ht1:ts[1]?=some t1) (hu0:P.underlying t0=some (.slice elem)) (hu1:P.underlying t1=some d1) (hd:∀k,d1≠.int k) (hs:cz P elem=some sz)
  (hn:(Builtin.lenOf Y).run P w=.ok n w) (hfit:sLen+n<=sCap) (hnew:(Builtin.firstCells sz n Y).run P w=.ok new.toArray w)
  (hst:(storeCells ⟨b,off+sLen*sz,none⟩ new).run P w=.ok () w') :
  (Builtin.append_ ts ty #[.slice (some ⟨b,off,none⟩) sLen sCap,Y]).run P w=.ok (.slice (some ⟨b,off,none⟩) (sLen+n) sCap) w':=by
 have hk:(match d1 with|.int _=>true|_=>false)=false:=acv
 unfold Builtin.append_;simp only[ht0,ht1,pu,pm,rx,Sem.run_bind,run_underlying hu0,run_underlying hu1,Result.andThen_ok,run_sizeOf hs,Sem.run_pure];rw[qr aci];simp only[Sem.run_bind,hn,Result.andThen_ok];rw[ut hfit];simp only[Sem.run_bind,Bool.not_false,abE,hnew,Result.andThen_ok,dk,hst,Sem.run_pure]
theorem GI{P:Program}{t0 t1 ty:TypeId}{ts:Array TypeId}{elem:TypeId}{d1:TypeDesc}{sz:Nat}{Y:Value}{w:World}
  (ht0:ts[0]?=some t0) (ht1:ts[1]?=some t1) (hu0:P.underlying t0=some (.slice elem)) (hu1:P.underlying t1=some d1) (hd:∀k,d1≠.int k) (hs:cz P elem=some sz)
  (hn:(Builtin.lenOf Y).run P w=.ok 0 w) {l:kw}(hnew:(Builtin.firstCells sz 0 Y).run P w=.ok l.toArray w) :
  (Builtin.append_ ts ty #[.slice none 0 0,Y]).run P w=.ok (.slice none 0 0) w:=by
 have hk:(match d1 with|.int _=>true|_=>false)=false:=acv
 unfold Builtin.append_;simp only[ht0,ht1,pu,pm,rx,Sem.run_bind,run_underlying hu0,run_underlying hu1,Result.andThen_ok,run_sizeOf hs,Sem.run_pure]
 simp_all
def xK(h:Hp)(τ:Sh)(x:AV):Option (List τ.T):=match x with
 |.bu=>some []|.fz τ' L=>match e:τ'.eqv τ with|true=>some (ja e L)|false=>none
 |.dt τ' _ L=>match e:τ'.eqv τ with|true=>some (ja e L)|false=>none
 |.hd b _=>match h.tr.get b with
  |some (.arr τ' L _)=>match e:τ'.eqv τ with|true=>some (ja e L)|false=>none
  |_=>none
 |.vw b afn off len=>match h.tr.get b with
  |some (.arr τ' L _)=>match e:τ'.eqv τ,afn.eqv τ with|true,true=>some (ja e ((L.drop off).take len))|_,_=>none
  |_=>none
 |_=>none
def mX(X:Cx)(τ:Sh)(L:List τ.T)(V:Value):Prop:=∃a cap,V=.slice a L.length cap/\L.length<=cap/\∃cs,aV (Cs X.w X.out τ) L cs/\(L≠[]->∃b o c ty fr,a=some ⟨b,o,none⟩/\X.w.heap[b]?=some (.cells c ty fr)/\∀j u,cs[j]?=some u->c[o+j]?=some u)
theorem zn{X:Cx}{τ τ':Sh}(h:τ.eqv τ'=true){L:List τ.T}{V:Value}(q:mX X τ L V):mX X τ' (ja h L) V:=by have:=Sh.eg h;subst this;exact q
theorem iu{α:Type}{a:List α}{i:Nat}{x:α}(h:a[i]?=some x):i<a.length:=by grind
theorem Pe{X:Cx}(H:ab X){τ:Sh}{x:AV}{L:List τ.T}{V:Value}(e:xK X.h τ x=some L)(R:Rel X x V):mX X τ L V:=by
 unfold xK at e;split at e<;>try cases e
 .rw[show V=_ from R];exact⟨none,0,rfl,ol _,[],rfl,fun h=>absurd rfl h⟩
 .split at e<;>try cases e
  rename_i he;refine zn he ?_;obtain⟨a,len,cap,e1,e2,e3,e4⟩:=R;simp only[abK,abj]at e1;subst e1;subst e2;refine⟨a,cap,rfl,e3,?_⟩;rename_i τ' L';by_cases hL:L'=[]
  .subst hL;exact⟨[],rfl,fun h=>absurd rfl h⟩
  .obtain⟨b,o,Y,e5,e6,e7,c,ty,fr,e8,e9⟩:=e4 hL;exact⟨Y,e7,fun _=>⟨b,o,c,ty,fr,e5,e8,e9⟩⟩
 .split at e<;>try cases e
  rename_i he;refine zn he ?_;obtain⟨⟨a,len,cap,e1,e2,e3,e4⟩,-⟩:=R;simp only[abK,abj]at e1;subst e1;subst e2;refine⟨a,cap,rfl,e3,?_⟩;rename_i τ' z' L';by_cases hL:L'=[]
  .subst hL;exact⟨[],rfl,fun h=>absurd rfl h⟩
  .obtain⟨b,o,Y,e5,e6,e7,c,ty,fr,e8,e9⟩:=e4 hL;exact⟨Y,e7,fun _=>⟨b,o,c,ty,fr,e5,e8,e9⟩⟩
 .rename_i b afn;split at e<;>try cases e
  rename_i τ' L' ty hb;split at e<;>try cases e
  rename_i he;refine zn he ?_;obtain⟨l,h1,_,h2⟩:=R;rw[h2 _ (iM hb)];cases l with
  |nil=>have hL:L'=[]:=H.obj b _ _ hb h1;subst hL;exact⟨none,0,rfl,ol _,[],rfl,fun h=>absurd rfl h⟩|bX _ _ _=>exact(H.obj b _ _ hb h1:False).elim|«at» x c=>
   obtain⟨cs,tail,q1,q2,q3,q4⟩:=H.obj b _ _ hb h1;refine⟨_,c,rfl,q4,cs,q2,fun _=>⟨x,0,_,ty,_,rfl,q1,?_⟩⟩
   grind
 .rename_i b afn off len;split at e<;>try cases e
  rename_i τ' L' ty hb;split at e<;>try cases e
  rename_i he adH;have:=Sh.eg adH;subst this;have:=Sh.eg he;subst this;refine zn he ?_;obtain⟨l,a,c,h1,rfl,h3,h4,h5,h6⟩:=R;have hle:=h6 _ (iM hb);have hlen:((L'.drop off).take len).length=len:=by simp;omega
  refine⟨a,c,by rw[hlen],by rw[hlen];exact h3,?_⟩;cases l with
  |nil=>
   have hL:L'=[]:=H.obj b _ _ hb h1;subst hL;have:len=0:=by simp only[BT]at hle;omega
   subst this;exact⟨[],by rw[aaQ];rfl,fun h=>by rw[aaQ]at h;exact absurd rfl h⟩
  |bX _ _ _=>exact(H.obj b _ _ hb h1:False).elim|«at» x k=>
   obtain⟨cs,tail,q1,q2,q3,q4⟩:=H.obj b _ _ hb h1;refine⟨_,aV.take (fun x c=>Cs.length) len (aV.drop (fun x c=>Cs.length) off q2),fun hne=>?_⟩;have hpos:0<len:=by
    rcases If len with q|q
    .subst q;rw[aaQ]at hne;exact absurd rfl hne
    .exact q
   grind
theorem mX.run{P:Program}{X:Cx}{τ:Sh}{L:List τ.T}{V:Value}(h:mX X τ L V):∃cs,aV (Cs X.w X.out τ) L cs/\(∀w,(Builtin.lenOf V).run P w=.ok L.length w) /\
  ∀w,w.heap=X.w.heap->(Builtin.firstCells τ.size L.length V).run P w=.ok cs.toArray w:=by
 obtain⟨a,cap,rfl,_,cs,h1,h2⟩:=h;refine⟨cs,h1,fun w=>by simp[Builtin.lenOf],?_⟩;intro w hw;have hl:=aV.length (fun x c=>Cs.length) h1;by_cases hL:L=[]
 .subst hL;have hcs:cs=[]:=h1;subst hcs;cases a with|none=>simp[Builtin.firstCells]|some a=>simp[Builtin.firstCells,loadCells,loadCellsFrom]
 .obtain⟨b,o,c,ty,fr,rfl,h3,h4⟩:=h2 hL;rw[<-hw]at h3;rcases If cs.length with q|q
  .have:cs=[]:=ro q;subst this;simp only[Builtin.firstCells,loadCells];rw[<-hl];simp[loadCellsFrom]
  .have hc:=gW (h4 (cs.length-1) cs[cs.length-1] (bF acs));simp only[Builtin.firstCells,loadCells];rw[Ev.run_loadCells (P:=P) h3 _ 0 #[] acs];congr 2;apply aaO
   grind
mutual
theorem Cs.one{w:World}{A:Nat->Prop}:∀{σ:Sh}{d:σ.T}{cs:kw},Cs w A σ d cs->∀V∈cs,Ev.jO V=true
 |.int k,n,cs,h,V,hV=>by rw[show cs=[.int k n]from h]at hV;simp at hV;subst hV;rfl|.bool,b,cs,h,V,hV=>by rw[show cs=[.bool b]from h]at hV;simp at hV;subst hV;rfl|.str,s,cs,h,V,hV=>by rw[show cs=[.string s]from h]at hV;simp at hV;subst hV;rfl|.agg l,d,cs,h,V,hV=>fg.one (l:=l) h V hV|.sl s,L,cs,⟨a,len,cap,h,_⟩,V,hV=>by rw[h]at hV;simp at hV;subst hV;rfl
theorem fg.one{w:World}{A:Nat->Prop}:∀{l:List Sh}{d:TL l}{cs:kw},fg w A l d cs->∀V∈cs,Ev.jO V=true
 |[],_,cs,h,V,hV=>by rw[show cs=[]from h]at hV;cases hV
 |s::l,d,cs,⟨c,r,e,h1,h2⟩,V,hV=>by
  rw[e]at hV;rcases AC.1 hV with q|q
  .exact Cs.one h1 V q
  .exact fg.one h2 V q
end
theorem aV.one{w:World}{A:Nat->Prop}{τ:Sh}:∀{L:List τ.T}{cs:kw},aV (Cs w A τ) L cs->∀V∈cs,Ev.jO V=true
 |[],cs,h,V,hV=>by rw[h]at hV;cases hV
 |x::L,cs,⟨c,r,e,h1,h2⟩,V,hV=>by
  rw[e]at hV;rcases AC.1 hV with q|q
  .exact Cs.one h1 V q
  .exact aV.one h2 V q
def room(by_ n:Nat):Bool:=both (decide ((2*n+192)*by_<=281474976710656)) (decide (n<=1099511627776))
def J5(h:Hp)(τ:Sh)(elem:TypeId)(su:AV):Option (List τ.T×Option Nat):=match su with
 |.bu=>some ([],none)|.hd b _=>match h.tr.get b with
  |some (.arr τ' L ty)=>match e:τ'.eqv τ,Nat.beq ty elem with|true,true=>some (ja e L,some b)|_,_=>none
  |_=>none
 |.vw b afn off len=>match off with
  |0=>match h.tr.get b with
   |some (.arr τ' L ty)=>match e:τ'.eqv τ,afn.eqv τ,Nat.beq ty elem with|true,true,true=>some (ja e (L.take len),some b)|_,_,_=>none
   |_=>none
  |_=>none
 |_=>none
def pG(tr:Tr aI):Option Nat->Option (Tr aI)
 |none=>some tr|some b=>Tr.set FT tr b none
def xG:TypeDesc->Bool|.slice _=>true|_=>false
def nN(P:Program)(sh:TypeId->Option Sh)(h:Hp)(ts:Array TypeId)(su x:AV):Option (Bool×AV×Hp):=match nth ts.toList 0,nth ts.toList 1 with
 |some t0,some t1=>match P.underlying t0,P.underlying t1 with
  |some (.slice elem),some d1=>match xG d1,sh elem,cz P elem,dL P elem,gb P elem with
   |true,some τ,some sz,some z,some by_=>match Nat.beq (bV z).length sz,Nat.beq τ.size sz,J5 h τ elem su,xK h τ x with
    |true,true,some (L,ob),some M=>match pG h.tr ob with
     |some tr=>match Tr.set FT tr h.next (some (.arr τ (L++M) elem))with|some tr=>some (room by_ (L++M).length,.hd h.next τ,⟨tr,h.next+1⟩)|none=>none
     |none=>none
    |_,_,_,_=>none
   |_,_,_,_,_=>none
  |_,_=>none
 |_,_=>none
structure Grown(X X':Cx)(τ:Sh)(N:List τ.T)(V:Value):Prop where
 H:ab X'
 E:aB X X'
 A:X'.A=X.A
 R:Rel X' (.hd X.h.next τ) V
theorem rJ{X:Cx}{n:Nat}{τ:Sh}{N:List τ.T}{ty:TypeId}{l:Loc}(hg:X.h.tr.get n=some (.arr τ N ty))(hs:X.s n=some l):Rel X (.hd n τ) (l.slice N.length):=by refine⟨l,hs,by cases l<;>rfl,?_⟩;intro n' q;rw[iM hg]at q;cases q;rfl
theorem Grown.grow{X X₁:Cx}(H:ab X)(acH:aB X X₁)(acR:ab X₁)(hn:X₁.h.next=X.h.next)(hw:X₁.w=X.w){τ:Sh}{N:List τ.T}{ty:TypeId}{tr:Tr aI}(ht:Tr.set FT X₁.h.tr X₁.h.next (some (.arr τ N ty))=some tr)
  {c d:Nat}{cs rest:kw}(hf:aV (Cs X.w X.out τ) N cs) (hr:rest.length=(c-N.length)*τ.size) (hc:N.length<=c) :
  Grown X ⟨aQ X₁.s X₁.h.next (.at X₁.w.heap.size c),⟨tr,X₁.h.next+1⟩,{ X₁.w with drawn:=d,heap:=X₁.w.heap.push (.cells (cs++rest).toArray ty (0,0)) },X₁.A⟩ τ N (.slice (some ⟨X.w.heap.size,0,none⟩) N.length c):=by
 have Hd:=acR.drew d;have Ed:=acH.trans (aB.drew X₁ d);have En:=Md (c:=c) (ob:=.cells (cs++rest).toArray ty (0,0)) Hd ht;have E:=Ed.trans En;have hg:=Tr.bE FT X₁.h.tr X₁.h.next _ tr ht;have Hn:=ab.new Hd ht (by refine⟨cs,rest,acv,hf.mono (fun x c q=>q.aH E.keeps),?_,hc⟩;rw[aV.length (fun x c=>Cs.length) hf,hr,<-Ne];congr 1;omega);refine⟨Hn,E,E.A,?_⟩;have:=rJ (X:=⟨aQ X₁.s X₁.h.next (.at X₁.w.heap.size c),⟨tr,X₁.h.next+1⟩,{ X₁.w with drawn:=d,heap:=X₁.w.heap.push (.cells (cs++rest).toArray ty (0,0)) },X₁.A⟩) (N:=N) (ty:=ty) (by grind) (cE _ _ _);rw[<-hn];simpa[Loc.slice,hw]using this
theorem Grown.fit{X:Cx}(H:ab X){b x c:Nat}{τ:Sh}{L N:List τ.T}{ty:TypeId}{aeM tr:Tr aI}(hb:X.h.tr.get b=some (.arr τ L ty))(hs:X.s b=some (.at x c))(hk:Tr.set FT X.h.tr b none=some aeM)
  (ht:Tr.set FT aeM X.h.next (some (.arr τ N ty))=some tr) {cs tail:kw}(hf:aV (Cs X.w X.out τ) N cs) (hr:cs.length+tail.length=c*τ.size) (hc:N.length<=c) :
  Grown X ⟨aQ X.s X.h.next (.at x c),⟨tr,X.h.next+1⟩,bU X.w x (.cells (cs++tail).toArray ty (0,0)),X.A⟩ τ N (.slice (some ⟨x,0,none⟩) N.length c):=by
 have adI:=Tr.bE FT X.h.tr b none aeM hk;have hg:=Tr.bE FT aeM X.h.next _ tr ht;have aR:=H.bound hb hs;have hbn:=H.lt b _ hb;have sn:X.s X.h.next=none:=by cases q:X.s X.h.next with|none=>rfl|some l=>have:=H.cr _ _ q;omega
 have old:∀j l,X.s j=some l->aQ X.s X.h.next (.at x c) j=some l:=by intro j l h;rw[cI _ _ _ (by rintro rfl;rw[sn]at h;cases h)];exact h
 have alt:∀j o,tr.get j=some o->(j=X.h.next/\o=.arr τ N ty)\/(X.h.tr.get j=some o/\j≠b/\j≠X.h.next):=by grind
 have E:aB X ⟨aQ X.s X.h.next (.at x c),⟨tr,X.h.next+1⟩,bU X.w x (.cells (cs++tail).toArray ty (0,0)),X.A⟩:=by
  refine⟨rfl,rfl,rfl,by rw[ir];exact ol _,old,?_,acv,?_,?_,?_,?_,rfl⟩
  .intro i l hi h
   replace h:aQ X.s X.h.next (.at x c) i=some l:=h
   rw[cI _ _ _ acs]at h;exact h
  .intro k hk hn;show(bU X.w x _).heap[k]?=_;rw[dK,qr];rintro⟨rfl,_⟩;exact hn ⟨b,_,_,hb,hs,rfl⟩
  .rintro k ⟨j,o,adq,h1,h2,h5⟩;left
   replace h2:aQ X.s X.h.next (.at x c) j=some adq:=h2
   rcases alt j o h1 with⟨rfl,rfl⟩|⟨h1,h3,h4⟩
   .rw[cE]at h2;cases h2;exact⟨b,_,_,hb,hs,h5⟩
   .rw[cI _ _ _ h4]at h2;exact⟨j,o,adq,h1,h2,h5⟩
  .intro j n' hj h;obtain⟨o,h,hrow⟩:=jd h;rcases alt j _ h with⟨rfl,_⟩|⟨h1,h3,h4⟩
   .omega
   .show rowOf X.h.tr j=some n';rw[ie h1];exact hrow
  grind
 have Hn:ab ⟨aQ X.s X.h.next (.at x c),⟨tr,X.h.next+1⟩,bU X.w x (.cells (cs++tail).toArray ty (0,0)),X.A⟩:=by
  refine⟨?_,?_,?_,?_,by rw[show(bU X.w x (.cells (cs++tail).toArray ty (0,0))).heap.size=X.w.heap.size from ir _ _ _];exact H.alt,?_⟩
  .intro j o l hj hl
   replace hl:aQ X.s X.h.next (.at x c) j=some l:=hl
   rcases alt j o hj with⟨rfl,rfl⟩|⟨h1,h3,h4⟩
   .rw[cE]at hl;simp only[bf]at hl;subst hl;refine⟨cs,tail,?_,hf.mono (fun x c q=>q.aH E.keeps),hr,hc⟩;show(bU X.w x _).heap[x]?=_;rw[dK,ut ⟨rfl,aR⟩]
   .rw[cI _ _ _ h4]at hl;refine(H.obj j o l h1 hl).ext (E.dw H) ?_;intro b' hb';show(bU X.w x _).heap[b']?=_;rw[dK,qr];rintro⟨rfl,_⟩;exact h3 (H.inj j b o _ l _ b' h1 hb hl hs hb' rfl)
  .intro j k o o' adq adr y hj hk e1 e2 f1 f2
   replace e1:aQ X.s X.h.next (.at x c) j=some adq:=e1
   replace e2:aQ X.s X.h.next (.at x c) k=some adr:=e2
   rcases alt j o hj with⟨rfl,rfl⟩|⟨h1,h3,h4⟩<;>rcases alt k o' hk with⟨rfl,rfl⟩|⟨p1,p3,p4⟩
   .rfl
   .rw[cE]at e1;cases e1;rw[cI _ _ _ p4]at e2;exact absurd (H.inj k b o' _ adr _ y p1 hb e2 hs f2 f1) p3
   .rw[cE]at e2;cases e2;rw[cI _ _ _ h4]at e1;exact absurd (H.inj j b o _ adq _ y h1 hb e1 hs f1 f2) h3
   .rw[cI _ _ _ h4]at e1;rw[cI _ _ _ p4]at e2;exact H.inj j k o o' adq adr y h1 p1 e1 e2 f1 f2
  .intro j o hj;rcases alt j o hj with⟨rfl,rfl⟩|⟨h1,h3,h4⟩
   .simp
   .have:=H.lt j o h1;simp only;omega
  .intro j l hl
   replace hl:aQ X.s X.h.next (.at x c) j=some l:=hl
   by_cases q:j=X.h.next
   .simp[q]
   .rw[cI _ _ _ q]at hl;have:=H.cr j l hl;simp only;omega
  .intro j o adq y hj e f
   replace e:aQ X.s X.h.next (.at x c) j=some adq:=e
   rcases alt j o hj with⟨rfl,rfl⟩|⟨h1,h3,h4⟩
   .rw[cE]at e;cases e;exact H.loc b _ _ y hb hs f
   .rw[cI _ _ _ h4]at e;exact H.loc j o adq y h1 e f
 refine⟨Hn,E,rfl,?_⟩;have:=rJ (X:=⟨aQ X.s X.h.next (.at x c),⟨tr,X.h.next+1⟩,bU X.w x (.cells (cs++tail).toArray ty (0,0)),X.A⟩) (n:=X.h.next) (τ:=τ) (N:=N) (ty:=ty) (l:=.at x c) (by rw[hg,ut rfl]) (cE _ _ _);simpa[Loc.slice]using this
theorem Grown.none{X X₁:Cx}(acH:aB X X₁)(acR:ab X₁)(hn:X₁.h.next=X.h.next){τ:Sh}{ty:TypeId}{tr:Tr aI}(ht:Tr.set FT X₁.h.tr X₁.h.next (some (.arr τ [] ty))=some tr) :
  Grown X ⟨aQ X₁.s X₁.h.next .nil,⟨tr,X₁.h.next+1⟩,X₁.w,X₁.A⟩ τ [] (.slice none 0 0):=by
 obtain⟨E,H⟩:=acR.void ht;have hg:=Tr.bE FT X₁.h.tr X₁.h.next _ tr ht;refine⟨H,acH.trans E,acH.A,?_⟩;have:=rJ (X:=⟨aQ X₁.s X₁.h.next .nil,⟨tr,X₁.h.next+1⟩,X₁.w,X₁.A⟩) (τ:=τ) (N:=[]) (ty:=ty) (by grind) (cE _ _ _);rw[<-hn];simpa[Loc.slice]using this
theorem yW{P:Program}{sh:TypeId->Option Sh}{X:Cx}(H:ab X){ts:Array TypeId}{ty:TypeId}{su x v:AV}{g:Bool}{h':Hp}(e:nN P sh X.h ts su x=some (g,v,h'))(hgd:g=true){U Y:Value}(R:Rel X su U)(RY:Rel X x Y) :
  ∃X' V,(Builtin.append_ ts ty #[U,Y]).run P X.w=.ok V X'.w/\X'.h=h'/\X'.A=X.A/\ab X'/\aB X X'/\Rel X' v V:=by
 subst hgd;unfold nN at e;split at e<;>try cases e
 rename_i t0 t1 ht0 ht1;have ht0:ts[0]?=some t0:=by rw[bW]at ht0;simpa using ht0
 have ht1:ts[1]?=some t1:=by rw[bW]at ht1;simpa using ht1
 split at e<;>try cases e
 rename_i elem d1 hu0 hu1;split at e<;>try cases e
 rename_i τ sz z by_ hd1 hsh hs hz hby;split at e<;>try cases e
 rename_i L ob M hzl hsz hbase hsrc;split at e<;>try cases e
 rename_i aeM hk;split at e<;>try cases e
 rename_i tr ht;simp only[bf,ww]at e;obtain⟨hroom,rfl,rfl⟩:=e;have hsz:=aW hsz;subst hsz;have hzl:=aW hzl;have hd:∀k,d1≠.int k:=by intro k q;subst q;simp[xG]at hd1
 obtain⟨info,hi,rfl⟩:∃info,P.info? elem=some info/\info.bytes=by_:=by unfold gb at hby;cases hi:P.info? elem<;>simp[hi]at hby;exact⟨_,rfl,hby⟩
 obtain⟨r1,r2⟩:=kK hroom;simp only[FS,aP]at r1 r2;obtain⟨ms,hm,hlen,hfirst⟩:=(Pe H hsrc RY).run (P:=P);have bare:∀X₁:Cx,aB X X₁->ab X₁->X₁.h=⟨aeM,X.h.next⟩->X₁.w=X.w->L=[]->U=.slice none 0 0 ->
   ∃X' V,(Builtin.append_ ts ty #[U,Y]).run P X.w=.ok V X'.w/\X'.h=⟨tr,X.h.next+1⟩/\X'.A=X.A/\ab X'/\aB X X'/\Rel X' (.hd X.h.next τ) V:=by
  intro X₁ acH acR hX hw hL hU;subst hL;subst hU;rcases If M.length with q|q
  .have:M=[]:=ro q;subst this;have G:=Grown.none acH acR (by rw[hX]) (τ:=τ) (ty:=elem) (tr:=tr) (by rw[hX];exact ht);refine⟨_,_,?_,by rw[hX],G.A,G.H,G.E,G.R⟩;have:=GI (ty:=ty) ht0 ht1 hu0 hu1 hd hs (hlen X.w) (hfirst X.w rfl);rw[this];simp[hw]
  .obtain⟨c,hc,d,rest,hr,hrun⟩:=tE (ty:=ty) (X:=X) (base:=none) (sLen:=0) (sCap:=0) (old:=[]) ht0 ht1 hu0 hu1 hd hs hz hi hzl (hlen X.w) acs (by simpa using r1) (by simpa using r2) (fun d=>by simp[Builtin.firstCells]) (fun d=>hfirst _ rfl);have G:=Grown.grow (N:=M) (ty:=elem) (tr:=tr) (d:=d) H acH acR (by rw[hX]) hw (by rw[hX];exact ht) hm (by simpa using hr) (by simpa using hc);refine⟨_,_,?_,by rw[hX],G.A,G.H,G.E,G.R⟩;rw[hrun];simp[hw]
 have fD:∀(b x c:Nat) (acU:List τ.T) (n:Nat),X.h.tr.get b=some (.arr τ acU elem)->X.s b=some (.at x c)->Tr.set FT X.h.tr b none=some aeM->L=acU.take n->n<=acU.length->U=.slice (some ⟨x,0,none⟩) n c ->
   ∃X' V,(Builtin.append_ ts ty #[U,Y]).run P X.w=.ok V X'.w/\X'.h=⟨tr,X.h.next+1⟩/\X'.A=X.A/\ab X'/\aB X X'/\Rel X' (.hd X.h.next τ) V:=by
  intro b x c acU n hb hsb hkb hL hn hU;subst hU;have hLl:L.length=n:=by rw[hL];simp;omega
  obtain⟨cs,tail,q1,q2,q3,q4⟩:=H.obj b _ _ hb hsb;have hcl:=aV.length (fun x c=>Cs.length) q2;have hml:=aV.length (fun x c=>Cs.length) hm;have htk:aV (Cs X.w X.out τ) L (cs.take (n*τ.size)):=by rw[hL];exact aV.take (fun x c=>Cs.length) n q2
  have htl:=aV.length (fun x c=>Cs.length) htk;have hnm:n*τ.size<=cs.length:=by rw[hcl];exact OF _ hn
  have hall:aV (Cs X.w X.out τ) (L++M) (cs.take (n*τ.size)++ms):=htk.append hm;by_cases hfit:n+M.length<=c
  .have hfc:n*τ.size+ms.length<=(cs++tail).length:=by rw[aP,q3,hml,<-Ne];exact OF _ hfit
   obtain⟨ds,hds,hst⟩:=jj (P:=P) (off:=n*τ.size) ms 0 X.w _ q1 (by simpa using hfc) (fun V hV=>aV.one hm V hV);have hdsE:ds=(cs.take (n*τ.size)++ms++(cs++tail).drop (n*τ.size+ms.length)).toArray:=by apply IS.1;rw[hds];simp only[aaW];rw[abg hnm]
   subst hdsE;have G:=Grown.fit (N:=L++M) H hb hsb hkb ht hall (tail:=(cs++tail).drop (n*τ.size+ms.length)) (by simp only[aP,abt,ep]at hfc |-;omega) (by simp;omega);refine⟨_,_,?_,rfl,G.A,G.H,G.E,G.R⟩;have:=zt (ty:=ty) ht0 ht1 hu0 hu1 hd hs (hlen X.w) hfit (hfirst X.w rfl) (b:=x) (off:=0) (by simpa using hst);rw[this];simp[hLl]
  .have hold:∀d,(Builtin.firstCells τ.size n (.slice (some ⟨x,0,none⟩) n c)).run P { X.w with drawn:=d }=.ok (cs.take (n*τ.size)).toArray { X.w with drawn:=d }:=by intro d;simp only[Builtin.firstCells,loadCells];rw[Ev.run_loadCells (P:=P) (w:={ X.w with drawn:=d }) q1 _ 0 #[] (by simp;omega)];congr 2;simp only[aaW,LT,List.drop_zero];rw[abg hnm]
   obtain⟨c',hc',d,rest,hr,hrun⟩:=tE (ty:=ty) (X:=X) (base:=some ⟨x,0,none⟩) (sLen:=n) (sCap:=c) ht0 ht1 hu0 hu1 hd hs hz hi hzl (hlen X.w) acs (by rw[<-hLl];exact r1) (by rw[<-hLl];exact r2) hold (fun d=>hfirst _ rfl);obtain⟨acH,acR⟩:=H.kill hsb hkb;have G:=Grown.grow (N:=L++M) (ty:=elem) (tr:=tr) (d:=d) (cs:=cs.take (n*τ.size)++ms) (rest:=rest) (c:=c') H acH acR rfl rfl ht hall (by rw[aP,hLl];exact hr) (by rw[aP,hLl];exact hc');refine⟨_,_,?_,rfl,G.A,G.H,G.E,G.R⟩;rw[hrun];simp[hLl]
 unfold J5 at hbase;split at hbase<;>try cases hbase
 .simp only[pG,bf]at hk;subst hk;exact bare X (aB.refl X) H rfl rfl rfl R
 .rename_i b afn;split at hbase<;>try cases hbase
  rename_i τ' acU ty' hb;split at hbase<;>try cases hbase
  rename_i he hty;have hty:=aW hty;subst hty;have:=Sh.eg he;subst this;simp only[pG]at hk;obtain⟨l,h1,_,h2⟩:=R;have hV:=h2 _ (iM hb);cases l with
  |nil=>have hL:acU=[]:=H.obj b _ _ hb h1;subst hL;obtain⟨acH,acR⟩:=H.kill h1 hk;exact bare _ acH acR rfl rfl rfl hV
  |bX _ _ _=>exact(H.obj b _ _ hb h1:False).elim|«at» x c=>exact fD b x c acU acU.length hb h1 hk (by rw[fl];rfl) (ol _) hV
 .rename_i b afn off len;split at hbase<;>try cases hbase
  split at hbase<;>try cases hbase
  rename_i τ' acU ty' hb;split at hbase<;>try cases hbase
  rename_i he adH hty;have hty:=aW hty;subst hty;have:=Sh.eg adH;subst this;have:=Sh.eg he;subst this;simp only[pG]at hk;obtain⟨l,a,c,h1,rfl,h3,h4,h5,h6⟩:=R;have hV:=h5 rfl;have hle:=h6 _ (iM hb);cases l with
  |nil=>
   have hL:acU=[]:=H.obj b _ _ hb h1;subst hL;obtain⟨acH,acR⟩:=H.kill h1 hk;have:len=0:=by simp only[BT]at hle;omega
   subst this;exact bare _ acH acR rfl rfl rfl hV
  |bX _ _ _=>exact(H.obj b _ _ hb h1:False).elim|«at» x k=>exact fD b x k acU len hb h1 hk rfl acs hV
def rn(h:Hp)(τ:Sh):Nat->List AV->Option (List τ.T×Hp)
 |0,l=>match l with|[]=>some ([],h)|_=>none
 |n+1,l=>match dz true h τ l with
  |some (x,r,h)=>match rn h τ n r with|some (xs,h)=>some (x::xs,h)|none=>none
  |none=>none
theorem KB{τ:Sh}:∀{n:Nat}{l:List AV}{X:Cx}{L:List τ.T}{h':Hp}{cs:kw},ab X->rn X.h τ n l=some (L,h')->bc X l cs ->
  dS X h'/\L.length=n/\aV (Cs X.w (Cx.out ⟨X.s,h',X.w,X.A⟩) τ) L cs
 |0,l,X,L,h',cs,H,e,R=>by simp only[rn]at e;split at e<;>cases e;exact⟨dS.refl H,rfl,R⟩
 |n+1,l,X,L,h',cs,H,e,R=>by
  simp only[rn]at e;split at e<;>try cases e
  rename_i x r h₁ hf;split at e<;>cases e;rename_i xs hx;obtain⟨F,c,t,rfl,q1,q2⟩:=nS H hf R;obtain⟨acO,k1,k2⟩:=KB F.H hx q2;exact⟨F.trans acO,by simp[k1],c,t,rfl,q1.aH acO.E.keeps,k2⟩
def xN(h:Hp):AV->Option (AV×Hp)
 |.vw b τ off len=>match off with
  |0=>match h.tr.get b with
   |some o=>match o with
    |.cells vs _=>match Tr.set FT h.tr b none with
     |some tr=>match rn ⟨tr,h.next⟩ τ len vs with|some (L,h')=>some (.fz τ L,h')|none=>none
     |none=>none
    |_=>none
   |none=>none
  |_=>none
 |_=>none
theorem Lg{X:Cx}(H:ab X){x v:AV}{h':Hp}(e:xN X.h x=some (v,h')){V:Value}(R:Rel X x V):dS X h'/\Rel ⟨X.s,h',X.w,X.A⟩ v V:=by
 unfold xN at e;split at e<;>try cases e
 rename_i b τ off len;split at e<;>try cases e
 split at e<;>try cases e
 rename_i o hb;split at e<;>try cases e
 rename_i vs ty;split at e<;>try cases e
 rename_i tr ht;split at e<;>cases e;rename_i L hr;obtain⟨l,a,c,g1,rfl,g3,g4,g5,g6⟩:=R;obtain⟨x,k,cs,rfl,q1,q2⟩:=H.obj b _ l hb g1;have F:=dS.kill H g1 ht;obtain⟨acO,k1,k2⟩:=KB (X:=⟨X.s,⟨tr,X.h.next⟩,X.w,X.A⟩) F.H hr (q2.ext (F.E.dw H));have acP:=F.trans acO;refine⟨acP,a,len,c,rfl,k1.symm,g3,fun hne=>?_⟩;have hpos:0<len:=by grind
 obtain⟨x',k',e1,e2⟩:=g4 hpos;cases e1;refine⟨x,0,cs,by grind,?_,k2,_,ty,_,q1,fun j u hu=>by grind⟩;rintro(r|⟨j,o',c',p1,p2,p3⟩)
 .exact H.loc b _ _ x hb g1 rfl r
 .have p1':=acO.sub j o' p1;have hg:=Tr.bE FT X.h.tr b none tr ht j
  replace p1':tr.get j=some o':=p1'
  rw[hg]at p1';by_cases hj:j=b
  .rw[ut hj]at p1';cases p1'
  .rw[qr hj]at p1';exact hj (H.inj j b o' _ c' _ x p1' hb p2 g1 p3 rfl)
def Hr(P:Program)(sh:TypeId->Option Sh)(h:Hp)(ts:Array TypeId)(su x:AV):Option (Bool×AV×Hp):=match nN P sh h ts su x with|some r=>some r|none=>match xN h x with|some (x',h')=>nN P sh h' ts su x'|none=>none
theorem Wm{P:Program}{sh:TypeId->Option Sh}{X:Cx}(H:ab X){ts:Array TypeId}{ty:TypeId}{su x v:AV}{g:Bool}{h':Hp}(e:Hr P sh X.h ts su x=some (g,v,h'))(hgd:g=true){U Y:Value}(R:Rel X su U)(RY:Rel X x Y) :
  ∃X' V,(Builtin.append_ ts ty #[U,Y]).run P X.w=.ok V X'.w/\X'.h=h'/\X'.A=X.A/\ab X'/\aB X X'/\Rel X' v V:=by
 unfold Hr at e;split at e
 .rename_i r hr;cases e;exact yW H hr hgd R RY
 .split at e<;>try cases e
  rename_i x' h₁ hx;obtain⟨F,Q⟩:=Lg H hx RY;obtain⟨X',V,a1,a2,a3,a4,a5,a6⟩:=yW F.H e hgd (R.ext (F.E.dw H)) Q;exact⟨X',V,a1,a2,a3,a4,F.E.trans a5,a6⟩
open Go.Proofs.Ytbbhihkocghhaaa.Ev (Tr Tr.bE nth bW takeN du eu eW bU dK ir still fK run_underlying run_typeInfo run_sizeOf cz dk places mD gb ld jM jj qC vR kH)
def fH:Nat->kw->kw
 |0,_=>[]|n+1,z=>z++fH n z
theorem yY(n:Nat)(z:kw):(fH n z).length=n*z.length:=by induction n with|zero=>simp[fH]|succ n ih=>simp[fH,ih,Ne,Nat.add_comm]
theorem Tp(n m:Nat)(z:kw):fH (n+m) z=fH n z++fH m z:=by induction n with|zero=>simp[fH]|succ n ih=>rw[show n+1+m=(n+m)+1 by omega];simp[fH,ih]
theorem Lj(z:kw):∀(n i:Nat),i<n*z.length->(fH n z)[i]?=z[i % z.length]?
 |0,i,h=>by omega|n+1,i,h=>by
  simp only[fH];rcases rt i z.length with q|q
  .rw[Fd acs,abP q]
  .rw[IR acs,Lj z n (i-z.length) (by grind)];congr 1;rw[<-ach q]
theorem QO(n k:Nat)(zero:Array Value)(hk:k=n*zero.size):((Array.range k).map (zero[· % zero.size]!))=(fH n zero.toList).toArray:=by
 apply IS.1;apply aaO;intro i;have hs:zero.toList.length=zero.size:=NE;simp;rcases rt i k with q|q
 .have hz0:0<zero.size:=by grind
  rw[ace q,Lj _ n i (by grind)];have hm:=Nat.mod_lt i hz0;simp[hs,hm]
 .rw[Do (by grind),Do (by rw[yY,hs];omega)];rfl
theorem aV.rep{α:Type}{R:α->kw->Prop}{x:α}{z:kw}(h:R x z):∀n,aV R (List.replicate n x) (fH n z)
 |0=>rfl|n+1=>⟨z,fH n z,rfl,h,aV.rep h n⟩
theorem QL{P:Program}{t:TypeId}{z:AV}{k:Nat}{w:World}{X:Cx}(hz:dL P t=some z) :
  ∃zero:Array Value,((if k=0 then pure #[]else do pure (<- zeroValue t).cells).run P w=.ok zero w)/\(k≠0->∃Z,zero=Z.cells/\Rel X z Z):=by
 by_cases hk:k=0
 .exact⟨#[],by simp[hk],fun h=>absurd hk h⟩
 .obtain⟨Z,h1,h2⟩:=fZ hz X w;refine⟨Z.cells,?_,fun _=>⟨Z,rfl,h2⟩⟩;rw[qr hk];simp[h1]
def gw(h:Hp)(τ:Sh):Nat->List AV->Option (List τ.T)
 |0,l=>match l with|[]=>some []|_=>none
 |n+1,l=>match dz false h τ l with
  |some (x,r,_)=>match gw h τ n r with|some xs=>some (x::xs)|none=>none
  |none=>none
theorem KA{X:Cx}(H:ab X){τ:Sh}:∀{n:Nat}{l:List AV}{L:List τ.T}{cs:kw},gw X.h τ n l=some L->bc X l cs->L.length=n/\aV (Cs X.w X.out τ) L cs
 |0,l,L,cs,e,R=>by simp only[gw]at e;split at e<;>cases e;exact⟨rfl,R⟩
 |n+1,l,L,cs,e,R=>by
  simp only[gw]at e;split at e<;>try cases e
  rename_i x r h₁ hf;split at e<;>try cases e
  rename_i xs hx;have hs:=zw hf;subst hs;obtain⟨F,c,t,rfl,q1,q2⟩:=nS H hf R;obtain⟨k1,k2⟩:=KA H hx q2;exact⟨by simp[k1],c,t,rfl,q1,k2⟩
def E4:Nat->List AV->List AV
 |0,_=>[]|n+1,z=>z++E4 n z
theorem Lk{X:Cx}{z:List AV}{Z:kw}(R:bc X z Z):∀n,bc X (E4 n z) (fH n Z)
 |0=>rfl|n+1=>R.append (Lk R n)
def qL(h:Hp)(n:Nat)(elem:TypeId)(len sz:Nat)(r:List AV):Option Sh->Option (Bool×aI×AV)
 |some τ=>match Nat.beq τ.size sz with
  |true=>match gw h τ len r with|some L=>some (true,.arr τ L elem,.hd n τ)|none=>some (true,.cells r elem,.vw n τ 0 len)
  |false=>none
 |none=>some (true,.cells r elem,.vw n .bool 0 len)
def gX(P:Program)(sh:TypeId->Option Sh)(T:Tr AV)(h:Hp)(n:Nat):Op->Option (Bool×aI×AV)
 |.alloc elem=>match dL P elem with|some z=>some (true,.cells (bV z) elem,.ptr n 0)|none=>none
 |.box elem x=>match aK T x with|some u=>some (true,.cells (bV u) elem,.ptr n 0)|none=>none
 |.makeSlice t l c=>match P.underlying t,aK T l,aK T c with
  |some (.slice elem),some (.int _ li),some (.int _ ci)=>match sh elem,gb P elem,cz P elem,dL P elem with
   |some τ,some by_,some sz,some z=>match Nat.beq τ.size sz,Nat.beq (bV z).length sz,Nat.blt 0 by_,Nat.blt 0 sz,mO τ (bV z)with|true,true,true,true,some []=>some (both (decide (0<=li)) (both (decide (li<=ci)) (decide ((by_:Int)*ci<=281474976710656))),.arr τ (List.replicate li.toNat τ.zero) elem,.hd n τ)|_,_,_,_,_=>none
   |_,_,_,_=>none
  |_,_,_=>none
 |.buildSlice t len parts=>match P.underlying t,fL T parts.toList with
  |some (.slice elem),some ps=>match cz P elem,dL P elem with
   |some sz,some z=>match Nat.ble (len*sz) 16777216,Nat.beq (bV z).length sz,ia (fun i=>some (i*sz,sz)) (E4 len (bV z)) ps with|true,true,some r=>qL h n elem len sz r (sh elem)|_,_,_=>none
   |_,_=>none
  |_,_=>none
 |.makeMap t r=>match r,P.underlying t with
  |none,some (.map kt et)=>match P.underlying kt,sh et with|some (.int κ),some σ=>some (true,.map κ σ [],.mp n)|_,_=>none
  |_,_=>none
 |_=>none
structure Made(X X':Cx)(n:Nat)(c:Nat)(ob:aI)(ob':Obj):Prop where
 E:fp X X'
 w:X'.w.heap=X.w.heap.push ob'
 s:X'.s n=some (.at X.w.heap.size c)
 o:X'.h.tr.get n=some ob
theorem tO{P:Program}{sh:TypeId->Option Sh}{T:Tr AV}{n:Nat}{o:Oper}{g:Bool}{ob:aI}{v:AV}{X:Cx}(H:ab X)(e:gX P sh T X.h n o.op=some (g,ob,v))(hg:g=true){a:Act}(hO:fA X T a o.op) :
  ∃c ob' V,(execOp a.eval o).run P X.w=.ok (.value V) { X.w with heap:=X.w.heap.push ob' }/\∀X',Made X X' n c ob ob'->bS X' (.at X.w.heap.size c) ob/\Rel X' v V:=by
 subst hg;have top:∀{X':Cx}{c:Nat}{ob:aI}{ob':Obj},Made X X' n c ob ob'->X'.w.heap[X.w.heap.size]?=some ob':=by intro X' c ob ob' M;rw[M.w];simp
 unfold gX at e;split at e
 .rename_i elem ho;split at e<;>try cases e
  rename_i z hz;obtain⟨Z,h1,h2⟩:=fZ hz X X.w;refine⟨0,.cells Z.cells elem (0,0),.pointer (some ⟨X.w.heap.size,0,none⟩),?_,fun X' M=>⟨⟨_,0,Z.cells.toList,rfl,by rw[top M],(ju h2).ext M.E⟩,_,_,M.s,rfl⟩⟩;unfold execOp;rw[ho];simp only[Instr.alloc,Sem.run_bind,h1,Result.andThen_ok,newVar,newRow,run_newObj,Sem.run_pure]
 .rename_i elem x ho;split at e<;>try cases e
  rename_i u hu;rw[ho]at hO;have hx:=hO x (by simp[Op.operands]) u hu;refine⟨0,.cells (a.eval x).cells elem (0,0),.pointer (some ⟨X.w.heap.size,0,none⟩),?_,fun X' M=>⟨⟨_,0,(a.eval x).cells.toList,rfl,by rw[top M],(ju hx).ext M.E⟩,_,_,M.s,rfl⟩⟩;unfold execOp;rw[ho];simp only[Instr.box,Sem.run_bind,Result.andThen_ok,newVar,newRow,run_newObj,Sem.run_pure]
 .rename_i t l c ho;rw[ho]at hO;split at e<;>try cases e
  rename_i elem kl li kc ci hu hl hc;have hl':=hO l (by simp[Op.operands]) _ hl;have hc':=hO c (by simp[Op.operands]) _ hc;split at e<;>try cases e
  rename_i τ by_ sz z hsh hb hs hz;split at e<;>try cases e
  rename_i q1 q2 q3 q4 q5;simp only[bf,ww]at e;obtain⟨hgd,rfl,rfl⟩:=e;have q1:=aW q1;subst q1;have q2:=aW q2;rw[WP]at q3 q4;obtain⟨g1,g2⟩:=kK hgd;obtain⟨g2,g3⟩:=kK g2;simp only[FS]at g1 g2 g3;obtain⟨info,hi,rfl⟩:∃info,P.info? elem=some info/\info.bytes=by_:=by unfold gb at hb;cases hi:P.info? elem<;>simp[hi]at hb;exact⟨_,rfl,hb⟩
  obtain⟨l',rfl⟩:=AI g1;obtain⟨c',rfl⟩:=AI (show 0<=ci by omega);have hcb:c'<=281474976710656:=by have h1:(info.bytes:Int)*(c':Int)=((info.bytes*c':Nat):Int):=(Int.natCast_mul _ _).symm;rw[h1]at g3;have h2:=OF c' q3;omega
  have hwl:IntKind.i64.wrap (l':Int)=l':=IntWalk.i64_in _ acs;have hwc:IntKind.i64.wrap (c':Int)=c':=IntWalk.i64_in _ acs;obtain⟨zero,hz1,hz2⟩:=QL (k:=c'*τ.size) (X:=X) (w:=X.w) hz;have hck:c'*τ.size=0->c'=0:=fun h=>by rcases Nat.mul_eq_zero.1 h with r|r<;>omega
  obtain⟨Z,hZ0,RZ⟩:=fZ hz X X.w;have hzc:(Array.range (c'*τ.size)).map (zero[· % zero.size]!)=(fH c' Z.cells.toList).toArray:=by
   by_cases hk:c'*τ.size=0
   .have:=hck hk;subst this;simp[fH]
   .obtain⟨Z',rfl,RZ'⟩:=hz2 hk;rw[qr hk]at hz1;simp only[Sem.run_bind,hZ0,Result.andThen_ok,Sem.run_pure,ST,abj]at hz1;rw[<-hz1];exact QO c' _ _ (by rw[<-NE,(ju RZ).length,q2])
  have hzl:Z.cells.toList.length=τ.size:=by rw[(ju RZ).length,q2]
  refine⟨c',.cells (fH c' Z.cells.toList).toArray elem (0,0),.slice (some ⟨X.w.heap.size,0,none⟩) l' c',?_,fun X' M=>⟨?_,?_⟩⟩
  .unfold execOp;rw[ho];simp only[show a.eval l=_ from hl',show a.eval c=_ from hc'];have hnot:¬(((decide ((l':Int)<0\/False)||false)=true)):=acv
   have h1:decide ((c':Int)<0)=false:=iK acs;have h2:decide ((info.bytes:Int)*(c':Int) > 2^48)=false:=iK (by show ¬((281474976710656:Int)<(info.bytes:Int)*(c':Int));omega);have h3:decide ((l':Int)<0)=false:=iK acs;have h4:decide ((l':Int) > (c':Int))=false:=iK acs;simp only[Instr.makeSlice,asInt,asIntOf,Sem.run_bind,run_underlying hu,Result.andThen_ok,Sem.run_pure,run_typeInfo hi,hwl,hwc];rw[qr (by rw[h1,h2,h3,h4];decide)];simp only[Fr,run_askRoom,Result.andThen_ok,run_sizeOf hs,Sem.run_bind,Sem.run_pure];by_cases hk:c'*τ.size=0
   .rw[ut hk]at hz1 |-;simp only[Sem.run_pure,ST,abj]at hz1;subst hz1;simp only[Sem.run_bind,Sem.run_pure,Result.andThen_ok,newRow,run_newObj,hzc]
   .rw[qr hk]at hz1 |-;simp only[Sem.run_bind,hZ0,Result.andThen_ok,Sem.run_pure,ST,abj]at hz1 |-;subst hz1;simp only[newRow,Sem.run_bind,run_newObj,Sem.run_pure,Result.andThen_ok,hzc]
  .obtain⟨zc,zr,e1,e2,e3⟩:=GY (X:=X) (w:=X'.w) (A:=X'.out) q5 (ju RZ);have:zr=[]:=e3;subst this;rw[dE]at e1;refine⟨fH l' Z.cells.toList,fH (c'-l') Z.cells.toList,?_,?_,?_,by simp;omega⟩
   .rw[top M,<-Tp,show l'+(c'-l')=c' by omega]
   .rw[e1,Fr];exact aV.rep e2 l'
   .rw[yY,yY,hzl,<-Ne];congr 1;omega
  .have:=rJ M.o M.s;simpa[Loc.slice]using this
 .rename_i t len parts ho;rw[ho]at hO;split at e<;>try cases e
  rename_i elem ps hu hps;split at e<;>try cases e
  rename_i sz z hs hz;split at e<;>try cases e
  rename_i r q2 q3 hr;have q2:=pi q2;have q3:=aW q3;have hmem:∀x∈parts.toList.map (·.2),x∈(Op.buildSlice t len parts).operands:=by intro x hx;simp only[Op.operands,abC];exact hx
  have hP:=GS hps (fun x hx=>hO x (hmem x hx));obtain⟨zero,hz1,hz2⟩:=QL (k:=len*sz) (X:=X) (w:=X.w) hz;obtain⟨Z,hZ0,RZ⟩:=fZ hz X X.w;have hzl:Z.cells.toList.length=sz:=by rw[(ju RZ).length,q3]
  have hzc:(Array.range (len*sz)).map (zero[· % zero.size]!)=(fH len Z.cells.toList).toArray:=by
   by_cases hk:len*sz=0
   .have:fH len Z.cells.toList=[]:=ro (by rw[yY,hzl];exact hk);rw[this,hk];simp
   .obtain⟨Z',rfl,RZ'⟩:=hz2 hk;rw[qr hk]at hz1;simp only[Sem.run_bind,hZ0,Result.andThen_ok,Sem.run_pure,ST,abj]at hz1;rw[<-hz1];exact QO len _ _ (by rw[<-NE,hzl])
  obtain⟨rs,f1,f2⟩:=zl _ _ _ _ _ _ hr hP (Lk (ju RZ) len);have hrun:(execOp a.eval o).run P X.w=.ok (.value (.slice (some ⟨X.w.heap.size,0,none⟩) len len)) { X.w with heap:=X.w.heap.push (.cells rs.toArray elem (0,0)) }:=by
   unfold execOp;rw[ho];have hp:((parts.map fun x=>(x.1,a.eval x.2)).toList)=parts.toList.map fun x=>(x.1,a.eval x.2):=acv
   simp only[Instr.buildSlice,Sem.run_bind,run_underlying hu,Result.andThen_ok,run_sizeOf hs];rw[qr acs];simp only[Sem.run_pure,Result.andThen_ok,Sem.run_bind];rw[hp];by_cases hk:len*sz=0
   .rw[ut hk]at hz1 |-;simp only[Sem.run_pure,ST,abj]at hz1;subst hz1;simp only[Sem.run_bind,Sem.run_pure,Result.andThen_ok,hzc,f1,newRow,run_newObj]
   .rw[qr hk]at hz1 |-;simp only[Sem.run_bind,hZ0,Result.andThen_ok,Sem.run_pure,ST,abj]at hz1 |-;subst hz1;simp only[hzc,f1,newRow,Sem.run_bind,run_newObj,Sem.run_pure,Result.andThen_ok]
  have wr:∀(X':Cx) (τ:Sh),Made X X' n len (.cells r elem) (.cells rs.toArray elem (0,0))->bS X' (.at X.w.heap.size len) (.cells r elem)/\Rel X' (.vw n τ 0 len) (.slice (some ⟨X.w.heap.size,0,none⟩) len len):=by intro X' τ M;refine⟨⟨_,len,rs,rfl,by rw[top M],f2.ext M.E⟩,_,_,_,M.s,rfl,ol _,fun _=>⟨_,_,rfl,acv⟩,fun _=>rfl,fun n' q=>?_⟩;rw[ie M.o]at q;cases q
  unfold qL at e;split at e
  .rename_i τ hsh;split at e<;>try cases e
   rename_i q1;have q1:=aW q1;subst q1;split at e
   .rename_i L hL;cases e;obtain⟨k1,k2⟩:=KA H hL f2;refine⟨len,.cells rs.toArray elem (0,0),_,hrun,fun X' M=>⟨?_,?_⟩⟩
    .refine⟨rs,[],?_,k2.mono (fun x c q=>q.aH M.E.K),?_,by rw[k1];exact ol _⟩
     .rw[top M];simp
     .rw[aV.length (fun x c=>Cs.length) k2,k1];simp
    .have:=rJ M.o M.s;rw[k1]at this;simpa[Loc.slice]using this
   .cases e;exact⟨len,.cells rs.toArray elem (0,0),_,hrun,fun X' M=>wr X' _ M⟩
  .cases e;exact⟨len,.cells rs.toArray elem (0,0),_,hrun,fun X' M=>wr X' _ M⟩
 .rename_i t r ho;split at e<;>try cases e
  rename_i kt et hu;split at e<;>cases e;rename_i κ σ hk hs;refine⟨0,.map #[] 0,.map (some X.w.heap.size),?_,fun X' M=>⟨⟨_,0,#[],0,rfl,top M,[],.nil,rfl,.nil,acv,.nil⟩,_,_,M.s,rfl⟩⟩;unfold execOp;rw[ho];simp only[abJ,Instr.makeMap,Sem.run_bind,run_newObj,Result.andThen_ok,Sem.run_pure]
 .cases e
open Go.Proofs.Ytbbhihkocghhaaa.Ev (Tr nth bW run_underlying)
def H6(P:Program)(t:TypeId)(u v:AV):Option Bool:=match P.underlying t with
 |some d=>match d with
  |.int _=>match u,v with
   |.int k a,.int k' b=>match jc k k' with|true=>some (decide (a=b))|false=>none
   |_,_=>none
  |.bool=>match u,v with|.bool a,.bool b=>some (a == b)|_,_=>none
  |.string=>match u,v with|.str a,.str b=>some (a == b)|_,_=>none
  |_=>none
 |none=>none
theorem TT{P:Program}{t:TypeId}{u v:AV}{b:Bool}(e:H6 P t u v=some b){X:Cx}{U V:Value}(h1:Rel X u U)(h2:Rel X v V)(n:Nat)(w:World):(Op.equalIn (n+1) t U V).run P w=.ok b w:=by
 unfold H6 at e;split at e<;>try cases e
 rename_i d hd;have hr:=run_underlying hd w;split at e
 .split at e<;>try cases e
  rename_i k a k' b;split at e<;>cases e;rename_i hk;have:=kf hk;subst this;rw[show U=_ from h1,show V=_ from h2];simp only[Op.equalIn,Sem.run_bind,hr,Result.andThen_ok,abE,Sem.run_pure];rfl
 .split at e<;>cases e;rw[show U=_ from h1,show V=_ from h2];simp only[Op.equalIn,Sem.run_bind,hr,Result.andThen_ok,abE,Sem.run_pure]
 .split at e<;>cases e;rw[show U=_ from h1,show V=_ from h2];simp only[Op.equalIn,Sem.run_bind,hr,Result.andThen_ok,abE,Sem.run_pure]
 .cases e
def sx(P:Program)(l m:List AV):List Field->Option Bool
 |[]=>some true|f::fs=>match f.name == "_" with
  |false=>match kN P f.type l f.offset,kN P f.type m f.offset with
   |some u,some v=>match H6 P f.type u v with
    |some b=>match sx P l m fs with|some c=>some (both b c)|none=>none
    |none=>none
   |_,_=>none
  |true=>none
theorem LM{P:Program}{l m:List AV}{X:Cx}{xs ys:kw}(h1:bc X l xs)(h2:bc X m ys)(n:Nat)(w:World):∀{fs:List Field}{b:Bool},sx P l m fs=some b ->
  (forIn fs ((none:Option Bool),()) fun f s=>if f.name≠"_" then do
   let a <- part f.type xs.toArray f.offset
   let c <- part f.type ys.toArray f.offset
   let r <- Op.equalIn (n+1) f.type a c
   if(!r)=true then pure (ForInStep.done (some false,()))else pure (ForInStep.yield (none,()))
   else pure (ForInStep.yield (none,())):Sem (Option Bool×Unit)).run P w =
  .ok (if b then(none,())else(some false,())) w
 |[],b,e=>by simp only[sx,bf]at e;subst e;simp|f::fs,b,e=>by
  simp only[sx]at e;split at e<;>try cases e
  rename_i hn;split at e<;>try cases e
  rename_i u v hu hv;split at e<;>try cases e
  rename_i c hc;split at e<;>cases e;rename_i r hr;obtain⟨U,p1,p2⟩:=tu hu h1 w;obtain⟨V,q1,q2⟩:=tu hv h2 w;have e1:=TT hc p2 q2 n w;have hn':f.name≠"_":=by grind
  have ih:=LM h1 h2 n w hr;rw[List.forIn_cons];rw[ut hn'];simp only[Sem.run_bind,p1,Result.andThen_ok,q1,e1];cases c with|true=>exact ih|false=>simp[both]
def EU(P:Program)(op:BinOp)(t:TypeId)(u v:AV):Option (Bool×AV):=match u,v with
 |.agg l,.agg m=>match P.underlying t with
  |some d=>match d with
   |.struct fs=>match P.stoodInHeld t,P.eqGuardType P.depth t,sx P l m fs.toList with
    |false,false,some b=>match op with|.eql=>some (true,.bool b)|.neq=>some (true,.bool (Bool.not b))|_=>none
    |_,_,_=>none
   |_=>none
  |none=>none
 |_,_=>none
theorem SR{P:Program}{op:BinOp}{t:TypeId}{u v r:AV}{g:Bool}(e:EU P op t u v=some (g,r)){X:Cx}{U V:Value}(h1:Rel X u U)(h2:Rel X v V)(x y:Operand)(w:World) :
  ∃R,(do eqGuard op t x y U V;binOp op t U V).run P w=.ok R w/\Rel X r R:=by
 unfold EU at e;split at e<;>try cases e
 rename_i l m;split at e<;>try cases e
 rename_i d hd;split at e<;>try cases e
 rename_i fs;split at e<;>try cases e
 rename_i b hs hg hb;obtain⟨xs,rfl,R1⟩:=h1;obtain⟨ys,rfl,R2⟩:=h2;have hr:=run_underlying hd w;have main:(Op.equal t (.agg xs.toArray) (.agg ys.toArray)).run P w=.ok b w:=by
  have gen:∀n,(Op.equalIn (n+1+1) t (.agg xs.toArray) (.agg ys.toArray)).run P w=.ok b w:=by
   intro n;have:=LM R1 R2 n w hb;have hp:(program:Sem Program).run P w=.ok P w:=acv
   rw[Op.equalIn];simp only[Sem.run_bind,hr,Result.andThen_ok,hp,hs,GE,abu,<-Array.forIn_toList,this];cases b<;>simp
  exact gen 9998
 split at e<;>cases e
 .exact⟨.bool b,by simp[eqGuard,binOp,hg,main],rfl⟩
 .exact⟨.bool (!b),by simp[eqGuard,binOp,hg,main],rfl⟩
open Go.Proofs.Ytbbhihkocghhaaa.Ev (Tr Tr.bE nth bW bU dK ir cz gb jj)
theorem eJ.snoc{w:World}{A:Nat->Prop}{ty:TypeId}{p:Nat×Nat}{d:gR}(hp:od w A p d ty):∀{m:List (Nat×Nat)}{L:List gR},eJ w A ty m L->eJ w A ty (m++[p]) (L++[d])
 |[],L,h=>by rw[h];exact⟨hp,rfl⟩|x::m,L,h=>by cases L with|nil=>exact h.elim|cons d L=>exact⟨h.1,eJ.snoc hp h.2⟩
theorem Wo(m:List (Nat×Nat))(p:Nat×Nat):eT (m++[p])=eT m++[p.1,p.2]:=by unfold eT;rw[IO];rfl
theorem Qy{m:List (Nat×Nat)}{p:Nat×Nat}(h:p∈m):p.1∈eT m/\p.2∈eT m:=⟨Or.2 ⟨p,h,acv⟩,Or.2 ⟨p,h,acv⟩⟩
theorem Qz{m:List (Nat×Nat)}{q:Nat}(h:q∈eT m):∃p∈m,q=p.1\/q=p.2:=by
 obtain⟨p,hp,hq⟩:=Or.1 h
 grind
theorem JQ{X:Cx}(H:ab X){ob:Option Nat}{j0 j1 c0 c1 x' c:Nat}{p:Nat×Nat}{d:gR}{ty ty':TypeId}{m:List (Nat×Nat)}{L:List gR}{w':World}{t':Tr aI}{tail:kw}
  (hj0:X.h.tr.get j0=some (.cells [.int .i64 d.1,.int .i64 d.2.1,.mp j1] ty)) (hj1:X.h.tr.get j1=some (.map .u64 (.int .u64) d.2.2.1)) (hs0:X.s j0=some (.at p.1 c0)) (hs1:X.s j1=some (.at p.2 c1))
  (hm:eJ X.w X.out ty m L) (hmo:∀q∈eT m,∃k o l,ob=some k/\X.h.tr.get k=some o/\X.s k=some l/\l.own q) (hnd:(eT m).Nodup)
  (hx:x'=X.w.heap.size\/∃k o l,ob=some k/\X.h.tr.get k=some o/\X.s k=some l/\l.own x') (hxm:x'∉eT m)
  (hob:∀k,ob=some k->∃o l,X.h.tr.get k=some o/\X.s k=some l/\k≠j0/\k≠j1)
  (ht:∀i,t'.get i=if i=X.h.next then some (.d7 (L++[d]) ty)else if i=j0\/i=j1\/ob=some i then none else X.h.tr.get i)
  (ho:w'.os=X.w.os) (htp:w'.tape=X.w.tape) (hou:w'.output=X.w.output) (hsz:X.w.heap.size<=w'.heap.size) (hw:∀q,q<X.w.heap.size->q≠x'->w'.heap[q]?=X.w.heap[q]?)
  (hxc:w'.heap[x']?=some (.cells (iC (m++[p])++tail).toArray ty' (0,0))) (hlen:(m++[p]).length+tail.length=c) :
  ab ⟨aQ X.s X.h.next (.bX x' c (m++[p])),⟨t',X.h.next+1⟩,w',X.A⟩/\aB X ⟨aQ X.s X.h.next (.bX x' c (m++[p])),⟨t',X.h.next+1⟩,w',X.A⟩ /\
   Rel ⟨aQ X.s X.h.next (.bX x' c (m++[p])),⟨t',X.h.next+1⟩,w',X.A⟩ (.dA X.h.next) (.slice (some ⟨x',0,none⟩) (m++[p]).length c):=by
 have hn0:=H.lt _ _ hj0;have hn1:=H.lt _ _ hj1;have h01:j0≠j1:=by rintro rfl;rw[hj0]at hj1;cases hj1
 obtain⟨y,c',cs,e1,e2,e3⟩:=H.obj _ _ _ hj0 hs0;cases e1;obtain⟨u1,t1,rfl,rfl,u2,t2,rfl,rfl,u3,t3,rfl,⟨y3,c3,z1,rfl⟩,t4⟩:=e3;have:t3=[]:=t4;subst this;rw[hs1]at z1;cases z1;obtain⟨y',c'',es,clk,e4,e5,e6⟩:=H.obj _ _ _ hj1 hs1;cases e4;have hp0:=H.i6 hj0 hs0 rfl;have hp1:=H.i6 hj1 hs1 rfl;have hpp:p.1≠p.2:=fun e=>h01 (H.inj j0 j1 _ _ _ _ p.1 hj0 hj1 hs0 hs1 rfl e);have own:∀q,(Loc.bX x' c (m++[p])).own q↔q=x'\/q∈eT m\/q=p.1\/q=p.2:=by
  intro q;constructor
  .rintro(rfl|⟨r,hr,h⟩)
   .exact .inl rfl
   .rcases AC.1 hr with hr|hr
    .obtain⟨b1,b2⟩:=Qy hr;rcases h with rfl|rfl
     .exact .inr (.inl b1)
     .exact .inr (.inl b2)
    .simp only[abS]at hr;subst hr;exact .inr (.inr h)
  .rintro(rfl|h|h)
   .exact .inl rfl
   .obtain⟨r,hr,h⟩:=Qz h;exact .inr ⟨r,by simp[hr],h⟩
   .exact .inr ⟨p,acv,h⟩
 have was:∀q,(Loc.bX x' c (m++[p])).own q->q=X.w.heap.size\/∃k o l,(k=j0\/k=j1\/ob=some k)/\X.h.tr.get k=some o/\X.s k=some l/\l.own q:=by
  intro q hq;rcases(own q).1 hq with rfl|h|rfl|rfl
  .rcases hx with h|⟨k,o,l,h1,h2,h3,h4⟩
   .exact .inl h
   .exact .inr ⟨k,o,l,.inr (.inr h1),h2,h3,h4⟩
  .obtain⟨k,o,l,h1,h2,h3,h4⟩:=hmo q h;exact .inr ⟨k,o,l,.inr (.inr h1),h2,h3,h4⟩
  .exact .inr ⟨j0,_,_,.inl rfl,hj0,hs0,rfl⟩
  .exact .inr ⟨j1,_,_,.inr (.inl rfl),hj1,hs1,rfl⟩
 have sn:X.s X.h.next=none:=by cases q:X.s X.h.next with|none=>rfl|some l=>have:=H.cr _ _ q;omega
 have old:∀j l,X.s j=some l->aQ X.s X.h.next (.bX x' c (m++[p])) j=some l:=by intro j l h;rw[cI _ _ _ (by rintro rfl;rw[sn]at h;cases h)];exact h
 have alt:∀j o,t'.get j=some o->(j=X.h.next/\o=.d7 (L++[d]) ty)\/(X.h.tr.get j=some o/\j≠X.h.next/\¬(j=j0\/j=j1\/ob=some j)):=by
  intro j o hj;rw[ht j]at hj;by_cases q:j=X.h.next
  .rw[ut q]at hj;exact .inl ⟨q,by simpa using hj.symm⟩
  .rw[qr q]at hj;by_cases r:j=j0\/j=j1\/ob=some j
   .rw[ut r]at hj;cases hj
   .rw[qr r]at hj;exact .inr ⟨hj,q,r⟩
 have apart:∀j o l q,X.h.tr.get j=some o->¬(j=j0\/j=j1\/ob=some j)->X.s j=some l->l.own q->¬(Loc.bX x' c (m++[p])).own q:=by
  intro j o l q f1 f2 f3 f4 hq;rcases was q hq with rfl|⟨k,o',l',h1,h2,h3,h4⟩
  .exact absurd (H.i6 f1 f3 f4) acs
  .have:=H.inj j k o o' l l' q f1 h2 f3 h3 f4 h4;subst this;exact f2 h1
 have hxo:∀q,q<X.w.heap.size->¬X.bz q->q≠x':=by
  rintro q hq hn rfl;rcases hx with h|⟨k,o,l,h1,h2,h3,h4⟩
  .omega
  .exact hn ⟨k,o,l,h2,h3,h4⟩
 have E:aB X ⟨aQ X.s X.h.next (.bX x' c (m++[p])),⟨t',X.h.next+1⟩,w',X.A⟩:=by
  refine⟨ho,htp,hou,hsz,old,?_,acv,fun q hq hn=>hw q hq (hxo q hq hn),?_,?_,?_,rfl⟩
  .intro i l hi h
   replace h:aQ X.s X.h.next (.bX x' c (m++[p])) i=some l:=h
   rw[cI _ _ _ acs]at h;exact h
  .rintro q ⟨j,o,l,h1,h2,h3⟩
   replace h1:t'.get j=some o:=h1
   replace h2:aQ X.s X.h.next (.bX x' c (m++[p])) j=some l:=h2
   rcases alt j o h1 with⟨rfl,rfl⟩|⟨f1,f2,f3⟩
   .rw[cE]at h2;cases h2;rcases was q h3 with rfl|⟨k,o',l',_,g2,g3,g4⟩
    .exact .inr (ol _)
    .exact .inl ⟨k,o',l',g2,g3,g4⟩
   .rw[cI _ _ _ f2]at h2;exact .inl ⟨j,o,l,f1,h2,h3⟩
  .intro j n' hj h;obtain⟨o,h,hr⟩:=jd h;rcases alt j _ h with⟨_,h⟩|⟨f1,_⟩
   .subst h;cases hr
   .show rowOf X.h.tr j=some n';rw[ie f1];exact hr
  .intro j hj hn;show t'.get j=_;rw[ht j,qr acs,qr];rintro(rfl|rfl|h)
   .rw[hs0]at hn;cases hn
   .rw[hs1]at hn;cases hn
   .obtain⟨o,l,g1,g2,_⟩:=hob j h;rw[g2]at hn;cases hn
 have K:=E.keeps;have stay:∀q,q<X.w.heap.size->q≠x'->w'.heap[q]?=X.w.heap[q]?:=hw;have hp0x:p.1≠x':=by
  rintro e;rcases hx with h|⟨k,o,l,h1,h2,h3,h4⟩
  .omega
  .obtain⟨_,_,g1,g2,g3,g4⟩:=hob k h1;exact g3 (H.inj k j0 o _ l _ x' h2 hj0 h3 hs0 h4 e.symm)
 have hp1x:p.2≠x':=by
  rintro e;rcases hx with h|⟨k,o,l,h1,h2,h3,h4⟩
  .omega
  .obtain⟨_,_,g1,g2,g3,g4⟩:=hob k h1;exact g4 (H.inj k j1 o _ l _ x' h2 hj1 h3 hs1 h4 e.symm)
 have hpm:∀q,q=p.1\/q=p.2->q∉eT m:=by
  intro q hq hqm;obtain⟨k,o,l,h1,h2,h3,h4⟩:=hmo q hqm;obtain⟨_,_,g1,g2,g3,g4⟩:=hob k h1;rcases hq with rfl|rfl
  .exact g3 (H.inj k j0 o _ l _ _ h2 hj0 h3 hs0 h4 rfl)
  .exact g4 (H.inj k j1 o _ l _ _ h2 hj1 h3 hs1 h4 rfl)
 have hmb:∀q∈eT m,q<X.w.heap.size:=by intro q hq;obtain⟨k,o,l,h1,h2,h3,h4⟩:=hmo q hq;exact H.i6 h2 h3 h4
 refine⟨⟨?_,?_,?_,?_,fun q hq=>rg (H.alt q hq) hsz,?_⟩,E,_,cE _ _ _,rfl⟩
 .intro j o l hj hl
  replace hj:t'.get j=some o:=hj
  replace hl:aQ X.s X.h.next (.bX x' c (m++[p])) j=some l:=hl
  rcases alt j o hj with⟨rfl,rfl⟩|⟨f1,f2,f3⟩
  .rw[cE]at hl;cases hl;refine⟨tail,ty',hxc,hlen,eJ.snoc ⟨?_,es,clk,?_,e6.aH K⟩ (hm.ext K ?_),?_⟩
   .show w'.heap[p.1]?=_;rw[stay _ hp0 hp0x];exact e2
   .show w'.heap[p.2]?=_;rw[stay _ hp1 hp1x];exact e5
   .intro q hq;obtain⟨b1,b2⟩:=Qy hq;exact⟨stay _ (hmb _ b1) (fun e=>hxm (e▸b1)),stay _ (hmb _ b2) (fun e=>hxm (e▸b2))⟩
   .rw[Wo]
    grind
  .rw[cI _ _ _ f2]at hl;refine(H.obj j o l f1 hl).ext (E.dw H) ?_;intro b' hb';refine stay b' (H.i6 f1 hl hb') ?_;rintro rfl;exact apart j o l _ f1 f3 hl hb' (.inl rfl)
 .intro j k o o' l l' q hj hk e1' e2' f1 f2
  replace hj:t'.get j=some o:=hj
  replace hk:t'.get k=some o':=hk
  replace e1':aQ X.s X.h.next (.bX x' c (m++[p])) j=some l:=e1'
  replace e2':aQ X.s X.h.next (.bX x' c (m++[p])) k=some l':=e2'
  rcases alt j o hj with⟨rfl,rfl⟩|⟨g1,g2,g3⟩<;>rcases alt k o' hk with⟨rfl,rfl⟩|⟨k1,k2,k3⟩
  .rfl
  .rw[cE]at e1';cases e1';rw[cI _ _ _ k2]at e2';exact absurd f1 (apart k o' l' q k1 k3 e2' f2)
  .rw[cE]at e2';cases e2';rw[cI _ _ _ g2]at e1';exact absurd f2 (apart j o l q g1 g3 e1' f1)
  .rw[cI _ _ _ g2]at e1';rw[cI _ _ _ k2]at e2';exact H.inj j k o o' l l' q g1 k1 e1' e2' f1 f2
 .intro j o hj;rcases alt j o hj with⟨rfl,rfl⟩|⟨f1,_⟩
  .simp
  .have:=H.lt j o f1;simp only;omega
 .intro j l hl
  replace hl:aQ X.s X.h.next (.bX x' c (m++[p])) j=some l:=hl
  by_cases q:j=X.h.next
  .simp[q]
  .rw[cI _ _ _ q]at hl;have:=H.cr j l hl;simp only;omega
 .intro j o l q hj hl hq
  replace hj:t'.get j=some o:=hj
  replace hl:aQ X.s X.h.next (.bX x' c (m++[p])) j=some l:=hl
  rcases alt j o hj with⟨rfl,rfl⟩|⟨f1,f2,f3⟩
  .rw[cE]at hl;cases hl;rcases was q hq with rfl|⟨k,o',l',_,g2,g3,g4⟩
   .intro ha;have:=H.alt _ ha;omega
   .exact H.loc k o' l' q g2 g3 g4
  .rw[cI _ _ _ f2]at hl;exact H.loc j o l q f1 hl hq
def pH(a w:Int)(M:cU (.int .u64)):gR:=(a,w,M,())
def J6(h:Hp)(ty:TypeId):AV->Option (List gR×Option Nat)
 |.bu=>some ([],none)|.dA b=>match h.tr.get b with
  |some (.d7 L ty')=>match Nat.beq ty' ty with|true=>some (L,some b)|false=>none
  |_=>none
 |_=>none
def Cu(P:Program)(h:Hp)(ts:Array TypeId)(su x:AV):Option (Bool×AV×Hp):=match nth ts.toList 0,nth ts.toList 1 with
 |some t0,some t1=>match P.underlying t0,P.underlying t1 with
  |some (.slice elem),some d1=>match xG d1,cz P elem,dL P elem,gb P elem with
   |true,some 1,some z,some by_=>match Nat.beq (bV z).length 1,x with
    |true,.vw kk _ 0 1=>match h.tr.get kk with
     |some (.cells [.ptr j0 0] _)=>match h.tr.get j0 with
      |some (.cells [.int .i64 a,.int .i64 w,.mp j1] ty)=>match h.tr.get j1,J6 h ty su with
       |some (.map .u64 (.int .u64) M),some (L,ob)=>match pG h.tr ob with
        |some aeS=>match Tr.set FT aeS j0 none with
         |some aeT=>match Tr.set FT aeT j1 none with
          |some aeU=>match Tr.set FT aeU h.next (some (.d7 (L++[pH a w M]) ty))with|some aeV=>some (room by_ (L++[pH a w M]).length,.dA h.next,⟨aeV,h.next+1⟩)|none=>none
          |none=>none
         |none=>none
        |none=>none
       |_,_=>none
      |_=>none
     |_=>none
    |_,_=>none
   |_,_,_,_=>none
  |_,_=>none
 |_,_=>none
theorem Xv{P:Program}{X:Cx}(H:ab X){ts:Array TypeId}{aeO:TypeId}{su x v:AV}{g:Bool}{h':Hp}(e:Cu P X.h ts su x=some (g,v,h'))(hgd:g=true){U Y:Value}(R:Rel X su U)(RY:Rel X x Y) :
  ∃X' V,(Builtin.append_ ts aeO #[U,Y]).run P X.w=.ok V X'.w/\X'.h=h'/\X'.A=X.A/\ab X'/\aB X X'/\Rel X' v V:=by
 subst hgd;unfold Cu at e;split at e<;>try cases e
 rename_i t0 t1 ht0 ht1;have ht0:ts[0]?=some t0:=by rw[bW]at ht0;simpa using ht0
 have ht1:ts[1]?=some t1:=by rw[bW]at ht1;simpa using ht1
 split at e<;>try cases e
 rename_i elem d1 hu0 hu1;split at e<;>try cases e
 rename_i z by_ hd1 hs hz hby;split at e<;>try cases e
 rename_i kk afn hzl;split at e<;>try cases e
 rename_i j0 tyk hkk;split at e<;>try cases e
 rename_i a w j1 ty hj0;split at e<;>try cases e
 rename_i M L ob hj1 hbase;split at e<;>try cases e
 rename_i aeS k1;split at e<;>try cases e
 rename_i aeT k2;split at e<;>try cases e
 rename_i aeU k3;split at e<;>try cases e
 rename_i aeV k4;simp only[bf,ww]at e;obtain⟨hroom,rfl,rfl⟩:=e;have hzl:=aW hzl;have hd:∀k,d1≠.int k:=by intro k q;subst q;simp[xG]at hd1
 obtain⟨info,hi,rfl⟩:∃info,P.info? elem=some info/\info.bytes=by_:=by unfold gb at hby;cases hi:P.info? elem<;>simp[hi]at hby;exact⟨_,rfl,hby⟩
 obtain⟨r1,r2⟩:=kK hroom;simp only[FS,aP,cq,BT]at r1 r2;obtain⟨ly,ay,cy,q1,rfl,q3,q4,q5,q6⟩:=RY;obtain⟨y,ck,rfl,rfl⟩:=q4 acs;obtain⟨y',c',cs,e1,e2,pv,r,rfl,⟨b0,c0,hs0,rfl⟩,e3⟩:=H.obj _ _ _ hkk q1;cases e1;have:r=[]:=e3;subst this;have hn0:=H.lt _ _ hj0;have hn1:=H.lt _ _ hj1;obtain⟨b0',c0',cs0,f1,f2,f3⟩:=H.obj _ _ _ hj0 hs0;cases f1;obtain⟨u1,w1,rfl,rfl,u2,w2,rfl,rfl,u3,w3,rfl,⟨b1,c1,hs1,rfl⟩,f4⟩:=f3;have hlen:∀w:World,(Builtin.lenOf (.slice (some ⟨y,0*afn.size,none⟩) 1 cy)).run P w=.ok 1 w:=fun w=>by simp[Builtin.lenOf]
 have hnew:∀w:World,w.heap=X.w.heap->(Builtin.firstCells 1 1 (.slice (some ⟨y,0*afn.size,none⟩) 1 cy)).run P w=.ok [Value.pointer (some ⟨b0,0,none⟩)].toArray w:=by intro w hw;simp only[Builtin.firstCells,loadCells];rw[Ev.run_loadCells (P:=P) (w:=w) (by rw[hw];exact e2) _ 0 #[] acv];simp
 have g1:∀j,aeS.get j=if ob=some j then none else X.h.tr.get j:=by
  intro j;cases ob with
  |none=>simp only[pG,bf]at k1;subst k1;simp|some b=>
   have:=Tr.bE _ _ _ _ _ (show Tr.set FT X.h.tr b none=some aeS from k1) j;rw[this];by_cases q:j=b
   .subst q;simp
   .rw[qr q,qr (by simpa using fun h=>q h.symm)]
 have ht:∀i,aeV.get i=if i=X.h.next then some (.d7 (L++[pH a w M]) ty)else if i=j0\/i=j1\/ob=some i then none else X.h.tr.get i:=by
  intro i;rw[Tr.bE _ _ _ _ _ k4 i];by_cases q:i=X.h.next
  .rw[ut q,ut q]
  .rw[qr q,qr q,Tr.bE _ _ _ _ _ k3 i];by_cases q1:i=j1
   .rw[ut q1,ut (.inr (.inl q1))]
   .rw[qr q1,Tr.bE _ _ _ _ _ k2 i];by_cases q2:i=j0
    .rw[ut q2,ut (.inl q2)]
    .rw[qr q2,g1 i];by_cases q3:ob=some i
     .rw[ut q3,ut (.inr (.inr q3))]
     .rw[qr q3,qr (by rintro(h|h|h);exact q2 h;exact q1 h;exact q3 h)]
 have hj0':X.h.tr.get j0=some (.cells [.int .i64 (pH a w M).1,.int .i64 (pH a w M).2.1,.mp j1] ty):=hj0;have hj1':X.h.tr.get j1=some (.map .u64 (.int .u64) (pH a w M).2.2.1):=hj1;have fin:∀(X':Cx) (V:Value),ab X'->aB X X'->Rel X' (.dA X.h.next) V->X'.h=⟨aeV,X.h.next+1⟩->X'.A=X.A->(Builtin.append_ ts aeO #[U,.slice (some ⟨y,0*afn.size,none⟩) 1 cy]).run P X.w=.ok V X'.w ->
   ∃X' V,(Builtin.append_ ts aeO #[U,.slice (some ⟨y,0*afn.size,none⟩) 1 cy]).run P X.w=.ok V X'.w/\X'.h=⟨aeV,X.h.next+1⟩/\X'.A=X.A/\ab X'/\aB X X'/\Rel X' (.dA X.h.next) V:=
  fun X' V a b c d e f=>⟨X',V,f,d,e,a,b,c⟩
 have grow:∀(m:List (Nat×Nat)) (base:lc) (c:Nat),eJ X.w X.out ty m L->(∀q∈eT m,∃k o l,ob=some k/\X.h.tr.get k=some o/\X.s k=some l/\l.own q)->(eT m).Nodup ->
   (∀k,ob=some k->∃o l,X.h.tr.get k=some o/\X.s k=some l/\k≠j0/\k≠j1)->U=.slice base m.length c->c<m.length+1 ->
   (∀d,(Builtin.firstCells 1 m.length (.slice base m.length c)).run P { X.w with drawn:=d }=.ok (iC m).toArray { X.w with drawn:=d }) ->
   ∃X' V,(Builtin.append_ ts aeO #[U,.slice (some ⟨y,0*afn.size,none⟩) 1 cy]).run P X.w=.ok V X'.w/\X'.h=⟨aeV,X.h.next+1⟩/\X'.A=X.A/\ab X'/\aB X X'/\Rel X' (.dA X.h.next) V:=by
  intro m base c hm hmo hnd hob hU hc hold;subst hU;have hml:=hm.len;obtain⟨c',hc',d,rest,hr,hrun⟩:=tE (ty:=aeO) (X:=X) (base:=base) (sLen:=m.length) (sCap:=c) ht0 ht1 hu0 hu1 hd hs hz hi hzl (hlen X.w) acs (by rw[hml];exact r1) (by rw[hml];exact r2) hold (fun d=>hnew _ rfl);have hpt:iC (m++[(b0,b1)])=iC m++[Value.pointer (some ⟨b0,0,none⟩)]:=by unfold iC;rw[dN];rfl
  obtain⟨G1,G2,G3⟩:=JQ (ob:=ob) (x':=X.w.heap.size) (c:=c') (p:=(b0,b1)) (tail:=rest) (ty':=elem) (w':={ X.w with drawn:=d,heap:=X.w.heap.push (.cells (iC m++[Value.pointer (some ⟨b0,0,none⟩)]++rest).toArray elem (0,0)) })
   H hj0' hj1' hs0 hs1 hm hmo hnd (.inl rfl) (fun q=>by obtain⟨k,o,l,h1,h2,h3,h4⟩:=hmo _ q;have:=H.i6 h2 h3 h4;omega) hob ht rfl rfl rfl acv (fun q hq hne=>by show(X.w.heap.push _)[q]?=_;rw[abA,qr acs]) (by rw[hpt];simp) (by simp at hr |-;omega)
  refine fin _ _ G1 G2 G3 rfl rfl ?_;rw[hrun];simp
 unfold J6 at hbase;split at hbase<;>try cases hbase
 .exact grow [] none 0 rfl (fun q hq=>by cases hq) (by simp[eT]) (fun k hk=>by cases hk) R acv (fun d=>by simp[Builtin.firstCells,iC])
 .rename_i b;split at hbase<;>try cases hbase
  rename_i acU ty' hb;split at hbase<;>try cases hbase
  rename_i hty;have hty:=aW hty;subst hty;obtain⟨l,hsb,rfl⟩:=R;have hob:∀k,some b=some k->∃o l,X.h.tr.get k=some o/\X.s k=some l/\k≠j0/\k≠j1:=by intro k hk;cases hk;exact⟨_,_,hb,hsb,(by rintro rfl;rw[hb]at hj0;cases hj0),(by rintro rfl;rw[hb]at hj1;cases hj1)⟩
  cases l with
  |nil=>have hL:L=[]:=H.obj b _ _ hb hsb;subst hL;exact grow [] none 0 rfl (fun q hq=>by cases hq) (by simp[eT]) hob rfl acv (fun d=>by simp[Builtin.firstCells,iC])
  |«at» x c=>exact(H.obj b _ _ hb hsb:False).elim|bX x c m=>
   obtain⟨tail,tyr,s1,s2,s3,s4⟩:=H.obj b _ _ hb hsb;obtain⟨n1,n2⟩:=abr.1 s4;have hpl:(iC m).length=m.length:=by unfold iC;simp
   have hml:=s3.len;have hmo:∀q∈eT m,∃k o l,some b=some k/\X.h.tr.get k=some o/\X.s k=some l/\l.own q:=by intro q hq;obtain⟨p,hp,h⟩:=Qz hq;exact⟨b,_,_,rfl,hb,hsb,.inr ⟨p,hp,h⟩⟩
   by_cases hfit:m.length+1<=c
   .obtain⟨ds,hds,hst⟩:=jj (P:=P) (off:=m.length*1) [Value.pointer (some ⟨b0,0,none⟩)] 0 X.w _ s1 (by simp;omega) (by intro v hv;simp at hv;subst hv;rfl);have hdsE:ds=(iC (m++[(b0,b1)])++tail.drop 1).toArray:=by
     apply IS.1;rw[hds];have hpt:iC (m++[(b0,b1)])=iC m++[Value.pointer (some ⟨b0,0,none⟩)]:=by unfold iC;rw[dN];rfl
     rw[hpt];simp only[aaW,Nat.mul_one,cq,BT];rw[<-hpl,List.take_left',List.drop_append]
     .simp
     .rfl
    subst hdsE;obtain⟨G1,G2,G3⟩:=JQ (ob:=some b) (x':=x) (c:=c) (p:=(b0,b1)) (tail:=tail.drop 1) (ty':=tyr) (w':=bU X.w x (.cells (iC (m++[(b0,b1)])++tail.drop 1).toArray tyr (0,0)))
     H hj0' hj1' hs0 hs1 s3 hmo n2 (.inr ⟨b,_,_,rfl,hb,hsb,.inl rfl⟩) n1 hob ht rfl rfl rfl (by rw[ir];exact ol _) (fun q hq hne=>by rw[dK,qr];rintro⟨rfl,_⟩;exact hne rfl) (by rw[dK,ut ⟨rfl,gW s1⟩]) (by simp;omega)
    refine fin _ _ G1 G2 G3 rfl rfl ?_;have:=zt (ty:=aeO) ht0 ht1 hu0 hu1 hd hs (hlen X.w) hfit (hnew X.w rfl) (b:=x) (off:=0) (by simpa using hst);show(Builtin.append_ ts aeO #[.slice (some ⟨x,0,none⟩) m.length c,_]).run P X.w=_;rw[this];simp
   .refine grow m (some ⟨x,0,none⟩) c s3 hmo n2 hob rfl acs ?_;intro d;simp only[Builtin.firstCells,loadCells];rw[Ev.run_loadCells (P:=P) (w:={ X.w with drawn:=d }) s1 _ 0 #[] (by simp;omega)];simp[<-hpl]
open Go.Proofs.Ytbbhihkocghhaaa.Ev (Tr Tr.bE nth bW takeN du eu eW bU dK ir still fK run_underlying run_typeInfo run_sizeOf cz dk kH jj)
theorem ab.VY{X:Cx}(H:ab X){tr:Tr aI}(h:∀i,tr.get i=X.h.tr.get i):aB X ⟨X.s,⟨tr,X.h.next⟩,X.w,X.A⟩/\ab ⟨X.s,⟨tr,X.h.next⟩,X.w,X.A⟩:=by
 have E:aB X ⟨X.s,⟨tr,X.h.next⟩,X.w,X.A⟩:=by
  refine⟨rfl,rfl,rfl,ol _,fun _ _ h=>h,fun _ _ _ h=>h,ol _,fun _ _ _=>rfl,?_,?_,fun i _ _=>h i,rfl⟩
  .rintro b ⟨i,o,l,h1,h2⟩
   replace h1:tr.get i=some o:=h1
   rw[h i]at h1;exact .inl ⟨i,o,l,h1,h2⟩
  .intro j n _ q;rw[<-OY (h j)];exact q
 refine⟨E,⟨?_,?_,?_,H.cr,H.alt,?_⟩⟩
 .intro i o l h1 h2
  replace h1:tr.get i=some o:=h1
  rw[h i]at h1;exact(H.obj i o l h1 h2).ext (E.dw H) fun _ _=>rfl
 .intro i j o o' l l' b h1 h2
  replace h1:tr.get i=some o:=h1
  replace h2:tr.get j=some o':=h2
  rw[h i]at h1;rw[h j]at h2;exact H.inj i j o o' l l' b h1 h2
 .intro i o h1
  replace h1:tr.get i=some o:=h1
  rw[h i]at h1;exact H.lt i o h1
 .intro i o l b h1
  replace h1:tr.get i=some o:=h1
  rw[h i]at h1;exact H.loc i o l b h1
theorem mX.first{P:Program}{X:Cx}{τ:Sh}{L:List τ.T}{V:Value}(h:mX X τ L V)(n:Nat)(hn:n<=L.length):∃cs,aV (Cs X.w X.out τ) (L.take n) cs/\(Builtin.lenOf V).run P X.w=.ok L.length X.w /\
  (Builtin.firstCells τ.size n V).run P X.w=.ok cs.toArray X.w:=by
 obtain⟨a,cap,rfl,hc,cs,h1,h2⟩:=h;have T:mX X τ (L.take n) (.slice a n cap):=by
  refine⟨a,cap,by grind,by grind,cs.take (n*τ.size),aV.take (fun x c=>Cs.length) n h1,?_⟩;intro q;obtain⟨b,o,c,ty,fr,e,h3,h4⟩:=h2 (by rintro rfl;simp at q)
  grind
 obtain⟨ds,g1,_,g3⟩:=T.run (P:=P);have hl:(L.take n).length=n:=by grind
 refine⟨ds,g1,by simp[Builtin.lenOf],?_⟩;have:=g3 X.w rfl;rw[hl]at this;cases a<;>exact this
def mn{α:Type}(L:List α)(off:Nat)(M:List α):List α:=L.take off++(M++L.drop (off+M.length))
theorem O3{α:Type}{L M:List α}{off:Nat}(h:off+M.length<=L.length):(mn L off M).length=L.length:=by
 unfold mn
 grind
theorem aas{α:Type}(L:List α)(off:Nat):mn L off []=L:=by unfold mn;simp
def Ba(h:Hp):AV->Option (Nat×Nat×Nat)
 |.hd b _=>match h.tr.get b with|some (.arr _ L _)=>some (b,0,L.length)|_=>none
 |.vw b τ off len=>match h.tr.get b with
  |some (.arr τ' _ _)=>match τ.eqv τ' with|true=>some (b,off,len)|false=>none
  |_=>none
 |_=>none
def oB(P:Program)(h:Hp)(ts:Array TypeId)(u x:AV):Option (AV×Hp):=match nth ts.toList 0 with
 |some t=>match P.underlying t with
  |some (.slice elem)=>match cz P elem,Ba h u with
   |some sz,some (b,off,len)=>match h.tr.get b with
    |some (.arr τ L ty)=>match Nat.beq sz τ.size,xK h τ x with
     |true,some M=>match Tr.set FT h.tr b (some (.arr τ (mn L off (M.take len)) ty))with|some tr=>some (.int .i64 (Int.ofNat (M.take len).length),⟨tr,h.next⟩)|none=>none
     |_,_=>none
    |_=>none
   |_,_=>none
  |_=>none
 |none=>none
theorem aaE{X:Cx}(H:ab X){u:AV}{b off len:Nat}{U:Value}{τ:Sh}{L:List τ.T}{ty:TypeId}(e:Ba X.h u=some (b,off,len))(hb:X.h.tr.get b=some (.arr τ L ty))(R:Rel X u U) :
  ∃l a c,X.s b=some l/\U=.slice a len c/\off+len<=L.length/\(0<len->∃x k,l=.at x k/\a=some ⟨x,off*τ.size,none⟩):=by
 unfold Ba at e;split at e<;>try cases e
 .rename_i b' afn;split at e<;>cases e;rename_i afo acV aeP adF;rw[hb]at adF;cases adF;obtain⟨l,h1,_,h2⟩:=R;have h2:=h2 _ (iM hb);cases l with|nil=>exact⟨_,none,0,h1,h2,acv,fun q=>by have hL:L=[]:=H.obj b _ _ hb h1;rw[hL]at q;simp at q⟩|«at» x c=>exact⟨_,some ⟨x,0,none⟩,c,h1,h2,acv,fun _=>⟨x,c,rfl,acv⟩⟩|bX _ _ _=>exact(H.obj b _ _ hb h1:False).elim
 .rename_i b' afn off' len';split at e<;>try cases e
  rename_i afo acV aeP adF;split at e<;>cases e;rename_i he;rw[hb]at adF;cases adF;have:=Sh.eg he;subst this;obtain⟨l,a,c,h1,h2,h3,h4,h5,h6⟩:=R;exact⟨l,a,c,h1,h2,h6 _ (iM hb),h4⟩
theorem Cc{P:Program}{X:Cx}(H:ab X){ts:Array TypeId}{ty:TypeId}{u x v:AV}{h':Hp}(e:oB P X.h ts u x=some (v,h')){U Y:Value}(R:Rel X u U)(RY:Rel X x Y) :
  ∃w' V,(Builtin.copy_ ts ty #[U,Y]).run P X.w=.ok V w'/\ab ⟨X.s,h',w',X.A⟩/\aB X ⟨X.s,h',w',X.A⟩/\Rel ⟨X.s,h',w',X.A⟩ v V:=by
 unfold oB at e;split at e<;>try cases e
 rename_i t htt;split at e<;>try cases e
 rename_i elem hu;split at e<;>try cases e
 rename_i sz b off len hsz hd;split at e<;>try cases e
 rename_i τ L aeP hb;split at e<;>try cases e
 rename_i M hz hM;split at e<;>cases e;rename_i tr ht;have hz:=aW hz;subst hz;rw[bW]at htt;have htt:ts[0]?=some t:=by simpa using htt
 have hg:=Tr.bE FT X.h.tr b _ tr ht;obtain⟨l,a,c,h1,rfl,h3,h4⟩:=aaE H hd hb R;have S:=Pe H hM RY;obtain⟨cs,f1,f2,f3⟩:=S.first (P:=P) (Nat.min M.length len) (Nat.min_le_left _ _);have htake:M.take (Nat.min M.length len)=M.take len:=by rw[show Nat.min M.length len=min len M.length from Nat.min_comm _ _,<-List.take_eq_take_min]
 rw[htake]at f1;have hlen:(M.take len).length=Nat.min M.length len:=by rw[ep];exact Nat.min_comm _ _
 have hfl:=aV.length (fun x c=>Cs.length) f1;have hmn:Nat.min M.length len<=len:=Nat.min_le_right _ _;have head:∀(w':World) (q:(match a with|some a=>storeCells a cs|none=>pure ()).run P X.w=.ok () w'),(Builtin.copy_ ts ty #[.slice a len c,Y]).run P X.w=.ok (.int .i64 (Int.ofNat (M.take len).length)) w':=by intro w' q;have hr:=run_underlying hu X.w;simp only[Builtin.copy_,htt,pu,pm,rx,Sem.run_bind,hr,Result.andThen_ok,f2,run_sizeOf hsz,f3];rw[hlen];cases a with|none=>simp only[Sem.run_pure,ST,acr]at q;subst q;simp[goInt]|some a=>simp only[]at q;simp[q,goInt]
 by_cases hn:Nat.min M.length len=0
 .have hnil:M.take len=[]:=ro (by rw[hlen,hn]);have hcs:cs=[]:=by rw[hnil]at f1;exact f1
  subst hcs;rw[hnil]at hg;obtain⟨E,H'⟩:=H.VY (tr:=tr) (by
   intro i;rw[hg i];by_cases q:i=b
   .subst q;rw[ut rfl,aas,hb]
   .rw[qr q])
  exact⟨X.w,_,head X.w (by cases a<;>simp[storeCells]),H',E,rfl⟩
 .obtain⟨afj,k,rfl,rfl⟩:=h4 acs;obtain⟨ds,tail,q1,q2,q3,q4⟩:=H.obj b _ _ hb h1;have hds:=aV.length (fun x c=>Cs.length) q2;have hfit:off*τ.size+cs.length<=ds.length:=by rw[hfl,hlen,hds,<-Ne];exact OF _ acs
  obtain⟨e',he',hrun⟩:=jj (P:=P) (off:=off*τ.size) cs 0 X.w _ q1 (by simp;omega) (fun V hV=>aV.one f1 V hV);have hlist:e'=((ds.take (off*τ.size)++(cs++ds.drop (off*τ.size+cs.length)))++tail).toArray:=by grind
  subst hlist;have hrow:∀n,(aI.arr τ (mn L off (M.take len)) aeP).row=some n->(aI.arr τ L aeP).row=some n:=by intro n q;have hc:(mn L off (M.take len)).length=L.length:=O3 (by rw[hlen];omega);simp only[aI.row,hc]at q |-;exact q
  have E:=aB.put (ob:=.cells ((ds.take (off*τ.size)++(cs++ds.drop (off*τ.size+cs.length)))++tail).toArray aeP (0,0)) H hb h1 hrow ht;refine⟨_,_,head _ hrun,ab.put H hb h1 hrow ht ?_,E,rfl⟩;refine⟨ds.take (off*τ.size)++(cs++ds.drop (off*τ.size+cs.length)),tail,?_,?_,?_,?_⟩
  .show(bU X.w afj _).heap[afj]?=_;rw[dK,ut ⟨rfl,gW q1⟩]
  .have s1:aV (Cs X.w X.out τ) (mn L off (M.take len)) (ds.take (off*τ.size)++(cs++ds.drop (off*τ.size+cs.length))):=by unfold mn;refine(aV.take (fun x c=>Cs.length) off q2).append (f1.append ?_);rw[hfl,<-Ne];exact aV.drop (fun x c=>Cs.length) (off+(M.take len).length) q2
   exact s1.mono (fun x c q=>q.aH E.keeps)
  .simp only[aP,ep,abt];omega
  .rw[O3 (by rw[hlen];omega)];exact q4
def EV(op:UnOp)(u:AV):Option AV:=match op,u with|.neg,.int k n=>some (.int k (k.wrap (0-n)))|.not,.bool b=>some (.bool (!b))|_,_=>none
theorem SU{P:Program}{op:UnOp}{u v:AV}(e:EV op u=some v){X:Cx}{U:Value}(R:Rel X u U)(w:World):∃V,(Op.unary op U).run P w=.ok V w/\Rel X v V:=by
 unfold EV at e;split at e<;>cases e
 .rw[show U=_ from R];exact⟨_,by simp[Op.unary,Op.intArith],rfl⟩
 .rw[show U=_ from R];exact⟨_,by simp[Op.unary],rfl⟩
def Ct(P:Program)(src dst:TypeId)(u:AV):Option AV:=match P.underlying src,P.underlying dst with
 |some _,some (.int k)=>match u with|.int _ n=>some (.int k (k.wrap n))|_=>none
 |some .string,some .string=>match u with|.str s=>some (.str s)|_=>none
 |_,_=>none
theorem Xu{P:Program}{src dst:TypeId}{u v:AV}(e:Ct P src dst u=some v){X:Cx}{U:Value}(R:Rel X u U)(w:World):∃V,(convert src dst U).run P w=.ok V w/\Rel X v V:=by
 unfold Ct at e;split at e<;>try cases e
 .rename_i d k hs hd;split at e<;>cases e;rename_i k' n;rw[show U=_ from R];exact⟨_,by cases d<;>simp[convert,run_underlying hs,run_underlying hd,Conv.intToInt],rfl⟩
 .rename_i hs hd;split at e<;>cases e;rw[show U=_ from R];exact⟨_,by simp[convert,run_underlying hs,run_underlying hd],rfl⟩
def Cz(s:ByteArray)(n:Nat):Int:=match s[n]? with|some b=>(b.toNat:Int)|none=>0
def BV(P:Program)(t:TypeId)(u i:AV):Option (Bool×AV):=match P.underlying t with
 |some .string=>match u,i with|.str s,.int _ n=>some (al n s.size,.int .u8 (Cz s n.toNat))|_,_=>none
 |_=>none
theorem WZ{P:Program}{t:TypeId}{u i v:AV}{g:Bool}(e:BV P t u i=some (g,v))(hg:g=true){X:Cx}{U I:Value}(R:Rel X u U)(RI:Rel X i I)(w:World) :
  ∃V,(Instr.index t U I).run P w=.ok V w/\Rel X v V:=by
 subst hg;unfold BV at e;split at e<;>try cases e
 rename_i hu;split at e<;>try cases e
 rename_i s k n;simp only[bf,ww]at e;obtain⟨aR,rfl⟩:=e;obtain⟨m,rfl,hm⟩:=pK aR;rw[show U=_ from R,show I=_ from RI];refine⟨.int .u8 (Cz s m),?_,rfl⟩;have hb:s[m]?=some s[m]:=by simp[hm]
 simp[Instr.index,asIntOf,run_underlying hu,Cz,hb,hm]
theorem Mv{P:Program}{X:Cx}{k:IntKind}{w:World}:∀{l:List AV}{cs:kw}{a r:Int},sD k a l=some r->bc X l cs->(cs.foldlM Builtin.max2 (.int k a)).run P w=.ok (.int k r) w
 |[],_,a,r,e,R=>by simp only[sD,bf]at e;subst e;rw[show _=[]from R];simp|v::l,_,a,r,e,⟨u,t,rfl,h1,h2⟩=>by
  simp only[sD]at e;split at e<;>try cases e
  rename_i k' b;rw[show u=_ from h1,List.foldlM_cons];have:=Mv (P:=P) (w:=w) e h2;simp only[Builtin.max2,Sem.run_bind,Sem.run_pure,Result.andThen_ok];rw[<-this];congr 2;unfold j9
  grind
theorem Mu{P:Program}{X:Cx}{k:IntKind}{w:World}:∀{l:List AV}{cs:kw}{a r:Int},sE k a l=some r->bc X l cs->(cs.foldlM Builtin.min2 (.int k a)).run P w=.ok (.int k r) w
 |[],_,a,r,e,R=>by simp only[sE,bf]at e;subst e;rw[show _=[]from R];simp|v::l,_,a,r,e,⟨u,t,rfl,h1,h2⟩=>by
  simp only[sE]at e;split at e<;>try cases e
  rename_i k' b;rw[show u=_ from h1,List.foldlM_cons];have:=Mu (P:=P) (w:=w) e h2;simp only[Builtin.min2,Sem.run_bind,Sem.run_pure,Result.andThen_ok];rw[<-this];congr 2;unfold j9
  grind
def AR(P:Program)(ts:Array TypeId):Bool:=match nth ts.toList 0 with
 |some t=>match P.underlying t with|some (.map _ _)=>true|_=>false
 |none=>false
def ve(h:Hp)(u:AV):Option AV:=match u with
 |.mp b=>match h.tr.get b with|some (.map κ σ M)=>some (.int .i64 (Int.ofNat M.length))|_=>none
 |_=>none
theorem Sa{P:Program}{ts:Array TypeId}{u v:AV}{X:Cx}(H:ab X)(hm:AR P ts=true)(e:ve X.h u=some v){U:Value}(R:Rel X u U)(ty:TypeId) :
  ∃V,(Builtin.len_ ts ty #[U]).run P X.w=.ok V X.w/\Rel X v V:=by
 unfold AR at hm;split at hm<;>try cases hm
 rename_i t ht;have ht:ts[0]?=some t:=by rw[bW]at ht;simpa using ht
 split at hm<;>try cases hm
 rename_i hu;unfold ve at e;split at e<;>try cases e
 rename_i b;split at e<;>try cases e
 rename_i κ σ M hb;obtain⟨x,c,hs,rfl⟩:=R;obtain⟨x',c',es,clk,e1,e2,e3⟩:=H.obj b _ _ hb hs;cases e1;have h0:(getObj x).run P X.w=.ok (.map es clk) X.w:=Go.MapKept.run_getObj_map e2;obtain⟨N,n1,n2,_⟩:=e3;have hl:es.size=List.length M:=by rw[<-n1.length_eq,<-n2.len];simp
 refine⟨.int .i64 (Int.ofNat M.length),?_,rfl⟩;simp[Builtin.len_,ht,run_underlying hu,h0,goInt,hl]
def lJ(P:Program)(h:Hp)(b:Builtin)(ts:Array TypeId)(vs:List AV):Option AV:=match b with
 |.len=>match vs with
  |[u]=>match AR P ts with|true=>ve h u|false=>pA P h ts u
  |_=>none
 |.max=>match vs with
  |.int k a::l=>match sD k a l with|some r=>some (.int k r)|none=>none
  |_=>none
 |.min=>match vs with
  |.int k a::l=>match sE k a l with|some r=>some (.int k r)|none=>none
  |_=>none
 |_=>none
theorem GH{P:Program}{X:Cx}(H:ab X){b:Builtin}{ts:Array TypeId}{ty:TypeId}{cs:Array Bool}{vs:List AV}{Vs:kw}{v:AV}(e:lJ P X.h b ts vs=some v)(R:bc X vs Vs) :
  ∃V,(builtin b ts ty cs Vs.toArray).run P X.w=.ok (.value V) X.w/\Rel X v V:=by
 unfold lJ at e;split at e<;>try cases e
 .split at e<;>try cases e
  obtain⟨U,t,rfl,h1,h2⟩:=R;have:t=[]:=h2;subst this;split at e
  .rename_i hm;obtain⟨V,q1,q2⟩:=Sa H hm e h1 ty;exact⟨V,by simp only[builtin,Sem.run_bind,q1,Result.andThen_ok,Sem.run_pure],q2⟩
  .obtain⟨V,q1,q2⟩:=Ya H e h1 ty X.w;exact⟨V,by simp only[builtin,Sem.run_bind,q1,Result.andThen_ok,Sem.run_pure],q2⟩
 .split at e<;>try cases e
  rename_i k a l;split at e<;>cases e;rename_i r hr;obtain⟨U,t,rfl,h1,h2⟩:=R;rw[show U=_ from h1];exact⟨_,by simp only[builtin,Builtin.max_,Sem.run_bind,Mv hr h2,Result.andThen_ok,Sem.run_pure],rfl⟩
 .split at e<;>try cases e
  rename_i k a l;split at e<;>cases e;rename_i r hr;obtain⟨U,t,rfl,h1,h2⟩:=R;rw[show U=_ from h1];exact⟨_,by simp only[builtin,Builtin.min_,Sem.run_bind,Mu hr h2,Result.andThen_ok,Sem.run_pure],rfl⟩
theorem o0{X:Cx}{T:Tr AV}{a:Act}{o:Op}{l:Array Operand}{vs:List AV}(h:di T l.toList=some vs)(hO:fA X T a o)(hm:∀x∈l.toList,x∈o.operands):bc X vs (l.map a.eval).toList:=by have:=LK h (fun x hx=>hO x (hm x hx));simpa using this
def Cq(c:Bool)(a b:Option AV):Option AV:=match a,b with
 |some (.bool x),some (.bool y)=>some (.bool (bw c x y))|some (.int k x),some (.int k' y)=>match jc k k' with|true=>some (.int k (j9 c x y))|false=>none
 |_,_=>match c with|true=>a|false=>b
theorem Xs{X:Cx}{c:Bool}{a b:Option AV}{v:AV}(e:Cq c a b=some v){U V:Value}(h1:∀u,a=some u->Rel X u U)(h2:∀u,b=some u->Rel X u V):Rel X v (if c=true then U else V):=by
 unfold Cq at e;split at e
 .cases e;have q1:U=_:=h1 _ rfl;have q2:V=_:=h2 _ rfl;cases c<;>simp[q1,q2,bw,Rel]
 .split at e<;>cases e;rename_i k x k' y hk;have:=kf hk;subst this;have q1:U=_:=h1 _ rfl;have q2:V=_:=h2 _ rfl;cases c<;>simp[q1,q2,j9,Rel]
 grind
def Ki:AV->Bool
 |.ptr _ _|.cY _ _ _ _|.eC _ _ _|.func _ _ _|.rp _ _|.ra _ _=>true|_=>false
def iD(P:Program)(T:Tr AV)(h:Hp)(o:Oper):Option (Bool×AV):=match o.op with
 |.move x=>match aK T x with|some v=>some (true,v)|none=>none
 |.pick c a b=>match aK T c with
  |some (.bool c)=>match Cq c (aK T a) (aK T b)with|some v=>some (true,v)|none=>none
  |_=>none
 |.nilCheck x=>match aK T x with
  |some v=>match Ki v with|true=>some (true,v)|false=>none
  |none=>none
 |.binOp op t x y _=>match aK T x,aK T y with
  |some u,some v=>match og P op t u v with|some r=>some r|none=>EU P op t u v
  |_,_=>none
 |.unOp op _ x=>match aK T x with
  |some u=>match EV op u with|some v=>some (true,v)|none=>none
  |none=>none
 |.convert src dst x=>match aK T x with
  |some u=>match Ct P src dst u with|some v=>some (true,v)|none=>none
  |none=>none
 |.extract t i=>match aK T t with
  |some (.bD l)=>match nth l i with|some v=>some (true,v)|none=>none
  |_=>none
 |.field t x f=>match aK T x with
  |some u=>match pf P t u f with|some v=>some (true,v)|none=>none
  |none=>none
 |.fieldAddr t x f=>match aK T x with
  |some u=>match oV P t u f with|some v=>some (true,v)|none=>none
  |none=>none
 |.indexAddr t x i=>match aK T x,aK T i with|some u,some i=>lI P h t u i|_,_=>none
 |.index t x i=>match aK T x,aK T i with|some u,some i=>BV P t u i|_,_=>none
 |.makeFunc fn first cap=>match fn with
  |.func f=>match di T first.toList,di T cap.toList with|some x,some y=>some (true,.func f x y)|_,_=>none
  |_=>none
 |.build t parts=>match fL T parts.toList with
  |some ps=>match oZ P t ps with|some v=>some (true,v)|none=>none
  |none=>none
 |.load t x=>match aK T x with|some u=>jP P h t u|none=>none
 |.slice t x lo hi mx=>match mx,aK T x with|none,some u=>lN P h T t u lo hi|_,_=>none
 |.lookup t x i ck=>match aK T x,aK T i with
  |some u,some i=>match qJ P h t u i ck with|some v=>some (true,v)|none=>none
  |_,_=>none
 |.call c=>match c.callee with
  |.builtin b=>match di T c.args.toList with
   |some vs=>match lJ P h b c.argTypes vs with|some v=>some (true,v)|none=>none
   |none=>none
  |_=>none
 |_=>none
theorem oP{P:Program}{T:Tr AV}{o:Oper}{g:Bool}{v:AV}{X:Cx}(H:ab X)(e:iD P T X.h o=some (g,v))(hg:g=true){a:Act}(hO:fA X T a o.op) :
  ∃V,(execOp a.eval o).run P X.w=.ok (.value V) X.w/\Rel X v V:=by
 subst hg;unfold iD at e;split at e<;>rename_i ho<;>try (rw[ho]at hO)
 .rename_i x;split at e<;>cases e;rename_i hx;exact⟨a.eval x,by simp only[execOp,ho,Sem.run_pure],hO x (by simp[Op.operands]) _ hx⟩
 .rename_i c x y;split at e<;>try cases e
  rename_i cb hc;split at e<;>cases e;rename_i hp;have h1:a.eval c=.bool cb:=hO c (by simp[Op.operands]) _ hc;have:=Xs hp (fun u hu=>hO x (by simp[Op.operands]) u hu) (fun u hu=>hO y (by simp[Op.operands]) u hu);exact⟨_,by simp only[execOp,ho,h1,asBool,Sem.run_bind,Sem.run_pure,Result.andThen_ok],this⟩
 .rename_i x;split at e<;>try cases e
  rename_i v' hx;split at e<;>cases e;rename_i bM;have h1:=hO x (by simp[Op.operands]) _ hx;refine⟨a.eval x,?_,h1⟩;unfold Ki at bM;split at bM<;>try cases bM
  .obtain⟨afk,adq,_,q⟩:=h1;simp only[execOp,ho,q,Sem.run_pure]
  .obtain⟨afk,adq,_,q,_⟩:=h1;simp only[execOp,ho,q,Sem.run_pure]
  .obtain⟨afk,adq,adr,q,_⟩:=h1;simp only[execOp,ho,q,Sem.run_pure]
  .obtain⟨xs,cs,q,_⟩:=h1;simp only[execOp,ho,q,Sem.run_pure]
  .obtain⟨afk,adq,aer,aeB,_,_,q⟩:=h1;simp only[execOp,ho,q,Sem.run_pure]
  .obtain⟨afk,adq,aer,_,_,q⟩:=h1;simp only[execOp,ho,q,Sem.run_pure]
 .rename_i op t x y yt;split at e<;>try cases e
  rename_i u u' hx hy;have main:∃V,(do eqGuard op t x y (a.eval x) (a.eval y);binOp op t (a.eval x) (a.eval y)).run P X.w=.ok V X.w/\Rel X v V:=by
   split at e
   .rename_i r hr;cases e;exact Hq hr rfl (hO x (by simp[Op.operands]) _ hx) (hO y (by simp[Op.operands]) _ hy) x y X.w
   .exact SR e (hO x (by simp[Op.operands]) _ hx) (hO y (by simp[Op.operands]) _ hy) x y X.w
  obtain⟨V,q1,q2⟩:=main;refine⟨V,?_,q2⟩;simp only[execOp,ho];rw[Sem.run_bind,q1];rfl
 .rename_i op t x;split at e<;>try cases e
  rename_i u hx;split at e<;>cases e;rename_i hv;obtain⟨V,q1,q2⟩:=SU (P:=P) hv (hO x (by simp[Op.operands]) _ hx) X.w;exact⟨V,by simp only[execOp,ho,Sem.run_bind,q1,Result.andThen_ok,Sem.run_pure],q2⟩
 .rename_i src dst x;split at e<;>try cases e
  rename_i u hx;split at e<;>cases e;rename_i hv;obtain⟨V,q1,q2⟩:=Xu hv (hO x (by simp[Op.operands]) _ hx) X.w;exact⟨V,by simp only[execOp,ho,Sem.run_bind,q1,Result.andThen_ok,Sem.run_pure],q2⟩
 .rename_i t i;split at e<;>try cases e
  rename_i l hx;split at e<;>cases e;rename_i hv;rw[bW]at hv;obtain⟨cs,q,R⟩:=hO t (by simp[Op.operands]) _ hx;obtain⟨V,q1,q2⟩:=R.get hv;exact⟨V,by simp[execOp,ho,q,Instr.extract,q1],q2⟩
 .rename_i t x f;split at e<;>try cases e
  rename_i u hx;split at e<;>cases e;rename_i hv;obtain⟨V,q1,q2⟩:=GV hv (hO x (by simp[Op.operands]) _ hx) X.w;exact⟨V,by simp only[execOp,ho,Sem.run_bind,q1,Result.andThen_ok,Sem.run_pure],q2⟩
 .rename_i t x f;split at e<;>try cases e
  rename_i u hx;split at e<;>cases e;rename_i hv;obtain⟨V,q1,q2⟩:=GG hv (hO x (by simp[Op.operands]) _ hx) X.w;exact⟨V,by simp only[execOp,ho,Sem.run_bind,q1,Result.andThen_ok,Sem.run_pure],q2⟩
 .rename_i t x i;split at e<;>try cases e
  rename_i u i' hx hi;obtain⟨V,q1,q2⟩:=GF H e rfl (hO x (by simp[Op.operands]) _ hx) (hO i (by simp[Op.operands]) _ hi) X.w;exact⟨V,by simp only[execOp,ho,Sem.run_bind,q1,Result.andThen_ok,Sem.run_pure],q2⟩
 .rename_i t x i;split at e<;>try cases e
  rename_i u i' hx hi;obtain⟨V,q1,q2⟩:=WZ e rfl (hO x (by simp[Op.operands]) _ hx) (hO i (by simp[Op.operands]) _ hi) X.w;exact⟨V,by simp only[execOp,ho,Sem.run_bind,q1,Result.andThen_ok,Sem.run_pure],q2⟩
 .rename_i fn first cap
  split at e<;>try cases e
  rename_i f;split at e<;>cases e;rename_i x y hx hy;have h1:=o0 hx hO (by intro z hz;simp only[Op.operands];exact abQ.2 (.inl (aba.1 hz)));have h2:=o0 hy hO (by intro z hz;simp only[Op.operands];exact abQ.2 (.inr (aba.1 hz)));exact⟨.func (.func f) (first.map a.eval) (cap.map a.eval),by simp only[execOp,ho,Instr.makeFunc,Sem.run_bind,Sem.run_pure,Result.andThen_ok],_,_,by rw[aaR,aaR],h1,h2⟩
 .rename_i t parts;split at e<;>try cases e
  rename_i ps hps;split at e<;>cases e;rename_i hv;have hP:=GS hps (fun x hx=>hO x (by simp only[Op.operands,abC];exact hx));obtain⟨V,q1,q2⟩:=GW hv X.w (parts.map fun x=>(x.1,a.eval x.2)) (by simpa using hP);exact⟨V,by simp only[execOp,ho,Sem.run_bind,q1,Result.andThen_ok,Sem.run_pure],q2⟩
 .rename_i t x;split at e<;>try cases e
  rename_i u hx;obtain⟨V,q1,q2⟩:=tw H e rfl (hO x (by simp[Op.operands]) _ hx);exact⟨V,by simp only[execOp,ho,Sem.run_bind,q1,Result.andThen_ok,Sem.run_pure],q2⟩
 .rename_i t x lo hi mx;split at e<;>try cases e
  rename_i u hx;obtain⟨V,q1,q2⟩:=GR H e rfl (hO x (by simp[Op.operands]) _ hx) (by intro y hy;apply hO y;simp only[Op.operands];rcases hy with rfl|rfl<;>simp) X.w (a:=a);exact⟨V,by simp only[execOp,ho,abJ,Sem.run_bind,q1,Result.andThen_ok,Sem.run_pure],q2⟩
 .rename_i t x i ck;split at e<;>try cases e
  rename_i u i' hx hi;split at e<;>cases e;rename_i hv;obtain⟨V,q1,q2⟩:=Xt H hv (hO x (by simp[Op.operands]) _ hx) (hO i (by simp[Op.operands]) _ hi);exact⟨V,by simp only[execOp,ho,Sem.run_bind,q1,Result.andThen_ok,Sem.run_pure],q2⟩
 .rename_i c;split at e<;>try cases e
  rename_i b hb;split at e<;>try cases e
  rename_i vs hvs;split at e<;>cases e;rename_i hv;have h1:=o0 hvs hO (by intro z hz;simp only[Op.operands,Call.operands,hb];simpa using hz);obtain⟨V,q1,q2⟩:=GH H (ty:=o.type) (cs:=c.args.map fun|.const _=>true|_=>false) hv h1;exact⟨V,by rw[kH ho hb];rw[aaR]at q1;exact q1,q2⟩
 .cases e
def nv(P:Program)(sh:TypeId->Option Sh)(T:Tr AV)(h:Hp)(o:Oper):Option (Bool×AV×Hp):=match o.op with
 |.assign x=>match aK T x with|some v=>some (true,v,h)|none=>none
 |.store t x y=>match aK T x,aK T y,cz P t with
  |some u,some v,some n=>match Nat.beq (bV v).length n with
   |true=>match u with
    |.ptr b off=>match mM h b off (bV v)with|some h'=>some (true,.bD [],h')|none=>none
    |.cY b i z o=>match Bc h b i z o (bV v)with|some x=>some (x.1,.bD [],x.2)|none=>none
    |_=>none
   |false=>none
  |_,_,_=>none
 |.call c=>match c.callee with
  |.builtin b=>match b with
   |.append=>match di T c.args.toList with
    |some [u,x]=>match Hr P sh h c.argTypes u x with|some r=>some r|none=>Cu P h c.argTypes u x
    |_=>none
   |.copy=>match di T c.args.toList with
    |some [u,x]=>match oB P h c.argTypes u x with|some y=>some (true,y.1,y.2)|none=>none
    |_=>none
   |.delete=>match di T c.args.toList with
    |some [u,i]=>match Bv P h c.argTypes u i with|some h'=>some (true,.bD [],h')|none=>none
    |_=>none
   |_=>none
  |_=>none
 |.mapUpdate t m i y=>match aK T m,aK T i,aK T y with
  |some u,some i,some v=>match Bu P h t u i v with|some h'=>some (true,.bD [],h')|none=>none
  |_,_,_=>none
 |_=>none
def qX(v:Value)(n:Next):Prop:=n=.value v\/(n=.skip/\v=undef)
theorem zy{P:Program}{sh:TypeId->Option Sh}{T:Tr AV}{o:Oper}{g:Bool}{v:AV}{h':Hp}{X:Cx}(H:ab X)(e:nv P sh T X.h o=some (g,v,h'))(hg:g=true){a:Act}(hO:fA X T a o.op) :
  ∃X' n V,(execOp a.eval o).run P X.w=.ok n X'.w/\qX V n/\X'.h=h'/\ab X'/\aB X X'/\Rel X' v V:=by
 subst hg;unfold nv at e;split at e<;>try (rename_i ho)
 .rename_i x;rw[ho]at hO;split at e<;>cases e;rename_i hx;exact⟨X,_,_,by simp only[execOp,ho,Sem.run_pure],.inl rfl,rfl,H,aB.refl X,hO x (by simp[Op.operands]) _ hx⟩
 .rename_i t x y;rw[ho]at hO;split at e<;>try cases e
  rename_i u u' n hx hy hn;split at e<;>try cases e
  rename_i hl;have hl:=aW hl;have h1:=hO x (by simp[Op.operands]) _ hx;have h2:=ju (hO y (by simp[Op.operands]) _ hy);have hsz:(a.eval y).cells.size=n:=by rw[<-NE,h2.length,hl]
  split at e<;>try cases e
  .rename_i b off;split at e<;>cases e;rename_i hw;obtain⟨afk,adq,g1,g2⟩:=h1;obtain⟨w',r1,r2,r3⟩:=tq (P:=P) H hw g1 h2;refine⟨_,.skip,undef,?_,.inr ⟨rfl,rfl⟩,rfl,r2,r3,⟨[],rfl,rfl⟩⟩;simp only[execOp,ho,Instr.storeAt,g2,Instr.sureAddr,Sem.run_bind,Sem.run_pure,Result.andThen_ok,storeVar,run_sizeOf hn];rw[qr (by simp[hsz])];simp only[Sem.run_bind,Sem.run_pure,Result.andThen_ok,r1]
  .rename_i b i z o';split at e<;>try cases e
   rename_i xx hw;simp only[bf,ww]at e;obtain⟨hgg,rfl,rfl⟩:=e;obtain⟨gx,hx'⟩:=xx;simp only at hgg;obtain⟨afk,adq,g1,g2,g3⟩:=h1;obtain⟨w',r1,r2,r3⟩:=aaD (P:=P) H hw hgg g1 g3 h2;refine⟨_,.skip,undef,?_,.inr ⟨rfl,rfl⟩,rfl,r2,r3,⟨[],rfl,rfl⟩⟩;simp only[execOp,ho,Instr.storeAt,g2,Instr.sureAddr,Sem.run_bind,Sem.run_pure,Result.andThen_ok,storeVar,run_sizeOf hn];rw[qr (by simp[hsz])];simp only[Sem.run_bind,Sem.run_pure,Result.andThen_ok,r1]
 .rename_i c;split at e<;>try cases e
  rename_i b hb;split at e<;>try cases e
  .split at e<;>try cases e
   rename_i u x hv;rw[ho]at hO;have h1:=o0 hv hO (by intro z hz;simp only[Op.operands,Call.operands,hb];simpa using hz);obtain⟨U,t,k1,k2,Y,t',k3,k4,k5⟩:=h1;have:t'=[]:=k5;subst this;subst k3;have main:∃X' V,(Builtin.append_ c.argTypes o.type #[U,Y]).run P X.w=.ok V X'.w/\X'.h=h'/\X'.A=X.A/\ab X'/\aB X X'/\Rel X' v V:=by
    split at e
    .rename_i hr;cases e;exact Wm (ty:=o.type) H hr rfl k2 k4
    .exact Xv H e rfl k2 k4
   obtain⟨X',V,q1,q2,q3,q4,q5,q6⟩:=main;refine⟨X',.value V,V,?_,.inl rfl,q2,q4,q5,q6⟩;rw[kH ho hb,show c.args.map a.eval=#[U,Y]from IS.1 k1];simp only[builtin,Sem.run_bind,q1,Result.andThen_ok,Sem.run_pure]
  .split at e<;>try cases e
   rename_i u x hv;split at e<;>try cases e
   rename_i y hd;rw[ho]at hO;have h1:=o0 hv hO (by intro z hz;simp only[Op.operands,Call.operands,hb];simpa using hz);obtain⟨U,t,k1,k2,Y,t',k3,k4,k5⟩:=h1;have:t'=[]:=k5;subst this;subst k3;obtain⟨w',V,q1,q2,q3,q4⟩:=Cc (P:=P) (ty:=o.type) H hd k2 k4;refine⟨_,.value V,V,?_,.inl rfl,rfl,q2,q3,q4⟩;rw[kH ho hb,show c.args.map a.eval=#[U,Y]from IS.1 k1];simp only[builtin,Sem.run_bind,q1,Result.andThen_ok,Sem.run_pure]
  .split at e<;>try cases e
   rename_i u x hv;split at e<;>cases e;rename_i hd;rw[ho]at hO;have h1:=o0 hv hO (by intro z hz;simp only[Op.operands,Call.operands,hb];simpa using hz);obtain⟨U,t,k1,k2,Y,t',k3,k4,k5⟩:=h1;have:t'=[]:=k5;subst this;subst k3;obtain⟨w',q1,q2,q3⟩:=WC (P:=P) (ty:=o.type) H hd k2 k4;refine⟨_,.value (.tuple #[]),.tuple #[],?_,.inl rfl,rfl,q2,q3,⟨[],rfl,rfl⟩⟩;rw[kH ho hb,show c.args.map a.eval=#[U,Y]from IS.1 k1];simp only[builtin,Sem.run_bind,q1,Result.andThen_ok,Sem.run_pure]
 .rename_i t m i y;rw[ho]at hO;split at e<;>try cases e
  rename_i u i' v' hm hi hy;split at e<;>cases e;rename_i hd;obtain⟨w',q1,q2,q3⟩:=WB (P:=P) H hd (hO m (by simp[Op.operands]) _ hm) (hO i (by simp[Op.operands]) _ hi) (hO y (by simp[Op.operands]) _ hy);refine⟨_,.skip,undef,?_,.inr ⟨rfl,rfl⟩,rfl,q2,q3,⟨[],rfl,rfl⟩⟩;simp only[execOp,ho,Sem.run_bind,q1,Result.andThen_ok,Sem.run_pure]
 .cases e
def mP(T:Tr AV)(o:Oper):Option (FuncId×List AV):=match o.op with
 |.call c=>match c.callee with
  |.value f=>match aK T f,di T c.args.toList with|some (.func g a cap),some vs=>some (g,a++(vs++cap))|_,_=>none
  |_=>none
 |_=>none
theorem ze{P:Program}{T:Tr AV}{o:Oper}{f:FuncId}{vs:List AV}{X:Cx}(e:mP T o=some (f,vs)){a:Act}(hO:fA X T a o.op){fn:Func}(hf:P.funcs[f]?=some fn)
  (hn:(fn.name == "runtime.NumGoroutine")=false) {c:Code}(hb:fn.body=some c) (w:World) :
  ∃Vs,(execOp a.eval o).run P w=.ok (.enter f (List.toArray Vs)) w/\bc X vs Vs:=by
 unfold mP at e;split at e<;>try cases e
 rename_i cl ho;rw[ho]at hO;split at e<;>try cases e
 rename_i fo hc;split at e<;>try cases e
 rename_i fa cap xs hxs hfo;obtain⟨As,Cs,h1,h1a,h1c⟩:=hO fo (by simp[Op.operands,Call.operands,hc]) _ hfo;have h2:=o0 hxs hO (by intro z hz;simp only[Op.operands,Call.operands,hc];grind);refine⟨As++((cl.args.map a.eval).toList++Cs),?_,h1a.append (h2.append h1c)⟩;simp only[execOp,ho,resolve,hc,h1,Deferred.ofValue,Sem.run_bind,Sem.run_pure,Result.andThen_ok,invoke,callFunc,run_program,hf,hn,hb];simp
