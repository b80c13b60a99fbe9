import Derived.Test.YtmkbdfidnfmgmaaGreatKMb
import Derived.MapKept
set_option linter.all false
section
namespace Go.Proofs.YtmkbdfidnfmgmaaGreat.V
open Go Go.RowKit Go.MapKept
open Go.Proofs.YtmkbdfidnfmgmaaGreat.Ev (Tr Tr.d6 nth fc dp jM mz)
def yn:AV->Bool|.agg _=>true|_=>false
variable{X:Cx}{V:Value}
theorem adD{v:AV}(R:Rel X v V):yo V=yn v:=by
 cases v with
 |agg l=>obtain⟨cs,rfl,_⟩:=R;rfl
 |dW l=>obtain⟨cs,rfl,_⟩:=R;rfl
 |ki=>have:Ev.nf V=true:=R;cases V<;>first|rfl|cases this
 |bool b=>rw[show V=_ from R];rfl|int k n=>rw[show V=_ from R];rfl|str s=>rw[show V=_ from R];rfl|fi=>rw[show V=_ from R];rfl|aR=>rw[R];rfl|gj=>rw[R];rfl|fS=>rw[R];rfl|gN=>rw[R];rfl|ptr b off=>obtain⟨x,c,h1,rfl⟩:=R;rfl
 |fy b i z o=>obtain⟨x,c,h1,rfl,_⟩:=R;rfl
 |gX σ d o=>obtain⟨b,off,cs,rfl,_⟩:=R;rfl
 |hd b τ=>obtain⟨l,h1,hc,_⟩:=R;cases V<;>first|rfl|cases hc
 |vw b τ off len=>obtain⟨l,a,c,h1,rfl,_⟩:=R;rfl
 |fz τ L=>obtain⟨a,len,cap,e,_⟩:=R;simp at e;rw[e];rfl
 |func f x c=>obtain⟨xs,cs,rfl,_⟩:=R;rfl
 |ji τ z L=>obtain⟨_,a,l,c,rfl,_⟩:=R;rfl
 |mp b=>obtain⟨x,c,h1,rfl⟩:=R;rfl
 |ik b=>obtain⟨l,h1,rfl⟩:=R;cases l<;>rfl
 |rp b i=>obtain⟨x,c,m,p,h1,h2,rfl⟩:=R;rfl
 |ra b i=>obtain⟨x,c,m,h1,h2,rfl⟩:=R;rfl
def ar3:Bool->List AV->AV
 |false,[v]=>v|_,l=>.agg l
def FO(σ:Sh)(d:σ.T):AV:=ar3 (va σ) (nY σ d)
variable{σ:Sh}{d:σ.T}
theorem JC(h:ic X.w X.out σ d V):Rel X (FO σ d) V:=by
 obtain⟨h1,h2⟩:=h;have hr:=vG h1;have single:∀{u:AV},yo V=false->cE X [u] V.cells.toList->Rel X u V:=by
  intro u hv q;have:V.cells=#[V]:=by cases V<;>first|rfl|cases hv
  obtain⟨v,r,e,q1,q2⟩:=q
  grind
 cases σ with
 |agg l=>cases V with|agg cs=>exact⟨cs.toList,aue,by simpa[Value.cells]using hr⟩|_=>cases h2
 |int k=>exact single h2 hr|bool=>exact single h2 hr|str=>exact single h2 hr|sl s=>exact single h2 hr
def tA(kl:Bool)(h:Hp)(σ:Sh)(v:AV):Option (σ.T×Hp):=match yn v,va σ with
 |true,true|false,false=>match fN kl h σ (jh v)with
  |some (d,l,h)=>match l with|[]=>some (d,h)|_=>none
  |none=>none
 |_,_=>none
theorem PB{kl:Bool}(H:bn X){v:AV}{h':Hp}(e:tA kl X.h σ v=some (d,h'))(R:Rel X v V) :
  gn X h'/\ic X.w (Cx.out ⟨X.s,h',X.w,X.A⟩) σ d V:=by
 have hag:=adD R;unfold tA at e;have main:yn v=va σ->(match fN kl X.h σ (jh v)with
  |some (d,l,h)=>match l with|[]=>some (d,h)|_=>none
  |none=>none)=some (d,h')->gn X h'/\ic X.w (Cx.out ⟨X.s,h',X.w,X.A⟩) σ d V:=by
  intro ha e;split at e<;>try cases e
  rename_i auX l h₁ hf;split at e<;>cases e;obtain⟨F,c,r,he,h1,h2⟩:=rY H hf (lW R);have:r=[]:=h2;exact⟨F,by grind,by rw[hag,ha]⟩
 grind
def j3(σ:Sh)(M:fb σ)(k:Int):σ.T:=match M with|[]=>σ.zero|p::M=>match decide (p.1=k)with|true=>p.2.1|false=>j3 σ M k
def jH{σ:Sh}(M:fb σ)(k:Int):Bool:=match M with|[]=>false|p::M=>match decide (p.1=k)with|true=>true|false=>jH M k
def fR{σ:Sh}(k:Int)(v:σ.T)(M:fb σ):fb σ:=match M with|[]=>[(k,v,())]|p::M=>match decide (k<p.1)with|true=>(k,v,())::p::M|false=>match decide (p.1=k)with|true=>(k,v,())::M|false=>p::fR k v M
def lP{σ:Sh}(k:Int)(M:fb σ):fb σ:=match M with|[]=>[]|p::M=>match decide (p.1=k)with|true=>M|false=>p::lP k M
variable{M:fb σ}{v:σ.T}{q:Int×σ.T×Unit}{k:Int}
theorem alb(h:q∈fR k v M):q.1=k\/q∈M:=by
 induction M with
 |nil=>simp only[fR,GE]at h;subst h;exact .inl rfl|cons p M ih=>
  unfold fR at h
  grind
theorem Zwx(h:M.Pairwise (fun p q=>p.1<q.1)):(fR k v M).Pairwise (fun p q=>p.1<q.1):=by
 induction M with
 |nil=>simp[fR]|cons p M ih=>
  obtain⟨h1,h2⟩:=asH.1 h;unfold fR;split
  .rename_i hk;refine asH.2 ⟨fun q hq=>?_,h⟩
   grind
  .rename_i hk;have hk:=asM hk;split
   .rename_i he;exact asH.2 ⟨fun q hq=>by grind,h2⟩
   .rename_i he;have he:=asM he;refine asH.2 ⟨fun q hq=>?_,ih h2⟩;rcases alb hq with e|hq
    .omega
    .exact h1 q hq
theorem alc(h:∀p∈M,p.1≠k):(fR k v M).Perm (M++[(k,v,())]):=by
 induction M with
 |nil=>exact .refl _|cons p M ih=>
  unfold fR;split
  .exact(List.perm_append_singleton (k,v,()) (p::M)).symm
  simp_all
variable{u:σ.T}{B:fb σ}
theorem ald(hs:M.Pairwise (fun p q=>p.1<q.1)){A:fb σ}(h:(A++(k,u,())::B).Perm M):(A++(k,v,())::B).Perm (fR k v M):=by
 have hm:(k,u,())∈M:=h.subset aue;obtain⟨C,D,rfl⟩:=atD hm;have hAB:(A++B).Perm (C++D):=by have h1:((k,u,())::(A++B)).Perm ((k,u,())::(C++D)):=List.perm_middle.symm.trans (h.trans List.perm_middle);exact(List.perm_cons _).1 h1
 have hput:fR k v (C++(k,u,())::D)=C++(k,v,())::D:=by
  clear h hm hAB
  induction C with
  |nil=>
   unfold fR
   grind
  |cons p C ih=>obtain⟨h1,h2⟩:=asH.1 hs;have:=h1 (k,u,()) aue;rw[ask,fR,jC (show ¬k<p.1 by omega),jC (show ¬p.1=k by have:p.1<k:=this;omega),ask];rw[ih h2]
 rw[hput];exact List.perm_middle.trans ((hAB.cons _).trans List.perm_middle.symm)
theorem apT(h:∀p∈M,p.1≠k):lP k M=M:=by induction M with|nil=>rfl|cons p M ih=>rw[lP];grind
theorem ak5(h:q∈lP k M):q∈M:=by
 induction M with
 |nil=>exact h|cons p M ih=>
  unfold lP at h
  grind
theorem ao7(h:M.Pairwise (fun p q=>p.1<q.1)):(lP k M).Pairwise (fun p q=>p.1<q.1):=by
 induction M with
 |nil=>exact h|cons p M ih=>
  obtain⟨h1,h2⟩:=asH.1 h;unfold lP;split
  .exact h2
  .exact asH.2 ⟨fun q hq=>h1 q (ak5 hq),ih h2⟩
theorem ak6(hs:M.Pairwise (fun p q=>p.1<q.1)){A:fb σ}(h:(A++(k,u,())::B).Perm M):(A++B).Perm (lP k M):=by
 have hm:(k,u,())∈M:=h.subset aue;obtain⟨C,D,rfl⟩:=atD hm;have hAB :=by have h1 :=List.perm_middle.symm.trans (h.trans List.perm_middle);exact(List.perm_cons _).1 h1
 have hput:lP k (C++(k,u,())::D)=C++D:=by
  clear h hm hAB
  induction C with|nil=>unfold lP;grind|cons p C ih=>obtain⟨h1,h2⟩:=asH.1 hs;have:=h1 (k,u,()) aue;rw[ask,lP,jC auc,ask];rw[ih h2]
 rw[hput];exact hAB
theorem apQ(h:∀p∈M,p.1≠k):j3 σ M k=σ.zero/\jH M k=false:=by induction M with|nil=>exact⟨rfl,rfl⟩|cons p M ih=>rw[j3,jH];grind
theorem ala(hs:M.Pairwise (fun p q=>p.1<q.1))(h:(k,u,())∈M):j3 σ M k=u/\jH M k=true:=by
 induction M with
 |nil=>cases h
 |cons p M ih=>
  obtain⟨h1,h2⟩:=asH.1 hs;rcases Fn.1 h with rfl|h
  .rw[j3,jH,fm rfl];exact⟨rfl,rfl⟩
  .have:=h1 _ h;rw[j3,jH,jC auc];exact ih h2 h
variable{κ:IntKind}{A:Nat->Prop}{w:World}
theorem js.len:∀{es:List MapEntry}{N:fb σ},js w A κ σ es N->es.length=N.length
 |[],N,h=>by rw[h];rfl|e::es,N,h=>by cases N with|nil=>exact h.elim|cons p N=>rw[dG,dG,js.len h.2.2]
theorem js.at_:∀{es:List MapEntry}{N:fb σ}{j:Nat}{e:MapEntry},js w A κ σ es N->es[j]?=some e ->
  ∃P p S,N=P++p::S/\P.length=j/\e.key=.int κ p.1/\ic w A σ p.2.1 e.val/\js w A κ σ (es.eraseIdx j) (P++S) /\
   ∀e' v,e'.key=.int κ p.1->ic w A σ v e'.val->js w A κ σ (es.set j e') (P++(p.1,v,())::S)
 |[],N,j,e,h,q=>by simp at q|x::es,N,j,e,h,q=>by cases N with|nil=>exact h.elim|cons p N=>cases j with|zero=>simp at q;subst q;exact⟨[],p,N,rfl,rfl,h.1,h.2.1,h.2.2,fun e' v h1 h2=>⟨h1,h2,h.2.2⟩⟩|succ j=>obtain⟨P,p',S,rfl,h1,h2,h3,h4,h5⟩:=js.at_ h.2.2 (by simpa using q);exact⟨p::P,p',S,rfl,by simp[h1],h2,h3,⟨h.1,h.2.1,h4⟩,fun e' v g1 g2=>⟨h.1,h.2.1,h5 e' v g1 g2⟩⟩
theorem js.snoc{e:MapEntry}{p:Int×σ.T×Unit}(h1:e.key=.int κ p.1)(h2:ic w A σ p.2.1 e.val):∀{es:List MapEntry}{N:fb σ},js w A κ σ es N->js w A κ σ (es++[e]) (N++[p])
 |[],N,h=>by rw[h];exact⟨h1,h2,rfl⟩|x::es,N,h=>by cases N with|nil=>exact h.elim|cons q N=>exact⟨h.1,h.2.1,js.snoc h1 h2 h.2.2⟩
theorem js.keys:∀{es:List MapEntry}{N:fb σ},js w A κ σ es N->(∀e∈es,∃p∈N,e.key=.int κ p.1)/\∀p∈N,∃e∈es,e.key=.int κ p.1
 |[],N,h=>by rw[h];simp|x::es,N,h=>by
  cases N with
  |nil=>exact h.elim|cons q N=>
   obtain⟨g1,g2⟩:=js.keys h.2.2;refine⟨fun e he=>?_,fun p hp=>?_⟩
   .rcases Fn.1 he with rfl|he
    .exact⟨q,aue,h.1⟩
    grind
   .rcases Fn.1 hp with rfl|hp
    .exact⟨x,aue,h.1⟩
    grind
variable{clk:Nat}{es:Array MapEntry}
theorem jA.isKey(h:jA w A κ σ es clk M):∀x∈es.toList,IsKey (.int κ) x.key:=by obtain⟨N,h1,h2,_⟩:=h;intro x hx;obtain⟨p,_,hp⟩:=h2.keys.1 x hx;rw[hp];rfl
theorem jA.find(h:jA w A κ σ es clk M)(k:Int) :
  (Instr.findNow (.int κ) (.int κ k) es.toList 0=some none/\∀p∈M,p.1≠k)\/∃j e u,Instr.findNow (.int κ) (.int κ k) es.toList 0=some (some (j,e.val))/\es.toList[j]?=some e/\e.key=.int κ k/\(k,u,())∈M/\ic w A σ u e.val:=by
 have hk:=h.isKey;obtain⟨N,h1,h2,h3,_⟩:=h;rcases findNow_spec (d:=.int κ) (k:=.int κ k) rfl es.toList 0 hk with⟨g1,g2⟩|⟨j,e,g1,g2,g3⟩
 .refine .inl ⟨g1,fun p hp q=>?_⟩;obtain⟨e,he,hek⟩:=h2.keys.2 p (h1.symm.subset hp)
  grind
 .obtain⟨P,p,S,rfl,_,q1,q2,_⟩:=h2.at_ g2
  grind
mutual
def qv:Sh->List AV->Option (List AV)
 |.int k,l=>match l with
  |.int k' n::r=>match lu k' k,n with|true,.ofNat 0=>some r|_,_=>none
  |_=>none
 |.bool,l=>match l with|.bool false::r=>some r|_=>none
 |.str,l=>match l with
  |.str s::r=>match Nat.beq s.size 0 with|true=>some r|false=>none
  |_=>none
 |.agg ss,l=>zi ss l|.sl s,l=>match l with|.aR::r=>some r|_=>none
termination_by structural x=>x
def zi:List Sh->List AV->Option (List AV)
 |[],r=>some r|s::l,r=>match qv s r with|some r=>zi l r|none=>none
termination_by structural x=>x
end
mutual
theorem T3{X:Cx}{w:World}{A:Nat->Prop}:∀{σ:Sh}{l r:List AV},qv σ l=some r->∀{cs:mt},cE X l cs->∃c e,cs=c++e/\Cs w A σ σ.zero c/\cE X r e
 |.int k,l,r,e,cs,R=>by
  simp only[qv]at e;split at e<;>try cases e
  rename_i k' n r';split at e<;>try cases e
  rename_i n' hk;obtain⟨v,t,rfl,h1,h2⟩:=R;have:=na hk;subst this;exact⟨[v],t,rfl,by rw[show v=_ from h1];rfl,h2⟩
 |.bool,l,r,e,cs,R=>by
  simp only[qv]at e;split at e<;>try cases e
  obtain⟨v,t,rfl,h1,h2⟩:=R;exact⟨[v],t,rfl,by rw[show v=_ from h1];rfl,h2⟩
 |.str,l,r,e,cs,R=>by
  simp only[qv]at e;split at e<;>try cases e
  rename_i s r';split at e<;>try cases e
  rename_i hs;obtain⟨v,t,rfl,h1,h2⟩:=R;have hz:s=ByteArray.empty:=by have:=db hs;cases s with|mk d=>have:d.size=0:=this;have:d=#[]:=Array.eq_empty_of_size_eq_zero this;subst this;rfl
  subst hz;exact⟨[v],t,rfl,by rw[show v=_ from h1];rfl,h2⟩
 |.agg ss,l,r,e,cs,R=>Zvv (ss:=ss) e R|.sl s,l,r,e,cs,R=>by
  simp only[qv]at e;split at e<;>try cases e
  obtain⟨v,t,rfl,h1,h2⟩:=R;exact⟨[v],t,rfl,⟨none,0,0,by rw[show v=_ from h1],rfl,ro _,fun q=>absurd rfl q⟩,h2⟩
theorem Zvv{X:Cx}{w:World}{A:Nat->Prop}:∀{ss:List Sh}{l r:List AV},zi ss l=some r->∀{cs:mt},cE X l cs->∃c e,cs=c++e/\iO w A ss (Pc ss) c/\cE X r e
 |[],l,r,e,cs,R=>by simp only[zi,dm]at e;subst e;exact⟨[],cs,rfl,rfl,R⟩|s::ss,l,r,e,cs,R=>by
  simp only[zi]at e;split at e<;>try cases e
  rename_i avQ ava;obtain⟨c,t,rfl,q1,q2⟩:=T3 (A:=A) (w:=w) ava R;obtain⟨c',t',rfl,q3,q4⟩:=Zvv (A:=A) (w:=w) e q2;exact⟨c++c',t',aue,⟨c,c',rfl,q1,q3⟩,q4⟩
end
def OZ(σ:Sh)(M:fb σ)(k:Int)(ck:Bool):AV:=match ck with|true=>.dW [FO σ (j3 σ M k),.bool (jH M k)]|false=>FO σ (j3 σ M k)
def vS(P:Program)(h:Hp)(t:TypeId)(u i:AV)(ck:Bool):Option AV:=match P.underlying t with
 |some (.map kt et)=>match P.underlying kt,mZ P et with
  |some (.int awo),some z=>match u,i with
   |.mp b,.int κ' k=>match h.tr.get b with
    |some (.map κ σ M)=>match lu awo κ,lu κ' κ,yn z,va σ,qv σ (jh z)with|true,true,false,false,some []=>some (OZ σ M k ck)|true,true,true,true,some []=>some (OZ σ M k ck)|_,_,_,_,_=>none
    |_=>none
   |_,_=>none
  |_,_=>none
 |_=>none
theorem apC{P:Program}{X:Cx}(H:bn X){t:TypeId}{u i v:AV}{ck:Bool}(e:vS P X.h t u i ck=some v){U I:Value}(R:Rel X u U)(RI:Rel X i I) :
  ∃V,(Instr.lookup t U I ck).run P X.w=.ok V X.w/\Rel X v V:=by
 unfold vS at e;split at e<;>try cases e
 rename_i kt et hu;split at e<;>try cases e
 rename_i awo z hk hz;split at e<;>try cases e
 rename_i b κ' k;split at e<;>try cases e
 rename_i κ σ M hb;obtain⟨x,c,hs,rfl⟩:=R;rw[show I=_ from RI];obtain⟨x',c',es,clk,e1,e2,e3⟩:=H.obj b _ _ hb hs;cases e1;obtain⟨Z,hZ0,RZ⟩:=qi hz X X.w;have main:lu awo κ=true->lu κ' κ=true->yn z=va σ->qv σ (jh z)=some []->some (OZ σ M k ck)=some v->∃V,(Instr.lookup t (.map (some x)) (.int κ' k) ck).run P X.w=.ok V X.w/\Rel X v V:=by
  intro q1 q2 q3 q4 ev;clear e;have q1:=na q1;have q2:=na q2;subst q1;subst q2;have hkey:IsKey (.int κ') (.int κ' k):=rfl;have hD:∃V ok,(do
    let(v,ok) <- match <- Instr.findKey kt (.int κ' k) es.toList with|some (_,v)=>pure (v,true)|none=>pure (<- zeroValue et,false)
    pure (if ck then Value.tuple #[v,.bool ok]else v):Sem Value).run P X.w=.ok (if ck then Value.tuple #[V,.bool ok]else V) X.w/\ok=jH M k/\ic X.w X.out σ (j3 σ M k) V:=by
   rcases e3.find k with⟨g1,g2⟩|⟨j,en,d,g1,g2,g3,g4,g5⟩
   .obtain⟨p1,p2⟩:=apQ g2;refine⟨Z,false,by simp[run_findKey hk g1,hZ0],p2.symm,?_⟩;rw[p1];obtain⟨zc,zr,f1,f2,f3⟩:=T3 (X:=X) (w:=X.w) (A:=X.out) q4 (lW RZ);have:zr=[]:=f3;subst this;rw[di]at f1;exact⟨by grind,by rw[adD RZ,q3]⟩
   .obtain⟨N,n1,n2,n3,_⟩:=e3;obtain⟨p1,p2⟩:=ala n3 g4;exact⟨en.val,true,by simp[run_findKey hk g1],p2.symm,by grind⟩
  obtain⟨V,ok,hr,hok,hdat⟩:=hD;refine⟨if ck then Value.tuple #[V,.bool ok]else V,?_,?_⟩
  .have h0:(getObj x).run P X.w=.ok (.map es clk) X.w:=Go.MapKept.run_getObj_map e2;simp only[Instr.lookup,Sem.run_bind,run_underlying hu,Result.andThen_ok,h0,Sem.run_pure,run_checkKey hk hkey];simp only[Sem.run_bind]at hr;exact hr
  .cases ck with
   |true=>cases ev;exact⟨[V,.bool ok],rfl,V,_,rfl,JC hdat,_,_,rfl,by rw[hok];rfl,rfl⟩
   |false=>cases ev;exact JC hdat
 grind
def Pf(P:Program)(h:Hp)(t:TypeId)(u i v:AV):Option Hp:=match P.underlying t with
 |some (.map kt _)=>match P.underlying kt with
  |some (.int awo)=>match u,i with
   |.mp b,.int κ' k=>match h.tr.get b with
    |some (.map κ σ M)=>match lu awo κ,lu κ' κ,tA false h σ v with
     |true,true,some (d,_)=>match Tr.set FT h.tr b (some (.map κ σ (fR k d M)))with|some tr=>some ⟨tr,h.next⟩|none=>none
     |_,_,_=>none
    |_=>none
   |_,_=>none
  |_=>none
 |_=>none
theorem Hx{P:Program}{w:World}{x:Nat}{es:Array MapEntry}{clk:Nat}(h:w.heap[x]?=some (.map es clk))(o:Obj):(setObj x o).run P w=.ok () (dp w x o):=Go.MapKept.run_setObj_map o h
theorem jA.set{w:World}{A:Nat->Prop}{κ:IntKind}{σ:Sh}{es:Array MapEntry}{clk:Nat}{M:fb σ}(h:jA w A κ σ es clk M){j:Nat}{e:MapEntry}{k:Int}{d:σ.T}{V:Value}(he:es.toList[j]?=some e)(hk:e.key=.int κ k)
  (hd:ic w A σ d V):jA w A κ σ (es.modify j fun e=>{ e with key:=.int κ k,val:=V }) clk (fR k d M):=by
 obtain⟨N,h1,h2,h3,h4,h5⟩:=h;obtain⟨Q,p,S,rfl,_,q1,_,_,q2⟩:=h2.at_ he;rw[hk]at q1;simp only[Value.int.injEq,true_and]at q1;obtain⟨a,u,⟨⟩⟩:=p;simp only at q1;subst q1;have hl:(es.modify j fun e=>{ e with key:=.int κ k,val:=V }).toList=es.toList.set j { e with key:=.int κ k,val:=V }:=by
  rw[Array.toList_modify];apply asD
  grind
 refine⟨Q++(k,d,())::S,ald h3 h1,?_,Zwx h3,?_,?_⟩
 .rw[hl]
  grind
 .intro y hy
  grind
 .rw[hl];have hb:(es.toList.set j { e with key:=.int κ k,val:=V }).map (·.born)=es.toList.map (·.born):=by
   rw[List.map_set];apply asD
   grind
  have h5':=(atu (f:=fun e:MapEntry=>e.born) (R:=fun a b=>a≠b)).2 h5
  grind
theorem jA.push{w:World}{A:Nat->Prop}{κ:IntKind}{σ:Sh}{es:Array MapEntry}{clk:Nat}{M:fb σ}(h:jA w A κ σ es clk M){k:Int}{d:σ.T}{V:Value}(hk:∀p∈M,p.1≠k)
  (hd:ic w A σ d V):jA w A κ σ (es.push { key:=.int κ k,val:=V,born:=clk }) (clk+1) (fR k d M):=by
 obtain⟨N,h1,h2,h3,h4,h5⟩:=h;refine⟨N++[(k,d,())],(h1.append_right _).trans (alc hk).symm,?_,Zwx h3,?_,?_⟩
 .rw[Array.toList_push];exact js.snoc rfl hd h2
 .intro y hy
  grind
 grind
theorem aoX{P:Program}{X:Cx}(H:bn X){h':Hp}{t:TypeId}{u i v:AV}(e:Pf P X.h t u i v=some h'){U I V:Value}(R:Rel X u U)(RI:Rel X i I)(RV:Rel X v V) :
  ∃w',(Instr.mapUpdate t U I V).run P X.w=.ok () w'/\bn ⟨X.s,h',w',X.A⟩/\bL X ⟨X.s,h',w',X.A⟩:=by
 unfold Pf at e;split at e<;>try cases e
 rename_i kt et hu;split at e<;>try cases e
 rename_i awo hk;split at e<;>try cases e
 rename_i b κ' k;split at e<;>try cases e
 rename_i κ σ M hb;split at e<;>try cases e
 rename_i d h₁ q1 q2 hf;split at e<;>cases e;rename_i tr ht;have q1:=na q1;have q2:=na q2;subst q1;subst q2;obtain⟨x,c,hs,rfl⟩:=R;rw[show I=_ from RI];obtain⟨x',c',es,clk,e1,e2,e3⟩:=H.obj b _ _ hb hs;cases e1;have hsame:h₁=X.h:=by
  unfold tA at hf;split at hf<;>try cases hf
  all_goals
   split at hf<;>try cases hf
   rename_i hfr;split at hf<;>cases hf;exact JI hfr
 subst hsame;obtain⟨F,hd⟩:=PB H hf RV;have hd:ic X.w X.out σ d V:=hd;have hkey:IsKey (.int κ') (.int κ' k):=rfl;have fin:∀es' clk',jA X.w X.out κ' σ es' clk' (fR k d M)->bn ⟨X.s,⟨tr,X.h.next⟩,dp X.w x (.map es' clk'),X.A⟩/\bL X ⟨X.s,⟨tr,X.h.next⟩,dp X.w x (.map es' clk'),X.A⟩:=by intro es' clk' hm;have E:=bL.put (ob:=.map es' clk') H hb hs (by intro n q;cases q) ht;refine⟨H.put hb hs (by intro n q;cases q) ht ⟨x,c,es',clk',rfl,?_,hm.bU E.keeps⟩,E⟩;show(dp X.w x _).heap[x]?=_;rw[jM,IO ⟨rfl,kr e2⟩]
 have h0:(getObj x).run P X.w=.ok (.map es clk) X.w:=Go.MapKept.run_getObj_map e2;rcases e3.find k with⟨g1,g2⟩|⟨j,en,u,g1,g2,g3,g4,g5⟩
 .obtain⟨f1,f2⟩:=fin _ _ (e3.push (V:=V) g2 hd);exact⟨_,by simp only[Instr.mapUpdate,Sem.run_bind,run_underlying hu,Result.andThen_ok,h0,run_checkKey hk hkey,run_findKey hk g1,Hx e2],f1,f2⟩
 .obtain⟨f1,f2⟩:=fin _ _ (e3.set (V:=V) g2 g3 hd);have hj:es[j]?=some en:=by grind
  have hkk:((es[j]?).map (·.key)).getD (.int κ' k)=.int κ' k:=by grind
  exact⟨_,by simp only[Instr.mapUpdate,Sem.run_bind,run_underlying hu,Result.andThen_ok,h0,run_checkKey hk hkey,run_findKey hk g1,hkk,run_keyThatStays hkey,Hx e2],f1,f2⟩
def Pg(P:Program)(h:Hp)(ts:Array TypeId)(u i:AV):Option Hp:=match nth ts.toList 0 with
 |some t=>match P.underlying t with
  |some (.map kt _)=>match P.underlying kt with
   |some (.int awo)=>match u,i with
    |.mp b,.int κ' k=>match h.tr.get b with
     |some (.map κ σ M)=>match lu awo κ,lu κ' κ with
      |true,true=>match Tr.set FT h.tr b (some (.map κ σ (lP k M)))with|some tr=>some ⟨tr,h.next⟩|none=>none
      |_,_=>none
     |_=>none
    |_,_=>none
   |_=>none
  |_=>none
 |none=>none
theorem jA.erase{w:World}{A:Nat->Prop}{κ:IntKind}{σ:Sh}{es:Array MapEntry}{clk:Nat}{M:fb σ}(h:jA w A κ σ es clk M){j:Nat}{e:MapEntry}{k:Int}(he:es.toList[j]?=some e)(hk:e.key=.int κ k) :
  jA w A κ σ (es.eraseIdxIfInBounds j) clk (lP k M):=by
 obtain⟨N,h1,h2,h3,h4,h5⟩:=h;obtain⟨Q,p,S,rfl,_,q1,_,q2,_⟩:=h2.at_ he;rw[hk]at q1;simp at q1;subst q1;have hl:(es.eraseIdxIfInBounds j).toList=es.toList.eraseIdx j:=by simp_all
 refine⟨Q++S,ak6 h3 h1,?_,ao7 h3,?_,?_⟩
 .rw[hl];exact q2
 .intro y hy
  grind
 grind
theorem aoY{P:Program}{X:Cx}(H:bn X){h':Hp}{ts:Array TypeId}{ty:TypeId}{u i:AV}(e:Pg P X.h ts u i=some h'){U I:Value}(R:Rel X u U)(RI:Rel X i I) :
  ∃w',(Builtin.delete_ ts ty #[U,I]).run P X.w=.ok (.tuple #[]) w'/\bn ⟨X.s,h',w',X.A⟩/\bL X ⟨X.s,h',w',X.A⟩:=by
 unfold Pg at e;split at e<;>try cases e
 rename_i t htt;split at e<;>try cases e
 rename_i kt et hu;split at e<;>try cases e
 rename_i awo hk;split at e<;>try cases e
 rename_i b κ' k;split at e<;>try cases e
 rename_i κ σ M hb;split at e<;>try cases e
 rename_i q1 q2;split at e<;>cases e;rename_i tr ht;have q1:=na q1;have q2:=na q2;subst q1;subst q2;obtain⟨x,c,hs,rfl⟩:=R;rw[RI];have htt:ts[0]?=some t:=by rw[fc]at htt;simpa using htt
 obtain⟨x',c',es,clk,e1,e2,e3⟩:=H.obj b _ _ hb hs;cases e1;have hkey:IsKey (.int κ') (.int κ' k):=rfl;have fin:∀es' clk',jA X.w X.out κ' σ es' clk' (lP k M)->bn ⟨X.s,⟨tr,X.h.next⟩,dp X.w x (.map es' clk'),X.A⟩/\bL X ⟨X.s,⟨tr,X.h.next⟩,dp X.w x (.map es' clk'),X.A⟩:=by intro es' clk' hm;have E:=bL.put (ob:=.map es' clk') H hb hs (by intro n q;cases q) ht;refine⟨H.put hb hs (by intro n q;cases q) ht ⟨x,c,es',clk',rfl,?_,hm.bU E.keeps⟩,E⟩;rw[jM,IO ⟨rfl,kr e2⟩]
 have h0:(getObj x).run P X.w=.ok (.map es clk) X.w:=Go.MapKept.run_getObj_map e2;rcases e3.find k with⟨g1,g2⟩|⟨j,en,u,g1,g2,g3,g4,g5⟩
 .obtain⟨f1,f2⟩:=fin es clk (by rw[apT g2];exact e3);refine⟨_,?_,f1,f2⟩;simp only[Builtin.delete_,htt,Array.getElem?_eq_getElem,IN,FS,asw,Sem.run_bind,run_underlying hu,Result.andThen_ok,h0,run_checkKey hk hkey,run_findKey hk g1,Hx e2,Sem.run_pure]
 .obtain⟨f1,f2⟩:=fin _ _ (e3.erase g2 g3);refine⟨_,?_,f1,f2⟩;simp only[Builtin.delete_,htt,IN,FS,asw,Sem.run_bind,run_underlying hu,Result.andThen_ok,h0,run_checkKey hk hkey,run_findKey hk g1,Hx e2,Sem.run_pure]
open Go.Proofs.YtmkbdfidnfmgmaaGreat.Ev (Tr Tr.d6 nth fc takeN iV kW kX dp jM mz run_underlying run_typeInfo run_sizeOf ie iZ places rS lV oE nX ql JD)
theorem Ztc{P:Program}{t0 t1 ty:TypeId}{ts:Array TypeId}{elem:TypeId}{d1:TypeDesc}{sz n:Nat}{z:AV}{info:TypeInfo}{base:pi}{sLen sCap:Nat}{Y:Value}{old new:mt}{X:Cx}{w:World}
  (ht0:ts[0]?=some t0) (ht1:ts[1]?=some t1) (hu0:P.underlying t0=some (.slice elem)) (hu1:P.underlying t1=some d1) (hd:∀k,d1≠.int k) (hs:ie P elem=some sz) (hz:mZ P elem=some z)
  (hi:P.info? elem=some info) (hzl:(jh z).length=sz) (hn:(Builtin.lenOf Y).run P w=.ok n w) (hnot:sCap<sLen+n) (hb:(2*(sLen+n)+192)*info.bytes<=281474976710656) (hne:sLen+n<=1099511627776)
  (hold:∀d,(Builtin.firstCells sz sLen (.slice base sLen sCap)).run P { w with drawn:=d }=.ok old.toArray { w with drawn:=d })
  (hnew:∀d,(Builtin.firstCells sz n Y).run P { w with drawn:=d }=.ok new.toArray { w with drawn:=d }) :
  ∃c,sLen+n<=c/\∃d,∃rest:mt,rest.length=(c-(sLen+n))*sz/\(Builtin.append_ ts ty #[.slice base sLen sCap,Y]).run P w =
   .ok (.slice (some ⟨w.heap.size,0,none⟩) (sLen+n) c) { w with drawn:=d,heap:=w.heap.push (.cells (old++new++rest).toArray elem (0,0)) }:=by
 refine⟨(Question.appendCap (sLen+n) sCap elem).cut (w.tape w.drawn (.appendCap (sLen+n) sCap elem)),by simp[Question.cut],w.drawn+1,?_⟩;obtain⟨Z,hzr,RZ⟩:=qi hz X w;have hz0:∀w,(zeroValue elem).run P w=.ok Z w:=by
  intro w';obtain⟨Z',h1,_⟩:=qi hz X w';unfold mZ at hz;simp only[hi]at hz;split at hz<;>try cases hz
  rename_i v hv;simp only[zeroValue,Sem.run_bind,run_typeInfo hi,Result.andThen_ok,hv,Sem.run_pure]at hzr |-;simp only[atw,atF]at hzr;rw[hzr]
 have hzs:Z.cells.size=sz:=by rw[<-asT,(lW RZ).length,hzl]
 generalize hc:(Question.appendCap (sLen+n) sCap elem).cut (w.tape w.drawn (.appendCap (sLen+n) sCap elem))=c;refine⟨(Builtin.zeroCells Z.cells (c-(sLen+n))).toList,by simp[Builtin.zeroCells,hzs],?_⟩;have hbig:¬(Builtin.nextslicecap (sLen+n) sCap*info.bytes > 2^48):=by have:=asm info.bytes (JD hnot);show ¬(281474976710656<_);omega
 have hk:(match d1 with|.int _=>true|_=>false)=false:=by cases d1<;>first|rfl|exact absurd rfl (hd _)
 have hmax:¬(((sLen+n:Nat):Int) > IntKind.i64.max/\(false=true\/info.bytes=0)):=by
  intro q;have h1:=q.1;have:IntKind.i64.max=9223372036854775807:=auf
  rw[this]at h1;omega
 unfold Builtin.append_;simp only[ht0,ht1,IN,FS,asw,Sem.run_bind,run_underlying hu0,run_underlying hu1,Result.andThen_ok,run_sizeOf hs,Sem.run_pure,run_typeInfo hi];rw[Fr Bool.false_ne_true];simp only[Sem.run_bind,hn,Result.andThen_ok];rw[Fr (by omega:¬sLen+n<=sCap)];simp only[Sem.run_bind,run_typeInfo hi,Result.andThen_ok];rw[Fr hmax];simp only[Sem.run_bind,run_typeInfo hi,Result.andThen_ok];rw[Fr hbig];simp only[Sem.run_bind,run_choose,Question.forced,asL,aua,Result.andThen_ok,run_typeInfo hi,run_askRoom,hold,hc,Bool.not_false,aub,hnew,hz0,newRow,run_newObj,Sem.run_pure];congr 3
 simp_all
theorem Zvh{P:Program}{t0 t1 ty:TypeId}{ts:Array TypeId}{elem:TypeId}{d1:TypeDesc}{sz n:Nat}{b off:Nat}{sLen sCap:Nat}{Y:Value}{new:mt}{w w':World}
  (ht0:ts[0]?=some t0) (ht1:ts[1]?=some t1) (hu0:P.underlying t0=some (.slice elem)) (hu1:P.underlying t1=some d1) (hd:∀k,d1≠.int k) (hs:ie P elem=some sz)
  (hn:(Builtin.lenOf Y).run P w=.ok n w) (hfit:sLen+n<=sCap) (hnew:(Builtin.firstCells sz n Y).run P w=.ok new.toArray w)
  (hst:(storeCells ⟨b,off+sLen*sz,none⟩ new).run P w=.ok () w') :
  (Builtin.append_ ts ty #[.slice (some ⟨b,off,none⟩) sLen sCap,Y]).run P w=.ok (.slice (some ⟨b,off,none⟩) (sLen+n) sCap) w':=by
 have hk:(match d1 with|.int _=>true|_=>false)=false:=aue
 unfold Builtin.append_;simp only[ht0,ht1,IN,FS,asw,Sem.run_bind,run_underlying hu0,run_underlying hu1,Result.andThen_ok,run_sizeOf hs,Sem.run_pure];rw[Fr Bool.false_ne_true];simp only[Sem.run_bind,hn,Result.andThen_ok];rw[IO hfit];simp only[Sem.run_bind,Bool.not_false,aub,hnew,Result.andThen_ok,iZ,hst,Sem.run_pure]
theorem Zrb{P:Program}{t0 t1 ty:TypeId}{ts:Array TypeId}{elem:TypeId}{d1:TypeDesc}{sz:Nat}{Y:Value}{w:World}
  (ht0:ts[0]?=some t0) (ht1:ts[1]?=some t1) (hu0:P.underlying t0=some (.slice elem)) (hu1:P.underlying t1=some d1) (hd:∀k,d1≠.int k) (hs:ie P elem=some sz)
  (hn:(Builtin.lenOf Y).run P w=.ok 0 w) {l:mt}(hnew:(Builtin.firstCells sz 0 Y).run P w=.ok l.toArray w) :
  (Builtin.append_ ts ty #[.slice none 0 0,Y]).run P w=.ok (.slice none 0 0) w:=by
 have hk:(match d1 with|.int _=>true|_=>false)=false:=aue
 unfold Builtin.append_;simp only[ht0,ht1,IN,FS,asw,Sem.run_bind,run_underlying hu0,run_underlying hu1,Result.andThen_ok,run_sizeOf hs,Sem.run_pure]
 simp_all
def Se(h:Hp)(τ:Sh)(x:AV):Option (List τ.T):=match x with
 |.aR=>some []|.fz τ' L=>match e:τ'.eqv τ with|true=>some (lj e L)|false=>none
 |.ji τ' _ L=>match e:τ'.eqv τ with|true=>some (lj e L)|false=>none
 |.hd b _=>match h.tr.get b with
  |some (.arr τ' L _)=>match e:τ'.eqv τ with|true=>some (lj e L)|false=>none
  |_=>none
 |.vw b awp off len=>match h.tr.get b with
  |some (.arr τ' L _)=>match e:τ'.eqv τ,awp.eqv τ with|true,true=>some (lj e ((L.drop off).take len))|_,_=>none
  |_=>none
 |_=>none
def xt(X:Cx)(τ:Sh)(L:List τ.T)(V:Value):Prop:=∃a cap,V=.slice a L.length cap/\L.length<=cap/\∃cs,cF (Cs X.w X.out τ) L cs/\(L≠[]->∃b o c ty fr,a=some ⟨b,o,none⟩/\X.w.heap[b]?=some (.cells c ty fr)/\∀j u,cs[j]?=some u->c[o+j]?=some u)
theorem JA{X:Cx}{τ τ':Sh}(h:τ.eqv τ'=true){L:List τ.T}{V:Value}(q:xt X τ L V):xt X τ' (lj h L) V:=by have:=Sh.ig h;subst this;exact q
theorem jN{α:Type}{a:List α}{i:Nat}{x:α}(h:a[i]?=some x):i<a.length:=by grind
theorem arT{X:Cx}(H:bn X){τ:Sh}{x:AV}{L:List τ.T}{V:Value}(e:Se X.h τ x=some L)(R:Rel X x V):xt X τ L V:=by
 unfold Se at e;split at e<;>try cases e
 .rw[show V=_ from R];exact⟨none,0,rfl,ro _,[],rfl,fun h=>absurd rfl h⟩
 .split at e<;>try cases e
  rename_i he;refine JA he ?_;obtain⟨a,len,cap,e1,e2,e3,e4⟩:=R;simp only[atv,atF]at e1;subst e1;subst e2;refine⟨a,cap,rfl,e3,?_⟩;rename_i τ' L';by_cases hL:L'=[]
  .subst hL;exact⟨[],rfl,fun h=>absurd rfl h⟩
  .obtain⟨b,o,Y,e5,e6,e7,c,ty,fr,e8,e9⟩:=e4 hL;exact⟨Y,e7,fun _=>⟨b,o,c,ty,fr,e5,e8,e9⟩⟩
 .split at e<;>try cases e
  rename_i he;refine JA he ?_;obtain⟨⟨a,len,cap,e1,e2,e3,e4⟩,-⟩:=R;simp only[atv,atF]at e1;subst e1;subst e2;refine⟨a,cap,rfl,e3,?_⟩;rename_i τ' z' L';by_cases hL:L'=[]
  .subst hL;exact⟨[],rfl,fun h=>absurd rfl h⟩
  .obtain⟨b,o,Y,e5,e6,e7,c,ty,fr,e8,e9⟩:=e4 hL;exact⟨Y,e7,fun _=>⟨b,o,c,ty,fr,e5,e8,e9⟩⟩
 .rename_i b awp;split at e<;>try cases e
  rename_i τ' L' ty hb;split at e<;>try cases e
  rename_i he;refine JA he ?_;obtain⟨l,h1,_,h2⟩:=R;rw[h2 _ (jX hb)];cases l with
  |nil=>have hL:L'=[]:=H.obj b _ _ hb h1;subst hL;exact⟨none,0,rfl,ro _,[],rfl,fun h=>absurd rfl h⟩|gW _ _ _=>exact(H.obj b _ _ hb h1:False).elim|«at» x c=>
   obtain⟨cs,tail,q1,q2,q3,q4⟩:=H.obj b _ _ hb h1;refine⟨_,c,rfl,q4,cs,q2,fun _=>⟨x,0,_,ty,_,rfl,q1,?_⟩⟩
   grind
 .rename_i b awp off len;split at e<;>try cases e
  rename_i τ' L' ty hb;split at e<;>try cases e
  rename_i he avj;have:=Sh.ig avj;subst this;have:=Sh.ig he;subst this;refine JA he ?_;obtain⟨l,a,c,h1,rfl,h3,h4,h5,h6⟩:=R;have hle:=h6 _ (jX hb);have hlen:((L'.drop off).take len).length=len:=by simp;omega
  refine⟨a,c,by rw[hlen],by rw[hlen];exact h3,?_⟩;cases l with
  |nil=>
   have hL:L'=[]:=H.obj b _ _ hb h1;subst hL;have:len=0:=by simp only[If]at hle;omega
   subst this;exact⟨[],by rw[WP];rfl,fun h=>by rw[WP]at h;exact absurd rfl h⟩
  |gW _ _ _=>exact(H.obj b _ _ hb h1:False).elim|«at» x k=>
   obtain⟨cs,tail,q1,q2,q3,q4⟩:=H.obj b _ _ hb h1;refine⟨_,cF.take (fun x c=>Cs.length) len (cF.drop (fun x c=>Cs.length) off q2),fun hne=>?_⟩;have hpos:0<len:=by
    rcases Or len with q|q
    .subst q;rw[WP]at hne;exact absurd rfl hne
    .exact q
   grind
theorem xt.run{P:Program}{X:Cx}{τ:Sh}{L:List τ.T}{V:Value}(h:xt X τ L V):∃cs,cF (Cs X.w X.out τ) L cs/\(∀w,(Builtin.lenOf V).run P w=.ok L.length w) /\
  ∀w,w.heap=X.w.heap->(Builtin.firstCells τ.size L.length V).run P w=.ok cs.toArray w:=by
 obtain⟨a,cap,rfl,_,cs,h1,h2⟩:=h;refine⟨cs,h1,fun w=>by simp[Builtin.lenOf],?_⟩;intro w hw;have hl:=cF.length (fun x c=>Cs.length) h1;by_cases hL:L=[]
 .subst hL;have hcs:cs=[]:=h1;subst hcs;cases a with|none=>simp[Builtin.firstCells]|some a=>simp[Builtin.firstCells,loadCells,loadCellsFrom]
 .obtain⟨b,o,c,ty,fr,rfl,h3,h4⟩:=h2 hL;rw[<-hw]at h3;rcases Or cs.length with q|q
  .have:cs=[]:=AC q;subst this;simp only[Builtin.firstCells,loadCells];rw[<-hl];simp[loadCellsFrom]
  .have hc:=kr (h4 (cs.length-1) cs[cs.length-1] (bA auc));simp only[Builtin.firstCells,loadCells];rw[Ev.run_loadCells (P:=P) h3 _ 0 #[] auc];congr 2;apply asD
   grind
mutual
theorem Cs.one{w:World}{A:Nat->Prop}:∀{σ:Sh}{d:σ.T}{cs:mt},Cs w A σ d cs->∀V∈cs,Ev.nf V=true
 |.int k,n,cs,h,V,hV=>by rw[show cs=[.int k n]from h]at hV;simp at hV;subst hV;rfl|.bool,b,cs,h,V,hV=>by rw[show cs=[.bool b]from h]at hV;simp at hV;subst hV;rfl|.str,s,cs,h,V,hV=>by rw[show cs=[.string s]from h]at hV;simp at hV;subst hV;rfl|.agg l,d,cs,h,V,hV=>iO.one (l:=l) h V hV|.sl s,L,cs,⟨a,len,cap,h,_⟩,V,hV=>by rw[h]at hV;simp at hV;subst hV;rfl
theorem iO.one{w:World}{A:Nat->Prop}:∀{l:List Sh}{d:TL l}{cs:mt},iO w A l d cs->∀V∈cs,Ev.nf V=true
 |[],_,cs,h,V,hV=>by rw[show cs=[]from h]at hV;cases hV
 |s::l,d,cs,⟨c,r,e,h1,h2⟩,V,hV=>by
  rw[e]at hV;rcases qr.1 hV with q|q
  .exact Cs.one h1 V q
  .exact iO.one h2 V q
end
theorem cF.one{w:World}{A:Nat->Prop}{τ:Sh}:∀{L:List τ.T}{cs:mt},cF (Cs w A τ) L cs->∀V∈cs,Ev.nf V=true
 |[],cs,h,V,hV=>by rw[h]at hV;cases hV
 |x::L,cs,⟨c,r,e,h1,h2⟩,V,hV=>by
  rw[e]at hV;rcases qr.1 hV with q|q
  .exact Cs.one h1 V q
  .exact cF.one h2 V q
def room(by_ n:Nat):Bool:=both (decide ((2*n+192)*by_<=281474976710656)) (decide (n<=1099511627776))
def abS(h:Hp)(τ:Sh)(elem:TypeId)(su:AV):Option (List τ.T×Option Nat):=match su with
 |.aR=>some ([],none)|.hd b _=>match h.tr.get b with
  |some (.arr τ' L ty)=>match e:τ'.eqv τ,Nat.beq ty elem with|true,true=>some (lj e L,some b)|_,_=>none
  |_=>none
 |.vw b awp off len=>match off with
  |0=>match h.tr.get b with
   |some (.arr τ' L ty)=>match e:τ'.eqv τ,awp.eqv τ,Nat.beq ty elem with|true,true,true=>some (lj e (L.take len),some b)|_,_,_=>none
   |_=>none
  |_=>none
 |_=>none
def Fu(tr:Tr cp):Option Nat->Option (Tr cp)
 |none=>some tr|some b=>Tr.set FT tr b none
def af9:TypeDesc->Bool|.slice _=>true|_=>false
def Jp(P:Program)(sh:TypeId->Option Sh)(h:Hp)(ts:Array TypeId)(su x:AV):Option (Bool×AV×Hp):=match nth ts.toList 0,nth ts.toList 1 with
 |some t0,some t1=>match P.underlying t0,P.underlying t1 with
  |some (.slice elem),some d1=>match af9 d1,sh elem,ie P elem,mZ P elem,lV P elem with
   |true,some τ,some sz,some z,some by_=>match Nat.beq (jh z).length sz,Nat.beq τ.size sz,abS h τ elem su,Se h τ x with
    |true,true,some (L,ob),some M=>match Fu h.tr ob with
     |some tr=>match Tr.set FT tr h.next (some (.arr τ (L++M) elem))with|some tr=>some (room by_ (L++M).length,.hd h.next τ,⟨tr,h.next+1⟩)|none=>none
     |none=>none
    |_,_,_,_=>none
   |_,_,_,_,_=>none
  |_,_=>none
 |_,_=>none
structure Grown(X X':Cx)(τ:Sh)(N:List τ.T)(V:Value):Prop where
 H:bn X'
 E:bL X X'
 A:X'.A=X.A
 R:Rel X' (.hd X.h.next τ) V
theorem xR{X:Cx}{n:Nat}{τ:Sh}{N:List τ.T}{ty:TypeId}{l:Loc}(hg:X.h.tr.get n=some (.arr τ N ty))(hs:X.s n=some l):Rel X (.hd n τ) (l.slice N.length):=by refine⟨l,hs,by cases l<;>rfl,?_⟩;intro n' q;rw[jX hg]at q;cases q;rfl
theorem Grown.grow{X X₁:Cx}(H:bn X)(aur:bL X X₁)(auC:bn X₁)(hn:X₁.h.next=X.h.next)(hw:X₁.w=X.w){τ:Sh}{N:List τ.T}{ty:TypeId}{tr:Tr cp}(ht:Tr.set FT X₁.h.tr X₁.h.next (some (.arr τ N ty))=some tr)
  {c d:Nat}{cs rest:mt}(hf:cF (Cs X.w X.out τ) N cs) (hr:rest.length=(c-N.length)*τ.size) (hc:N.length<=c) :
  Grown X ⟨dw X₁.s X₁.h.next (.at X₁.w.heap.size c),⟨tr,X₁.h.next+1⟩,{ X₁.w with drawn:=d,heap:=X₁.w.heap.push (.cells (cs++rest).toArray ty (0,0)) },X₁.A⟩ τ N (.slice (some ⟨X.w.heap.size,0,none⟩) N.length c):=by
 have Hd:=auC.drew d;have Ed:=aur.trans (bL.drew X₁ d);have En:=adQ (c:=c) (ob:=.cells (cs++rest).toArray ty (0,0)) Hd ht;have E:=Ed.trans En;have hg:=Tr.d6 FT X₁.h.tr X₁.h.next _ tr ht;have Hn:=bn.new Hd ht (by refine⟨cs,rest,aue,hf.mono (fun x c q=>q.bU E.keeps),?_,hc⟩;rw[cF.length (fun x c=>Cs.length) hf,hr,<-asC];congr 1;omega);refine⟨Hn,E,E.A,?_⟩;have:=xR (X:=⟨dw X₁.s X₁.h.next (.at X₁.w.heap.size c),⟨tr,X₁.h.next+1⟩,{ X₁.w with drawn:=d,heap:=X₁.w.heap.push (.cells (cs++rest).toArray ty (0,0)) },X₁.A⟩) (N:=N) (ty:=ty) (by grind) (iu _ _ _);rw[<-hn];simpa[Loc.slice,hw]using this
theorem Grown.fit{X:Cx}(H:bn X){b x c:Nat}{τ:Sh}{L N:List τ.T}{ty:TypeId}{avW tr:Tr cp}(hb:X.h.tr.get b=some (.arr τ L ty))(hs:X.s b=some (.at x c))(hk:Tr.set FT X.h.tr b none=some avW)
  (ht:Tr.set FT avW X.h.next (some (.arr τ N ty))=some tr) {cs tail:mt}(hf:cF (Cs X.w X.out τ) N cs) (hr:cs.length+tail.length=c*τ.size) (hc:N.length<=c) :
  Grown X ⟨dw X.s X.h.next (.at x c),⟨tr,X.h.next+1⟩,dp X.w x (.cells (cs++tail).toArray ty (0,0)),X.A⟩ τ N (.slice (some ⟨x,0,none⟩) N.length c):=by
 have avk:=Tr.d6 FT X.h.tr b none avW hk;have hg:=Tr.d6 FT avW X.h.next _ tr ht;have aS:=H.bound hb hs;have hbn:=H.lt b _ hb;have sn:X.s X.h.next=none:=by cases q:X.s X.h.next with|none=>rfl|some l=>have:=H.eh _ _ q;omega
 have old:∀j l,X.s j=some l->dw X.s X.h.next (.at x c) j=some l:=by intro j l h;rw[fL _ _ _ (by rintro rfl;rw[sn]at h;cases h)];exact h
 have alt:∀j o,tr.get j=some o->(j=X.h.next/\o=.arr τ N ty)\/(X.h.tr.get j=some o/\j≠b/\j≠X.h.next):=by grind
 have E:bL X ⟨dw X.s X.h.next (.at x c),⟨tr,X.h.next+1⟩,dp X.w x (.cells (cs++tail).toArray ty (0,0)),X.A⟩:=by
  refine⟨rfl,rfl,rfl,by rw[mz];exact ro _,old,?_,aue,?_,?_,?_,?_,rfl⟩
  .intro i l hi h
   replace h:dw X.s X.h.next (.at x c) i=some l:=h
   rw[fL _ _ _ auc]at h;exact h
  .intro k hk hn;show(dp X.w x _).heap[k]?=_;rw[jM,Fr];rintro⟨rfl,_⟩;exact hn ⟨b,_,_,hb,hs,rfl⟩
  .rintro k ⟨j,o,auV,h1,h2,h5⟩;left
   replace h2:dw X.s X.h.next (.at x c) j=some auV:=h2
   rcases alt j o h1 with⟨rfl,rfl⟩|⟨h1,h3,h4⟩
   .rw[iu]at h2;cases h2;exact⟨b,_,_,hb,hs,h5⟩
   .rw[fL _ _ _ h4]at h2;exact⟨j,o,auV,h1,h2,h5⟩
  .intro j n' hj h;obtain⟨o,h,hrow⟩:=oC h;rcases alt j _ h with⟨rfl,_⟩|⟨h1,h3,h4⟩
   .omega
   .show rowOf X.h.tr j=some n';rw[mr h1];exact hrow
  grind
 have Hn:bn ⟨dw X.s X.h.next (.at x c),⟨tr,X.h.next+1⟩,dp X.w x (.cells (cs++tail).toArray ty (0,0)),X.A⟩:=by
  refine⟨?_,?_,?_,?_,by rw[show(dp X.w x (.cells (cs++tail).toArray ty (0,0))).heap.size=X.w.heap.size from mz _ _ _];exact H.alt,?_⟩
  .intro j o l hj hl
   replace hl:dw X.s X.h.next (.at x c) j=some l:=hl
   rcases alt j o hj with⟨rfl,rfl⟩|⟨h1,h3,h4⟩
   .rw[iu]at hl;simp only[dm]at hl;subst hl;refine⟨cs,tail,?_,hf.mono (fun x c q=>q.bU E.keeps),hr,hc⟩;show(dp X.w x _).heap[x]?=_;rw[jM,IO ⟨rfl,aS⟩]
   .rw[fL _ _ _ h4]at hl;refine(H.obj j o l h1 hl).ext (E.fC H) ?_;intro b' hb';show(dp X.w x _).heap[b']?=_;rw[jM,Fr];rintro⟨rfl,_⟩;exact h3 (H.inj j b o _ l _ b' h1 hb hl hs hb' rfl)
  .intro j k o o' auV auW y hj hk e1 e2 f1 f2
   replace e1:dw X.s X.h.next (.at x c) j=some auV:=e1
   replace e2:dw X.s X.h.next (.at x c) k=some auW:=e2
   rcases alt j o hj with⟨rfl,rfl⟩|⟨h1,h3,h4⟩<;>rcases alt k o' hk with⟨rfl,rfl⟩|⟨p1,p3,p4⟩
   .rfl
   .rw[iu]at e1;cases e1;rw[fL _ _ _ p4]at e2;exact absurd (H.inj k b o' _ auW _ y p1 hb e2 hs f2 f1) p3
   .rw[iu]at e2;cases e2;rw[fL _ _ _ h4]at e1;exact absurd (H.inj j b o _ auV _ y h1 hb e1 hs f1 f2) h3
   .rw[fL _ _ _ h4]at e1;rw[fL _ _ _ p4]at e2;exact H.inj j k o o' auV auW y h1 p1 e1 e2 f1 f2
  .intro j o hj;rcases alt j o hj with⟨rfl,rfl⟩|⟨h1,h3,h4⟩
   .simp
   .have:=H.lt j o h1;simp only;omega
  .intro j l hl
   replace hl:dw X.s X.h.next (.at x c) j=some l:=hl
   by_cases q:j=X.h.next
   .simp[q]
   .rw[fL _ _ _ q]at hl;have:=H.eh j l hl;simp only;omega
  .intro j o auV y hj e f
   replace e:dw X.s X.h.next (.at x c) j=some auV:=e
   rcases alt j o hj with⟨rfl,rfl⟩|⟨h1,h3,h4⟩
   .rw[iu]at e;cases e;exact H.loc b _ _ y hb hs f
   .rw[fL _ _ _ h4]at e;exact H.loc j o auV y h1 e f
 refine⟨Hn,E,rfl,?_⟩;have:=xR (X:=⟨dw X.s X.h.next (.at x c),⟨tr,X.h.next+1⟩,dp X.w x (.cells (cs++tail).toArray ty (0,0)),X.A⟩) (n:=X.h.next) (τ:=τ) (N:=N) (ty:=ty) (l:=.at x c) (by rw[hg,IO rfl]) (iu _ _ _);simpa[Loc.slice]using this
theorem Grown.none{X X₁:Cx}(aur:bL X X₁)(auC:bn X₁)(hn:X₁.h.next=X.h.next){τ:Sh}{ty:TypeId}{tr:Tr cp}(ht:Tr.set FT X₁.h.tr X₁.h.next (some (.arr τ [] ty))=some tr) :
  Grown X ⟨dw X₁.s X₁.h.next .nil,⟨tr,X₁.h.next+1⟩,X₁.w,X₁.A⟩ τ [] (.slice none 0 0):=by
 obtain⟨E,H⟩:=auC.void ht;have hg:=Tr.d6 FT X₁.h.tr X₁.h.next _ tr ht;refine⟨H,aur.trans E,aur.A,?_⟩;have:=xR (X:=⟨dw X₁.s X₁.h.next .nil,⟨tr,X₁.h.next+1⟩,X₁.w,X₁.A⟩) (τ:=τ) (N:=[]) (ty:=ty) (by grind) (iu _ _ _);rw[<-hn];simpa[Loc.slice]using this
theorem Zoj{P:Program}{sh:TypeId->Option Sh}{X:Cx}(H:bn X){ts:Array TypeId}{ty:TypeId}{su x v:AV}{g:Bool}{h':Hp}(e:Jp P sh X.h ts su x=some (g,v,h'))(hgd:g=true){U Y:Value}(R:Rel X su U)(RY:Rel X x Y) :
  ∃X' V,(Builtin.append_ ts ty #[U,Y]).run P X.w=.ok V X'.w/\X'.h=h'/\X'.A=X.A/\bn X'/\bL X X'/\Rel X' v V:=by
 subst hgd;unfold Jp at e;split at e<;>try cases e
 rename_i t0 t1 ht0 ht1;have ht0:ts[0]?=some t0:=by rw[fc]at ht0;simpa using ht0
 have ht1:ts[1]?=some t1:=by rw[fc]at ht1;simpa using ht1
 split at e<;>try cases e
 rename_i elem d1 hu0 hu1;split at e<;>try cases e
 rename_i τ sz z by_ hd1 hsh hs hz hby;split at e<;>try cases e
 rename_i L ob M hzl hsz hbase hsrc;split at e<;>try cases e
 rename_i avW hk;split at e<;>try cases e
 rename_i tr ht;simp only[dm,asg]at e;obtain⟨hroom,rfl,rfl⟩:=e;have hsz:=db hsz;subst hsz;have hzl:=db hzl;have hd:∀k,d1≠.int k:=by intro k q;subst q;simp[af9]at hd1
 obtain⟨info,hi,rfl⟩:∃info,P.info? elem=some info/\info.bytes=by_:=by unfold lV at hby;cases hi:P.info? elem<;>simp[hi]at hby;exact⟨_,rfl,hby⟩
 obtain⟨r1,r2⟩:=oY hroom;simp only[IS,bF]at r1 r2;obtain⟨ms,hm,hlen,hfirst⟩:=(arT H hsrc RY).run (P:=P);have bare:∀X₁:Cx,bL X X₁->bn X₁->X₁.h=⟨avW,X.h.next⟩->X₁.w=X.w->L=[]->U=.slice none 0 0 ->
   ∃X' V,(Builtin.append_ ts ty #[U,Y]).run P X.w=.ok V X'.w/\X'.h=⟨tr,X.h.next+1⟩/\X'.A=X.A/\bn X'/\bL X X'/\Rel X' (.hd X.h.next τ) V:=by
  intro X₁ aur auC hX hw hL hU;subst hL;subst hU;rcases Or M.length with q|q
  .have:M=[]:=AC q;subst this;have G:=Grown.none aur auC (by rw[hX]) (τ:=τ) (ty:=elem) (tr:=tr) (by rw[hX];exact ht);refine⟨_,_,?_,by rw[hX],G.A,G.H,G.E,G.R⟩;have:=Zrb (ty:=ty) ht0 ht1 hu0 hu1 hd hs (hlen X.w) (hfirst X.w rfl);rw[this];simp[hw]
  .obtain⟨c,hc,d,rest,hr,hrun⟩:=Ztc (ty:=ty) (X:=X) (base:=none) (sLen:=0) (sCap:=0) (old:=[]) ht0 ht1 hu0 hu1 hd hs hz hi hzl (hlen X.w) auc (by simpa using r1) (by simpa using r2) (fun d=>by simp[Builtin.firstCells]) (fun d=>hfirst _ rfl);have G:=Grown.grow (N:=M) (ty:=elem) (tr:=tr) (d:=d) H aur auC (by rw[hX]) hw (by rw[hX];exact ht) hm (by simpa using hr) (by simpa using hc);refine⟨_,_,?_,by rw[hX],G.A,G.H,G.E,G.R⟩;rw[hrun];simp[hw]
 have blk:∀(b x c:Nat) (auE:List τ.T) (n:Nat),X.h.tr.get b=some (.arr τ auE elem)->X.s b=some (.at x c)->Tr.set FT X.h.tr b none=some avW->L=auE.take n->n<=auE.length->U=.slice (some ⟨x,0,none⟩) n c ->
   ∃X' V,(Builtin.append_ ts ty #[U,Y]).run P X.w=.ok V X'.w/\X'.h=⟨tr,X.h.next+1⟩/\X'.A=X.A/\bn X'/\bL X X'/\Rel X' (.hd X.h.next τ) V:=by
  intro b x c auE n hb hsb hkb hL hn hU;subst hU;have hLl:L.length=n:=by rw[hL];simp;omega
  obtain⟨cs,tail,q1,q2,q3,q4⟩:=H.obj b _ _ hb hsb;have hcl:=cF.length (fun x c=>Cs.length) q2;have hml:=cF.length (fun x c=>Cs.length) hm;have htk:cF (Cs X.w X.out τ) L (cs.take (n*τ.size)):=by rw[hL];exact cF.take (fun x c=>Cs.length) n q2
  have htl:=cF.length (fun x c=>Cs.length) htk;have hnm:n*τ.size<=cs.length:=by rw[hcl];exact asm _ hn
  have hall:cF (Cs X.w X.out τ) (L++M) (cs.take (n*τ.size)++ms):=htk.append hm;by_cases hfit:n+M.length<=c
  .have hfc:n*τ.size+ms.length<=(cs++tail).length:=by rw[bF,q3,hml,<-asC];exact asm _ hfit
   obtain⟨ds,hds,hst⟩:=ql (P:=P) (off:=n*τ.size) ms 0 X.w _ q1 (by simpa using hfc) (fun V hV=>cF.one hm V hV);have hdsE:ds=(cs.take (n*τ.size)++ms++(cs++tail).drop (n*τ.size+ms.length)).toArray:=by apply ata.1;rw[hds];simp only[atf];rw[asS hnm]
   subst hdsE;have G:=Grown.fit (N:=L++M) H hb hsb hkb ht hall (tail:=(cs++tail).drop (n*τ.size+ms.length)) (by simp only[bF,asR,dK]at hfc |-;omega) (by simp;omega);refine⟨_,_,?_,rfl,G.A,G.H,G.E,G.R⟩;have:=Zvh (ty:=ty) ht0 ht1 hu0 hu1 hd hs (hlen X.w) hfit (hfirst X.w rfl) (b:=x) (off:=0) (by simpa using hst);rw[this];simp[hLl]
  .have hold:∀d,(Builtin.firstCells τ.size n (.slice (some ⟨x,0,none⟩) n c)).run P { X.w with drawn:=d }=.ok (cs.take (n*τ.size)).toArray { X.w with drawn:=d }:=by intro d;simp only[Builtin.firstCells,loadCells];rw[Ev.run_loadCells (P:=P) (w:={ X.w with drawn:=d }) q1 _ 0 #[] (by simp;omega)];congr 2;simp only[atf,PP,List.drop_zero];rw[asS hnm]
   obtain⟨c',hc',d,rest,hr,hrun⟩:=Ztc (ty:=ty) (X:=X) (base:=some ⟨x,0,none⟩) (sLen:=n) (sCap:=c) ht0 ht1 hu0 hu1 hd hs hz hi hzl (hlen X.w) auc (by rw[<-hLl];exact r1) (by rw[<-hLl];exact r2) hold (fun d=>hfirst _ rfl);obtain⟨aur,auC⟩:=H.kill hsb hkb;have G:=Grown.grow (N:=L++M) (ty:=elem) (tr:=tr) (d:=d) (cs:=cs.take (n*τ.size)++ms) (rest:=rest) (c:=c') H aur auC rfl rfl ht hall (by rw[bF,hLl];exact hr) (by rw[bF,hLl];exact hc');refine⟨_,_,?_,rfl,G.A,G.H,G.E,G.R⟩;rw[hrun];simp[hLl]
 unfold abS at hbase;split at hbase<;>try cases hbase
 .simp only[Fu,dm]at hk;subst hk;exact bare X (bL.refl X) H rfl rfl rfl R
 .rename_i b awp;split at hbase<;>try cases hbase
  rename_i τ' auE ty' hb;split at hbase<;>try cases hbase
  rename_i he hty;have hty:=db hty;subst hty;have:=Sh.ig he;subst this;simp only[Fu]at hk;obtain⟨l,h1,_,h2⟩:=R;have hV:=h2 _ (jX hb);cases l with
  |nil=>have hL:auE=[]:=H.obj b _ _ hb h1;subst hL;obtain⟨aur,auC⟩:=H.kill h1 hk;exact bare _ aur auC rfl rfl rfl hV
  |gW _ _ _=>exact(H.obj b _ _ hb h1:False).elim|«at» x c=>exact blk b x c auE auE.length hb h1 hk (by rw[cV];rfl) (ro _) hV
 .rename_i b awp off len;split at hbase<;>try cases hbase
  split at hbase<;>try cases hbase
  rename_i τ' auE ty' hb;split at hbase<;>try cases hbase
  rename_i he avj hty;have hty:=db hty;subst hty;have:=Sh.ig avj;subst this;have:=Sh.ig he;subst this;simp only[Fu]at hk;obtain⟨l,a,c,h1,rfl,h3,h4,h5,h6⟩:=R;have hV:=h5 rfl;have hle:=h6 _ (jX hb);cases l with
  |nil=>
   have hL:auE=[]:=H.obj b _ _ hb h1;subst hL;obtain⟨aur,auC⟩:=H.kill h1 hk;have:len=0:=by simp only[If]at hle;omega
   subst this;exact bare _ aur auC rfl rfl rfl hV
  |gW _ _ _=>exact(H.obj b _ _ hb h1:False).elim|«at» x k=>exact blk b x k auE len hb h1 hk rfl auc hV
def xD(h:Hp)(τ:Sh):Nat->List AV->Option (List τ.T×Hp)
 |0,l=>match l with|[]=>some ([],h)|_=>none
 |n+1,l=>match fN true h τ l with
  |some (x,r,h)=>match xD h τ n r with|some (xs,h)=>some (x::xs,h)|none=>none
  |none=>none
theorem acK{τ:Sh}:∀{n:Nat}{l:List AV}{X:Cx}{L:List τ.T}{h':Hp}{cs:mt},bn X->xD X.h τ n l=some (L,h')->cE X l cs ->
  gn X h'/\L.length=n/\cF (Cs X.w (Cx.out ⟨X.s,h',X.w,X.A⟩) τ) L cs
 |0,l,X,L,h',cs,H,e,R=>by simp only[xD]at e;split at e<;>cases e;exact⟨gn.refl H,rfl,R⟩
 |n+1,l,X,L,h',cs,H,e,R=>by
  simp only[xD]at e;split at e<;>try cases e
  rename_i x r h₁ hf;split at e<;>cases e;rename_i xs hx;obtain⟨F,c,t,rfl,q1,q2⟩:=rY H hf R;obtain⟨auz,k1,k2⟩:=acK F.H hx q2;exact⟨F.trans auz,by simp[k1],c,t,rfl,q1.bU auz.E.keeps,k2⟩
def Hy(h:Hp):AV->Option (AV×Hp)
 |.vw b τ off len=>match off with
  |0=>match h.tr.get b with
   |some o=>match o with
    |.cells vs _=>match Tr.set FT h.tr b none with
     |some tr=>match xD ⟨tr,h.next⟩ τ len vs with|some (L,h')=>some (.fz τ L,h')|none=>none
     |none=>none
    |_=>none
   |none=>none
  |_=>none
 |_=>none
theorem ac9{X:Cx}(H:bn X){x v:AV}{h':Hp}(e:Hy X.h x=some (v,h')){V:Value}(R:Rel X x V):gn X h'/\Rel ⟨X.s,h',X.w,X.A⟩ v V:=by
 unfold Hy at e;split at e<;>try cases e
 rename_i b τ off len;split at e<;>try cases e
 split at e<;>try cases e
 rename_i o hb;split at e<;>try cases e
 rename_i vs ty;split at e<;>try cases e
 rename_i tr ht;split at e<;>cases e;rename_i L hr;obtain⟨l,a,c,g1,rfl,g3,g4,g5,g6⟩:=R;obtain⟨x,k,cs,rfl,q1,q2⟩:=H.obj b _ l hb g1;have F:=gn.kill H g1 ht;obtain⟨auz,k1,k2⟩:=acK (X:=⟨X.s,⟨tr,X.h.next⟩,X.w,X.A⟩) F.H hr (q2.ext (F.E.fC H));have auA:=F.trans auz;refine⟨auA,a,len,c,rfl,k1.symm,g3,fun hne=>?_⟩;have hpos:0<len:=by grind
 obtain⟨x',k',e1,e2⟩:=g4 hpos;cases e1;refine⟨x,0,cs,by grind,?_,k2,_,ty,_,q1,fun j u hu=>by grind⟩;rintro(r|⟨j,o',c',p1,p2,p3⟩)
 .exact H.loc b _ _ x hb g1 rfl r
 .have p1':=auz.sub j o' p1;have hg:=Tr.d6 FT X.h.tr b none tr ht j
  replace p1':tr.get j=some o':=p1'
  rw[hg]at p1';by_cases hj:j=b
  .rw[IO hj]at p1';cases p1'
  .rw[Fr hj]at p1';exact hj (H.inj j b o' _ c' _ x p1' hb p2 g1 p3 rfl)
def Ui(P:Program)(sh:TypeId->Option Sh)(h:Hp)(ts:Array TypeId)(su x:AV):Option (Bool×AV×Hp):=match Jp P sh h ts su x with|some r=>some r|none=>match Hy h x with|some (x',h')=>Jp P sh h' ts su x'|none=>none
theorem aoK{P:Program}{sh:TypeId->Option Sh}{X:Cx}(H:bn X){ts:Array TypeId}{ty:TypeId}{su x v:AV}{g:Bool}{h':Hp}(e:Ui P sh X.h ts su x=some (g,v,h'))(hgd:g=true){U Y:Value}(R:Rel X su U)(RY:Rel X x Y) :
  ∃X' V,(Builtin.append_ ts ty #[U,Y]).run P X.w=.ok V X'.w/\X'.h=h'/\X'.A=X.A/\bn X'/\bL X X'/\Rel X' v V:=by
 unfold Ui at e;split at e
 .rename_i r hr;cases e;exact Zoj H hr hgd R RY
 .split at e<;>try cases e
  rename_i x' h₁ hx;obtain⟨F,Q⟩:=ac9 H hx RY;obtain⟨X',V,a1,a2,a3,a4,a5,a6⟩:=Zoj F.H e hgd (R.ext (F.E.fC H)) Q;exact⟨X',V,a1,a2,a3,a4,F.E.trans a5,a6⟩
open Go.Proofs.YtmkbdfidnfmgmaaGreat.Ev (Tr Tr.d6 nth fc takeN iV kW kX dp jM mz run_underlying run_typeInfo run_sizeOf ie iZ places rS lV oE nX ql JD vB)
def jf:Nat->mt->mt
 |0,_=>[]|n+1,z=>z++jf n z
theorem Jr(n:Nat)(z:mt):(jf n z).length=n*z.length:=by induction n with|zero=>simp[jf]|succ n ih=>simp[jf,ih,asC,Nat.add_comm]
theorem alo(n m:Nat)(z:mt):jf (n+m) z=jf n z++jf m z:=by induction n with|zero=>simp[jf]|succ n ih=>rw[show n+1+m=(n+m)+1 by omega];simp[jf,ih]
theorem ade(z:mt):∀(n i:Nat),i<n*z.length->(jf n z)[i]?=z[i % z.length]?
 |0,i,h=>by omega|n+1,i,h=>by
  simp only[jf];rcases adc i z.length with q|q
  .rw[Ne auc,atV q]
  .rw[In auc,ade z n (i-z.length) (by grind)];congr 1;rw[<-Nat.mod_eq_sub_mod q]
theorem Zy9(n k:Nat)(zero:Array Value)(hk:k=n*zero.size):((Array.range k).map (zero[· % zero.size]!))=(jf n zero.toList).toArray:=by
 apply ata.1;apply asD;intro i;have hs:zero.toList.length=zero.size:=asT;simp;rcases adc i k with q|q
 .have hz0:0<zero.size:=by grind
  rw[atd q,ade _ n i (by grind)];have hm:=Nat.mod_lt i hz0;simp[hs,hm]
 .rw[asj (by grind),asj (by rw[Jr,hs];omega)];rfl
theorem cF.rep{α:Type}{R:α->mt->Prop}{x:α}{z:mt}(h:R x z):∀n,cF R (List.replicate n x) (jf n z)
 |0=>rfl|n+1=>⟨z,jf n z,rfl,h,cF.rep h n⟩
theorem Zy2{P:Program}{t:TypeId}{z:AV}{k:Nat}{w:World}{X:Cx}(hz:mZ P t=some z) :
  ∃zero:Array Value,((if k=0 then pure #[]else do pure (<- zeroValue t).cells).run P w=.ok zero w)/\(k≠0->∃Z,zero=Z.cells/\Rel X z Z):=by
 by_cases hk:k=0
 .exact⟨#[],by simp[hk],fun h=>absurd hk h⟩
 .obtain⟨Z,h1,h2⟩:=qi hz X w;refine⟨Z.cells,?_,fun _=>⟨Z,rfl,h2⟩⟩;rw[Fr hk];simp[h1]
def iI(h:Hp)(τ:Sh):Nat->List AV->Option (List τ.T)
 |0,l=>match l with|[]=>some []|_=>none
 |n+1,l=>match fN false h τ l with
  |some (x,r,_)=>match iI h τ n r with|some xs=>some (x::xs)|none=>none
  |none=>none
theorem acJ{X:Cx}(H:bn X){τ:Sh}:∀{n:Nat}{l:List AV}{L:List τ.T}{cs:mt},iI X.h τ n l=some L->cE X l cs->L.length=n/\cF (Cs X.w X.out τ) L cs
 |0,l,L,cs,e,R=>by simp only[iI]at e;split at e<;>cases e;exact⟨rfl,R⟩
 |n+1,l,L,cs,e,R=>by
  simp only[iI]at e;split at e<;>try cases e
  rename_i x r h₁ hf;split at e<;>try cases e
  rename_i xs hx;have hs:=JI hf;subst hs;obtain⟨F,c,t,rfl,q1,q2⟩:=rY H hf R;obtain⟨k1,k2⟩:=acJ H hx q2;exact⟨by simp[k1],c,t,rfl,q1,k2⟩
def Sc:Nat->List AV->List AV
 |0,_=>[]|n+1,z=>z++Sc n z
theorem adf{X:Cx}{z:List AV}{Z:mt}(R:cE X z Z):∀n,cE X (Sc n z) (jf n Z)
 |0=>rfl|n+1=>R.append (adf R n)
def vT(h:Hp)(n:Nat)(elem:TypeId)(len sz:Nat)(r:List AV):Option Sh->Option (Bool×cp×AV)
 |some τ=>match Nat.beq τ.size sz with
  |true=>match iI h τ len r with|some L=>some (true,.arr τ L elem,.hd n τ)|none=>some (true,.cells r elem,.vw n τ 0 len)
  |false=>none
 |none=>some (true,.cells r elem,.vw n .bool 0 len)
def o8(P:Program)(sh:TypeId->Option Sh)(T:Tr AV)(h:Hp)(n:Nat):Op->Option (Bool×cp×AV)
 |.alloc elem=>match mZ P elem with|some z=>some (true,.cells (jh z) elem,.ptr n 0)|none=>none
 |.box elem x=>match dX T x with|some u=>some (true,.cells (jh u) elem,.ptr n 0)|none=>none
 |.makeSlice t l c=>match P.underlying t,dX T l,dX T c with
  |some (.slice elem),some (.int _ li),some (.int _ ci)=>match sh elem,lV P elem,ie P elem,mZ P elem with
   |some τ,some by_,some sz,some z=>match Nat.beq τ.size sz,Nat.beq (jh z).length sz,Nat.blt 0 by_,Nat.blt 0 sz,qv τ (jh z)with|true,true,true,true,some []=>some (both (decide (0<=li)) (both (decide (li<=ci)) (decide ((by_:Int)*ci<=281474976710656))),.arr τ (List.replicate li.toNat τ.zero) elem,.hd n τ)|_,_,_,_,_=>none
   |_,_,_,_=>none
  |_,_,_=>none
 |.buildSlice t len parts=>match P.underlying t,oS T parts.toList with
  |some (.slice elem),some ps=>match ie P elem,mZ P elem with
   |some sz,some z=>match Nat.ble (len*sz) 16777216,Nat.beq (jh z).length sz,sW (fun i=>some (i*sz,sz)) (Sc len (jh z)) ps with|true,true,some r=>vT h n elem len sz r (sh elem)|_,_,_=>none
   |_,_=>none
  |_,_=>none
 |.makeMap t r=>match r,P.underlying t with
  |none,some (.map kt et)=>match P.underlying kt,sh et with|some (.int κ),some σ=>some (true,.map κ σ [],.mp n)|_,_=>none
  |_,_=>none
 |_=>none
structure Made(X X':Cx)(n:Nat)(c:Nat)(ob:cp)(ob':Obj):Prop where
 E:jm X X'
 w:X'.w.heap=X.w.heap.push ob'
 s:X'.s n=some (.at X.w.heap.size c)
 o:X'.h.tr.get n=some ob
theorem Zx7{P:Program}{sh:TypeId->Option Sh}{T:Tr AV}{n:Nat}{o:Oper}{g:Bool}{ob:cp}{v:AV}{X:Cx}(H:bn X)(e:o8 P sh T X.h n o.op=some (g,ob,v))(hg:g=true){a:Act}(hO:pT X T a o.op) :
  ∃c ob' V,(execOp a.eval o).run P X.w=.ok (.value V) { X.w with heap:=X.w.heap.push ob' }/\∀X',Made X X' n c ob ob'->jd X' (.at X.w.heap.size c) ob/\Rel X' v V:=by
 subst hg;have top:∀{X':Cx}{c:Nat}{ob:cp}{ob':Obj},Made X X' n c ob ob'->X'.w.heap[X.w.heap.size]?=some ob':=by intro X' c ob ob' M;rw[M.w];simp
 unfold o8 at e;split at e
 .rename_i elem ho;split at e<;>try cases e
  rename_i z hz;obtain⟨Z,h1,h2⟩:=qi hz X X.w;refine⟨0,.cells Z.cells elem (0,0),.pointer (some ⟨X.w.heap.size,0,none⟩),?_,fun X' M=>⟨⟨_,0,Z.cells.toList,rfl,by rw[top M],(lW h2).ext M.E⟩,_,_,M.s,rfl⟩⟩;unfold execOp;rw[ho];simp only[Instr.alloc,Sem.run_bind,h1,Result.andThen_ok,newVar,newRow,run_newObj,Sem.run_pure]
 .rename_i elem x ho;split at e<;>try cases e
  rename_i u hu;rw[ho]at hO;have hx:=hO x (by simp[Op.operands]) u hu;refine⟨0,.cells (a.eval x).cells elem (0,0),.pointer (some ⟨X.w.heap.size,0,none⟩),?_,fun X' M=>⟨⟨_,0,(a.eval x).cells.toList,rfl,by rw[top M],(lW hx).ext M.E⟩,_,_,M.s,rfl⟩⟩;unfold execOp;rw[ho];simp only[Instr.box,Sem.run_bind,Result.andThen_ok,newVar,newRow,run_newObj,Sem.run_pure]
 .rename_i t l c ho;rw[ho]at hO;split at e<;>try cases e
  rename_i elem kl li kc ci hu hl hc;have hl':=hO l (by simp[Op.operands]) _ hl;have hc':=hO c (by simp[Op.operands]) _ hc;split at e<;>try cases e
  rename_i τ by_ sz z hsh hb hs hz;split at e<;>try cases e
  rename_i q1 q2 q3 q4 q5;simp only[dm,asg]at e;obtain⟨hgd,rfl,rfl⟩:=e;have q1:=db q1;subst q1;have q2:=db q2;rw[atP]at q3 q4;obtain⟨g1,g2⟩:=oY hgd;obtain⟨g2,g3⟩:=oY g2;simp only[IS]at g1 g2 g3;obtain⟨info,hi,rfl⟩:∃info,P.info? elem=some info/\info.bytes=by_:=by unfold lV at hb;cases hi:P.info? elem<;>simp[hi]at hb;exact⟨_,rfl,hb⟩
  obtain⟨l',rfl⟩:=By g1;obtain⟨c',rfl⟩:=By (show 0<=ci by omega);have hcb:c'<=281474976710656:=by have h1:(info.bytes:Int)*(c':Int)=((info.bytes*c':Nat):Int):=(Int.natCast_mul _ _).symm;rw[h1]at g3;have h2:=asm c' q3;omega
  have hwl:IntKind.i64.wrap (l':Int)=l':=IntWalk.i64_in _ auc;have hwc:IntKind.i64.wrap (c':Int)=c':=IntWalk.i64_in _ auc;obtain⟨zero,hz1,hz2⟩:=Zy2 (k:=c'*τ.size) (X:=X) (w:=X.w) hz;have hck:c'*τ.size=0->c'=0:=fun h=>by rcases Nat.mul_eq_zero.1 h with r|r<;>omega
  obtain⟨Z,hZ0,RZ⟩:=qi hz X X.w;have hzc:(Array.range (c'*τ.size)).map (zero[· % zero.size]!)=(jf c' Z.cells.toList).toArray:=by
   by_cases hk:c'*τ.size=0
   .have:=hck hk;subst this;simp[jf]
   .obtain⟨Z',rfl,RZ'⟩:=hz2 hk;rw[Fr hk]at hz1;simp only[Sem.run_bind,hZ0,Result.andThen_ok,Sem.run_pure,atw,atF]at hz1;rw[<-hz1];exact Zy9 c' _ _ (by rw[<-asT,(lW RZ).length,q2])
  have hzl:Z.cells.toList.length=τ.size:=by rw[(lW RZ).length,q2]
  refine⟨c',.cells (jf c' Z.cells.toList).toArray elem (0,0),.slice (some ⟨X.w.heap.size,0,none⟩) l' c',?_,fun X' M=>⟨?_,?_⟩⟩
  .unfold execOp;rw[ho];simp only[show a.eval l=_ from hl',show a.eval c=_ from hc'];have hnot:¬(((decide ((l':Int)<0\/False)||false)=true)):=aue
   have h1:decide ((c':Int)<0)=false:=jC auc;have h2:decide ((info.bytes:Int)*(c':Int) > 2^48)=false:=jC (by show ¬((281474976710656:Int)<(info.bytes:Int)*(c':Int));omega);have h3:decide ((l':Int)<0)=false:=jC auc;have h4:decide ((l':Int) > (c':Int))=false:=jC auc;simp only[Instr.makeSlice,asInt,asIntOf,Sem.run_bind,run_underlying hu,Result.andThen_ok,Sem.run_pure,run_typeInfo hi,hwl,hwc];rw[Fr (by rw[h1,h2,h3,h4];decide)];simp only[ST,run_askRoom,Result.andThen_ok,run_sizeOf hs,Sem.run_bind,Sem.run_pure];by_cases hk:c'*τ.size=0
   .rw[IO hk]at hz1 |-;simp only[Sem.run_pure,atw,atF]at hz1;subst hz1;simp only[Sem.run_bind,Sem.run_pure,Result.andThen_ok,newRow,run_newObj,hzc]
   .rw[Fr hk]at hz1 |-;simp only[Sem.run_bind,hZ0,Result.andThen_ok,Sem.run_pure,atw,atF]at hz1 |-;subst hz1;simp only[newRow,Sem.run_bind,run_newObj,Sem.run_pure,Result.andThen_ok,hzc]
  .obtain⟨zc,zr,e1,e2,e3⟩:=T3 (X:=X) (w:=X'.w) (A:=X'.out) q5 (lW RZ);have:zr=[]:=e3;subst this;rw[di]at e1;refine⟨jf l' Z.cells.toList,jf (c'-l') Z.cells.toList,?_,?_,?_,by simp;omega⟩
   .rw[top M,<-alo,show l'+(c'-l')=c' by omega]
   .rw[e1,ST];exact cF.rep e2 l'
   .rw[Jr,Jr,hzl,<-asC];congr 1;omega
  .have:=xR M.o M.s;simpa[Loc.slice]using this
 .rename_i t len parts ho;rw[ho]at hO;split at e<;>try cases e
  rename_i elem ps hu hps;split at e<;>try cases e
  rename_i sz z hs hz;split at e<;>try cases e
  rename_i r q2 q3 hr;have q2:=abs q2;have q3:=db q3;have hmem:∀x∈parts.toList.map (·.2),x∈(Op.buildSlice t len parts).operands:=by intro x hx;simp only[Op.operands,atY];exact hx
  have hP:=TV hps (fun x hx=>hO x (hmem x hx));obtain⟨zero,hz1,hz2⟩:=Zy2 (k:=len*sz) (X:=X) (w:=X.w) hz;obtain⟨Z,hZ0,RZ⟩:=qi hz X X.w;have hzl:Z.cells.toList.length=sz:=by rw[(lW RZ).length,q3]
  have hzc:(Array.range (len*sz)).map (zero[· % zero.size]!)=(jf len Z.cells.toList).toArray:=by
   by_cases hk:len*sz=0
   .have:jf len Z.cells.toList=[]:=AC (by rw[Jr,hzl];exact hk);rw[this,hk];simp
   .obtain⟨Z',rfl,RZ'⟩:=hz2 hk;rw[Fr hk]at hz1;simp only[Sem.run_bind,hZ0,Result.andThen_ok,Sem.run_pure,atw,atF]at hz1;rw[<-hz1];exact Zy9 len _ _ (by rw[<-asT,hzl])
  obtain⟨rs,f1,f2⟩:=Jz _ _ _ _ _ _ hr hP (adf (lW RZ) len);have hrun:(execOp a.eval o).run P X.w=.ok (.value (.slice (some ⟨X.w.heap.size,0,none⟩) len len)) { X.w with heap:=X.w.heap.push (.cells rs.toArray elem (0,0)) }:=by
   unfold execOp;rw[ho];have hp:((parts.map fun x=>(x.1,a.eval x.2)).toList)=parts.toList.map fun x=>(x.1,a.eval x.2):=aue
   simp only[Instr.buildSlice,Sem.run_bind,run_underlying hu,Result.andThen_ok,run_sizeOf hs];rw[Fr auc];simp only[Sem.run_pure,Result.andThen_ok,Sem.run_bind];rw[hp];by_cases hk:len*sz=0
   .rw[IO hk]at hz1 |-;simp only[Sem.run_pure,atw,atF]at hz1;subst hz1;simp only[Sem.run_bind,Sem.run_pure,Result.andThen_ok,hzc,f1,newRow,run_newObj]
   .rw[Fr hk]at hz1 |-;simp only[Sem.run_bind,hZ0,Result.andThen_ok,Sem.run_pure,atw,atF]at hz1 |-;subst hz1;simp only[hzc,f1,newRow,Sem.run_bind,run_newObj,Sem.run_pure,Result.andThen_ok]
  have wr:∀(X':Cx) (τ:Sh),Made X X' n len (.cells r elem) (.cells rs.toArray elem (0,0))->jd X' (.at X.w.heap.size len) (.cells r elem)/\Rel X' (.vw n τ 0 len) (.slice (some ⟨X.w.heap.size,0,none⟩) len len):=by intro X' τ M;refine⟨⟨_,len,rs,rfl,by rw[top M],f2.ext M.E⟩,_,_,_,M.s,rfl,ro _,fun _=>⟨_,_,rfl,aue⟩,fun _=>rfl,fun n' q=>?_⟩;rw[mr M.o]at q;cases q
  unfold vT at e;split at e
  .rename_i τ hsh;split at e<;>try cases e
   rename_i q1;have q1:=db q1;subst q1;split at e
   .rename_i L hL;cases e;obtain⟨k1,k2⟩:=acJ H hL f2;refine⟨len,.cells rs.toArray elem (0,0),_,hrun,fun X' M=>⟨?_,?_⟩⟩
    .refine⟨rs,[],?_,k2.mono (fun x c q=>q.bU M.E.K),?_,by rw[k1];exact ro _⟩
     .rw[top M];simp
     .rw[cF.length (fun x c=>Cs.length) k2,k1];simp
    .have:=xR M.o M.s;rw[k1]at this;simpa[Loc.slice]using this
   .cases e;exact⟨len,.cells rs.toArray elem (0,0),_,hrun,fun X' M=>wr X' _ M⟩
  .cases e;exact⟨len,.cells rs.toArray elem (0,0),_,hrun,fun X' M=>wr X' _ M⟩
 .rename_i t r ho;split at e<;>try cases e
  rename_i kt et hu;split at e<;>cases e;rename_i κ σ hk hs;refine⟨0,.map #[] 0,.map (some X.w.heap.size),?_,fun X' M=>⟨⟨_,0,#[],0,rfl,top M,[],.nil,rfl,.nil,aue,.nil⟩,_,_,M.s,rfl⟩⟩;unfold execOp;rw[ho];simp only[Option.map_none,Instr.makeMap,Sem.run_bind,run_newObj,Result.andThen_ok,Sem.run_pure]
 .cases e
open Go.Proofs.YtmkbdfidnfmgmaaGreat.Ev (Tr nth fc run_underlying)
def Us(P:Program)(t:TypeId)(u v:AV):Option Bool:=match P.underlying t with
 |some d=>match d with
  |.int _=>match u,v with
   |.int k a,.int k' b=>match lu k k' with|true=>some (decide (a=b))|false=>none
   |_,_=>none
  |.bool=>match u,v with|.bool a,.bool b=>some (a == b)|_,_=>none
  |.string=>match u,v with|.str a,.str b=>some (a == b)|_,_=>none
  |_=>none
 |none=>none
theorem alY{P:Program}{t:TypeId}{u v:AV}{b:Bool}(e:Us P t u v=some b){X:Cx}{U V:Value}(h1:Rel X u U)(h2:Rel X v V)(n:Nat)(w:World):(Op.equalIn (n+1) t U V).run P w=.ok b w:=by
 unfold Us at e;split at e<;>try cases e
 rename_i d hd;have hr:=run_underlying hd w;split at e
 .split at e<;>try cases e
  rename_i k a k' b;split at e<;>cases e;rename_i hk;have:=na hk;subst this;rw[show U=_ from h1,show V=_ from h2];simp only[Op.equalIn,Sem.run_bind,hr,Result.andThen_ok,aub,Sem.run_pure];rfl
 .split at e<;>cases e;rw[show U=_ from h1,show V=_ from h2];simp only[Op.equalIn,Sem.run_bind,hr,Result.andThen_ok,aub,Sem.run_pure]
 .split at e<;>cases e;rw[show U=_ from h1,show V=_ from h2];simp only[Op.equalIn,Sem.run_bind,hr,Result.andThen_ok,aub,Sem.run_pure]
 .cases e
def yp(P:Program)(l m:List AV):List Field->Option Bool
 |[]=>some true|f::fs=>match f.name == "_" with
  |false=>match tO P f.type l f.offset,tO P f.type m f.offset with
   |some u,some v=>match Us P f.type u v with
    |some b=>match yp P l m fs with|some c=>some (both b c)|none=>none
    |none=>none
   |_,_=>none
  |true=>none
theorem ady{P:Program}{l m:List AV}{X:Cx}{xs ys:mt}(h1:cE X l xs)(h2:cE X m ys)(n:Nat)(w:World):∀{fs:List Field}{b:Bool},yp P l m fs=some b ->
  (forIn fs ((none:Option Bool),()) fun f s=>if f.name≠"_" then do
   let a <- part f.type xs.toArray f.offset
   let c <- part f.type ys.toArray f.offset
   let r <- Op.equalIn (n+1) f.type a c
   if(!r)=true then pure (ForInStep.done (some false,()))else pure (ForInStep.yield (none,()))
   else pure (ForInStep.yield (none,())):Sem (Option Bool×Unit)).run P w =
  .ok (if b then(none,())else(some false,())) w
 |[],b,e=>by simp only[yp,dm]at e;subst e;simp|f::fs,b,e=>by
  simp only[yp]at e;split at e<;>try cases e
  rename_i hn;split at e<;>try cases e
  rename_i u v hu hv;split at e<;>try cases e
  rename_i c hc;split at e<;>cases e;rename_i r hr;obtain⟨U,p1,p2⟩:=TF hu h1 w;obtain⟨V,q1,q2⟩:=TF hv h2 w;have e1:=alY hc p2 q2 n w;have hn':f.name≠"_":=by grind
  have ih:=ady h1 h2 n w hr;rw[List.forIn_cons];rw[IO hn'];simp only[Sem.run_bind,p1,Result.andThen_ok,q1,e1];cases c with|true=>exact ih|false=>simp[both]
def RW(P:Program)(op:BinOp)(t:TypeId)(u v:AV):Option (Bool×AV):=match u,v with
 |.agg l,.agg m=>match P.underlying t with
  |some d=>match d with
   |.struct fs=>match P.stoodInHeld t,P.eqGuardType P.depth t,yp P l m fs.toList with
    |false,false,some b=>match op with|.eql=>some (true,.bool b)|.neq=>some (true,.bool (Bool.not b))|_=>none
    |_,_,_=>none
   |_=>none
  |none=>none
 |_,_=>none
theorem akP{P:Program}{op:BinOp}{t:TypeId}{u v r:AV}{g:Bool}(e:RW P op t u v=some (g,r)){X:Cx}{U V:Value}(h1:Rel X u U)(h2:Rel X v V)(x y:Operand)(w:World) :
  ∃R,(do eqGuard op t x y U V;binOp op t U V).run P w=.ok R w/\Rel X r R:=by
 unfold RW at e;split at e<;>try cases e
 rename_i l m;split at e<;>try cases e
 rename_i d hd;split at e<;>try cases e
 rename_i fs;split at e<;>try cases e
 rename_i b hs hg hb;obtain⟨xs,rfl,R1⟩:=h1;obtain⟨ys,rfl,R2⟩:=h2;have hr:=run_underlying hd w;have main:(Op.equal t (.agg xs.toArray) (.agg ys.toArray)).run P w=.ok b w:=by
  have gen:∀n,(Op.equalIn (n+1+1) t (.agg xs.toArray) (.agg ys.toArray)).run P w=.ok b w:=by
   intro n;have:=ady R1 R2 n w hb;have hp:(program:Sem Program).run P w=.ok P w:=aue
   rw[Op.equalIn];simp only[Sem.run_bind,hr,Result.andThen_ok,hp,hs,asL,aua,<-Array.forIn_toList,this];cases b<;>simp
  exact gen 9998
 split at e<;>cases e
 .exact⟨.bool b,by simp[eqGuard,binOp,hg,main],rfl⟩
 .exact⟨.bool (!b),by simp[eqGuard,binOp,hg,main],rfl⟩
def aea(P:Program)(h:Hp)(ts:Array TypeId)(su x:AV):Option (Bool×AV×Hp):=none
theorem apE{P:Program}{X:Cx}(H:bn X){ts:Array TypeId}{avX:TypeId}{su x v:AV}{g:Bool}{h':Hp}(e:aea P X.h ts su x=some (g,v,h'))(hgd:g=true){U Y:Value}(R:Rel X su U)(RY:Rel X x Y) :
  ∃X' V,(Builtin.append_ ts avX #[U,Y]).run P X.w=.ok V X'.w/\X'.h=h'/\X'.A=X.A/\bn X'/\bL X X'/\Rel X' v V:=by cases e
def ad9(P:Program)(h:Hp)(ts:Array TypeId)(u x:AV):Option (AV×Hp):=none
theorem asd{P:Program}{X:Cx}(H:bn X){ts:Array TypeId}{ty:TypeId}{u x v:AV}{h':Hp}(e:ad9 P X.h ts u x=some (v,h')){U Y:Value}(R:Rel X u U)(RY:Rel X x Y) :
  ∃w' V,(Builtin.copy_ ts ty #[U,Y]).run P X.w=.ok V w'/\bn ⟨X.s,h',w',X.A⟩/\bL X ⟨X.s,h',w',X.A⟩/\Rel ⟨X.s,h',w',X.A⟩ v V:=by cases e
def RX(op:UnOp)(u:AV):Option AV:=match op,u with|.neg,.int k n=>some (.int k (k.wrap (0-n)))|.not,.bool b=>some (.bool (!b))|_,_=>none
theorem akR{P:Program}{op:UnOp}{u v:AV}(e:RX op u=some v){X:Cx}{U:Value}(R:Rel X u U)(w:World):∃V,(Op.unary op U).run P w=.ok V w/\Rel X v V:=by
 unfold RX at e;split at e<;>cases e
 .rw[show U=_ from R];exact⟨_,by simp[Op.unary,Op.intArith],rfl⟩
 .rw[show U=_ from R];exact⟨_,by simp[Op.unary],rfl⟩
def PT(P:Program)(src dst:TypeId)(u:AV):Option AV:=match P.underlying src,P.underlying dst with
 |some _,some (.int k)=>match u with|.int _ n=>some (.int k (k.wrap n))|_=>none
 |some .string,some .string=>match u with|.str s=>some (.str s)|_=>none
 |_,_=>none
theorem apD{P:Program}{src dst:TypeId}{u v:AV}(e:PT P src dst u=some v){X:Cx}{U:Value}(R:Rel X u U)(w:World):∃V,(convert src dst U).run P w=.ok V w/\Rel X v V:=by
 unfold PT at e;split at e<;>try cases e
 .rename_i d k hs hd;split at e<;>cases e;rename_i k' n;rw[show U=_ from R];exact⟨_,by cases d<;>simp[convert,run_underlying hs,run_underlying hd,Conv.intToInt],rfl⟩
 .rename_i hs hd;split at e<;>cases e;rw[show U=_ from R];exact⟨_,by simp[convert,run_underlying hs,run_underlying hd],rfl⟩
def PX(s:ByteArray)(n:Nat):Int:=match s[n]? with|some b=>(b.toNat:Int)|none=>0
def Py(P:Program)(t:TypeId)(u i:AV):Option (Bool×AV):=match P.underlying t with
 |some .string=>match u,i with|.str s,.int _ n=>some (an n s.size,.int .u8 (PX s n.toNat))|_,_=>none
 |_=>none
theorem ape{P:Program}{t:TypeId}{u i v:AV}{g:Bool}(e:Py P t u i=some (g,v))(hg:g=true){X:Cx}{U I:Value}(R:Rel X u U)(RI:Rel X i I)(w:World) :
  ∃V,(Instr.index t U I).run P w=.ok V w/\Rel X v V:=by
 subst hg;unfold Py at e;split at e<;>try cases e
 rename_i hu;split at e<;>try cases e
 rename_i s k n;simp only[dm,asg]at e;obtain⟨aS,rfl⟩:=e;obtain⟨m,rfl,hm⟩:=uR aS;rw[show U=_ from R,show I=_ from RI];refine⟨.int .u8 (PX s m),?_,rfl⟩;have hb:s[m]?=some s[m]:=by simp[hm]
 simp[Instr.index,asIntOf,run_underlying hu,PX,hb,hm]
theorem ad6{P:Program}{X:Cx}{k:IntKind}{w:World}:∀{l:List AV}{cs:mt}{a r:Int},yu k a l=some r->cE X l cs->(cs.foldlM Builtin.max2 (.int k a)).run P w=.ok (.int k r) w
 |[],_,a,r,e,R=>by simp only[yu,dm]at e;subst e;rw[show _=[]from R];simp|v::l,_,a,r,e,⟨u,t,rfl,h1,h2⟩=>by
  simp only[yu]at e;split at e<;>try cases e
  rename_i k' b;rw[show u=_ from h1,List.foldlM_cons];have:=ad6 (P:=P) (w:=w) e h2;simp only[Builtin.max2,Sem.run_bind,Sem.run_pure,Result.andThen_ok];rw[<-this];congr 2;unfold fD
  grind
theorem ad5{P:Program}{X:Cx}{k:IntKind}{w:World}:∀{l:List AV}{cs:mt}{a r:Int},yv k a l=some r->cE X l cs->(cs.foldlM Builtin.min2 (.int k a)).run P w=.ok (.int k r) w
 |[],_,a,r,e,R=>by simp only[yv,dm]at e;subst e;rw[show _=[]from R];simp|v::l,_,a,r,e,⟨u,t,rfl,h1,h2⟩=>by
  simp only[yv]at e;split at e<;>try cases e
  rename_i k' b;rw[show u=_ from h1,List.foldlM_cons];have:=ad5 (P:=P) (w:=w) e h2;simp only[Builtin.min2,Sem.run_bind,Sem.run_pure,Result.andThen_ok];rw[<-this];congr 2;unfold fD
  grind
def Ou(P:Program)(ts:Array TypeId):Bool:=match nth ts.toList 0 with
 |some t=>match P.underlying t with|some (.map _ _)=>true|_=>false
 |none=>false
def EX(h:Hp)(u:AV):Option AV:=match u with
 |.mp b=>match h.tr.get b with|some (.map κ σ M)=>some (.int .i64 (Int.ofNat M.length))|_=>none
 |_=>none
theorem ajE{P:Program}{ts:Array TypeId}{u v:AV}{X:Cx}(H:bn X)(hm:Ou P ts=true)(e:EX X.h u=some v){U:Value}(R:Rel X u U)(ty:TypeId) :
  ∃V,(Builtin.len_ ts ty #[U]).run P X.w=.ok V X.w/\Rel X v V:=by
 unfold Ou at hm;split at hm<;>try cases hm
 rename_i t ht;have ht:ts[0]?=some t:=by rw[fc]at ht;simpa using ht
 split at hm<;>try cases hm
 rename_i hu;unfold EX at e;split at e<;>try cases e
 rename_i b;split at e<;>try cases e
 rename_i κ σ M hb;obtain⟨x,c,hs,rfl⟩:=R;obtain⟨x',c',es,clk,e1,e2,e3⟩:=H.obj b _ _ hb hs;cases e1;have h0:(getObj x).run P X.w=.ok (.map es clk) X.w:=Go.MapKept.run_getObj_map e2;obtain⟨N,n1,n2,_⟩:=e3;have hl:es.size=List.length M:=by rw[<-n1.length_eq,<-n2.len];simp
 refine⟨.int .i64 (Int.ofNat M.length),?_,rfl⟩;simp[Builtin.len_,ht,run_underlying hu,h0,goInt,hl]
def vE(P:Program)(h:Hp)(b:Builtin)(ts:Array TypeId)(vs:List AV):Option AV:=match b with
 |.len=>match vs with
  |[u]=>match Ou P ts with|true=>EX h u|false=>uM P h ts u
  |_=>none
 |.max=>match vs with
  |.int k a::l=>match yu k a l with|some r=>some (.int k r)|none=>none
  |_=>none
 |.min=>match vs with
  |.int k a::l=>match yv k a l with|some r=>some (.int k r)|none=>none
  |_=>none
 |_=>none
theorem Zqw{P:Program}{X:Cx}(H:bn X){b:Builtin}{ts:Array TypeId}{ty:TypeId}{cs:Array Bool}{vs:List AV}{Vs:mt}{v:AV}(e:vE P X.h b ts vs=some v)(R:cE X vs Vs) :
  ∃V,(builtin b ts ty cs Vs.toArray).run P X.w=.ok (.value V) X.w/\Rel X v V:=by
 unfold vE at e;split at e<;>try cases e
 .split at e<;>try cases e
  obtain⟨U,t,rfl,h1,h2⟩:=R;have:t=[]:=h2;subst this;split at e
  .rename_i hm;obtain⟨V,q1,q2⟩:=ajE H hm e h1 ty;exact⟨V,by simp only[builtin,Sem.run_bind,q1,Result.andThen_ok,Sem.run_pure],q2⟩
  .obtain⟨V,q1,q2⟩:=ap6 H e h1 ty X.w;exact⟨V,by simp only[builtin,Sem.run_bind,q1,Result.andThen_ok,Sem.run_pure],q2⟩
 .split at e<;>try cases e
  rename_i k a l;split at e<;>cases e;rename_i r hr;obtain⟨U,t,rfl,h1,h2⟩:=R;rw[show U=_ from h1];exact⟨_,by simp only[builtin,Builtin.max_,Sem.run_bind,ad6 hr h2,Result.andThen_ok,Sem.run_pure],rfl⟩
 .split at e<;>try cases e
  rename_i k a l;split at e<;>cases e;rename_i r hr;obtain⟨U,t,rfl,h1,h2⟩:=R;rw[show U=_ from h1];exact⟨_,by simp only[builtin,Builtin.min_,Sem.run_bind,ad5 hr h2,Result.andThen_ok,Sem.run_pure],rfl⟩
theorem vL{X:Cx}{T:Tr AV}{a:Act}{o:Op}{l:Array Operand}{vs:List AV}(h:kh T l.toList=some vs)(hO:pT X T a o)(hm:∀x∈l.toList,x∈o.operands):cE X vs (l.map a.eval).toList:=by have:=adx h (fun x hx=>hO x (hm x hx));simpa using this
def PS(c:Bool)(a b:Option AV):Option AV:=match a,b with
 |some (.bool x),some (.bool y)=>some (.bool (bK c x y))|some (.int k x),some (.int k' y)=>match lu k k' with|true=>some (.int k (fD c x y))|false=>none
 |_,_=>match c with|true=>a|false=>b
theorem apB{X:Cx}{c:Bool}{a b:Option AV}{v:AV}(e:PS c a b=some v){U V:Value}(h1:∀u,a=some u->Rel X u U)(h2:∀u,b=some u->Rel X u V):Rel X v (if c=true then U else V):=by
 unfold PS at e;split at e
 .cases e;have q1:U=_:=h1 _ rfl;have q2:V=_:=h2 _ rfl;cases c<;>simp[q1,q2,bK,Rel]
 .split at e<;>cases e;rename_i k x k' y hk;have:=na hk;subst this;have q1:U=_:=h1 _ rfl;have q2:V=_:=h2 _ rfl;cases c<;>simp[q1,q2,fD,Rel]
 grind
def ab7:AV->Bool
 |.ptr _ _|.fy _ _ _ _|.gX _ _ _|.func _ _ _|.rp _ _|.ra _ _=>true|_=>false
def nc(P:Program)(T:Tr AV)(h:Hp)(o:Oper):Option (Bool×AV):=match o.op with
 |.move x=>match dX T x with|some v=>some (true,v)|none=>none
 |.pick c a b=>match dX T c with
  |some (.bool c)=>match PS c (dX T a) (dX T b)with|some v=>some (true,v)|none=>none
  |_=>none
 |.nilCheck x=>match dX T x with
  |some v=>match ab7 v with|true=>some (true,v)|false=>none
  |none=>none
 |.binOp op t x y _=>match dX T x,dX T y with
  |some u,some v=>match OS P op t u v with|some r=>some r|none=>RW P op t u v
  |_,_=>none
 |.unOp op _ x=>match dX T x with
  |some u=>match RX op u with|some v=>some (true,v)|none=>none
  |none=>none
 |.convert src dst x=>match dX T x with
  |some u=>match PT P src dst u with|some v=>some (true,v)|none=>none
  |none=>none
 |.extract t i=>match dX T t with
  |some (.dW l)=>match nth l i with|some v=>some (true,v)|none=>none
  |_=>none
 |.field t x f=>match dX T x with
  |some u=>match TW P t u f with|some v=>some (true,v)|none=>none
  |none=>none
 |.fieldAddr t x f=>match dX T x with
  |some u=>match TE P t u f with|some v=>some (true,v)|none=>none
  |none=>none
 |.indexAddr t x i=>match dX T x,dX T i with|some u,some i=>vD P h t u i|_,_=>none
 |.index t x i=>match dX T x,dX T i with|some u,some i=>Py P t u i|_,_=>none
 |.makeFunc fn first cap=>match fn with
  |.func f=>match kh T first.toList,kh T cap.toList with|some x,some y=>some (true,.func f x y)|_,_=>none
  |_=>none
 |.build t parts=>match oS T parts.toList with
  |some ps=>match TN P t ps with|some v=>some (true,v)|none=>none
  |none=>none
 |.load t x=>match dX T x with|some u=>qq P h t u|none=>none
 |.slice t x lo hi mx=>match mx,dX T x with|none,some u=>vI P h T t u lo hi|_,_=>none
 |.lookup t x i ck=>match dX T x,dX T i with
  |some u,some i=>match vS P h t u i ck with|some v=>some (true,v)|none=>none
  |_,_=>none
 |.call c=>match c.callee with
  |.builtin b=>match kh T c.args.toList with
   |some vs=>match vE P h b c.argTypes vs with|some v=>some (true,v)|none=>none
   |none=>none
  |_=>none
 |_=>none
theorem Zlk{P:Program}{T:Tr AV}{o:Oper}{g:Bool}{v:AV}{X:Cx}(H:bn X)(e:nc P T X.h o=some (g,v))(hg:g=true){a:Act}(hO:pT X T a o.op) :
  ∃V,(execOp a.eval o).run P X.w=.ok (.value V) X.w/\Rel X v V:=by
 subst hg;unfold nc at e;split at e<;>rename_i ho<;>try (rw[ho]at hO)
 .rename_i x;split at e<;>cases e;rename_i hx;exact⟨a.eval x,by simp only[execOp,ho,Sem.run_pure],hO x (by simp[Op.operands]) _ hx⟩
 .rename_i c x y;split at e<;>try cases e
  rename_i cb hc;split at e<;>cases e;rename_i hp;have h1:a.eval c=.bool cb:=hO c (by simp[Op.operands]) _ hc;have:=apB hp (fun u hu=>hO x (by simp[Op.operands]) u hu) (fun u hu=>hO y (by simp[Op.operands]) u hu);exact⟨_,by simp only[execOp,ho,h1,asBool,Sem.run_bind,Sem.run_pure,Result.andThen_ok],this⟩
 .rename_i x;split at e<;>try cases e
  rename_i v' hx;split at e<;>cases e;rename_i hok;have h1:=hO x (by simp[Op.operands]) _ hx;refine⟨a.eval x,?_,h1⟩;unfold ab7 at hok;split at hok<;>try cases hok
  .obtain⟨awm,auV,_,q⟩:=h1;simp only[execOp,ho,q,Sem.run_pure]
  .obtain⟨awm,auV,_,q,_⟩:=h1;simp only[execOp,ho,q,Sem.run_pure]
  .obtain⟨awm,auV,auW,q,_⟩:=h1;simp only[execOp,ho,q,Sem.run_pure]
  .obtain⟨xs,cs,q,_⟩:=h1;simp only[execOp,ho,q,Sem.run_pure]
  .obtain⟨awm,auV,avH,avP,_,_,q⟩:=h1;simp only[execOp,ho,q,Sem.run_pure]
  .obtain⟨awm,auV,avH,_,_,q⟩:=h1;simp only[execOp,ho,q,Sem.run_pure]
 .rename_i op t x y yt;split at e<;>try cases e
  rename_i u u' hx hy;have main:∃V,(do eqGuard op t x y (a.eval x) (a.eval y);binOp op t (a.eval x) (a.eval y)).run P X.w=.ok V X.w/\Rel X v V:=by
   split at e
   .rename_i r hr;cases e;exact Zx5 hr rfl (hO x (by simp[Op.operands]) _ hx) (hO y (by simp[Op.operands]) _ hy) x y X.w
   .exact akP e (hO x (by simp[Op.operands]) _ hx) (hO y (by simp[Op.operands]) _ hy) x y X.w
  obtain⟨V,q1,q2⟩:=main;refine⟨V,?_,q2⟩;simp only[execOp,ho];rw[Sem.run_bind,q1];rfl
 .rename_i op t x;split at e<;>try cases e
  rename_i u hx;split at e<;>cases e;rename_i hv;obtain⟨V,q1,q2⟩:=akR (P:=P) hv (hO x (by simp[Op.operands]) _ hx) X.w;exact⟨V,by simp only[execOp,ho,Sem.run_bind,q1,Result.andThen_ok,Sem.run_pure],q2⟩
 .rename_i src dst x;split at e<;>try cases e
  rename_i u hx;split at e<;>cases e;rename_i hv;obtain⟨V,q1,q2⟩:=apD hv (hO x (by simp[Op.operands]) _ hx) X.w;exact⟨V,by simp only[execOp,ho,Sem.run_bind,q1,Result.andThen_ok,Sem.run_pure],q2⟩
 .rename_i t i;split at e<;>try cases e
  rename_i l hx;split at e<;>cases e;rename_i hv;rw[fc]at hv;obtain⟨cs,q,R⟩:=hO t (by simp[Op.operands]) _ hx;obtain⟨V,q1,q2⟩:=R.get hv;exact⟨V,by simp[execOp,ho,q,Instr.extract,q1],q2⟩
 .rename_i t x f;split at e<;>try cases e
  rename_i u hx;split at e<;>cases e;rename_i hv;obtain⟨V,q1,q2⟩:=Zsx hv (hO x (by simp[Op.operands]) _ hx) X.w;exact⟨V,by simp only[execOp,ho,Sem.run_bind,q1,Result.andThen_ok,Sem.run_pure],q2⟩
 .rename_i t x f;split at e<;>try cases e
  rename_i u hx;split at e<;>cases e;rename_i hv;obtain⟨V,q1,q2⟩:=Zqv hv (hO x (by simp[Op.operands]) _ hx) X.w;exact⟨V,by simp only[execOp,ho,Sem.run_bind,q1,Result.andThen_ok,Sem.run_pure],q2⟩
 .rename_i t x i;split at e<;>try cases e
  rename_i u i' hx hi;obtain⟨V,q1,q2⟩:=Zqu H e rfl (hO x (by simp[Op.operands]) _ hx) (hO i (by simp[Op.operands]) _ hi) X.w;exact⟨V,by simp only[execOp,ho,Sem.run_bind,q1,Result.andThen_ok,Sem.run_pure],q2⟩
 .rename_i t x i;split at e<;>try cases e
  rename_i u i' hx hi;obtain⟨V,q1,q2⟩:=ape e rfl (hO x (by simp[Op.operands]) _ hx) (hO i (by simp[Op.operands]) _ hi) X.w;exact⟨V,by simp only[execOp,ho,Sem.run_bind,q1,Result.andThen_ok,Sem.run_pure],q2⟩
 .rename_i fn first cap
  split at e<;>try cases e
  rename_i f;split at e<;>cases e;rename_i x y hx hy;have h1:=vL hx hO (by intro z hz;simp only[Op.operands];exact atZ.2 (.inl (ath.1 hz)));have h2:=vL hy hO (by intro z hz;simp only[Op.operands];exact atZ.2 (.inr (ath.1 hz)));exact⟨.func (.func f) (first.map a.eval) (cap.map a.eval),by simp only[execOp,ho,Instr.makeFunc,Sem.run_bind,Sem.run_pure,Result.andThen_ok],_,_,by rw[atp,atp],h1,h2⟩
 .rename_i t parts;split at e<;>try cases e
  rename_i ps hps;split at e<;>cases e;rename_i hv;have hP:=TV hps (fun x hx=>hO x (by simp only[Op.operands,atY];exact hx));obtain⟨V,q1,q2⟩:=Zsz hv X.w (parts.map fun x=>(x.1,a.eval x.2)) (by simpa using hP);exact⟨V,by simp only[execOp,ho,Sem.run_bind,q1,Result.andThen_ok,Sem.run_pure],q2⟩
 .rename_i t x;split at e<;>try cases e
  rename_i u hx;obtain⟨V,q1,q2⟩:=Zpo H e rfl (hO x (by simp[Op.operands]) _ hx);exact⟨V,by simp only[execOp,ho,Sem.run_bind,q1,Result.andThen_ok,Sem.run_pure],q2⟩
 .rename_i t x lo hi mx;split at e<;>try cases e
  rename_i u hx;obtain⟨V,q1,q2⟩:=Zsu H e rfl (hO x (by simp[Op.operands]) _ hx) (by intro y hy;apply hO y;simp only[Op.operands];rcases hy with rfl|rfl<;>simp) X.w (a:=a);exact⟨V,by simp only[execOp,ho,Option.map_none,Sem.run_bind,q1,Result.andThen_ok,Sem.run_pure],q2⟩
 .rename_i t x i ck;split at e<;>try cases e
  rename_i u i' hx hi;split at e<;>cases e;rename_i hv;obtain⟨V,q1,q2⟩:=apC H hv (hO x (by simp[Op.operands]) _ hx) (hO i (by simp[Op.operands]) _ hi);exact⟨V,by simp only[execOp,ho,Sem.run_bind,q1,Result.andThen_ok,Sem.run_pure],q2⟩
 .rename_i c;split at e<;>try cases e
  rename_i b hb;split at e<;>try cases e
  rename_i vs hvs;split at e<;>cases e;rename_i hv;have h1:=vL hvs hO (by intro z hz;simp only[Op.operands,Call.operands,hb];simpa using hz);obtain⟨V,q1,q2⟩:=Zqw H (ty:=o.type) (cs:=c.args.map fun|.const _=>true|_=>false) hv h1;exact⟨V,by rw[vB ho hb];rw[atp]at q1;exact q1,q2⟩
 .cases e
def Hk(P:Program)(sh:TypeId->Option Sh)(T:Tr AV)(h:Hp)(o:Oper):Option (Bool×AV×Hp):=match o.op with
 |.assign x=>match dX T x with|some v=>some (true,v,h)|none=>none
 |.store t x y=>match dX T x,dX T y,ie P t with
  |some u,some v,some n=>match Nat.beq (jh v).length n with
   |true=>match u with
    |.ptr b off=>match TK h b off (jh v)with|some h'=>some (true,.dW [],h')|none=>none
    |.fy b i z o=>match OT h b i z o (jh v)with|some x=>some (x.1,.dW [],x.2)|none=>none
    |_=>none
   |false=>none
  |_,_,_=>none
 |.call c=>match c.callee with
  |.builtin b=>match b with
   |.append=>match kh T c.args.toList with
    |some [u,x]=>match Ui P sh h c.argTypes u x with|some r=>some r|none=>aea P h c.argTypes u x
    |_=>none
   |.copy=>match kh T c.args.toList with
    |some [u,x]=>match ad9 P h c.argTypes u x with|some y=>some (true,y.1,y.2)|none=>none
    |_=>none
   |.delete=>match kh T c.args.toList with
    |some [u,i]=>match Pg P h c.argTypes u i with|some h'=>some (true,.dW [],h')|none=>none
    |_=>none
   |_=>none
  |_=>none
 |.mapUpdate t m i y=>match dX T m,dX T i,dX T y with
  |some u,some i,some v=>match Pf P h t u i v with|some h'=>some (true,.dW [],h')|none=>none
  |_,_,_=>none
 |_=>none
def an2(v:Value)(n:Next):Prop:=n=.value v\/(n=.skip/\v=undef)
theorem Zvo{P:Program}{sh:TypeId->Option Sh}{T:Tr AV}{o:Oper}{g:Bool}{v:AV}{h':Hp}{X:Cx}(H:bn X)(e:Hk P sh T X.h o=some (g,v,h'))(hg:g=true){a:Act}(hO:pT X T a o.op) :
  ∃X' n V,(execOp a.eval o).run P X.w=.ok n X'.w/\an2 V n/\X'.h=h'/\bn X'/\bL X X'/\Rel X' v V:=by
 subst hg;unfold Hk at e;split at e<;>try (rename_i ho)
 .rename_i x;rw[ho]at hO;split at e<;>cases e;rename_i hx;exact⟨X,_,_,by simp only[execOp,ho,Sem.run_pure],.inl rfl,rfl,H,bL.refl X,hO x (by simp[Op.operands]) _ hx⟩
 .rename_i t x y;rw[ho]at hO;split at e<;>try cases e
  rename_i u u' n hx hy hn;split at e<;>try cases e
  rename_i hl;have hl:=db hl;have h1:=hO x (by simp[Op.operands]) _ hx;have h2:=lW (hO y (by simp[Op.operands]) _ hy);have hsz:(a.eval y).cells.size=n:=by rw[<-asT,h2.length,hl]
  split at e<;>try cases e
  .rename_i b off;split at e<;>cases e;rename_i hw;obtain⟨awm,auV,g1,g2⟩:=h1;obtain⟨w',r1,r2,r3⟩:=Zn0 (P:=P) H hw g1 h2;refine⟨_,.skip,undef,?_,.inr ⟨rfl,rfl⟩,rfl,r2,r3,⟨[],rfl,rfl⟩⟩;simp only[execOp,ho,Instr.storeAt,g2,Instr.sureAddr,Sem.run_bind,Sem.run_pure,Result.andThen_ok,storeVar,run_sizeOf hn];rw[Fr (by simp[hsz])];simp only[Sem.run_bind,Sem.run_pure,Result.andThen_ok,r1]
  .rename_i b i z o';split at e<;>try cases e
   rename_i xx hw;simp only[dm,asg]at e;obtain⟨hgg,rfl,rfl⟩:=e;obtain⟨gx,hx'⟩:=xx;simp only at hgg;obtain⟨awm,auV,g1,g2,g3⟩:=h1;obtain⟨w',r1,r2,r3⟩:=ar1 (P:=P) H hw hgg g1 g3 h2;refine⟨_,.skip,undef,?_,.inr ⟨rfl,rfl⟩,rfl,r2,r3,⟨[],rfl,rfl⟩⟩;simp only[execOp,ho,Instr.storeAt,g2,Instr.sureAddr,Sem.run_bind,Sem.run_pure,Result.andThen_ok,storeVar,run_sizeOf hn];rw[Fr (by simp[hsz])];simp only[Sem.run_bind,Sem.run_pure,Result.andThen_ok,r1]
 .rename_i c;split at e<;>try cases e
  rename_i b hb;split at e<;>try cases e
  .split at e<;>try cases e
   rename_i u x hv;rw[ho]at hO;have h1:=vL hv hO (by intro z hz;simp only[Op.operands,Call.operands,hb];simpa using hz);obtain⟨U,t,k1,k2,Y,t',k3,k4,k5⟩:=h1;have:t'=[]:=k5;subst this;subst k3;have main:∃X' V,(Builtin.append_ c.argTypes o.type #[U,Y]).run P X.w=.ok V X'.w/\X'.h=h'/\X'.A=X.A/\bn X'/\bL X X'/\Rel X' v V:=by
    split at e
    .rename_i hr;cases e;exact aoK (ty:=o.type) H hr rfl k2 k4
    .exact apE H e rfl k2 k4
   obtain⟨X',V,q1,q2,q3,q4,q5,q6⟩:=main;refine⟨X',.value V,V,?_,.inl rfl,q2,q4,q5,q6⟩;rw[vB ho hb,show c.args.map a.eval=#[U,Y]from ata.1 k1];simp only[builtin,Sem.run_bind,q1,Result.andThen_ok,Sem.run_pure]
  .split at e<;>try cases e
  .split at e<;>try cases e
   rename_i u x hv;split at e<;>cases e;rename_i hd;rw[ho]at hO;have h1:=vL hv hO (by intro z hz;simp only[Op.operands,Call.operands,hb];simpa using hz);obtain⟨U,t,k1,k2,Y,t',k3,k4,k5⟩:=h1;have:t'=[]:=k5;subst this;subst k3;obtain⟨w',q1,q2,q3⟩:=aoY (P:=P) (ty:=o.type) H hd k2 k4;refine⟨_,.value (.tuple #[]),.tuple #[],?_,.inl rfl,rfl,q2,q3,⟨[],rfl,rfl⟩⟩;rw[vB ho hb,show c.args.map a.eval=#[U,Y]from ata.1 k1];simp only[builtin,Sem.run_bind,q1,Result.andThen_ok,Sem.run_pure]
 .rename_i t m i y;rw[ho]at hO;split at e<;>try cases e
  rename_i u i' v' hm hi hy;split at e<;>cases e;rename_i hd;obtain⟨w',q1,q2,q3⟩:=aoX (P:=P) H hd (hO m (by simp[Op.operands]) _ hm) (hO i (by simp[Op.operands]) _ hi) (hO y (by simp[Op.operands]) _ hy);refine⟨_,.skip,undef,?_,.inr ⟨rfl,rfl⟩,rfl,q2,q3,⟨[],rfl,rfl⟩⟩;simp only[execOp,ho,Sem.run_bind,q1,Result.andThen_ok,Sem.run_pure]
 .cases e
def TY(T:Tr AV)(o:Oper):Option (FuncId×List AV):=match o.op with
 |.call c=>match c.callee with
  |.value f=>match dX T f,kh T c.args.toList with|some (.func g a cap),some vs=>some (g,a++(vs++cap))|_,_=>none
  |_=>none
 |_=>none
theorem Zs1{P:Program}{T:Tr AV}{o:Oper}{f:FuncId}{vs:List AV}{X:Cx}(e:TY T o=some (f,vs)){a:Act}(hO:pT X T a o.op){fn:Func}(hf:P.funcs[f]?=some fn)
  (hn:(fn.name == "runtime.NumGoroutine")=false) {c:Code}(hb:fn.body=some c) (w:World) :
  ∃Vs,(execOp a.eval o).run P w=.ok (.enter f (List.toArray Vs)) w/\cE X vs Vs:=by
 unfold TY at e;split at e<;>try cases e
 rename_i cl ho;rw[ho]at hO;split at e<;>try cases e
 rename_i fo hc;split at e<;>try cases e
 rename_i fa cap xs hxs hfo;obtain⟨As,Cs,h1,h1a,h1c⟩:=hO fo (by simp[Op.operands,Call.operands,hc]) _ hfo;have h2:=vL hxs hO (by intro z hz;simp only[Op.operands,Call.operands,hc];grind);refine⟨As++((cl.args.map a.eval).toList++Cs),?_,h1a.append (h2.append h1c)⟩;simp only[execOp,ho,resolve,hc,h1,Deferred.ofValue,Sem.run_bind,Sem.run_pure,Result.andThen_ok,invoke,callFunc,run_program,hf,hn,hb];simp
