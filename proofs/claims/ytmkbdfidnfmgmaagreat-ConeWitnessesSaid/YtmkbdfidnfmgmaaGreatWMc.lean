import Derived.Test.YtmkbdfidnfmgmaaGreatWMb
import Derived.MapKept
set_option linter.all false
section
namespace Go.Proofs.YtmkbdfidnfmgmaaGreat.V
open Go Go.RowKit Go.MapKept
open Go.Proofs.YtmkbdfidnfmgmaaGreat.Ev (Tr Tr.dp nth fc cS iU lY)
def zE:AV->Bool|.agg _=>true|_=>false
variable{V:Value}{X:Cx}
theorem aaW{v:AV}(R:Rel X v V):zF V=zE v:=by
 cases v with
 |agg l=>obtain⟨cs,rfl,_⟩:=R;rfl
 |d5 l=>obtain⟨cs,rfl,_⟩:=R;rfl
 |kS=>have:Ev.ou V=true:=R;cases V<;>first|rfl|cases this
 |bool b=>rw[show V=_ from R];rfl|int k n=>rw[show V=_ from R];rfl|str s=>rw[show V=_ from R];rfl|fw=>rw[show V=_ from R];rfl|bt=>rw[R];rfl|gr=>rw[R];rfl|ga=>rw[R];rfl|gZ=>rw[R];rfl|ptr b off=>obtain⟨x,c,h1,rfl⟩:=R;rfl
 |fE b i z o=>obtain⟨x,c,h1,rfl,_⟩:=R;rfl
 |ie σ d o=>obtain⟨b,off,cs,rfl,_⟩:=R;rfl
 |hd b τ=>obtain⟨l,h1,hc,_⟩:=R;cases V<;>first|rfl|cases hc
 |vw b τ off len=>obtain⟨l,a,c,h1,rfl,_⟩:=R;rfl
 |fz τ L=>obtain⟨a,len,cap,e,_⟩:=R;simp at e;rw[e];rfl
 |func f x c=>obtain⟨xs,cs,rfl,_⟩:=R;rfl
 |fJ τ z L=>obtain⟨_,a,l,c,rfl,_⟩:=R;rfl
 |mp b=>obtain⟨x,c,h1,rfl⟩:=R;rfl
 |fB b=>obtain⟨l,h1,rfl⟩:=R;cases l<;>rfl
 |rp b i=>obtain⟨x,c,m,p,h1,h2,rfl⟩:=R;rfl
 |ra b i=>obtain⟨x,c,m,h1,h2,rfl⟩:=R;rfl
def aru:Bool->List AV->AV
 |false,[v]=>v|_,l=>.agg l
def EW(σ:Sh)(d:σ.T):AV:=aru (wD σ) (pq σ d)
variable{σ:Sh}{d:σ.T}
theorem JC(h:iz X.w X.out σ d V):Rel X (EW σ d) V:=by
 obtain⟨h1,h2⟩:=h;have hr:=xj h1;have single:∀{u:AV},zF V=false->bT X [u] V.cells.toList->Rel X u V:=by
  intro u hv q;have:V.cells=#[V]:=by cases V<;>first|rfl|cases hv
  obtain⟨v,r,e,q1,q2⟩:=q
  grind
 cases σ with
 |agg l=>cases V with|agg cs=>exact⟨cs.toList,atQ,by simpa[Value.cells]using hr⟩|_=>cases h2
 |int k=>exact single h2 hr|bool=>exact single h2 hr|str=>exact single h2 hr|sl s=>exact single h2 hr
def uM(kl:Bool)(h:Hp)(σ:Sh)(v:AV):Option (σ.T×Hp):=match zE v,wD σ with
 |true,true|false,false=>match fX kl h σ (jt v)with
  |some (d,l,h)=>match l with|[]=>some (d,h)|_=>none
  |none=>none
 |_,_=>none
theorem Od{kl:Bool}(H:aV X){v:AV}{h':Hp}(e:uM kl X.h σ v=some (d,h'))(R:Rel X v V) :
  gF X h'/\iz X.w (Cx.out ⟨X.s,h',X.w,X.A⟩) σ d V:=by
 have hag:=aaW R;unfold uM at e;have main:zE v=wD σ->(match fX kl X.h σ (jt v)with
  |some (d,l,h)=>match l with|[]=>some (d,h)|_=>none
  |none=>none)=some (d,h')->gF X h'/\iz X.w (Cx.out ⟨X.s,h',X.w,X.A⟩) σ d V:=by
  intro ha e;split at e<;>try cases e
  rename_i auN l h₁ hf;split at e<;>cases e;obtain⟨F,c,r,he,h1,h2⟩:=tu H hf (mR R);have:r=[]:=h2;exact⟨F,by grind,by rw[hag,ha]⟩
 grind
def jM(σ:Sh)(M:fl σ)(k:Int):σ.T:=match M with|[]=>σ.zero|p::M=>match decide (p.1=k)with|true=>p.2.1|false=>jM σ M k
def j5{σ:Sh}(M:fl σ)(k:Int):Bool:=match M with|[]=>false|p::M=>match decide (p.1=k)with|true=>true|false=>j5 M k
def fF{σ:Sh}(k:Int)(v:σ.T)(M:fl σ):fl σ:=match M with|[]=>[(k,v,())]|p::M=>match decide (k<p.1)with|true=>(k,v,())::p::M|false=>match decide (p.1=k)with|true=>(k,v,())::M|false=>p::fF k v M
def lV{σ:Sh}(k:Int)(M:fl σ):fl σ:=match M with|[]=>[]|p::M=>match decide (p.1=k)with|true=>M|false=>p::lV k M
variable{q:Int×σ.T×Unit}{k:Int}{v:σ.T}{M:fl σ}
theorem ai0(h:q∈fF k v M):q.1=k\/q∈M:=by
 induction M with
 |nil=>simp only[fF,NE]at h;subst h;exact .inl rfl|cons p M ih=>
  unfold fF at h
  grind
theorem TF(h:M.Pairwise (fun p q=>p.1<q.1)):(fF k v M).Pairwise (fun p q=>p.1<q.1):=by
 induction M with
 |nil=>simp[fF]|cons p M ih=>
  obtain⟨h1,h2⟩:=arX.1 h;unfold fF;split
  .rename_i hk;refine arX.2 ⟨fun q hq=>?_,h⟩
   grind
  .rename_i hk;have hk:=asK hk;split
   .rename_i he;exact arX.2 ⟨fun q hq=>by grind,h2⟩
   .rename_i he;have he:=asK he;refine arX.2 ⟨fun q hq=>?_,ih h2⟩;rcases ai0 hq with e|hq
    .omega
    .exact h1 q hq
theorem ai1(h:∀p∈M,p.1≠k):(fF k v M).Perm (M++[(k,v,())]):=by
 induction M with
 |nil=>exact .refl _|cons p M ih=>
  unfold fF;split
  .exact(List.perm_append_singleton (k,v,()) (p::M)).symm
  simp_all
variable{B:fl σ}{u:σ.T}
theorem ai2(hs:M.Pairwise (fun p q=>p.1<q.1)){A:fl σ}(h:(A++(k,u,())::B).Perm M):(A++(k,v,())::B).Perm (fF k v M):=by
 have hm:(k,u,())∈M:=h.subset atQ;obtain⟨C,D,rfl⟩:=asI hm;have hAB:(A++B).Perm (C++D):=by have h1:((k,u,())::(A++B)).Perm ((k,u,())::(C++D)):=List.perm_middle.symm.trans (h.trans List.perm_middle);exact(List.perm_cons _).1 h1
 have hput:fF k v (C++(k,u,())::D)=C++(k,v,())::D:=by
  clear h hm hAB
  induction C with
  |nil=>
   unfold fF
   grind
  |cons p C ih=>obtain⟨h1,h2⟩:=arX.1 hs;have:=h1 (k,u,()) atQ;rw[arM,fF,eY (show ¬k<p.1 by omega),eY (show ¬p.1=k by have:p.1<k:=this;omega),arM];rw[ih h2]
 rw[hput];exact List.perm_middle.trans ((hAB.cons _).trans List.perm_middle.symm)
theorem anK(h:∀p∈M,p.1≠k):lV k M=M:=by induction M with|nil=>rfl|cons p M ih=>rw[lV];grind
theorem aiU(h:q∈lV k M):q∈M:=by
 induction M with
 |nil=>exact h|cons p M ih=>
  unfold lV at h
  grind
theorem aar(h:M.Pairwise (fun p q=>p.1<q.1)):(lV k M).Pairwise (fun p q=>p.1<q.1):=by
 induction M with
 |nil=>exact h|cons p M ih=>
  obtain⟨h1,h2⟩:=arX.1 h;unfold lV;split
  .exact h2
  .exact arX.2 ⟨fun q hq=>h1 q (aiU hq),ih h2⟩
theorem aiV(hs:M.Pairwise (fun p q=>p.1<q.1)){A:fl σ}(h:(A++(k,u,())::B).Perm M):(A++B).Perm (lV k M):=by
 have hm:(k,u,())∈M:=h.subset atQ;obtain⟨C,D,rfl⟩:=asI hm;have hAB :=by have h1 :=List.perm_middle.symm.trans (h.trans List.perm_middle);exact(List.perm_cons _).1 h1
 have hput:lV k (C++(k,u,())::D)=C++D:=by
  clear h hm hAB
  induction C with|nil=>unfold lV;grind|cons p C ih=>obtain⟨h1,h2⟩:=arX.1 hs;have:=h1 (k,u,()) atQ;rw[arM,lV,eY atO,arM];rw[ih h2]
 rw[hput];exact hAB
theorem anH(h:∀p∈M,p.1≠k):jM σ M k=σ.zero/\j5 M k=false:=by induction M with|nil=>exact⟨rfl,rfl⟩|cons p M ih=>rw[jM,j5];grind
theorem aiZ(hs:M.Pairwise (fun p q=>p.1<q.1))(h:(k,u,())∈M):jM σ M k=u/\j5 M k=true:=by
 induction M with
 |nil=>cases h
 |cons p M ih=>
  obtain⟨h1,h2⟩:=arX.1 hs;rcases GE.1 h with rfl|h
  .rw[jM,j5,dt rfl];exact⟨rfl,rfl⟩
  .have:=h1 _ h;rw[jM,j5,eY atO];exact ih h2 h
variable{κ:IntKind}{w:World}{A:Nat->Prop}
theorem jR.len:∀{es:List MapEntry}{N:fl σ},jR w A κ σ es N->es.length=N.length
 |[],N,h=>by rw[h];rfl|e::es,N,h=>by cases N with|nil=>exact h.elim|cons p N=>rw[di,di,jR.len h.2.2]
theorem jR.at_:∀{es:List MapEntry}{N:fl σ}{j:Nat}{e:MapEntry},jR w A κ σ es N->es[j]?=some e ->
  ∃P p S,N=P++p::S/\P.length=j/\e.key=.int κ p.1/\iz w A σ p.2.1 e.val/\jR w A κ σ (es.eraseIdx j) (P++S) /\
   ∀e' v,e'.key=.int κ p.1->iz w A σ v e'.val->jR w A κ σ (es.set j e') (P++(p.1,v,())::S)
 |[],N,j,e,h,q=>by simp at q|x::es,N,j,e,h,q=>by cases N with|nil=>exact h.elim|cons p N=>cases j with|zero=>simp at q;subst q;exact⟨[],p,N,rfl,rfl,h.1,h.2.1,h.2.2,fun e' v h1 h2=>⟨h1,h2,h.2.2⟩⟩|succ j=>obtain⟨P,p',S,rfl,h1,h2,h3,h4,h5⟩:=jR.at_ h.2.2 (by simpa using q);exact⟨p::P,p',S,rfl,by simp[h1],h2,h3,⟨h.1,h.2.1,h4⟩,fun e' v g1 g2=>⟨h.1,h.2.1,h5 e' v g1 g2⟩⟩
theorem jR.snoc{e:MapEntry}{p:Int×σ.T×Unit}(h1:e.key=.int κ p.1)(h2:iz w A σ p.2.1 e.val):∀{es:List MapEntry}{N:fl σ},jR w A κ σ es N->jR w A κ σ (es++[e]) (N++[p])
 |[],N,h=>by rw[h];exact⟨h1,h2,rfl⟩|x::es,N,h=>by cases N with|nil=>exact h.elim|cons q N=>exact⟨h.1,h.2.1,jR.snoc h1 h2 h.2.2⟩
theorem jR.keys:∀{es:List MapEntry}{N:fl σ},jR w A κ σ es N->(∀e∈es,∃p∈N,e.key=.int κ p.1)/\∀p∈N,∃e∈es,e.key=.int κ p.1
 |[],N,h=>by rw[h];simp|x::es,N,h=>by
  cases N with
  |nil=>exact h.elim|cons q N=>
   obtain⟨g1,g2⟩:=jR.keys h.2.2;refine⟨fun e he=>?_,fun p hp=>?_⟩
   .rcases GE.1 he with rfl|he
    .exact⟨q,atQ,h.1⟩
    grind
   .rcases GE.1 hp with rfl|hp
    .exact⟨x,atQ,h.1⟩
    grind
variable{es:Array MapEntry}{clk:Nat}
theorem jX.isKey(h:jX w A κ σ es clk M):∀x∈es.toList,IsKey (.int κ) x.key:=by obtain⟨N,h1,h2,_⟩:=h;intro x hx;obtain⟨p,_,hp⟩:=h2.keys.1 x hx;rw[hp];rfl
theorem jX.find(h:jX w A κ σ es clk M)(k:Int) :
  (Instr.findNow (.int κ) (.int κ k) es.toList 0=some none/\∀p∈M,p.1≠k)\/∃j e u,Instr.findNow (.int κ) (.int κ k) es.toList 0=some (some (j,e.val))/\es.toList[j]?=some e/\e.key=.int κ k/\(k,u,())∈M/\iz w A σ u e.val:=by
 have hk:=h.isKey;obtain⟨N,h1,h2,h3,_⟩:=h;rcases findNow_spec (d:=.int κ) (k:=.int κ k) rfl es.toList 0 hk with⟨g1,g2⟩|⟨j,e,g1,g2,g3⟩
 .refine .inl ⟨g1,fun p hp q=>?_⟩;obtain⟨e,he,hek⟩:=h2.keys.2 p (h1.symm.subset hp)
  grind
 .obtain⟨P,p,S,rfl,_,q1,q2,_⟩:=h2.at_ g2
  grind
mutual
def rF:Sh->List AV->Option (List AV)
 |.int k,l=>match l with
  |.int k' n::r=>match me k' k,n with|true,.ofNat 0=>some r|_,_=>none
  |_=>none
 |.bool,l=>match l with|.bool false::r=>some r|_=>none
 |.str,l=>match l with
  |.str s::r=>match Nat.beq s.size 0 with|true=>some r|false=>none
  |_=>none
 |.agg ss,l=>AR ss l|.sl s,l=>match l with|.bt::r=>some r|_=>none
termination_by structural x=>x
def AR:List Sh->List AV->Option (List AV)
 |[],r=>some r|s::l,r=>match rF s r with|some r=>AR l r|none=>none
termination_by structural x=>x
end
mutual
theorem Tw{X:Cx}{w:World}{A:Nat->Prop}:∀{σ:Sh}{l r:List AV},rF σ l=some r->∀{cs:pi},bT X l cs->∃c e,cs=c++e/\Cs w A σ σ.zero c/\bT X r e
 |.int k,l,r,e,cs,R=>by
  simp only[rF]at e;split at e<;>try cases e
  rename_i k' n r';split at e<;>try cases e
  rename_i n' hk;obtain⟨v,t,rfl,h1,h2⟩:=R;have:=oo hk;subst this;exact⟨[v],t,rfl,by rw[show v=_ from h1];rfl,h2⟩
 |.bool,l,r,e,cs,R=>by
  simp only[rF]at e;split at e<;>try cases e
  obtain⟨v,t,rfl,h1,h2⟩:=R;exact⟨[v],t,rfl,by rw[show v=_ from h1];rfl,h2⟩
 |.str,l,r,e,cs,R=>by
  simp only[rF]at e;split at e<;>try cases e
  rename_i s r';split at e<;>try cases e
  rename_i hs;obtain⟨v,t,rfl,h1,h2⟩:=R;have hz:s=ByteArray.empty:=by have:=cB hs;cases s with|mk d=>have:d.size=0:=this;have:d=#[]:=Array.eq_empty_of_size_eq_zero this;subst this;rfl
  subst hz;exact⟨[v],t,rfl,by rw[show v=_ from h1];rfl,h2⟩
 |.agg ss,l,r,e,cs,R=>Zvv (ss:=ss) e R|.sl s,l,r,e,cs,R=>by
  simp only[rF]at e;split at e<;>try cases e
  obtain⟨v,t,rfl,h1,h2⟩:=R;exact⟨[v],t,rfl,⟨none,0,0,by rw[show v=_ from h1],rfl,rt _,fun q=>absurd rfl q⟩,h2⟩
theorem Zvv{X:Cx}{w:World}{A:Nat->Prop}:∀{ss:List Sh}{l r:List AV},AR ss l=some r->∀{cs:pi},bT X l cs->∃c e,cs=c++e/\jh w A ss (NO ss) c/\bT X r e
 |[],l,r,e,cs,R=>by simp only[AR,cM]at e;subst e;exact⟨[],cs,rfl,rfl,R⟩|s::ss,l,r,e,cs,R=>by
  simp only[AR]at e;split at e<;>try cases e
  rename_i avI auQ;obtain⟨c,t,rfl,q1,q2⟩:=Tw (A:=A) (w:=w) auQ R;obtain⟨c',t',rfl,q3,q4⟩:=Zvv (A:=A) (w:=w) e q2;exact⟨c++c',t',atQ,⟨c,c',rfl,q1,q3⟩,q4⟩
end
def NB(σ:Sh)(M:fl σ)(k:Int)(ck:Bool):AV:=match ck with|true=>.d5 [EW σ (jM σ M k),.bool (j5 M k)]|false=>EW σ (jM σ M k)
def xv(P:Program)(h:Hp)(t:TypeId)(u i:AV)(ck:Bool):Option AV:=match P.underlying t with
 |some (.map kt et)=>match P.underlying kt,nE P et with
  |some (.int awn),some z=>match u,i with
   |.mp b,.int κ' k=>match h.tr.get b with
    |some (.map κ σ M)=>match me awn κ,me κ' κ,zE z,wD σ,rF σ (jt z)with|true,true,false,false,some []=>some (NB σ M k ck)|true,true,true,true,some []=>some (NB σ M k ck)|_,_,_,_,_=>none
    |_=>none
   |_,_=>none
  |_,_=>none
 |_=>none
theorem anq{P:Program}{X:Cx}(H:aV X){t:TypeId}{u i v:AV}{ck:Bool}(e:xv P X.h t u i ck=some v){U I:Value}(R:Rel X u U)(RI:Rel X i I) :
  ∃V,(Instr.lookup t U I ck).run P X.w=.ok V X.w/\Rel X v V:=by
 unfold xv at e;split at e<;>try cases e
 rename_i kt et hu;split at e<;>try cases e
 rename_i awn z hk hz;split at e<;>try cases e
 rename_i b κ' k;split at e<;>try cases e
 rename_i κ σ M hb;obtain⟨x,c,hs,rfl⟩:=R;rw[show I=_ from RI];obtain⟨x',c',es,clk,e1,e2,e3⟩:=H.obj b _ _ hb hs;cases e1;obtain⟨Z,hZ0,RZ⟩:=rn hz X X.w;have main:me awn κ=true->me κ' κ=true->zE z=wD σ->rF σ (jt z)=some []->some (NB σ M k ck)=some v->∃V,(Instr.lookup t (.map (some x)) (.int κ' k) ck).run P X.w=.ok V X.w/\Rel X v V:=by
  intro q1 q2 q3 q4 ev;clear e;have q1:=oo q1;have q2:=oo q2;subst q1;subst q2;have hkey:IsKey (.int κ') (.int κ' k):=rfl;have hD:∃V ok,(do
    let(v,ok) <- match <- Instr.findKey kt (.int κ' k) es.toList with|some (_,v)=>pure (v,true)|none=>pure (<- zeroValue et,false)
    pure (if ck then Value.tuple #[v,.bool ok]else v):Sem Value).run P X.w=.ok (if ck then Value.tuple #[V,.bool ok]else V) X.w/\ok=j5 M k/\iz X.w X.out σ (jM σ M k) V:=by
   rcases e3.find k with⟨g1,g2⟩|⟨j,en,d,g1,g2,g3,g4,g5⟩
   .obtain⟨p1,p2⟩:=anH g2;refine⟨Z,false,by simp[run_findKey hk g1,hZ0],p2.symm,?_⟩;rw[p1];obtain⟨zc,zr,f1,f2,f3⟩:=Tw (X:=X) (w:=X.w) (A:=X.out) q4 (mR RZ);have:zr=[]:=f3;subst this;rw[d6]at f1;exact⟨by grind,by rw[aaW RZ,q3]⟩
   .obtain⟨N,n1,n2,n3,_⟩:=e3;obtain⟨p1,p2⟩:=aiZ n3 g4;exact⟨en.val,true,by simp[run_findKey hk g1],p2.symm,by grind⟩
  obtain⟨V,ok,hr,hok,hdat⟩:=hD;refine⟨if ck then Value.tuple #[V,.bool ok]else V,?_,?_⟩
  .have h0:(getObj x).run P X.w=.ok (.map es clk) X.w:=Go.MapKept.run_getObj_map e2;simp only[Instr.lookup,Sem.run_bind,run_underlying hu,Result.andThen_ok,h0,Sem.run_pure,run_checkKey hk hkey];simp only[Sem.run_bind]at hr;exact hr
  .cases ck with
   |true=>cases ev;exact⟨[V,.bool ok],rfl,V,_,rfl,JC hdat,_,_,rfl,by rw[hok];rfl,rfl⟩
   |false=>cases ev;exact JC hdat
 grind
def NR(P:Program)(h:Hp)(t:TypeId)(u i v:AV):Option Hp:=match P.underlying t with
 |some (.map kt _)=>match P.underlying kt with
  |some (.int awn)=>match u,i with
   |.mp b,.int κ' k=>match h.tr.get b with
    |some (.map κ σ M)=>match me awn κ,me κ' κ,uM false h σ v with
     |true,true,some (d,_)=>match Tr.set FT h.tr b (some (.map κ σ (fF k d M)))with|some tr=>some ⟨tr,h.next⟩|none=>none
     |_,_,_=>none
    |_=>none
   |_,_=>none
  |_=>none
 |_=>none
theorem Ib{P:Program}{w:World}{x:Nat}{es:Array MapEntry}{clk:Nat}(h:w.heap[x]?=some (.map es clk))(o:Obj):(setObj x o).run P w=.ok () (cS w x o):=Go.MapKept.run_setObj_map o h
theorem jX.set{w:World}{A:Nat->Prop}{κ:IntKind}{σ:Sh}{es:Array MapEntry}{clk:Nat}{M:fl σ}(h:jX w A κ σ es clk M){j:Nat}{e:MapEntry}{k:Int}{d:σ.T}{V:Value}(he:es.toList[j]?=some e)(hk:e.key=.int κ k)
  (hd:iz w A σ d V):jX w A κ σ (es.modify j fun e=>{ e with key:=.int κ k,val:=V }) clk (fF k d M):=by
 obtain⟨N,h1,h2,h3,h4,h5⟩:=h;obtain⟨Q,p,S,rfl,_,q1,_,_,q2⟩:=h2.at_ he;rw[hk]at q1;simp only[Value.int.injEq,true_and]at q1;obtain⟨a,u,⟨⟩⟩:=p;simp only at q1;subst q1;have hl:(es.modify j fun e=>{ e with key:=.int κ k,val:=V }).toList=es.toList.set j { e with key:=.int κ k,val:=V }:=by
  rw[Array.toList_modify];apply arW
  grind
 refine⟨Q++(k,d,())::S,ai2 h3 h1,?_,TF h3,?_,?_⟩
 .rw[hl]
  grind
 .intro y hy
  grind
 .rw[hl];have hb:(es.toList.set j { e with key:=.int κ k,val:=V }).map (·.born)=es.toList.map (·.born):=by
   rw[List.map_set];apply arW
   grind
  have h5':=(asu (f:=fun e:MapEntry=>e.born) (R:=fun a b=>a≠b)).2 h5
  grind
theorem jX.push{w:World}{A:Nat->Prop}{κ:IntKind}{σ:Sh}{es:Array MapEntry}{clk:Nat}{M:fl σ}(h:jX w A κ σ es clk M){k:Int}{d:σ.T}{V:Value}(hk:∀p∈M,p.1≠k)
  (hd:iz w A σ d V):jX w A κ σ (es.push { key:=.int κ k,val:=V,born:=clk }) (clk+1) (fF k d M):=by
 obtain⟨N,h1,h2,h3,h4,h5⟩:=h;refine⟨N++[(k,d,())],(h1.append_right _).trans (ai1 hk).symm,?_,TF h3,?_,?_⟩
 .rw[Array.toList_push];exact jR.snoc rfl hd h2
 .intro y hy
  grind
 grind
theorem amK{P:Program}{X:Cx}(H:aV X){h':Hp}{t:TypeId}{u i v:AV}(e:NR P X.h t u i v=some h'){U I V:Value}(R:Rel X u U)(RI:Rel X i I)(RV:Rel X v V) :
  ∃w',(Instr.mapUpdate t U I V).run P X.w=.ok () w'/\aV ⟨X.s,h',w',X.A⟩/\bh X ⟨X.s,h',w',X.A⟩:=by
 unfold NR at e;split at e<;>try cases e
 rename_i kt et hu;split at e<;>try cases e
 rename_i awn hk;split at e<;>try cases e
 rename_i b κ' k;split at e<;>try cases e
 rename_i κ σ M hb;split at e<;>try cases e
 rename_i d h₁ q1 q2 hf;split at e<;>cases e;rename_i tr ht;have q1:=oo q1;have q2:=oo q2;subst q1;subst q2;obtain⟨x,c,hs,rfl⟩:=R;rw[show I=_ from RI];obtain⟨x',c',es,clk,e1,e2,e3⟩:=H.obj b _ _ hb hs;cases e1;have hsame:h₁=X.h:=by
  unfold uM at hf;split at hf<;>try cases hf
  all_goals
   split at hf<;>try cases hf
   rename_i hfr;split at hf<;>cases hf;exact JJ hfr
 subst hsame;obtain⟨F,hd⟩:=Od H hf RV;have hd:iz X.w X.out σ d V:=hd;have hkey:IsKey (.int κ') (.int κ' k):=rfl;have fin:∀es' clk',jX X.w X.out κ' σ es' clk' (fF k d M)->aV ⟨X.s,⟨tr,X.h.next⟩,cS X.w x (.map es' clk'),X.A⟩/\bh X ⟨X.s,⟨tr,X.h.next⟩,cS X.w x (.map es' clk'),X.A⟩:=by intro es' clk' hm;have E:=bh.put (ob:=.map es' clk') H hb hs (by intro n q;cases q) ht;refine⟨H.put hb hs (by intro n q;cases q) ht ⟨x,c,es',clk',rfl,?_,hm.bn E.keeps⟩,E⟩;show(cS X.w x _).heap[x]?=_;rw[iU,IO ⟨rfl,ka e2⟩]
 have h0:(getObj x).run P X.w=.ok (.map es clk) X.w:=Go.MapKept.run_getObj_map e2;rcases e3.find k with⟨g1,g2⟩|⟨j,en,u,g1,g2,g3,g4,g5⟩
 .obtain⟨f1,f2⟩:=fin _ _ (e3.push (V:=V) g2 hd);exact⟨_,by simp only[Instr.mapUpdate,Sem.run_bind,run_underlying hu,Result.andThen_ok,h0,run_checkKey hk hkey,run_findKey hk g1,Ib e2],f1,f2⟩
 .obtain⟨f1,f2⟩:=fin _ _ (e3.set (V:=V) g2 g3 hd);have hj:es[j]?=some en:=by grind
  have hkk:((es[j]?).map (·.key)).getD (.int κ' k)=.int κ' k:=by grind
  exact⟨_,by simp only[Instr.mapUpdate,Sem.run_bind,run_underlying hu,Result.andThen_ok,h0,run_checkKey hk hkey,run_findKey hk g1,hkk,run_keyThatStays hkey,Ib e2],f1,f2⟩
def NS(P:Program)(h:Hp)(ts:Array TypeId)(u i:AV):Option Hp:=match nth ts.toList 0 with
 |some t=>match P.underlying t with
  |some (.map kt _)=>match P.underlying kt with
   |some (.int awn)=>match u,i with
    |.mp b,.int κ' k=>match h.tr.get b with
     |some (.map κ σ M)=>match me awn κ,me κ' κ with
      |true,true=>match Tr.set FT h.tr b (some (.map κ σ (lV k M)))with|some tr=>some ⟨tr,h.next⟩|none=>none
      |_,_=>none
     |_=>none
    |_,_=>none
   |_=>none
  |_=>none
 |none=>none
theorem jX.erase{w:World}{A:Nat->Prop}{κ:IntKind}{σ:Sh}{es:Array MapEntry}{clk:Nat}{M:fl σ}(h:jX w A κ σ es clk M){j:Nat}{e:MapEntry}{k:Int}(he:es.toList[j]?=some e)(hk:e.key=.int κ k) :
  jX w A κ σ (es.eraseIdxIfInBounds j) clk (lV k M):=by
 obtain⟨N,h1,h2,h3,h4,h5⟩:=h;obtain⟨Q,p,S,rfl,_,q1,_,q2,_⟩:=h2.at_ he;rw[hk]at q1;simp at q1;subst q1;have hl:(es.eraseIdxIfInBounds j).toList=es.toList.eraseIdx j:=by simp_all
 refine⟨Q++S,aiV h3 h1,?_,aar h3,?_,?_⟩
 .rw[hl];exact q2
 .intro y hy
  grind
 grind
theorem amL{P:Program}{X:Cx}(H:aV X){h':Hp}{ts:Array TypeId}{ty:TypeId}{u i:AV}(e:NS P X.h ts u i=some h'){U I:Value}(R:Rel X u U)(RI:Rel X i I) :
  ∃w',(Builtin.delete_ ts ty #[U,I]).run P X.w=.ok (.tuple #[]) w'/\aV ⟨X.s,h',w',X.A⟩/\bh X ⟨X.s,h',w',X.A⟩:=by
 unfold NS at e;split at e<;>try cases e
 rename_i t htt;split at e<;>try cases e
 rename_i kt et hu;split at e<;>try cases e
 rename_i awn hk;split at e<;>try cases e
 rename_i b κ' k;split at e<;>try cases e
 rename_i κ σ M hb;split at e<;>try cases e
 rename_i q1 q2;split at e<;>cases e;rename_i tr ht;have q1:=oo q1;have q2:=oo q2;subst q1;subst q2;obtain⟨x,c,hs,rfl⟩:=R;rw[RI];have htt:ts[0]?=some t:=by rw[fc]at htt;simpa using htt
 obtain⟨x',c',es,clk,e1,e2,e3⟩:=H.obj b _ _ hb hs;cases e1;have hkey:IsKey (.int κ') (.int κ' k):=rfl;have fin:∀es' clk',jX X.w X.out κ' σ es' clk' (lV k M)->aV ⟨X.s,⟨tr,X.h.next⟩,cS X.w x (.map es' clk'),X.A⟩/\bh X ⟨X.s,⟨tr,X.h.next⟩,cS X.w x (.map es' clk'),X.A⟩:=by intro es' clk' hm;have E:=bh.put (ob:=.map es' clk') H hb hs (by intro n q;cases q) ht;refine⟨H.put hb hs (by intro n q;cases q) ht ⟨x,c,es',clk',rfl,?_,hm.bn E.keeps⟩,E⟩;rw[iU,IO ⟨rfl,ka e2⟩]
 have h0:(getObj x).run P X.w=.ok (.map es clk) X.w:=Go.MapKept.run_getObj_map e2;rcases e3.find k with⟨g1,g2⟩|⟨j,en,u,g1,g2,g3,g4,g5⟩
 .obtain⟨f1,f2⟩:=fin es clk (by rw[anK g2];exact e3);refine⟨_,?_,f1,f2⟩;simp only[Builtin.delete_,htt,Array.getElem?_eq_getElem,Or,Fd,arV,Sem.run_bind,run_underlying hu,Result.andThen_ok,h0,run_checkKey hk hkey,run_findKey hk g1,Ib e2,Sem.run_pure]
 .obtain⟨f1,f2⟩:=fin _ _ (e3.erase g2 g3);refine⟨_,?_,f1,f2⟩;simp only[Builtin.delete_,htt,Or,Fd,arV,Sem.run_bind,run_underlying hu,Result.andThen_ok,h0,run_checkKey hk hkey,run_findKey hk g1,Ib e2,Sem.run_pure]
open Go.Proofs.YtmkbdfidnfmgmaaGreat.Ev (Tr Tr.dp nth fc takeN jm lH lI cS iU lY run_underlying run_typeInfo run_sizeOf gD ji places ta lJ qY pj nD JD)
theorem Tu{P:Program}{t0 t1 ty:TypeId}{ts:Array TypeId}{elem:TypeId}{d1:TypeDesc}{sz n:Nat}{z:AV}{info:TypeInfo}{base:pm}{sLen sCap:Nat}{Y:Value}{old new:pi}{X:Cx}{w:World}
  (ht0:ts[0]?=some t0) (ht1:ts[1]?=some t1) (hu0:P.underlying t0=some (.slice elem)) (hu1:P.underlying t1=some d1) (hd:∀k,d1≠.int k) (hs:gD P elem=some sz) (hz:nE P elem=some z)
  (hi:P.info? elem=some info) (hzl:(jt z).length=sz) (hn:(Builtin.lenOf Y).run P w=.ok n w) (hnot:sCap<sLen+n) (hb:(2*(sLen+n)+192)*info.bytes<=281474976710656) (hne:sLen+n<=1099511627776)
  (hold:∀d,(Builtin.firstCells sz sLen (.slice base sLen sCap)).run P { w with drawn:=d }=.ok old.toArray { w with drawn:=d })
  (hnew:∀d,(Builtin.firstCells sz n Y).run P { w with drawn:=d }=.ok new.toArray { w with drawn:=d }) :
  ∃c,sLen+n<=c/\∃d,∃rest:pi,rest.length=(c-(sLen+n))*sz/\(Builtin.append_ ts ty #[.slice base sLen sCap,Y]).run P w =
   .ok (.slice (some ⟨w.heap.size,0,none⟩) (sLen+n) c) { w with drawn:=d,heap:=w.heap.push (.cells (old++new++rest).toArray elem (0,0)) }:=by
 refine⟨(Question.appendCap (sLen+n) sCap elem).cut (w.tape w.drawn (.appendCap (sLen+n) sCap elem)),by simp[Question.cut],w.drawn+1,?_⟩;obtain⟨Z,hzr,RZ⟩:=rn hz X w;have hz0:∀w,(zeroValue elem).run P w=.ok Z w:=by
  intro w';obtain⟨Z',h1,_⟩:=rn hz X w';unfold nE at hz;simp only[hi]at hz;split at hz<;>try cases hz
  rename_i v hv;simp only[zeroValue,Sem.run_bind,run_typeInfo hi,Result.andThen_ok,hv,Sem.run_pure]at hzr |-;simp only[asR,asY]at hzr;rw[hzr]
 have hzs:Z.cells.size=sz:=by rw[<-ass,(mR RZ).length,hzl]
 generalize hc:(Question.appendCap (sLen+n) sCap elem).cut (w.tape w.drawn (.appendCap (sLen+n) sCap elem))=c;refine⟨(Builtin.zeroCells Z.cells (c-(sLen+n))).toList,by simp[Builtin.zeroCells,hzs],?_⟩;have hbig:¬(Builtin.nextslicecap (sLen+n) sCap*info.bytes > 2^48):=by have:=arP info.bytes (JD hnot);show ¬(281474976710656<_);omega
 have hk:(match d1 with|.int _=>true|_=>false)=false:=by cases d1<;>first|rfl|exact absurd rfl (hd _)
 have hmax:¬(((sLen+n:Nat):Int) > IntKind.i64.max/\(false=true\/info.bytes=0)):=by
  intro q;have h1:=q.1;have:IntKind.i64.max=9223372036854775807:=atS
  rw[this]at h1;omega
 unfold Builtin.append_;simp only[ht0,ht1,Or,Fd,arV,Sem.run_bind,run_underlying hu0,run_underlying hu1,Result.andThen_ok,run_sizeOf hs,Sem.run_pure,run_typeInfo hi];rw[BT Bool.false_ne_true];simp only[Sem.run_bind,hn,Result.andThen_ok];rw[BT (by omega:¬sLen+n<=sCap)];simp only[Sem.run_bind,run_typeInfo hi,Result.andThen_ok];rw[BT hmax];simp only[Sem.run_bind,run_typeInfo hi,Result.andThen_ok];rw[BT hbig];simp only[Sem.run_bind,run_choose,Question.forced,asz,if_false,Result.andThen_ok,run_typeInfo hi,run_askRoom,hold,hc,Bool.not_false,if_true,hnew,hz0,newRow,run_newObj,Sem.run_pure];congr 3
 simp_all
theorem Zvh{P:Program}{t0 t1 ty:TypeId}{ts:Array TypeId}{elem:TypeId}{d1:TypeDesc}{sz n:Nat}{b off:Nat}{sLen sCap:Nat}{Y:Value}{new:pi}{w w':World}
  (ht0:ts[0]?=some t0) (ht1:ts[1]?=some t1) (hu0:P.underlying t0=some (.slice elem)) (hu1:P.underlying t1=some d1) (hd:∀k,d1≠.int k) (hs:gD P elem=some sz)
  (hn:(Builtin.lenOf Y).run P w=.ok n w) (hfit:sLen+n<=sCap) (hnew:(Builtin.firstCells sz n Y).run P w=.ok new.toArray w)
  (hst:(storeCells ⟨b,off+sLen*sz,none⟩ new).run P w=.ok () w') :
  (Builtin.append_ ts ty #[.slice (some ⟨b,off,none⟩) sLen sCap,Y]).run P w=.ok (.slice (some ⟨b,off,none⟩) (sLen+n) sCap) w':=by
 have hk:(match d1 with|.int _=>true|_=>false)=false:=atQ
 unfold Builtin.append_;simp only[ht0,ht1,Or,Fd,arV,Sem.run_bind,run_underlying hu0,run_underlying hu1,Result.andThen_ok,run_sizeOf hs,Sem.run_pure];rw[BT Bool.false_ne_true];simp only[Sem.run_bind,hn,Result.andThen_ok];rw[IO hfit];simp only[Sem.run_bind,Bool.not_false,if_true,hnew,Result.andThen_ok,ji,hst,Sem.run_pure]
theorem Zrb{P:Program}{t0 t1 ty:TypeId}{ts:Array TypeId}{elem:TypeId}{d1:TypeDesc}{sz:Nat}{Y:Value}{w:World}
  (ht0:ts[0]?=some t0) (ht1:ts[1]?=some t1) (hu0:P.underlying t0=some (.slice elem)) (hu1:P.underlying t1=some d1) (hd:∀k,d1≠.int k) (hs:gD P elem=some sz)
  (hn:(Builtin.lenOf Y).run P w=.ok 0 w) {l:pi}(hnew:(Builtin.firstCells sz 0 Y).run P w=.ok l.toArray w) :
  (Builtin.append_ ts ty #[.slice none 0 0,Y]).run P w=.ok (.slice none 0 0) w:=by
 have hk:(match d1 with|.int _=>true|_=>false)=false:=atQ
 unfold Builtin.append_;simp only[ht0,ht1,Or,Fd,arV,Sem.run_bind,run_underlying hu0,run_underlying hu1,Result.andThen_ok,run_sizeOf hs,Sem.run_pure]
 simp_all
def Ic(h:Hp)(τ:Sh)(x:AV):Option (List τ.T):=match x with
 |.bt=>some []|.fz τ' L=>match e:τ'.eqv τ with|true=>some (ma e L)|false=>none
 |.fJ τ' _ L=>match e:τ'.eqv τ with|true=>some (ma e L)|false=>none
 |.hd b _=>match h.tr.get b with
  |some (.arr τ' L _)=>match e:τ'.eqv τ with|true=>some (ma e L)|false=>none
  |_=>none
 |.vw b awo off len=>match h.tr.get b with
  |some (.arr τ' L _)=>match e:τ'.eqv τ,awo.eqv τ with|true,true=>some (ma e ((L.drop off).take len))|_,_=>none
  |_=>none
 |_=>none
def rX(X:Cx)(τ:Sh)(L:List τ.T)(V:Value):Prop:=∃a cap,V=.slice a L.length cap/\L.length<=cap/\∃cs,bK (Cs X.w X.out τ) L cs/\(L≠[]->∃b o c ty fr,a=some ⟨b,o,none⟩/\X.w.heap[b]?=some (.cells c ty fr)/\∀j u,cs[j]?=some u->c[o+j]?=some u)
theorem Jz{X:Cx}{τ τ':Sh}(h:τ.eqv τ'=true){L:List τ.T}{V:Value}(q:rX X τ L V):rX X τ' (ma h L) V:=by have:=Sh.ic h;subst this;exact q
theorem jj{α:Type}{a:List α}{i:Nat}{x:α}(h:a[i]?=some x):i<a.length:=by grind
theorem aeR{X:Cx}(H:aV X){τ:Sh}{x:AV}{L:List τ.T}{V:Value}(e:Ic X.h τ x=some L)(R:Rel X x V):rX X τ L V:=by
 unfold Ic at e;split at e<;>try cases e
 .rw[show V=_ from R];exact⟨none,0,rfl,rt _,[],rfl,fun h=>absurd rfl h⟩
 .split at e<;>try cases e
  rename_i he;refine Jz he ?_;obtain⟨a,len,cap,e1,e2,e3,e4⟩:=R;simp only[asH,asY]at e1;subst e1;subst e2;refine⟨a,cap,rfl,e3,?_⟩;rename_i τ' L';by_cases hL:L'=[]
  .subst hL;exact⟨[],rfl,fun h=>absurd rfl h⟩
  .obtain⟨b,o,Y,e5,e6,e7,c,ty,fr,e8,e9⟩:=e4 hL;exact⟨Y,e7,fun _=>⟨b,o,c,ty,fr,e5,e8,e9⟩⟩
 .split at e<;>try cases e
  rename_i he;refine Jz he ?_;obtain⟨⟨a,len,cap,e1,e2,e3,e4⟩,-⟩:=R;simp only[asH,asY]at e1;subst e1;subst e2;refine⟨a,cap,rfl,e3,?_⟩;rename_i τ' z' L';by_cases hL:L'=[]
  .subst hL;exact⟨[],rfl,fun h=>absurd rfl h⟩
  .obtain⟨b,o,Y,e5,e6,e7,c,ty,fr,e8,e9⟩:=e4 hL;exact⟨Y,e7,fun _=>⟨b,o,c,ty,fr,e5,e8,e9⟩⟩
 .rename_i b awo;split at e<;>try cases e
  rename_i τ' L' ty hb;split at e<;>try cases e
  rename_i he;refine Jz he ?_;obtain⟨l,h1,_,h2⟩:=R;rw[h2 _ (je hb)];cases l with
  |nil=>have hL:L'=[]:=H.obj b _ _ hb h1;subst hL;exact⟨none,0,rfl,rt _,[],rfl,fun h=>absurd rfl h⟩|dE _ _ _=>exact(H.obj b _ _ hb h1:False).elim|«at» x c=>
   obtain⟨cs,tail,q1,q2,q3,q4⟩:=H.obj b _ _ hb h1;refine⟨_,c,rfl,q4,cs,q2,fun _=>⟨x,0,_,ty,_,rfl,q1,?_⟩⟩
   grind
 .rename_i b awo off len;split at e<;>try cases e
  rename_i τ' L' ty hb;split at e<;>try cases e
  rename_i he auZ;have:=Sh.ic auZ;subst this;have:=Sh.ic he;subst this;refine Jz he ?_;obtain⟨l,a,c,h1,rfl,h3,h4,h5,h6⟩:=R;have hle:=h6 _ (je hb);have hlen:((L'.drop off).take len).length=len:=by simp;omega
  refine⟨a,c,by rw[hlen],by rw[hlen];exact h3,?_⟩;cases l with
  |nil=>
   have hL:L'=[]:=H.obj b _ _ hb h1;subst hL;have:len=0:=by simp only[IT]at hle;omega
   subst this;exact⟨[],by rw[arR];rfl,fun h=>by rw[arR]at h;exact absurd rfl h⟩
  |dE _ _ _=>exact(H.obj b _ _ hb h1:False).elim|«at» x k=>
   obtain⟨cs,tail,q1,q2,q3,q4⟩:=H.obj b _ _ hb h1;refine⟨_,bK.take (fun x c=>Cs.length) len (bK.drop (fun x c=>Cs.length) off q2),fun hne=>?_⟩;have hpos:0<len:=by
    rcases ST len with q|q
    .subst q;rw[arR]at hne;exact absurd rfl hne
    .exact q
   grind
theorem rX.run{P:Program}{X:Cx}{τ:Sh}{L:List τ.T}{V:Value}(h:rX X τ L V):∃cs,bK (Cs X.w X.out τ) L cs/\(∀w,(Builtin.lenOf V).run P w=.ok L.length w) /\
  ∀w,w.heap=X.w.heap->(Builtin.firstCells τ.size L.length V).run P w=.ok cs.toArray w:=by
 obtain⟨a,cap,rfl,_,cs,h1,h2⟩:=h;refine⟨cs,h1,fun w=>by simp[Builtin.lenOf],?_⟩;intro w hw;have hl:=bK.length (fun x c=>Cs.length) h1;by_cases hL:L=[]
 .subst hL;have hcs:cs=[]:=h1;subst hcs;cases a with|none=>simp[Builtin.firstCells]|some a=>simp[Builtin.firstCells,loadCells,loadCellsFrom]
 .obtain⟨b,o,c,ty,fr,rfl,h3,h4⟩:=h2 hL;rw[<-hw]at h3;rcases ST cs.length with q|q
  .have:cs=[]:=ww q;subst this;simp only[Builtin.firstCells,loadCells];rw[<-hl];simp[loadCellsFrom]
  .have hc:=ka (h4 (cs.length-1) cs[cs.length-1] (ba atO));simp only[Builtin.firstCells,loadCells];rw[Ev.run_loadCells (P:=P) h3 _ 0 #[] atO];congr 2;apply arW
   grind
mutual
theorem Cs.one{w:World}{A:Nat->Prop}:∀{σ:Sh}{d:σ.T}{cs:pi},Cs w A σ d cs->∀V∈cs,Ev.ou V=true
 |.int k,n,cs,h,V,hV=>by rw[show cs=[.int k n]from h]at hV;simp at hV;subst hV;rfl|.bool,b,cs,h,V,hV=>by rw[show cs=[.bool b]from h]at hV;simp at hV;subst hV;rfl|.str,s,cs,h,V,hV=>by rw[show cs=[.string s]from h]at hV;simp at hV;subst hV;rfl|.agg l,d,cs,h,V,hV=>jh.one (l:=l) h V hV|.sl s,L,cs,⟨a,len,cap,h,_⟩,V,hV=>by rw[h]at hV;simp at hV;subst hV;rfl
theorem jh.one{w:World}{A:Nat->Prop}:∀{l:List Sh}{d:TL l}{cs:pi},jh w A l d cs->∀V∈cs,Ev.ou V=true
 |[],_,cs,h,V,hV=>by rw[show cs=[]from h]at hV;cases hV
 |s::l,d,cs,⟨c,r,e,h1,h2⟩,V,hV=>by
  rw[e]at hV;rcases rc.1 hV with q|q
  .exact Cs.one h1 V q
  .exact jh.one h2 V q
end
theorem bK.one{w:World}{A:Nat->Prop}{τ:Sh}:∀{L:List τ.T}{cs:pi},bK (Cs w A τ) L cs->∀V∈cs,Ev.ou V=true
 |[],cs,h,V,hV=>by rw[h]at hV;cases hV
 |x::L,cs,⟨c,r,e,h1,h2⟩,V,hV=>by
  rw[e]at hV;rcases rc.1 hV with q|q
  .exact Cs.one h1 V q
  .exact bK.one h2 V q
def room(by_ n:Nat):Bool:=both (decide ((2*n+192)*by_<=281474976710656)) (decide (n<=1099511627776))
def Zn(h:Hp)(τ:Sh)(elem:TypeId)(su:AV):Option (List τ.T×Option Nat):=match su with
 |.bt=>some ([],none)|.hd b _=>match h.tr.get b with
  |some (.arr τ' L ty)=>match e:τ'.eqv τ,Nat.beq ty elem with|true,true=>some (ma e L,some b)|_,_=>none
  |_=>none
 |.vw b awo off len=>match off with
  |0=>match h.tr.get b with
   |some (.arr τ' L ty)=>match e:τ'.eqv τ,awo.eqv τ,Nat.beq ty elem with|true,true,true=>some (ma e (L.take len),some b)|_,_,_=>none
   |_=>none
  |_=>none
 |_=>none
def v9(tr:Tr bC):Option Nat->Option (Tr bC)
 |none=>some tr|some b=>Tr.set FT tr b none
def Hz:TypeDesc->Bool|.slice _=>true|_=>false
def Jn(P:Program)(sh:TypeId->Option Sh)(h:Hp)(ts:Array TypeId)(su x:AV):Option (Bool×AV×Hp):=match nth ts.toList 0,nth ts.toList 1 with
 |some t0,some t1=>match P.underlying t0,P.underlying t1 with
  |some (.slice elem),some d1=>match Hz d1,sh elem,gD P elem,nE P elem,lJ P elem with
   |true,some τ,some sz,some z,some by_=>match Nat.beq (jt z).length sz,Nat.beq τ.size sz,Zn h τ elem su,Ic h τ x with
    |true,true,some (L,ob),some M=>match v9 h.tr ob with
     |some tr=>match Tr.set FT tr h.next (some (.arr τ (L++M) elem))with|some tr=>some (room by_ (L++M).length,.hd h.next τ,⟨tr,h.next+1⟩)|none=>none
     |none=>none
    |_,_,_,_=>none
   |_,_,_,_,_=>none
  |_,_=>none
 |_,_=>none
structure Grown(X X':Cx)(τ:Sh)(N:List τ.T)(V:Value):Prop where
 H:aV X'
 E:bh X X'
 A:X'.A=X.A
 R:Rel X' (.hd X.h.next τ) V
theorem y8{X:Cx}{n:Nat}{τ:Sh}{N:List τ.T}{ty:TypeId}{l:Loc}(hg:X.h.tr.get n=some (.arr τ N ty))(hs:X.s n=some l):Rel X (.hd n τ) (l.slice N.length):=by refine⟨l,hs,by cases l<;>rfl,?_⟩;intro n' q;rw[je hg]at q;cases q;rfl
theorem Grown.grow{X X₁:Cx}(H:aV X)(aue:bh X X₁)(auo:aV X₁)(hn:X₁.h.next=X.h.next)(hw:X₁.w=X.w){τ:Sh}{N:List τ.T}{ty:TypeId}{tr:Tr bC}(ht:Tr.set FT X₁.h.tr X₁.h.next (some (.arr τ N ty))=some tr)
  {c d:Nat}{cs rest:pi}(hf:bK (Cs X.w X.out τ) N cs) (hr:rest.length=(c-N.length)*τ.size) (hc:N.length<=c) :
  Grown X ⟨cw X₁.s X₁.h.next (.at X₁.w.heap.size c),⟨tr,X₁.h.next+1⟩,{ X₁.w with drawn:=d,heap:=X₁.w.heap.push (.cells (cs++rest).toArray ty (0,0)) },X₁.A⟩ τ N (.slice (some ⟨X.w.heap.size,0,none⟩) N.length c):=by
 have Hd:=auo.drew d;have Ed:=aue.trans (bh.drew X₁ d);have En:=aa9 (c:=c) (ob:=.cells (cs++rest).toArray ty (0,0)) Hd ht;have E:=Ed.trans En;have hg:=Tr.dp FT X₁.h.tr X₁.h.next _ tr ht;have Hn:=aV.new Hd ht (by refine⟨cs,rest,atQ,hf.mono (fun x c q=>q.bn E.keeps),?_,hc⟩;rw[bK.length (fun x c=>Cs.length) hf,hr,<-asc];congr 1;omega);refine⟨Hn,E,E.A,?_⟩;have:=y8 (X:=⟨cw X₁.s X₁.h.next (.at X₁.w.heap.size c),⟨tr,X₁.h.next+1⟩,{ X₁.w with drawn:=d,heap:=X₁.w.heap.push (.cells (cs++rest).toArray ty (0,0)) },X₁.A⟩) (N:=N) (ty:=ty) (by grind) (fU _ _ _);rw[<-hn];simpa[Loc.slice,hw]using this
theorem Grown.fit{X:Cx}(H:aV X){b x c:Nat}{τ:Sh}{L N:List τ.T}{ty:TypeId}{avO tr:Tr bC}(hb:X.h.tr.get b=some (.arr τ L ty))(hs:X.s b=some (.at x c))(hk:Tr.set FT X.h.tr b none=some avO)
  (ht:Tr.set FT avO X.h.next (some (.arr τ N ty))=some tr) {cs tail:pi}(hf:bK (Cs X.w X.out τ) N cs) (hr:cs.length+tail.length=c*τ.size) (hc:N.length<=c) :
  Grown X ⟨cw X.s X.h.next (.at x c),⟨tr,X.h.next+1⟩,cS X.w x (.cells (cs++tail).toArray ty (0,0)),X.A⟩ τ N (.slice (some ⟨x,0,none⟩) N.length c):=by
 have ava:=Tr.dp FT X.h.tr b none avO hk;have hg:=Tr.dp FT avO X.h.next _ tr ht;have bz:=H.bound hb hs;have hbn:=H.lt b _ hb;have sn:X.s X.h.next=none:=by cases q:X.s X.h.next with|none=>rfl|some l=>have:=H.dM _ _ q;omega
 have old:∀j l,X.s j=some l->cw X.s X.h.next (.at x c) j=some l:=by intro j l h;rw[eJ _ _ _ (by rintro rfl;rw[sn]at h;cases h)];exact h
 have alt:∀j o,tr.get j=some o->(j=X.h.next/\o=.arr τ N ty)\/(X.h.tr.get j=some o/\j≠b/\j≠X.h.next):=by grind
 have E:bh X ⟨cw X.s X.h.next (.at x c),⟨tr,X.h.next+1⟩,cS X.w x (.cells (cs++tail).toArray ty (0,0)),X.A⟩:=by
  refine⟨rfl,rfl,rfl,by rw[lY];exact rt _,old,?_,atQ,?_,?_,?_,?_,rfl⟩
  .intro i l hi h
   replace h:cw X.s X.h.next (.at x c) i=some l:=h
   rw[eJ _ _ _ atO]at h;exact h
  .intro k hk hn;show(cS X.w x _).heap[k]?=_;rw[iU,BT];rintro⟨rfl,_⟩;exact hn ⟨b,_,_,hb,hs,rfl⟩
  .rintro k ⟨j,o,auL,h1,h2,h5⟩;left
   replace h2:cw X.s X.h.next (.at x c) j=some auL:=h2
   rcases alt j o h1 with⟨rfl,rfl⟩|⟨h1,h3,h4⟩
   .rw[fU]at h2;cases h2;exact⟨b,_,_,hb,hs,h5⟩
   .rw[eJ _ _ _ h4]at h2;exact⟨j,o,auL,h1,h2,h5⟩
  .intro j n' hj h;obtain⟨o,h,hrow⟩:=mh h;rcases alt j _ h with⟨rfl,_⟩|⟨h1,h3,h4⟩
   .omega
   .show rowOf X.h.tr j=some n';rw[kP h1];exact hrow
  grind
 have Hn:aV ⟨cw X.s X.h.next (.at x c),⟨tr,X.h.next+1⟩,cS X.w x (.cells (cs++tail).toArray ty (0,0)),X.A⟩:=by
  refine⟨?_,?_,?_,?_,by rw[show(cS X.w x (.cells (cs++tail).toArray ty (0,0))).heap.size=X.w.heap.size from lY _ _ _];exact H.alt,?_⟩
  .intro j o l hj hl
   replace hl:cw X.s X.h.next (.at x c) j=some l:=hl
   rcases alt j o hj with⟨rfl,rfl⟩|⟨h1,h3,h4⟩
   .rw[fU]at hl;simp only[cM]at hl;subst hl;refine⟨cs,tail,?_,hf.mono (fun x c q=>q.bn E.keeps),hr,hc⟩;show(cS X.w x _).heap[x]?=_;rw[iU,IO ⟨rfl,bz⟩]
   .rw[eJ _ _ _ h4]at hl;refine(H.obj j o l h1 hl).ext (E.fG H) ?_;intro b' hb';show(cS X.w x _).heap[b']?=_;rw[iU,BT];rintro⟨rfl,_⟩;exact h3 (H.inj j b o _ l _ b' h1 hb hl hs hb' rfl)
  .intro j k o o' auL auM y hj hk e1 e2 f1 f2
   replace e1:cw X.s X.h.next (.at x c) j=some auL:=e1
   replace e2:cw X.s X.h.next (.at x c) k=some auM:=e2
   rcases alt j o hj with⟨rfl,rfl⟩|⟨h1,h3,h4⟩<;>rcases alt k o' hk with⟨rfl,rfl⟩|⟨p1,p3,p4⟩
   .rfl
   .rw[fU]at e1;cases e1;rw[eJ _ _ _ p4]at e2;exact absurd (H.inj k b o' _ auM _ y p1 hb e2 hs f2 f1) p3
   .rw[fU]at e2;cases e2;rw[eJ _ _ _ h4]at e1;exact absurd (H.inj j b o _ auL _ y h1 hb e1 hs f1 f2) h3
   .rw[eJ _ _ _ h4]at e1;rw[eJ _ _ _ p4]at e2;exact H.inj j k o o' auL auM y h1 p1 e1 e2 f1 f2
  .intro j o hj;rcases alt j o hj with⟨rfl,rfl⟩|⟨h1,h3,h4⟩
   .simp
   .have:=H.lt j o h1;simp only;omega
  .intro j l hl
   replace hl:cw X.s X.h.next (.at x c) j=some l:=hl
   by_cases q:j=X.h.next
   .simp[q]
   .rw[eJ _ _ _ q]at hl;have:=H.dM j l hl;simp only;omega
  .intro j o auL y hj e f
   replace e:cw X.s X.h.next (.at x c) j=some auL:=e
   rcases alt j o hj with⟨rfl,rfl⟩|⟨h1,h3,h4⟩
   .rw[fU]at e;cases e;exact H.loc b _ _ y hb hs f
   .rw[eJ _ _ _ h4]at e;exact H.loc j o auL y h1 e f
 refine⟨Hn,E,rfl,?_⟩;have:=y8 (X:=⟨cw X.s X.h.next (.at x c),⟨tr,X.h.next+1⟩,cS X.w x (.cells (cs++tail).toArray ty (0,0)),X.A⟩) (n:=X.h.next) (τ:=τ) (N:=N) (ty:=ty) (l:=.at x c) (by rw[hg,IO rfl]) (fU _ _ _);simpa[Loc.slice]using this
theorem Grown.none{X X₁:Cx}(aue:bh X X₁)(auo:aV X₁)(hn:X₁.h.next=X.h.next){τ:Sh}{ty:TypeId}{tr:Tr bC}(ht:Tr.set FT X₁.h.tr X₁.h.next (some (.arr τ [] ty))=some tr) :
  Grown X ⟨cw X₁.s X₁.h.next .nil,⟨tr,X₁.h.next+1⟩,X₁.w,X₁.A⟩ τ [] (.slice none 0 0):=by
 obtain⟨E,H⟩:=auo.void ht;have hg:=Tr.dp FT X₁.h.tr X₁.h.next _ tr ht;refine⟨H,aue.trans E,aue.A,?_⟩;have:=y8 (X:=⟨cw X₁.s X₁.h.next .nil,⟨tr,X₁.h.next+1⟩,X₁.w,X₁.A⟩) (τ:=τ) (N:=[]) (ty:=ty) (by grind) (fU _ _ _);rw[<-hn];simpa[Loc.slice]using this
theorem Zoj{P:Program}{sh:TypeId->Option Sh}{X:Cx}(H:aV X){ts:Array TypeId}{ty:TypeId}{su x v:AV}{g:Bool}{h':Hp}(e:Jn P sh X.h ts su x=some (g,v,h'))(hgd:g=true){U Y:Value}(R:Rel X su U)(RY:Rel X x Y) :
  ∃X' V,(Builtin.append_ ts ty #[U,Y]).run P X.w=.ok V X'.w/\X'.h=h'/\X'.A=X.A/\aV X'/\bh X X'/\Rel X' v V:=by
 subst hgd;unfold Jn at e;split at e<;>try cases e
 rename_i t0 t1 ht0 ht1;have ht0:ts[0]?=some t0:=by rw[fc]at ht0;simpa using ht0
 have ht1:ts[1]?=some t1:=by rw[fc]at ht1;simpa using ht1
 split at e<;>try cases e
 rename_i elem d1 hu0 hu1;split at e<;>try cases e
 rename_i τ sz z by_ hd1 hsh hs hz hby;split at e<;>try cases e
 rename_i L ob M hzl hsz hbase hsrc;split at e<;>try cases e
 rename_i avO hk;split at e<;>try cases e
 rename_i tr ht;simp only[cM,arJ]at e;obtain⟨hroom,rfl,rfl⟩:=e;have hsz:=cB hsz;subst hsz;have hzl:=cB hzl;have hd:∀k,d1≠.int k:=by intro k q;subst q;simp[Hz]at hd1
 obtain⟨info,hi,rfl⟩:∃info,P.info? elem=some info/\info.bytes=by_:=by unfold lJ at hby;cases hi:P.info? elem<;>simp[hi]at hby;exact⟨_,rfl,hby⟩
 obtain⟨r1,r2⟩:=pk hroom;simp only[IR,bU]at r1 r2;obtain⟨ms,hm,hlen,hfirst⟩:=(aeR H hsrc RY).run (P:=P);have bare:∀X₁:Cx,bh X X₁->aV X₁->X₁.h=⟨avO,X.h.next⟩->X₁.w=X.w->L=[]->U=.slice none 0 0 ->
   ∃X' V,(Builtin.append_ ts ty #[U,Y]).run P X.w=.ok V X'.w/\X'.h=⟨tr,X.h.next+1⟩/\X'.A=X.A/\aV X'/\bh X X'/\Rel X' (.hd X.h.next τ) V:=by
  intro X₁ aue auo hX hw hL hU;subst hL;subst hU;rcases ST M.length with q|q
  .have:M=[]:=ww q;subst this;have G:=Grown.none aue auo (by rw[hX]) (τ:=τ) (ty:=elem) (tr:=tr) (by rw[hX];exact ht);refine⟨_,_,?_,by rw[hX],G.A,G.H,G.E,G.R⟩;have:=Zrb (ty:=ty) ht0 ht1 hu0 hu1 hd hs (hlen X.w) (hfirst X.w rfl);rw[this];simp[hw]
  .obtain⟨c,hc,d,rest,hr,hrun⟩:=Tu (ty:=ty) (X:=X) (base:=none) (sLen:=0) (sCap:=0) (old:=[]) ht0 ht1 hu0 hu1 hd hs hz hi hzl (hlen X.w) atO (by simpa using r1) (by simpa using r2) (fun d=>by simp[Builtin.firstCells]) (fun d=>hfirst _ rfl);have G:=Grown.grow (N:=M) (ty:=elem) (tr:=tr) (d:=d) H aue auo (by rw[hX]) hw (by rw[hX];exact ht) hm (by simpa using hr) (by simpa using hc);refine⟨_,_,?_,by rw[hX],G.A,G.H,G.E,G.R⟩;rw[hrun];simp[hw]
 have blk:∀(b x c:Nat) (aur:List τ.T) (n:Nat),X.h.tr.get b=some (.arr τ aur elem)->X.s b=some (.at x c)->Tr.set FT X.h.tr b none=some avO->L=aur.take n->n<=aur.length->U=.slice (some ⟨x,0,none⟩) n c ->
   ∃X' V,(Builtin.append_ ts ty #[U,Y]).run P X.w=.ok V X'.w/\X'.h=⟨tr,X.h.next+1⟩/\X'.A=X.A/\aV X'/\bh X X'/\Rel X' (.hd X.h.next τ) V:=by
  intro b x c aur n hb hsb hkb hL hn hU;subst hU;have hLl:L.length=n:=by rw[hL];simp;omega
  obtain⟨cs,tail,q1,q2,q3,q4⟩:=H.obj b _ _ hb hsb;have hcl:=bK.length (fun x c=>Cs.length) q2;have hml:=bK.length (fun x c=>Cs.length) hm;have htk:bK (Cs X.w X.out τ) L (cs.take (n*τ.size)):=by rw[hL];exact bK.take (fun x c=>Cs.length) n q2
  have htl:=bK.length (fun x c=>Cs.length) htk;have hnm:n*τ.size<=cs.length:=by rw[hcl];exact arP _ hn
  have hall:bK (Cs X.w X.out τ) (L++M) (cs.take (n*τ.size)++ms):=htk.append hm;by_cases hfit:n+M.length<=c
  .have hfc:n*τ.size+ms.length<=(cs++tail).length:=by rw[bU,q3,hml,<-asc];exact arP _ hfit
   obtain⟨ds,hds,hst⟩:=nD (P:=P) (off:=n*τ.size) ms 0 X.w _ q1 (by simpa using hfc) (fun V hV=>bK.one hm V hV);have hdsE:ds=(cs.take (n*τ.size)++ms++(cs++tail).drop (n*τ.size+ms.length)).toArray:=by apply asm.1;rw[hds];simp only[asF];rw[asr hnm]
   subst hdsE;have G:=Grown.fit (N:=L++M) H hb hsb hkb ht hall (tail:=(cs++tail).drop (n*τ.size+ms.length)) (by simp only[bU,asl,fx]at hfc |-;omega) (by simp;omega);refine⟨_,_,?_,rfl,G.A,G.H,G.E,G.R⟩;have:=Zvh (ty:=ty) ht0 ht1 hu0 hu1 hd hs (hlen X.w) hfit (hfirst X.w rfl) (b:=x) (off:=0) (by simpa using hst);rw[this];simp[hLl]
  .have hold:∀d,(Builtin.firstCells τ.size n (.slice (some ⟨x,0,none⟩) n c)).run P { X.w with drawn:=d }=.ok (cs.take (n*τ.size)).toArray { X.w with drawn:=d }:=by intro d;simp only[Builtin.firstCells,loadCells];rw[Ev.run_loadCells (P:=P) (w:={ X.w with drawn:=d }) q1 _ 0 #[] (by simp;omega)];congr 2;simp only[asF,UV,List.drop_zero];rw[asr hnm]
   obtain⟨c',hc',d,rest,hr,hrun⟩:=Tu (ty:=ty) (X:=X) (base:=some ⟨x,0,none⟩) (sLen:=n) (sCap:=c) ht0 ht1 hu0 hu1 hd hs hz hi hzl (hlen X.w) atO (by rw[<-hLl];exact r1) (by rw[<-hLl];exact r2) hold (fun d=>hfirst _ rfl);obtain⟨aue,auo⟩:=H.kill hsb hkb;have G:=Grown.grow (N:=L++M) (ty:=elem) (tr:=tr) (d:=d) (cs:=cs.take (n*τ.size)++ms) (rest:=rest) (c:=c') H aue auo rfl rfl ht hall (by rw[bU,hLl];exact hr) (by rw[bU,hLl];exact hc');refine⟨_,_,?_,rfl,G.A,G.H,G.E,G.R⟩;rw[hrun];simp[hLl]
 unfold Zn at hbase;split at hbase<;>try cases hbase
 .simp only[v9,cM]at hk;subst hk;exact bare X (bh.refl X) H rfl rfl rfl R
 .rename_i b awo;split at hbase<;>try cases hbase
  rename_i τ' aur ty' hb;split at hbase<;>try cases hbase
  rename_i he hty;have hty:=cB hty;subst hty;have:=Sh.ic he;subst this;simp only[v9]at hk;obtain⟨l,h1,_,h2⟩:=R;have hV:=h2 _ (je hb);cases l with
  |nil=>have hL:aur=[]:=H.obj b _ _ hb h1;subst hL;obtain⟨aue,auo⟩:=H.kill h1 hk;exact bare _ aue auo rfl rfl rfl hV
  |dE _ _ _=>exact(H.obj b _ _ hb h1:False).elim|«at» x c=>exact blk b x c aur aur.length hb h1 hk (by rw[eX];rfl) (rt _) hV
 .rename_i b awo off len;split at hbase<;>try cases hbase
  split at hbase<;>try cases hbase
  rename_i τ' aur ty' hb;split at hbase<;>try cases hbase
  rename_i he auZ hty;have hty:=cB hty;subst hty;have:=Sh.ic auZ;subst this;have:=Sh.ic he;subst this;simp only[v9]at hk;obtain⟨l,a,c,h1,rfl,h3,h4,h5,h6⟩:=R;have hV:=h5 rfl;have hle:=h6 _ (je hb);cases l with
  |nil=>
   have hL:aur=[]:=H.obj b _ _ hb h1;subst hL;obtain⟨aue,auo⟩:=H.kill h1 hk;have:len=0:=by simp only[IT]at hle;omega
   subst this;exact bare _ aue auo rfl rfl rfl hV
  |dE _ _ _=>exact(H.obj b _ _ hb h1:False).elim|«at» x k=>exact blk b x k aur len hb h1 hk rfl atO hV
def yN(h:Hp)(τ:Sh):Nat->List AV->Option (List τ.T×Hp)
 |0,l=>match l with|[]=>some ([],h)|_=>none
 |n+1,l=>match fX true h τ l with
  |some (x,r,h)=>match yN h τ n r with|some (xs,h)=>some (x::xs,h)|none=>none
  |none=>none
theorem Z5{τ:Sh}:∀{n:Nat}{l:List AV}{X:Cx}{L:List τ.T}{h':Hp}{cs:pi},aV X->yN X.h τ n l=some (L,h')->bT X l cs ->
  gF X h'/\L.length=n/\bK (Cs X.w (Cx.out ⟨X.s,h',X.w,X.A⟩) τ) L cs
 |0,l,X,L,h',cs,H,e,R=>by simp only[yN]at e;split at e<;>cases e;exact⟨gF.refl H,rfl,R⟩
 |n+1,l,X,L,h',cs,H,e,R=>by
  simp only[yN]at e;split at e<;>try cases e
  rename_i x r h₁ hf;split at e<;>cases e;rename_i xs hx;obtain⟨F,c,t,rfl,q1,q2⟩:=tu H hf R;obtain⟨aul,k1,k2⟩:=Z5 F.H hx q2;exact⟨F.trans aul,by simp[k1],c,t,rfl,q1.bn aul.E.keeps,k2⟩
def Ig(h:Hp):AV->Option (AV×Hp)
 |.vw b τ off len=>match off with
  |0=>match h.tr.get b with
   |some o=>match o with
    |.cells vs _=>match Tr.set FT h.tr b none with
     |some tr=>match yN ⟨tr,h.next⟩ τ len vs with|some (L,h')=>some (.fz τ L,h')|none=>none
     |none=>none
    |_=>none
   |none=>none
  |_=>none
 |_=>none
theorem aaw{X:Cx}(H:aV X){x v:AV}{h':Hp}(e:Ig X.h x=some (v,h')){V:Value}(R:Rel X x V):gF X h'/\Rel ⟨X.s,h',X.w,X.A⟩ v V:=by
 unfold Ig at e;split at e<;>try cases e
 rename_i b τ off len;split at e<;>try cases e
 split at e<;>try cases e
 rename_i o hb;split at e<;>try cases e
 rename_i vs ty;split at e<;>try cases e
 rename_i tr ht;split at e<;>cases e;rename_i L hr;obtain⟨l,a,c,g1,rfl,g3,g4,g5,g6⟩:=R;obtain⟨x,k,cs,rfl,q1,q2⟩:=H.obj b _ l hb g1;have F:=gF.kill H g1 ht;obtain⟨aul,k1,k2⟩:=Z5 (X:=⟨X.s,⟨tr,X.h.next⟩,X.w,X.A⟩) F.H hr (q2.ext (F.E.fG H));have aum:=F.trans aul;refine⟨aum,a,len,c,rfl,k1.symm,g3,fun hne=>?_⟩;have hpos:0<len:=by grind
 obtain⟨x',k',e1,e2⟩:=g4 hpos;cases e1;refine⟨x,0,cs,by grind,?_,k2,_,ty,_,q1,fun j u hu=>by grind⟩;rintro(r|⟨j,o',c',p1,p2,p3⟩)
 .exact H.loc b _ _ x hb g1 rfl r
 .have p1':=aul.sub j o' p1;have hg:=Tr.dp FT X.h.tr b none tr ht j
  replace p1':tr.get j=some o':=p1'
  rw[hg]at p1';by_cases hj:j=b
  .rw[IO hj]at p1';cases p1'
  .rw[BT hj]at p1';exact hj (H.inj j b o' _ c' _ x p1' hb p2 g1 p3 rfl)
def TI(P:Program)(sh:TypeId->Option Sh)(h:Hp)(ts:Array TypeId)(su x:AV):Option (Bool×AV×Hp):=match Jn P sh h ts su x with|some r=>some r|none=>match Ig h x with|some (x',h')=>Jn P sh h' ts su x'|none=>none
theorem amv{P:Program}{sh:TypeId->Option Sh}{X:Cx}(H:aV X){ts:Array TypeId}{ty:TypeId}{su x v:AV}{g:Bool}{h':Hp}(e:TI P sh X.h ts su x=some (g,v,h'))(hgd:g=true){U Y:Value}(R:Rel X su U)(RY:Rel X x Y) :
  ∃X' V,(Builtin.append_ ts ty #[U,Y]).run P X.w=.ok V X'.w/\X'.h=h'/\X'.A=X.A/\aV X'/\bh X X'/\Rel X' v V:=by
 unfold TI at e;split at e
 .rename_i r hr;cases e;exact Zoj H hr hgd R RY
 .split at e<;>try cases e
  rename_i x' h₁ hx;obtain⟨F,Q⟩:=aaw H hx RY;obtain⟨X',V,a1,a2,a3,a4,a5,a6⟩:=Zoj F.H e hgd (R.ext (F.E.fG H)) Q;exact⟨X',V,a1,a2,a3,a4,F.E.trans a5,a6⟩
open Go.Proofs.YtmkbdfidnfmgmaaGreat.Ev (Tr Tr.dp nth fc takeN jm lH lI cS iU lY run_underlying run_typeInfo run_sizeOf gD ji places ta lJ qY pj nD JD tc)
def jC:Nat->pi->pi
 |0,_=>[]|n+1,z=>z++jC n z
theorem Jo(n:Nat)(z:pi):(jC n z).length=n*z.length:=by induction n with|zero=>simp[jC]|succ n ih=>simp[jC,ih,asc,atI]
theorem ajc(n m:Nat)(z:pi):jC (n+m) z=jC n z++jC m z:=by induction n with|zero=>simp[jC]|succ n ih=>rw[show n+1+m=(n+m)+1 by omega];simp[jC,ih]
theorem aaA(z:pi):∀(n i:Nat),i<n*z.length->(jC n z)[i]?=z[i % z.length]?
 |0,i,h=>by omega|n+1,i,h=>by
  simp only[jC];rcases arm i z.length with q|q
  .rw[Pi atO,atJ q]
  .rw[WF atO,aaA z n (i-z.length) (by grind)];congr 1;rw[<-Nat.mod_eq_sub_mod q]
theorem Zy9(n k:Nat)(zero:Array Value)(hk:k=n*zero.size):((Array.range k).map (zero[· % zero.size]!))=(jC n zero.toList).toArray:=by
 apply asm.1;apply arW;intro i;have hs:zero.toList.length=zero.size:=ass;simp;rcases arm i k with q|q
 .have hz0:0<zero.size:=by grind
  rw[arT q,aaA _ n i (by grind)];have hm:=Nat.mod_lt i hz0;simp[hs,hm]
 .rw[abs (by grind),abs (by rw[Jo,hs];omega)];rfl
theorem bK.rep{α:Type}{R:α->pi->Prop}{x:α}{z:pi}(h:R x z):∀n,bK R (List.replicate n x) (jC n z)
 |0=>rfl|n+1=>⟨z,jC n z,rfl,h,bK.rep h n⟩
theorem Zy2{P:Program}{t:TypeId}{z:AV}{k:Nat}{w:World}{X:Cx}(hz:nE P t=some z) :
  ∃zero:Array Value,((if k=0 then pure #[]else do pure (<- zeroValue t).cells).run P w=.ok zero w)/\(k≠0->∃Z,zero=Z.cells/\Rel X z Z):=by
 by_cases hk:k=0
 .exact⟨#[],by simp[hk],fun h=>absurd hk h⟩
 .obtain⟨Z,h1,h2⟩:=rn hz X w;refine⟨Z.cells,?_,fun _=>⟨Z,rfl,h2⟩⟩;rw[BT hk];simp[h1]
def ja(h:Hp)(τ:Sh):Nat->List AV->Option (List τ.T)
 |0,l=>match l with|[]=>some []|_=>none
 |n+1,l=>match fX false h τ l with
  |some (x,r,_)=>match ja h τ n r with|some xs=>some (x::xs)|none=>none
  |none=>none
theorem Z4{X:Cx}(H:aV X){τ:Sh}:∀{n:Nat}{l:List AV}{L:List τ.T}{cs:pi},ja X.h τ n l=some L->bT X l cs->L.length=n/\bK (Cs X.w X.out τ) L cs
 |0,l,L,cs,e,R=>by simp only[ja]at e;split at e<;>cases e;exact⟨rfl,R⟩
 |n+1,l,L,cs,e,R=>by
  simp only[ja]at e;split at e<;>try cases e
  rename_i x r h₁ hf;split at e<;>try cases e
  rename_i xs hx;have hs:=JJ hf;subst hs;obtain⟨F,c,t,rfl,q1,q2⟩:=tu H hf R;obtain⟨k1,k2⟩:=Z4 H hx q2;exact⟨by simp[k1],c,t,rfl,q1,k2⟩
def RJ:Nat->List AV->List AV
 |0,_=>[]|n+1,z=>z++RJ n z
theorem aaB{X:Cx}{z:List AV}{Z:pi}(R:bT X z Z):∀n,bT X (RJ n z) (jC n Z)
 |0=>rfl|n+1=>R.append (aaB R n)
def xw(h:Hp)(n:Nat)(elem:TypeId)(len sz:Nat)(r:List AV):Option Sh->Option (Bool×bC×AV)
 |some τ=>match Nat.beq τ.size sz with
  |true=>match ja h τ len r with|some L=>some (true,.arr τ L elem,.hd n τ)|none=>some (true,.cells r elem,.vw n τ 0 len)
  |false=>none
 |none=>some (true,.cells r elem,.vw n .bool 0 len)
def qv(P:Program)(sh:TypeId->Option Sh)(T:Tr AV)(h:Hp)(n:Nat):Op->Option (Bool×bC×AV)
 |.alloc elem=>match nE P elem with|some z=>some (true,.cells (jt z) elem,.ptr n 0)|none=>none
 |.box elem x=>match dX T x with|some u=>some (true,.cells (jt u) elem,.ptr n 0)|none=>none
 |.makeSlice t l c=>match P.underlying t,dX T l,dX T c with
  |some (.slice elem),some (.int _ li),some (.int _ ci)=>match sh elem,lJ P elem,gD P elem,nE P elem with
   |some τ,some by_,some sz,some z=>match Nat.beq τ.size sz,Nat.beq (jt z).length sz,Nat.blt 0 by_,Nat.blt 0 sz,rF τ (jt z)with|true,true,true,true,some []=>some (both (decide (0<=li)) (both (decide (li<=ci)) (decide ((by_:Int)*ci<=281474976710656))),.arr τ (List.replicate li.toNat τ.zero) elem,.hd n τ)|_,_,_,_,_=>none
   |_,_,_,_=>none
  |_,_,_=>none
 |.buildSlice t len parts=>match P.underlying t,qm T parts.toList with
  |some (.slice elem),some ps=>match gD P elem,nE P elem with
   |some sz,some z=>match Nat.ble (len*sz) 16777216,Nat.beq (jt z).length sz,ur (fun i=>some (i*sz,sz)) (RJ len (jt z)) ps with|true,true,some r=>xw h n elem len sz r (sh elem)|_,_,_=>none
   |_,_=>none
  |_,_=>none
 |.makeMap t r=>match r,P.underlying t with
  |none,some (.map kt et)=>match P.underlying kt,sh et with|some (.int κ),some σ=>some (true,.map κ σ [],.mp n)|_,_=>none
  |_,_=>none
 |_=>none
structure Made(X X':Cx)(n:Nat)(c:Nat)(ob:bC)(ob':Obj):Prop where
 E:jd X X'
 w:X'.w.heap=X.w.heap.push ob'
 s:X'.s n=some (.at X.w.heap.size c)
 o:X'.h.tr.get n=some ob
theorem Zx7{P:Program}{sh:TypeId->Option Sh}{T:Tr AV}{n:Nat}{o:Oper}{g:Bool}{ob:bC}{v:AV}{X:Cx}(H:aV X)(e:qv P sh T X.h n o.op=some (g,ob,v))(hg:g=true){a:Act}(hO:qV X T a o.op) :
  ∃c ob' V,(execOp a.eval o).run P X.w=.ok (.value V) { X.w with heap:=X.w.heap.push ob' }/\∀X',Made X X' n c ob ob'->jA X' (.at X.w.heap.size c) ob/\Rel X' v V:=by
 subst hg;have top:∀{X':Cx}{c:Nat}{ob:bC}{ob':Obj},Made X X' n c ob ob'->X'.w.heap[X.w.heap.size]?=some ob':=by intro X' c ob ob' M;rw[M.w];simp
 unfold qv at e;split at e
 .rename_i elem ho;split at e<;>try cases e
  rename_i z hz;obtain⟨Z,h1,h2⟩:=rn hz X X.w;refine⟨0,.cells Z.cells elem (0,0),.pointer (some ⟨X.w.heap.size,0,none⟩),?_,fun X' M=>⟨⟨_,0,Z.cells.toList,rfl,by rw[top M],(mR h2).ext M.E⟩,_,_,M.s,rfl⟩⟩;unfold execOp;rw[ho];simp only[Instr.alloc,Sem.run_bind,h1,Result.andThen_ok,newVar,newRow,run_newObj,Sem.run_pure]
 .rename_i elem x ho;split at e<;>try cases e
  rename_i u hu;rw[ho]at hO;have hx:=hO x (by simp[Op.operands]) u hu;refine⟨0,.cells (a.eval x).cells elem (0,0),.pointer (some ⟨X.w.heap.size,0,none⟩),?_,fun X' M=>⟨⟨_,0,(a.eval x).cells.toList,rfl,by rw[top M],(mR hx).ext M.E⟩,_,_,M.s,rfl⟩⟩;unfold execOp;rw[ho];simp only[Instr.box,Sem.run_bind,Result.andThen_ok,newVar,newRow,run_newObj,Sem.run_pure]
 .rename_i t l c ho;rw[ho]at hO;split at e<;>try cases e
  rename_i elem kl li kc ci hu hl hc;have hl':=hO l (by simp[Op.operands]) _ hl;have hc':=hO c (by simp[Op.operands]) _ hc;split at e<;>try cases e
  rename_i τ by_ sz z hsh hb hs hz;split at e<;>try cases e
  rename_i q1 q2 q3 q4 q5;simp only[cM,arJ]at e;obtain⟨hgd,rfl,rfl⟩:=e;have q1:=cB q1;subst q1;have q2:=cB q2;rw[atA]at q3 q4;obtain⟨g1,g2⟩:=pk hgd;obtain⟨g2,g3⟩:=pk g2;simp only[IR]at g1 g2 g3;obtain⟨info,hi,rfl⟩:∃info,P.info? elem=some info/\info.bytes=by_:=by unfold lJ at hb;cases hi:P.info? elem<;>simp[hi]at hb;exact⟨_,rfl,hb⟩
  obtain⟨l',rfl⟩:=BY g1;obtain⟨c',rfl⟩:=BY (show 0<=ci by omega);have hcb:c'<=281474976710656:=by have h1:(info.bytes:Int)*(c':Int)=((info.bytes*c':Nat):Int):=(Int.natCast_mul _ _).symm;rw[h1]at g3;have h2:=arP c' q3;omega
  have hwl:IntKind.i64.wrap (l':Int)=l':=IntWalk.i64_in _ atO;have hwc:IntKind.i64.wrap (c':Int)=c':=IntWalk.i64_in _ atO;obtain⟨zero,hz1,hz2⟩:=Zy2 (k:=c'*τ.size) (X:=X) (w:=X.w) hz;have hck:c'*τ.size=0->c'=0:=fun h=>by rcases Nat.mul_eq_zero.1 h with r|r<;>omega
  obtain⟨Z,hZ0,RZ⟩:=rn hz X X.w;have hzc:(Array.range (c'*τ.size)).map (zero[· % zero.size]!)=(jC c' Z.cells.toList).toArray:=by
   by_cases hk:c'*τ.size=0
   .have:=hck hk;subst this;simp[jC]
   .obtain⟨Z',rfl,RZ'⟩:=hz2 hk;rw[BT hk]at hz1;simp only[Sem.run_bind,hZ0,Result.andThen_ok,Sem.run_pure,asR,asY]at hz1;rw[<-hz1];exact Zy9 c' _ _ (by rw[<-ass,(mR RZ).length,q2])
  have hzl:Z.cells.toList.length=τ.size:=by rw[(mR RZ).length,q2]
  refine⟨c',.cells (jC c' Z.cells.toList).toArray elem (0,0),.slice (some ⟨X.w.heap.size,0,none⟩) l' c',?_,fun X' M=>⟨?_,?_⟩⟩
  .unfold execOp;rw[ho];simp only[show a.eval l=_ from hl',show a.eval c=_ from hc'];have hnot:¬(((decide ((l':Int)<0\/False)||false)=true)):=atQ
   have h1:decide ((c':Int)<0)=false:=eY atO;have h2:decide ((info.bytes:Int)*(c':Int) > 2^48)=false:=eY (by show ¬((281474976710656:Int)<(info.bytes:Int)*(c':Int));omega);have h3:decide ((l':Int)<0)=false:=eY atO;have h4:decide ((l':Int) > (c':Int))=false:=eY atO;simp only[Instr.makeSlice,asInt,asIntOf,Sem.run_bind,run_underlying hu,Result.andThen_ok,Sem.run_pure,run_typeInfo hi,hwl,hwc];rw[BT (by rw[h1,h2,h3,h4];decide)];simp only[Ne,run_askRoom,Result.andThen_ok,run_sizeOf hs,Sem.run_bind,Sem.run_pure];by_cases hk:c'*τ.size=0
   .rw[IO hk]at hz1 |-;simp only[Sem.run_pure,asR,asY]at hz1;subst hz1;simp only[Sem.run_bind,Sem.run_pure,Result.andThen_ok,newRow,run_newObj,hzc]
   .rw[BT hk]at hz1 |-;simp only[Sem.run_bind,hZ0,Result.andThen_ok,Sem.run_pure,asR,asY]at hz1 |-;subst hz1;simp only[newRow,Sem.run_bind,run_newObj,Sem.run_pure,Result.andThen_ok,hzc]
  .obtain⟨zc,zr,e1,e2,e3⟩:=Tw (X:=X) (w:=X'.w) (A:=X'.out) q5 (mR RZ);have:zr=[]:=e3;subst this;rw[d6]at e1;refine⟨jC l' Z.cells.toList,jC (c'-l') Z.cells.toList,?_,?_,?_,by simp;omega⟩
   .rw[top M,<-ajc,show l'+(c'-l')=c' by omega]
   .rw[e1,Ne];exact bK.rep e2 l'
   .rw[Jo,Jo,hzl,<-asc];congr 1;omega
  .have:=y8 M.o M.s;simpa[Loc.slice]using this
 .rename_i t len parts ho;rw[ho]at hO;split at e<;>try cases e
  rename_i elem ps hu hps;split at e<;>try cases e
  rename_i sz z hs hz;split at e<;>try cases e
  rename_i r q2 q3 hr;have q2:=adc q2;have q3:=cB q3;have hmem:∀x∈parts.toList.map (·.2),x∈(Op.buildSlice t len parts).operands:=by intro x hx;simp only[Op.operands,atM];exact hx
  have hP:=Tp hps (fun x hx=>hO x (hmem x hx));obtain⟨zero,hz1,hz2⟩:=Zy2 (k:=len*sz) (X:=X) (w:=X.w) hz;obtain⟨Z,hZ0,RZ⟩:=rn hz X X.w;have hzl:Z.cells.toList.length=sz:=by rw[(mR RZ).length,q3]
  have hzc:(Array.range (len*sz)).map (zero[· % zero.size]!)=(jC len Z.cells.toList).toArray:=by
   by_cases hk:len*sz=0
   .have:jC len Z.cells.toList=[]:=ww (by rw[Jo,hzl];exact hk);rw[this,hk];simp
   .obtain⟨Z',rfl,RZ'⟩:=hz2 hk;rw[BT hk]at hz1;simp only[Sem.run_bind,hZ0,Result.andThen_ok,Sem.run_pure,asR,asY]at hz1;rw[<-hz1];exact Zy9 len _ _ (by rw[<-ass,hzl])
  obtain⟨rs,f1,f2⟩:=Jy _ _ _ _ _ _ hr hP (aaB (mR RZ) len);have hrun:(execOp a.eval o).run P X.w=.ok (.value (.slice (some ⟨X.w.heap.size,0,none⟩) len len)) { X.w with heap:=X.w.heap.push (.cells rs.toArray elem (0,0)) }:=by
   unfold execOp;rw[ho];have hp:((parts.map fun x=>(x.1,a.eval x.2)).toList)=parts.toList.map fun x=>(x.1,a.eval x.2):=atQ
   simp only[Instr.buildSlice,Sem.run_bind,run_underlying hu,Result.andThen_ok,run_sizeOf hs];rw[BT atO];simp only[Sem.run_pure,Result.andThen_ok,Sem.run_bind];rw[hp];by_cases hk:len*sz=0
   .rw[IO hk]at hz1 |-;simp only[Sem.run_pure,asR,asY]at hz1;subst hz1;simp only[Sem.run_bind,Sem.run_pure,Result.andThen_ok,hzc,f1,newRow,run_newObj]
   .rw[BT hk]at hz1 |-;simp only[Sem.run_bind,hZ0,Result.andThen_ok,Sem.run_pure,asR,asY]at hz1 |-;subst hz1;simp only[hzc,f1,newRow,Sem.run_bind,run_newObj,Sem.run_pure,Result.andThen_ok]
  have wr:∀(X':Cx) (τ:Sh),Made X X' n len (.cells r elem) (.cells rs.toArray elem (0,0))->jA X' (.at X.w.heap.size len) (.cells r elem)/\Rel X' (.vw n τ 0 len) (.slice (some ⟨X.w.heap.size,0,none⟩) len len):=by intro X' τ M;refine⟨⟨_,len,rs,rfl,by rw[top M],f2.ext M.E⟩,_,_,_,M.s,rfl,rt _,fun _=>⟨_,_,rfl,atQ⟩,fun _=>rfl,fun n' q=>?_⟩;rw[kP M.o]at q;cases q
  unfold xw at e;split at e
  .rename_i τ hsh;split at e<;>try cases e
   rename_i q1;have q1:=cB q1;subst q1;split at e
   .rename_i L hL;cases e;obtain⟨k1,k2⟩:=Z4 H hL f2;refine⟨len,.cells rs.toArray elem (0,0),_,hrun,fun X' M=>⟨?_,?_⟩⟩
    .refine⟨rs,[],?_,k2.mono (fun x c q=>q.bn M.E.K),?_,by rw[k1];exact rt _⟩
     .rw[top M];simp
     .rw[bK.length (fun x c=>Cs.length) k2,k1];simp
    .have:=y8 M.o M.s;rw[k1]at this;simpa[Loc.slice]using this
   .cases e;exact⟨len,.cells rs.toArray elem (0,0),_,hrun,fun X' M=>wr X' _ M⟩
  .cases e;exact⟨len,.cells rs.toArray elem (0,0),_,hrun,fun X' M=>wr X' _ M⟩
 .rename_i t r ho;split at e<;>try cases e
  rename_i kt et hu;split at e<;>cases e;rename_i κ σ hk hs;refine⟨0,.map #[] 0,.map (some X.w.heap.size),?_,fun X' M=>⟨⟨_,0,#[],0,rfl,top M,[],.nil,rfl,.nil,atQ,.nil⟩,_,_,M.s,rfl⟩⟩;unfold execOp;rw[ho];simp only[Option.map_none,Instr.makeMap,Sem.run_bind,run_newObj,Result.andThen_ok,Sem.run_pure]
 .cases e
open Go.Proofs.YtmkbdfidnfmgmaaGreat.Ev (Tr nth fc run_underlying)
def TZ(P:Program)(t:TypeId)(u v:AV):Option Bool:=match P.underlying t with
 |some d=>match d with
  |.int _=>match u,v with
   |.int k a,.int k' b=>match me k k' with|true=>some (decide (a=b))|false=>none
   |_,_=>none
  |.bool=>match u,v with|.bool a,.bool b=>some (a == b)|_,_=>none
  |.string=>match u,v with|.str a,.str b=>some (a == b)|_,_=>none
  |_=>none
 |none=>none
theorem ajV{P:Program}{t:TypeId}{u v:AV}{b:Bool}(e:TZ P t u v=some b){X:Cx}{U V:Value}(h1:Rel X u U)(h2:Rel X v V)(n:Nat)(w:World):(Op.equalIn (n+1) t U V).run P w=.ok b w:=by
 unfold TZ at e;split at e<;>try cases e
 rename_i d hd;have hr:=run_underlying hd w;split at e
 .split at e<;>try cases e
  rename_i k a k' b;split at e<;>cases e;rename_i hk;have:=oo hk;subst this;rw[show U=_ from h1,show V=_ from h2];simp only[Op.equalIn,Sem.run_bind,hr,Result.andThen_ok,if_true,Sem.run_pure];rfl
 .split at e<;>cases e;rw[show U=_ from h1,show V=_ from h2];simp only[Op.equalIn,Sem.run_bind,hr,Result.andThen_ok,if_true,Sem.run_pure]
 .split at e<;>cases e;rw[show U=_ from h1,show V=_ from h2];simp only[Op.equalIn,Sem.run_bind,hr,Result.andThen_ok,if_true,Sem.run_pure]
 .cases e
def zH(P:Program)(l m:List AV):List Field->Option Bool
 |[]=>some true|f::fs=>match f.name == "_" with
  |false=>match va P f.type l f.offset,va P f.type m f.offset with
   |some u,some v=>match TZ P f.type u v with
    |some b=>match zH P l m fs with|some c=>some (both b c)|none=>none
    |none=>none
   |_,_=>none
  |true=>none
theorem aaS{P:Program}{l m:List AV}{X:Cx}{xs ys:pi}(h1:bT X l xs)(h2:bT X m ys)(n:Nat)(w:World):∀{fs:List Field}{b:Bool},zH P l m fs=some b ->
  (forIn fs ((none:Option Bool),()) fun f s=>if f.name≠"_" then do
   let a <- part f.type xs.toArray f.offset
   let c <- part f.type ys.toArray f.offset
   let r <- Op.equalIn (n+1) f.type a c
   if(!r)=true then pure (ForInStep.done (some false,()))else pure (ForInStep.yield (none,()))
   else pure (ForInStep.yield (none,())):Sem (Option Bool×Unit)).run P w =
  .ok (if b then(none,())else(some false,())) w
 |[],b,e=>by simp only[zH,cM]at e;subst e;simp|f::fs,b,e=>by
  simp only[zH]at e;split at e<;>try cases e
  rename_i hn;split at e<;>try cases e
  rename_i u v hu hv;split at e<;>try cases e
  rename_i c hc;split at e<;>cases e;rename_i r hr;obtain⟨U,p1,p2⟩:=S5 hu h1 w;obtain⟨V,q1,q2⟩:=S5 hv h2 w;have e1:=ajV hc p2 q2 n w;have hn':f.name≠"_":=by grind
  have ih:=aaS h1 h2 n w hr;rw[List.forIn_cons];rw[IO hn'];simp only[Sem.run_bind,p1,Result.andThen_ok,q1,e1];cases c with|true=>exact ih|false=>simp[both]
def Ru(P:Program)(op:BinOp)(t:TypeId)(u v:AV):Option (Bool×AV):=match u,v with
 |.agg l,.agg m=>match P.underlying t with
  |some d=>match d with
   |.struct fs=>match P.stoodInHeld t,P.eqGuardType P.depth t,zH P l m fs.toList with
    |false,false,some b=>match op with|.eql=>some (true,.bool b)|.neq=>some (true,.bool (Bool.not b))|_=>none
    |_,_,_=>none
   |_=>none
  |none=>none
 |_,_=>none
theorem aiE{P:Program}{op:BinOp}{t:TypeId}{u v r:AV}{g:Bool}(e:Ru P op t u v=some (g,r)){X:Cx}{U V:Value}(h1:Rel X u U)(h2:Rel X v V)(x y:Operand)(w:World) :
  ∃R,(do eqGuard op t x y U V;binOp op t U V).run P w=.ok R w/\Rel X r R:=by
 unfold Ru at e;split at e<;>try cases e
 rename_i l m;split at e<;>try cases e
 rename_i d hd;split at e<;>try cases e
 rename_i fs;split at e<;>try cases e
 rename_i b hs hg hb;obtain⟨xs,rfl,R1⟩:=h1;obtain⟨ys,rfl,R2⟩:=h2;have hr:=run_underlying hd w;have main:(Op.equal t (.agg xs.toArray) (.agg ys.toArray)).run P w=.ok b w:=by
  have gen:∀n,(Op.equalIn (n+1+1) t (.agg xs.toArray) (.agg ys.toArray)).run P w=.ok b w:=by
   intro n;have:=aaS R1 R2 n w hb;have hp:(program:Sem Program).run P w=.ok P w:=atQ
   rw[Op.equalIn];simp only[Sem.run_bind,hr,Result.andThen_ok,hp,hs,asz,if_false,<-Array.forIn_toList,this];cases b<;>simp
  exact gen 9998
 split at e<;>cases e
 .exact⟨.bool b,by simp[eqGuard,binOp,hg,main],rfl⟩
 .exact⟨.bool (!b),by simp[eqGuard,binOp,hg,main],rfl⟩
open Go.Proofs.YtmkbdfidnfmgmaaGreat.Ev (Tr Tr.dp nth fc cS iU lY gD lJ nD)
theorem iA.snoc{w:World}{A:Nat->Prop}{ty:TypeId}{p:Nat×Nat}{d:fD}(hp:ui w A p d ty):∀{m:List (Nat×Nat)}{L:List fD},iA w A ty m L->iA w A ty (m++[p]) (L++[d])
 |[],L,h=>by rw[h];exact⟨hp,rfl⟩|x::m,L,h=>by cases L with|nil=>exact h.elim|cons d L=>exact⟨h.1,iA.snoc hp h.2⟩
theorem amy(m:List (Nat×Nat))(p:Nat×Nat):iI (m++[p])=iI m++[p.1,p.2]:=by unfold iI;rw[OF];rfl
theorem Zv3{m:List (Nat×Nat)}{p:Nat×Nat}(h:p∈m):p.1∈iI m/\p.2∈iI m:=⟨rg.2 ⟨p,h,atQ⟩,rg.2 ⟨p,h,atQ⟩⟩
theorem Zv4{m:List (Nat×Nat)}{q:Nat}(h:q∈iI m):∃p∈m,q=p.1\/q=p.2:=by
 obtain⟨p,hp,hq⟩:=rg.1 h
 grind
theorem YU{X:Cx}(H:aV X){ob:Option Nat}{j0 j1 c0 c1 x' c:Nat}{p:Nat×Nat}{d:fD}{ty ty':TypeId}{m:List (Nat×Nat)}{L:List fD}{w':World}{t':Tr bC}{tail:pi}
  (hj0:X.h.tr.get j0=some (.cells [.int .i64 d.1,.int .i64 d.2.1,.mp j1] ty)) (hj1:X.h.tr.get j1=some (.map .u64 (.int .u64) d.2.2.1)) (hs0:X.s j0=some (.at p.1 c0)) (hs1:X.s j1=some (.at p.2 c1))
  (hm:iA X.w X.out ty m L) (hmo:∀q∈iI m,∃k o l,ob=some k/\X.h.tr.get k=some o/\X.s k=some l/\l.own q) (hnd:(iI m).Nodup)
  (hx:x'=X.w.heap.size\/∃k o l,ob=some k/\X.h.tr.get k=some o/\X.s k=some l/\l.own x') (hxm:x'∉iI m)
  (hob:∀k,ob=some k->∃o l,X.h.tr.get k=some o/\X.s k=some l/\k≠j0/\k≠j1)
  (ht:∀i,t'.get i=if i=X.h.next then some (.fu (L++[d]) ty)else if i=j0\/i=j1\/ob=some i then none else X.h.tr.get i)
  (ho:w'.os=X.w.os) (htp:w'.tape=X.w.tape) (hou:w'.output=X.w.output) (hsz:X.w.heap.size<=w'.heap.size) (hw:∀q,q<X.w.heap.size->q≠x'->w'.heap[q]?=X.w.heap[q]?)
  (hxc:w'.heap[x']?=some (.cells (kW (m++[p])++tail).toArray ty' (0,0))) (hlen:(m++[p]).length+tail.length=c) :
  aV ⟨cw X.s X.h.next (.dE x' c (m++[p])),⟨t',X.h.next+1⟩,w',X.A⟩/\bh X ⟨cw X.s X.h.next (.dE x' c (m++[p])),⟨t',X.h.next+1⟩,w',X.A⟩ /\
   Rel ⟨cw X.s X.h.next (.dE x' c (m++[p])),⟨t',X.h.next+1⟩,w',X.A⟩ (.fB X.h.next) (.slice (some ⟨x',0,none⟩) (m++[p]).length c):=by
 have hn0:=H.lt _ _ hj0;have hn1:=H.lt _ _ hj1;have h01:j0≠j1:=by rintro rfl;rw[hj0]at hj1;cases hj1
 obtain⟨y,c',cs,e1,e2,e3⟩:=H.obj _ _ _ hj0 hs0;cases e1;obtain⟨u1,t1,rfl,rfl,u2,t2,rfl,rfl,u3,t3,rfl,⟨y3,c3,z1,rfl⟩,t4⟩:=e3;have:t3=[]:=t4;subst this;rw[hs1]at z1;cases z1;obtain⟨y',c'',es,clk,e4,e5,e6⟩:=H.obj _ _ _ hj1 hs1;cases e4;have hp0:=H.ju hj0 hs0 rfl;have hp1:=H.ju hj1 hs1 rfl;have hpp:p.1≠p.2:=fun e=>h01 (H.inj j0 j1 _ _ _ _ p.1 hj0 hj1 hs0 hs1 rfl e);have own:∀q,(Loc.dE x' c (m++[p])).own q↔q=x'\/q∈iI m\/q=p.1\/q=p.2:=by
  intro q;constructor
  .rintro(rfl|⟨r,hr,h⟩)
   .exact .inl rfl
   .rcases rc.1 hr with hr|hr
    .obtain⟨b1,b2⟩:=Zv3 hr;rcases h with rfl|rfl
     .exact .inr (.inl b1)
     .exact .inr (.inl b2)
    .simp only[NE]at hr;subst hr;exact .inr (.inr h)
  .rintro(rfl|h|h)
   .exact .inl rfl
   .obtain⟨r,hr,h⟩:=Zv4 h;exact .inr ⟨r,by simp[hr],h⟩
   .exact .inr ⟨p,atQ,h⟩
 have was:∀q,(Loc.dE x' c (m++[p])).own q->q=X.w.heap.size\/∃k o l,(k=j0\/k=j1\/ob=some k)/\X.h.tr.get k=some o/\X.s k=some l/\l.own q:=by
  intro q hq;rcases(own q).1 hq with rfl|h|rfl|rfl
  .rcases hx with h|⟨k,o,l,h1,h2,h3,h4⟩
   .exact .inl h
   .exact .inr ⟨k,o,l,.inr (.inr h1),h2,h3,h4⟩
  .obtain⟨k,o,l,h1,h2,h3,h4⟩:=hmo q h;exact .inr ⟨k,o,l,.inr (.inr h1),h2,h3,h4⟩
  .exact .inr ⟨j0,_,_,.inl rfl,hj0,hs0,rfl⟩
  .exact .inr ⟨j1,_,_,.inr (.inl rfl),hj1,hs1,rfl⟩
 have sn:X.s X.h.next=none:=by cases q:X.s X.h.next with|none=>rfl|some l=>have:=H.dM _ _ q;omega
 have old:∀j l,X.s j=some l->cw X.s X.h.next (.dE x' c (m++[p])) j=some l:=by intro j l h;rw[eJ _ _ _ (by rintro rfl;rw[sn]at h;cases h)];exact h
 have alt:∀j o,t'.get j=some o->(j=X.h.next/\o=.fu (L++[d]) ty)\/(X.h.tr.get j=some o/\j≠X.h.next/\¬(j=j0\/j=j1\/ob=some j)):=by
  intro j o hj;rw[ht j]at hj;by_cases q:j=X.h.next
  .rw[IO q]at hj;exact .inl ⟨q,by simpa using hj.symm⟩
  .rw[BT q]at hj;by_cases r:j=j0\/j=j1\/ob=some j
   .rw[IO r]at hj;cases hj
   .rw[BT r]at hj;exact .inr ⟨hj,q,r⟩
 have apart:∀j o l q,X.h.tr.get j=some o->¬(j=j0\/j=j1\/ob=some j)->X.s j=some l->l.own q->¬(Loc.dE x' c (m++[p])).own q:=by
  intro j o l q f1 f2 f3 f4 hq;rcases was q hq with rfl|⟨k,o',l',h1,h2,h3,h4⟩
  .exact absurd (H.ju f1 f3 f4) atO
  .have:=H.inj j k o o' l l' q f1 h2 f3 h3 f4 h4;subst this;exact f2 h1
 have hxo:∀q,q<X.w.heap.size->¬X.da q->q≠x':=by
  rintro q hq hn rfl;rcases hx with h|⟨k,o,l,h1,h2,h3,h4⟩
  .omega
  .exact hn ⟨k,o,l,h2,h3,h4⟩
 have E:bh X ⟨cw X.s X.h.next (.dE x' c (m++[p])),⟨t',X.h.next+1⟩,w',X.A⟩:=by
  refine⟨ho,htp,hou,hsz,old,?_,atQ,fun q hq hn=>hw q hq (hxo q hq hn),?_,?_,?_,rfl⟩
  .intro i l hi h
   replace h:cw X.s X.h.next (.dE x' c (m++[p])) i=some l:=h
   rw[eJ _ _ _ atO]at h;exact h
  .rintro q ⟨j,o,l,h1,h2,h3⟩
   replace h1:t'.get j=some o:=h1
   replace h2:cw X.s X.h.next (.dE x' c (m++[p])) j=some l:=h2
   rcases alt j o h1 with⟨rfl,rfl⟩|⟨f1,f2,f3⟩
   .rw[fU]at h2;cases h2;rcases was q h3 with rfl|⟨k,o',l',_,g2,g3,g4⟩
    .exact .inr (rt _)
    .exact .inl ⟨k,o',l',g2,g3,g4⟩
   .rw[eJ _ _ _ f2]at h2;exact .inl ⟨j,o,l,f1,h2,h3⟩
  .intro j n' hj h;obtain⟨o,h,hr⟩:=mh h;rcases alt j _ h with⟨_,h⟩|⟨f1,_⟩
   .subst h;cases hr
   .show rowOf X.h.tr j=some n';rw[kP f1];exact hr
  .intro j hj hn;show t'.get j=_;rw[ht j,BT atO,BT];rintro(rfl|rfl|h)
   .rw[hs0]at hn;cases hn
   .rw[hs1]at hn;cases hn
   .obtain⟨o,l,g1,g2,_⟩:=hob j h;rw[g2]at hn;cases hn
 have K:=E.keeps;have stay:∀q,q<X.w.heap.size->q≠x'->w'.heap[q]?=X.w.heap[q]?:=hw;have hp0x:p.1≠x':=by
  rintro e;rcases hx with h|⟨k,o,l,h1,h2,h3,h4⟩
  .omega
  .obtain⟨_,_,g1,g2,g3,g4⟩:=hob k h1;exact g3 (H.inj k j0 o _ l _ x' h2 hj0 h3 hs0 h4 e.symm)
 have hp1x:p.2≠x':=by
  rintro e;rcases hx with h|⟨k,o,l,h1,h2,h3,h4⟩
  .omega
  .obtain⟨_,_,g1,g2,g3,g4⟩:=hob k h1;exact g4 (H.inj k j1 o _ l _ x' h2 hj1 h3 hs1 h4 e.symm)
 have hpm:∀q,q=p.1\/q=p.2->q∉iI m:=by
  intro q hq hqm;obtain⟨k,o,l,h1,h2,h3,h4⟩:=hmo q hqm;obtain⟨_,_,g1,g2,g3,g4⟩:=hob k h1;rcases hq with rfl|rfl
  .exact g3 (H.inj k j0 o _ l _ _ h2 hj0 h3 hs0 h4 rfl)
  .exact g4 (H.inj k j1 o _ l _ _ h2 hj1 h3 hs1 h4 rfl)
 have hmb:∀q∈iI m,q<X.w.heap.size:=by intro q hq;obtain⟨k,o,l,h1,h2,h3,h4⟩:=hmo q hq;exact H.ju h2 h3 h4
 refine⟨⟨?_,?_,?_,?_,fun q hq=>WP (H.alt q hq) hsz,?_⟩,E,_,fU _ _ _,rfl⟩
 .intro j o l hj hl
  replace hj:t'.get j=some o:=hj
  replace hl:cw X.s X.h.next (.dE x' c (m++[p])) j=some l:=hl
  rcases alt j o hj with⟨rfl,rfl⟩|⟨f1,f2,f3⟩
  .rw[fU]at hl;cases hl;refine⟨tail,ty',hxc,hlen,iA.snoc ⟨?_,es,clk,?_,e6.bn K⟩ (hm.ext K ?_),?_⟩
   .show w'.heap[p.1]?=_;rw[stay _ hp0 hp0x];exact e2
   .show w'.heap[p.2]?=_;rw[stay _ hp1 hp1x];exact e5
   .intro q hq;obtain⟨b1,b2⟩:=Zv3 hq;exact⟨stay _ (hmb _ b1) (fun e=>hxm (e▸b1)),stay _ (hmb _ b2) (fun e=>hxm (e▸b2))⟩
   .rw[amy]
    grind
  .rw[eJ _ _ _ f2]at hl;refine(H.obj j o l f1 hl).ext (E.fG H) ?_;intro b' hb';refine stay b' (H.ju f1 hl hb') ?_;rintro rfl;exact apart j o l _ f1 f3 hl hb' (.inl rfl)
 .intro j k o o' l l' q hj hk e1' e2' f1 f2
  replace hj:t'.get j=some o:=hj
  replace hk:t'.get k=some o':=hk
  replace e1':cw X.s X.h.next (.dE x' c (m++[p])) j=some l:=e1'
  replace e2':cw X.s X.h.next (.dE x' c (m++[p])) k=some l':=e2'
  rcases alt j o hj with⟨rfl,rfl⟩|⟨g1,g2,g3⟩<;>rcases alt k o' hk with⟨rfl,rfl⟩|⟨k1,k2,k3⟩
  .rfl
  .rw[fU]at e1';cases e1';rw[eJ _ _ _ k2]at e2';exact absurd f1 (apart k o' l' q k1 k3 e2' f2)
  .rw[fU]at e2';cases e2';rw[eJ _ _ _ g2]at e1';exact absurd f2 (apart j o l q g1 g3 e1' f1)
  .rw[eJ _ _ _ g2]at e1';rw[eJ _ _ _ k2]at e2';exact H.inj j k o o' l l' q g1 k1 e1' e2' f1 f2
 .intro j o hj;rcases alt j o hj with⟨rfl,rfl⟩|⟨f1,_⟩
  .simp
  .have:=H.lt j o f1;simp only;omega
 .intro j l hl
  replace hl:cw X.s X.h.next (.dE x' c (m++[p])) j=some l:=hl
  by_cases q:j=X.h.next
  .simp[q]
  .rw[eJ _ _ _ q]at hl;have:=H.dM j l hl;simp only;omega
 .intro j o l q hj hl hq
  replace hj:t'.get j=some o:=hj
  replace hl:cw X.s X.h.next (.dE x' c (m++[p])) j=some l:=hl
  rcases alt j o hj with⟨rfl,rfl⟩|⟨f1,f2,f3⟩
  .rw[fU]at hl;cases hl;rcases was q hq with rfl|⟨k,o',l',_,g2,g3,g4⟩
   .intro ha;have:=H.alt _ ha;omega
   .exact H.loc k o' l' q g2 g3 g4
  .rw[eJ _ _ _ f2]at hl;exact H.loc j o l q f1 hl hq
def pS(a w:Int)(M:fl (.int .u64)):fD:=(a,w,M,())
def Zo(h:Hp)(ty:TypeId):AV->Option (List fD×Option Nat)
 |.bt=>some ([],none)|.fB b=>match h.tr.get b with
  |some (.fu L ty')=>match Nat.beq ty' ty with|true=>some (L,some b)|false=>none
  |_=>none
 |_=>none
def Ou(P:Program)(h:Hp)(ts:Array TypeId)(su x:AV):Option (Bool×AV×Hp):=match nth ts.toList 0,nth ts.toList 1 with
 |some t0,some t1=>match P.underlying t0,P.underlying t1 with
  |some (.slice elem),some d1=>match Hz d1,gD P elem,nE P elem,lJ P elem with
   |true,some 1,some z,some by_=>match Nat.beq (jt z).length 1,x with
    |true,.vw kk _ 0 1=>match h.tr.get kk with
     |some (.cells [.ptr j0 0] _)=>match h.tr.get j0 with
      |some (.cells [.int .i64 a,.int .i64 w,.mp j1] ty)=>match h.tr.get j1,Zo h ty su with
       |some (.map .u64 (.int .u64) M),some (L,ob)=>match v9 h.tr ob with
        |some avT=>match Tr.set FT avT j0 none with
         |some avU=>match Tr.set FT avU j1 none with
          |some avV=>match Tr.set FT avV h.next (some (.fu (L++[pS a w M]) ty))with|some avW=>some (room by_ (L++[pS a w M]).length,.fB h.next,⟨avW,h.next+1⟩)|none=>none
          |none=>none
         |none=>none
        |none=>none
       |_,_=>none
      |_=>none
     |_=>none
    |_,_=>none
   |_,_,_,_=>none
  |_,_=>none
 |_,_=>none
theorem ant{P:Program}{X:Cx}(H:aV X){ts:Array TypeId}{avP:TypeId}{su x v:AV}{g:Bool}{h':Hp}(e:Ou P X.h ts su x=some (g,v,h'))(hgd:g=true){U Y:Value}(R:Rel X su U)(RY:Rel X x Y) :
  ∃X' V,(Builtin.append_ ts avP #[U,Y]).run P X.w=.ok V X'.w/\X'.h=h'/\X'.A=X.A/\aV X'/\bh X X'/\Rel X' v V:=by
 subst hgd;unfold Ou at e;split at e<;>try cases e
 rename_i t0 t1 ht0 ht1;have ht0:ts[0]?=some t0:=by rw[fc]at ht0;simpa using ht0
 have ht1:ts[1]?=some t1:=by rw[fc]at ht1;simpa using ht1
 split at e<;>try cases e
 rename_i elem d1 hu0 hu1;split at e<;>try cases e
 rename_i z by_ hd1 hs hz hby;split at e<;>try cases e
 rename_i kk awo hzl;split at e<;>try cases e
 rename_i j0 tyk hkk;split at e<;>try cases e
 rename_i a w j1 ty hj0;split at e<;>try cases e
 rename_i M L ob hj1 hbase;split at e<;>try cases e
 rename_i avT k1;split at e<;>try cases e
 rename_i avU k2;split at e<;>try cases e
 rename_i avV k3;split at e<;>try cases e
 rename_i avW k4;simp only[cM,arJ]at e;obtain⟨hroom,rfl,rfl⟩:=e;have hzl:=cB hzl;have hd:∀k,d1≠.int k:=by intro k q;subst q;simp[Hz]at hd1
 obtain⟨info,hi,rfl⟩:∃info,P.info? elem=some info/\info.bytes=by_:=by unfold lJ at hby;cases hi:P.info? elem<;>simp[hi]at hby;exact⟨_,rfl,hby⟩
 obtain⟨r1,r2⟩:=pk hroom;simp only[IR,bU,di,IT]at r1 r2;obtain⟨ly,ay,cy,q1,rfl,q3,q4,q5,q6⟩:=RY;obtain⟨y,ck,rfl,rfl⟩:=q4 atO;obtain⟨y',c',cs,e1,e2,pv,r,rfl,⟨b0,c0,hs0,rfl⟩,e3⟩:=H.obj _ _ _ hkk q1;cases e1;have:r=[]:=e3;subst this;have hn0:=H.lt _ _ hj0;have hn1:=H.lt _ _ hj1;obtain⟨b0',c0',gV,f1,f2,f3⟩:=H.obj _ _ _ hj0 hs0;cases f1;obtain⟨u1,w1,rfl,rfl,u2,w2,rfl,rfl,u3,w3,rfl,⟨b1,c1,hs1,rfl⟩,f4⟩:=f3;have hlen:∀w:World,(Builtin.lenOf (.slice (some ⟨y,0*awo.size,none⟩) 1 cy)).run P w=.ok 1 w:=fun w=>by simp[Builtin.lenOf]
 have hnew:∀w:World,w.heap=X.w.heap->(Builtin.firstCells 1 1 (.slice (some ⟨y,0*awo.size,none⟩) 1 cy)).run P w=.ok [Value.pointer (some ⟨b0,0,none⟩)].toArray w:=by intro w hw;simp only[Builtin.firstCells,loadCells];rw[Ev.run_loadCells (P:=P) (w:=w) (by rw[hw];exact e2) _ 0 #[] atQ];simp
 have g1:∀j,avT.get j=if ob=some j then none else X.h.tr.get j:=by
  intro j;cases ob with
  |none=>simp only[v9,cM]at k1;subst k1;simp|some b=>
   have:=Tr.dp _ _ _ _ _ (show Tr.set FT X.h.tr b none=some avT from k1) j;rw[this];by_cases q:j=b
   .subst q;simp
   .rw[BT q,BT (by simpa using fun h=>q h.symm)]
 have ht:∀i,avW.get i=if i=X.h.next then some (.fu (L++[pS a w M]) ty)else if i=j0\/i=j1\/ob=some i then none else X.h.tr.get i:=by
  intro i;rw[Tr.dp _ _ _ _ _ k4 i];by_cases q:i=X.h.next
  .rw[IO q,IO q]
  .rw[BT q,BT q,Tr.dp _ _ _ _ _ k3 i];by_cases q1:i=j1
   .rw[IO q1,IO (.inr (.inl q1))]
   .rw[BT q1,Tr.dp _ _ _ _ _ k2 i];by_cases q2:i=j0
    .rw[IO q2,IO (.inl q2)]
    .rw[BT q2,g1 i];by_cases q3:ob=some i
     .rw[IO q3,IO (.inr (.inr q3))]
     .rw[BT q3,BT (by rintro(h|h|h);exact q2 h;exact q1 h;exact q3 h)]
 have hj0':X.h.tr.get j0=some (.cells [.int .i64 (pS a w M).1,.int .i64 (pS a w M).2.1,.mp j1] ty):=hj0;have hj1':X.h.tr.get j1=some (.map .u64 (.int .u64) (pS a w M).2.2.1):=hj1;have fin:∀(X':Cx) (V:Value),aV X'->bh X X'->Rel X' (.fB X.h.next) V->X'.h=⟨avW,X.h.next+1⟩->X'.A=X.A->(Builtin.append_ ts avP #[U,.slice (some ⟨y,0*awo.size,none⟩) 1 cy]).run P X.w=.ok V X'.w ->
   ∃X' V,(Builtin.append_ ts avP #[U,.slice (some ⟨y,0*awo.size,none⟩) 1 cy]).run P X.w=.ok V X'.w/\X'.h=⟨avW,X.h.next+1⟩/\X'.A=X.A/\aV X'/\bh X X'/\Rel X' (.fB X.h.next) V:=
  fun X' V a b c d e f=>⟨X',V,f,d,e,a,b,c⟩
 have grow:∀(m:List (Nat×Nat)) (base:pm) (c:Nat),iA X.w X.out ty m L->(∀q∈iI m,∃k o l,ob=some k/\X.h.tr.get k=some o/\X.s k=some l/\l.own q)->(iI m).Nodup ->
   (∀k,ob=some k->∃o l,X.h.tr.get k=some o/\X.s k=some l/\k≠j0/\k≠j1)->U=.slice base m.length c->c<m.length+1 ->
   (∀d,(Builtin.firstCells 1 m.length (.slice base m.length c)).run P { X.w with drawn:=d }=.ok (kW m).toArray { X.w with drawn:=d }) ->
   ∃X' V,(Builtin.append_ ts avP #[U,.slice (some ⟨y,0*awo.size,none⟩) 1 cy]).run P X.w=.ok V X'.w/\X'.h=⟨avW,X.h.next+1⟩/\X'.A=X.A/\aV X'/\bh X X'/\Rel X' (.fB X.h.next) V:=by
  intro m base c hm hmo hnd hob hU hc hold;subst hU;have hml:=hm.len;obtain⟨c',hc',d,rest,hr,hrun⟩:=Tu (ty:=avP) (X:=X) (base:=base) (sLen:=m.length) (sCap:=c) ht0 ht1 hu0 hu1 hd hs hz hi hzl (hlen X.w) atO (by rw[hml];exact r1) (by rw[hml];exact r2) hold (fun d=>hnew _ rfl);have hpt:kW (m++[(b0,b1)])=kW m++[Value.pointer (some ⟨b0,0,none⟩)]:=by unfold kW;rw[d7];rfl
  obtain⟨G1,G2,G3⟩:=YU (ob:=ob) (x':=X.w.heap.size) (c:=c') (p:=(b0,b1)) (tail:=rest) (ty':=elem) (w':={ X.w with drawn:=d,heap:=X.w.heap.push (.cells (kW m++[Value.pointer (some ⟨b0,0,none⟩)]++rest).toArray elem (0,0)) })
   H hj0' hj1' hs0 hs1 hm hmo hnd (.inl rfl) (fun q=>by obtain⟨k,o,l,h1,h2,h3,h4⟩:=hmo _ q;have:=H.ju h2 h3 h4;omega) hob ht rfl rfl rfl atQ (fun q hq hne=>by show(X.w.heap.push _)[q]?=_;rw[Array.getElem?_push,BT atO]) (by rw[hpt];simp) (by simp at hr |-;omega)
  refine fin _ _ G1 G2 G3 rfl rfl ?_;rw[hrun];simp
 unfold Zo at hbase;split at hbase<;>try cases hbase
 .exact grow [] none 0 rfl (fun q hq=>by cases hq) (by simp[iI]) (fun k hk=>by cases hk) R atQ (fun d=>by simp[Builtin.firstCells,kW])
 .rename_i b;split at hbase<;>try cases hbase
  rename_i aur ty' hb;split at hbase<;>try cases hbase
  rename_i hty;have hty:=cB hty;subst hty;obtain⟨l,hsb,rfl⟩:=R;have hob:∀k,some b=some k->∃o l,X.h.tr.get k=some o/\X.s k=some l/\k≠j0/\k≠j1:=by intro k hk;cases hk;exact⟨_,_,hb,hsb,(by rintro rfl;rw[hb]at hj0;cases hj0),(by rintro rfl;rw[hb]at hj1;cases hj1)⟩
  cases l with
  |nil=>have hL:L=[]:=H.obj b _ _ hb hsb;subst hL;exact grow [] none 0 rfl (fun q hq=>by cases hq) (by simp[iI]) hob rfl atQ (fun d=>by simp[Builtin.firstCells,kW])
  |«at» x c=>exact(H.obj b _ _ hb hsb:False).elim|dE x c m=>
   obtain⟨tail,tyr,s1,s2,s3,s4⟩:=H.obj b _ _ hb hsb;obtain⟨n1,n2⟩:=arU.1 s4;have hpl:(kW m).length=m.length:=by unfold kW;simp
   have hml:=s3.len;have hmo:∀q∈iI m,∃k o l,some b=some k/\X.h.tr.get k=some o/\X.s k=some l/\l.own q:=by intro q hq;obtain⟨p,hp,h⟩:=Zv4 hq;exact⟨b,_,_,rfl,hb,hsb,.inr ⟨p,hp,h⟩⟩
   by_cases hfit:m.length+1<=c
   .obtain⟨ds,hds,hst⟩:=nD (P:=P) (off:=m.length*1) [Value.pointer (some ⟨b0,0,none⟩)] 0 X.w _ s1 (by simp;omega) (by intro v hv;simp at hv;subst hv;rfl);have hdsE:ds=(kW (m++[(b0,b1)])++tail.drop 1).toArray:=by
     apply asm.1;rw[hds];have hpt:kW (m++[(b0,b1)])=kW m++[Value.pointer (some ⟨b0,0,none⟩)]:=by unfold kW;rw[d7];rfl
     rw[hpt];simp only[asF,Nat.mul_one,di,IT];rw[<-hpl,List.take_left',List.drop_append]
     .simp
     .rfl
    subst hdsE;obtain⟨G1,G2,G3⟩:=YU (ob:=some b) (x':=x) (c:=c) (p:=(b0,b1)) (tail:=tail.drop 1) (ty':=tyr) (w':=cS X.w x (.cells (kW (m++[(b0,b1)])++tail.drop 1).toArray tyr (0,0)))
     H hj0' hj1' hs0 hs1 s3 hmo n2 (.inr ⟨b,_,_,rfl,hb,hsb,.inl rfl⟩) n1 hob ht rfl rfl rfl (by rw[lY];exact rt _) (fun q hq hne=>by rw[iU,BT];rintro⟨rfl,_⟩;exact hne rfl) (by rw[iU,IO ⟨rfl,ka s1⟩]) (by simp;omega)
    refine fin _ _ G1 G2 G3 rfl rfl ?_;have:=Zvh (ty:=avP) ht0 ht1 hu0 hu1 hd hs (hlen X.w) hfit (hnew X.w rfl) (b:=x) (off:=0) (by simpa using hst);show(Builtin.append_ ts avP #[.slice (some ⟨x,0,none⟩) m.length c,_]).run P X.w=_;rw[this];simp
   .refine grow m (some ⟨x,0,none⟩) c s3 hmo n2 hob rfl atO ?_;intro d;simp only[Builtin.firstCells,loadCells];rw[Ev.run_loadCells (P:=P) (w:={ X.w with drawn:=d }) s1 _ 0 #[] (by simp;omega)];simp[<-hpl]
open Go.Proofs.YtmkbdfidnfmgmaaGreat.Ev (Tr Tr.dp nth fc takeN jm lH lI cS iU lY run_underlying run_typeInfo run_sizeOf gD ji tc nD)
theorem aV.ame{X:Cx}(H:aV X){tr:Tr bC}(h:∀i,tr.get i=X.h.tr.get i):bh X ⟨X.s,⟨tr,X.h.next⟩,X.w,X.A⟩/\aV ⟨X.s,⟨tr,X.h.next⟩,X.w,X.A⟩:=by
 have E:bh X ⟨X.s,⟨tr,X.h.next⟩,X.w,X.A⟩:=by
  refine⟨rfl,rfl,rfl,rt _,fun _ _ h=>h,fun _ _ _ h=>h,rt _,fun _ _ _=>rfl,?_,?_,fun i _ _=>h i,rfl⟩
  .rintro b ⟨i,o,l,h1,h2⟩
   replace h1:tr.get i=some o:=h1
   rw[h i]at h1;exact .inl ⟨i,o,l,h1,h2⟩
  .intro j n _ q;rw[<-aen (h j)];exact q
 refine⟨E,⟨?_,?_,?_,H.dM,H.alt,?_⟩⟩
 .intro i o l h1 h2
  replace h1:tr.get i=some o:=h1
  rw[h i]at h1;exact(H.obj i o l h1 h2).ext (E.fG H) fun _ _=>rfl
 .intro i j o o' l l' b h1 h2
  replace h1:tr.get i=some o:=h1
  replace h2:tr.get j=some o':=h2
  rw[h i]at h1;rw[h j]at h2;exact H.inj i j o o' l l' b h1 h2
 .intro i o h1
  replace h1:tr.get i=some o:=h1
  rw[h i]at h1;exact H.lt i o h1
 .intro i o l b h1
  replace h1:tr.get i=some o:=h1
  rw[h i]at h1;exact H.loc i o l b h1
theorem rX.first{P:Program}{X:Cx}{τ:Sh}{L:List τ.T}{V:Value}(h:rX X τ L V)(n:Nat)(hn:n<=L.length):∃cs,bK (Cs X.w X.out τ) (L.take n) cs/\(Builtin.lenOf V).run P X.w=.ok L.length X.w /\
  (Builtin.firstCells τ.size n V).run P X.w=.ok cs.toArray X.w:=by
 obtain⟨a,cap,rfl,hc,cs,h1,h2⟩:=h;have T:rX X τ (L.take n) (.slice a n cap):=by
  refine⟨a,cap,by grind,by grind,cs.take (n*τ.size),bK.take (fun x c=>Cs.length) n h1,?_⟩;intro q;obtain⟨b,o,c,ty,fr,e,h3,h4⟩:=h2 (by rintro rfl;simp at q)
  grind
 obtain⟨ds,g1,_,g3⟩:=T.run (P:=P);have hl:(L.take n).length=n:=by grind
 refine⟨ds,g1,by simp[Builtin.lenOf],?_⟩;have:=g3 X.w rfl;rw[hl]at this;cases a<;>exact this
def lz{α:Type}(L:List α)(off:Nat)(M:List α):List α:=L.take off++(M++L.drop (off+M.length))
theorem aev{α:Type}{L M:List α}{off:Nat}(h:off+M.length<=L.length):(lz L off M).length=L.length:=by
 unfold lz
 grind
theorem aeU{α:Type}(L:List α)(off:Nat):lz L off []=L:=by unfold lz;simp
def Nt(h:Hp):AV->Option (Nat×Nat×Nat)
 |.hd b _=>match h.tr.get b with|some (.arr _ L _)=>some (b,0,L.length)|_=>none
 |.vw b τ off len=>match h.tr.get b with
  |some (.arr τ' _ _)=>match τ.eqv τ' with|true=>some (b,off,len)|false=>none
  |_=>none
 |_=>none
def Oq(P:Program)(h:Hp)(ts:Array TypeId)(u x:AV):Option (AV×Hp):=match nth ts.toList 0 with
 |some t=>match P.underlying t with
  |some (.slice elem)=>match gD P elem,Nt h u with
   |some sz,some (b,off,len)=>match h.tr.get b with
    |some (.arr τ L ty)=>match Nat.beq sz τ.size,Ic h τ x with
     |true,some M=>match Tr.set FT h.tr b (some (.arr τ (lz L off (M.take len)) ty))with|some tr=>some (.int .i64 (Int.ofNat (M.take len).length),⟨tr,h.next⟩)|none=>none
     |_,_=>none
    |_=>none
   |_,_=>none
  |_=>none
 |none=>none
theorem arp{X:Cx}(H:aV X){u:AV}{b off len:Nat}{U:Value}{τ:Sh}{L:List τ.T}{ty:TypeId}(e:Nt X.h u=some (b,off,len))(hb:X.h.tr.get b=some (.arr τ L ty))(R:Rel X u U) :
  ∃l a c,X.s b=some l/\U=.slice a len c/\off+len<=L.length/\(0<len->∃x k,l=.at x k/\a=some ⟨x,off*τ.size,none⟩):=by
 unfold Nt at e;split at e<;>try cases e
 .rename_i b' awo;split at e<;>cases e;rename_i awp aus avQ auX;rw[hb]at auX;cases auX;obtain⟨l,h1,_,h2⟩:=R;have h2:=h2 _ (je hb);cases l with|nil=>exact⟨_,none,0,h1,h2,atQ,fun q=>by have hL:L=[]:=H.obj b _ _ hb h1;rw[hL]at q;simp at q⟩|«at» x c=>exact⟨_,some ⟨x,0,none⟩,c,h1,h2,atQ,fun _=>⟨x,c,rfl,atQ⟩⟩|dE _ _ _=>exact(H.obj b _ _ hb h1:False).elim
 .rename_i b' awo off' len';split at e<;>try cases e
  rename_i awp aus avQ auX;split at e<;>cases e;rename_i he;rw[hb]at auX;cases auX;have:=Sh.ic he;subst this;obtain⟨l,a,c,h1,h2,h3,h4,h5,h6⟩:=R;exact⟨l,a,c,h1,h2,h6 _ (je hb),h4⟩
theorem anr{P:Program}{X:Cx}(H:aV X){ts:Array TypeId}{ty:TypeId}{u x v:AV}{h':Hp}(e:Oq P X.h ts u x=some (v,h')){U Y:Value}(R:Rel X u U)(RY:Rel X x Y) :
  ∃w' V,(Builtin.copy_ ts ty #[U,Y]).run P X.w=.ok V w'/\aV ⟨X.s,h',w',X.A⟩/\bh X ⟨X.s,h',w',X.A⟩/\Rel ⟨X.s,h',w',X.A⟩ v V:=by
 unfold Oq at e;split at e<;>try cases e
 rename_i t htt;split at e<;>try cases e
 rename_i elem hu;split at e<;>try cases e
 rename_i sz b off len hsz hd;split at e<;>try cases e
 rename_i τ L avQ hb;split at e<;>try cases e
 rename_i M hz hM;split at e<;>cases e;rename_i tr ht;have hz:=cB hz;subst hz;rw[fc]at htt;have htt:ts[0]?=some t:=by simpa using htt
 have hg:=Tr.dp FT X.h.tr b _ tr ht;obtain⟨l,a,c,h1,rfl,h3,h4⟩:=arp H hd hb R;have S:=aeR H hM RY;obtain⟨cs,f1,f2,f3⟩:=S.first (P:=P) (Nat.min M.length len) (Nat.min_le_left _ _);have htake:M.take (Nat.min M.length len)=M.take len:=by rw[show Nat.min M.length len=min len M.length from Nat.min_comm _ _,<-List.take_eq_take_min]
 rw[htake]at f1;have hlen:(M.take len).length=Nat.min M.length len:=by rw[fx];exact Nat.min_comm _ _
 have hfl:=bK.length (fun x c=>Cs.length) f1;have hmn:Nat.min M.length len<=len:=Nat.min_le_right _ _;have head:∀(w':World) (q:(match a with|some a=>storeCells a cs|none=>pure ()).run P X.w=.ok () w'),(Builtin.copy_ ts ty #[.slice a len c,Y]).run P X.w=.ok (.int .i64 (Int.ofNat (M.take len).length)) w':=by intro w' q;have hr:=run_underlying hu X.w;simp only[Builtin.copy_,htt,Or,Fd,arV,Sem.run_bind,hr,Result.andThen_ok,f2,run_sizeOf hsz,f3];rw[hlen];cases a with|none=>simp only[Sem.run_pure,asR,true_and]at q;subst q;simp[goInt]|some a=>simp only[]at q;simp[q,goInt]
 by_cases hn:Nat.min M.length len=0
 .have hnil:M.take len=[]:=ww (by rw[hlen,hn]);have hcs:cs=[]:=by rw[hnil]at f1;exact f1
  subst hcs;rw[hnil]at hg;obtain⟨E,H'⟩:=H.ame (tr:=tr) (by
   intro i;rw[hg i];by_cases q:i=b
   .subst q;rw[IO rfl,aeU,hb]
   .rw[BT q])
  exact⟨X.w,_,head X.w (by cases a<;>simp[storeCells]),H',E,rfl⟩
 .obtain⟨awk,k,rfl,rfl⟩:=h4 atO;obtain⟨ds,tail,q1,q2,q3,q4⟩:=H.obj b _ _ hb h1;have hds:=bK.length (fun x c=>Cs.length) q2;have hfit:off*τ.size+cs.length<=ds.length:=by rw[hfl,hlen,hds,<-asc];exact arP _ atO
  obtain⟨e',he',hrun⟩:=nD (P:=P) (off:=off*τ.size) cs 0 X.w _ q1 (by simp;omega) (fun V hV=>bK.one f1 V hV);have hlist:e'=((ds.take (off*τ.size)++(cs++ds.drop (off*τ.size+cs.length)))++tail).toArray:=by grind
  subst hlist;have hrow:∀n,(bC.arr τ (lz L off (M.take len)) avQ).row=some n->(bC.arr τ L avQ).row=some n:=by intro n q;have hc:(lz L off (M.take len)).length=L.length:=aev (by rw[hlen];omega);simp only[bC.row,hc]at q |-;exact q
  have E:=bh.put (ob:=.cells ((ds.take (off*τ.size)++(cs++ds.drop (off*τ.size+cs.length)))++tail).toArray avQ (0,0)) H hb h1 hrow ht;refine⟨_,_,head _ hrun,aV.put H hb h1 hrow ht ?_,E,rfl⟩;refine⟨ds.take (off*τ.size)++(cs++ds.drop (off*τ.size+cs.length)),tail,?_,?_,?_,?_⟩
  .show(cS X.w awk _).heap[awk]?=_;rw[iU,IO ⟨rfl,ka q1⟩]
  .have s1:bK (Cs X.w X.out τ) (lz L off (M.take len)) (ds.take (off*τ.size)++(cs++ds.drop (off*τ.size+cs.length))):=by unfold lz;refine(bK.take (fun x c=>Cs.length) off q2).append (f1.append ?_);rw[hfl,<-asc];exact bK.drop (fun x c=>Cs.length) (off+(M.take len).length) q2
   exact s1.mono (fun x c q=>q.bn E.keeps)
  .simp only[bU,fx,asl];omega
  .rw[aev (by rw[hlen];omega)];exact q4
def Rw(op:UnOp)(u:AV):Option AV:=match op,u with|.neg,.int k n=>some (.int k (k.wrap (0-n)))|.not,.bool b=>some (.bool (!b))|_,_=>none
theorem aiG{P:Program}{op:UnOp}{u v:AV}(e:Rw op u=some v){X:Cx}{U:Value}(R:Rel X u U)(w:World):∃V,(Op.unary op U).run P w=.ok V w/\Rel X v V:=by
 unfold Rw at e;split at e<;>cases e
 .rw[show U=_ from R];exact⟨_,by simp[Op.unary,Op.intArith],rfl⟩
 .rw[show U=_ from R];exact⟨_,by simp[Op.unary],rfl⟩
def Ot(P:Program)(src dst:TypeId)(u:AV):Option AV:=match P.underlying src,P.underlying dst with
 |some _,some (.int k)=>match u with|.int _ n=>some (.int k (k.wrap n))|_=>none
 |some .string,some .string=>match u with|.str s=>some (.str s)|_=>none
 |_,_=>none
theorem ans{P:Program}{src dst:TypeId}{u v:AV}(e:Ot P src dst u=some v){X:Cx}{U:Value}(R:Rel X u U)(w:World):∃V,(convert src dst U).run P w=.ok V w/\Rel X v V:=by
 unfold Ot at e;split at e<;>try cases e
 .rename_i d k hs hd;split at e<;>cases e;rename_i k' n;rw[show U=_ from R];exact⟨_,by cases d<;>simp[convert,run_underlying hs,run_underlying hd,Conv.intToInt],rfl⟩
 .rename_i hs hd;split at e<;>cases e;rw[show U=_ from R];exact⟨_,by simp[convert,run_underlying hs,run_underlying hd],rfl⟩
def Oy(s:ByteArray)(n:Nat):Int:=match s[n]? with|some b=>(b.toNat:Int)|none=>0
def Oa(P:Program)(t:TypeId)(u i:AV):Option (Bool×AV):=match P.underlying t with
 |some .string=>match u,i with|.str s,.int _ n=>some (aw n s.size,.int .u8 (Oy s n.toNat))|_,_=>none
 |_=>none
theorem amZ{P:Program}{t:TypeId}{u i v:AV}{g:Bool}(e:Oa P t u i=some (g,v))(hg:g=true){X:Cx}{U I:Value}(R:Rel X u U)(RI:Rel X i I)(w:World) :
  ∃V,(Instr.index t U I).run P w=.ok V w/\Rel X v V:=by
 subst hg;unfold Oa at e;split at e<;>try cases e
 rename_i hu;split at e<;>try cases e
 rename_i s k n;simp only[cM,arJ]at e;obtain⟨bz,rfl⟩:=e;obtain⟨m,rfl,hm⟩:=wb bz;rw[show U=_ from R,show I=_ from RI];refine⟨.int .u8 (Oy s m),?_,rfl⟩;have hb:s[m]?=some s[m]:=by simp[hm]
 simp[Instr.index,asIntOf,run_underlying hu,Oy,hb,hm]
theorem abn{P:Program}{X:Cx}{k:IntKind}{w:World}:∀{l:List AV}{cs:pi}{a r:Int},zJ k a l=some r->bT X l cs->(cs.foldlM Builtin.max2 (.int k a)).run P w=.ok (.int k r) w
 |[],_,a,r,e,R=>by simp only[zJ,cM]at e;subst e;rw[show _=[]from R];simp|v::l,_,a,r,e,⟨u,t,rfl,h1,h2⟩=>by
  simp only[zJ]at e;split at e<;>try cases e
  rename_i k' b;rw[show u=_ from h1,List.foldlM_cons];have:=abn (P:=P) (w:=w) e h2;simp only[Builtin.max2,Sem.run_bind,Sem.run_pure,Result.andThen_ok];rw[<-this];congr 2;unfold ed
  grind
theorem abm{P:Program}{X:Cx}{k:IntKind}{w:World}:∀{l:List AV}{cs:pi}{a r:Int},zK k a l=some r->bT X l cs->(cs.foldlM Builtin.min2 (.int k a)).run P w=.ok (.int k r) w
 |[],_,a,r,e,R=>by simp only[zK,cM]at e;subst e;rw[show _=[]from R];simp|v::l,_,a,r,e,⟨u,t,rfl,h1,h2⟩=>by
  simp only[zK]at e;split at e<;>try cases e
  rename_i k' b;rw[show u=_ from h1,List.foldlM_cons];have:=abm (P:=P) (w:=w) e h2;simp only[Builtin.min2,Sem.run_bind,Sem.run_pure,Result.andThen_ok];rw[<-this];congr 2;unfold ed
  grind
def MV(P:Program)(ts:Array TypeId):Bool:=match nth ts.toList 0 with
 |some t=>match P.underlying t with|some (.map _ _)=>true|_=>false
 |none=>false
def DU(h:Hp)(u:AV):Option AV:=match u with
 |.mp b=>match h.tr.get b with|some (.map κ σ M)=>some (.int .i64 (Int.ofNat M.length))|_=>none
 |_=>none
theorem ahb{P:Program}{ts:Array TypeId}{u v:AV}{X:Cx}(H:aV X)(hm:MV P ts=true)(e:DU X.h u=some v){U:Value}(R:Rel X u U)(ty:TypeId) :
  ∃V,(Builtin.len_ ts ty #[U]).run P X.w=.ok V X.w/\Rel X v V:=by
 unfold MV at hm;split at hm<;>try cases hm
 rename_i t ht;have ht:ts[0]?=some t:=by rw[fc]at ht;simpa using ht
 split at hm<;>try cases hm
 rename_i hu;unfold DU at e;split at e<;>try cases e
 rename_i b;split at e<;>try cases e
 rename_i κ σ M hb;obtain⟨x,c,hs,rfl⟩:=R;obtain⟨x',c',es,clk,e1,e2,e3⟩:=H.obj b _ _ hb hs;cases e1;have h0:(getObj x).run P X.w=.ok (.map es clk) X.w:=Go.MapKept.run_getObj_map e2;obtain⟨N,n1,n2,_⟩:=e3;have hl:es.size=List.length M:=by rw[<-n1.length_eq,<-n2.len];simp
 refine⟨.int .i64 (Int.ofNat M.length),?_,rfl⟩;simp[Builtin.len_,ht,run_underlying hu,h0,goInt,hl]
def xh(P:Program)(h:Hp)(b:Builtin)(ts:Array TypeId)(vs:List AV):Option AV:=match b with
 |.len=>match vs with
  |[u]=>match MV P ts with|true=>DU h u|false=>v7 P h ts u
  |_=>none
 |.max=>match vs with
  |.int k a::l=>match zJ k a l with|some r=>some (.int k r)|none=>none
  |_=>none
 |.min=>match vs with
  |.int k a::l=>match zK k a l with|some r=>some (.int k r)|none=>none
  |_=>none
 |_=>none
theorem Zqw{P:Program}{X:Cx}(H:aV X){b:Builtin}{ts:Array TypeId}{ty:TypeId}{cs:Array Bool}{vs:List AV}{Vs:pi}{v:AV}(e:xh P X.h b ts vs=some v)(R:bT X vs Vs) :
  ∃V,(builtin b ts ty cs Vs.toArray).run P X.w=.ok (.value V) X.w/\Rel X v V:=by
 unfold xh at e;split at e<;>try cases e
 .split at e<;>try cases e
  obtain⟨U,t,rfl,h1,h2⟩:=R;have:t=[]:=h2;subst this;split at e
  .rename_i hm;obtain⟨V,q1,q2⟩:=ahb H hm e h1 ty;exact⟨V,by simp only[builtin,Sem.run_bind,q1,Result.andThen_ok,Sem.run_pure],q2⟩
  .obtain⟨V,q1,q2⟩:=an1 H e h1 ty X.w;exact⟨V,by simp only[builtin,Sem.run_bind,q1,Result.andThen_ok,Sem.run_pure],q2⟩
 .split at e<;>try cases e
  rename_i k a l;split at e<;>cases e;rename_i r hr;obtain⟨U,t,rfl,h1,h2⟩:=R;rw[show U=_ from h1];exact⟨_,by simp only[builtin,Builtin.max_,Sem.run_bind,abn hr h2,Result.andThen_ok,Sem.run_pure],rfl⟩
 .split at e<;>try cases e
  rename_i k a l;split at e<;>cases e;rename_i r hr;obtain⟨U,t,rfl,h1,h2⟩:=R;rw[show U=_ from h1];exact⟨_,by simp only[builtin,Builtin.min_,Sem.run_bind,abm hr h2,Result.andThen_ok,Sem.run_pure],rfl⟩
theorem vb{X:Cx}{T:Tr AV}{a:Act}{o:Op}{l:Array Operand}{vs:List AV}(h:kR T l.toList=some vs)(hO:qV X T a o)(hm:∀x∈l.toList,x∈o.operands):bT X vs (l.map a.eval).toList:=by have:=aaR h (fun x hx=>hO x (hm x hx));simpa using this
def Oo(c:Bool)(a b:Option AV):Option AV:=match a,b with
 |some (.bool x),some (.bool y)=>some (.bool (bP c x y))|some (.int k x),some (.int k' y)=>match me k k' with|true=>some (.int k (ed c x y))|false=>none
 |_,_=>match c with|true=>a|false=>b
theorem anp{X:Cx}{c:Bool}{a b:Option AV}{v:AV}(e:Oo c a b=some v){U V:Value}(h1:∀u,a=some u->Rel X u U)(h2:∀u,b=some u->Rel X u V):Rel X v (if c=true then U else V):=by
 unfold Oo at e;split at e
 .cases e;have q1:U=_:=h1 _ rfl;have q2:V=_:=h2 _ rfl;cases c<;>simp[q1,q2,bP,Rel]
 .split at e<;>cases e;rename_i k x k' y hk;have:=oo hk;subst this;have q1:U=_:=h1 _ rfl;have q2:V=_:=h2 _ rfl;cases c<;>simp[q1,q2,ed,Rel]
 grind
def ZC:AV->Bool
 |.ptr _ _|.fE _ _ _ _|.ie _ _ _|.func _ _ _|.rp _ _|.ra _ _=>true|_=>false
def ot(P:Program)(T:Tr AV)(h:Hp)(o:Oper):Option (Bool×AV):=match o.op with
 |.move x=>match dX T x with|some v=>some (true,v)|none=>none
 |.pick c a b=>match dX T c with
  |some (.bool c)=>match Oo c (dX T a) (dX T b)with|some v=>some (true,v)|none=>none
  |_=>none
 |.nilCheck x=>match dX T x with
  |some v=>match ZC v with|true=>some (true,v)|false=>none
  |none=>none
 |.binOp op t x y _=>match dX T x,dX T y with
  |some u,some v=>match Nu P op t u v with|some r=>some r|none=>Ru P op t u v
  |_,_=>none
 |.unOp op _ x=>match dX T x with
  |some u=>match Rw op u with|some v=>some (true,v)|none=>none
  |none=>none
 |.convert src dst x=>match dX T x with
  |some u=>match Ot P src dst u with|some v=>some (true,v)|none=>none
  |none=>none
 |.extract t i=>match dX T t with
  |some (.d5 l)=>match nth l i with|some v=>some (true,v)|none=>none
  |_=>none
 |.field t x f=>match dX T x with
  |some u=>match Tq P t u f with|some v=>some (true,v)|none=>none
  |none=>none
 |.fieldAddr t x f=>match dX T x with
  |some u=>match SZ P t u f with|some v=>some (true,v)|none=>none
  |none=>none
 |.indexAddr t x i=>match dX T x,dX T i with|some u,some i=>xg P h t u i|_,_=>none
 |.index t x i=>match dX T x,dX T i with|some u,some i=>Oa P t u i|_,_=>none
 |.makeFunc fn first cap=>match fn with
  |.func f=>match kR T first.toList,kR T cap.toList with|some x,some y=>some (true,.func f x y)|_,_=>none
  |_=>none
 |.build t parts=>match qm T parts.toList with
  |some ps=>match Te P t ps with|some v=>some (true,v)|none=>none
  |none=>none
 |.load t x=>match dX T x with|some u=>uY P h t u|none=>none
 |.slice t x lo hi mx=>match mx,dX T x with|none,some u=>xk P h T t u lo hi|_,_=>none
 |.lookup t x i ck=>match dX T x,dX T i with
  |some u,some i=>match xv P h t u i ck with|some v=>some (true,v)|none=>none
  |_,_=>none
 |.call c=>match c.callee with
  |.builtin b=>match kR T c.args.toList with
   |some vs=>match xh P h b c.argTypes vs with|some v=>some (true,v)|none=>none
   |none=>none
  |_=>none
 |_=>none
theorem Zlk{P:Program}{T:Tr AV}{o:Oper}{g:Bool}{v:AV}{X:Cx}(H:aV X)(e:ot P T X.h o=some (g,v))(hg:g=true){a:Act}(hO:qV X T a o.op) :
  ∃V,(execOp a.eval o).run P X.w=.ok (.value V) X.w/\Rel X v V:=by
 subst hg;unfold ot at e;split at e<;>rename_i ho<;>try (rw[ho]at hO)
 .rename_i x;split at e<;>cases e;rename_i hx;exact⟨a.eval x,by simp only[execOp,ho,Sem.run_pure],hO x (by simp[Op.operands]) _ hx⟩
 .rename_i c x y;split at e<;>try cases e
  rename_i cb hc;split at e<;>cases e;rename_i hp;have h1:a.eval c=.bool cb:=hO c (by simp[Op.operands]) _ hc;have:=anp hp (fun u hu=>hO x (by simp[Op.operands]) u hu) (fun u hu=>hO y (by simp[Op.operands]) u hu);exact⟨_,by simp only[execOp,ho,h1,asBool,Sem.run_bind,Sem.run_pure,Result.andThen_ok],this⟩
 .rename_i x;split at e<;>try cases e
  rename_i v' hx;split at e<;>cases e;rename_i hok;have h1:=hO x (by simp[Op.operands]) _ hx;refine⟨a.eval x,?_,h1⟩;unfold ZC at hok;split at hok<;>try cases hok
  .obtain⟨awl,auL,_,q⟩:=h1;simp only[execOp,ho,q,Sem.run_pure]
  .obtain⟨awl,auL,_,q,_⟩:=h1;simp only[execOp,ho,q,Sem.run_pure]
  .obtain⟨awl,auL,auM,q,_⟩:=h1;simp only[execOp,ho,q,Sem.run_pure]
  .obtain⟨xs,cs,q,_⟩:=h1;simp only[execOp,ho,q,Sem.run_pure]
  .obtain⟨awl,auL,avz,avH,_,_,q⟩:=h1;simp only[execOp,ho,q,Sem.run_pure]
  .obtain⟨awl,auL,avz,_,_,q⟩:=h1;simp only[execOp,ho,q,Sem.run_pure]
 .rename_i op t x y yt;split at e<;>try cases e
  rename_i u u' hx hy;have main:∃V,(do eqGuard op t x y (a.eval x) (a.eval y);binOp op t (a.eval x) (a.eval y)).run P X.w=.ok V X.w/\Rel X v V:=by
   split at e
   .rename_i r hr;cases e;exact Zx5 hr rfl (hO x (by simp[Op.operands]) _ hx) (hO y (by simp[Op.operands]) _ hy) x y X.w
   .exact aiE e (hO x (by simp[Op.operands]) _ hx) (hO y (by simp[Op.operands]) _ hy) x y X.w
  obtain⟨V,q1,q2⟩:=main;refine⟨V,?_,q2⟩;simp only[execOp,ho];rw[Sem.run_bind,q1];rfl
 .rename_i op t x;split at e<;>try cases e
  rename_i u hx;split at e<;>cases e;rename_i hv;obtain⟨V,q1,q2⟩:=aiG (P:=P) hv (hO x (by simp[Op.operands]) _ hx) X.w;exact⟨V,by simp only[execOp,ho,Sem.run_bind,q1,Result.andThen_ok,Sem.run_pure],q2⟩
 .rename_i src dst x;split at e<;>try cases e
  rename_i u hx;split at e<;>cases e;rename_i hv;obtain⟨V,q1,q2⟩:=ans hv (hO x (by simp[Op.operands]) _ hx) X.w;exact⟨V,by simp only[execOp,ho,Sem.run_bind,q1,Result.andThen_ok,Sem.run_pure],q2⟩
 .rename_i t i;split at e<;>try cases e
  rename_i l hx;split at e<;>cases e;rename_i hv;rw[fc]at hv;obtain⟨cs,q,R⟩:=hO t (by simp[Op.operands]) _ hx;obtain⟨V,q1,q2⟩:=R.get hv;exact⟨V,by simp[execOp,ho,q,Instr.extract,q1],q2⟩
 .rename_i t x f;split at e<;>try cases e
  rename_i u hx;split at e<;>cases e;rename_i hv;obtain⟨V,q1,q2⟩:=Zsx hv (hO x (by simp[Op.operands]) _ hx) X.w;exact⟨V,by simp only[execOp,ho,Sem.run_bind,q1,Result.andThen_ok,Sem.run_pure],q2⟩
 .rename_i t x f;split at e<;>try cases e
  rename_i u hx;split at e<;>cases e;rename_i hv;obtain⟨V,q1,q2⟩:=Zqv hv (hO x (by simp[Op.operands]) _ hx) X.w;exact⟨V,by simp only[execOp,ho,Sem.run_bind,q1,Result.andThen_ok,Sem.run_pure],q2⟩
 .rename_i t x i;split at e<;>try cases e
  rename_i u i' hx hi;obtain⟨V,q1,q2⟩:=Zqu H e rfl (hO x (by simp[Op.operands]) _ hx) (hO i (by simp[Op.operands]) _ hi) X.w;exact⟨V,by simp only[execOp,ho,Sem.run_bind,q1,Result.andThen_ok,Sem.run_pure],q2⟩
 .rename_i t x i;split at e<;>try cases e
  rename_i u i' hx hi;obtain⟨V,q1,q2⟩:=amZ e rfl (hO x (by simp[Op.operands]) _ hx) (hO i (by simp[Op.operands]) _ hi) X.w;exact⟨V,by simp only[execOp,ho,Sem.run_bind,q1,Result.andThen_ok,Sem.run_pure],q2⟩
 .rename_i fn first cap
  split at e<;>try cases e
  rename_i f;split at e<;>cases e;rename_i x y hx hy;have h1:=vb hx hO (by intro z hz;simp only[Op.operands];exact atN.2 (.inl (asL.1 hz)));have h2:=vb hy hO (by intro z hz;simp only[Op.operands];exact atN.2 (.inr (asL.1 hz)));exact⟨.func (.func f) (first.map a.eval) (cap.map a.eval),by simp only[execOp,ho,Instr.makeFunc,Sem.run_bind,Sem.run_pure,Result.andThen_ok],_,_,by rw[asZ,asZ],h1,h2⟩
 .rename_i t parts;split at e<;>try cases e
  rename_i ps hps;split at e<;>cases e;rename_i hv;have hP:=Tp hps (fun x hx=>hO x (by simp only[Op.operands,atM];exact hx));obtain⟨V,q1,q2⟩:=Zsz hv X.w (parts.map fun x=>(x.1,a.eval x.2)) (by simpa using hP);exact⟨V,by simp only[execOp,ho,Sem.run_bind,q1,Result.andThen_ok,Sem.run_pure],q2⟩
 .rename_i t x;split at e<;>try cases e
  rename_i u hx;obtain⟨V,q1,q2⟩:=Zpo H e rfl (hO x (by simp[Op.operands]) _ hx);exact⟨V,by simp only[execOp,ho,Sem.run_bind,q1,Result.andThen_ok,Sem.run_pure],q2⟩
 .rename_i t x lo hi mx;split at e<;>try cases e
  rename_i u hx;obtain⟨V,q1,q2⟩:=Zsu H e rfl (hO x (by simp[Op.operands]) _ hx) (by intro y hy;apply hO y;simp only[Op.operands];rcases hy with rfl|rfl<;>simp) X.w (a:=a);exact⟨V,by simp only[execOp,ho,Option.map_none,Sem.run_bind,q1,Result.andThen_ok,Sem.run_pure],q2⟩
 .rename_i t x i ck;split at e<;>try cases e
  rename_i u i' hx hi;split at e<;>cases e;rename_i hv;obtain⟨V,q1,q2⟩:=anq H hv (hO x (by simp[Op.operands]) _ hx) (hO i (by simp[Op.operands]) _ hi);exact⟨V,by simp only[execOp,ho,Sem.run_bind,q1,Result.andThen_ok,Sem.run_pure],q2⟩
 .rename_i c;split at e<;>try cases e
  rename_i b hb;split at e<;>try cases e
  rename_i vs hvs;split at e<;>cases e;rename_i hv;have h1:=vb hvs hO (by intro z hz;simp only[Op.operands,Call.operands,hb];simpa using hz);obtain⟨V,q1,q2⟩:=Zqw H (ty:=o.type) (cs:=c.args.map fun|.const _=>true|_=>false) hv h1;exact⟨V,by rw[tc ho hb];rw[asZ]at q1;exact q1,q2⟩
 .cases e
def Ht(P:Program)(sh:TypeId->Option Sh)(T:Tr AV)(h:Hp)(o:Oper):Option (Bool×AV×Hp):=match o.op with
 |.assign x=>match dX T x with|some v=>some (true,v,h)|none=>none
 |.store t x y=>match dX T x,dX T y,gD P t with
  |some u,some v,some n=>match Nat.beq (jt v).length n with
   |true=>match u with
    |.ptr b off=>match Tc h b off (jt v)with|some h'=>some (true,.d5 [],h')|none=>none
    |.fE b i z o=>match Nv h b i z o (jt v)with|some x=>some (x.1,.d5 [],x.2)|none=>none
    |_=>none
   |false=>none
  |_,_,_=>none
 |.call c=>match c.callee with
  |.builtin b=>match b with
   |.append=>match kR T c.args.toList with
    |some [u,x]=>match TI P sh h c.argTypes u x with|some r=>some r|none=>Ou P h c.argTypes u x
    |_=>none
   |.copy=>match kR T c.args.toList with
    |some [u,x]=>match Oq P h c.argTypes u x with|some y=>some (true,y.1,y.2)|none=>none
    |_=>none
   |.delete=>match kR T c.args.toList with
    |some [u,i]=>match NS P h c.argTypes u i with|some h'=>some (true,.d5 [],h')|none=>none
    |_=>none
   |_=>none
  |_=>none
 |.mapUpdate t m i y=>match dX T m,dX T i,dX T y with
  |some u,some i,some v=>match NR P h t u i v with|some h'=>some (true,.d5 [],h')|none=>none
  |_,_,_=>none
 |_=>none
def alU(v:Value)(n:Next):Prop:=n=.value v\/(n=.skip/\v=undef)
theorem Zvo{P:Program}{sh:TypeId->Option Sh}{T:Tr AV}{o:Oper}{g:Bool}{v:AV}{h':Hp}{X:Cx}(H:aV X)(e:Ht P sh T X.h o=some (g,v,h'))(hg:g=true){a:Act}(hO:qV X T a o.op) :
  ∃X' n V,(execOp a.eval o).run P X.w=.ok n X'.w/\alU V n/\X'.h=h'/\aV X'/\bh X X'/\Rel X' v V:=by
 subst hg;unfold Ht at e;split at e<;>try (rename_i ho)
 .rename_i x;rw[ho]at hO;split at e<;>cases e;rename_i hx;exact⟨X,_,_,by simp only[execOp,ho,Sem.run_pure],.inl rfl,rfl,H,bh.refl X,hO x (by simp[Op.operands]) _ hx⟩
 .rename_i t x y;rw[ho]at hO;split at e<;>try cases e
  rename_i u u' n hx hy hn;split at e<;>try cases e
  rename_i hl;have hl:=cB hl;have h1:=hO x (by simp[Op.operands]) _ hx;have h2:=mR (hO y (by simp[Op.operands]) _ hy);have hsz:(a.eval y).cells.size=n:=by rw[<-ass,h2.length,hl]
  split at e<;>try cases e
  .rename_i b off;split at e<;>cases e;rename_i hw;obtain⟨awl,auL,g1,g2⟩:=h1;obtain⟨w',r1,r2,r3⟩:=Zn0 (P:=P) H hw g1 h2;refine⟨_,.skip,undef,?_,.inr ⟨rfl,rfl⟩,rfl,r2,r3,⟨[],rfl,rfl⟩⟩;simp only[execOp,ho,Instr.storeAt,g2,Instr.sureAddr,Sem.run_bind,Sem.run_pure,Result.andThen_ok,storeVar,run_sizeOf hn];rw[BT (by simp[hsz])];simp only[Sem.run_bind,Sem.run_pure,Result.andThen_ok,r1]
  .rename_i b i z o';split at e<;>try cases e
   rename_i xx hw;simp only[cM,arJ]at e;obtain⟨hgg,rfl,rfl⟩:=e;obtain⟨gx,hx'⟩:=xx;simp only at hgg;obtain⟨awl,auL,g1,g2,g3⟩:=h1;obtain⟨w',r1,r2,r3⟩:=aro (P:=P) H hw hgg g1 g3 h2;refine⟨_,.skip,undef,?_,.inr ⟨rfl,rfl⟩,rfl,r2,r3,⟨[],rfl,rfl⟩⟩;simp only[execOp,ho,Instr.storeAt,g2,Instr.sureAddr,Sem.run_bind,Sem.run_pure,Result.andThen_ok,storeVar,run_sizeOf hn];rw[BT (by simp[hsz])];simp only[Sem.run_bind,Sem.run_pure,Result.andThen_ok,r1]
 .rename_i c;split at e<;>try cases e
  rename_i b hb;split at e<;>try cases e
  .split at e<;>try cases e
   rename_i u x hv;rw[ho]at hO;have h1:=vb hv hO (by intro z hz;simp only[Op.operands,Call.operands,hb];simpa using hz);obtain⟨U,t,k1,k2,Y,t',k3,k4,k5⟩:=h1;have:t'=[]:=k5;subst this;subst k3;have main:∃X' V,(Builtin.append_ c.argTypes o.type #[U,Y]).run P X.w=.ok V X'.w/\X'.h=h'/\X'.A=X.A/\aV X'/\bh X X'/\Rel X' v V:=by
    split at e
    .rename_i hr;cases e;exact amv (ty:=o.type) H hr rfl k2 k4
    .exact ant H e rfl k2 k4
   obtain⟨X',V,q1,q2,q3,q4,q5,q6⟩:=main;refine⟨X',.value V,V,?_,.inl rfl,q2,q4,q5,q6⟩;rw[tc ho hb,show c.args.map a.eval=#[U,Y]from asm.1 k1];simp only[builtin,Sem.run_bind,q1,Result.andThen_ok,Sem.run_pure]
  .split at e<;>try cases e
   rename_i u x hv;split at e<;>try cases e
   rename_i y hd;rw[ho]at hO;have h1:=vb hv hO (by intro z hz;simp only[Op.operands,Call.operands,hb];simpa using hz);obtain⟨U,t,k1,k2,Y,t',k3,k4,k5⟩:=h1;have:t'=[]:=k5;subst this;subst k3;obtain⟨w',V,q1,q2,q3,q4⟩:=anr (P:=P) (ty:=o.type) H hd k2 k4;refine⟨_,.value V,V,?_,.inl rfl,rfl,q2,q3,q4⟩;rw[tc ho hb,show c.args.map a.eval=#[U,Y]from asm.1 k1];simp only[builtin,Sem.run_bind,q1,Result.andThen_ok,Sem.run_pure]
  .split at e<;>try cases e
   rename_i u x hv;split at e<;>cases e;rename_i hd;rw[ho]at hO;have h1:=vb hv hO (by intro z hz;simp only[Op.operands,Call.operands,hb];simpa using hz);obtain⟨U,t,k1,k2,Y,t',k3,k4,k5⟩:=h1;have:t'=[]:=k5;subst this;subst k3;obtain⟨w',q1,q2,q3⟩:=amL (P:=P) (ty:=o.type) H hd k2 k4;refine⟨_,.value (.tuple #[]),.tuple #[],?_,.inl rfl,rfl,q2,q3,⟨[],rfl,rfl⟩⟩;rw[tc ho hb,show c.args.map a.eval=#[U,Y]from asm.1 k1];simp only[builtin,Sem.run_bind,q1,Result.andThen_ok,Sem.run_pure]
 .rename_i t m i y;rw[ho]at hO;split at e<;>try cases e
  rename_i u i' v' hm hi hy;split at e<;>cases e;rename_i hd;obtain⟨w',q1,q2,q3⟩:=amK (P:=P) H hd (hO m (by simp[Op.operands]) _ hm) (hO i (by simp[Op.operands]) _ hi) (hO y (by simp[Op.operands]) _ hy);refine⟨_,.skip,undef,?_,.inr ⟨rfl,rfl⟩,rfl,q2,q3,⟨[],rfl,rfl⟩⟩;simp only[execOp,ho,Sem.run_bind,q1,Result.andThen_ok,Sem.run_pure]
 .cases e
def Tv(T:Tr AV)(o:Oper):Option (FuncId×List AV):=match o.op with
 |.call c=>match c.callee with
  |.value f=>match dX T f,kR T c.args.toList with|some (.func g a cap),some vs=>some (g,a++(vs++cap))|_,_=>none
  |_=>none
 |_=>none
theorem Zs1{P:Program}{T:Tr AV}{o:Oper}{f:FuncId}{vs:List AV}{X:Cx}(e:Tv T o=some (f,vs)){a:Act}(hO:qV X T a o.op){fn:Func}(hf:P.funcs[f]?=some fn)
  (hn:(fn.name == "runtime.NumGoroutine")=false) {c:Code}(hb:fn.body=some c) (w:World) :
  ∃Vs,(execOp a.eval o).run P w=.ok (.enter f (List.toArray Vs)) w/\bT X vs Vs:=by
 unfold Tv at e;split at e<;>try cases e
 rename_i cl ho;rw[ho]at hO;split at e<;>try cases e
 rename_i fo hc;split at e<;>try cases e
 rename_i fa cap xs hxs hfo;obtain⟨As,Cs,h1,h1a,h1c⟩:=hO fo (by simp[Op.operands,Call.operands,hc]) _ hfo;have h2:=vb hxs hO (by intro z hz;simp only[Op.operands,Call.operands,hc];grind);refine⟨As++((cl.args.map a.eval).toList++Cs),?_,h1a.append (h2.append h1c)⟩;simp only[execOp,ho,resolve,hc,h1,Deferred.ofValue,Sem.run_bind,Sem.run_pure,Result.andThen_ok,invoke,callFunc,run_program,hf,hn,hb];simp
