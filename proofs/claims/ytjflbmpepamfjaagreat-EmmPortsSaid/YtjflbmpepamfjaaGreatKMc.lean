import Derived.Test.YtjflbmpepamfjaaGreatKMb
import Derived.MapKept
set_option linter.all false
section
namespace Go.Proofs.YtjflbmpepamfjaaGreat.V
open Go Go.RowKit Go.MapKept
open Go.Proofs.YtjflbmpepamfjaaGreat.Ev (Tr Tr.bM nth ct cq eO jr)
def wL:AV->Bool|.agg _=>true|_=>false
variable{V:Value}{X:Cx}
theorem V0{v:AV}(R:Rel X v V):Kx V=wL v:=by
 cases v with
 |agg l=>obtain⟨cs,rfl,_⟩:=R;rfl
 |bB l=>obtain⟨cs,rfl,_⟩:=R;rfl
 |jl=>have:Ev.lF V=true:=R;cases V<;>first|rfl|cases this
 |bool b=>rw[show V=_ from R];rfl|int k n=>rw[show V=_ from R];rfl|str s=>rw[show V=_ from R];rfl|cX=>rw[show V=_ from R];rfl|ai=>rw[R];rfl|dt=>rw[R];rfl|dn=>rw[R];rfl|dW=>rw[R];rfl|ptr b off=>obtain⟨x,c,h1,rfl⟩:=R;rfl
 |dK b i z o=>obtain⟨x,c,h1,rfl,_⟩:=R;rfl
 |fF σ d o=>obtain⟨b,off,cs,rfl,_⟩:=R;rfl
 |hd b τ=>obtain⟨l,h1,hc,_⟩:=R;cases V<;>first|rfl|cases hc
 |vw b τ off len=>obtain⟨l,a,c,h1,rfl,_⟩:=R;rfl
 |fz τ L=>obtain⟨a,len,cap,e,_⟩:=R;simp at e;rw[e];rfl
 |func f x c=>obtain⟨xs,cs,rfl,_⟩:=R;rfl
 |eg τ z L=>obtain⟨_,a,l,c,rfl,_⟩:=R;rfl
 |mp b=>obtain⟨x,c,h1,rfl⟩:=R;rfl
 |ez b=>obtain⟨l,h1,rfl⟩:=R;cases l<;>rfl
 |rp b i=>obtain⟨x,c,m,p,h1,h2,rfl⟩:=R;rfl
 |ra b i=>obtain⟨x,c,m,h1,h2,rfl⟩:=R;rfl
def avE:Bool->List AV->AV
 |false,[v]=>v|_,l=>.agg l
def Au(σ:Sh)(d:σ.T):AV:=avE (ug σ) (nA σ d)
variable{σ:Sh}{d:σ.T}
theorem D9(h:bR X.w X.out σ d V):Rel X (Au σ d) V:=by
 obtain⟨h1,h2⟩:=h;have hr:=uI h1;have single:∀{u:AV},Kx V=false->bm X [u] V.cells.toList->Rel X u V:=by
  intro u hv q;have:V.cells=#[V]:=by cases V<;>first|rfl|cases hv
  obtain⟨v,r,e,q1,q2⟩:=q
  grind
 cases σ with
 |agg l=>cases V with|agg cs=>exact⟨cs.toList,aGn,by simpa[Value.cells]using hr⟩|_=>cases h2
 |int k=>exact single h2 hr|bool=>exact single h2 hr|str=>exact single h2 hr|sl s=>exact single h2 hr
def rX(kl:Bool)(h:Hp)(σ:Sh)(v:AV):Option (σ.T×Hp):=match wL v,ug σ with
 |true,true|false,false=>match eu kl h σ (cr v)with
  |some (d,l,h)=>match l with|[]=>some (d,h)|_=>none
  |none=>none
 |_,_=>none
theorem Hr{kl:Bool}(H:ab X){v:AV}{h':Hp}(e:rX kl X.h σ v=some (d,h'))(R:Rel X v V) :
  fb X h'/\bR X.w (Cx.out ⟨X.s,h',X.w,X.A⟩) σ d V:=by
 have hag:=V0 R;unfold rX at e;have main:wL v=ug σ->(match eu kl X.h σ (cr v)with
  |some (d,l,h)=>match l with|[]=>some (d,h)|_=>none
  |none=>none)=some (d,h')->fb X h'/\bR X.w (Cx.out ⟨X.s,h',X.w,X.A⟩) σ d V:=by
  intro ha e;split at e<;>try cases e
  rename_i aHf l h₁ hf;split at e<;>cases e;obtain⟨F,c,r,he,h1,h2⟩:=qU H hf (kK R);have:r=[]:=h2;exact⟨F,by grind,by rw[hag,ha]⟩
 grind
def pw(σ:Sh)(M:dD σ)(k:Int):σ.T:=match M with|[]=>σ.zero|p::M=>match decide (p.1=k)with|true=>p.2.1|false=>pw σ M k
def qD{σ:Sh}(M:dD σ)(k:Int):Bool:=match M with|[]=>false|p::M=>match decide (p.1=k)with|true=>true|false=>qD M k
def jJ{σ:Sh}(k:Int)(v:σ.T)(M:dD σ):dD σ:=match M with|[]=>[(k,v,())]|p::M=>match decide (k<p.1)with|true=>(k,v,())::p::M|false=>match decide (p.1=k)with|true=>(k,v,())::M|false=>p::jJ k v M
def kH{σ:Sh}(k:Int)(M:dD σ):dD σ:=match M with|[]=>[]|p::M=>match decide (p.1=k)with|true=>M|false=>p::kH k M
variable{q:Int×σ.T×Unit}{v:σ.T}{k:Int}{M:dD σ}
theorem afj(h:q∈jJ k v M):q.1=k\/q∈M:=by
 induction M with
 |nil=>simp only[jJ,OF]at h;subst h;exact .inl rfl|cons p M ih=>
  unfold jJ at h
  grind
theorem Zwx(h:M.Pairwise (fun p q=>p.1<q.1)):(jJ k v M).Pairwise (fun p q=>p.1<q.1):=by
 induction M with
 |nil=>simp[jJ]|cons p M ih=>
  obtain⟨h1,h2⟩:=atR.1 h;unfold jJ;split
  .rename_i hk;refine atR.2 ⟨fun q hq=>?_,h⟩
   grind
  .rename_i hk;have hk:=aEU hk;split
   .rename_i he;exact atR.2 ⟨fun q hq=>by grind,h2⟩
   .rename_i he;have he:=aEU he;refine atR.2 ⟨fun q hq=>?_,ih h2⟩;rcases afj hq with e|hq
    .omega
    .exact h1 q hq
theorem afk(h:∀p∈M,p.1≠k):(jJ k v M).Perm (M++[(k,v,())]):=by
 induction M with
 |nil=>exact .refl _|cons p M ih=>
  unfold jJ;split
  .exact(List.perm_append_singleton (k,v,()) (p::M)).symm
  simp_all
variable{u:σ.T}{B:dD σ}
theorem afl(hs:M.Pairwise (fun p q=>p.1<q.1)){A:dD σ}(h:(A++(k,u,())::B).Perm M):(A++(k,v,())::B).Perm (jJ k v M):=by
 have hm:(k,u,())∈M:=h.subset aGn;obtain⟨C,D,rfl⟩:=List.append_of_mem hm;have hAB:(A++B).Perm (C++D):=by have h1:((k,u,())::(A++B)).Perm ((k,u,())::(C++D)):=List.perm_middle.symm.trans (h.trans List.perm_middle);exact(List.perm_cons _).1 h1
 have hput:jJ k v (C++(k,u,())::D)=C++(k,v,())::D:=by
  clear h hm hAB
  induction C with
  |nil=>
   unfold jJ
   grind
  |cons p C ih=>obtain⟨h1,h2⟩:=atR.1 hs;have:=h1 (k,u,()) aGn;rw[ST,jJ,jG (show ¬k<p.1 by omega),jG (show ¬p.1=k by have:p.1<k:=this;omega),ST];rw[ih h2]
 rw[hput];exact List.perm_middle.trans ((hAB.cons _).trans List.perm_middle.symm)
theorem asS(h:∀p∈M,p.1≠k):kH k M=M:=by induction M with|nil=>rfl|cons p M ih=>rw[kH];grind
theorem afe(h:q∈kH k M):q∈M:=by
 induction M with
 |nil=>exact h|cons p M ih=>
  unfold kH at h
  grind
theorem arZ(h:M.Pairwise (fun p q=>p.1<q.1)):(kH k M).Pairwise (fun p q=>p.1<q.1):=by
 induction M with
 |nil=>exact h|cons p M ih=>
  obtain⟨h1,h2⟩:=atR.1 h;unfold kH;split
  .exact h2
  .exact atR.2 ⟨fun q hq=>h1 q (afe hq),ih h2⟩
theorem aff(hs:M.Pairwise (fun p q=>p.1<q.1)){A:dD σ}(h:(A++(k,u,())::B).Perm M):(A++B).Perm (kH k M):=by
 have hm:(k,u,())∈M:=h.subset aGn;obtain⟨C,D,rfl⟩:=List.append_of_mem hm;have hAB :=by have h1 :=List.perm_middle.symm.trans (h.trans List.perm_middle);exact(List.perm_cons _).1 h1
 have hput:kH k (C++(k,u,())::D)=C++D:=by
  clear h hm hAB
  induction C with|nil=>unfold kH;grind|cons p C ih=>obtain⟨h1,h2⟩:=atR.1 hs;have:=h1 (k,u,()) aGn;rw[ST,kH,jG aGl,ST];rw[ih h2]
 rw[hput];exact hAB
theorem asQ(h:∀p∈M,p.1≠k):pw σ M k=σ.zero/\qD M k=false:=by induction M with|nil=>exact⟨rfl,rfl⟩|cons p M ih=>rw[pw,qD];grind
theorem afi(hs:M.Pairwise (fun p q=>p.1<q.1))(h:(k,u,())∈M):pw σ M k=u/\qD M k=true:=by
 induction M with
 |nil=>cases h
 |cons p M ih=>
  obtain⟨h1,h2⟩:=atR.1 hs;rcases AT.1 h with rfl|h
  .rw[pw,qD,iU rfl];exact⟨rfl,rfl⟩
  .have:=h1 _ h;rw[pw,qD,jG aGl];exact ih h2 h
variable{w:World}{κ:IntKind}{A:Nat->Prop}
theorem iz.len:∀{es:List MapEntry}{N:dD σ},iz w A κ σ es N->es.length=N.length
 |[],N,h=>by rw[h];rfl|e::es,N,h=>by cases N with|nil=>exact h.elim|cons p N=>rw[cF,cF,iz.len h.2.2]
theorem iz.at_:∀{es:List MapEntry}{N:dD σ}{j:Nat}{e:MapEntry},iz w A κ σ es N->es[j]?=some e ->
  ∃P p S,N=P++p::S/\P.length=j/\e.key=.int κ p.1/\bR w A σ p.2.1 e.val/\iz w A κ σ (es.eraseIdx j) (P++S) /\
   ∀e' v,e'.key=.int κ p.1->bR w A σ v e'.val->iz w A κ σ (es.set j e') (P++(p.1,v,())::S)
 |[],N,j,e,h,q=>by simp at q|x::es,N,j,e,h,q=>by cases N with|nil=>exact h.elim|cons p N=>cases j with|zero=>simp at q;subst q;exact⟨[],p,N,rfl,rfl,h.1,h.2.1,h.2.2,fun e' v h1 h2=>⟨h1,h2,h.2.2⟩⟩|succ j=>obtain⟨P,p',S,rfl,h1,h2,h3,h4,h5⟩:=iz.at_ h.2.2 (by simpa using q);exact⟨p::P,p',S,rfl,by simp[h1],h2,h3,⟨h.1,h.2.1,h4⟩,fun e' v g1 g2=>⟨h.1,h.2.1,h5 e' v g1 g2⟩⟩
theorem iz.snoc{e:MapEntry}{p:Int×σ.T×Unit}(h1:e.key=.int κ p.1)(h2:bR w A σ p.2.1 e.val):∀{es:List MapEntry}{N:dD σ},iz w A κ σ es N->iz w A κ σ (es++[e]) (N++[p])
 |[],N,h=>by rw[h];exact⟨h1,h2,rfl⟩|x::es,N,h=>by cases N with|nil=>exact h.elim|cons q N=>exact⟨h.1,h.2.1,iz.snoc h1 h2 h.2.2⟩
theorem iz.keys:∀{es:List MapEntry}{N:dD σ},iz w A κ σ es N->(∀e∈es,∃p∈N,e.key=.int κ p.1)/\∀p∈N,∃e∈es,e.key=.int κ p.1
 |[],N,h=>by rw[h];simp|x::es,N,h=>by
  cases N with
  |nil=>exact h.elim|cons q N=>
   obtain⟨g1,g2⟩:=iz.keys h.2.2;refine⟨fun e he=>?_,fun p hp=>?_⟩
   .rcases AT.1 he with rfl|he
    .exact⟨q,aGn,h.1⟩
    grind
   .rcases AT.1 hp with rfl|hp
    .exact⟨x,aGn,h.1⟩
    grind
variable{clk:Nat}{es:Array MapEntry}
theorem iC.isKey(h:iC w A κ σ es clk M):∀x∈es.toList,IsKey (.int κ) x.key:=by obtain⟨N,h1,h2,_⟩:=h;intro x hx;obtain⟨p,_,hp⟩:=h2.keys.1 x hx;rw[hp];rfl
theorem iC.find(h:iC w A κ σ es clk M)(k:Int) :
  (Instr.findNow (.int κ) (.int κ k) es.toList 0=some none/\∀p∈M,p.1≠k)\/∃j e u,Instr.findNow (.int κ) (.int κ k) es.toList 0=some (some (j,e.val))/\es.toList[j]?=some e/\e.key=.int κ k/\(k,u,())∈M/\bR w A σ u e.val:=by
 have hk:=h.isKey;obtain⟨N,h1,h2,h3,_⟩:=h;rcases findNow_spec (d:=.int κ) (k:=.int κ k) rfl es.toList 0 hk with⟨g1,g2⟩|⟨j,e,g1,g2,g3⟩
 .refine .inl ⟨g1,fun p hp q=>?_⟩;obtain⟨e,he,hek⟩:=h2.keys.2 p (h1.symm.subset hp)
  grind
 .obtain⟨P,p,S,rfl,_,q1,q2,_⟩:=h2.at_ g2
  grind
mutual
def pT:Sh->List AV->Option (List AV)
 |.int k,l=>match l with
  |.int k' n::r=>match j9 k' k,n with|true,.ofNat 0=>some r|_,_=>none
  |_=>none
 |.bool,l=>match l with|.bool false::r=>some r|_=>none
 |.str,l=>match l with
  |.str s::r=>match Nat.beq s.size 0 with|true=>some r|false=>none
  |_=>none
 |.agg ss,l=>yf ss l|.sl s,l=>match l with|.ai::r=>some r|_=>none
termination_by structural x=>x
def yf:List Sh->List AV->Option (List AV)
 |[],r=>some r|s::l,r=>match pT s r with|some r=>yf l r|none=>none
termination_by structural x=>x
end
mutual
theorem Ny{X:Cx}{w:World}{A:Nat->Prop}:∀{σ:Sh}{l r:List AV},pT σ l=some r->∀{cs:kw},bm X l cs->∃c e,cs=c++e/\Cs w A σ σ.zero c/\bm X r e
 |.int k,l,r,e,cs,R=>by
  simp only[pT]at e;split at e<;>try cases e
  rename_i k' n r';split at e<;>try cases e
  rename_i n' hk;obtain⟨v,t,rfl,h1,h2⟩:=R;have:=my hk;subst this;exact⟨[v],t,rfl,by rw[show v=_ from h1];rfl,h2⟩
 |.bool,l,r,e,cs,R=>by
  simp only[pT]at e;split at e<;>try cases e
  obtain⟨v,t,rfl,h1,h2⟩:=R;exact⟨[v],t,rfl,by rw[show v=_ from h1];rfl,h2⟩
 |.str,l,r,e,cs,R=>by
  simp only[pT]at e;split at e<;>try cases e
  rename_i s r';split at e<;>try cases e
  rename_i hs;obtain⟨v,t,rfl,h1,h2⟩:=R;have hz:s=ByteArray.empty:=by have:=aK hs;cases s with|mk d=>have:d.size=0:=this;have:d=#[]:=Array.eq_empty_of_size_eq_zero this;subst this;rfl
  subst hz;exact⟨[v],t,rfl,by rw[show v=_ from h1];rfl,h2⟩
 |.agg ss,l,r,e,cs,R=>Zvv (ss:=ss) e R|.sl s,l,r,e,cs,R=>by
  simp only[pT]at e;split at e<;>try cases e
  obtain⟨v,t,rfl,h1,h2⟩:=R;exact⟨[v],t,rfl,⟨none,0,0,by rw[show v=_ from h1],rfl,pi _,fun q=>absurd rfl q⟩,h2⟩
theorem Zvv{X:Cx}{w:World}{A:Nat->Prop}:∀{ss:List Sh}{l r:List AV},yf ss l=some r->∀{cs:kw},bm X l cs->∃c e,cs=c++e/\gj w A ss (GH ss) c/\bm X r e
 |[],l,r,e,cs,R=>by simp only[yf,bo]at e;subst e;exact⟨[],cs,rfl,rfl,R⟩|s::ss,l,r,e,cs,R=>by
  simp only[yf]at e;split at e<;>try cases e
  rename_i aIq aHi;obtain⟨c,t,rfl,q1,q2⟩:=Ny (A:=A) (w:=w) aHi R;obtain⟨c',t',rfl,q3,q4⟩:=Zvv (A:=A) (w:=w) e q2;exact⟨c++c',t',aGn,⟨c,c',rfl,q1,q3⟩,q4⟩
end
def F7(σ:Sh)(M:dD σ)(k:Int)(ck:Bool):AV:=match ck with|true=>.bB [Au σ (pw σ M k),.bool (qD M k)]|false=>Au σ (pw σ M k)
def uY(P:Program)(h:Hp)(t:TypeId)(u i:AV)(ck:Bool):Option AV:=match P.underlying t with
 |some (.map kt et)=>match P.underlying kt,eS P et with
  |some (.int aIT),some z=>match u,i with
   |.mp b,.int κ' k=>match h.tr.get b with
    |some (.map κ σ M)=>match j9 aIT κ,j9 κ' κ,wL z,ug σ,pT σ (cr z)with|true,true,false,false,some []=>some (F7 σ M k ck)|true,true,true,true,some []=>some (F7 σ M k ck)|_,_,_,_,_=>none
    |_=>none
   |_,_=>none
  |_,_=>none
 |_=>none
theorem asw{P:Program}{X:Cx}(H:ab X){t:TypeId}{u i v:AV}{ck:Bool}(e:uY P X.h t u i ck=some v){U I:Value}(R:Rel X u U)(RI:Rel X i I) :
  ∃V,(Instr.lookup t U I ck).run P X.w=.ok V X.w/\Rel X v V:=by
 unfold uY at e;split at e<;>try cases e
 rename_i kt et hu;split at e<;>try cases e
 rename_i aIT z hk hz;split at e<;>try cases e
 rename_i b κ' k;split at e<;>try cases e
 rename_i κ σ M hb;obtain⟨x,c,hs,rfl⟩:=R;rw[show I=_ from RI];obtain⟨x',c',es,clk,e1,e2,e3⟩:=H.obj b _ _ hb hs;cases e1;obtain⟨Z,hZ0,RZ⟩:=iu hz X X.w;have main:j9 aIT κ=true->j9 κ' κ=true->wL z=ug σ->pT σ (cr z)=some []->some (F7 σ M k ck)=some v->∃V,(Instr.lookup t (.map (some x)) (.int κ' k) ck).run P X.w=.ok V X.w/\Rel X v V:=by
  intro q1 q2 q3 q4 ev;clear e;have q1:=my q1;have q2:=my q2;subst q1;subst q2;have hkey:IsKey (.int κ') (.int κ' k):=rfl;have hD:∃V ok,(do
    let(v,ok) <- match <- Instr.findKey kt (.int κ' k) es.toList with|some (_,v)=>pure (v,true)|none=>pure (<- zeroValue et,false)
    pure (if ck then Value.tuple #[v,.bool ok]else v):Sem Value).run P X.w=.ok (if ck then Value.tuple #[V,.bool ok]else V) X.w/\ok=qD M k/\bR X.w X.out σ (pw σ M k) V:=by
   rcases e3.find k with⟨g1,g2⟩|⟨j,en,d,g1,g2,g3,g4,g5⟩
   .obtain⟨p1,p2⟩:=asQ g2;refine⟨Z,false,by simp[run_findKey hk g1,hZ0],p2.symm,?_⟩;rw[p1];obtain⟨zc,zr,f1,f2,f3⟩:=Ny (X:=X) (w:=X.w) (A:=X.out) q4 (kK RZ);have:zr=[]:=f3;subst this;rw[dJ]at f1;exact⟨by grind,by rw[V0 RZ,q3]⟩
   .obtain⟨N,n1,n2,n3,_⟩:=e3;obtain⟨p1,p2⟩:=afi n3 g4;exact⟨en.val,true,by simp[run_findKey hk g1],p2.symm,by grind⟩
  obtain⟨V,ok,hr,bw,hdat⟩:=hD;refine⟨if ck then Value.tuple #[V,.bool ok]else V,?_,?_⟩
  .have h0:(getObj x).run P X.w=.ok (.map es clk) X.w:=Go.MapKept.run_getObj_map e2;simp only[Instr.lookup,Sem.run_bind,run_underlying hu,Result.andThen_ok,h0,Sem.run_pure,run_checkKey hk hkey];simp only[Sem.run_bind]at hr;exact hr
  .cases ck with
   |true=>cases ev;exact⟨[V,.bool ok],rfl,V,_,rfl,D9 hdat,_,_,rfl,by rw[bw];rfl,rfl⟩
   |false=>cases ev;exact D9 hdat
 grind
def GL(P:Program)(h:Hp)(t:TypeId)(u i v:AV):Option Hp:=match P.underlying t with
 |some (.map kt _)=>match P.underlying kt with
  |some (.int aIT)=>match u,i with
   |.mp b,.int κ' k=>match h.tr.get b with
    |some (.map κ σ M)=>match j9 aIT κ,j9 κ' κ,rX false h σ v with
     |true,true,some (d,_)=>match Tr.set FT h.tr b (some (.map κ σ (jJ k d M)))with|some tr=>some ⟨tr,h.next⟩|none=>none
     |_,_,_=>none
    |_=>none
   |_,_=>none
  |_=>none
 |_=>none
theorem Cd{P:Program}{w:World}{x:Nat}{es:Array MapEntry}{clk:Nat}(h:w.heap[x]?=some (.map es clk))(o:Obj):(setObj x o).run P w=.ok () (cq w x o):=Go.MapKept.run_setObj_map o h
theorem iC.set{w:World}{A:Nat->Prop}{κ:IntKind}{σ:Sh}{es:Array MapEntry}{clk:Nat}{M:dD σ}(h:iC w A κ σ es clk M){j:Nat}{e:MapEntry}{k:Int}{d:σ.T}{V:Value}(he:es.toList[j]?=some e)(hk:e.key=.int κ k)
  (hd:bR w A σ d V):iC w A κ σ (es.modify j fun e=>{ e with key:=.int κ k,val:=V }) clk (jJ k d M):=by
 obtain⟨N,h1,h2,h3,h4,h5⟩:=h;obtain⟨Q,p,S,rfl,_,q1,_,_,q2⟩:=h2.at_ he;rw[hk]at q1;simp only[Value.int.injEq,aGk]at q1;obtain⟨a,u,⟨⟩⟩:=p;simp only at q1;subst q1;have hl:(es.modify j fun e=>{ e with key:=.int κ k,val:=V }).toList=es.toList.set j { e with key:=.int κ k,val:=V }:=by
  rw[Array.toList_modify];apply aig
  grind
 refine⟨Q++(k,d,())::S,afl h3 h1,?_,Zwx h3,?_,?_⟩
 .rw[hl]
  grind
 .intro y hy
  grind
 .rw[hl];have hb:(es.toList.set j { e with key:=.int κ k,val:=V }).map (·.born)=es.toList.map (·.born):=by
   rw[List.map_set];apply aig
   grind
  have h5':=(List.pairwise_map (f:=fun e:MapEntry=>e.born) (R:=fun a b=>a≠b)).2 h5
  grind
theorem iC.push{w:World}{A:Nat->Prop}{κ:IntKind}{σ:Sh}{es:Array MapEntry}{clk:Nat}{M:dD σ}(h:iC w A κ σ es clk M){k:Int}{d:σ.T}{V:Value}(hk:∀p∈M,p.1≠k)
  (hd:bR w A σ d V):iC w A κ σ (es.push { key:=.int κ k,val:=V,born:=clk }) (clk+1) (jJ k d M):=by
 obtain⟨N,h1,h2,h3,h4,h5⟩:=h;refine⟨N++[(k,d,())],(h1.append_right _).trans (afk hk).symm,?_,Zwx h3,?_,?_⟩
 .rw[Array.toList_push];exact iz.snoc rfl hd h2
 .intro y hy
  grind
 grind
theorem arN{P:Program}{X:Cx}(H:ab X){h':Hp}{t:TypeId}{u i v:AV}(e:GL P X.h t u i v=some h'){U I V:Value}(R:Rel X u U)(RI:Rel X i I)(RV:Rel X v V) :
  ∃w',(Instr.mapUpdate t U I V).run P X.w=.ok () w'/\ab ⟨X.s,h',w',X.A⟩/\aH X ⟨X.s,h',w',X.A⟩:=by
 unfold GL at e;split at e<;>try cases e
 rename_i kt et hu;split at e<;>try cases e
 rename_i aIT hk;split at e<;>try cases e
 rename_i b κ' k;split at e<;>try cases e
 rename_i κ σ M hb;split at e<;>try cases e
 rename_i d h₁ q1 q2 hf;split at e<;>cases e;rename_i tr ht;have q1:=my q1;have q2:=my q2;subst q1;subst q2;obtain⟨x,c,hs,rfl⟩:=R;rw[show I=_ from RI];obtain⟨x',c',es,clk,e1,e2,e3⟩:=H.obj b _ _ hb hs;cases e1;have hsame:h₁=X.h:=by
  unfold rX at hf;split at hf<;>try cases hf
  all_goals
   split at hf<;>try cases hf
   rename_i hfr;split at hf<;>cases hf;exact Eg hfr
 subst hsame;obtain⟨F,hd⟩:=Hr H hf RV;have hd:bR X.w X.out σ d V:=hd;have hkey:IsKey (.int κ') (.int κ' k):=rfl;have fin:∀es' clk',iC X.w X.out κ' σ es' clk' (jJ k d M)->ab ⟨X.s,⟨tr,X.h.next⟩,cq X.w x (.map es' clk'),X.A⟩/\aH X ⟨X.s,⟨tr,X.h.next⟩,cq X.w x (.map es' clk'),X.A⟩:=by intro es' clk' hm;have E:=aH.put (ob:=.map es' clk') H hb hs (by intro n q;cases q) ht;refine⟨H.put hb hs (by intro n q;cases q) ht ⟨x,c,es',clk',rfl,?_,hm.keep E.keeps⟩,E⟩;show(cq X.w x _).heap[x]?=_;rw[eO,BY ⟨rfl,iY e2⟩]
 have h0:(getObj x).run P X.w=.ok (.map es clk) X.w:=Go.MapKept.run_getObj_map e2;rcases e3.find k with⟨g1,g2⟩|⟨j,en,u,g1,g2,g3,g4,g5⟩
 .obtain⟨f1,f2⟩:=fin _ _ (e3.push (V:=V) g2 hd);exact⟨_,by simp only[Instr.mapUpdate,Sem.run_bind,run_underlying hu,Result.andThen_ok,h0,run_checkKey hk hkey,run_findKey hk g1,Cd e2],f1,f2⟩
 .obtain⟨f1,f2⟩:=fin _ _ (e3.set (V:=V) g2 g3 hd);have hj:es[j]?=some en:=by grind
  have hkk:((es[j]?).map (·.key)).getD (.int κ' k)=.int κ' k:=by grind
  exact⟨_,by simp only[Instr.mapUpdate,Sem.run_bind,run_underlying hu,Result.andThen_ok,h0,run_checkKey hk hkey,run_findKey hk g1,hkk,run_keyThatStays hkey,Cd e2],f1,f2⟩
def GN(P:Program)(h:Hp)(ts:Array TypeId)(u i:AV):Option Hp:=match nth ts.toList 0 with
 |some t=>match P.underlying t with
  |some (.map kt _)=>match P.underlying kt with
   |some (.int aIT)=>match u,i with
    |.mp b,.int κ' k=>match h.tr.get b with
     |some (.map κ σ M)=>match j9 aIT κ,j9 κ' κ with
      |true,true=>match Tr.set FT h.tr b (some (.map κ σ (kH k M)))with|some tr=>some ⟨tr,h.next⟩|none=>none
      |_,_=>none
     |_=>none
    |_,_=>none
   |_=>none
  |_=>none
 |none=>none
theorem iC.erase{w:World}{A:Nat->Prop}{κ:IntKind}{σ:Sh}{es:Array MapEntry}{clk:Nat}{M:dD σ}(h:iC w A κ σ es clk M){j:Nat}{e:MapEntry}{k:Int}(he:es.toList[j]?=some e)(hk:e.key=.int κ k) :
  iC w A κ σ (es.eraseIdxIfInBounds j) clk (kH k M):=by
 obtain⟨N,h1,h2,h3,h4,h5⟩:=h;obtain⟨Q,p,S,rfl,_,q1,_,q2,_⟩:=h2.at_ he;rw[hk]at q1;simp at q1;subst q1;have hl:(es.eraseIdxIfInBounds j).toList=es.toList.eraseIdx j:=by simp_all
 refine⟨Q++S,aff h3 h1,?_,arZ h3,?_,?_⟩
 .rw[hl];exact q2
 .intro y hy
  grind
 grind
theorem arO{P:Program}{X:Cx}(H:ab X){h':Hp}{ts:Array TypeId}{ty:TypeId}{u i:AV}(e:GN P X.h ts u i=some h'){U I:Value}(R:Rel X u U)(RI:Rel X i I) :
  ∃w',(Builtin.delete_ ts ty #[U,I]).run P X.w=.ok (.tuple #[]) w'/\ab ⟨X.s,h',w',X.A⟩/\aH X ⟨X.s,h',w',X.A⟩:=by
 unfold GN at e;split at e<;>try cases e
 rename_i t htt;split at e<;>try cases e
 rename_i kt et hu;split at e<;>try cases e
 rename_i aIT hk;split at e<;>try cases e
 rename_i b κ' k;split at e<;>try cases e
 rename_i κ σ M hb;split at e<;>try cases e
 rename_i q1 q2;split at e<;>cases e;rename_i tr ht;have q1:=my q1;have q2:=my q2;subst q1;subst q2;obtain⟨x,c,hs,rfl⟩:=R;rw[RI];have htt:ts[0]?=some t:=by rw[ct]at htt;simpa using htt
 obtain⟨x',c',es,clk,e1,e2,e3⟩:=H.obj b _ _ hb hs;cases e1;have hkey:IsKey (.int κ') (.int κ' k):=rfl;have fin:∀es' clk',iC X.w X.out κ' σ es' clk' (kH k M)->ab ⟨X.s,⟨tr,X.h.next⟩,cq X.w x (.map es' clk'),X.A⟩/\aH X ⟨X.s,⟨tr,X.h.next⟩,cq X.w x (.map es' clk'),X.A⟩:=by intro es' clk' hm;have E:=aH.put (ob:=.map es' clk') H hb hs (by intro n q;cases q) ht;refine⟨H.put hb hs (by intro n q;cases q) ht ⟨x,c,es',clk',rfl,?_,hm.keep E.keeps⟩,E⟩;rw[eO,BY ⟨rfl,iY e2⟩]
 have h0:(getObj x).run P X.w=.ok (.map es clk) X.w:=Go.MapKept.run_getObj_map e2;rcases e3.find k with⟨g1,g2⟩|⟨j,en,u,g1,g2,g3,g4,g5⟩
 .obtain⟨f1,f2⟩:=fin es clk (by rw[asS g2];exact e3);refine⟨_,?_,f1,f2⟩;simp only[Builtin.delete_,htt,Array.getElem?_eq_getElem,pp,pm,rg,Sem.run_bind,run_underlying hu,Result.andThen_ok,h0,run_checkKey hk hkey,run_findKey hk g1,Cd e2,Sem.run_pure]
 .obtain⟨f1,f2⟩:=fin _ _ (e3.erase g2 g3);refine⟨_,?_,f1,f2⟩;simp only[Builtin.delete_,htt,pp,pm,rg,Sem.run_bind,run_underlying hu,Result.andThen_ok,h0,run_checkKey hk hkey,run_findKey hk g1,Cd e2,Sem.run_pure]
open Go.Proofs.YtjflbmpepamfjaaGreat.Ev (Tr Tr.bM nth ct takeN eh fu fK cq eO jr still gW run_underlying run_typeInfo run_sizeOf cP dR places pH iw nZ lD kj uS Aw)
theorem x9{P:Program}{t0 t1 ty:TypeId}{ts:Array TypeId}{elem:TypeId}{d1:TypeDesc}{sz n:Nat}{z:AV}{info:TypeInfo}{base:lc}{sLen sCap:Nat}{Y:Value}{old new:kw}{X:Cx}{w:World}
  (ht0:ts[0]?=some t0) (ht1:ts[1]?=some t1) (hu0:P.underlying t0=some (.slice elem)) (hu1:P.underlying t1=some d1) (hd:∀k,d1≠.int k) (hs:cP P elem=some sz) (hz:eS P elem=some z)
  (hi:P.info? elem=some info) (hzl:(cr z).length=sz) (hn:(Builtin.lenOf Y).run P w=.ok n w) (hnot:sCap<sLen+n) (hb:(2*(sLen+n)+192)*info.bytes<=281474976710656) (hne:sLen+n<=1099511627776)
  (hold:∀d,(Builtin.firstCells sz sLen (.slice base sLen sCap)).run P { w with drawn:=d }=.ok old.toArray { w with drawn:=d })
  (hnew:∀d,(Builtin.firstCells sz n Y).run P { w with drawn:=d }=.ok new.toArray { w with drawn:=d }) :
  ∃c,sLen+n<=c/\∃d,∃rest:kw,rest.length=(c-(sLen+n))*sz/\(Builtin.append_ ts ty #[.slice base sLen sCap,Y]).run P w =
   .ok (.slice (some ⟨w.heap.size,0,none⟩) (sLen+n) c) { w with drawn:=d,heap:=w.heap.push (.cells (old++new++rest).toArray elem (0,0)) }:=by
 refine⟨(Question.appendCap (sLen+n) sCap elem).cut (w.tape w.drawn (.appendCap (sLen+n) sCap elem)),by simp[Question.cut],w.drawn+1,?_⟩;obtain⟨Z,hzr,RZ⟩:=iu hz X w;have hz0:∀w,(zeroValue elem).run P w=.ok Z w:=by
  intro w';obtain⟨Z',h1,_⟩:=iu hz X w';unfold eS at hz;simp only[hi]at hz;split at hz<;>try cases hz
  rename_i v hv;simp only[zeroValue,Sem.run_bind,run_typeInfo hi,Result.andThen_ok,hv,Sem.run_pure]at hzr |-;simp only[WF,aFa]at hzr;rw[hzr]
 have hzs:Z.cells.size=sz:=by rw[<-PP,(kK RZ).length,hzl]
 generalize hc:(Question.appendCap (sLen+n) sCap elem).cut (w.tape w.drawn (.appendCap (sLen+n) sCap elem))=c;refine⟨(Builtin.zeroCells Z.cells (c-(sLen+n))).toList,by simp[Builtin.zeroCells,hzs],?_⟩;have hbig:¬(Builtin.nextslicecap (sLen+n) sCap*info.bytes > 2^48):=by have:=UV info.bytes (uS hnot);show ¬(281474976710656<_);omega
 have hk:(match d1 with|.int _=>true|_=>false)=false:=by cases d1<;>first|rfl|exact absurd rfl (hd _)
 have hmax:¬(((sLen+n:Nat):Int) > IntKind.i64.max/\(false=true\/info.bytes=0)):=by
  intro q;have h1:=q.1;have:IntKind.i64.max=9223372036854775807:=aGo
  rw[this]at h1;omega
 unfold Builtin.append_;simp only[ht0,ht1,pp,pm,rg,Sem.run_bind,run_underlying hu0,run_underlying hu1,Result.andThen_ok,run_sizeOf hs,Sem.run_pure,run_typeInfo hi];rw[rx aGc];simp only[Sem.run_bind,hn,Result.andThen_ok];rw[rx (by omega:¬sLen+n<=sCap)];simp only[Sem.run_bind,run_typeInfo hi,Result.andThen_ok];rw[rx hmax];simp only[Sem.run_bind,run_typeInfo hi,Result.andThen_ok];rw[rx hbig];simp only[Sem.run_bind,run_choose,Question.forced,GE,aFk,Result.andThen_ok,run_typeInfo hi,run_askRoom,hold,hc,Bool.not_false,aFx,hnew,hz0,newRow,run_newObj,Sem.run_pure];congr 3
 simp_all
theorem Ec{P:Program}{t0 t1 ty:TypeId}{ts:Array TypeId}{elem:TypeId}{d1:TypeDesc}{sz n:Nat}{b off:Nat}{sLen sCap:Nat}{Y:Value}{new:kw}{w w':World}
  (ht0:ts[0]?=some t0) (ht1:ts[1]?=some t1) (hu0:P.underlying t0=some (.slice elem)) (hu1:P.underlying t1=some d1) (hd:∀k,d1≠.int k) (hs:cP P elem=some sz)
  (hn:(Builtin.lenOf Y).run P w=.ok n w) (hfit:sLen+n<=sCap) (hnew:(Builtin.firstCells sz n Y).run P w=.ok new.toArray w)
  (hst:(storeCells ⟨b,off+sLen*sz,none⟩ new).run P w=.ok () w') :
  (Builtin.append_ ts ty #[.slice (some ⟨b,off,none⟩) sLen sCap,Y]).run P w=.ok (.slice (some ⟨b,off,none⟩) (sLen+n) sCap) w':=by
 have hk:(match d1 with|.int _=>true|_=>false)=false:=aGn
 unfold Builtin.append_;simp only[ht0,ht1,pp,pm,rg,Sem.run_bind,run_underlying hu0,run_underlying hu1,Result.andThen_ok,run_sizeOf hs,Sem.run_pure];rw[rx aGc];simp only[Sem.run_bind,hn,Result.andThen_ok];rw[BY hfit];simp only[Sem.run_bind,Bool.not_false,aFx,hnew,Result.andThen_ok,dR,hst,Sem.run_pure]
theorem Ni{P:Program}{t0 t1 ty:TypeId}{ts:Array TypeId}{elem:TypeId}{d1:TypeDesc}{sz:Nat}{Y:Value}{w:World}
  (ht0:ts[0]?=some t0) (ht1:ts[1]?=some t1) (hu0:P.underlying t0=some (.slice elem)) (hu1:P.underlying t1=some d1) (hd:∀k,d1≠.int k) (hs:cP P elem=some sz)
  (hn:(Builtin.lenOf Y).run P w=.ok 0 w) {l:kw}(hnew:(Builtin.firstCells sz 0 Y).run P w=.ok l.toArray w) :
  (Builtin.append_ ts ty #[.slice none 0 0,Y]).run P w=.ok (.slice none 0 0) w:=by
 have hk:(match d1 with|.int _=>true|_=>false)=false:=aGn
 unfold Builtin.append_;simp only[ht0,ht1,pp,pm,rg,Sem.run_bind,run_underlying hu0,run_underlying hu1,Result.andThen_ok,run_sizeOf hs,Sem.run_pure]
 simp_all
def Ce(h:Hp)(τ:Sh)(x:AV):Option (List τ.T):=match x with
 |.ai=>some []|.fz τ' L=>match e:τ'.eqv τ with|true=>some (j7 e L)|false=>none
 |.eg τ' _ L=>match e:τ'.eqv τ with|true=>some (j7 e L)|false=>none
 |.hd b _=>match h.tr.get b with
  |some (.arr τ' L _)=>match e:τ'.eqv τ with|true=>some (j7 e L)|false=>none
  |_=>none
 |.vw b aIU off len=>match h.tr.get b with
  |some (.arr τ' L _)=>match e:τ'.eqv τ,aIU.eqv τ with|true,true=>some (j7 e ((L.drop off).take len))|_,_=>none
  |_=>none
 |_=>none
def qj(X:Cx)(τ:Sh)(L:List τ.T)(V:Value):Prop:=∃a cap,V=.slice a L.length cap/\L.length<=cap/\∃cs,aY (Cs X.w X.out τ) L cs/\(L≠[]->∃b o c ty fr,a=some ⟨b,o,none⟩/\X.w.heap[b]?=some (.cells c ty fr)/\∀j u,cs[j]?=some u->c[o+j]?=some u)
theorem DZ{X:Cx}{τ τ':Sh}(h:τ.eqv τ'=true){L:List τ.T}{V:Value}(q:qj X τ L V):qj X τ' (j7 h L) V:=by have:=Sh.ej h;subst this;exact q
theorem js{α:Type}{a:List α}{i:Nat}{x:α}(h:a[i]?=some x):i<a.length:=by grind
theorem Zd{X:Cx}(H:ab X){τ:Sh}{x:AV}{L:List τ.T}{V:Value}(e:Ce X.h τ x=some L)(R:Rel X x V):qj X τ L V:=by
 unfold Ce at e;split at e<;>try cases e
 .rw[show V=_ from R];exact⟨none,0,rfl,pi _,[],rfl,fun h=>absurd rfl h⟩
 .split at e<;>try cases e
  rename_i he;refine DZ he ?_;obtain⟨a,len,cap,e1,e2,e3,e4⟩:=R;simp only[aFD,aFa]at e1;subst e1;subst e2;refine⟨a,cap,rfl,e3,?_⟩;rename_i τ' L';by_cases hL:L'=[]
  .subst hL;exact⟨[],rfl,fun h=>absurd rfl h⟩
  .obtain⟨b,o,Y,e5,e6,e7,c,ty,fr,e8,e9⟩:=e4 hL;exact⟨Y,e7,fun _=>⟨b,o,c,ty,fr,e5,e8,e9⟩⟩
 .split at e<;>try cases e
  rename_i he;refine DZ he ?_;obtain⟨⟨a,len,cap,e1,e2,e3,e4⟩,-⟩:=R;simp only[aFD,aFa]at e1;subst e1;subst e2;refine⟨a,cap,rfl,e3,?_⟩;rename_i τ' z' L';by_cases hL:L'=[]
  .subst hL;exact⟨[],rfl,fun h=>absurd rfl h⟩
  .obtain⟨b,o,Y,e5,e6,e7,c,ty,fr,e8,e9⟩:=e4 hL;exact⟨Y,e7,fun _=>⟨b,o,c,ty,fr,e5,e8,e9⟩⟩
 .rename_i b aIU;split at e<;>try cases e
  rename_i τ' L' ty hb;split at e<;>try cases e
  rename_i he;refine DZ he ?_;obtain⟨l,h1,_,h2⟩:=R;rw[h2 _ (jH hb)];cases l with
  |nil=>have hL:L'=[]:=H.obj b _ _ hb h1;subst hL;exact⟨none,0,rfl,pi _,[],rfl,fun h=>absurd rfl h⟩|cu _ _ _=>exact(H.obj b _ _ hb h1:False).elim|«at» x c=>
   obtain⟨cs,tail,q1,q2,q3,q4⟩:=H.obj b _ _ hb h1;refine⟨_,c,rfl,q4,cs,q2,fun _=>⟨x,0,_,ty,_,rfl,q1,?_⟩⟩
   grind
 .rename_i b aIU off len;split at e<;>try cases e
  rename_i τ' L' ty hb;split at e<;>try cases e
  rename_i he aHu;have:=Sh.ej aHu;subst this;have:=Sh.ej he;subst this;refine DZ he ?_;obtain⟨l,a,c,h1,rfl,h3,h4,h5,h6⟩:=R;have hle:=h6 _ (jH hb);have hlen:((L'.drop off).take len).length=len:=by simp;omega
  refine⟨a,c,by rw[hlen],by rw[hlen];exact h3,?_⟩;cases l with
  |nil=>
   have hL:L'=[]:=H.obj b _ _ hb h1;subst hL;have:len=0:=by simp only[GT]at hle;omega
   subst this;exact⟨[],by rw[are];rfl,fun h=>by rw[are]at h;exact absurd rfl h⟩
  |cu _ _ _=>exact(H.obj b _ _ hb h1:False).elim|«at» x k=>
   obtain⟨cs,tail,q1,q2,q3,q4⟩:=H.obj b _ _ hb h1;refine⟨_,aY.take (fun x c=>Cs.length) len (aY.drop (fun x c=>Cs.length) off q2),fun hne=>?_⟩;have hpos:0<len:=by
    rcases If len with q|q
    .subst q;rw[are]at hne;exact absurd rfl hne
    .exact q
   grind
theorem qj.run{P:Program}{X:Cx}{τ:Sh}{L:List τ.T}{V:Value}(h:qj X τ L V):∃cs,aY (Cs X.w X.out τ) L cs/\(∀w,(Builtin.lenOf V).run P w=.ok L.length w) /\
  ∀w,w.heap=X.w.heap->(Builtin.firstCells τ.size L.length V).run P w=.ok cs.toArray w:=by
 obtain⟨a,cap,rfl,_,cs,h1,h2⟩:=h;refine⟨cs,h1,fun w=>by simp[Builtin.lenOf],?_⟩;intro w hw;have hl:=aY.length (fun x c=>Cs.length) h1;by_cases hL:L=[]
 .subst hL;have hcs:cs=[]:=h1;subst hcs;cases a with|none=>simp[Builtin.firstCells]|some a=>simp[Builtin.firstCells,loadCells,loadCellsFrom]
 .obtain⟨b,o,c,ty,fr,rfl,h3,h4⟩:=h2 hL;rw[<-hw]at h3;rcases If cs.length with q|q
  .have:cs=[]:=ut q;subst this;simp only[Builtin.firstCells,loadCells];rw[<-hl];simp[loadCellsFrom]
  .have hc:=iY (h4 (cs.length-1) cs[cs.length-1] (bF aGl));simp only[Builtin.firstCells,loadCells];rw[Ev.run_loadCells (P:=P) h3 _ 0 #[] aGl];congr 2;apply aig
   grind
mutual
theorem Cs.one{w:World}{A:Nat->Prop}:∀{σ:Sh}{d:σ.T}{cs:kw},Cs w A σ d cs->∀V∈cs,Ev.lF V=true
 |.int k,n,cs,h,V,hV=>by rw[show cs=[.int k n]from h]at hV;simp at hV;subst hV;rfl|.bool,b,cs,h,V,hV=>by rw[show cs=[.bool b]from h]at hV;simp at hV;subst hV;rfl|.str,s,cs,h,V,hV=>by rw[show cs=[.string s]from h]at hV;simp at hV;subst hV;rfl|.agg l,d,cs,h,V,hV=>gj.one (l:=l) h V hV|.sl s,L,cs,⟨a,len,cap,h,_⟩,V,hV=>by rw[h]at hV;simp at hV;subst hV;rfl
theorem gj.one{w:World}{A:Nat->Prop}:∀{l:List Sh}{d:TL l}{cs:kw},gj w A l d cs->∀V∈cs,Ev.lF V=true
 |[],_,cs,h,V,hV=>by rw[show cs=[]from h]at hV;cases hV
 |s::l,d,cs,⟨c,r,e,h1,h2⟩,V,hV=>by
  rw[e]at hV;rcases At.1 hV with q|q
  .exact Cs.one h1 V q
  .exact gj.one h2 V q
end
theorem aY.one{w:World}{A:Nat->Prop}{τ:Sh}:∀{L:List τ.T}{cs:kw},aY (Cs w A τ) L cs->∀V∈cs,Ev.lF V=true
 |[],cs,h,V,hV=>by rw[h]at hV;cases hV
 |x::L,cs,⟨c,r,e,h1,h2⟩,V,hV=>by
  rw[e]at hV;rcases At.1 hV with q|q
  .exact Cs.one h1 V q
  .exact aY.one h2 V q
def room(by_ n:Nat):Bool:=both (decide ((2*n+192)*by_<=281474976710656)) (decide (n<=1099511627776))
def QM(h:Hp)(τ:Sh)(elem:TypeId)(su:AV):Option (List τ.T×Option Nat):=match su with
 |.ai=>some ([],none)|.hd b _=>match h.tr.get b with
  |some (.arr τ' L ty)=>match e:τ'.eqv τ,Nat.beq ty elem with|true,true=>some (j7 e L,some b)|_,_=>none
  |_=>none
 |.vw b aIU off len=>match off with
  |0=>match h.tr.get b with
   |some (.arr τ' L ty)=>match e:τ'.eqv τ,aIU.eqv τ,Nat.beq ty elem with|true,true,true=>some (j7 e (L.take len),some b)|_,_,_=>none
   |_=>none
  |_=>none
 |_=>none
def tO(tr:Tr aE):Option Nat->Option (Tr aE)
 |none=>some tr|some b=>Tr.set FT tr b none
def B9:TypeDesc->Bool|.slice _=>true|_=>false
def qQ(P:Program)(sh:TypeId->Option Sh)(h:Hp)(ts:Array TypeId)(su x:AV):Option (Bool×AV×Hp):=match nth ts.toList 0,nth ts.toList 1 with
 |some t0,some t1=>match P.underlying t0,P.underlying t1 with
  |some (.slice elem),some d1=>match B9 d1,sh elem,cP P elem,eS P elem,iw P elem with
   |true,some τ,some sz,some z,some by_=>match Nat.beq (cr z).length sz,Nat.beq τ.size sz,QM h τ elem su,Ce h τ x with
    |true,true,some (L,ob),some M=>match tO h.tr ob with
     |some tr=>match Tr.set FT tr h.next (some (.arr τ (L++M) elem))with|some tr=>some (room by_ (L++M).length,.hd h.next τ,⟨tr,h.next+1⟩)|none=>none
     |none=>none
    |_,_,_,_=>none
   |_,_,_,_,_=>none
  |_,_=>none
 |_,_=>none
structure Grown(X X':Cx)(τ:Sh)(N:List τ.T)(V:Value):Prop where
 H:ab X'
 E:aH X X'
 A:X'.A=X.A
 R:Rel X' (.hd X.h.next τ) V
theorem wa{X:Cx}{n:Nat}{τ:Sh}{N:List τ.T}{ty:TypeId}{l:Loc}(hg:X.h.tr.get n=some (.arr τ N ty))(hs:X.s n=some l):Rel X (.hd n τ) (l.slice N.length):=by refine⟨l,hs,by cases l<;>rfl,?_⟩;intro n' q;rw[jH hg]at q;cases q;rfl
theorem Grown.grow{X X₁:Cx}(H:ab X)(aGz:aH X X₁)(aGJ:ab X₁)(hn:X₁.h.next=X.h.next)(hw:X₁.w=X.w){τ:Sh}{N:List τ.T}{ty:TypeId}{tr:Tr aE}(ht:Tr.set FT X₁.h.tr X₁.h.next (some (.arr τ N ty))=some tr)
  {c d:Nat}{cs rest:kw}(hf:aY (Cs X.w X.out τ) N cs) (hr:rest.length=(c-N.length)*τ.size) (hc:N.length<=c) :
  Grown X ⟨aW X₁.s X₁.h.next (.at X₁.w.heap.size c),⟨tr,X₁.h.next+1⟩,{ X₁.w with drawn:=d,heap:=X₁.w.heap.push (.cells (cs++rest).toArray ty (0,0)) },X₁.A⟩ τ N (.slice (some ⟨X.w.heap.size,0,none⟩) N.length c):=by
 have Hd:=aGJ.drew d;have Ed:=aGz.trans (aH.drew X₁ d);have En:=Wh (c:=c) (ob:=.cells (cs++rest).toArray ty (0,0)) Hd ht;have E:=Ed.trans En;have hg:=Tr.bM FT X₁.h.tr X₁.h.next _ tr ht;have Hn:=ab.new Hd ht (by refine⟨cs,rest,aGn,hf.mono (fun x c q=>q.keep E.keeps),?_,hc⟩;rw[aY.length (fun x c=>Cs.length) hf,hr,<-So];congr 1;omega);refine⟨Hn,E,E.A,?_⟩;have:=wa (X:=⟨aW X₁.s X₁.h.next (.at X₁.w.heap.size c),⟨tr,X₁.h.next+1⟩,{ X₁.w with drawn:=d,heap:=X₁.w.heap.push (.cells (cs++rest).toArray ty (0,0)) },X₁.A⟩) (N:=N) (ty:=ty) (by grind) (cU _ _ _);rw[<-hn];simpa[Loc.slice,hw]using this
theorem Grown.fit{X:Cx}(H:ab X){b x c:Nat}{τ:Sh}{L N:List τ.T}{ty:TypeId}{aIA tr:Tr aE}(hb:X.h.tr.get b=some (.arr τ L ty))(hs:X.s b=some (.at x c))(hk:Tr.set FT X.h.tr b none=some aIA)
  (ht:Tr.set FT aIA X.h.next (some (.arr τ N ty))=some tr) {cs tail:kw}(hf:aY (Cs X.w X.out τ) N cs) (hr:cs.length+tail.length=c*τ.size) (hc:N.length<=c) :
  Grown X ⟨aW X.s X.h.next (.at x c),⟨tr,X.h.next+1⟩,cq X.w x (.cells (cs++tail).toArray ty (0,0)),X.A⟩ τ N (.slice (some ⟨x,0,none⟩) N.length c):=by
 have aHv:=Tr.bM FT X.h.tr b none aIA hk;have hg:=Tr.bM FT aIA X.h.next _ tr ht;have aU:=H.bound hb hs;have hbn:=H.lt b _ hb;have sn:X.s X.h.next=none:=by cases q:X.s X.h.next with|none=>rfl|some l=>have:=H.cJ _ _ q;omega
 have old:∀j l,X.s j=some l->aW X.s X.h.next (.at x c) j=some l:=by intro j l h;rw[cZ _ _ _ (by rintro rfl;rw[sn]at h;cases h)];exact h
 have alt:∀j o,tr.get j=some o->(j=X.h.next/\o=.arr τ N ty)\/(X.h.tr.get j=some o/\j≠b/\j≠X.h.next):=by grind
 have E:aH X ⟨aW X.s X.h.next (.at x c),⟨tr,X.h.next+1⟩,cq X.w x (.cells (cs++tail).toArray ty (0,0)),X.A⟩:=by
  refine⟨rfl,rfl,rfl,by rw[jr];exact pi _,old,?_,aGn,?_,?_,?_,?_,rfl⟩
  .intro i l hi h
   replace h:aW X.s X.h.next (.at x c) i=some l:=h
   rw[cZ _ _ _ aGl]at h;exact h
  .intro k hk hn;show(cq X.w x _).heap[k]?=_;rw[eO,rx];rintro⟨rfl,_⟩;exact hn ⟨b,_,_,hb,hs,rfl⟩
  .rintro k ⟨j,o,aHd,h1,h2,h5⟩;left
   replace h2:aW X.s X.h.next (.at x c) j=some aHd:=h2
   rcases alt j o h1 with⟨rfl,rfl⟩|⟨h1,h3,h4⟩
   .rw[cU]at h2;cases h2;exact⟨b,_,_,hb,hs,h5⟩
   .rw[cZ _ _ _ h4]at h2;exact⟨j,o,aHd,h1,h2,h5⟩
  .intro j n' hj h;obtain⟨o,h,hrow⟩:=kb h;rcases alt j _ h with⟨rfl,_⟩|⟨h1,h3,h4⟩
   .omega
   .show rowOf X.h.tr j=some n';rw[ji h1];exact hrow
  grind
 have Hn:ab ⟨aW X.s X.h.next (.at x c),⟨tr,X.h.next+1⟩,cq X.w x (.cells (cs++tail).toArray ty (0,0)),X.A⟩:=by
  refine⟨?_,?_,?_,?_,by rw[show(cq X.w x (.cells (cs++tail).toArray ty (0,0))).heap.size=X.w.heap.size from jr _ _ _];exact H.alt,?_⟩
  .intro j o l hj hl
   replace hl:aW X.s X.h.next (.at x c) j=some l:=hl
   rcases alt j o hj with⟨rfl,rfl⟩|⟨h1,h3,h4⟩
   .rw[cU]at hl;simp only[bo]at hl;subst hl;refine⟨cs,tail,?_,hf.mono (fun x c q=>q.keep E.keeps),hr,hc⟩;show(cq X.w x _).heap[x]?=_;rw[eO,BY ⟨rfl,aU⟩]
   .rw[cZ _ _ _ h4]at hl;refine(H.obj j o l h1 hl).ext (E.ei H) ?_;intro b' hb';show(cq X.w x _).heap[b']?=_;rw[eO,rx];rintro⟨rfl,_⟩;exact h3 (H.inj j b o _ l _ b' h1 hb hl hs hb' rfl)
  .intro j k o o' aHd aHe y hj hk e1 e2 f1 f2
   replace e1:aW X.s X.h.next (.at x c) j=some aHd:=e1
   replace e2:aW X.s X.h.next (.at x c) k=some aHe:=e2
   rcases alt j o hj with⟨rfl,rfl⟩|⟨h1,h3,h4⟩<;>rcases alt k o' hk with⟨rfl,rfl⟩|⟨p1,p3,p4⟩
   .rfl
   .rw[cU]at e1;cases e1;rw[cZ _ _ _ p4]at e2;exact absurd (H.inj k b o' _ aHe _ y p1 hb e2 hs f2 f1) p3
   .rw[cU]at e2;cases e2;rw[cZ _ _ _ h4]at e1;exact absurd (H.inj j b o _ aHd _ y h1 hb e1 hs f1 f2) h3
   .rw[cZ _ _ _ h4]at e1;rw[cZ _ _ _ p4]at e2;exact H.inj j k o o' aHd aHe y h1 p1 e1 e2 f1 f2
  .intro j o hj;rcases alt j o hj with⟨rfl,rfl⟩|⟨h1,h3,h4⟩
   .simp
   .have:=H.lt j o h1;simp only;omega
  .intro j l hl
   replace hl:aW X.s X.h.next (.at x c) j=some l:=hl
   by_cases q:j=X.h.next
   .simp[q]
   .rw[cZ _ _ _ q]at hl;have:=H.cJ j l hl;simp only;omega
  .intro j o aHd y hj e f
   replace e:aW X.s X.h.next (.at x c) j=some aHd:=e
   rcases alt j o hj with⟨rfl,rfl⟩|⟨h1,h3,h4⟩
   .rw[cU]at e;cases e;exact H.loc b _ _ y hb hs f
   .rw[cZ _ _ _ h4]at e;exact H.loc j o aHd y h1 e f
 refine⟨Hn,E,rfl,?_⟩;have:=wa (X:=⟨aW X.s X.h.next (.at x c),⟨tr,X.h.next+1⟩,cq X.w x (.cells (cs++tail).toArray ty (0,0)),X.A⟩) (n:=X.h.next) (τ:=τ) (N:=N) (ty:=ty) (l:=.at x c) (by rw[hg,BY rfl]) (cU _ _ _);simpa[Loc.slice]using this
theorem Grown.none{X X₁:Cx}(aGz:aH X X₁)(aGJ:ab X₁)(hn:X₁.h.next=X.h.next){τ:Sh}{ty:TypeId}{tr:Tr aE}(ht:Tr.set FT X₁.h.tr X₁.h.next (some (.arr τ [] ty))=some tr) :
  Grown X ⟨aW X₁.s X₁.h.next .nil,⟨tr,X₁.h.next+1⟩,X₁.w,X₁.A⟩ τ [] (.slice none 0 0):=by
 obtain⟨E,H⟩:=aGJ.void ht;have hg:=Tr.bM FT X₁.h.tr X₁.h.next _ tr ht;refine⟨H,aGz.trans E,aGz.A,?_⟩;have:=wa (X:=⟨aW X₁.s X₁.h.next .nil,⟨tr,X₁.h.next+1⟩,X₁.w,X₁.A⟩) (τ:=τ) (N:=[]) (ty:=ty) (by grind) (cU _ _ _);rw[<-hn];simpa[Loc.slice]using this
theorem DC{P:Program}{sh:TypeId->Option Sh}{X:Cx}(H:ab X){ts:Array TypeId}{ty:TypeId}{su x v:AV}{g:Bool}{h':Hp}(e:qQ P sh X.h ts su x=some (g,v,h'))(hgd:g=true){U Y:Value}(R:Rel X su U)(RY:Rel X x Y) :
  ∃X' V,(Builtin.append_ ts ty #[U,Y]).run P X.w=.ok V X'.w/\X'.h=h'/\X'.A=X.A/\ab X'/\aH X X'/\Rel X' v V:=by
 subst hgd;unfold qQ at e;split at e<;>try cases e
 rename_i t0 t1 ht0 ht1;have ht0:ts[0]?=some t0:=by rw[ct]at ht0;simpa using ht0
 have ht1:ts[1]?=some t1:=by rw[ct]at ht1;simpa using ht1
 split at e<;>try cases e
 rename_i elem d1 hu0 hu1;split at e<;>try cases e
 rename_i τ sz z by_ hd1 hsh hs hz hby;split at e<;>try cases e
 rename_i L ob M hzl hsz hbase hsrc;split at e<;>try cases e
 rename_i aIA hk;split at e<;>try cases e
 rename_i tr ht;simp only[bo,Do]at e;obtain⟨hroom,rfl,rfl⟩:=e;have hsz:=aK hsz;subst hsz;have hzl:=aK hzl;have hd:∀k,d1≠.int k:=by intro k q;subst q;simp[B9]at hd1
 obtain⟨info,hi,rfl⟩:∃info,P.info? elem=some info/\info.bytes=by_:=by unfold iw at hby;cases hi:P.info? elem<;>simp[hi]at hby;exact⟨_,rfl,hby⟩
 obtain⟨r1,r2⟩:=nz hroom;simp only[In,aO]at r1 r2;obtain⟨ms,hm,hlen,hfirst⟩:=(Zd H hsrc RY).run (P:=P);have bare:∀X₁:Cx,aH X X₁->ab X₁->X₁.h=⟨aIA,X.h.next⟩->X₁.w=X.w->L=[]->U=.slice none 0 0 ->
   ∃X' V,(Builtin.append_ ts ty #[U,Y]).run P X.w=.ok V X'.w/\X'.h=⟨tr,X.h.next+1⟩/\X'.A=X.A/\ab X'/\aH X X'/\Rel X' (.hd X.h.next τ) V:=by
  intro X₁ aGz aGJ hX hw hL hU;subst hL;subst hU;rcases If M.length with q|q
  .have:M=[]:=ut q;subst this;have G:=Grown.none aGz aGJ (by rw[hX]) (τ:=τ) (ty:=elem) (tr:=tr) (by rw[hX];exact ht);refine⟨_,_,?_,by rw[hX],G.A,G.H,G.E,G.R⟩;have:=Ni (ty:=ty) ht0 ht1 hu0 hu1 hd hs (hlen X.w) (hfirst X.w rfl);rw[this];simp[hw]
  .obtain⟨c,hc,d,rest,hr,hrun⟩:=x9 (ty:=ty) (X:=X) (base:=none) (sLen:=0) (sCap:=0) (old:=[]) ht0 ht1 hu0 hu1 hd hs hz hi hzl (hlen X.w) aGl (by simpa using r1) (by simpa using r2) (fun d=>by simp[Builtin.firstCells]) (fun d=>hfirst _ rfl);have G:=Grown.grow (N:=M) (ty:=elem) (tr:=tr) (d:=d) H aGz aGJ (by rw[hX]) hw (by rw[hX];exact ht) hm (by simpa using hr) (by simpa using hc);refine⟨_,_,?_,by rw[hX],G.A,G.H,G.E,G.R⟩;rw[hrun];simp[hw]
 have cC:∀(b x c:Nat) (aGL:List τ.T) (n:Nat),X.h.tr.get b=some (.arr τ aGL elem)->X.s b=some (.at x c)->Tr.set FT X.h.tr b none=some aIA->L=aGL.take n->n<=aGL.length->U=.slice (some ⟨x,0,none⟩) n c ->
   ∃X' V,(Builtin.append_ ts ty #[U,Y]).run P X.w=.ok V X'.w/\X'.h=⟨tr,X.h.next+1⟩/\X'.A=X.A/\ab X'/\aH X X'/\Rel X' (.hd X.h.next τ) V:=by
  intro b x c aGL n hb hsb hkb hL hn hU;subst hU;have hLl:L.length=n:=by rw[hL];simp;omega
  obtain⟨cs,tail,q1,q2,q3,q4⟩:=H.obj b _ _ hb hsb;have hcl:=aY.length (fun x c=>Cs.length) q2;have hml:=aY.length (fun x c=>Cs.length) hm;have htk:aY (Cs X.w X.out τ) L (cs.take (n*τ.size)):=by rw[hL];exact aY.take (fun x c=>Cs.length) n q2
  have htl:=aY.length (fun x c=>Cs.length) htk;have hnm:n*τ.size<=cs.length:=by rw[hcl];exact UV _ hn
  have hall:aY (Cs X.w X.out τ) (L++M) (cs.take (n*τ.size)++ms):=htk.append hm;by_cases hfit:n+M.length<=c
  .have hfc:n*τ.size+ms.length<=(cs++tail).length:=by rw[aO,q3,hml,<-So];exact UV _ hfit
   obtain⟨ds,hds,hst⟩:=kj (P:=P) (off:=n*τ.size) ms 0 X.w _ q1 (by simpa using hfc) (fun V hV=>aY.one hm V hV);have hdsE:ds=(cs.take (n*τ.size)++ms++(cs++tail).drop (n*τ.size+ms.length)).toArray:=by apply Rd.1;rw[hds];simp only[aux];rw[aEZ hnm]
   subst hdsE;have G:=Grown.fit (N:=L++M) H hb hsb hkb ht hall (tail:=(cs++tail).drop (n*τ.size+ms.length)) (by simp only[aO,aFu,fD]at hfc |-;omega) (by simp;omega);refine⟨_,_,?_,rfl,G.A,G.H,G.E,G.R⟩;have:=Ec (ty:=ty) ht0 ht1 hu0 hu1 hd hs (hlen X.w) hfit (hfirst X.w rfl) (b:=x) (off:=0) (by simpa using hst);rw[this];simp[hLl]
  .have hold:∀d,(Builtin.firstCells τ.size n (.slice (some ⟨x,0,none⟩) n c)).run P { X.w with drawn:=d }=.ok (cs.take (n*τ.size)).toArray { X.w with drawn:=d }:=by intro d;simp only[Builtin.firstCells,loadCells];rw[Ev.run_loadCells (P:=P) (w:={ X.w with drawn:=d }) q1 _ 0 #[] (by simp;omega)];congr 2;simp only[aux,Nm,List.drop_zero];rw[aEZ hnm]
   obtain⟨c',hc',d,rest,hr,hrun⟩:=x9 (ty:=ty) (X:=X) (base:=some ⟨x,0,none⟩) (sLen:=n) (sCap:=c) ht0 ht1 hu0 hu1 hd hs hz hi hzl (hlen X.w) aGl (by rw[<-hLl];exact r1) (by rw[<-hLl];exact r2) hold (fun d=>hfirst _ rfl);obtain⟨aGz,aGJ⟩:=H.kill hsb hkb;have G:=Grown.grow (N:=L++M) (ty:=elem) (tr:=tr) (d:=d) (cs:=cs.take (n*τ.size)++ms) (rest:=rest) (c:=c') H aGz aGJ rfl rfl ht hall (by rw[aO,hLl];exact hr) (by rw[aO,hLl];exact hc');refine⟨_,_,?_,rfl,G.A,G.H,G.E,G.R⟩;rw[hrun];simp[hLl]
 unfold QM at hbase;split at hbase<;>try cases hbase
 .simp only[tO,bo]at hk;subst hk;exact bare X (aH.refl X) H rfl rfl rfl R
 .rename_i b aIU;split at hbase<;>try cases hbase
  rename_i τ' aGL ty' hb;split at hbase<;>try cases hbase
  rename_i he hty;have hty:=aK hty;subst hty;have:=Sh.ej he;subst this;simp only[tO]at hk;obtain⟨l,h1,_,h2⟩:=R;have hV:=h2 _ (jH hb);cases l with
  |nil=>have hL:aGL=[]:=H.obj b _ _ hb h1;subst hL;obtain⟨aGz,aGJ⟩:=H.kill h1 hk;exact bare _ aGz aGJ rfl rfl rfl hV
  |cu _ _ _=>exact(H.obj b _ _ hb h1:False).elim|«at» x c=>exact cC b x c aGL aGL.length hb h1 hk (by rw[gb];rfl) (pi _) hV
 .rename_i b aIU off len;split at hbase<;>try cases hbase
  split at hbase<;>try cases hbase
  rename_i τ' aGL ty' hb;split at hbase<;>try cases hbase
  rename_i he aHu hty;have hty:=aK hty;subst hty;have:=Sh.ej aHu;subst this;have:=Sh.ej he;subst this;simp only[tO]at hk;obtain⟨l,a,c,h1,rfl,h3,h4,h5,h6⟩:=R;have hV:=h5 rfl;have hle:=h6 _ (jH hb);cases l with
  |nil=>
   have hL:aGL=[]:=H.obj b _ _ hb h1;subst hL;obtain⟨aGz,aGJ⟩:=H.kill h1 hk;have:len=0:=by simp only[GT]at hle;omega
   subst this;exact bare _ aGz aGJ rfl rfl rfl hV
  |cu _ _ _=>exact(H.obj b _ _ hb h1:False).elim|«at» x k=>exact cC b x k aGL len hb h1 hk rfl aGl hV
def vK(h:Hp)(τ:Sh):Nat->List AV->Option (List τ.T×Hp)
 |0,l=>match l with|[]=>some ([],h)|_=>none
 |n+1,l=>match eu true h τ l with
  |some (x,r,h)=>match vK h τ n r with|some (xs,h)=>some (x::xs,h)|none=>none
  |none=>none
theorem UL{τ:Sh}:∀{n:Nat}{l:List AV}{X:Cx}{L:List τ.T}{h':Hp}{cs:kw},ab X->vK X.h τ n l=some (L,h')->bm X l cs ->
  fb X h'/\L.length=n/\aY (Cs X.w (Cx.out ⟨X.s,h',X.w,X.A⟩) τ) L cs
 |0,l,X,L,h',cs,H,e,R=>by simp only[vK]at e;split at e<;>cases e;exact⟨fb.refl H,rfl,R⟩
 |n+1,l,X,L,h',cs,H,e,R=>by
  simp only[vK]at e;split at e<;>try cases e
  rename_i x r h₁ hf;split at e<;>cases e;rename_i xs hx;obtain⟨F,c,t,rfl,q1,q2⟩:=qU H hf R;obtain⟨aGG,k1,k2⟩:=UL F.H hx q2;exact⟨F.trans aGG,by simp[k1],c,t,rfl,q1.keep aGG.E.keeps,k2⟩
def Ct(h:Hp):AV->Option (AV×Hp)
 |.vw b τ off len=>match off with
  |0=>match h.tr.get b with
   |some o=>match o with
    |.cells vs _=>match Tr.set FT h.tr b none with
     |some tr=>match vK ⟨tr,h.next⟩ τ len vs with|some (L,h')=>some (.fz τ L,h')|none=>none
     |none=>none
    |_=>none
   |none=>none
  |_=>none
 |_=>none
theorem Vp{X:Cx}(H:ab X){x v:AV}{h':Hp}(e:Ct X.h x=some (v,h')){V:Value}(R:Rel X x V):fb X h'/\Rel ⟨X.s,h',X.w,X.A⟩ v V:=by
 unfold Ct at e;split at e<;>try cases e
 rename_i b τ off len;split at e<;>try cases e
 split at e<;>try cases e
 rename_i o hb;split at e<;>try cases e
 rename_i vs ty;split at e<;>try cases e
 rename_i tr ht;split at e<;>cases e;rename_i L hr;obtain⟨l,a,c,g1,rfl,g3,g4,g5,g6⟩:=R;obtain⟨x,k,cs,rfl,q1,q2⟩:=H.obj b _ l hb g1;have F:=fb.kill H g1 ht;obtain⟨aGG,k1,k2⟩:=UL (X:=⟨X.s,⟨tr,X.h.next⟩,X.w,X.A⟩) F.H hr (q2.ext (F.E.ei H));have aGH:=F.trans aGG;refine⟨aGH,a,len,c,rfl,k1.symm,g3,fun hne=>?_⟩;have hpos:0<len:=by grind
 obtain⟨x',k',e1,e2⟩:=g4 hpos;cases e1;refine⟨x,0,cs,by grind,?_,k2,_,ty,_,q1,fun j u hu=>by grind⟩;rintro(r|⟨j,o',c',p1,p2,p3⟩)
 .exact H.loc b _ _ x hb g1 rfl r
 .have p1':=aGG.sub j o' p1;have hg:=Tr.bM FT X.h.tr b none tr ht j
  replace p1':tr.get j=some o':=p1'
  rw[hg]at p1';by_cases hj:j=b
  .rw[BY hj]at p1';cases p1'
  .rw[rx hj]at p1';exact hj (H.inj j b o' _ c' _ x p1' hb p2 g1 p3 rfl)
def NY(P:Program)(sh:TypeId->Option Sh)(h:Hp)(ts:Array TypeId)(su x:AV):Option (Bool×AV×Hp):=match qQ P sh h ts su x with|some r=>some r|none=>match Ct h x with|some (x',h')=>qQ P sh h' ts su x'|none=>none
theorem arA{P:Program}{sh:TypeId->Option Sh}{X:Cx}(H:ab X){ts:Array TypeId}{ty:TypeId}{su x v:AV}{g:Bool}{h':Hp}(e:NY P sh X.h ts su x=some (g,v,h'))(hgd:g=true){U Y:Value}(R:Rel X su U)(RY:Rel X x Y) :
  ∃X' V,(Builtin.append_ ts ty #[U,Y]).run P X.w=.ok V X'.w/\X'.h=h'/\X'.A=X.A/\ab X'/\aH X X'/\Rel X' v V:=by
 unfold NY at e;split at e
 .rename_i r hr;cases e;exact DC H hr hgd R RY
 .split at e<;>try cases e
  rename_i x' h₁ hx;obtain⟨F,Q⟩:=Vp H hx RY;obtain⟨X',V,a1,a2,a3,a4,a5,a6⟩:=DC F.H e hgd (R.ext (F.E.ei H)) Q;exact⟨X',V,a1,a2,a3,a4,F.E.trans a5,a6⟩
open Go.Proofs.YtjflbmpepamfjaaGreat.Ev (Tr Tr.bM nth ct takeN eh fu fK cq eO jr still gW run_underlying run_typeInfo run_sizeOf cP dR places pH iw nZ lD kj uS Aw nf)
def gR:Nat->kw->kw
 |0,_=>[]|n+1,z=>z++gR n z
theorem DE(n:Nat)(z:kw):(gR n z).length=n*z.length:=by induction n with|zero=>simp[gR]|succ n ih=>simp[gR,ih,So,Nat.add_comm]
theorem afu(n m:Nat)(z:kw):gR (n+m) z=gR n z++gR m z:=by induction n with|zero=>simp[gR]|succ n ih=>rw[show n+1+m=(n+m)+1 by omega];simp[gR,ih]
theorem Vt(z:kw):∀(n i:Nat),i<n*z.length->(gR n z)[i]?=z[i % z.length]?
 |0,i,h=>by omega|n+1,i,h=>by
  simp only[gR];rcases ww i z.length with q|q
  .rw[Fr aGl,aFJ q]
  .rw[IO aGl,Vt z n (i-z.length) (by grind)];congr 1;rw[<-aFY q]
theorem Zy9(n k:Nat)(zero:Array Value)(hk:k=n*zero.size):((Array.range k).map (zero[· % zero.size]!))=(gR n zero.toList).toArray:=by
 apply Rd.1;apply aig;intro i;have hs:zero.toList.length=zero.size:=PP;simp;rcases ww i k with q|q
 .have hz0:0<zero.size:=by grind
  rw[aFH q,Vt _ n i (by grind)];have hm:=Nat.mod_lt i hz0;simp[hs,hm]
 .rw[BT (by grind),BT (by rw[DE,hs];omega)];rfl
theorem aY.rep{α:Type}{R:α->kw->Prop}{x:α}{z:kw}(h:R x z):∀n,aY R (List.replicate n x) (gR n z)
 |0=>rfl|n+1=>⟨z,gR n z,rfl,h,aY.rep h n⟩
theorem Zy2{P:Program}{t:TypeId}{z:AV}{k:Nat}{w:World}{X:Cx}(hz:eS P t=some z) :
  ∃zero:Array Value,((if k=0 then pure #[]else do pure (<- zeroValue t).cells).run P w=.ok zero w)/\(k≠0->∃Z,zero=Z.cells/\Rel X z Z):=by
 by_cases hk:k=0
 .exact⟨#[],by simp[hk],fun h=>absurd hk h⟩
 .obtain⟨Z,h1,h2⟩:=iu hz X w;refine⟨Z.cells,?_,fun _=>⟨Z,rfl,h2⟩⟩;rw[rx hk];simp[h1]
def iG(h:Hp)(τ:Sh):Nat->List AV->Option (List τ.T)
 |0,l=>match l with|[]=>some []|_=>none
 |n+1,l=>match eu false h τ l with
  |some (x,r,_)=>match iG h τ n r with|some xs=>some (x::xs)|none=>none
  |none=>none
theorem UK{X:Cx}(H:ab X){τ:Sh}:∀{n:Nat}{l:List AV}{L:List τ.T}{cs:kw},iG X.h τ n l=some L->bm X l cs->L.length=n/\aY (Cs X.w X.out τ) L cs
 |0,l,L,cs,e,R=>by simp only[iG]at e;split at e<;>cases e;exact⟨rfl,R⟩
 |n+1,l,L,cs,e,R=>by
  simp only[iG]at e;split at e<;>try cases e
  rename_i x r h₁ hf;split at e<;>try cases e
  rename_i xs hx;have hs:=Eg hf;subst hs;obtain⟨F,c,t,rfl,q1,q2⟩:=qU H hf R;obtain⟨k1,k2⟩:=UK H hx q2;exact⟨by simp[k1],c,t,rfl,q1,k2⟩
def K7:Nat->List AV->List AV
 |0,_=>[]|n+1,z=>z++K7 n z
theorem Vu{X:Cx}{z:List AV}{Z:kw}(R:bm X z Z):∀n,bm X (K7 n z) (gR n Z)
 |0=>rfl|n+1=>R.append (Vu R n)
def va(h:Hp)(n:Nat)(elem:TypeId)(len sz:Nat)(r:List AV):Option Sh->Option (Bool×aE×AV)
 |some τ=>match Nat.beq τ.size sz with
  |true=>match iG h τ len r with|some L=>some (true,.arr τ L elem,.hd n τ)|none=>some (true,.cells r elem,.vw n τ 0 len)
  |false=>none
 |none=>some (true,.cells r elem,.vw n .bool 0 len)
def ja(P:Program)(sh:TypeId->Option Sh)(T:Tr AV)(h:Hp)(n:Nat):Op->Option (Bool×aE×AV)
 |.alloc elem=>match eS P elem with|some z=>some (true,.cells (cr z) elem,.ptr n 0)|none=>none
 |.box elem x=>match aQ T x with|some u=>some (true,.cells (cr u) elem,.ptr n 0)|none=>none
 |.makeSlice t l c=>match P.underlying t,aQ T l,aQ T c with
  |some (.slice elem),some (.int _ li),some (.int _ ci)=>match sh elem,iw P elem,cP P elem,eS P elem with
   |some τ,some by_,some sz,some z=>match Nat.beq τ.size sz,Nat.beq (cr z).length sz,Nat.blt 0 by_,Nat.blt 0 sz,pT τ (cr z)with|true,true,true,true,some []=>some (both (decide (0<=li)) (both (decide (li<=ci)) (decide ((by_:Int)*ci<=281474976710656))),.arr τ (List.replicate li.toNat τ.zero) elem,.hd n τ)|_,_,_,_,_=>none
   |_,_,_,_=>none
  |_,_,_=>none
 |.buildSlice t len parts=>match P.underlying t,gX T parts.toList with
  |some (.slice elem),some ps=>match cP P elem,eS P elem with
   |some sz,some z=>match Nat.ble (len*sz) 16777216,Nat.beq (cr z).length sz,jf (fun i=>some (i*sz,sz)) (K7 len (cr z)) ps with|true,true,some r=>va h n elem len sz r (sh elem)|_,_,_=>none
   |_,_=>none
  |_,_=>none
 |.makeMap t r=>match r,P.underlying t with
  |none,some (.map kt et)=>match P.underlying kt,sh et with|some (.int κ),some σ=>some (true,.map κ σ [],.mp n)|_,_=>none
  |_,_=>none
 |_=>none
structure Made(X X':Cx)(n:Nat)(c:Nat)(ob:aE)(ob':Obj):Prop where
 E:gw X X'
 w:X'.w.heap=X.w.heap.push ob'
 s:X'.s n=some (.at X.w.heap.size c)
 o:X'.h.tr.get n=some ob
theorem yj{P:Program}{sh:TypeId->Option Sh}{T:Tr AV}{n:Nat}{o:Oper}{g:Bool}{ob:aE}{v:AV}{X:Cx}(H:ab X)(e:ja P sh T X.h n o.op=some (g,ob,v))(hg:g=true){a:Act}(hO:gF X T a o.op) :
  ∃c ob' V,(execOp a.eval o).run P X.w=.ok (.value V) { X.w with heap:=X.w.heap.push ob' }/\∀X',Made X X' n c ob ob'->cj X' (.at X.w.heap.size c) ob/\Rel X' v V:=by
 subst hg;have top:∀{X':Cx}{c:Nat}{ob:aE}{ob':Obj},Made X X' n c ob ob'->X'.w.heap[X.w.heap.size]?=some ob':=by intro X' c ob ob' M;rw[M.w];simp
 unfold ja at e;split at e
 .rename_i elem ho;split at e<;>try cases e
  rename_i z hz;obtain⟨Z,h1,h2⟩:=iu hz X X.w;refine⟨0,.cells Z.cells elem (0,0),.pointer (some ⟨X.w.heap.size,0,none⟩),?_,fun X' M=>⟨⟨_,0,Z.cells.toList,rfl,by rw[top M],(kK h2).ext M.E⟩,_,_,M.s,rfl⟩⟩;unfold execOp;rw[ho];simp only[Instr.alloc,Sem.run_bind,h1,Result.andThen_ok,newVar,newRow,run_newObj,Sem.run_pure]
 .rename_i elem x ho;split at e<;>try cases e
  rename_i u hu;rw[ho]at hO;have hx:=hO x (by simp[Op.operands]) u hu;refine⟨0,.cells (a.eval x).cells elem (0,0),.pointer (some ⟨X.w.heap.size,0,none⟩),?_,fun X' M=>⟨⟨_,0,(a.eval x).cells.toList,rfl,by rw[top M],(kK hx).ext M.E⟩,_,_,M.s,rfl⟩⟩;unfold execOp;rw[ho];simp only[Instr.box,Sem.run_bind,Result.andThen_ok,newVar,newRow,run_newObj,Sem.run_pure]
 .rename_i t l c ho;rw[ho]at hO;split at e<;>try cases e
  rename_i elem kl li kc ci hu hl hc;have hl':=hO l (by simp[Op.operands]) _ hl;have hc':=hO c (by simp[Op.operands]) _ hc;split at e<;>try cases e
  rename_i τ by_ sz z hsh hb hs hz;split at e<;>try cases e
  rename_i q1 q2 q3 q4 q5;simp only[bo,Do]at e;obtain⟨hgd,rfl,rfl⟩:=e;have q1:=aK q1;subst q1;have q2:=aK q2;rw[acl]at q3 q4;obtain⟨g1,g2⟩:=nz hgd;obtain⟨g2,g3⟩:=nz g2;simp only[In]at g1 g2 g3;obtain⟨info,hi,rfl⟩:∃info,P.info? elem=some info/\info.bytes=by_:=by unfold iw at hb;cases hi:P.info? elem<;>simp[hi]at hb;exact⟨_,rfl,hb⟩
  obtain⟨l',rfl⟩:=Fd g1;obtain⟨c',rfl⟩:=Fd (show 0<=ci by omega);have hcb:c'<=281474976710656:=by have h1:(info.bytes:Int)*(c':Int)=((info.bytes*c':Nat):Int):=(Int.natCast_mul _ _).symm;rw[h1]at g3;have h2:=UV c' q3;omega
  have hwl:IntKind.i64.wrap (l':Int)=l':=IntWalk.i64_in _ aGl;have hwc:IntKind.i64.wrap (c':Int)=c':=IntWalk.i64_in _ aGl;obtain⟨zero,hz1,hz2⟩:=Zy2 (k:=c'*τ.size) (X:=X) (w:=X.w) hz;have hck:c'*τ.size=0->c'=0:=fun h=>by rcases Nat.mul_eq_zero.1 h with r|r<;>omega
  obtain⟨Z,hZ0,RZ⟩:=iu hz X X.w;have hzc:(Array.range (c'*τ.size)).map (zero[· % zero.size]!)=(gR c' Z.cells.toList).toArray:=by
   by_cases hk:c'*τ.size=0
   .have:=hck hk;subst this;simp[gR]
   .obtain⟨Z',rfl,RZ'⟩:=hz2 hk;rw[rx hk]at hz1;simp only[Sem.run_bind,hZ0,Result.andThen_ok,Sem.run_pure,WF,aFa]at hz1;rw[<-hz1];exact Zy9 c' _ _ (by rw[<-PP,(kK RZ).length,q2])
  have hzl:Z.cells.toList.length=τ.size:=by rw[(kK RZ).length,q2]
  refine⟨c',.cells (gR c' Z.cells.toList).toArray elem (0,0),.slice (some ⟨X.w.heap.size,0,none⟩) l' c',?_,fun X' M=>⟨?_,?_⟩⟩
  .unfold execOp;rw[ho];simp only[show a.eval l=_ from hl',show a.eval c=_ from hc'];have hnot:¬(((decide ((l':Int)<0\/False)||false)=true)):=aGn
   have h1:decide ((c':Int)<0)=false:=jG aGl;have h2:decide ((info.bytes:Int)*(c':Int) > 2^48)=false:=jG (by show ¬((281474976710656:Int)<(info.bytes:Int)*(c':Int));omega);have h3:decide ((l':Int)<0)=false:=jG aGl;have h4:decide ((l':Int) > (c':Int))=false:=jG aGl;simp only[Instr.makeSlice,asInt,asIntOf,Sem.run_bind,run_underlying hu,Result.andThen_ok,Sem.run_pure,run_typeInfo hi,hwl,hwc];rw[rx (by rw[h1,h2,h3,h4];decide)];simp only[Id,run_askRoom,Result.andThen_ok,run_sizeOf hs,Sem.run_bind,Sem.run_pure];by_cases hk:c'*τ.size=0
   .rw[BY hk]at hz1 |-;simp only[Sem.run_pure,WF,aFa]at hz1;subst hz1;simp only[Sem.run_bind,Sem.run_pure,Result.andThen_ok,newRow,run_newObj,hzc]
   .rw[rx hk]at hz1 |-;simp only[Sem.run_bind,hZ0,Result.andThen_ok,Sem.run_pure,WF,aFa]at hz1 |-;subst hz1;simp only[newRow,Sem.run_bind,run_newObj,Sem.run_pure,Result.andThen_ok,hzc]
  .obtain⟨zc,zr,e1,e2,e3⟩:=Ny (X:=X) (w:=X'.w) (A:=X'.out) q5 (kK RZ);have:zr=[]:=e3;subst this;rw[dJ]at e1;refine⟨gR l' Z.cells.toList,gR (c'-l') Z.cells.toList,?_,?_,?_,by simp;omega⟩
   .rw[top M,<-afu,show l'+(c'-l')=c' by omega]
   .rw[e1,Id];exact aY.rep e2 l'
   .rw[DE,DE,hzl,<-So];congr 1;omega
  .have:=wa M.o M.s;simpa[Loc.slice]using this
 .rename_i t len parts ho;rw[ho]at hO;split at e<;>try cases e
  rename_i elem ps hu hps;split at e<;>try cases e
  rename_i sz z hs hz;split at e<;>try cases e
  rename_i r q2 q3 hr;have q2:=qr q2;have q3:=aK q3;have hmem:∀x∈parts.toList.map (·.2),x∈(Op.buildSlice t len parts).operands:=by intro x hx;simp only[Op.operands,aFt];exact hx
  have hP:=Nt hps (fun x hx=>hO x (hmem x hx));obtain⟨zero,hz1,hz2⟩:=Zy2 (k:=len*sz) (X:=X) (w:=X.w) hz;obtain⟨Z,hZ0,RZ⟩:=iu hz X X.w;have hzl:Z.cells.toList.length=sz:=by rw[(kK RZ).length,q3]
  have hzc:(Array.range (len*sz)).map (zero[· % zero.size]!)=(gR len Z.cells.toList).toArray:=by
   by_cases hk:len*sz=0
   .have:gR len Z.cells.toList=[]:=ut (by rw[DE,hzl];exact hk);rw[this,hk];simp
   .obtain⟨Z',rfl,RZ'⟩:=hz2 hk;rw[rx hk]at hz1;simp only[Sem.run_bind,hZ0,Result.andThen_ok,Sem.run_pure,WF,aFa]at hz1;rw[<-hz1];exact Zy9 len _ _ (by rw[<-PP,hzl])
  obtain⟨rs,f1,f2⟩:=DX _ _ _ _ _ _ hr hP (Vu (kK RZ) len);have hrun:(execOp a.eval o).run P X.w=.ok (.value (.slice (some ⟨X.w.heap.size,0,none⟩) len len)) { X.w with heap:=X.w.heap.push (.cells rs.toArray elem (0,0)) }:=by
   unfold execOp;rw[ho];have hp:((parts.map fun x=>(x.1,a.eval x.2)).toList)=parts.toList.map fun x=>(x.1,a.eval x.2):=aGn
   simp only[Instr.buildSlice,Sem.run_bind,run_underlying hu,Result.andThen_ok,run_sizeOf hs];rw[rx aGl];simp only[Sem.run_pure,Result.andThen_ok,Sem.run_bind];rw[hp];by_cases hk:len*sz=0
   .rw[BY hk]at hz1 |-;simp only[Sem.run_pure,WF,aFa]at hz1;subst hz1;simp only[Sem.run_bind,Sem.run_pure,Result.andThen_ok,hzc,f1,newRow,run_newObj]
   .rw[rx hk]at hz1 |-;simp only[Sem.run_bind,hZ0,Result.andThen_ok,Sem.run_pure,WF,aFa]at hz1 |-;subst hz1;simp only[hzc,f1,newRow,Sem.run_bind,run_newObj,Sem.run_pure,Result.andThen_ok]
  have wr:∀(X':Cx) (τ:Sh),Made X X' n len (.cells r elem) (.cells rs.toArray elem (0,0))->cj X' (.at X.w.heap.size len) (.cells r elem)/\Rel X' (.vw n τ 0 len) (.slice (some ⟨X.w.heap.size,0,none⟩) len len):=by intro X' τ M;refine⟨⟨_,len,rs,rfl,by rw[top M],f2.ext M.E⟩,_,_,_,M.s,rfl,pi _,fun _=>⟨_,_,rfl,aGn⟩,fun _=>rfl,fun n' q=>?_⟩;rw[ji M.o]at q;cases q
  unfold va at e;split at e
  .rename_i τ hsh;split at e<;>try cases e
   rename_i q1;have q1:=aK q1;subst q1;split at e
   .rename_i L hL;cases e;obtain⟨k1,k2⟩:=UK H hL f2;refine⟨len,.cells rs.toArray elem (0,0),_,hrun,fun X' M=>⟨?_,?_⟩⟩
    .refine⟨rs,[],?_,k2.mono (fun x c q=>q.keep M.E.K),?_,by rw[k1];exact pi _⟩
     .rw[top M];simp
     .rw[aY.length (fun x c=>Cs.length) k2,k1];simp
    .have:=wa M.o M.s;rw[k1]at this;simpa[Loc.slice]using this
   .cases e;exact⟨len,.cells rs.toArray elem (0,0),_,hrun,fun X' M=>wr X' _ M⟩
  .cases e;exact⟨len,.cells rs.toArray elem (0,0),_,hrun,fun X' M=>wr X' _ M⟩
 .rename_i t r ho;split at e<;>try cases e
  rename_i kt et hu;split at e<;>cases e;rename_i κ σ hk hs;refine⟨0,.map #[] 0,.map (some X.w.heap.size),?_,fun X' M=>⟨⟨_,0,#[],0,rfl,top M,[],.nil,rfl,.nil,aGn,.nil⟩,_,_,M.s,rfl⟩⟩;unfold execOp;rw[ho];simp only[aFC,Instr.makeMap,Sem.run_bind,run_newObj,Result.andThen_ok,Sem.run_pure]
 .cases e
open Go.Proofs.YtjflbmpepamfjaaGreat.Ev (Tr nth ct run_underlying)
def Ot(P:Program)(t:TypeId)(u v:AV):Option Bool:=match P.underlying t with
 |some d=>match d with
  |.int _=>match u,v with
   |.int k a,.int k' b=>match j9 k k' with|true=>some (decide (a=b))|false=>none
   |_,_=>none
  |.bool=>match u,v with|.bool a,.bool b=>some (a == b)|_,_=>none
  |.string=>match u,v with|.str a,.str b=>some (a == b)|_,_=>none
  |_=>none
 |none=>none
theorem af4{P:Program}{t:TypeId}{u v:AV}{b:Bool}(e:Ot P t u v=some b){X:Cx}{U V:Value}(h1:Rel X u U)(h2:Rel X v V)(n:Nat)(w:World):(Op.equalIn (n+1) t U V).run P w=.ok b w:=by
 unfold Ot at e;split at e<;>try cases e
 rename_i d hd;have hr:=run_underlying hd w;split at e
 .split at e<;>try cases e
  rename_i k a k' b;split at e<;>cases e;rename_i hk;have:=my hk;subst this;rw[show U=_ from h1,show V=_ from h2];simp only[Op.equalIn,Sem.run_bind,hr,Result.andThen_ok,aFx,Sem.run_pure];rfl
 .split at e<;>cases e;rw[show U=_ from h1,show V=_ from h2];simp only[Op.equalIn,Sem.run_bind,hr,Result.andThen_ok,aFx,Sem.run_pure]
 .split at e<;>cases e;rw[show U=_ from h1,show V=_ from h2];simp only[Op.equalIn,Sem.run_bind,hr,Result.andThen_ok,aFx,Sem.run_pure]
 .cases e
def wV(P:Program)(l m:List AV):List Field->Option Bool
 |[]=>some true|f::fs=>match f.name == "_" with
  |false=>match nC P f.type l f.offset,nC P f.type m f.offset with
   |some u,some v=>match Ot P f.type u v with
    |some b=>match wV P l m fs with|some c=>some (both b c)|none=>none
    |none=>none
   |_,_=>none
  |true=>none
theorem VU{P:Program}{l m:List AV}{X:Cx}{xs ys:kw}(h1:bm X l xs)(h2:bm X m ys)(n:Nat)(w:World):∀{fs:List Field}{b:Bool},wV P l m fs=some b ->
  (forIn fs ((none:Option Bool),()) fun f s=>if f.name≠"_" then do
   let a <- part f.type xs.toArray f.offset
   let c <- part f.type ys.toArray f.offset
   let r <- Op.equalIn (n+1) f.type a c
   if(!r)=true then pure (ForInStep.done (some false,()))else pure (ForInStep.yield (none,()))
   else pure (ForInStep.yield (none,())):Sem (Option Bool×Unit)).run P w =
  .ok (if b then(none,())else(some false,())) w
 |[],b,e=>by simp only[wV,bo]at e;subst e;simp|f::fs,b,e=>by
  simp only[wV]at e;split at e<;>try cases e
  rename_i hn;split at e<;>try cases e
  rename_i u v hu hv;split at e<;>try cases e
  rename_i c hc;split at e<;>cases e;rename_i r hr;obtain⟨U,p1,p2⟩:=xT hu h1 w;obtain⟨V,q1,q2⟩:=xT hv h2 w;have e1:=af4 hc p2 q2 n w;have hn':f.name≠"_":=by grind
  have ih:=VU h1 h2 n w hr;rw[List.forIn_cons];rw[BY hn'];simp only[Sem.run_bind,p1,Result.andThen_ok,q1,e1];cases c with|true=>exact ih|false=>simp[both]
def KQ(P:Program)(op:BinOp)(t:TypeId)(u v:AV):Option (Bool×AV):=match u,v with
 |.agg l,.agg m=>match P.underlying t with
  |some d=>match d with
   |.struct fs=>match P.stoodInHeld t,P.eqGuardType P.depth t,wV P l m fs.toList with
    |false,false,some b=>match op with|.eql=>some (true,.bool b)|.neq=>some (true,.bool (Bool.not b))|_=>none
    |_,_,_=>none
   |_=>none
  |none=>none
 |_,_=>none
theorem ae0{P:Program}{op:BinOp}{t:TypeId}{u v r:AV}{g:Bool}(e:KQ P op t u v=some (g,r)){X:Cx}{U V:Value}(h1:Rel X u U)(h2:Rel X v V)(x y:Operand)(w:World) :
  ∃R,(do eqGuard op t x y U V;binOp op t U V).run P w=.ok R w/\Rel X r R:=by
 unfold KQ at e;split at e<;>try cases e
 rename_i l m;split at e<;>try cases e
 rename_i d hd;split at e<;>try cases e
 rename_i fs;split at e<;>try cases e
 rename_i b hs hg hb;obtain⟨xs,rfl,R1⟩:=h1;obtain⟨ys,rfl,R2⟩:=h2;have hr:=run_underlying hd w;have main:(Op.equal t (.agg xs.toArray) (.agg ys.toArray)).run P w=.ok b w:=by
  have gen:∀n,(Op.equalIn (n+1+1) t (.agg xs.toArray) (.agg ys.toArray)).run P w=.ok b w:=by
   intro n;have:=VU R1 R2 n w hb;have hp:(program:Sem Program).run P w=.ok P w:=aGn
   rw[Op.equalIn];simp only[Sem.run_bind,hr,Result.andThen_ok,hp,hs,GE,aFk,<-Array.forIn_toList,this];cases b<;>simp
  exact gen 9998
 split at e<;>cases e
 .exact⟨.bool b,by simp[eqGuard,binOp,hg,main],rfl⟩
 .exact⟨.bool (!b),by simp[eqGuard,binOp,hg,main],rfl⟩
def Ih(P:Program)(h:Hp)(ts:Array TypeId)(su x:AV):Option (Bool×AV×Hp):=none
theorem asy{P:Program}{X:Cx}(H:ab X){ts:Array TypeId}{aIC:TypeId}{su x v:AV}{g:Bool}{h':Hp}(e:Ih P X.h ts su x=some (g,v,h'))(hgd:g=true){U Y:Value}(R:Rel X su U)(RY:Rel X x Y) :
  ∃X' V,(Builtin.append_ ts aIC #[U,Y]).run P X.w=.ok V X'.w/\X'.h=h'/\X'.A=X.A/\ab X'/\aH X X'/\Rel X' v V:=by cases e
def rV(P:Program)(h:Hp)(ts:Array TypeId)(u x:AV):Option (AV×Hp):=none
theorem Hs{P:Program}{X:Cx}(H:ab X){ts:Array TypeId}{ty:TypeId}{u x v:AV}{h':Hp}(e:rV P X.h ts u x=some (v,h')){U Y:Value}(R:Rel X u U)(RY:Rel X x Y) :
  ∃w' V,(Builtin.copy_ ts ty #[U,Y]).run P X.w=.ok V w'/\ab ⟨X.s,h',w',X.A⟩/\aH X ⟨X.s,h',w',X.A⟩/\Rel ⟨X.s,h',w',X.A⟩ v V:=by cases e
def KR(op:UnOp)(u:AV):Option AV:=match op,u with|.neg,.int k n=>some (.int k (k.wrap (0-n)))|.not,.bool b=>some (.bool (!b))|_,_=>none
theorem ae2{P:Program}{op:UnOp}{u v:AV}(e:KR op u=some v){X:Cx}{U:Value}(R:Rel X u U)(w:World):∃V,(Op.unary op U).run P w=.ok V w/\Rel X v V:=by
 unfold KR at e;split at e<;>cases e
 .rw[show U=_ from R];exact⟨_,by simp[Op.unary,Op.intArith],rfl⟩
 .rw[show U=_ from R];exact⟨_,by simp[Op.unary],rfl⟩
def Ig(P:Program)(src dst:TypeId)(u:AV):Option AV:=match P.underlying src,P.underlying dst with
 |some _,some (.int k)=>match u with|.int _ n=>some (.int k (k.wrap n))|_=>none
 |some .string,some .string=>match u with|.str s=>some (.str s)|_=>none
 |_,_=>none
theorem asx{P:Program}{src dst:TypeId}{u v:AV}(e:Ig P src dst u=some v){X:Cx}{U:Value}(R:Rel X u U)(w:World):∃V,(convert src dst U).run P w=.ok V w/\Rel X v V:=by
 unfold Ig at e;split at e<;>try cases e
 .rename_i d k hs hd;split at e<;>cases e;rename_i k' n;rw[show U=_ from R];exact⟨_,by cases d<;>simp[convert,run_underlying hs,run_underlying hd,Conv.intToInt],rfl⟩
 .rename_i hs hd;split at e<;>cases e;rw[show U=_ from R];exact⟨_,by simp[convert,run_underlying hs,run_underlying hd],rfl⟩
def Il(s:ByteArray)(n:Nat):Int:=match s[n]? with|some b=>(b.toNat:Int)|none=>0
def Hi(P:Program)(t:TypeId)(u i:AV):Option (Bool×AV):=match P.underlying t with
 |some .string=>match u,i with|.str s,.int _ n=>some (ar n s.size,.int .u8 (Il s n.toNat))|_,_=>none
 |_=>none
theorem ar7{P:Program}{t:TypeId}{u i v:AV}{g:Bool}(e:Hi P t u i=some (g,v))(hg:g=true){X:Cx}{U I:Value}(R:Rel X u U)(RI:Rel X i I)(w:World) :
  ∃V,(Instr.index t U I).run P w=.ok V w/\Rel X v V:=by
 subst hg;unfold Hi at e;split at e<;>try cases e
 rename_i hu;split at e<;>try cases e
 rename_i s k n;simp only[bo,Do]at e;obtain⟨aU,rfl⟩:=e;obtain⟨m,rfl,hm⟩:=tV aU;rw[show U=_ from R,show I=_ from RI];refine⟨.int .u8 (Il s m),?_,rfl⟩;have hb:s[m]?=some s[m]:=by simp[hm]
 simp[Instr.index,asIntOf,run_underlying hu,Il,hb,hm]
theorem Wy{P:Program}{X:Cx}{k:IntKind}{w:World}:∀{l:List AV}{cs:kw}{a r:Int},xa k a l=some r->bm X l cs->(cs.foldlM Builtin.max2 (.int k a)).run P w=.ok (.int k r) w
 |[],_,a,r,e,R=>by simp only[xa,bo]at e;subst e;rw[show _=[]from R];simp|v::l,_,a,r,e,⟨u,t,rfl,h1,h2⟩=>by
  simp only[xa]at e;split at e<;>try cases e
  rename_i k' b;rw[show u=_ from h1,List.foldlM_cons];have:=Wy (P:=P) (w:=w) e h2;simp only[Builtin.max2,Sem.run_bind,Sem.run_pure,Result.andThen_ok];rw[<-this];congr 2;unfold mn
  grind
theorem Wx{P:Program}{X:Cx}{k:IntKind}{w:World}:∀{l:List AV}{cs:kw}{a r:Int},xc k a l=some r->bm X l cs->(cs.foldlM Builtin.min2 (.int k a)).run P w=.ok (.int k r) w
 |[],_,a,r,e,R=>by simp only[xc,bo]at e;subst e;rw[show _=[]from R];simp|v::l,_,a,r,e,⟨u,t,rfl,h1,h2⟩=>by
  simp only[xc]at e;split at e<;>try cases e
  rename_i k' b;rw[show u=_ from h1,List.foldlM_cons];have:=Wx (P:=P) (w:=w) e h2;simp only[Builtin.min2,Sem.run_bind,Sem.run_pure,Result.andThen_ok];rw[<-this];congr 2;unfold mn
  grind
def FG(P:Program)(ts:Array TypeId):Bool:=match nth ts.toList 0 with
 |some t=>match P.underlying t with|some (.map _ _)=>true|_=>false
 |none=>false
def zB(h:Hp)(u:AV):Option AV:=match u with
 |.mp b=>match h.tr.get b with|some (.map κ σ M)=>some (.int .i64 (Int.ofNat M.length))|_=>none
 |_=>none
theorem ad9{P:Program}{ts:Array TypeId}{u v:AV}{X:Cx}(H:ab X)(hm:FG P ts=true)(e:zB X.h u=some v){U:Value}(R:Rel X u U)(ty:TypeId) :
  ∃V,(Builtin.len_ ts ty #[U]).run P X.w=.ok V X.w/\Rel X v V:=by
 unfold FG at hm;split at hm<;>try cases hm
 rename_i t ht;have ht:ts[0]?=some t:=by rw[ct]at ht;simpa using ht
 split at hm<;>try cases hm
 rename_i hu;unfold zB at e;split at e<;>try cases e
 rename_i b;split at e<;>try cases e
 rename_i κ σ M hb;obtain⟨x,c,hs,rfl⟩:=R;obtain⟨x',c',es,clk,e1,e2,e3⟩:=H.obj b _ _ hb hs;cases e1;have h0:(getObj x).run P X.w=.ok (.map es clk) X.w:=Go.MapKept.run_getObj_map e2;obtain⟨N,n1,n2,_⟩:=e3;have hl:es.size=List.length M:=by rw[<-n1.length_eq,<-n2.len];simp
 refine⟨.int .i64 (Int.ofNat M.length),?_,rfl⟩;simp[Builtin.len_,ht,run_underlying hu,h0,goInt,hl]
def oD(P:Program)(h:Hp)(b:Builtin)(ts:Array TypeId)(vs:List AV):Option AV:=match b with
 |.len=>match vs with
  |[u]=>match FG P ts with|true=>zB h u|false=>tL P h ts u
  |_=>none
 |.max=>match vs with
  |.int k a::l=>match xa k a l with|some r=>some (.int k r)|none=>none
  |_=>none
 |.min=>match vs with
  |.int k a::l=>match xc k a l with|some r=>some (.int k r)|none=>none
  |_=>none
 |_=>none
theorem Nh{P:Program}{X:Cx}(H:ab X){b:Builtin}{ts:Array TypeId}{ty:TypeId}{cs:Array Bool}{vs:List AV}{Vs:kw}{v:AV}(e:oD P X.h b ts vs=some v)(R:bm X vs Vs) :
  ∃V,(builtin b ts ty cs Vs.toArray).run P X.w=.ok (.value V) X.w/\Rel X v V:=by
 unfold oD at e;split at e<;>try cases e
 .split at e<;>try cases e
  obtain⟨U,t,rfl,h1,h2⟩:=R;have:t=[]:=h2;subst this;split at e
  .rename_i hm;obtain⟨V,q1,q2⟩:=ad9 H hm e h1 ty;exact⟨V,by simp only[builtin,Sem.run_bind,q1,Result.andThen_ok,Sem.run_pure],q2⟩
  .obtain⟨V,q1,q2⟩:=as7 H e h1 ty X.w;exact⟨V,by simp only[builtin,Sem.run_bind,q1,Result.andThen_ok,Sem.run_pure],q2⟩
 .split at e<;>try cases e
  rename_i k a l;split at e<;>cases e;rename_i r hr;obtain⟨U,t,rfl,h1,h2⟩:=R;rw[show U=_ from h1];exact⟨_,by simp only[builtin,Builtin.max_,Sem.run_bind,Wy hr h2,Result.andThen_ok,Sem.run_pure],rfl⟩
 .split at e<;>try cases e
  rename_i k a l;split at e<;>cases e;rename_i r hr;obtain⟨U,t,rfl,h1,h2⟩:=R;rw[show U=_ from h1];exact⟨_,by simp only[builtin,Builtin.min_,Sem.run_bind,Wx hr h2,Result.andThen_ok,Sem.run_pure],rfl⟩
theorem sQ{X:Cx}{T:Tr AV}{a:Act}{o:Op}{l:Array Operand}{vs:List AV}(h:dU T l.toList=some vs)(hO:gF X T a o)(hm:∀x∈l.toList,x∈o.operands):bm X vs (l.map a.eval).toList:=by have:=VS h (fun x hx=>hO x (hm x hx));simpa using this
def Ie(c:Bool)(a b:Option AV):Option AV:=match a,b with
 |some (.bool x),some (.bool y)=>some (.bool (bH c x y))|some (.int k x),some (.int k' y)=>match j9 k k' with|true=>some (.int k (mn c x y))|false=>none
 |_,_=>match c with|true=>a|false=>b
theorem asv{X:Cx}{c:Bool}{a b:Option AV}{v:AV}(e:Ie c a b=some v){U V:Value}(h1:∀u,a=some u->Rel X u U)(h2:∀u,b=some u->Rel X u V):Rel X v (if c=true then U else V):=by
 unfold Ie at e;split at e
 .cases e;have q1:U=_:=h1 _ rfl;have q2:V=_:=h2 _ rfl;cases c<;>simp[q1,q2,bH,Rel]
 .split at e<;>cases e;rename_i k x k' y hk;have:=my hk;subst this;have q1:U=_:=h1 _ rfl;have q2:V=_:=h2 _ rfl;cases c<;>simp[q1,q2,mn,Rel]
 grind
def Q0:AV->Bool
 |.ptr _ _|.dK _ _ _ _|.fF _ _ _|.func _ _ _|.rp _ _|.ra _ _=>true|_=>false
def jz(P:Program)(T:Tr AV)(h:Hp)(o:Oper):Option (Bool×AV):=match o.op with
 |.move x=>match aQ T x with|some v=>some (true,v)|none=>none
 |.pick c a b=>match aQ T c with
  |some (.bool c)=>match Ie c (aQ T a) (aQ T b)with|some v=>some (true,v)|none=>none
  |_=>none
 |.nilCheck x=>match aQ T x with
  |some v=>match Q0 v with|true=>some (true,v)|false=>none
  |none=>none
 |.binOp op t x y _=>match aQ T x,aQ T y with
  |some u,some v=>match rN P op t u v with|some r=>some r|none=>KQ P op t u v
  |_,_=>none
 |.unOp op _ x=>match aQ T x with
  |some u=>match KR op u with|some v=>some (true,v)|none=>none
  |none=>none
 |.convert src dst x=>match aQ T x with
  |some u=>match Ig P src dst u with|some v=>some (true,v)|none=>none
  |none=>none
 |.extract t i=>match aQ T t with
  |some (.bB l)=>match nth l i with|some v=>some (true,v)|none=>none
  |_=>none
 |.field t x f=>match aQ T x with
  |some u=>match sX P t u f with|some v=>some (true,v)|none=>none
  |none=>none
 |.fieldAddr t x f=>match aQ T x with
  |some u=>match sL P t u f with|some v=>some (true,v)|none=>none
  |none=>none
 |.indexAddr t x i=>match aQ T x,aQ T i with|some u,some i=>oC P h t u i|_,_=>none
 |.index t x i=>match aQ T x,aQ T i with|some u,some i=>Hi P t u i|_,_=>none
 |.makeFunc fn first cap=>match fn with
  |.func f=>match dU T first.toList,dU T cap.toList with|some x,some y=>some (true,.func f x y)|_,_=>none
  |_=>none
 |.build t parts=>match gX T parts.toList with
  |some ps=>match sP P t ps with|some v=>some (true,v)|none=>none
  |none=>none
 |.load t x=>match aQ T x with|some u=>lH P h t u|none=>none
 |.slice t x lo hi mx=>match mx,aQ T x with|none,some u=>oF P h T t u lo hi|_,_=>none
 |.lookup t x i ck=>match aQ T x,aQ T i with
  |some u,some i=>match uY P h t u i ck with|some v=>some (true,v)|none=>none
  |_,_=>none
 |.call c=>match c.callee with
  |.builtin b=>match dU T c.args.toList with
   |some vs=>match oD P h b c.argTypes vs with|some v=>some (true,v)|none=>none
   |none=>none
  |_=>none
 |_=>none
theorem sG{P:Program}{T:Tr AV}{o:Oper}{g:Bool}{v:AV}{X:Cx}(H:ab X)(e:jz P T X.h o=some (g,v))(hg:g=true){a:Act}(hO:gF X T a o.op) :
  ∃V,(execOp a.eval o).run P X.w=.ok (.value V) X.w/\Rel X v V:=by
 subst hg;unfold jz at e;split at e<;>rename_i ho<;>try (rw[ho]at hO)
 .rename_i x;split at e<;>cases e;rename_i hx;exact⟨a.eval x,by simp only[execOp,ho,Sem.run_pure],hO x (by simp[Op.operands]) _ hx⟩
 .rename_i c x y;split at e<;>try cases e
  rename_i cb hc;split at e<;>cases e;rename_i hp;have h1:a.eval c=.bool cb:=hO c (by simp[Op.operands]) _ hc;have:=asv hp (fun u hu=>hO x (by simp[Op.operands]) u hu) (fun u hu=>hO y (by simp[Op.operands]) u hu);exact⟨_,by simp only[execOp,ho,h1,asBool,Sem.run_bind,Sem.run_pure,Result.andThen_ok],this⟩
 .rename_i x;split at e<;>try cases e
  rename_i v' hx;split at e<;>cases e;rename_i bw;have h1:=hO x (by simp[Op.operands]) _ hx;refine⟨a.eval x,?_,h1⟩;unfold Q0 at bw;split at bw<;>try cases bw
  .obtain⟨aIR,aHd,_,q⟩:=h1;simp only[execOp,ho,q,Sem.run_pure]
  .obtain⟨aIR,aHd,_,q,_⟩:=h1;simp only[execOp,ho,q,Sem.run_pure]
  .obtain⟨aIR,aHd,aHe,q,_⟩:=h1;simp only[execOp,ho,q,Sem.run_pure]
  .obtain⟨xs,cs,q,_⟩:=h1;simp only[execOp,ho,q,Sem.run_pure]
  .obtain⟨aIR,aHd,aIe,aIo,_,_,q⟩:=h1;simp only[execOp,ho,q,Sem.run_pure]
  .obtain⟨aIR,aHd,aIe,_,_,q⟩:=h1;simp only[execOp,ho,q,Sem.run_pure]
 .rename_i op t x y yt;split at e<;>try cases e
  rename_i u u' hx hy;have main:∃V,(do eqGuard op t x y (a.eval x) (a.eval y);binOp op t (a.eval x) (a.eval y)).run P X.w=.ok V X.w/\Rel X v V:=by
   split at e
   .rename_i r hr;cases e;exact NW hr rfl (hO x (by simp[Op.operands]) _ hx) (hO y (by simp[Op.operands]) _ hy) x y X.w
   .exact ae0 e (hO x (by simp[Op.operands]) _ hx) (hO y (by simp[Op.operands]) _ hy) x y X.w
  obtain⟨V,q1,q2⟩:=main;refine⟨V,?_,q2⟩;simp only[execOp,ho];rw[Sem.run_bind,q1];rfl
 .rename_i op t x;split at e<;>try cases e
  rename_i u hx;split at e<;>cases e;rename_i hv;obtain⟨V,q1,q2⟩:=ae2 (P:=P) hv (hO x (by simp[Op.operands]) _ hx) X.w;exact⟨V,by simp only[execOp,ho,Sem.run_bind,q1,Result.andThen_ok,Sem.run_pure],q2⟩
 .rename_i src dst x;split at e<;>try cases e
  rename_i u hx;split at e<;>cases e;rename_i hv;obtain⟨V,q1,q2⟩:=asx hv (hO x (by simp[Op.operands]) _ hx) X.w;exact⟨V,by simp only[execOp,ho,Sem.run_bind,q1,Result.andThen_ok,Sem.run_pure],q2⟩
 .rename_i t i;split at e<;>try cases e
  rename_i l hx;split at e<;>cases e;rename_i hv;rw[ct]at hv;obtain⟨cs,q,R⟩:=hO t (by simp[Op.operands]) _ hx;obtain⟨V,q1,q2⟩:=R.get hv;exact⟨V,by simp[execOp,ho,q,Instr.extract,q1],q2⟩
 .rename_i t x f;split at e<;>try cases e
  rename_i u hx;split at e<;>cases e;rename_i hv;obtain⟨V,q1,q2⟩:=Nv hv (hO x (by simp[Op.operands]) _ hx) X.w;exact⟨V,by simp only[execOp,ho,Sem.run_bind,q1,Result.andThen_ok,Sem.run_pure],q2⟩
 .rename_i t x f;split at e<;>try cases e
  rename_i u hx;split at e<;>cases e;rename_i hv;obtain⟨V,q1,q2⟩:=Ng hv (hO x (by simp[Op.operands]) _ hx) X.w;exact⟨V,by simp only[execOp,ho,Sem.run_bind,q1,Result.andThen_ok,Sem.run_pure],q2⟩
 .rename_i t x i;split at e<;>try cases e
  rename_i u i' hx hi;obtain⟨V,q1,q2⟩:=Nf H e rfl (hO x (by simp[Op.operands]) _ hx) (hO i (by simp[Op.operands]) _ hi) X.w;exact⟨V,by simp only[execOp,ho,Sem.run_bind,q1,Result.andThen_ok,Sem.run_pure],q2⟩
 .rename_i t x i;split at e<;>try cases e
  rename_i u i' hx hi;obtain⟨V,q1,q2⟩:=ar7 e rfl (hO x (by simp[Op.operands]) _ hx) (hO i (by simp[Op.operands]) _ hi) X.w;exact⟨V,by simp only[execOp,ho,Sem.run_bind,q1,Result.andThen_ok,Sem.run_pure],q2⟩
 .rename_i fn first cap
  split at e<;>try cases e
  rename_i f;split at e<;>cases e;rename_i x y hx hy;have h1:=sQ hx hO (by intro z hz;simp only[Op.operands];exact aFK.2 (.inl (aES.1 hz)));have h2:=sQ hy hO (by intro z hz;simp only[Op.operands];exact aFK.2 (.inr (aES.1 hz)));exact⟨.func (.func f) (first.map a.eval) (cap.map a.eval),by simp only[execOp,ho,Instr.makeFunc,Sem.run_bind,Sem.run_pure,Result.andThen_ok],_,_,by rw[arg,arg],h1,h2⟩
 .rename_i t parts;split at e<;>try cases e
  rename_i ps hps;split at e<;>cases e;rename_i hv;have hP:=Nt hps (fun x hx=>hO x (by simp only[Op.operands,aFt];exact hx));obtain⟨V,q1,q2⟩:=Nw hv X.w (parts.map fun x=>(x.1,a.eval x.2)) (by simpa using hP);exact⟨V,by simp only[execOp,ho,Sem.run_bind,q1,Result.andThen_ok,Sem.run_pure],q2⟩
 .rename_i t x;split at e<;>try cases e
  rename_i u hx;obtain⟨V,q1,q2⟩:=xU H e rfl (hO x (by simp[Op.operands]) _ hx);exact⟨V,by simp only[execOp,ho,Sem.run_bind,q1,Result.andThen_ok,Sem.run_pure],q2⟩
 .rename_i t x lo hi mx;split at e<;>try cases e
  rename_i u hx;obtain⟨V,q1,q2⟩:=Ns H e rfl (hO x (by simp[Op.operands]) _ hx) (by intro y hy;apply hO y;simp only[Op.operands];rcases hy with rfl|rfl<;>simp) X.w (a:=a);exact⟨V,by simp only[execOp,ho,aFC,Sem.run_bind,q1,Result.andThen_ok,Sem.run_pure],q2⟩
 .rename_i t x i ck;split at e<;>try cases e
  rename_i u i' hx hi;split at e<;>cases e;rename_i hv;obtain⟨V,q1,q2⟩:=asw H hv (hO x (by simp[Op.operands]) _ hx) (hO i (by simp[Op.operands]) _ hi);exact⟨V,by simp only[execOp,ho,Sem.run_bind,q1,Result.andThen_ok,Sem.run_pure],q2⟩
 .rename_i c;split at e<;>try cases e
  rename_i b hb;split at e<;>try cases e
  rename_i vs hvs;split at e<;>cases e;rename_i hv;have h1:=sQ hvs hO (by intro z hz;simp only[Op.operands,Call.operands,hb];simpa using hz);obtain⟨V,q1,q2⟩:=Nh H (ty:=o.type) (cs:=c.args.map fun|.const _=>true|_=>false) hv h1;exact⟨V,by rw[nf ho hb];rw[arg]at q1;exact q1,q2⟩
 .cases e
def qx(P:Program)(sh:TypeId->Option Sh)(T:Tr AV)(h:Hp)(o:Oper):Option (Bool×AV×Hp):=match o.op with
 |.assign x=>match aQ T x with|some v=>some (true,v,h)|none=>none
 |.store t x y=>match aQ T x,aQ T y,cP P t with
  |some u,some v,some n=>match Nat.beq (cr v).length n with
   |true=>match u with
    |.ptr b off=>match pR h b off (cr v)with|some h'=>some (true,.bB [],h')|none=>none
    |.dK b i z o=>match FR h b i z o (cr v)with|some x=>some (x.1,.bB [],x.2)|none=>none
    |_=>none
   |false=>none
  |_,_,_=>none
 |.call c=>match c.callee with
  |.builtin b=>match b with
   |.append=>match dU T c.args.toList with
    |some [u,x]=>match NY P sh h c.argTypes u x with|some r=>some r|none=>Ih P h c.argTypes u x
    |_=>none
   |.copy=>match dU T c.args.toList with
    |some [u,x]=>match rV P h c.argTypes u x with|some y=>some (true,y.1,y.2)|none=>none
    |_=>none
   |.delete=>match dU T c.args.toList with
    |some [u,i]=>match GN P h c.argTypes u i with|some h'=>some (true,.bB [],h')|none=>none
    |_=>none
   |_=>none
  |_=>none
 |.mapUpdate t m i y=>match aQ T m,aQ T i,aQ T y with
  |some u,some i,some v=>match GL P h t u i v with|some h'=>some (true,.bB [],h')|none=>none
  |_,_,_=>none
 |_=>none
def vv(v:Value)(n:Next):Prop:=n=.value v\/(n=.skip/\v=undef)
theorem Eh{P:Program}{sh:TypeId->Option Sh}{T:Tr AV}{o:Oper}{g:Bool}{v:AV}{h':Hp}{X:Cx}(H:ab X)(e:qx P sh T X.h o=some (g,v,h'))(hg:g=true){a:Act}(hO:gF X T a o.op) :
  ∃X' n V,(execOp a.eval o).run P X.w=.ok n X'.w/\vv V n/\X'.h=h'/\ab X'/\aH X X'/\Rel X' v V:=by
 subst hg;unfold qx at e;split at e<;>try (rename_i ho)
 .rename_i x;rw[ho]at hO;split at e<;>cases e;rename_i hx;exact⟨X,_,_,by simp only[execOp,ho,Sem.run_pure],.inl rfl,rfl,H,aH.refl X,hO x (by simp[Op.operands]) _ hx⟩
 .rename_i t x y;rw[ho]at hO;split at e<;>try cases e
  rename_i u u' n hx hy hn;split at e<;>try cases e
  rename_i hl;have hl:=aK hl;have h1:=hO x (by simp[Op.operands]) _ hx;have h2:=kK (hO y (by simp[Op.operands]) _ hy);have hsz:(a.eval y).cells.size=n:=by rw[<-PP,h2.length,hl]
  split at e<;>try cases e
  .rename_i b off;split at e<;>cases e;rename_i hw;obtain⟨aIR,aHd,g1,g2⟩:=h1;obtain⟨w',r1,r2,r3⟩:=xR (P:=P) H hw g1 h2;refine⟨_,.skip,undef,?_,.inr ⟨rfl,rfl⟩,rfl,r2,r3,⟨[],rfl,rfl⟩⟩;simp only[execOp,ho,Instr.storeAt,g2,Instr.sureAddr,Sem.run_bind,Sem.run_pure,Result.andThen_ok,storeVar,run_sizeOf hn];rw[rx (by simp[hsz])];simp only[Sem.run_bind,Sem.run_pure,Result.andThen_ok,r1]
  .rename_i b i z o';split at e<;>try cases e
   rename_i xx hw;simp only[bo,Do]at e;obtain⟨hgg,rfl,rfl⟩:=e;obtain⟨gx,hx'⟩:=xx;simp only at hgg;obtain⟨aIR,aHd,g1,g2,g3⟩:=h1;obtain⟨w',r1,r2,r3⟩:=avB (P:=P) H hw hgg g1 g3 h2;refine⟨_,.skip,undef,?_,.inr ⟨rfl,rfl⟩,rfl,r2,r3,⟨[],rfl,rfl⟩⟩;simp only[execOp,ho,Instr.storeAt,g2,Instr.sureAddr,Sem.run_bind,Sem.run_pure,Result.andThen_ok,storeVar,run_sizeOf hn];rw[rx (by simp[hsz])];simp only[Sem.run_bind,Sem.run_pure,Result.andThen_ok,r1]
 .rename_i c;split at e<;>try cases e
  rename_i b hb;split at e<;>try cases e
  .split at e<;>try cases e
   rename_i u x hv;rw[ho]at hO;have h1:=sQ hv hO (by intro z hz;simp only[Op.operands,Call.operands,hb];simpa using hz);obtain⟨U,t,k1,k2,Y,t',k3,k4,k5⟩:=h1;have:t'=[]:=k5;subst this;subst k3;have main:∃X' V,(Builtin.append_ c.argTypes o.type #[U,Y]).run P X.w=.ok V X'.w/\X'.h=h'/\X'.A=X.A/\ab X'/\aH X X'/\Rel X' v V:=by
    split at e
    .rename_i hr;cases e;exact arA (ty:=o.type) H hr rfl k2 k4
    .exact asy H e rfl k2 k4
   obtain⟨X',V,q1,q2,q3,q4,q5,q6⟩:=main;refine⟨X',.value V,V,?_,.inl rfl,q2,q4,q5,q6⟩;rw[nf ho hb,show c.args.map a.eval=#[U,Y]from Rd.1 k1];simp only[builtin,Sem.run_bind,q1,Result.andThen_ok,Sem.run_pure]
  .split at e<;>try cases e
  .split at e<;>try cases e
   rename_i u x hv;split at e<;>cases e;rename_i hd;rw[ho]at hO;have h1:=sQ hv hO (by intro z hz;simp only[Op.operands,Call.operands,hb];simpa using hz);obtain⟨U,t,k1,k2,Y,t',k3,k4,k5⟩:=h1;have:t'=[]:=k5;subst this;subst k3;obtain⟨w',q1,q2,q3⟩:=arO (P:=P) (ty:=o.type) H hd k2 k4;refine⟨_,.value (.tuple #[]),.tuple #[],?_,.inl rfl,rfl,q2,q3,⟨[],rfl,rfl⟩⟩;rw[nf ho hb,show c.args.map a.eval=#[U,Y]from Rd.1 k1];simp only[builtin,Sem.run_bind,q1,Result.andThen_ok,Sem.run_pure]
 .rename_i t m i y;rw[ho]at hO;split at e<;>try cases e
  rename_i u i' v' hm hi hy;split at e<;>cases e;rename_i hd;obtain⟨w',q1,q2,q3⟩:=arN (P:=P) H hd (hO m (by simp[Op.operands]) _ hm) (hO i (by simp[Op.operands]) _ hi) (hO y (by simp[Op.operands]) _ hy);refine⟨_,.skip,undef,?_,.inr ⟨rfl,rfl⟩,rfl,q2,q3,⟨[],rfl,rfl⟩⟩;simp only[execOp,ho,Sem.run_bind,q1,Result.andThen_ok,Sem.run_pure]
 .cases e
def pU(T:Tr AV)(o:Oper):Option (FuncId×List AV):=match o.op with
 |.call c=>match c.callee with
  |.value f=>match aQ T f,dU T c.args.toList with|some (.func g a cap),some vs=>some (g,a++(vs++cap))|_,_=>none
  |_=>none
 |_=>none
theorem DQ{P:Program}{T:Tr AV}{o:Oper}{f:FuncId}{vs:List AV}{X:Cx}(e:pU T o=some (f,vs)){a:Act}(hO:gF X T a o.op){fn:Func}(hf:P.funcs[f]?=some fn)
  (hn:(fn.name == "runtime.NumGoroutine")=false) {c:Code}(hb:fn.body=some c) (w:World) :
  ∃Vs,(execOp a.eval o).run P w=.ok (.enter f (List.toArray Vs)) w/\bm X vs Vs:=by
 unfold pU at e;split at e<;>try cases e
 rename_i cl ho;rw[ho]at hO;split at e<;>try cases e
 rename_i fo hc;split at e<;>try cases e
 rename_i fa cap xs hxs hfo;obtain⟨As,Cs,h1,h1a,h1c⟩:=hO fo (by simp[Op.operands,Call.operands,hc]) _ hfo;have h2:=sQ hxs hO (by intro z hz;simp only[Op.operands,Call.operands,hc];grind);refine⟨As++((cl.args.map a.eval).toList++Cs),?_,h1a.append (h2.append h1c)⟩;simp only[execOp,ho,resolve,hc,h1,Deferred.ofValue,Sem.run_bind,Sem.run_pure,Result.andThen_ok,invoke,callFunc,run_program,hf,hn,hb];simp
