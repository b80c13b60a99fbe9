import Derived.Test.YtkcpdpplobhpaaaGreatWMa
import Derived.IntWalk
set_option linter.unusedVariables false
set_option linter.unusedSimpArgs false
set_option linter.unnecessarySimpa false
section
namespace Go.Proofs.YtkcpdpplobhpaaaGreat.Ev
open Go Go.RowKit
theorem Wp(m:Nat):∀(r c:Nat),c<=2*m+192->Builtin.growBy m r c<=2*m+192
 |0,c,h=>by simpa[Builtin.growBy]using h|r+1,c,h=>by
  simp only[Builtin.growBy];split
  .exact h
  .exact Wp m r _ (by omega)
theorem FN{need old:Nat}(h:old<need):Builtin.nextslicecap need old<=2*need+192:=by
 unfold Builtin.nextslicecap;split
 .omega
 .split
  .omega
  .exact Wp _ _ _ (by omega)
theorem pX{P:Program}{o:Oper}{c:Call}{b:Builtin}{a:Act}{w:World}(ho:o.op=.call c)(hc:c.callee=.builtin b) :
  (execOp a.eval o).run P w=(builtin b c.argTypes o.type (c.args.map fun|.const _=>true|_=>false) (c.args.map a.eval)).run P w:=by
 unfold execOp;rw[ho];simp only[resolve,hc,Sem.run_bind,Sem.run_pure,Result.andThen_ok,invoke];rfl
end Go.Proofs.YtkcpdpplobhpaaaGreat.Ev
end
section
namespace Go.Proofs.YtkcpdpplobhpaaaGreat.V
open Go Go.RowKit
open Go.Proofs.YtkcpdpplobhpaaaGreat.Ev (Tr Tr.cI nth dI takeN ic j6 j7 dr gL kr run_underlying run_typeInfo run_sizeOf fJ h9 places pW j8)
def FT:Nat:=30
mutual
def nz:(σ:Sh)->σ.T->List AV
 |.int k,n=>[.int k n]|.bool,b=>[.bool b]|.str,s=>[.str s]|.agg l,d=>Qt l d|.sl s,L=>[.fz s L]
termination_by structural x=>x
def Qt:(l:List Sh)->TL l->List AV
 |[],_=>[]|s::l,d=>nz s d.1++Qt l d.2
termination_by structural x=>x
end
mutual
theorem tY{X:Cx}:∀{σ:Sh}{d:σ.T}{cs:List Value},Cs X.w X.out σ d cs->bB X (nz σ d) cs
 |.int k,n,cs,h=>⟨_,[],h,rfl,rfl⟩|.bool,b,cs,h=>⟨_,[],h,rfl,rfl⟩|.str,s,cs,h=>⟨_,[],h,rfl,rfl⟩|.agg l,d,cs,h=>Zum (l:=l) h|.sl s,L,cs,h=>by obtain⟨a,len,cap,e,q⟩:=h;exact⟨_,[],e,⟨a,len,cap,rfl,q⟩,rfl⟩
theorem Zum{X:Cx}:∀{l:List Sh}{d:TL l}{cs:List Value},gZ X.w X.out l d cs->bB X (Qt l d) cs
 |[],_,cs,h=>h|s::l,d,cs,⟨c,r,e,h1,h2⟩=>by rw[e];exact(tY h1).append (Zum h2)
end
def jW{τ τ':Sh}(h:τ.eqv τ'=true)(L:List τ.T):List τ'.T:=Sh.fK h▸L
def xf{α:Type}(F:Hp->List AV->Option (α×List AV×Hp)):Nat->Hp->List AV->Option (List α×Hp)
 |0,h,l=>match l with|[]=>some ([],h)|_=>none
 |n+1,h,l=>match F h l with
  |some (x,r,h)=>match xf F n h r with|some (xs,h)=>some (x::xs,h)|none=>none
  |none=>none
mutual
def fi(kl:Bool)(h:Hp):(σ:Sh)->List AV->Option (σ.T×List AV×Hp)
 |.int k,l=>match l with
  |.int k' n::r=>match Nat.beq (Ev.IntKind.num k') (Ev.IntKind.num k)with|true=>some (n,r,h)|false=>none
  |_=>none
 |.bool,l=>match l with|.bool b::r=>some (b,r,h)|_=>none
 |.str,l=>match l with|.str s::r=>some (s,r,h)|_=>none
 |.agg ss,l=>kL kl h ss l|.sl s,l=>match l with
  |.bk::r=>some ([],r,h)|.fz τ L::r=>match e:τ.eqv s with|true=>some (jW e L,r,h)|false=>none
  |.hd b _::r=>match h.tr.get b with
   |some (.arr τ L _)=>match e:τ.eqv s,kl,Tr.set FT h.tr b none with|true,true,some tr=>some (jW e L,r,⟨tr,h.next⟩)|_,_,_=>none
   |_=>none
  |.vw b τ₀ off len::r=>match h.tr.get b with
   |some (.arr τ L _)=>match e:τ.eqv s,τ₀.eqv s,kl,Tr.set FT h.tr b none with|true,true,true,some tr=>some (jW e ((L.drop off).take len),r,⟨tr,h.next⟩)|_,_,_,_=>none
   |some (.cells vs _)=>match kl,off,Tr.set FT h.tr b none with
    |true,0,some tr=>match xf (fun h l=>fi true h s l) len ⟨tr,h.next⟩ vs with|some (L,h')=>some (L,r,h')|none=>none
    |_,_,_=>none
   |_=>none
  |_=>none
termination_by structural x=>x
def kL(kl:Bool)(h:Hp):(l:List Sh)->List AV->Option (TL l×List AV×Hp)
 |[],r=>some ((),r,h)|s::l,r=>match fi kl h s r with
  |some (d,r,h)=>match kL kl h l r with|some (e,r,h)=>some ((d,e),r,h)|none=>none
  |none=>none
termination_by structural x=>x
end
structure fL(X:Cx)(h':Hp):Prop where
 E:aO X ⟨X.s,h',X.w,X.A⟩
 H:aF ⟨X.s,h',X.w,X.A⟩
 sub:∀i o,h'.tr.get i=some o->X.h.tr.get i=some o
theorem fL.refl{X:Cx}(H:aF X):fL X X.h:=⟨aO.refl X,H,fun _ _ h=>h⟩
theorem fL.trans{X:Cx}{h' h'':Hp}(a:fL X h')(b:fL ⟨X.s,h',X.w,X.A⟩ h''):fL X h'':=⟨a.E.trans b.E,b.H,fun i o q=>a.sub i o (b.sub i o q)⟩
theorem fL.kill{X:Cx}(H:aF X){b:Nat}{l:Loc}{tr:Tr bu}(hs:X.s b=some l)(ht:Tr.set FT X.h.tr b none=some tr):fL X ⟨tr,X.h.next⟩:=by
 obtain⟨E,H'⟩:=H.kill hs ht;refine⟨E,H',?_⟩;intro i o q;have:=Tr.cI FT X.h.tr b none tr ht i
 replace q:tr.get i=some o:=q
 rw[this]at q;by_cases r:i=b
 .rw[if_pos r]at q;cases q
 .rwa [if_neg r]at q
theorem FW{w:World}{A:Nat->Prop}{τ τ':Sh}(h:τ.eqv τ'=true){L:List τ.T}{V:Value}(q:Cs w A (.sl τ) L [V]):Cs w A (.sl τ') (jW h L) [V]:=by have:=Sh.fK h;subst this;exact q
theorem agV{w:World}{A:Nat->Prop}{τ:Sh}{L:List τ.T}{x:Nat}{ty:TypeId}{cs tail:List Value}{fr:Nat×Nat}(hw:w.heap[x]?=some (.cells (List.toArray (cs++tail)) ty fr))(ha:¬A x)(hf:bw (Cs w A τ) L cs)
  {off len cap:Nat}{a:Option Addr}(hl:off+len<=L.length) (hc:len<=cap) (hA:0<len->a=some ⟨x,off*τ.size,none⟩):Cs w A (.sl τ) ((L.drop off).take len) [.slice a len cap]:=by
 refine⟨a,len,cap,rfl,by simp;omega,hc,fun hne=>?_⟩;have hpos:0<len:=by
  rcases Nat.eq_zero_or_pos len with q|q
  .subst q;rw[List.take_zero]at hne;exact absurd rfl hne
  .exact q
 refine⟨x,off*τ.size,(cs.drop (off*τ.size)).take (len*τ.size),hA hpos,ha,bw.take (fun x c=>Cs.length) len (bw.drop (fun x c=>Cs.length) off hf),_,ty,_,hw,?_⟩;intro j u hu;rw[List.getElem?_take]at hu;split at hu
 .rw[List.getElem?_drop]at hu;simp only[List.getElem?_toArray];rw[List.getElem?_append_left]
  .exact hu
  .rcases de (off*τ.size+j) cs.length with q|q
   .exact q
   .rw[ep q]at hu;cases hu
 .cases hu
theorem Ua{τ:Sh}{F:Hp->List AV->Option (τ.T×List AV×Hp)}(hF:∀{X:Cx},aF X->∀{l:List AV}{d:τ.T}{r:List AV}{h':Hp},F X.h l=some (d,r,h')->∀{cs:List Value},bB X l cs ->
  fL X h'/\∃c e,cs=c++e/\Cs X.w (Cx.out ⟨X.s,h',X.w,X.A⟩) τ d c/\bB ⟨X.s,h',X.w,X.A⟩ r e):∀{n:Nat}{l:List AV}{X:Cx}{L:List τ.T}{h':Hp}{cs:List Value},aF X->xf F n X.h l=some (L,h')->bB X l cs ->
  fL X h'/\L.length=n/\bw (Cs X.w (Cx.out ⟨X.s,h',X.w,X.A⟩) τ) L cs
 |0,l,X,L,h',cs,H,e,R=>by simp only[xf]at e;split at e<;>cases e;exact⟨fL.refl H,rfl,R⟩
 |n+1,l,X,L,h',cs,H,e,R=>by
  simp only[xf]at e;split at e<;>try cases e
  rename_i x r h₁ hf;split at e<;>cases e;rename_i xs hx;obtain⟨F₁,c,t,rfl,q1,q2⟩:=hF H hf R;obtain⟨F₂,k1,k2⟩:=Ua hF (X:=⟨X.s,h₁,X.w,X.A⟩) F₁.H hx q2;exact⟨F₁.trans F₂,by simp[k1],c,t,rfl,q1.bj F₂.E.keeps,k2⟩
mutual
theorem qe{kl:Bool}{X:Cx}(H:aF X):∀{σ:Sh}{l:List AV}{d:σ.T}{r:List AV}{h':Hp},fi kl X.h σ l=some (d,r,h')->∀{cs:List Value},bB X l cs ->
  fL X h'/\∃c e,cs=c++e/\Cs X.w (Cx.out ⟨X.s,h',X.w,X.A⟩) σ d c/\bB ⟨X.s,h',X.w,X.A⟩ r e
 |.int k,l,d,r,h',e,cs,R=>by
  simp only[fi]at e;split at e<;>try cases e
  rename_i k' n r';split at e<;>try cases e
  rename_i hk;obtain⟨v,t,rfl,h1,h2⟩:=R;have:=Ev.IntKind.uh (bD hk);subst this;exact⟨fL.refl H,[v],t,rfl,by rw[show v=_ from h1];rfl,h2⟩
 |.bool,l,d,r,h',e,cs,R=>by
  simp only[fi]at e;split at e<;>try cases e
  obtain⟨v,t,rfl,h1,h2⟩:=R;exact⟨fL.refl H,[v],t,rfl,by rw[show v=_ from h1];rfl,h2⟩
 |.str,l,d,r,h',e,cs,R=>by
  simp only[fi]at e;split at e<;>try cases e
  obtain⟨v,t,rfl,h1,h2⟩:=R;exact⟨fL.refl H,[v],t,rfl,by rw[show v=_ from h1];rfl,h2⟩
 |.agg ss,l,d,r,h',e,cs,R=>W6 H (ss:=ss) e R|.sl s,l,d,r,h',e,cs,R=>by
  simp only[fi]at e;split at e<;>try cases e
  .obtain⟨v,t,rfl,h1,h2⟩:=R;exact⟨fL.refl H,[v],t,rfl,⟨none,0,0,by rw[show v=_ from h1],rfl,aS _,fun q=>absurd rfl q⟩,h2⟩
  .rename_i τ L r';split at e<;>try cases e
   rename_i he;obtain⟨v,t,rfl,h1,h2⟩:=R;exact⟨fL.refl H,[v],t,rfl,FW he h1,h2⟩
  .rename_i b τ₀ r';split at e<;>try cases e
   rename_i τ L ty hb;split at e<;>try cases e
   rename_i tr he ht;obtain⟨v,t,rfl,⟨l₀,g1,gc,g2⟩,h2⟩:=R;have F:=fL.kill H g1 ht;have:=H.freeze hb g1 ht;rw[g2 _ (gF hb)];exact⟨F,[_],t,rfl,FW he this,h2.ext (F.E.eS H)⟩
  .rename_i b τ₀ off len r';split at e<;>try cases e
   .rename_i τ L ty hb;split at e<;>try cases e
    rename_i tr he he₀ ht;obtain⟨v,t,rfl,⟨l₀,a,c,g1,g2,g3,g4,g5,g6⟩,h2⟩:=R;have F:=fL.kill H g1 ht;have hfz:=H.freeze hb g1 ht;have:=Sh.fK he₀;subst this;have:=Sh.fK he;subst this;refine⟨F,[v],t,rfl,FW he ?_,h2.ext (F.E.eS H)⟩;have hle:=g6 _ (gF hb);rw[g2];cases l₀ with
    |nil=>
     have hL:L=[]:=H.obj b _ _ hb g1;subst hL;simp only[List.length_nil]at hle;have:len=0:=by omega
     subst this;exact⟨a,0,c,rfl,by simp,g3,fun q=>by rw[List.take_zero]at q;exact absurd rfl q⟩
    |«at» x k=>
     obtain⟨cs,tail,q1,q2,q3,q4⟩:=H.obj b _ _ hb g1;refine agV (w:=X.w) q1 ?_ (q2.mono (fun x d q=>q.bj F.E.keeps)) hle g3 (fun hp=>?_)
     .rintro(q|⟨j,o,c',p1,p2,p3⟩)
      .exact H.loc b _ _ x hb g1 rfl q
      .have hj:=F.sub j o p1;have hg:=Tr.cI FT X.h.tr b none tr ht j;have:=H.inj j b o _ c' _ x hj hb p2 g1 p3 rfl;subst this
       replace p1:tr.get j=some o:=p1
       rw[hg,if_pos rfl]at p1;cases p1
     .obtain⟨x',k',e1,e2⟩:=g4 hp;cases e1;exact e2
    |cE x k m=>exact(H.obj b _ _ hb g1:False).elim
   .rename_i vs ty hb;split at e<;>try cases e
    rename_i tr ht;split at e<;>cases e;rename_i hr;obtain⟨v,t,rfl,⟨l₀,a,c,g1,rfl,g3,g4,g5,g6⟩,h2⟩:=R;obtain⟨x,k,cs,rfl,q1,q2⟩:=H.obj b _ _ hb g1;have F:=fL.kill H g1 ht;obtain⟨F₂,k1,k2⟩:=Ua (F:=fun h l=>fi true h s l) (fun H=>qe H) (X:=⟨X.s,⟨tr,X.h.next⟩,X.w,X.A⟩) F.H hr (q2.ext (F.E.eS H));have F₃:=F.trans F₂;refine⟨F₃,[_],t,rfl,⟨a,len,c,rfl,k1.symm,g3,fun hne=>?_⟩,h2.ext (F₃.E.eS H)⟩;have hpos:0<len:=by
     rcases Nat.eq_zero_or_pos len with r|r
     .subst r;exact absurd (jd k1) hne
     .exact r
    obtain⟨x',k',e1,e2⟩:=g4 hpos;cases e1;refine⟨x,0,cs,by rw[e2];simp,?_,k2,_,ty,_,q1,fun j u hu=>by rw[Nat.zero_add];simpa using hu⟩;rintro(r|⟨j,o',c',p1,p2,p3⟩)
    .exact H.loc b _ _ x hb g1 rfl r
    .have p1':=F₂.sub j o' p1;have hg:=Tr.cI FT X.h.tr b none tr ht j
     replace p1':tr.get j=some o':=p1'
     rw[hg]at p1';by_cases hj:j=b
     .rw[if_pos hj]at p1';cases p1'
     .rw[if_neg hj]at p1';exact hj (H.inj j b o' _ c' _ x p1' hb p2 g1 p3 rfl)
theorem W6{kl:Bool}{X:Cx}(H:aF X):∀{ss:List Sh}{l:List AV}{d:TL ss}{r:List AV}{h':Hp},kL kl X.h ss l=some (d,r,h')->∀{cs:List Value},bB X l cs ->
  fL X h'/\∃c e,cs=c++e/\gZ X.w (Cx.out ⟨X.s,h',X.w,X.A⟩) ss d c/\bB ⟨X.s,h',X.w,X.A⟩ r e
 |[],l,d,r,h',e,cs,R=>by simp only[kL,bV,Prod.mk.injEq]at e;obtain⟨rfl,rfl,rfl⟩:=e;exact⟨fL.refl H,[],cs,rfl,rfl,R⟩
 |s::ss,l,d,r,h',e,cs,R=>by
  simp only[kL]at e;split at e<;>try cases e
  rename_i d₁ r₁ h₁ e₁;split at e<;>try cases e
  rename_i d₂ r₂ h₂ e₂;obtain⟨F₁,c,t,rfl,q1,q2⟩:=qe H e₁ R;obtain⟨F₂,c',t',rfl,q3,q4⟩:=W6 (X:=⟨X.s,h₁,X.w,X.A⟩) F₁.H e₂ q2;exact⟨F₁.trans F₂,c++c',t',by simp,⟨c,c',rfl,q1.bj F₂.E.keeps,q3⟩,q4⟩
end
def pq:Value->Option AV
 |.bool b=>some (.bool b)|.int k n=>some (.int k n)|.string s=>some (.str s)|.pointer a=>match a with|none=>some .ed|some _=>none
 |.slice a len cap=>match a,len,cap with|none,0,0=>some .bk|_,_,_=>none
 |.map a=>match a with|none=>some .fE|some _=>none
 |.nilFunc=>some .fj|.nilIface=>some .fV|_=>none
def oC:List Value->Option (List AV)
 |[]=>some []|x::l=>match pq x with
  |some v=>match oC l with|some vs=>some (v::vs)|none=>none
  |none=>none
def back:Value->Option AV
 |.agg l=>match oC l.toList with|some vs=>some (.agg vs)|none=>none
 |.tuple l=>match oC l.toList with|some vs=>some (.cM vs)|none=>none
 |v=>pq v
theorem WA{x:Value}{v:AV}(h:pq x=some v)(X:Cx):Rel X v x:=by
 cases x with
 |pointer a=>cases a<;>simp[pq]at h;subst h;rfl
 |map a=>cases a<;>simp[pq]at h;subst h;rfl
 |slice a l c=>
  simp only[pq]at h;split at h
  .simp at h;subst h;rfl
  .cases h
 |_=>simp[pq]at h<;>subst h<;>rfl
theorem QP:∀{x:List Value}{l:List AV},oC x=some l->∀X:Cx,bB X l x
 |[],l,h,X=>by simp[oC]at h;subst h;rfl|x::xs,l,h,X=>by
  simp only[oC]at h;cases hv:pq x<;>simp only[hv]at h
  .cases h
  cases hl:oC xs<;>simp only[hl]at h
  .cases h
  simp at h;subst h;exact⟨x,xs,rfl,WA hv X,QP hl X⟩
theorem JU{x:Value}{v:AV}(h:back x=some v)(X:Cx):Rel X v x:=by
 cases x with
 |agg l=>
  simp only[back]at h;cases hl:oC l.toList<;>simp only[hl]at h
  .cases h
  simp at h;subst h;exact⟨l.toList,by simp,QP hl X⟩
 |tuple l=>
  simp only[back]at h;cases hl:oC l.toList<;>simp only[hl]at h
  .cases h
  simp at h;subst h;exact⟨l.toList,by simp,QP hl X⟩
 |_=>simp only[back]at h;exact WA h X
def dp(T:Tr AV):Operand->Option AV
 |.tmp t=>T.get t|.const v=>back v|.func f=>some (.func f [] [])|.global _=>none
def oJ(X:Cx)(T:Tr AV)(a:Act)(o:Op):Prop:=∀x∈o.operands,∀u,dp T x=some u->Rel X u (a.eval x)
theorem Qp{X:Cx}{T:Tr AV}{a:Act}{o:Op}(h:∀t,.tmp t∈o.operands->∀u,T.get t=some u->∃V,a.tmps[t]?=some V/\Rel X u V):oJ X T a o:=by
 intro x hx u hu;cases x with
 |tmp t=>obtain⟨V,h1,h2⟩:=h t hx u hu;simpa[Act.eval,Array.getD_eq_getD_getElem?,h1]using h2
 |const v=>exact JU hu X|func f=>simp[dp]at hu;subst hu;exact⟨[],[],rfl,rfl,rfl⟩|global g=>simp[dp]at hu
def jJ(T:Tr AV):List Operand->Option (List AV)
 |[]=>some []|x::l=>match dp T x with
  |some v=>match jJ T l with|some vs=>some (v::vs)|none=>none
  |none=>none
theorem Xc{X:Cx}{T:Tr AV}{a:Act}:∀{l:List Operand}{vs:List AV},jJ T l=some vs->(∀x∈l,∀u,dp T x=some u->Rel X u (a.eval x))->bB X vs (l.map a.eval)
 |[],vs,h,_=>by simp[jJ]at h;subst h;rfl|x::l,vs,h,hr=>by
  simp only[jJ]at h;cases hv:dp T x<;>simp only[hv]at h
  .cases h
  cases hl:jJ T l<;>simp only[hl]at h
  .cases h
  simp at h;subst h;exact⟨_,_,rfl,hr x (by simp) _ hv,Xc hl (fun y hy=>hr y (by simp[hy]))⟩
def lT(P:Program)(t:TypeId):Option AV:=match P.info? t with
 |some i=>match i.zero with|some v=>back v|none=>none
 |none=>none
theorem oU{P:Program}{t:TypeId}{v:AV}(h:lT P t=some v)(X:Cx)(w:World):∃V,(zeroValue t).run P w=.ok V w/\Rel X v V:=by
 unfold lT at h;cases hi:P.info? t<;>simp only[hi]at h
 .cases h
 rename_i i;cases hz:i.zero<;>simp only[hz]at h
 .cases h
 exact⟨_,by simp only[zeroValue,Sem.run_bind,run_typeInfo hi,Result.andThen_ok,hz,Sem.run_pure],JU h X⟩
def iu:AV->List AV
 |.agg l=>l|v=>[v]
theorem Wd{V:Value}(h:Ev.mG V=true):V.cells=#[V]:=by cases V<;>first|rfl|cases h
theorem k9{X:Cx}{v:AV}{V:Value}(h:Rel X v V):bB X (iu v) V.cells.toList:=by
 have single:∀{u:AV}{U:Value},Rel X u U->U.cells=#[U]->bB X [u] U.cells.toList:=fun{u U} q e=>by rw[e];exact⟨U,[],rfl,q,rfl⟩
 cases v with
 |agg l=>obtain⟨cs,rfl,h2⟩:=h;simpa[iu,Value.cells]using h2
 |cM l=>exact single h (by obtain⟨cs,rfl,h2⟩:=h;rfl)
 |jK=>exact single h (Wd h)|bool b=>exact single h (by rw[show V=_ from h];rfl)|int k n=>exact single h (by rw[show V=_ from h];rfl)|str s=>exact single h (by rw[show V=_ from h];rfl)|ed=>exact single h (by rw[show V=_ from h];rfl)|bk=>exact single h (by rw[show V=_ from h];rfl)|fE=>exact single h (by rw[show V=_ from h];rfl)|fj=>exact single h (by rw[show V=_ from h];rfl)|fV=>exact single h (by rw[show V=_ from h];rfl)|ptr b off=>exact single h (by obtain⟨x,c,h1,rfl⟩:=h;rfl)
 |dT b i z o=>exact single h (by obtain⟨x,c,h1,rfl,_⟩:=h;rfl)
 |fX σ d o=>exact single h (by obtain⟨b,off,cs,rfl,_⟩:=h;rfl)
 |hd b τ=>exact single h (by obtain⟨l,h1,hc,_⟩:=h;exact Wd hc)
 |vw b τ off len=>exact single h (by obtain⟨l,a,c,h1,rfl,_⟩:=h;rfl)
 |fz τ L=>exact single h (by obtain⟨a,len,cap,e,_⟩:=h;simp only[List.cons.injEq,and_true]at e;rw[e];rfl)
 |func f x c=>exact single h (by obtain⟨xs,cs,rfl,_⟩:=h;rfl)
 |ej τ z L=>exact single h (by obtain⟨_,a,l,c,rfl,_⟩:=h;rfl)
 |mp b=>exact single h (by obtain⟨x,c,h1,rfl⟩:=h;rfl)
 |dW b=>exact single h (by obtain⟨l,h1,rfl⟩:=h;cases l<;>rfl)
 |rp b i=>exact single h (by obtain⟨x,c,m,p,h1,h2,rfl⟩:=h;rfl)
 |ra b i=>exact single h (by obtain⟨x,c,m,h1,h2,rfl⟩:=h;rfl)
def one:AV->Bool
 |.agg _|.cM _=>false|_=>true
def pO:List AV->Bool
 |[]=>true|x::l=>match one x with|true=>pO l|false=>false
theorem Xu{X:Cx}{v:AV}{V:Value}(h:one v=true)(R:Rel X v V):Ev.mG V=true:=by
 cases v with
 |agg l=>cases h
 |cM l=>cases h
 |jK=>exact R|bool b=>rw[show V=_ from R];rfl|int k n=>rw[show V=_ from R];rfl|str s=>rw[show V=_ from R];rfl|ed=>rw[show V=_ from R];rfl|bk=>rw[show V=_ from R];rfl|fE=>rw[show V=_ from R];rfl|fj=>rw[show V=_ from R];rfl|fV=>rw[show V=_ from R];rfl|ptr b off=>obtain⟨x,c,h1,rfl⟩:=R;rfl
 |dT b i z o=>obtain⟨x,c,h1,rfl,_⟩:=R;rfl
 |fX σ d o=>obtain⟨b,off,cs,rfl,_⟩:=R;rfl
 |hd b τ=>obtain⟨l,h1,hc,_⟩:=R;exact hc
 |vw b τ off len=>obtain⟨l,a,c,h1,rfl,_⟩:=R;rfl
 |fz τ L=>obtain⟨a,len,cap,e,_⟩:=R;simp only[List.cons.injEq,and_true]at e;rw[e];rfl
 |func f x c=>obtain⟨xs,cs,rfl,_⟩:=R;rfl
 |ej τ z L=>obtain⟨_,a,l,c,rfl,_⟩:=R;rfl
 |mp b=>obtain⟨x,c,h1,rfl⟩:=R;rfl
 |dW b=>obtain⟨l,h1,rfl⟩:=R;cases l<;>rfl
 |rp b i=>obtain⟨x,c,m,p,h1,h2,rfl⟩:=R;rfl
 |ra b i=>obtain⟨x,c,m,h1,h2,rfl⟩:=R;rfl
theorem FZ{X:Cx}:∀{l:List AV}{cs:List Value},pO l=true->bB X l cs->∀V∈cs,Ev.mG V=true
 |[],cs,_,R,V,hV=>by rw[show cs=[]from R]at hV;cases hV
 |x::l,_,h,⟨v,r,rfl,h1,h2⟩,V,hV=>by
  simp only[pO]at h;split at h<;>try cases h
  rename_i hx;rcases List.mem_cons.1 hV with rfl|hV
  .exact Xu hx h1
  .exact FZ h h2 V hV
open Go.Proofs.YtkcpdpplobhpaaaGreat.Ev (Tr Tr.cI nth dI takeN ic j6 j7 dr gL kr run_underlying run_typeInfo run_sizeOf fJ h9 places pW j8 oL ns)
def av(n:Int)(len:Nat):Bool:=decide (0<=n)&&decide (n<(len:Int))
theorem sG{n:Int}{len:Nat}(h:av n len=true):∃m:Nat,n=(m:Int)/\m<len:=by simp only[av,Bool.and_eq_true,decide_eq_true_eq]at h;exact⟨n.toNat,by omega,by omega⟩
def both(a b:Bool):Bool:=match a with|true=>b|false=>false
theorem nv{a b:Bool}(h:both a b=true):a=true/\b=true:=by cases a<;>simp_all [both]
def bn(c a b:Bool):Bool:=match c with|true=>a|false=>b
def du(c:Bool)(a b:Int):Int:=match c with|true=>a|false=>b
def kC(a b:IntKind):Bool:=Nat.beq (Ev.IntKind.num a) (Ev.IntKind.num b)
theorem mD{a b:IntKind}(h:kC a b=true):a=b:=Ev.IntKind.uh (bD h)
def kv(k:IntKind)(a b:Int):Int:=k.wrap ((BitVec.ofInt k.bits a &&& BitVec.ofInt k.bits b).toNat:Int)
def tt(k:IntKind)(a b:Int):Int:=k.wrap ((BitVec.ofInt k.bits a ||| BitVec.ofInt k.bits b).toNat:Int)
def sx(k:IntKind)(a b:Int):Int:=k.wrap ((BitVec.ofInt k.bits a ^^^ BitVec.ofInt k.bits b).toNat:Int)
def Vv(k:IntKind)(a b:Int):Int:=k.wrap ((BitVec.ofInt k.bits a &&& ~~~ (BitVec.ofInt k.bits b)).toNat:Int)
def arith(op:BinOp)(k:IntKind)(a b:Int):Option (Bool×AV):=match op with|.add=>some (true,.int k (k.wrap (a+b)))|.sub=>some (true,.int k (k.wrap (a-b)))|.mul=>some (true,.int k (k.wrap (a*b)))|.quo=>some (!(decide (b=0)),.int k (k.wrap (a.tdiv b)))|.rem=>some (!(decide (b=0)),.int k (a.tmod b))|.and=>some (true,.int k (kv k a b))|.or=>some (true,.int k (tt k a b))|.xor=>some (true,.int k (sx k a b))|.andNot=>some (true,.int k (Vv k a b))|.eql=>some (true,.bool (a == b))|.neq=>some (true,.bool (a != b))|.lss=>some (true,.bool (decide (a<b)))|.leq=>some (true,.bool (decide (a<=b)))|.gtr=>some (true,.bool (decide (a > b)))|.geq=>some (true,.bool (decide (a>=b)))|_=>none
def Kg(op:BinOp)(k:IntKind)(a b:Int):Option (Bool×AV):=match op with|.shl=>some (decide (0<=b),.int k (k.wrap (a*2^(min b.toNat k.bits))))|.shr=>some (decide (0<=b),.int k (a.fdiv (2^(min b.toNat k.bits))))|_=>none
def XL:BinOp->Bool|.shl|.shr=>true|_=>false
def JI(op:BinOp)(a b:ByteArray):Option (Bool×AV):=match op with|.add=>some (decide (((a.size+b.size:Nat):Int)<=IntKind.i64.max),.str (a++b))|.eql=>some (true,.bool (a.toList == b.toList))|.neq=>some (true,.bool (!(a.toList == b.toList)))|.lss=>some (true,.bool (Op.bytesLess a.toList b.toList))|_=>none
def Ko:TypeDesc->AV->AV->Option Bool
 |.pointer _,.ed,.ed=>some true|.pointer _,.ed,.ptr _ _|.pointer _,.ptr _ _,.ed|.pointer _,.ed,.dT _ _ _ _|.pointer _,.dT _ _ _ _,.ed|.pointer _,.ed,.fX _ _ _|.pointer _,.fX _ _ _,.ed=>some false|.slice _,.bk,.bk=>some true|.slice _,.ej _ z _,.bk=>some z|.slice _,.bk,.ej _ z _=>some z|.map _ _,.fE,.fE=>some true|.func _ _ _,.fj,.fj=>some true|.func _ _ _,.fj,.func _ _ _|.func _ _ _,.func _ _ _,.fj=>some false|.bool,.bool a,.bool b=>some (a == b)|_,_,_=>none
def Jt(P:Program)(op:BinOp)(t:TypeId)(u v:AV):Option (Bool×AV):=match u,v with
 |.int k a,.int k' b=>match XL op with|true=>Kg op k a b|false=>match kC k k' with|true=>arith op k a b|false=>none
 |.str a,.str b=>JI op a b|u,v=>match P.underlying t with
  |some d=>match Ko d u v with
   |some b=>match op with|.eql=>some (true,.bool b)|.neq=>some (true,.bool (!b))|_=>none
   |none=>none
  |none=>none
theorem aki{P:Program}{op:BinOp}{k:IntKind}{a b:Int}{g:Bool}{v:AV}(e:arith op k a b=some (g,v))(hg:g=true)(hs:XL op=false)(t:TypeId)(x y:Operand)(X:Cx)(w:World) :
  ∃V,(do eqGuard op t x y (.int k a) (.int k b);binOp op t (.int k a) (.int k b)).run P w=.ok V w/\Rel X v V:=by
 subst hg;cases op<;>simp only[arith,bV,Prod.mk.injEq]at e<;>first|(cases e;done)|skip
 all_goals
  obtain⟨e1,rfl⟩:=e;refine⟨_,?_,rfl⟩
  first
  |(have hb:¬b=0:=(by simpa using e1);simp[eqGuard,binOp,Op.intArith,Op.intDiv,Op.intBits,Op.intCmp,hb])
  |simp[eqGuard,binOp,Op.intArith,Op.intDiv,Op.intBits,Op.intCmp,kv,tt,sx,Vv]
theorem aju{P:Program}{op:BinOp}{k k':IntKind}{a b:Int}{g:Bool}{v:AV}(e:Kg op k a b=some (g,v))(hg:g=true)(t:TypeId)(x y:Operand)(X:Cx)(w:World) :
  ∃V,(do eqGuard op t x y (.int k a) (.int k' b);binOp op t (.int k a) (.int k' b)).run P w=.ok V w/\Rel X v V:=by
 subst hg;cases op<;>simp only[Kg,bV,Prod.mk.injEq]at e<;>first|(cases e;done)|skip
 all_goals
  obtain⟨e1,rfl⟩:=e;have hb:¬b<0:=by have:=of_decide_eq_true e1;omega
  exact⟨_,by simp[eqGuard,binOp,Op.shift,hb],rfl⟩
theorem ajT{P:Program}{op:BinOp}{a b:ByteArray}{g:Bool}{v:AV}(e:JI op a b=some (g,v))(hg:g=true)(t:TypeId)(x y:Operand)(X:Cx)(w:World) :
  ∃V,(do eqGuard op t x y (.string a) (.string b);binOp op t (.string a) (.string b)).run P w=.ok V w/\Rel X v V:=by
 subst hg;cases op<;>simp only[JI,bV,Prod.mk.injEq]at e<;>first|(cases e;done)|skip
 all_goals
  obtain⟨e1,rfl⟩:=e;refine⟨_,?_,rfl⟩
  first
  |(have hb:¬(((a.size+b.size:Nat):Int) > IntKind.i64.max):=(by have:=of_decide_eq_true e1;omega);have hs:(Op.stringOp .add a b)=pure (.string (a++b)):=(by unfold Op.stringOp;simp only[];rw[if_neg hb]);simp[eqGuard,binOp,hs];done)
  |simp[eqGuard,binOp,Op.stringOp]
theorem ajD{P:Program}{t:TypeId}{d:TypeDesc}{u v:AV}{b:Bool}(hu:P.underlying t=some d)(h:Ko d u v=some b){X:Cx}{U V:Value}(h1:Rel X u U)(h2:Rel X v V)(w:World)(x y:Operand) :
  (do eqGuard .eql t x y U V;binOp .eql t U V).run P w=.ok (.bool b) w/\(do eqGuard .neq t x y U V;binOp .neq t U V).run P w=.ok (.bool (!b)) w:=by
 have hr:=run_underlying hu w;have fin:∀{U V:Value},eqGuard .eql t x y U V=pure ()->eqGuard .neq t x y U V=pure ()->binOp .eql t U V=(do pure (.bool (<- Op.equal t U V)))->binOp .neq t U V=(do pure (.bool (!(<- Op.equal t U V)))) ->
   (∀n,(Op.equalIn (n+1) t U V).run P w=.ok b w) ->
   (do eqGuard .eql t x y U V;binOp .eql t U V).run P w=.ok (.bool b) w/\(do eqGuard .neq t x y U V;binOp .neq t U V).run P w=.ok (.bool (!b)) w:=by
  intro U V g1 g2 g3 g4 g5;have g5:(Op.equal t U V).run P w=.ok b w:=g5 9999;exact⟨by simp[g1,g3,g5],by simp[g2,g4,g5]⟩
 unfold Ko at h;split at h<;>first|(cases h;done)|skip
 all_goals
  simp only[bV]at h;subst h
 .rw[show U=_ from h1,show V=_ from h2];exact fin rfl rfl rfl rfl (fun n=>by simp[Op.equalIn,hr])
 .obtain⟨x₁,c₁,-,rfl⟩:=h2;rw[show U=_ from h1];exact fin rfl rfl rfl rfl (fun n=>by simp[Op.equalIn,hr])
 .obtain⟨x₁,c₁,-,rfl⟩:=h1;rw[show V=_ from h2];exact fin rfl rfl rfl rfl (fun n=>by simp[Op.equalIn,hr])
 .obtain⟨x₁,c₁,-,rfl,-⟩:=h2;rw[show U=_ from h1];exact fin rfl rfl rfl rfl (fun n=>by simp[Op.equalIn,hr])
 .obtain⟨x₁,c₁,-,rfl,-⟩:=h1;rw[show V=_ from h2];exact fin rfl rfl rfl rfl (fun n=>by simp[Op.equalIn,hr])
 .obtain⟨x₁,c₁,c₂,rfl,-⟩:=h2;rw[show U=_ from h1];exact fin rfl rfl rfl rfl (fun n=>by simp[Op.equalIn,hr])
 .obtain⟨x₁,c₁,c₂,rfl,-⟩:=h1;rw[show V=_ from h2];exact fin rfl rfl rfl rfl (fun n=>by simp[Op.equalIn,hr])
 .rw[show U=_ from h1,show V=_ from h2];exact fin rfl rfl rfl rfl (fun n=>by simp[Op.equalIn,hr])
 .obtain⟨-,a,l,c,rfl,hz⟩:=h1;rw[show V=_ from h2];exact fin rfl rfl rfl rfl (fun n=>by cases a<;>simp at hz<;>simp[Op.equalIn,hr,hz])
 .obtain⟨-,a,l,c,rfl,hz⟩:=h2;rw[show U=_ from h1];exact fin rfl rfl rfl rfl (fun n=>by cases a<;>simp at hz<;>simp[Op.equalIn,hr,hz])
 .rw[show U=_ from h1,show V=_ from h2];exact fin rfl rfl rfl rfl (fun n=>by simp[Op.equalIn,hr])
 .rw[show U=_ from h1,show V=_ from h2];exact fin rfl rfl rfl rfl (fun n=>by simp[Op.equalIn,hr])
 .obtain⟨xs,cs,rfl,-⟩:=h2;rw[show U=_ from h1];exact fin rfl rfl rfl rfl (fun n=>by simp[Op.equalIn,hr])
 .obtain⟨xs,cs,rfl,-⟩:=h1;rw[show V=_ from h2];exact fin rfl rfl rfl rfl (fun n=>by simp[Op.equalIn,hr])
 .rw[show U=_ from h1,show V=_ from h2];exact fin rfl rfl rfl rfl (fun n=>by simp[Op.equalIn,hr])
theorem Zx5{P:Program}{op:BinOp}{t:TypeId}{u v r:AV}{g:Bool}(e:Jt P op t u v=some (g,r))(hg:g=true){X:Cx}{U V:Value}(h1:Rel X u U)(h2:Rel X v V)(x y:Operand)(w:World) :
  ∃R,(do eqGuard op t x y U V;binOp op t U V).run P w=.ok R w/\Rel X r R:=by
 unfold Jt at e;split at e
 .rename_i k a k' b;rw[show U=_ from h1,show V=_ from h2];split at e
  .exact aju e hg t x y X w
  .rename_i hs;split at e<;>try cases e
   rename_i hk;have:=mD hk;subst this;exact aki e hg hs t x y X w
 .rename_i a b;rw[show U=_ from h1,show V=_ from h2];exact ajT e hg t x y X w
 .split at e<;>try cases e
  rename_i d hu;split at e<;>try cases e
  rename_i b hb;obtain⟨q1,q2⟩:=ajD hu hb h1 h2 w x y;split at e<;>first|(cases e;done)|(cases e;exact⟨_,q1,rfl⟩)|(cases e;exact⟨_,q2,rfl⟩)
def uj(h:Hp):AV->Option (Bool×List AV×Nat)
 |.ptr b off=>match h.tr.get b with|some (.cells l _)=>some (true,l,off)|_=>none
 |.dT b i z o=>match h.tr.get b with
  |some (.arr τ L _)=>match Nat.beq z τ.size with|true=>some (true,nz τ (L.getD i τ.zero),o)|false=>none
  |some (.dV τ k L vs _)=>match Nat.beq z τ.size with|true=>some (Nat.beq i k,vs,o)|false=>none
  |_=>none
 |.fX σ d o=>some (true,nz σ d,o)|.ra b i=>match h.tr.get b with|some (.dL _ _)=>some (true,[.rp b i],0)|_=>none
 |_=>none
theorem Zxc{X:Cx}(H:aF X){u:AV}{g:Bool}{l:List AV}{o:Nat}{U:Value}(e:uj X.h u=some (g,l,o))(hg:g=true)(R:Rel X u U) :
  ∃b off c ty fr cs,U=.pointer (some ⟨b,off+o,none⟩)/\X.w.heap[b]?=some (.cells c ty fr)/\bB X l cs/\∀j v,cs[j]?=some v->c[off+j]?=some v:=by
 unfold uj at e;split at e<;>try cases e
 .rename_i b off;split at e<;>try cases e
  rename_i ty hb;obtain⟨x,c,h1,rfl⟩:=R;obtain⟨x',c',cs,e1,e2,e3⟩:=H.obj b _ _ hb h1;cases e1;exact⟨x,0,_,ty,_,cs,by simp,e2,e3,fun j v q=>by simpa using q⟩
 .rename_i b i z o';split at e<;>try cases e
  .rename_i τ L ty hb;split at e<;>try cases e
   rename_i hz;have hz:=bD hz;subst hz;obtain⟨x,c,h1,rfl,h3⟩:=R;have hi:=h3 _ (gF hb);obtain⟨cs,tail,q1,q2,q3,q4⟩:=H.obj b _ _ hb h1;obtain⟨d,p1,p2⟩:=bw.get (fun x c=>Cs.length) q2 (aN hi);refine⟨x,i*τ.size,_,ty,_,d,rfl,q1,?_,?_⟩
   .rw[bM,aN hi];exact tY p1
   .intro j v hv;have hj:j<τ.size:=by
     rw[<-Cs.length p1];rcases de j d.length with q|q
     .exact q
     .rw[ep q]at hv;cases hv
    rw[<-p2 j hj]at hv;simp only[List.getElem?_toArray];rw[List.getElem?_append_left]
    .exact hv
    .rcases de (i*τ.size+j) cs.length with q|q
     .exact q
     .rw[ep q]at hv;cases hv
  .rename_i τ k L vs ty hb;split at e<;>try cases e
   rename_i hz;have hz:=bD hz;subst hz;have hg:=bD hg;subst hg;obtain⟨x,c,h1,rfl,h3⟩:=R;obtain⟨x',c',pre,mid,post,tail,e1,q1,q2,q3,q4,q5,q6,q7,q8⟩:=H.obj b _ _ hb h1;cases e1;have hpre:pre.length=i*τ.size:=by rw[bw.length (fun x c=>Cs.length) q2,dx,Nat.min_eq_left (by omega)]
   refine⟨x,i*τ.size,_,ty,_,mid,rfl,q1,q3,?_⟩;intro j v hv;simp only[List.getElem?_toArray];rw[<-hpre,List.getElem?_append_right (by omega),Nat.add_sub_cancel_left,List.getElem?_append_left]
   .exact hv
   .rcases de j mid.length with q|q
    .exact q
    .rw[ep q]at hv;cases hv
 .rename_i σ d;obtain⟨b,off,cs,rfl,h2,h3,c,ty,fr,h4,h5⟩:=R;exact⟨b,off,c,ty,fr,cs,rfl,h4,tY h3,h5⟩
 .rename_i b i;split at e<;>cases e;rename_i L ty hb;obtain⟨x,c,m,h1,h2,rfl⟩:=R;obtain⟨tail,ty',q1,q2,q3,q4⟩:=H.obj b _ _ hb h1;have hp:=aN h2;refine⟨x,i,_,ty',_,[.pointer (some ⟨m[i].1,0,none⟩)],rfl,q1,⟨_,[],rfl,⟨x,c,m,m[i],h1,hp,rfl⟩,rfl⟩,?_⟩;intro j v hv;cases j with|zero=>simp only[List.getElem?_cons_zero,bV]at hv;subst hv;rw[Nat.add_zero,List.getElem?_toArray,List.getElem?_append_left (by unfold jR;simpa using h2)];unfold jR;rw[bT,hp];rfl|succ j=>simp at hv
def rE(P:Program)(t:TypeId)(l:List AV)(off:Nat):Option AV:=match oL P t with
 |some true=>match fJ P t with
  |some n=>match Nat.ble (off+n) l.length with|true=>some (.agg (takeN n (ic off l)))|false=>none
  |none=>none
 |some false=>nth l off|none=>none
theorem P4{P:Program}{t:TypeId}{l:List AV}{off:Nat}{v:AV}(e:rE P t l off=some v){X:Cx}{cs:List Value}(R:bB X l cs)(w:World) :
  ∃V,(part t cs.toArray off).run P w=.ok V w/\Rel X v V:=by
 unfold rE at e;split at e
 .rename_i ha;split at e<;>try cases e
  rename_i n hn;split at e<;>try cases e
  refine⟨.agg ((cs.drop off).take n).toArray,?_,⟨_,rfl,by rw[j6,j7];exact(R.drop off).take n⟩⟩;simp[part,ns ha,run_sizeOf hn,List.extract_eq_take_drop]
 .rename_i ha;rw[dI]at e;obtain⟨V,h1,h2⟩:=R.get e;exact⟨V,by simp[part,ns ha,h1],h2⟩
 .cases e
def rC(P:Program)(h:Hp)(t:TypeId)(u:AV):Option (Bool×AV):=match uj h u with
 |some (g,l,o)=>match rE P t l o with|some v=>some (g,v)|none=>none
 |none=>none
theorem Zpo{P:Program}{t:TypeId}{u v:AV}{g:Bool}{X:Cx}(H:aF X)(e:rC P X.h t u=some (g,v))(hg:g=true){U:Value}(R:Rel X u U) :
  ∃V,(Instr.loadAt t U).run P X.w=.ok V X.w/\Rel X v V:=by
 unfold rC at e;split at e<;>try cases e
 rename_i g' l o hc;split at e<;>cases e;rename_i e;obtain⟨b,off,c,ty,fr,cs,rfl,h1,h2,h3⟩:=Zxc H hc hg R;unfold rE at e;split at e
 .rename_i ha;split at e<;>try cases e
  rename_i n hn;split at e<;>try cases e
  rename_i hle;have hle:=Nat.le_of_ble_eq_true hle;have hcl:=h2.length;rcases Nat.eq_zero_or_pos n with hz|hz
  .subst hz;exact⟨.agg #[],by simp[Instr.loadAt,Instr.sureAddr,loadVar,ns ha,run_sizeOf hn,loadCells,loadCellsFrom],[],rfl,by simp[takeN,bB]⟩
  have hsz:off+o+n<=c.size:=by have:=h3 (o+n-1) cs[o+n-1] (aN (by omega));have:=fN this;omega
  refine⟨.agg ((cs.drop o).take n).toArray,?_,⟨_,rfl,by rw[j6,j7];exact(h2.drop o).take n⟩⟩;simp only[Instr.loadAt,Instr.sureAddr,Sem.run_bind,Sem.run_pure,Result.andThen_ok,loadVar,ns ha,if_true,run_sizeOf hn,loadCells];rw[Ev.run_loadCells (P:=P) h1 n 0 #[] (by omega)];simp only[Result.andThen_ok,Sem.run_pure,Nat.add_zero];congr 3;simp only[List.nil_append];apply List.ext_getElem?;intro j;rw[List.getElem?_take,List.getElem?_take];split
  .rename_i hj;rw[List.getElem?_drop,List.getElem?_drop];have:=h3 (o+j) cs[o+j] (aN (by omega));rw[aN (by omega:o+j<cs.length),<-this];simp[Nat.add_assoc]
  .rfl
 .rename_i ha;rw[dI]at e;obtain⟨V,q1,q2⟩:=h2.get e;refine⟨V,?_,q2⟩;have hc:X.w.cell? ⟨b,off+o,none⟩=some V:=by simp only[World.cell?,h1,Option.isSome_none,Bool.false_eq_true,if_false];exact h3 o V q1
  simp[Instr.loadAt,Instr.sureAddr,loadVar,ns ha,run_load,hc]
 .cases e
def Qr(P:Program)(t:TypeId)(u:AV)(f:Nat):Option AV:=match P.underlying t with
 |some (.struct fields)=>match nth fields.toList f with
  |some fd=>match u with|.agg l=>rE P fd.type l fd.offset|_=>none
  |none=>none
 |_=>none
theorem Zsx{P:Program}{t:TypeId}{u v:AV}{f:Nat}(h:Qr P t u f=some v){X:Cx}{U:Value}(R:Rel X u U)(w:World) :
  ∃V,(Instr.field t U f).run P w=.ok V w/\Rel X v V:=by
 unfold Qr at h;cases hu:P.underlying t with
 |none=>simp[hu]at h|some d=>
  have hr:=run_underlying hu w;cases d<;>simp only[hu]at h<;>try cases h
  rename_i fields;cases hf:nth fields.toList f<;>simp only[hf]at h
  .cases h
  rename_i fd;rw[dI]at hf;cases u<;>simp only[]at h<;>try cases h
  have hf':fields[f]?=some fd:=by simpa using hf
  obtain⟨cs,rfl,R'⟩:=R;obtain⟨V,q1,q2⟩:=P4 h R' w;exact⟨V,by simp[Instr.field,hr,hf',asAgg,q1],q2⟩
def KD:AV->Nat->Option AV
 |.ptr b off,n=>some (.ptr b (off+n))|.dT b i z o,n=>some (.dT b i z (o+n))|.fX σ d o,n=>some (.fX σ d (o+n))|_,_=>none
theorem ajQ{X:Cx}{u v:AV}{n:Nat}{U:Value}(e:KD u n=some v)(R:Rel X u U):∃b o,U=.pointer (some ⟨b,o,none⟩)/\Rel X v (.pointer (some ⟨b,o+n,none⟩)):=by
 unfold KD at e;split at e<;>cases e
 .obtain⟨x,c,h1,rfl⟩:=R;exact⟨_,_,rfl,x,c,h1,rfl⟩
 .obtain⟨x,c,h1,rfl,h3⟩:=R;exact⟨_,_,rfl,x,c,h1,by simp[Nat.add_assoc],h3⟩
 .obtain⟨b,off,cs,rfl,h⟩:=R;exact⟨_,_,rfl,b,off,cs,by simp[Nat.add_assoc],h⟩
def PY(P:Program)(t:TypeId)(u:AV)(f:Nat):Option AV:=match P.underlying t with
 |some (.struct fields)=>match nth fields.toList f with
  |some fd=>match fJ P fd.type with|some (n+1)=>KD u fd.offset|_=>none
  |none=>none
 |_=>none
theorem Zqv{P:Program}{t:TypeId}{u v:AV}{f:Nat}(h:PY P t u f=some v){X:Cx}{U:Value}(R:Rel X u U)(w:World) :
  ∃V,(Instr.fieldAt t U f).run P w=.ok V w/\Rel X v V:=by
 unfold PY at h;cases hu:P.underlying t with
 |none=>simp[hu]at h|some d=>
  have hr:=run_underlying hu w;cases d<;>simp only[hu]at h<;>try cases h
  rename_i fields;cases hf:nth fields.toList f<;>simp only[hf]at h
  .cases h
  rename_i fd;rw[dI]at hf;have hf':fields[f]?=some fd:=by simpa using hf
  split at h<;>try cases h
  rename_i n hs;obtain⟨b,o,rfl,q⟩:=ajQ h R;exact⟨_,by simp[Instr.fieldAt,hr,hf',Instr.sureAddr,fieldPlace,run_sizeOf hs,h9],q⟩
def tT(P:Program)(h:Hp)(t:TypeId)(u i:AV):Option (Bool×AV):=match i with
 |.int k n=>match P.underlying t with
  |some (.slice elem)=>match fJ P elem with
   |some sz=>match u with
    |.hd b _=>match h.tr.get b with
     |some (.arr τ L _)=>match Nat.beq sz τ.size with|true=>some (av n L.length,.dT b n.toNat sz 0)|false=>none
     |some (.dV τ _ L _ _)=>match Nat.beq sz τ.size with|true=>some (av n L.length,.dT b n.toNat sz 0)|false=>none
     |_=>none
    |.vw b τ off len=>match Nat.beq sz τ.size with
     |true=>match h.tr.get b with|some (.cells _ _)=>some (av n len,.ptr b ((off+n.toNat)*sz))|some (.arr _ _ _)=>some (av n len,.dT b (off+n.toNat) sz 0)|_=>none
     |false=>none
    |.fz τ L=>match Nat.beq sz τ.size with|true=>some (av n L.length,.fX τ (L.getD n.toNat τ.zero) 0)|false=>none
    |.dW b=>match h.tr.get b with
     |some (.dL L _)=>match Nat.beq sz 1 with|true=>some (av n L.length,.ra b n.toNat)|false=>none
     |_=>none
    |_=>none
   |none=>none
  |some (.array len elem)=>match n with
   |.ofNat n=>match u,fJ P elem with
    |.ptr b off,some sz=>match Nat.blt n len with|true=>some (true,.ptr b (off+n*sz))|false=>none
    |_,_=>none
   |_=>none
  |_=>none
 |_=>none
theorem Zqu{P:Program}{t:TypeId}{u i v:AV}{g:Bool}{X:Cx}(H:aF X)(h:tT P X.h t u i=some (g,v))(hg:g=true){U I:Value}(R:Rel X u U)(RI:Rel X i I)(w:World) :
  ∃V,(Instr.indexAt t U I).run P w=.ok V w/\Rel X v V:=by
 subst hg;unfold tT at h;cases i<;>simp only[]at h<;>try cases h
 rename_i k n;rw[show I=_ from RI];cases hu:P.underlying t with
 |none=>simp[hu]at h|some d=>
  have hr:=run_underlying hu w;cases d<;>simp only[hu]at h<;>try cases h
  .rename_i elem;split at h<;>try cases h
   rename_i sz hs;split at h<;>try cases h
   .rename_i b τ₀;have fin:∀(n':Nat),rowOf X.h.tr b=some n'->av n n'=true->(∀l,X.s b=some l->∃x c,l=.at x c\/n'=0)->∃V,(Instr.indexAt t U (.int k n)).run P w=.ok V w/\Rel X (.dT b n.toNat sz 0) V:=by
     intro n' hrow aY hl;obtain⟨m,rfl,hm⟩:=sG aY;obtain⟨l,h1,_,h2⟩:=R;have hV:=h2 n' hrow;obtain⟨x,c,rfl|rfl⟩:=hl l h1
     .subst hV;refine⟨.pointer (some ⟨x,m*sz,none⟩),by simp[Loc.slice,Instr.indexAt,asIntOf,hr,run_sizeOf hs,h9,hm],x,c,h1,by simp,?_⟩;intro n₂ q;rw[hrow]at q;cases q;simpa using hm
     .exact absurd hm (by omega)
    split at h<;>try cases h
    .rename_i τ L ty hb;split at h<;>try cases h
     rename_i hz;simp only[bV,Prod.mk.injEq]at h;obtain⟨aY,rfl⟩:=h;refine fin _ (gF hb) aY fun l h1=>?_;cases l with|nil=>have hL:L=[]:=H.obj b _ _ hb h1;subst hL;exact⟨0,0,.inr rfl⟩|cE _ _ _=>exact(H.obj b _ _ hb h1:False).elim|«at» x c=>exact⟨x,c,.inl rfl⟩
    .rename_i τ i₀ L vs ty hb;split at h<;>try cases h
     rename_i hz;simp only[bV,Prod.mk.injEq]at h;obtain⟨aY,rfl⟩:=h;refine fin _ (abd hb) aY fun l h1=>?_;obtain⟨x,c,pre,mid,post,tail,e1,_⟩:=H.obj b _ _ hb h1;exact⟨x,c,.inl e1⟩
   .rename_i b τ off len;split at h<;>try cases h
    rename_i hz;have hz:=bD hz;subst hz;obtain⟨l,a,c,h1,rfl,h3,h4,h5,h6⟩:=R;split at h<;>try cases h
    .simp only[bV,Prod.mk.injEq]at h;obtain⟨aY,rfl⟩:=h;obtain⟨m,rfl,hm⟩:=sG aY;obtain⟨x,k',rfl,rfl⟩:=h4 (by omega);exact⟨.pointer (some ⟨x,off*τ.size+m*τ.size,none⟩),by simp[Instr.indexAt,asIntOf,hr,run_sizeOf hs,h9,hm],x,k',h1,by simp[Nat.add_mul]⟩
    .simp only[bV,Prod.mk.injEq]at h;obtain⟨aY,rfl⟩:=h;obtain⟨m,rfl,hm⟩:=sG aY;obtain⟨x,k',rfl,rfl⟩:=h4 (by omega);refine⟨.pointer (some ⟨x,off*τ.size+m*τ.size,none⟩),by simp[Instr.indexAt,asIntOf,hr,run_sizeOf hs,h9,hm],x,k',h1,by simp[Nat.add_mul],?_⟩;intro n' q;have:=h6 n' q;simp;omega
   .rename_i τ L;split at h<;>try cases h
    rename_i hz;have hz:=bD hz;subst hz;simp only[bV,Prod.mk.injEq]at h;obtain⟨aY,rfl⟩:=h;obtain⟨m,rfl,hm⟩:=sG aY;obtain⟨a,len,cap,e1,e2,e3,e4⟩:=R;simp only[List.cons.injEq,and_true]at e1;subst e1;obtain⟨b,o,Y,rfl,q2,q3,q4⟩:=e4 (by intro q;subst q;simp at hm);subst e2;have hget:L[m]?=some L[m]:=aN hm;obtain⟨d,p1,p2⟩:=bw.get (fun x c=>Cs.length) q3 hget;obtain⟨c,ty,fr,r1,r2⟩:=q4;refine⟨.pointer (some ⟨b,o+m*τ.size,none⟩),by simp[Instr.indexAt,asIntOf,hr,run_sizeOf hs,h9,hm],b,o+m*τ.size,d,by simp,q2,?_,c,ty,fr,r1,?_⟩
    .rw[eD,bM,hget];exact p1
    .intro j u hj;have hj':j<τ.size:=by
      rw[<-Cs.length p1];rcases de j d.length with q|q
      .exact q
      .rw[ep q]at hj;cases hj
     rw[<-p2 j hj']at hj;have:=r2 _ _ hj;rw[Nat.add_assoc];exact this
   .rename_i b;split at h<;>try cases h
    rename_i L ty hb;split at h<;>try cases h
    rename_i hz;have hz:=bD hz;subst hz;simp only[bV,Prod.mk.injEq]at h;obtain⟨aY,rfl⟩:=h;obtain⟨m,rfl,hm⟩:=sG aY;obtain⟨l,h1,rfl⟩:=R;cases l with|nil=>have hL:L=[]:=H.obj b _ _ hb h1;subst hL;simp at hm|«at» x c=>exact(H.obj b _ _ hb h1:False).elim|cE x c ps=>obtain⟨tail,ty',q1,q2,q3,q4⟩:=H.obj b _ _ hb h1;have hl:=q3.len;exact⟨.pointer (some ⟨x,m,none⟩),by simp[Loc.Vh,Instr.indexAt,asIntOf,hr,run_sizeOf hs,h9,hl,hm],x,c,ps,h1,by simp;omega,by simp⟩
  .split at h<;>try cases h
   rename_i n;split at h<;>try cases h
   rename_i b off sz hs;split at h<;>try cases h
   rename_i hb;rw[Nat.blt_eq]at hb;obtain⟨x,c,h1,rfl⟩:=R;exact⟨_,by simp[Instr.indexAt,asIntOf,hr,run_sizeOf hs,h9,hb,Instr.sureAddr],x,c,h1,rfl⟩
open Go.Proofs.YtkcpdpplobhpaaaGreat.Ev (Tr Tr.cI nth dI takeN ic j6 j7 dr gL kr run_underlying run_typeInfo run_sizeOf fJ h9 places pW j8 oL ns pX Qm)
def lf(T:Tr AV)(x:Option Operand):Option (Option Int):=match x with|none=>some none|some x=>match dp T x with|some (.int _ n)=>some (some n)|_=>none
theorem JT{T:Tr AV}{x:Option Operand}(h:lf T x=some none):x=none:=by
 unfold lf at h;split at h
 .rfl
 .split at h<;>cases h
theorem JS{X:Cx}{T:Tr AV}{a:Act}{x:Option Operand}{n:Int}(h:lf T x=some (some n))(hr:∀y,x=some y->∀u,dp T y=some u->Rel X u (a.eval y)):∃y k,x=some y/\a.eval y=.int k n:=by
 unfold lf at h;split at h
 .cases h
 .rename_i y;split at h<;>try cases h
  rename_i k hy;exact⟨y,k,rfl,hr y rfl _ hy⟩
def lenOf(h:Hp):AV->Option Nat
 |.hd b _=>match h.tr.get b with|some (.arr _ L _)=>some L.length|some (.dV _ _ L _ _)=>some L.length|_=>none
 |.vw _ _ _ len=>some len|.fz _ L=>some L.length|.ej _ _ L=>some L.length|.bk=>some 0|.dW b=>match h.tr.get b with|some (.dL L _)=>some L.length|_=>none
 |_=>none
theorem Wl{X:Cx}(H:aF X){u:AV}{n:Nat}{U:Value}(e:lenOf X.h u=some n)(R:Rel X u U):∃a c,U=.slice a n c/\n<=c:=by
 unfold lenOf at e;split at e<;>try cases e
 .rename_i b τ;split at e<;>try cases e
  .rename_i τ' L ty hb;obtain⟨l,h1,_,h2⟩:=R;rw[h2 _ (gF hb)];cases l with|nil=>have hL:L=[]:=H.obj b _ _ hb h1;subst hL;exact⟨none,0,rfl,aS _⟩|cE _ _ _=>exact(H.obj b _ _ hb h1:False).elim|«at» x c=>obtain⟨cs,tail,q1,q2,q3,q4⟩:=H.obj b _ _ hb h1;exact⟨_,c,rfl,q4⟩
  .rename_i τ' i' L vs ty hb;obtain⟨l,h1,_,h2⟩:=R;rw[h2 _ (abd hb)];obtain⟨x,c,pre,mid,post,tail,rfl,_,_,_,_,_,_,_,q⟩:=H.obj b _ _ hb h1;exact⟨_,c,rfl,q⟩
 .obtain⟨l,a,c,h1,rfl,h3,_⟩:=R;exact⟨a,c,rfl,h3⟩
 .obtain⟨a,len,cap,e1,e2,e3,_⟩:=R;simp only[List.cons.injEq,and_true]at e1;subst e1;subst e2;exact⟨a,cap,rfl,e3⟩
 .obtain⟨⟨a,len,cap,e1,e2,e3,_⟩,_⟩:=R;simp only[List.cons.injEq,and_true]at e1;subst e1;subst e2;exact⟨a,cap,rfl,e3⟩
 .rw[show U=_ from R];exact⟨none,0,rfl,aS _⟩
 .rename_i b;split at e<;>cases e;rename_i L ty hb;obtain⟨l,h1,rfl⟩:=R;cases l with|nil=>have hL:L=[]:=H.obj b _ _ hb h1;subst hL;exact⟨none,0,rfl,aS _⟩|«at» x c=>exact(H.obj b _ _ hb h1:False).elim|cE x c m=>obtain⟨tail,ty',q1,q2,q3,q4⟩:=H.obj b _ _ hb h1;exact⟨some ⟨x,0,none⟩,c,by rw[<-q3.len];rfl,by rw[<-q3.len];omega⟩
def okB(lo hi:Option Int)(len:Nat):Bool:=match lo,hi with|none,none=>true|some l,none=>both (decide (0<=l)) (decide (l<=(len:Int)))|none,some r=>both (decide (0<=r)) (decide (r<=(len:Int)))|some l,some r=>both (decide (0<=l)) (both (decide (l<=r)) (decide (r<=(len:Int))))
def fq:Option Int->Nat|none=>0|some l=>l.toNat
def fO:Option Int->Nat->Nat|none,n=>n|some r,_=>r.toNat
theorem vQ{lo hi:Option Int}{len:Nat}(h:okB lo hi len=true):fq lo<=fO hi len/\fO hi len<=len/\(∀l,lo=some l->l=(fq lo:Int))/\(∀r,hi=some r->r=(fO hi len:Int)):=by
 cases lo<;>cases hi<;>simp only[okB]at h
 .exact⟨by simp[fq],by simp[fO],by simp,by simp⟩
 .rename_i r;obtain⟨h1,h2⟩:=nv h;simp only[decide_eq_true_eq]at h1 h2;refine⟨by simp[fq],by simp only[fO];omega,by simp,?_⟩;rintro r' q;cases q;simp only[fO];omega
 .rename_i l;obtain⟨h1,h2⟩:=nv h;simp only[decide_eq_true_eq]at h1 h2;refine⟨by simp only[fq,fO];omega,by simp[fO],?_,by simp⟩;rintro l' q;cases q;simp only[fq];omega
 .rename_i l r;obtain⟨h1,h2⟩:=nv h;obtain⟨h2,h3⟩:=nv h2;simp only[decide_eq_true_eq]at h1 h2 h3;refine⟨by simp only[fq,fO];omega,by simp only[fO];omega,?_,?_⟩
  .rintro l' q;cases q;simp only[fq];omega
  .rintro r' q;cases q;simp only[fO];omega
theorem Zlf{P:Program}{X:Cx}{T:Tr AV}{a:Act}{lo hi:Option Operand}{l h:Option Int}{len cap:Nat}(hr:∀x,(lo=some x\/hi=some x)->∀u,dp T x=some u->Rel X u (a.eval x))
  (h1:lf T lo=some l) (h2:lf T hi=some h) (hok:okB l h len=true) (hc:len<=cap) (b:Bool) (w:World) :
  (Instr.sliceBounds b len cap (lo.map a.eval) (hi.map a.eval) none).run P w=.ok (fq l,fO h len,cap) w:=by
 obtain⟨q1,q2,q3,q4⟩:=vQ hok;have bd:∀(k:IntKind) (n y:Nat) (code:BoundsCode),n<=y->(Instr.sliceBound (.int k (n:Int)) y code).run P w=.ok n w:=fun k n y code h=>by simp[Instr.sliceBound,asIntOf,h]
 unfold Instr.sliceBounds;cases l with
 |none=>
  have:=JT h1;subst this;cases h with
  |none=>have:=JT h2;subst this;simp[fq,fO]|some r=>
   obtain⟨y,k,rfl,hy⟩:=JS h2 (fun y hy=>hr y (.inr hy));obtain⟨m,rfl⟩:∃m:Nat,r=(m:Int):=⟨_,q4 r rfl⟩;have hm:fO (some (m:Int)) len=m:=by simp[fO]
   rw[hm]at q2 |-;simp only[Option.map_some,Option.map_none,hy];simp[bd,fq,dK q2 hc]
 |some l=>
  obtain⟨x,kx,rfl,hx⟩:=JS h1 (fun y hy=>hr y (.inl hy));obtain⟨ml,rfl⟩:∃m:Nat,l=(m:Int):=⟨_,q3 l rfl⟩;have hml:fq (some (ml:Int))=ml:=by simp[fq]
  rw[hml]at q1 |-;cases h with
  |none=>have:=JT h2;subst this;simp only[Option.map_some,Option.map_none,hx];simp only[fO]at q1;simp[bd,fO,q1]|some r=>
   obtain⟨y,k,rfl,hy⟩:=JS h2 (fun y hy=>hr y (.inr hy));obtain⟨m,rfl⟩:∃m:Nat,r=(m:Int):=⟨_,q4 r rfl⟩;have hm:fO (some (m:Int)) len=m:=by simp[fO]
   rw[hm]at q1 q2 |-;simp only[Option.map_some,hx,hy];simp[bd,q1,dK q2 hc]
def Ob{α:Type}(lo hi:Option Int)(L:List α):List α:=match lo,hi with|none,none=>L|some l,none=>L.drop l.toNat|none,some r=>L.take r.toNat|some l,some r=>(L.drop l.toNat).take (r.toNat-l.toNat)
theorem agj{α:Type}(lo hi:Option Int)(L:List α):Ob lo hi L=(L.drop (fq lo)).take (fO hi L.length-fq lo):=by
 cases lo<;>cases hi<;>simp[Ob,fq,fO]
 .rw[fR (by simp)]
def ua(P:Program)(h:Hp)(T:Tr AV)(t:TypeId)(u:AV)(lo hi:Option Operand):Option (Bool×AV):=match lf T lo,lf T hi with
 |some l,some r=>match P.underlying t with
  |some (.slice elem)=>match fJ P elem with
   |some sz=>match u with
    |.hd b τ=>match h.tr.get b with
     |some (.arr τ' L _)=>match Nat.beq sz τ.size with|true=>some (okB l r L.length,.vw b τ (fq l) (fO r L.length-fq l))|false=>none
     |_=>none
    |.vw b τ off len=>match Nat.beq sz τ.size with|true=>some (okB l r len,.vw b τ (off+fq l) (fO r len-fq l))|false=>none
    |.fz τ L=>match Nat.beq sz τ.size with|true=>some (okB l r L.length,.fz τ (Ob l r L))|false=>none
    |.bk=>some (okB l r 0,.bk)|_=>none
   |none=>none
  |some .string=>match u with|.str x=>some (okB l r x.size,.str (x.extract (fq l) (fO r x.size)))|_=>none
  |_=>none
 |_,_=>none
theorem QF(x o n sz m l:Nat)(h:l<m):(if m=l then(some ⟨x,o,none⟩:Option Addr)else(some ⟨x,o,none⟩:Option Addr).map (·.add (l*sz)))=some ⟨x,o+l*sz,none⟩:=by rw[if_neg (by omega)];simp[h9]
theorem Zsu{P:Program}{T:Tr AV}{t:TypeId}{u v:AV}{lo hi:Option Operand}{g:Bool}{X:Cx}(H:aF X)(e:ua P X.h T t u lo hi=some (g,v))(hg:g=true){U:Value}(R:Rel X u U){a:Act}
  (hr:∀x,(lo=some x\/hi=some x)->∀u,dp T x=some u->Rel X u (a.eval x)) (w:World) :
  ∃V,(Instr.sliceAt t U (lo.map a.eval) (hi.map a.eval) none).run P w=.ok V w/\Rel X v V:=by
 subst hg;unfold ua at e;split at e<;>try cases e
 rename_i l r h1 h2;split at e
 .rename_i elem hu;have hru:=run_underlying hu w;split at e<;>try cases e
  rename_i sz hs;have main:∀(A:Option Addr) (len cap:Nat),okB l r len=true->len<=cap->(Instr.sliceAt t (.slice A len cap) (lo.map a.eval) (hi.map a.eval) none).run P w =
    .ok (.slice (if cap=fq l then A else A.map (·.add (fq l*sz))) (fO r len-fq l) (cap-fq l)) w:=by
   intro A len cap hok hc;simp only[Instr.sliceAt,Instr.slice,Sem.run_bind,hru,Result.andThen_ok,Zlf hr h1 h2 hok hc true w,run_sizeOf hs,Sem.run_pure]
  split at e<;>try cases e
  .rename_i b τ;split at e<;>try cases e
   rename_i τ' L ty hb;split at e<;>try cases e
   rename_i hz;have hz:=bD hz;subst hz;simp only[bV,Prod.mk.injEq]at e;obtain⟨hok,rfl⟩:=e;obtain⟨q1,q2,_,_⟩:=vQ hok;obtain⟨A,c,rfl,hc⟩:=Wl H (show lenOf X.h (.hd b τ)=some L.length by simp[lenOf,hb]) R;obtain⟨k,g1,_,g2⟩:=R;have g3:=g2 _ (gF hb);refine⟨_,main A L.length c hok hc,k,_,_,g1,rfl,by omega,?_,?_,?_⟩
   .intro hp;cases k with|nil=>simp[Loc.slice]at g3;omega|cE _ _ _=>exact(H.obj b _ _ hb g1:False).elim|«at» x k=>simp only[Loc.slice,Value.slice.injEq,true_and]at g3;obtain⟨rfl,rfl⟩:=g3;exact⟨x,c,rfl,by rw[QF x 0 0 _ _ _ (by omega)];simp⟩
   .intro h0;rw[h0];cases k with
    |nil=>simp only[Loc.slice,Value.slice.injEq,true_and]at g3;obtain⟨rfl,rfl⟩:=g3;simp[Loc.slice]
    |cE _ _ _=>exact(H.obj b _ _ hb g1:False).elim|«at» x k=>simp only[Loc.slice,Value.slice.injEq,true_and]at g3;obtain⟨rfl,rfl⟩:=g3;simp[Loc.slice,h9]
   .intro n₁ q;rw[gF hb]at q;cases q;omega
  .rename_i b τ off len;split at e<;>try cases e
   rename_i hz;have hz:=bD hz;subst hz;simp only[bV,Prod.mk.injEq]at e;obtain⟨hok,rfl⟩:=e;obtain⟨q1,q2,_,_⟩:=vQ hok;obtain⟨k,A,c,g1,rfl,g3,g4,g5,g6⟩:=R;refine⟨_,main A len c hok g3,k,_,_,g1,rfl,by omega,?_,?_,?_⟩
   .intro hp;obtain⟨x,k',rfl,rfl⟩:=g4 (by omega);exact⟨x,k',rfl,by rw[QF x _ 0 _ _ _ (by omega)];simp[Nat.add_mul]⟩
   .intro h0;have h01:off=0:=by omega
    have h02:fq l=0:=by omega
    have g5:=g5 h01;rw[h02];cases k with
    |nil=>simp only[Loc.slice,Value.slice.injEq,true_and]at g5;obtain⟨rfl,rfl⟩:=g5;simp[Loc.slice]
    |cE x k m=>simp only[Loc.slice,Value.slice.injEq,true_and]at g5;obtain⟨rfl,rfl⟩:=g5;simp[Loc.slice,h9]
    |«at» x k=>simp only[Loc.slice,Value.slice.injEq,true_and]at g5;obtain⟨rfl,rfl⟩:=g5;simp[Loc.slice,h9]
   .intro n₁ q;have:=g6 _ q;omega
  .rename_i τ L;split at e<;>try cases e
   rename_i hz;have hz:=bD hz;subst hz;simp only[bV,Prod.mk.injEq]at e;obtain⟨hok,rfl⟩:=e;obtain⟨q1,q2,_,_⟩:=vQ hok;obtain⟨A,len,cap,e1,e2,e3,e4⟩:=R;simp only[List.cons.injEq,and_true]at e1;subst e1;subst e2;refine⟨_,main A _ cap hok e3,?_⟩;rw[agj];refine⟨_,_,_,rfl,by simp;omega,by omega,fun hne=>?_⟩;have hpos:fq l<fO r L.length:=by
    rcases de (fq l) (fO r L.length)with q|q
    .exact q
    .rw[show fO r L.length-fq l=0 by omega,List.take_zero]at hne;exact absurd rfl hne
   have hL:L≠[]:=by rintro rfl;simp only[List.length_nil]at q1 q2 hpos;omega
   obtain⟨b,o,Y,rfl,p2,p3,c,ty,fr,p4,p5⟩:=e4 hL;refine⟨b,o+fq l*τ.size,(Y.drop (fq l*τ.size)).take ((fO r L.length-fq l)*τ.size),QF _ _ 0 _ _ _ (by omega),p2,bw.take (fun x c=>Cs.length) _ (bw.drop (fun x c=>Cs.length) _ p3),c,ty,fr,p4,?_⟩;intro j v hv;rw[List.getElem?_take]at hv;split at hv
   .rw[List.getElem?_drop]at hv;have:=p5 _ _ hv;rw[Nat.add_assoc];exact this
   .cases hv
  .simp only[bV,Prod.mk.injEq]at e;obtain⟨hok,rfl⟩:=e;obtain⟨q1,q2,_,_⟩:=vQ hok;rw[show U=_ from R];refine⟨_,main none 0 0 hok (aS _),?_⟩;show _=_;have:fO r 0=0:=by omega
   simp[this]
 .rename_i hu;have hru:=run_underlying hu w;split at e<;>try cases e
  rename_i x;simp only[bV,Prod.mk.injEq]at e;obtain⟨hok,rfl⟩:=e;rw[show U=_ from R];refine⟨_,?_,rfl⟩;simp only[Instr.sliceAt,Instr.slice,Sem.run_bind,hru,Result.andThen_ok,Option.isSome_none,Bool.false_eq_true,if_false,Sem.run_pure];simp only[Zlf hr h1 h2 hok (aS _) false w,Result.andThen_ok,Sem.run_pure]
 .cases e
def qz(place:Nat->Option (Nat×Nat)):List AV->List (Nat×AV)->Option (List AV)
 |cells,[]=>some cells|cells,(i,v)::rest=>match place i with|none=>none|some (off,size)=>match Nat.beq (iu v).length size,Nat.ble (off+size) cells.length with|true,true=>qz place (takeN off cells++(iu v++ic (off+size) cells)) rest|_,_=>none
def Ba(X:Cx):List (Nat×AV)->List (Nat×Value)->Prop
 |[],ps=>ps=[]|x::l,ps=>∃V r,ps=(x.1,V)::r/\Rel X x.2 V/\Ba X l r
theorem FJ{X:Cx}(place:Nat->Option (Nat×Nat)):∀(parts:List (Nat×AV)) (ps:List (Nat×Value)) (cells r:List AV) (cs:List Value),qz place cells parts=some r->Ba X parts ps->bB X cells cs ->
  ∃rs,Instr.fill place cs.toArray ps=some rs.toArray/\bB X r rs
 |[],ps,cells,r,cs,h,hp,hc=>by simp[qz]at h;subst h;rw[show ps=[]from hp];exact⟨cs,rfl,hc⟩|(i,v)::rest,ps,cells,r,cs,h,hp,hc=>by
  obtain⟨V,qs,rfl,hv,hq⟩:=hp;simp only[qz]at h;cases hpl:place i<;>simp only[hpl]at h
  .cases h
  rename_i q;obtain⟨off,size⟩:=q;simp only[]at h;cases h1:Nat.beq (iu v).length size<;>cases h2:Nat.ble (off+size) cells.length<;>simp only[h1,h2]at h<;>first|cases h|skip
  have h1:=bD h1;have h2:=Nat.le_of_ble_eq_true h2;have hvl:=k9 hv;have hl:V.cells.size=size:=by rw[<-Array.length_toList,hvl.length,h1]
  have hcl:=hc.length;rw[j6,j7]at h;obtain⟨rs,q1,q2⟩:=FJ place rest qs _ r (cs.take off++(V.cells.toList++cs.drop (off+size))) h hq ((hc.take off).append (hvl.append (hc.drop (off+size))));refine⟨rs,?_,q2⟩;simp only[Instr.fill,hpl];rw[if_neg (by simp[hl];omega),<-q1];congr 1;apply Array.toList_inj.1;have hz:V.cells.zipIdx.foldl (fun cs (x:Value×Nat)=>cs.setIfInBounds (off+x.2) x.1) cs.toArray
    = (V.cells.toList.zipIdx 0).foldl (fun cs (x:Value×Nat)=>cs.setIfInBounds (off+x.2) x.1) cs.toArray:=by
   rw[<-Array.foldl_toList];simp
  have:=Qm off V.cells.toList 0 cs.toArray (by simp[hl];omega);rw[hz,this];simp[hl]
def nV(T:Tr AV):List (Nat×Operand)->Option (List (Nat×AV))
 |[]=>some []|(i,x)::l=>match dp T x with
  |some v=>match nV T l with|some vs=>some ((i,v)::vs)|none=>none
  |none=>none
theorem Qq{X:Cx}{T:Tr AV}{a:Act}:∀{l:List (Nat×Operand)}{vs:List (Nat×AV)},nV T l=some vs ->
  (∀x∈l.map (·.2),∀u,dp T x=some u->Rel X u (a.eval x))->Ba X vs (l.map fun x=>(x.1,a.eval x.2))
 |[],vs,h,_=>by simp[nV]at h;subst h;rfl|(i,x)::l,vs,h,hr=>by
  simp only[nV]at h;cases hv:dp T x<;>simp only[hv]at h
  .cases h
  cases hl:nV T l<;>simp only[hl]at h
  .cases h
  simp at h;subst h;exact⟨_,_,rfl,hr x (by simp) _ hv,Qq hl (fun y hy=>hr y (by simp only[List.map_cons];exact eK _ hy))⟩
def Qf(P:Program)(t:TypeId)(parts:List (Nat×AV)):Option AV:=match P.underlying t with
 |some (.struct fields)=>match lT P t,places P fields.toList with
  |some z,some ps=>match qz (fun i=>nth ps i) (iu z) parts with|some r=>some (.agg r)|none=>none
  |_,_=>none
 |some (.array _ elem)=>match lT P t,fJ P elem with
  |some z,some sz=>match qz (fun i=>some (i*sz,sz)) (iu z) parts with|some r=>some (.agg r)|none=>none
  |_,_=>none
 |_=>none
theorem Zsz{P:Program}{t:TypeId}{parts:List (Nat×AV)}{v:AV}(e:Qf P t parts=some v){X:Cx}(w:World)(ps:Array (Nat×Value))(hp:Ba X parts ps.toList) :
  ∃V,(Instr.build t ps).run P w=.ok V w/\Rel X v V:=by
 unfold Qf at e;split at e
 .rename_i fields hu;split at e<;>try cases e
  rename_i z q hz hq;split at e<;>try cases e
  rename_i r hr;obtain⟨Z,hZ,RZ⟩:=oU hz X w;obtain⟨rs,f1,f2⟩:=FJ _ _ _ _ _ _ hr hp (k9 RZ);have hfun:(fun i=>(q.toArray:Array (Nat×Nat))[i]?)=fun i=>nth q i:=by funext i;rw[dI];simp
  refine⟨.agg rs.toArray,?_,rs,rfl,f2⟩;rw[Array.toArray_toList]at f1;simp only[Instr.build,Sem.run_bind,hZ,Result.andThen_ok,run_underlying hu,pW hq,Sem.run_pure];rw[hfun,f1];simp
 .rename_i k elem hu;split at e<;>try cases e
  rename_i z sz hz hs;split at e<;>try cases e
  rename_i r hr;obtain⟨Z,hZ,RZ⟩:=oU hz X w;obtain⟨rs,f1,f2⟩:=FJ _ _ _ _ _ _ hr hp (k9 RZ);refine⟨.agg rs.toArray,?_,rs,rfl,f2⟩;rw[Array.toArray_toList]at f1;simp only[Instr.build,Sem.run_bind,hZ,Result.andThen_ok,run_underlying hu,run_sizeOf hs,Sem.run_pure];rw[f1];simp
 .cases e
def sy(P:Program)(h:Hp)(ts:Array TypeId)(u:AV):Option AV:=match nth ts.toList 0 with
 |some t=>match P.underlying t with
  |some (.slice _)=>match lenOf h u with|some n=>some (.int .i64 (n:Int))|none=>none
  |some .string=>match u with|.str x=>some (.int .i64 (x.size:Int))|_=>none
  |some (.array n _)=>some (.int .i64 (n:Int))|_=>none
 |none=>none
theorem akb{P:Program}{ts:Array TypeId}{u v:AV}{X:Cx}(H:aF X)(e:sy P X.h ts u=some v){U:Value}(R:Rel X u U)(ty:TypeId)(w:World) :
  ∃V,(Builtin.len_ ts ty #[U]).run P w=.ok V w/\Rel X v V:=by
 unfold sy at e;split at e<;>try cases e
 rename_i t ht;have ht:ts[0]?=some t:=by rw[dI]at ht;simpa using ht
 split at e
 .rename_i hu;split at e<;>try cases e
  rename_i n hn;obtain⟨A,c,rfl,_⟩:=Wl H hn R;exact⟨_,by simp[Builtin.len_,ht,run_underlying hu,goInt],rfl⟩
 .rename_i hu;split at e<;>try cases e
  rw[show U=_ from R];exact⟨_,by simp[Builtin.len_,ht,run_underlying hu,goInt],rfl⟩
 .rename_i hu;cases e;exact⟨_,by simp[Builtin.len_,ht,run_underlying hu,goInt],rfl⟩
 .cases e
def xg(k:IntKind):Int->List AV->Option Int
 |a,[]=>some a|a,v::l=>match v with|.int _ b=>xg k (du (decide (b > a)) b a) l|_=>none
def xh(k:IntKind):Int->List AV->Option Int
 |a,[]=>some a|a,v::l=>match v with|.int _ b=>xh k (du (decide (b<a)) b a) l|_=>none
open Go.Proofs.YtkcpdpplobhpaaaGreat.Ev (Tr Tr.cI nth dI takeN ic j6 j7 dr gL kr run_underlying run_typeInfo run_sizeOf fJ h9 places pW j8 oL ns lP)
mutual
theorem FR{h:Hp}:∀{σ:Sh}{l:List AV}{d:σ.T}{r:List AV}{h':Hp},fi false h σ l=some (d,r,h')->h'=h
 |.int k,l,d,r,h',e=>by
  simp only[fi]at e;split at e<;>try cases e
  split at e<;>cases e;rfl
 |.bool,l,d,r,h',e=>by simp only[fi]at e;split at e<;>cases e;rfl
 |.str,l,d,r,h',e=>by simp only[fi]at e;split at e<;>cases e;rfl
 |.agg ss,l,d,r,h',e=>Wt (ss:=ss) e|.sl s,l,d,r,h',e=>by
  simp only[fi]at e;split at e<;>try cases e
  .rfl
  .split at e<;>cases e;rfl
  .split at e<;>try cases e
   split at e<;>first|(cases e;done)|(rename_i q _;cases q)
  .split at e<;>try cases e
   split at e<;>first|(cases e;done)|(rename_i q _;cases q)
theorem Wt{h:Hp}:∀{ss:List Sh}{l:List AV}{d:TL ss}{r:List AV}{h':Hp},kL false h ss l=some (d,r,h')->h'=h
 |[],l,d,r,h',e=>by simp only[kL,bV,Prod.mk.injEq]at e;cases e;rfl
 |s::ss,l,d,r,h',e=>by
  simp only[kL]at e;split at e<;>try cases e
  rename_i d₁ r₁ h₁ e₁;split at e<;>try cases e
  rename_i d₂ r₂ h₂ e₂;rw[Wt e₂,FR e₁]
end
def Qd(h:Hp)(b off:Nat)(vs:List AV):Option Hp:=match h.tr.get b with
 |some (.cells l ty)=>match Nat.ble (off+vs.length) l.length,pO vs with
  |true,true=>match Tr.set FT h.tr b (some (.cells (takeN off l++(vs++ic (off+vs.length) l)) ty))with|some tr=>some ⟨tr,h.next⟩|none=>none
  |_,_=>none
 |_=>none
theorem Zn0{P:Program}{X:Cx}(H:aF X){h':Hp}{b x c off:Nat}{vs:List AV}{Vs:List Value}(e:Qd X.h b off vs=some h')(hs:X.s b=some (.at x c))(R:bB X vs Vs) :
  ∃w',(storeCells ⟨x,off,none⟩ Vs).run P X.w=.ok () w'/\aF ⟨X.s,h',w',X.A⟩/\aO X ⟨X.s,h',w',X.A⟩:=by
 unfold Qd at e;split at e<;>try cases e
 rename_i l ty hb;split at e<;>try cases e
 rename_i hl ho;split at e<;>try cases e
 rename_i tr ht;have hl:=Nat.le_of_ble_eq_true hl;obtain⟨x',c',cs,e1,e2,e3⟩:=H.obj b _ _ hb hs;cases e1;have hL:=e3.length;have hV:=R.length;obtain⟨d,hd,hr⟩:=lP (P:=P) (off:=off) Vs 0 X.w _ e2 (by simp;omega) (FZ ho R);have hd:d=(cs.take off++(Vs++cs.drop (off+Vs.length))).toArray:=by apply Array.toList_inj.1;rw[hd];simp
 subst hd;have E:=aO.put (ob:=.cells (cs.take off++(Vs++cs.drop (off+Vs.length))).toArray ty (0,0)) H hb hs (by intro n q;cases q) ht;refine⟨_,hr,H.put hb hs (by intro n q;cases q) ht ⟨x,c,_,rfl,by show(dr X.w x _).heap[x]?=_;rw[gL,if_pos ⟨rfl,fN e2⟩],?_⟩,E⟩;have R':=(e3.take off).append (R.append (e3.drop (off+vs.length)));rw[j6,j7,<-hV]at *
 exact R'.ext (E.eS H)
def Ks(h:Hp)(b i z o:Nat)(vs:List AV):Option Hp:=match h.tr.get b with
 |some (.arr τ L ty)=>match Nat.beq z τ.size,Nat.ble (o+vs.length) z,pO vs,fi true h τ (takeN o (nz τ (L.getD i τ.zero))++(vs++ic (o+vs.length) (nz τ (L.getD i τ.zero))))with
  |true,true,true,some (x,[],h₁)=>match h₁.tr.get b with
   |some _=>match Tr.set FT h₁.tr b (some (.arr τ (L.set i x) ty))with|some tr=>some ⟨tr,h₁.next⟩|none=>none
   |none=>none
  |_,_,_,_=>none
 |_=>none
theorem ajG{P:Program}{X:Cx}(H:aF X){h':Hp}{b x c i z o:Nat}{vs:List AV}{Vs:List Value}(e:Ks X.h b i z o vs=some h')(hs:X.s b=some (.at x c))
  (hi:∀n,rowOf X.h.tr b=some n->i<n) (R:bB X vs Vs) :
  ∃w',(storeCells ⟨x,i*z+o,none⟩ Vs).run P X.w=.ok () w'/\aF ⟨X.s,h',w',X.A⟩/\aO X ⟨X.s,h',w',X.A⟩:=by
 unfold Ks at e;split at e<;>try cases e
 rename_i τ L ty hb;split at e<;>try cases e
 rename_i y h₁ hz hle ho hf;split at e<;>try cases e
 rename_i ob₁ hb₁;split at e<;>try cases e
 rename_i tr ht;have hz:=bD hz;subst hz;have hle:=Nat.le_of_ble_eq_true hle;have hi:=hi _ (gF hb);obtain⟨cs,tail,q1,q2,q3,q4⟩:=H.obj b _ _ hb hs;have hget:L[i]?=some L[i]:=aN hi;obtain⟨d,p1,p2⟩:=bw.get (fun x c=>Cs.length) q2 hget;have hd:=Cs.length p1;have hcs:=bw.length (fun x c=>Cs.length) q2;have hiz:i*τ.size+τ.size<=cs.length:=by rw[hcs];have:=Nat.mul_le_mul_right τ.size (show i+1<=L.length by omega);rw[Nat.add_mul]at this;omega
 have hV:=R.length;have RD:bB X (nz τ (L.getD i τ.zero)) d:=by rw[bM,hget];exact tY p1
 have Rn:=(RD.take o).append (R.append (RD.drop (o+vs.length)));rw[<-j6,<-j7]at Rn;obtain⟨F,c₁,r₁,k1,k2,k3⟩:=qe H hf Rn;have hr₁:r₁=[]:=k3;subst hr₁;rw[dB]at k1;have hb₁':h₁.tr.get b=some (.arr τ L ty):=by have:=F.sub b _ hb₁;rw[hb]at this;rw[hb₁,<-this]
 obtain⟨e',he',hrun⟩:=lP (P:=P) (off:=i*τ.size+o) Vs 0 X.w _ q1 (by simp;omega) (FZ ho R);have hdd:d=(cs.drop (i*τ.size)).take τ.size:=by
  apply List.ext_getElem?;intro j;rw[List.getElem?_take];split
  .rename_i hj;rw[List.getElem?_drop];exact(p2 j hj).symm
  .rw[ep (by omega)]
 have hsplit:cs=cs.take (i*τ.size)++(d++cs.drop (i*τ.size+τ.size)):=by rw[hdd,<-List.drop_drop,List.take_append_drop,List.take_append_drop]
 have hal:(cs.take (i*τ.size)).length=i*τ.size:=by simp;omega
 have hlist:e'=(cs.take (i*τ.size)++c₁++cs.drop (i*τ.size+τ.size)++tail).toArray:=by
  apply Array.toList_inj.1;rw[he',<-k1];simp only[Nat.add_zero];generalize cs.take (i*τ.size)=A at hsplit hal |-;generalize cs.drop (i*τ.size+τ.size)=B at hsplit |-;subst hsplit;have t1:(A++(d++B)++tail).take (i*τ.size+o)=A++d.take o:=by rw[<-hal,cz,List.take_length_add_append,cz,List.take_append_of_le_length (by omega)]
  have t2:(A++(d++B)++tail).drop (i*τ.size+o+Vs.length)=d.drop (o+vs.length)++(B++tail):=by rw[<-hal,Nat.add_assoc,cz,List.drop_length_add_append,cz,hV,List.drop_append_of_le_length (by omega)]
  rw[t1,t2];simp
 subst hlist;have E:=aO.put (X:=⟨X.s,h₁,X.w,X.A⟩) (ob:=.cells (cs.take (i*τ.size)++c₁++cs.drop (i*τ.size+τ.size)++tail).toArray ty (0,0)) F.H hb₁' hs (by intro n q;simpa[bu.row]using q) ht;refine⟨_,hrun,aF.put (X:=⟨X.s,h₁,X.w,X.A⟩) F.H hb₁' hs (by intro n q;simpa[bu.row]using q) ht ?_,F.E.trans E⟩;have K:=E.keeps;refine⟨cs.take (i*τ.size)++c₁++cs.drop (i*τ.size+τ.size),tail,?_,?_,?_,by simpa using q4⟩
 .show(dr X.w x _).heap[x]?=_;rw[gL,if_pos ⟨rfl,fN q1⟩]
 .have s1:bw (Cs X.w (Cx.out ⟨X.s,h₁,X.w,X.A⟩) τ) L cs:=q2.mono (fun x c q=>q.bj F.E.keeps);have s2:bw (Cs X.w (Cx.out ⟨X.s,h₁,X.w,X.A⟩) τ) (L.set i y) (cs.take (i*τ.size)++c₁++cs.drop (i*τ.size+τ.size)):=bw.set (fun x c=>Cs.length) s1 hi k2;exact s2.mono (fun x c q=>q.bj K)
 .have:=Cs.length k2;simp only[aU,dx,List.length_drop,this];omega
def VC:Sh->Bool
 |.sl _=>true|.agg l=>hasSlL l|_=>false
where hasSlL:List Sh->Bool
 |[]=>false|s::l=>match VC s with|true=>true|false=>hasSlL l
def NZ:List AV->Bool
 |[]=>false|.hd _ τ::l=>match VC τ with|true=>true|false=>NZ l
 |_::l=>NZ l
def Du(h:Hp)(b i z o:Nat)(vs:List AV):Option (Bool×Hp):=match h.tr.get b with
 |some (.arr τ L ty)=>match Nat.beq z τ.size,Nat.ble (o+vs.length) z,pO vs with
  |true,true,true=>match Tr.set FT h.tr b (some (.dV τ i L (takeN o (nz τ (L.getD i τ.zero))++(vs++ic (o+vs.length) (nz τ (L.getD i τ.zero)))) ty))with|some tr=>some (true,⟨tr,h.next⟩)|none=>none
  |_,_,_=>none
 |some (.dV τ k L us ty)=>match Nat.beq z τ.size,Nat.ble (o+vs.length) z,pO vs with
  |true,true,true=>match Tr.set FT h.tr b (some (.dV τ k L (takeN o us++(vs++ic (o+vs.length) us)) ty))with|some tr=>some (Nat.beq i k,⟨tr,h.next⟩)|none=>none
  |_,_,_=>none
 |_=>none
theorem aa4{P:Program}{X:Cx}(H:aF X){b x c i o:Nat}{ob:bu}{τ:Sh}{L:List τ.T}{us vs:List AV}{ty:TypeId}{Vs:List Value}{tr:Tr bu}(hb:X.h.tr.get b=some ob)(hrow:ob.row=some L.length)(hs:X.s b=some (.at x c))
  {pre mid post tail:List Value}(q1:X.w.heap[x]?=some (.cells (List.toArray (pre++(mid++(post++tail)))) ty (0,0))) (q2:bw (Cs X.w X.out τ) (L.take i) pre) (q3:bB X us mid) (q4:bw (Cs X.w X.out τ) (L.drop (i+1)) post)
  (hi:i<L.length) (hm:mid.length=τ.size) (hsum:pre.length+(mid.length+(post.length+tail.length))=c*τ.size) (hc:L.length<=c) (hle:o+vs.length<=τ.size) (ho:pO vs=true) (R:bB X vs Vs)
  (ht:Tr.set FT X.h.tr b (some (.dV τ i L (takeN o us++(vs++ic (o+vs.length) us)) ty))=some tr) :
  ∃w',(storeCells ⟨x,i*τ.size+o,none⟩ Vs).run P X.w=.ok () w'/\aF ⟨X.s,⟨tr,X.h.next⟩,w',X.A⟩/\aO X ⟨X.s,⟨tr,X.h.next⟩,w',X.A⟩:=by
 have hV:=R.length;have hpre:pre.length=i*τ.size:=by rw[bw.length (fun x c=>Cs.length) q2,dx,Nat.min_eq_left (by omega)]
 obtain⟨e',he',hrun⟩:=lP (P:=P) (off:=i*τ.size+o) Vs 0 X.w _ q1 (by simp;omega) (FZ ho R);have hlist:e'=(pre++((mid.take o++(Vs++mid.drop (o+vs.length)))++(post++tail))).toArray:=by apply Array.toList_inj.1;rw[he'];simp only[Nat.add_zero];rw[<-hpre,<-hV,List.take_length_add_append,Nat.add_assoc,List.drop_length_add_append,List.take_append_of_le_length (by omega),List.drop_append_of_le_length (by omega)];simp
 subst hlist;have hrw:∀n,(bu.dV τ i L (takeN o us++(vs++ic (o+vs.length) us)) ty).row=some n->ob.row=some n:=by intro n q;rw[hrow];exact q
 have E:=aO.put (ob:=.cells (pre++((mid.take o++(Vs++mid.drop (o+vs.length)))++(post++tail))).toArray ty (0,0)) H hb hs hrw ht;have K:=E.keeps;refine⟨_,hrun,aF.put H hb hs hrw ht ?_,E⟩;refine⟨x,c,pre,mid.take o++(Vs++mid.drop (o+vs.length)),post,tail,rfl,?_,q2.mono (fun x d q=>q.bj K),?_,q4.mono (fun x d q=>q.bj K),hi,?_,?_,hc⟩
 .show(dr X.w x _).heap[x]?=_;rw[gL,if_pos ⟨rfl,fN q1⟩]
 .have R':=(q3.take o).append (R.append (q3.drop (o+vs.length)));rw[j6,j7];exact R'.ext (E.eS H)
 .simp only[aU,dx,List.length_drop];omega
 .simp only[aU,dx,List.length_drop];omega
theorem aa7{P:Program}{X:Cx}(H:aF X){h':Hp}{b x c i z o:Nat}{g:Bool}{vs:List AV}{Vs:List Value}(e:Du X.h b i z o vs=some (g,h'))(hg:g=true)(hs:X.s b=some (.at x c))
  (hi:∀n,rowOf X.h.tr b=some n->i<n) (R:bB X vs Vs) :
  ∃w',(storeCells ⟨x,i*z+o,none⟩ Vs).run P X.w=.ok () w'/\aF ⟨X.s,h',w',X.A⟩/\aO X ⟨X.s,h',w',X.A⟩:=by
 subst hg;unfold Du at e;split at e<;>try cases e
 .rename_i τ L ty hb;split at e<;>try cases e
  rename_i hz hle ho;split at e<;>cases e;rename_i tr ht;have hz:=bD hz;subst hz;have hle:=Nat.le_of_ble_eq_true hle;have hi:=hi _ (gF hb);obtain⟨cs,tail,q1,q2,q3,q4⟩:=H.obj b _ _ hb hs;have hget:L[i]?=some L[i]:=aN hi;obtain⟨d,p1,p2⟩:=bw.get (fun x c=>Cs.length) q2 hget;have hd:=Cs.length p1;have hcs:=bw.length (fun x c=>Cs.length) q2;have hiz:i*τ.size+τ.size<=cs.length:=by rw[hcs];have:=Nat.mul_le_mul_right τ.size (show i+1<=L.length by omega);rw[Nat.add_mul]at this;omega
  have RD:bB X (nz τ (L.getD i τ.zero)) d:=by rw[bM,hget];exact tY p1
  have hdd:d=(cs.drop (i*τ.size)).take τ.size:=by
   apply List.ext_getElem?;intro j;rw[List.getElem?_take];split
   .rename_i hj;rw[List.getElem?_drop];exact(p2 j hj).symm
   .rw[ep (by omega)]
  have hsplit:cs++tail=cs.take (i*τ.size)++(d++(cs.drop ((i+1)*τ.size)++tail)):=by rw[hdd,Nat.add_mul,Nat.one_mul,<-cz,<-cz,<-List.drop_drop,cz (cs.take _),List.take_append_drop,List.take_append_drop]
  rw[hsplit]at q1;refine aa4 H hb rfl hs q1 (bw.take (fun x c=>Cs.length) i q2) RD (bw.drop (fun x c=>Cs.length) (i+1) q2) hi hd ?_ q4 hle ho R ht;rw[<-q3,<-aU,<-aU,<-aU,<-hsplit,aU]
 .rename_i τ k L us ty hb;split at e<;>try cases e
  rename_i hz hle ho;split at e<;>try cases e
  rename_i tr ht;simp only[bV,Prod.mk.injEq]at e;obtain⟨hik,rfl⟩:=e;have hik:=bD hik;subst hik;have hz:=bD hz;subst hz;have hle:=Nat.le_of_ble_eq_true hle;obtain⟨x',c',pre,mid,post,tail,e1,q1,q2,q3,q4,q5,q6,q7,q8⟩:=H.obj b _ _ hb hs;cases e1;exact aa4 H hb rfl hs q1 q2 q3 q4 q5 q6 q7 q8 hle ho R ht
def Ju(h:Hp)(b i z o:Nat)(vs:List AV):Option (Bool×Hp):=match h.tr.get b with|some (.dV _ _ _ _ _)=>Du h b i z o vs|_=>match NZ vs with|true=>Du h b i z o vs|false=>match Ks h b i z o vs with|some h'=>some (true,h')|none=>none
theorem anQ{P:Program}{X:Cx}(H:aF X){h':Hp}{b x c i z o:Nat}{g:Bool}{vs:List AV}{Vs:List Value}(e:Ju X.h b i z o vs=some (g,h'))(hg:g=true)(hs:X.s b=some (.at x c))
  (hi:∀n,rowOf X.h.tr b=some n->i<n) (R:bB X vs Vs) :
  ∃w',(storeCells ⟨x,i*z+o,none⟩ Vs).run P X.w=.ok () w'/\aF ⟨X.s,h',w',X.A⟩/\aO X ⟨X.s,h',w',X.A⟩:=by
 unfold Ju at e;split at e
 .exact aa7 H e hg hs hi R
 .split at e
  .exact aa7 H e hg hs hi R
  .split at e<;>cases e;rename_i hp;exact ajG H hp hs hi R
