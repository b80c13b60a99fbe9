import Derived.Test.YtkcpdpplobhpaaaGreatJMa
import Derived.IntWalk
set_option linter.unusedVariables false
set_option linter.unusedSimpArgs false
set_option linter.unnecessarySimpa false
section
namespace Go.Proofs.YtkcpdpplobhpaaaGreat.Ev
open Go Go.RowKit
theorem Te(m:Nat):∀(r c:Nat),c<=2*m+192->Builtin.growBy m r c<=2*m+192
 |0,c,h=>by simpa[Builtin.growBy]using h|r+1,c,h=>by
  simp only[Builtin.growBy];split
  .exact h
  .exact Te m r _ (by omega)
theorem DO{need old:Nat}(h:old<need):Builtin.nextslicecap need old<=2*need+192:=by
 unfold Builtin.nextslicecap;split
 .omega
 .split
  .omega
  .exact Te _ _ _ (by omega)
theorem ph{P:Program}{o:Oper}{c:Call}{b:Builtin}{a:Act}{w:World}(ho:o.op=.call c)(hc:c.callee=.builtin b) :
  (execOp a.eval o).run P w=(builtin b c.argTypes o.type (c.args.map fun|.const _=>true|_=>false) (c.args.map a.eval)).run P w:=by
 unfold execOp;rw[ho];simp only[resolve,hc,Sem.run_bind,Sem.run_pure,Result.andThen_ok,invoke];rfl
end Go.Proofs.YtkcpdpplobhpaaaGreat.Ev
end
section
namespace Go.Proofs.YtkcpdpplobhpaaaGreat.V
open Go Go.RowKit
open Go.Proofs.YtkcpdpplobhpaaaGreat.Ev (Tr Tr.cf nth dc takeN fZ jq jr cJ fG jG run_underlying run_typeInfo run_sizeOf ej fU places pg js)
def FT:Nat:=30
mutual
def mo:(σ:Sh)->σ.T->List AV
 |.int k,n=>[.int k n]|.bool,b=>[.bool b]|.str,s=>[.str s]|.agg l,d=>NZ l d|.sl s,L=>[.fz s L]
termination_by structural x=>x
def NZ:(l:List Sh)->TL l->List AV
 |[],_=>[]|s::l,d=>mo s d.1++NZ l d.2
termination_by structural x=>x
end
mutual
theorem te{X:Cx}:∀{σ:Sh}{d:σ.T}{cs:List Value},Cs X.w X.out σ d cs->bk X (mo σ d) cs
 |.int k,n,cs,h=>⟨_,[],h,rfl,rfl⟩|.bool,b,cs,h=>⟨_,[],h,rfl,rfl⟩|.str,s,cs,h=>⟨_,[],h,rfl,rfl⟩|.agg l,d,cs,h=>Zum (l:=l) h|.sl s,L,cs,h=>by obtain⟨a,len,cap,e,q⟩:=h;exact⟨_,[],e,⟨a,len,cap,rfl,q⟩,rfl⟩
theorem Zum{X:Cx}:∀{l:List Sh}{d:TL l}{cs:List Value},fT X.w X.out l d cs->bk X (NZ l d) cs
 |[],_,cs,h=>h|s::l,d,cs,⟨c,r,e,h1,h2⟩=>by rw[e];exact(te h1).append (Zum h2)
end
def jk{τ τ':Sh}(h:τ.eqv τ'=true)(L:List τ.T):List τ'.T:=Sh.eu h▸L
def vH{α:Type}(F:Hp->List AV->Option (α×List AV×Hp)):Nat->Hp->List AV->Option (List α×Hp)
 |0,h,l=>match l with|[]=>some ([],h)|_=>none
 |n+1,h,l=>match F h l with
  |some (x,r,h)=>match vH F n h r with|some (xs,h)=>some (x::xs,h)|none=>none
  |none=>none
mutual
def dL(kl:Bool)(h:Hp):(σ:Sh)->List AV->Option (σ.T×List AV×Hp)
 |.int k,l=>match l with
  |.int k' n::r=>match Nat.beq (Ev.IntKind.num k') (Ev.IntKind.num k)with|true=>some (n,r,h)|false=>none
  |_=>none
 |.bool,l=>match l with|.bool b::r=>some (b,r,h)|_=>none
 |.str,l=>match l with|.str s::r=>some (s,r,h)|_=>none
 |.agg ss,l=>jP kl h ss l|.sl s,l=>match l with
  |.bq::r=>some ([],r,h)|.fz τ L::r=>match e:τ.eqv s with|true=>some (jk e L,r,h)|false=>none
  |.hd b _::r=>match h.tr.get b with
   |some (.arr τ L _)=>match e:τ.eqv s,kl,Tr.set FT h.tr b none with|true,true,some tr=>some (jk e L,r,⟨tr,h.next⟩)|_,_,_=>none
   |_=>none
  |.vw b τ₀ off len::r=>match h.tr.get b with
   |some (.arr τ L _)=>match e:τ.eqv s,τ₀.eqv s,kl,Tr.set FT h.tr b none with|true,true,true,some tr=>some (jk e ((L.drop off).take len),r,⟨tr,h.next⟩)|_,_,_,_=>none
   |some (.cells vs _)=>match kl,off,Tr.set FT h.tr b none with
    |true,0,some tr=>match vH (fun h l=>dL true h s l) len ⟨tr,h.next⟩ vs with|some (L,h')=>some (L,r,h')|none=>none
    |_,_,_=>none
   |_=>none
  |_=>none
termination_by structural x=>x
def jP(kl:Bool)(h:Hp):(l:List Sh)->List AV->Option (TL l×List AV×Hp)
 |[],r=>some ((),r,h)|s::l,r=>match dL kl h s r with
  |some (d,r,h)=>match jP kl h l r with|some (e,r,h)=>some ((d,e),r,h)|none=>none
  |none=>none
termination_by structural x=>x
end
structure ez(X:Cx)(h':Hp):Prop where
 E:aP X ⟨X.s,h',X.w,X.A⟩
 H:aK ⟨X.s,h',X.w,X.A⟩
 sub:∀i o,h'.tr.get i=some o->X.h.tr.get i=some o
theorem ez.refl{X:Cx}(H:aK X):ez X X.h:=⟨aP.refl X,H,fun _ _ h=>h⟩
theorem ez.trans{X:Cx}{h' h'':Hp}(a:ez X h')(b:ez ⟨X.s,h',X.w,X.A⟩ h''):ez X h'':=⟨a.E.trans b.E,b.H,fun i o q=>a.sub i o (b.sub i o q)⟩
theorem ez.kill{X:Cx}(H:aK X){b:Nat}{l:Loc}{tr:Tr bf}(hs:X.s b=some l)(ht:Tr.set FT X.h.tr b none=some tr):ez X ⟨tr,X.h.next⟩:=by
 obtain⟨E,H'⟩:=H.kill hs ht;refine⟨E,H',?_⟩;intro i o q;have:=Tr.cf FT X.h.tr b none tr ht i
 replace q:tr.get i=some o:=q
 rw[this]at q;by_cases r:i=b
 .rw[if_pos r]at q;cases q
 .rwa [if_neg r]at q
theorem DV{w:World}{A:Nat->Prop}{τ τ':Sh}(h:τ.eqv τ'=true){L:List τ.T}{V:Value}(q:Cs w A (.sl τ) L [V]):Cs w A (.sl τ') (jk h L) [V]:=by have:=Sh.eu h;subst this;exact q
theorem aeq{w:World}{A:Nat->Prop}{τ:Sh}{L:List τ.T}{x:Nat}{ty:TypeId}{cs tail:List Value}{fr:Nat×Nat}(hw:w.heap[x]?=some (.cells (List.toArray (cs++tail)) ty fr))(ha:¬A x)(hf:bh (Cs w A τ) L cs)
  {off len cap:Nat}{a:Option Addr}(hl:off+len<=L.length) (hc:len<=cap) (hA:0<len->a=some ⟨x,off*τ.size,none⟩):Cs w A (.sl τ) ((L.drop off).take len) [.slice a len cap]:=by
 refine⟨a,len,cap,rfl,by simp;omega,hc,fun hne=>?_⟩;have hpos:0<len:=by
  rcases Nat.eq_zero_or_pos len with q|q
  .subst q;rw[List.take_zero]at hne;exact absurd rfl hne
  .exact q
 refine⟨x,off*τ.size,(cs.drop (off*τ.size)).take (len*τ.size),hA hpos,ha,bh.take (fun x c=>Cs.length) len (bh.drop (fun x c=>Cs.length) off hf),_,ty,_,hw,?_⟩;intro j u hu;rw[List.getElem?_take]at hu;split at hu
 .rw[List.getElem?_drop]at hu;simp only[List.getElem?_toArray];rw[List.getElem?_append_left]
  .exact hu
  .rcases Nat.lt_or_ge (off*τ.size+j) cs.length with q|q
   .exact q
   .rw[List.getElem?_eq_none q]at hu;cases hu
 .cases hu
theorem QV{τ:Sh}{F:Hp->List AV->Option (τ.T×List AV×Hp)}(hF:∀{X:Cx},aK X->∀{l:List AV}{d:τ.T}{r:List AV}{h':Hp},F X.h l=some (d,r,h')->∀{cs:List Value},bk X l cs ->
  ez X h'/\∃c e,cs=c++e/\Cs X.w (Cx.out ⟨X.s,h',X.w,X.A⟩) τ d c/\bk ⟨X.s,h',X.w,X.A⟩ r e):∀{n:Nat}{l:List AV}{X:Cx}{L:List τ.T}{h':Hp}{cs:List Value},aK X->vH F n X.h l=some (L,h')->bk X l cs ->
  ez X h'/\L.length=n/\bh (Cs X.w (Cx.out ⟨X.s,h',X.w,X.A⟩) τ) L cs
 |0,l,X,L,h',cs,H,e,R=>by simp only[vH]at e;split at e<;>cases e;exact⟨ez.refl H,rfl,R⟩
 |n+1,l,X,L,h',cs,H,e,R=>by
  simp only[vH]at e;split at e<;>try cases e
  rename_i x r h₁ hf;split at e<;>cases e;rename_i xs hx;obtain⟨F₁,c,t,rfl,q1,q2⟩:=hF H hf R;obtain⟨F₂,k1,k2⟩:=QV hF (X:=⟨X.s,h₁,X.w,X.A⟩) F₁.H hx q2;exact⟨F₁.trans F₂,by simp[k1],c,t,rfl,q1.aX F₂.E.keeps,k2⟩
mutual
theorem px{kl:Bool}{X:Cx}(H:aK X):∀{σ:Sh}{l:List AV}{d:σ.T}{r:List AV}{h':Hp},dL kl X.h σ l=some (d,r,h')->∀{cs:List Value},bk X l cs ->
  ez X h'/\∃c e,cs=c++e/\Cs X.w (Cx.out ⟨X.s,h',X.w,X.A⟩) σ d c/\bk ⟨X.s,h',X.w,X.A⟩ r e
 |.int k,l,d,r,h',e,cs,R=>by
  simp only[dL]at e;split at e<;>try cases e
  rename_i k' n r';split at e<;>try cases e
  rename_i hk;obtain⟨v,t,rfl,h1,h2⟩:=R;have:=Ev.IntKind.tv (Nat.eq_of_beq_eq_true hk);subst this;exact⟨ez.refl H,[v],t,rfl,by rw[show v=_ from h1];rfl,h2⟩
 |.bool,l,d,r,h',e,cs,R=>by
  simp only[dL]at e;split at e<;>try cases e
  obtain⟨v,t,rfl,h1,h2⟩:=R;exact⟨ez.refl H,[v],t,rfl,by rw[show v=_ from h1];rfl,h2⟩
 |.str,l,d,r,h',e,cs,R=>by
  simp only[dL]at e;split at e<;>try cases e
  obtain⟨v,t,rfl,h1,h2⟩:=R;exact⟨ez.refl H,[v],t,rfl,by rw[show v=_ from h1];rfl,h2⟩
 |.agg ss,l,d,r,h',e,cs,R=>TQ H (ss:=ss) e R|.sl s,l,d,r,h',e,cs,R=>by
  simp only[dL]at e;split at e<;>try cases e
  .obtain⟨v,t,rfl,h1,h2⟩:=R;exact⟨ez.refl H,[v],t,rfl,⟨none,0,0,by rw[show v=_ from h1],rfl,Nat.le_refl _,fun q=>absurd rfl q⟩,h2⟩
  .rename_i τ L r';split at e<;>try cases e
   rename_i he;obtain⟨v,t,rfl,h1,h2⟩:=R;exact⟨ez.refl H,[v],t,rfl,DV he h1,h2⟩
  .rename_i b τ₀ r';split at e<;>try cases e
   rename_i τ L ty hb;split at e<;>try cases e
   rename_i tr he ht;obtain⟨v,t,rfl,⟨l₀,g1,gc,g2⟩,h2⟩:=R;have F:=ez.kill H g1 ht;have:=H.freeze hb g1 ht;rw[g2 _ (fE hb)];exact⟨F,[_],t,rfl,DV he this,h2.ext (F.E.dB H)⟩
  .rename_i b τ₀ off len r';split at e<;>try cases e
   .rename_i τ L ty hb;split at e<;>try cases e
    rename_i tr he he₀ ht;obtain⟨v,t,rfl,⟨l₀,a,c,g1,g2,g3,g4,g5,g6⟩,h2⟩:=R;have F:=ez.kill H g1 ht;have hfz:=H.freeze hb g1 ht;have:=Sh.eu he₀;subst this;have:=Sh.eu he;subst this;refine⟨F,[v],t,rfl,DV he ?_,h2.ext (F.E.dB H)⟩;have hle:=g6 _ (fE hb);rw[g2];cases l₀ with
    |nil=>
     have hL:L=[]:=H.obj b _ _ hb g1;subst hL;simp only[List.length_nil]at hle;have:len=0:=by omega
     subst this;exact⟨a,0,c,rfl,by simp,g3,fun q=>by rw[List.take_zero]at q;exact absurd rfl q⟩
    |«at» x k=>
     obtain⟨cs,tail,q1,q2,q3,q4⟩:=H.obj b _ _ hb g1;refine aeq (w:=X.w) q1 ?_ (q2.mono (fun x d q=>q.aX F.E.keeps)) hle g3 (fun hp=>?_)
     .rintro(q|⟨j,o,c',p1,p2,p3⟩)
      .exact H.loc b _ _ x hb g1 rfl q
      .have hj:=F.sub j o p1;have hg:=Tr.cf FT X.h.tr b none tr ht j;have:=H.inj j b o _ c' _ x hj hb p2 g1 p3 rfl;subst this
       replace p1:tr.get j=some o:=p1
       rw[hg,if_pos rfl]at p1;cases p1
     .obtain⟨x',k',e1,e2⟩:=g4 hp;cases e1;exact e2
    |bS x k m=>exact(H.obj b _ _ hb g1:False).elim
   .rename_i vs ty hb;split at e<;>try cases e
    rename_i tr ht;split at e<;>cases e;rename_i hr;obtain⟨v,t,rfl,⟨l₀,a,c,g1,rfl,g3,g4,g5,g6⟩,h2⟩:=R;obtain⟨x,k,cs,rfl,q1,q2⟩:=H.obj b _ _ hb g1;have F:=ez.kill H g1 ht;obtain⟨F₂,k1,k2⟩:=QV (F:=fun h l=>dL true h s l) (fun H=>px H) (X:=⟨X.s,⟨tr,X.h.next⟩,X.w,X.A⟩) F.H hr (q2.ext (F.E.dB H));have F₃:=F.trans F₂;refine⟨F₃,[_],t,rfl,⟨a,len,c,rfl,k1.symm,g3,fun hne=>?_⟩,h2.ext (F₃.E.dB H)⟩;have hpos:0<len:=by
     rcases Nat.eq_zero_or_pos len with r|r
     .subst r;exact absurd (List.eq_nil_of_length_eq_zero k1) hne
     .exact r
    obtain⟨x',k',e1,e2⟩:=g4 hpos;cases e1;refine⟨x,0,cs,by rw[e2];simp,?_,k2,_,ty,_,q1,fun j u hu=>by rw[Nat.zero_add];simpa using hu⟩;rintro(r|⟨j,o',c',p1,p2,p3⟩)
    .exact H.loc b _ _ x hb g1 rfl r
    .have p1':=F₂.sub j o' p1;have hg:=Tr.cf FT X.h.tr b none tr ht j
     replace p1':tr.get j=some o':=p1'
     rw[hg]at p1';by_cases hj:j=b
     .rw[if_pos hj]at p1';cases p1'
     .rw[if_neg hj]at p1';exact hj (H.inj j b o' _ c' _ x p1' hb p2 g1 p3 rfl)
theorem TQ{kl:Bool}{X:Cx}(H:aK X):∀{ss:List Sh}{l:List AV}{d:TL ss}{r:List AV}{h':Hp},jP kl X.h ss l=some (d,r,h')->∀{cs:List Value},bk X l cs ->
  ez X h'/\∃c e,cs=c++e/\fT X.w (Cx.out ⟨X.s,h',X.w,X.A⟩) ss d c/\bk ⟨X.s,h',X.w,X.A⟩ r e
 |[],l,d,r,h',e,cs,R=>by simp only[jP,Option.some.injEq,Prod.mk.injEq]at e;obtain⟨rfl,rfl,rfl⟩:=e;exact⟨ez.refl H,[],cs,rfl,rfl,R⟩
 |s::ss,l,d,r,h',e,cs,R=>by
  simp only[jP]at e;split at e<;>try cases e
  rename_i d₁ r₁ h₁ e₁;split at e<;>try cases e
  rename_i d₂ r₂ h₂ e₂;obtain⟨F₁,c,t,rfl,q1,q2⟩:=px H e₁ R;obtain⟨F₂,c',t',rfl,q3,q4⟩:=TQ (X:=⟨X.s,h₁,X.w,X.A⟩) F₁.H e₂ q2;exact⟨F₁.trans F₂,c++c',t',by simp,⟨c,c',rfl,q1.aX F₂.E.keeps,q3⟩,q4⟩
end
def oH:Value->Option AV
 |.bool b=>some (.bool b)|.int k n=>some (.int k n)|.string s=>some (.str s)|.pointer a=>match a with|none=>some .dk|some _=>none
 |.slice a len cap=>match a,len,cap with|none,0,0=>some .bq|_,_,_=>none
 |.map a=>match a with|none=>some .dT|some _=>none
 |.nilFunc=>some .dM|.nilIface=>some .eY|_=>none
def nM:List Value->Option (List AV)
 |[]=>some []|x::l=>match oH x with
  |some v=>match nM l with|some vs=>some (v::vs)|none=>none
  |none=>none
def back:Value->Option AV
 |.agg l=>match nM l.toList with|some vs=>some (.agg vs)|none=>none
 |.tuple l=>match nM l.toList with|some vs=>some (.cj vs)|none=>none
 |v=>oH v
theorem Tp{x:Value}{v:AV}(h:oH x=some v)(X:Cx):Rel X v x:=by
 cases x with
 |pointer a=>cases a<;>simp[oH]at h;subst h;rfl
 |map a=>cases a<;>simp[oH]at h;subst h;rfl
 |slice a l c=>
  simp only[oH]at h;split at h
  .simp at h;subst h;rfl
  .cases h
 |_=>simp[oH]at h<;>subst h<;>rfl
theorem Oo:∀{x:List Value}{l:List AV},nM x=some l->∀X:Cx,bk X l x
 |[],l,h,X=>by simp[nM]at h;subst h;rfl|x::xs,l,h,X=>by
  simp only[nM]at h;cases hv:oH x<;>simp only[hv]at h
  .cases h
  cases hl:nM xs<;>simp only[hl]at h
  .cases h
  simp at h;subst h;exact⟨x,xs,rfl,Tp hv X,Oo hl X⟩
theorem GI{x:Value}{v:AV}(h:back x=some v)(X:Cx):Rel X v x:=by
 cases x with
 |agg l=>
  simp only[back]at h;cases hl:nM l.toList<;>simp only[hl]at h
  .cases h
  simp at h;subst h;exact⟨l.toList,by simp,Oo hl X⟩
 |tuple l=>
  simp only[back]at h;cases hl:nM l.toList<;>simp only[hl]at h
  .cases h
  simp at h;subst h;exact⟨l.toList,by simp,Oo hl X⟩
 |_=>simp only[back]at h;exact Tp h X
def cI(T:Tr AV):Operand->Option AV
 |.tmp t=>T.get t|.const v=>back v|.func f=>some (.func f [] [])|.global _=>none
def nS(X:Cx)(T:Tr AV)(a:Act)(o:Op):Prop:=∀x∈o.operands,∀u,cI T x=some u->Rel X u (a.eval x)
theorem NV{X:Cx}{T:Tr AV}{a:Act}{o:Op}(h:∀t,.tmp t∈o.operands->∀u,T.get t=some u->∃V,a.tmps[t]?=some V/\Rel X u V):nS X T a o:=by
 intro x hx u hu;cases x with
 |tmp t=>obtain⟨V,h1,h2⟩:=h t hx u hu;simpa[Act.eval,Array.getD_eq_getD_getElem?,h1]using h2
 |const v=>exact GI hu X|func f=>simp[cI]at hu;subst hu;exact⟨[],[],rfl,rfl,rfl⟩|global g=>simp[cI]at hu
def jd(T:Tr AV):List Operand->Option (List AV)
 |[]=>some []|x::l=>match cI T x with
  |some v=>match jd T l with|some vs=>some (v::vs)|none=>none
  |none=>none
theorem TW{X:Cx}{T:Tr AV}{a:Act}:∀{l:List Operand}{vs:List AV},jd T l=some vs->(∀x∈l,∀u,cI T x=some u->Rel X u (a.eval x))->bk X vs (l.map a.eval)
 |[],vs,h,_=>by simp[jd]at h;subst h;rfl|x::l,vs,h,hr=>by
  simp only[jd]at h;cases hv:cI T x<;>simp only[hv]at h
  .cases h
  cases hl:jd T l<;>simp only[hl]at h
  .cases h
  simp at h;subst h;exact⟨_,_,rfl,hr x (by simp) _ hv,TW hl (fun y hy=>hr y (by simp[hy]))⟩
def kL(P:Program)(t:TypeId):Option AV:=match P.info? t with
 |some i=>match i.zero with|some v=>back v|none=>none
 |none=>none
theorem n9{P:Program}{t:TypeId}{v:AV}(h:kL P t=some v)(X:Cx)(w:World):∃V,(zeroValue t).run P w=.ok V w/\Rel X v V:=by
 unfold kL at h;cases hi:P.info? t<;>simp only[hi]at h
 .cases h
 rename_i i;cases hz:i.zero<;>simp only[hz]at h
 .cases h
 exact⟨_,by simp only[zeroValue,Sem.run_bind,run_typeInfo hi,Result.andThen_ok,hz,Sem.run_pure],GI h X⟩
def gn:AV->List AV
 |.agg l=>l|v=>[v]
theorem S1{V:Value}(h:Ev.lx V=true):V.cells=#[V]:=by cases V<;>first|rfl|cases h
theorem ke{X:Cx}{v:AV}{V:Value}(h:Rel X v V):bk X (gn v) V.cells.toList:=by
 have single:∀{u:AV}{U:Value},Rel X u U->U.cells=#[U]->bk X [u] U.cells.toList:=fun{u U} q e=>by rw[e];exact⟨U,[],rfl,q,rfl⟩
 cases v with
 |agg l=>obtain⟨cs,rfl,h2⟩:=h;simpa[gn,Value.cells]using h2
 |cj l=>exact single h (by obtain⟨cs,rfl,h2⟩:=h;rfl)
 |je=>exact single h (S1 h)|bool b=>exact single h (by rw[show V=_ from h];rfl)|int k n=>exact single h (by rw[show V=_ from h];rfl)|str s=>exact single h (by rw[show V=_ from h];rfl)|dk=>exact single h (by rw[show V=_ from h];rfl)|bq=>exact single h (by rw[show V=_ from h];rfl)|dT=>exact single h (by rw[show V=_ from h];rfl)|dM=>exact single h (by rw[show V=_ from h];rfl)|eY=>exact single h (by rw[show V=_ from h];rfl)|ptr b off=>exact single h (by obtain⟨x,c,h1,rfl⟩:=h;rfl)
 |dw b i z o=>exact single h (by obtain⟨x,c,h1,rfl,_⟩:=h;rfl)
 |eZ σ d o=>exact single h (by obtain⟨b,off,cs,rfl,_⟩:=h;rfl)
 |hd b τ=>exact single h (by obtain⟨l,h1,hc,_⟩:=h;exact S1 hc)
 |vw b τ off len=>exact single h (by obtain⟨l,a,c,h1,rfl,_⟩:=h;rfl)
 |fz τ L=>exact single h (by obtain⟨a,len,cap,e,_⟩:=h;simp only[List.cons.injEq,and_true]at e;rw[e];rfl)
 |func f x c=>exact single h (by obtain⟨xs,cs,rfl,_⟩:=h;rfl)
 |dA τ z L=>exact single h (by obtain⟨_,a,l,c,rfl,_⟩:=h;rfl)
 |mp b=>exact single h (by obtain⟨x,c,h1,rfl⟩:=h;rfl)
 |cS b=>exact single h (by obtain⟨l,h1,rfl⟩:=h;cases l<;>rfl)
 |rp b i=>exact single h (by obtain⟨x,c,m,p,h1,h2,rfl⟩:=h;rfl)
 |ra b i=>exact single h (by obtain⟨x,c,m,h1,h2,rfl⟩:=h;rfl)
def one:AV->Bool
 |.agg _|.cj _=>false|_=>true
def o8:List AV->Bool
 |[]=>true|x::l=>match one x with|true=>o8 l|false=>false
theorem Ug{X:Cx}{v:AV}{V:Value}(h:one v=true)(R:Rel X v V):Ev.lx V=true:=by
 cases v with
 |agg l=>cases h
 |cj l=>cases h
 |je=>exact R|bool b=>rw[show V=_ from R];rfl|int k n=>rw[show V=_ from R];rfl|str s=>rw[show V=_ from R];rfl|dk=>rw[show V=_ from R];rfl|bq=>rw[show V=_ from R];rfl|dT=>rw[show V=_ from R];rfl|dM=>rw[show V=_ from R];rfl|eY=>rw[show V=_ from R];rfl|ptr b off=>obtain⟨x,c,h1,rfl⟩:=R;rfl
 |dw b i z o=>obtain⟨x,c,h1,rfl,_⟩:=R;rfl
 |eZ σ d o=>obtain⟨b,off,cs,rfl,_⟩:=R;rfl
 |hd b τ=>obtain⟨l,h1,hc,_⟩:=R;exact hc
 |vw b τ off len=>obtain⟨l,a,c,h1,rfl,_⟩:=R;rfl
 |fz τ L=>obtain⟨a,len,cap,e,_⟩:=R;simp only[List.cons.injEq,and_true]at e;rw[e];rfl
 |func f x c=>obtain⟨xs,cs,rfl,_⟩:=R;rfl
 |dA τ z L=>obtain⟨_,a,l,c,rfl,_⟩:=R;rfl
 |mp b=>obtain⟨x,c,h1,rfl⟩:=R;rfl
 |cS b=>obtain⟨l,h1,rfl⟩:=R;cases l<;>rfl
 |rp b i=>obtain⟨x,c,m,p,h1,h2,rfl⟩:=R;rfl
 |ra b i=>obtain⟨x,c,m,h1,h2,rfl⟩:=R;rfl
theorem DY{X:Cx}:∀{l:List AV}{cs:List Value},o8 l=true->bk X l cs->∀V∈cs,Ev.lx V=true
 |[],cs,_,R,V,hV=>by rw[show cs=[]from R]at hV;cases hV
 |x::l,_,h,⟨v,r,rfl,h1,h2⟩,V,hV=>by
  simp only[o8]at h;split at h<;>try cases h
  rename_i hx;rcases List.mem_cons.1 hV with rfl|hV
  .exact Ug hx h1
  .exact DY h h2 V hV
open Go.Proofs.YtkcpdpplobhpaaaGreat.Ev (Tr Tr.cf nth dc takeN fZ jq jr cJ fG jG run_underlying run_typeInfo run_sizeOf ej fU places pg js nU mh)
def aw(n:Int)(len:Nat):Bool:=decide (0<=n)&&decide (n<(len:Int))
theorem rR{n:Int}{len:Nat}(h:aw n len=true):∃m:Nat,n=(m:Int)/\m<len:=by simp only[aw,Bool.and_eq_true,decide_eq_true_eq]at h;exact⟨n.toNat,by omega,by omega⟩
def both(a b:Bool):Bool:=match a with|true=>b|false=>false
theorem mn{a b:Bool}(h:both a b=true):a=true/\b=true:=by cases a<;>simp_all [both]
def aQ(c a b:Bool):Bool:=match c with|true=>a|false=>b
def cQ(c:Bool)(a b:Int):Int:=match c with|true=>a|false=>b
def jK(a b:IntKind):Bool:=Nat.beq (Ev.IntKind.num a) (Ev.IntKind.num b)
theorem ln{a b:IntKind}(h:jK a b=true):a=b:=Ev.IntKind.tv (Nat.eq_of_beq_eq_true h)
def lM(k:IntKind)(a b:Int):Int:=k.wrap ((BitVec.ofInt k.bits a &&& BitVec.ofInt k.bits b).toNat:Int)
def sE(k:IntKind)(a b:Int):Int:=k.wrap ((BitVec.ofInt k.bits a ||| BitVec.ofInt k.bits b).toNat:Int)
def Sp(k:IntKind)(a b:Int):Int:=k.wrap ((BitVec.ofInt k.bits a ^^^ BitVec.ofInt k.bits b).toNat:Int)
def Sn(k:IntKind)(a b:Int):Int:=k.wrap ((BitVec.ofInt k.bits a &&& ~~~ (BitVec.ofInt k.bits b)).toNat:Int)
def arith(op:BinOp)(k:IntKind)(a b:Int):Option (Bool×AV):=match op with|.add=>some (true,.int k (k.wrap (a+b)))|.sub=>some (true,.int k (k.wrap (a-b)))|.mul=>some (true,.int k (k.wrap (a*b)))|.quo=>some (!(decide (b=0)),.int k (k.wrap (a.tdiv b)))|.rem=>some (!(decide (b=0)),.int k (a.tmod b))|.and=>some (true,.int k (lM k a b))|.or=>some (true,.int k (sE k a b))|.xor=>some (true,.int k (Sp k a b))|.andNot=>some (true,.int k (Sn k a b))|.eql=>some (true,.bool (a == b))|.neq=>some (true,.bool (a != b))|.lss=>some (true,.bool (decide (a<b)))|.leq=>some (true,.bool (decide (a<=b)))|.gtr=>some (true,.bool (decide (a > b)))|.geq=>some (true,.bool (decide (a>=b)))|_=>none
def G6(op:BinOp)(k:IntKind)(a b:Int):Option (Bool×AV):=match op with|.shl=>some (decide (0<=b),.int k (k.wrap (a*2^(min b.toNat k.bits))))|.shr=>some (decide (0<=b),.int k (a.fdiv (2^(min b.toNat k.bits))))|_=>none
def Uy:BinOp->Bool|.shl|.shr=>true|_=>false
def Gw(op:BinOp)(a b:ByteArray):Option (Bool×AV):=match op with|.add=>some (decide (((a.size+b.size:Nat):Int)<=IntKind.i64.max),.str (a++b))|.eql=>some (true,.bool (a.toList == b.toList))|.neq=>some (true,.bool (!(a.toList == b.toList)))|.lss=>some (true,.bool (Op.bytesLess a.toList b.toList))|_=>none
def He:TypeDesc->AV->AV->Option Bool
 |.pointer _,.dk,.dk=>some true|.pointer _,.dk,.ptr _ _|.pointer _,.ptr _ _,.dk|.pointer _,.dk,.dw _ _ _ _|.pointer _,.dw _ _ _ _,.dk|.pointer _,.dk,.eZ _ _ _|.pointer _,.eZ _ _ _,.dk=>some false|.slice _,.bq,.bq=>some true|.slice _,.dA _ z _,.bq=>some z|.slice _,.bq,.dA _ z _=>some z|.map _ _,.dT,.dT=>some true|.func _ _ _,.dM,.dM=>some true|.func _ _ _,.dM,.func _ _ _|.func _ _ _,.func _ _ _,.dM=>some false|.bool,.bool a,.bool b=>some (a == b)|_,_,_=>none
def Gf(P:Program)(op:BinOp)(t:TypeId)(u v:AV):Option (Bool×AV):=match u,v with
 |.int k a,.int k' b=>match Uy op with|true=>G6 op k a b|false=>match jK k k' with|true=>arith op k a b|false=>none
 |.str a,.str b=>Gw op a b|u,v=>match P.underlying t with
  |some d=>match He d u v with
   |some b=>match op with|.eql=>some (true,.bool b)|.neq=>some (true,.bool (!b))|_=>none
   |none=>none
  |none=>none
theorem ahN{P:Program}{op:BinOp}{k:IntKind}{a b:Int}{g:Bool}{v:AV}(e:arith op k a b=some (g,v))(hg:g=true)(hs:Uy op=false)(t:TypeId)(x y:Operand)(X:Cx)(w:World) :
  ∃V,(do eqGuard op t x y (.int k a) (.int k b);binOp op t (.int k a) (.int k b)).run P w=.ok V w/\Rel X v V:=by
 subst hg;cases op<;>simp only[arith,Option.some.injEq,Prod.mk.injEq]at e<;>first|(cases e;done)|skip
 all_goals
  obtain⟨e1,rfl⟩:=e;refine⟨_,?_,rfl⟩
  first
  |(have hb:¬b=0:=(by simpa using e1);simp[eqGuard,binOp,Op.intArith,Op.intDiv,Op.intBits,Op.intCmp,hb])
  |simp[eqGuard,binOp,Op.intArith,Op.intDiv,Op.intBits,Op.intCmp,lM,sE,Sp,Sn]
theorem agZ{P:Program}{op:BinOp}{k k':IntKind}{a b:Int}{g:Bool}{v:AV}(e:G6 op k a b=some (g,v))(hg:g=true)(t:TypeId)(x y:Operand)(X:Cx)(w:World) :
  ∃V,(do eqGuard op t x y (.int k a) (.int k' b);binOp op t (.int k a) (.int k' b)).run P w=.ok V w/\Rel X v V:=by
 subst hg;cases op<;>simp only[G6,Option.some.injEq,Prod.mk.injEq]at e<;>first|(cases e;done)|skip
 all_goals
  obtain⟨e1,rfl⟩:=e;have hb:¬b<0:=by have:=of_decide_eq_true e1;omega
  exact⟨_,by simp[eqGuard,binOp,Op.shift,hb],rfl⟩
theorem aho{P:Program}{op:BinOp}{a b:ByteArray}{g:Bool}{v:AV}(e:Gw op a b=some (g,v))(hg:g=true)(t:TypeId)(x y:Operand)(X:Cx)(w:World) :
  ∃V,(do eqGuard op t x y (.string a) (.string b);binOp op t (.string a) (.string b)).run P w=.ok V w/\Rel X v V:=by
 subst hg;cases op<;>simp only[Gw,Option.some.injEq,Prod.mk.injEq]at e<;>first|(cases e;done)|skip
 all_goals
  obtain⟨e1,rfl⟩:=e;refine⟨_,?_,rfl⟩
  first
  |(have hb:¬(((a.size+b.size:Nat):Int) > IntKind.i64.max):=(by have:=of_decide_eq_true e1;omega);have hs:(Op.stringOp .add a b)=pure (.string (a++b)):=(by unfold Op.stringOp;simp only[];rw[if_neg hb]);simp[eqGuard,binOp,hs];done)
  |simp[eqGuard,binOp,Op.stringOp]
theorem ag8{P:Program}{t:TypeId}{d:TypeDesc}{u v:AV}{b:Bool}(hu:P.underlying t=some d)(h:He d u v=some b){X:Cx}{U V:Value}(h1:Rel X u U)(h2:Rel X v V)(w:World)(x y:Operand) :
  (do eqGuard .eql t x y U V;binOp .eql t U V).run P w=.ok (.bool b) w/\(do eqGuard .neq t x y U V;binOp .neq t U V).run P w=.ok (.bool (!b)) w:=by
 have hr:=run_underlying hu w;have fin:∀{U V:Value},eqGuard .eql t x y U V=pure ()->eqGuard .neq t x y U V=pure ()->binOp .eql t U V=(do pure (.bool (<- Op.equal t U V)))->binOp .neq t U V=(do pure (.bool (!(<- Op.equal t U V)))) ->
   (∀n,(Op.equalIn (n+1) t U V).run P w=.ok b w) ->
   (do eqGuard .eql t x y U V;binOp .eql t U V).run P w=.ok (.bool b) w/\(do eqGuard .neq t x y U V;binOp .neq t U V).run P w=.ok (.bool (!b)) w:=by
  intro U V g1 g2 g3 g4 g5;have g5:(Op.equal t U V).run P w=.ok b w:=g5 9999;exact⟨by simp[g1,g3,g5],by simp[g2,g4,g5]⟩
 unfold He at h;split at h<;>first|(cases h;done)|skip
 all_goals
  simp only[Option.some.injEq]at h;subst h
 .rw[show U=_ from h1,show V=_ from h2];exact fin rfl rfl rfl rfl (fun n=>by simp[Op.equalIn,hr])
 .obtain⟨x₁,c₁,-,rfl⟩:=h2;rw[show U=_ from h1];exact fin rfl rfl rfl rfl (fun n=>by simp[Op.equalIn,hr])
 .obtain⟨x₁,c₁,-,rfl⟩:=h1;rw[show V=_ from h2];exact fin rfl rfl rfl rfl (fun n=>by simp[Op.equalIn,hr])
 .obtain⟨x₁,c₁,-,rfl,-⟩:=h2;rw[show U=_ from h1];exact fin rfl rfl rfl rfl (fun n=>by simp[Op.equalIn,hr])
 .obtain⟨x₁,c₁,-,rfl,-⟩:=h1;rw[show V=_ from h2];exact fin rfl rfl rfl rfl (fun n=>by simp[Op.equalIn,hr])
 .obtain⟨x₁,c₁,c₂,rfl,-⟩:=h2;rw[show U=_ from h1];exact fin rfl rfl rfl rfl (fun n=>by simp[Op.equalIn,hr])
 .obtain⟨x₁,c₁,c₂,rfl,-⟩:=h1;rw[show V=_ from h2];exact fin rfl rfl rfl rfl (fun n=>by simp[Op.equalIn,hr])
 .rw[show U=_ from h1,show V=_ from h2];exact fin rfl rfl rfl rfl (fun n=>by simp[Op.equalIn,hr])
 .obtain⟨-,a,l,c,rfl,hz⟩:=h1;rw[show V=_ from h2];exact fin rfl rfl rfl rfl (fun n=>by cases a<;>simp at hz<;>simp[Op.equalIn,hr,hz])
 .obtain⟨-,a,l,c,rfl,hz⟩:=h2;rw[show U=_ from h1];exact fin rfl rfl rfl rfl (fun n=>by cases a<;>simp at hz<;>simp[Op.equalIn,hr,hz])
 .rw[show U=_ from h1,show V=_ from h2];exact fin rfl rfl rfl rfl (fun n=>by simp[Op.equalIn,hr])
 .rw[show U=_ from h1,show V=_ from h2];exact fin rfl rfl rfl rfl (fun n=>by simp[Op.equalIn,hr])
 .obtain⟨xs,cs,rfl,-⟩:=h2;rw[show U=_ from h1];exact fin rfl rfl rfl rfl (fun n=>by simp[Op.equalIn,hr])
 .obtain⟨xs,cs,rfl,-⟩:=h1;rw[show V=_ from h2];exact fin rfl rfl rfl rfl (fun n=>by simp[Op.equalIn,hr])
 .rw[show U=_ from h1,show V=_ from h2];exact fin rfl rfl rfl rfl (fun n=>by simp[Op.equalIn,hr])
theorem Zx5{P:Program}{op:BinOp}{t:TypeId}{u v r:AV}{g:Bool}(e:Gf P op t u v=some (g,r))(hg:g=true){X:Cx}{U V:Value}(h1:Rel X u U)(h2:Rel X v V)(x y:Operand)(w:World) :
  ∃R,(do eqGuard op t x y U V;binOp op t U V).run P w=.ok R w/\Rel X r R:=by
 unfold Gf at e;split at e
 .rename_i k a k' b;rw[show U=_ from h1,show V=_ from h2];split at e
  .exact agZ e hg t x y X w
  .rename_i hs;split at e<;>try cases e
   rename_i hk;have:=ln hk;subst this;exact ahN e hg hs t x y X w
 .rename_i a b;rw[show U=_ from h1,show V=_ from h2];exact aho e hg t x y X w
 .split at e<;>try cases e
  rename_i d hu;split at e<;>try cases e
  rename_i b hb;obtain⟨q1,q2⟩:=ag8 hu hb h1 h2 w x y;split at e<;>first|(cases e;done)|(cases e;exact⟨_,q1,rfl⟩)|(cases e;exact⟨_,q2,rfl⟩)
def tw(h:Hp):AV->Option (Bool×List AV×Nat)
 |.ptr b off=>match h.tr.get b with|some (.cells l _)=>some (true,l,off)|_=>none
 |.dw b i z o=>match h.tr.get b with
  |some (.arr τ L _)=>match Nat.beq z τ.size with|true=>some (true,mo τ (L.getD i τ.zero),o)|false=>none
  |some (.du τ k L vs _)=>match Nat.beq z τ.size with|true=>some (Nat.beq i k,vs,o)|false=>none
  |_=>none
 |.eZ σ d o=>some (true,mo σ d,o)|.ra b i=>match h.tr.get b with|some (.cO _ _)=>some (true,[.rp b i],0)|_=>none
 |_=>none
theorem Zxc{X:Cx}(H:aK X){u:AV}{g:Bool}{l:List AV}{o:Nat}{U:Value}(e:tw X.h u=some (g,l,o))(hg:g=true)(R:Rel X u U) :
  ∃b off c ty fr cs,U=.pointer (some ⟨b,off+o,none⟩)/\X.w.heap[b]?=some (.cells c ty fr)/\bk X l cs/\∀j v,cs[j]?=some v->c[off+j]?=some v:=by
 unfold tw at e;split at e<;>try cases e
 .rename_i b off;split at e<;>try cases e
  rename_i ty hb;obtain⟨x,c,h1,rfl⟩:=R;obtain⟨x',c',cs,e1,e2,e3⟩:=H.obj b _ _ hb h1;cases e1;exact⟨x,0,_,ty,_,cs,by simp,e2,e3,fun j v q=>by simpa using q⟩
 .rename_i b i z o';split at e<;>try cases e
  .rename_i τ L ty hb;split at e<;>try cases e
   rename_i hz;have hz:=Nat.eq_of_beq_eq_true hz;subst hz;obtain⟨x,c,h1,rfl,h3⟩:=R;have hi:=h3 _ (fE hb);obtain⟨cs,tail,q1,q2,q3,q4⟩:=H.obj b _ _ hb h1;obtain⟨d,p1,p2⟩:=bh.get (fun x c=>Cs.length) q2 (List.getElem?_eq_getElem hi);refine⟨x,i*τ.size,_,ty,_,d,rfl,q1,?_,?_⟩
   .rw[List.getD_eq_getElem?_getD,List.getElem?_eq_getElem hi];exact te p1
   .intro j v hv;have hj:j<τ.size:=by
     rw[<-Cs.length p1];rcases Nat.lt_or_ge j d.length with q|q
     .exact q
     .rw[List.getElem?_eq_none q]at hv;cases hv
    rw[<-p2 j hj]at hv;simp only[List.getElem?_toArray];rw[List.getElem?_append_left]
    .exact hv
    .rcases Nat.lt_or_ge (i*τ.size+j) cs.length with q|q
     .exact q
     .rw[List.getElem?_eq_none q]at hv;cases hv
  .rename_i τ k L vs ty hb;split at e<;>try cases e
   rename_i hz;have hz:=Nat.eq_of_beq_eq_true hz;subst hz;have hg:=Nat.eq_of_beq_eq_true hg;subst hg;obtain⟨x,c,h1,rfl,h3⟩:=R;obtain⟨x',c',pre,mid,post,tail,e1,q1,q2,q3,q4,q5,q6,q7,q8⟩:=H.obj b _ _ hb h1;cases e1;have hpre:pre.length=i*τ.size:=by rw[bh.length (fun x c=>Cs.length) q2,List.length_take,Nat.min_eq_left (by omega)]
   refine⟨x,i*τ.size,_,ty,_,mid,rfl,q1,q3,?_⟩;intro j v hv;simp only[List.getElem?_toArray];rw[<-hpre,List.getElem?_append_right (by omega),Nat.add_sub_cancel_left,List.getElem?_append_left]
   .exact hv
   .rcases Nat.lt_or_ge j mid.length with q|q
    .exact q
    .rw[List.getElem?_eq_none q]at hv;cases hv
 .rename_i σ d;obtain⟨b,off,cs,rfl,h2,h3,c,ty,fr,h4,h5⟩:=R;exact⟨b,off,c,ty,fr,cs,rfl,h4,te h3,h5⟩
 .rename_i b i;split at e<;>cases e;rename_i L ty hb;obtain⟨x,c,m,h1,h2,rfl⟩:=R;obtain⟨tail,ty',q1,q2,q3,q4⟩:=H.obj b _ _ hb h1;have hp:=List.getElem?_eq_getElem h2;refine⟨x,i,_,ty',_,[.pointer (some ⟨m[i].1,0,none⟩)],rfl,q1,⟨_,[],rfl,⟨x,c,m,m[i],h1,hp,rfl⟩,rfl⟩,?_⟩;intro j v hv;cases j with|zero=>simp only[List.getElem?_cons_zero,Option.some.injEq]at hv;subst hv;rw[Nat.add_zero,List.getElem?_toArray,List.getElem?_append_left (by unfold jh;simpa using h2)];unfold jh;rw[List.getElem?_map,hp];rfl|succ j=>simp at hv
def qM(P:Program)(t:TypeId)(l:List AV)(off:Nat):Option AV:=match nU P t with
 |some true=>match ej P t with
  |some n=>match Nat.ble (off+n) l.length with|true=>some (.agg (takeN n (fZ off l)))|false=>none
  |none=>none
 |some false=>nth l off|none=>none
theorem Ny{P:Program}{t:TypeId}{l:List AV}{off:Nat}{v:AV}(e:qM P t l off=some v){X:Cx}{cs:List Value}(R:bk X l cs)(w:World) :
  ∃V,(part t cs.toArray off).run P w=.ok V w/\Rel X v V:=by
 unfold qM at e;split at e
 .rename_i ha;split at e<;>try cases e
  rename_i n hn;split at e<;>try cases e
  refine⟨.agg ((cs.drop off).take n).toArray,?_,⟨_,rfl,by rw[jq,jr];exact(R.drop off).take n⟩⟩;simp[part,mh ha,run_sizeOf hn,List.extract_eq_take_drop]
 .rename_i ha;rw[dc]at e;obtain⟨V,h1,h2⟩:=R.get e;exact⟨V,by simp[part,mh ha,h1],h2⟩
 .cases e
def qJ(P:Program)(h:Hp)(t:TypeId)(u:AV):Option (Bool×AV):=match tw h u with
 |some (g,l,o)=>match qM P t l o with|some v=>some (g,v)|none=>none
 |none=>none
theorem Zpo{P:Program}{t:TypeId}{u v:AV}{g:Bool}{X:Cx}(H:aK X)(e:qJ P X.h t u=some (g,v))(hg:g=true){U:Value}(R:Rel X u U) :
  ∃V,(Instr.loadAt t U).run P X.w=.ok V X.w/\Rel X v V:=by
 unfold qJ at e;split at e<;>try cases e
 rename_i g' l o hc;split at e<;>cases e;rename_i e;obtain⟨b,off,c,ty,fr,cs,rfl,h1,h2,h3⟩:=Zxc H hc hg R;unfold qM at e;split at e
 .rename_i ha;split at e<;>try cases e
  rename_i n hn;split at e<;>try cases e
  rename_i hle;have hle:=Nat.le_of_ble_eq_true hle;have hcl:=h2.length;rcases Nat.eq_zero_or_pos n with hz|hz
  .subst hz;exact⟨.agg #[],by simp[Instr.loadAt,Instr.sureAddr,loadVar,mh ha,run_sizeOf hn,loadCells,loadCellsFrom],[],rfl,by simp[takeN,bk]⟩
  have hsz:off+o+n<=c.size:=by have:=h3 (o+n-1) cs[o+n-1] (List.getElem?_eq_getElem (by omega));have:=eD this;omega
  refine⟨.agg ((cs.drop o).take n).toArray,?_,⟨_,rfl,by rw[jq,jr];exact(h2.drop o).take n⟩⟩;simp only[Instr.loadAt,Instr.sureAddr,Sem.run_bind,Sem.run_pure,Result.andThen_ok,loadVar,mh ha,if_true,run_sizeOf hn,loadCells];rw[Ev.run_loadCells (P:=P) h1 n 0 #[] (by omega)];simp only[Result.andThen_ok,Sem.run_pure,Nat.add_zero];congr 3;simp only[List.nil_append];apply List.ext_getElem?;intro j;rw[List.getElem?_take,List.getElem?_take];split
  .rename_i hj;rw[List.getElem?_drop,List.getElem?_drop];have:=h3 (o+j) cs[o+j] (List.getElem?_eq_getElem (by omega));rw[List.getElem?_eq_getElem (by omega:o+j<cs.length),<-this];simp[Nat.add_assoc]
  .rfl
 .rename_i ha;rw[dc]at e;obtain⟨V,q1,q2⟩:=h2.get e;refine⟨V,?_,q2⟩;have hc:X.w.cell? ⟨b,off+o,none⟩=some V:=by simp only[World.cell?,h1,Option.isSome_none,Bool.false_eq_true,if_false];exact h3 o V q1
  simp[Instr.loadAt,Instr.sureAddr,loadVar,mh ha,run_load,hc]
 .cases e
def NX(P:Program)(t:TypeId)(u:AV)(f:Nat):Option AV:=match P.underlying t with
 |some (.struct fields)=>match nth fields.toList f with
  |some fd=>match u with|.agg l=>qM P fd.type l fd.offset|_=>none
  |none=>none
 |_=>none
theorem Zsx{P:Program}{t:TypeId}{u v:AV}{f:Nat}(h:NX P t u f=some v){X:Cx}{U:Value}(R:Rel X u U)(w:World) :
  ∃V,(Instr.field t U f).run P w=.ok V w/\Rel X v V:=by
 unfold NX at h;cases hu:P.underlying t with
 |none=>simp[hu]at h|some d=>
  have hr:=run_underlying hu w;cases d<;>simp only[hu]at h<;>try cases h
  rename_i fields;cases hf:nth fields.toList f<;>simp only[hf]at h
  .cases h
  rename_i fd;rw[dc]at hf;cases u<;>simp only[]at h<;>try cases h
  have hf':fields[f]?=some fd:=by simpa using hf
  obtain⟨cs,rfl,R'⟩:=R;obtain⟨V,q1,q2⟩:=Ny h R' w;exact⟨V,by simp[Instr.field,hr,hf',asAgg,q1],q2⟩
def Hw:AV->Nat->Option AV
 |.ptr b off,n=>some (.ptr b (off+n))|.dw b i z o,n=>some (.dw b i z (o+n))|.eZ σ d o,n=>some (.eZ σ d (o+n))|_,_=>none
theorem ahl{X:Cx}{u v:AV}{n:Nat}{U:Value}(e:Hw u n=some v)(R:Rel X u U):∃b o,U=.pointer (some ⟨b,o,none⟩)/\Rel X v (.pointer (some ⟨b,o+n,none⟩)):=by
 unfold Hw at e;split at e<;>cases e
 .obtain⟨x,c,h1,rfl⟩:=R;exact⟨_,_,rfl,x,c,h1,rfl⟩
 .obtain⟨x,c,h1,rfl,h3⟩:=R;exact⟨_,_,rfl,x,c,h1,by simp[Nat.add_assoc],h3⟩
 .obtain⟨b,off,cs,rfl,h⟩:=R;exact⟨_,_,rfl,b,off,cs,by simp[Nat.add_assoc],h⟩
def Ns(P:Program)(t:TypeId)(u:AV)(f:Nat):Option AV:=match P.underlying t with
 |some (.struct fields)=>match nth fields.toList f with
  |some fd=>match ej P fd.type with|some (n+1)=>Hw u fd.offset|_=>none
  |none=>none
 |_=>none
theorem Zqv{P:Program}{t:TypeId}{u v:AV}{f:Nat}(h:Ns P t u f=some v){X:Cx}{U:Value}(R:Rel X u U)(w:World) :
  ∃V,(Instr.fieldAt t U f).run P w=.ok V w/\Rel X v V:=by
 unfold Ns at h;cases hu:P.underlying t with
 |none=>simp[hu]at h|some d=>
  have hr:=run_underlying hu w;cases d<;>simp only[hu]at h<;>try cases h
  rename_i fields;cases hf:nth fields.toList f<;>simp only[hf]at h
  .cases h
  rename_i fd;rw[dc]at hf;have hf':fields[f]?=some fd:=by simpa using hf
  split at h<;>try cases h
  rename_i n hs;obtain⟨b,o,rfl,q⟩:=ahl h R;exact⟨_,by simp[Instr.fieldAt,hr,hf',Instr.sureAddr,fieldPlace,run_sizeOf hs,fU],q⟩
def s9(P:Program)(h:Hp)(t:TypeId)(u i:AV):Option (Bool×AV):=match i with
 |.int k n=>match P.underlying t with
  |some (.slice elem)=>match ej P elem with
   |some sz=>match u with
    |.hd b _=>match h.tr.get b with
     |some (.arr τ L _)=>match Nat.beq sz τ.size with|true=>some (aw n L.length,.dw b n.toNat sz 0)|false=>none
     |some (.du τ _ L _ _)=>match Nat.beq sz τ.size with|true=>some (aw n L.length,.dw b n.toNat sz 0)|false=>none
     |_=>none
    |.vw b τ off len=>match Nat.beq sz τ.size with
     |true=>match h.tr.get b with|some (.cells _ _)=>some (aw n len,.ptr b ((off+n.toNat)*sz))|some (.arr _ _ _)=>some (aw n len,.dw b (off+n.toNat) sz 0)|_=>none
     |false=>none
    |.fz τ L=>match Nat.beq sz τ.size with|true=>some (aw n L.length,.eZ τ (L.getD n.toNat τ.zero) 0)|false=>none
    |.cS b=>match h.tr.get b with
     |some (.cO L _)=>match Nat.beq sz 1 with|true=>some (aw n L.length,.ra b n.toNat)|false=>none
     |_=>none
    |_=>none
   |none=>none
  |some (.array len elem)=>match n with
   |.ofNat n=>match u,ej P elem with
    |.ptr b off,some sz=>match Nat.blt n len with|true=>some (true,.ptr b (off+n*sz))|false=>none
    |_,_=>none
   |_=>none
  |_=>none
 |_=>none
theorem Zqu{P:Program}{t:TypeId}{u i v:AV}{g:Bool}{X:Cx}(H:aK X)(h:s9 P X.h t u i=some (g,v))(hg:g=true){U I:Value}(R:Rel X u U)(RI:Rel X i I)(w:World) :
  ∃V,(Instr.indexAt t U I).run P w=.ok V w/\Rel X v V:=by
 subst hg;unfold s9 at h;cases i<;>simp only[]at h<;>try cases h
 rename_i k n;rw[show I=_ from RI];cases hu:P.underlying t with
 |none=>simp[hu]at h|some d=>
  have hr:=run_underlying hu w;cases d<;>simp only[hu]at h<;>try cases h
  .rename_i elem;split at h<;>try cases h
   rename_i sz hs;split at h<;>try cases h
   .rename_i b τ₀;have fin:∀(n':Nat),rowOf X.h.tr b=some n'->aw n n'=true->(∀l,X.s b=some l->∃x c,l=.at x c\/n'=0)->∃V,(Instr.indexAt t U (.int k n)).run P w=.ok V w/\Rel X (.dw b n.toNat sz 0) V:=by
     intro n' hrow aT hl;obtain⟨m,rfl,hm⟩:=rR aT;obtain⟨l,h1,_,h2⟩:=R;have hV:=h2 n' hrow;obtain⟨x,c,rfl|rfl⟩:=hl l h1
     .subst hV;refine⟨.pointer (some ⟨x,m*sz,none⟩),by simp[Loc.slice,Instr.indexAt,asIntOf,hr,run_sizeOf hs,fU,hm],x,c,h1,by simp,?_⟩;intro n₂ q;rw[hrow]at q;cases q;simpa using hm
     .exact absurd hm (by omega)
    split at h<;>try cases h
    .rename_i τ L ty hb;split at h<;>try cases h
     rename_i hz;simp only[Option.some.injEq,Prod.mk.injEq]at h;obtain⟨aT,rfl⟩:=h;refine fin _ (fE hb) aT fun l h1=>?_;cases l with|nil=>have hL:L=[]:=H.obj b _ _ hb h1;subst hL;exact⟨0,0,.inr rfl⟩|bS _ _ _=>exact(H.obj b _ _ hb h1:False).elim|«at» x c=>exact⟨x,c,.inl rfl⟩
    .rename_i τ i₀ L vs ty hb;split at h<;>try cases h
     rename_i hz;simp only[Option.some.injEq,Prod.mk.injEq]at h;obtain⟨aT,rfl⟩:=h;refine fin _ (YC hb) aT fun l h1=>?_;obtain⟨x,c,pre,mid,post,tail,e1,_⟩:=H.obj b _ _ hb h1;exact⟨x,c,.inl e1⟩
   .rename_i b τ off len;split at h<;>try cases h
    rename_i hz;have hz:=Nat.eq_of_beq_eq_true hz;subst hz;obtain⟨l,a,c,h1,rfl,h3,h4,h5,h6⟩:=R;split at h<;>try cases h
    .simp only[Option.some.injEq,Prod.mk.injEq]at h;obtain⟨aT,rfl⟩:=h;obtain⟨m,rfl,hm⟩:=rR aT;obtain⟨x,k',rfl,rfl⟩:=h4 (by omega);exact⟨.pointer (some ⟨x,off*τ.size+m*τ.size,none⟩),by simp[Instr.indexAt,asIntOf,hr,run_sizeOf hs,fU,hm],x,k',h1,by simp[Nat.add_mul]⟩
    .simp only[Option.some.injEq,Prod.mk.injEq]at h;obtain⟨aT,rfl⟩:=h;obtain⟨m,rfl,hm⟩:=rR aT;obtain⟨x,k',rfl,rfl⟩:=h4 (by omega);refine⟨.pointer (some ⟨x,off*τ.size+m*τ.size,none⟩),by simp[Instr.indexAt,asIntOf,hr,run_sizeOf hs,fU,hm],x,k',h1,by simp[Nat.add_mul],?_⟩;intro n' q;have:=h6 n' q;simp;omega
   .rename_i τ L;split at h<;>try cases h
    rename_i hz;have hz:=Nat.eq_of_beq_eq_true hz;subst hz;simp only[Option.some.injEq,Prod.mk.injEq]at h;obtain⟨aT,rfl⟩:=h;obtain⟨m,rfl,hm⟩:=rR aT;obtain⟨a,len,cap,e1,e2,e3,e4⟩:=R;simp only[List.cons.injEq,and_true]at e1;subst e1;obtain⟨b,o,Y,rfl,q2,q3,q4⟩:=e4 (by intro q;subst q;simp at hm);subst e2;have hget:L[m]?=some L[m]:=List.getElem?_eq_getElem hm;obtain⟨d,p1,p2⟩:=bh.get (fun x c=>Cs.length) q3 hget;obtain⟨c,ty,fr,r1,r2⟩:=q4;refine⟨.pointer (some ⟨b,o+m*τ.size,none⟩),by simp[Instr.indexAt,asIntOf,hr,run_sizeOf hs,fU,hm],b,o+m*τ.size,d,by simp,q2,?_,c,ty,fr,r1,?_⟩
    .rw[Int.toNat_natCast,List.getD_eq_getElem?_getD,hget];exact p1
    .intro j u hj;have hj':j<τ.size:=by
      rw[<-Cs.length p1];rcases Nat.lt_or_ge j d.length with q|q
      .exact q
      .rw[List.getElem?_eq_none q]at hj;cases hj
     rw[<-p2 j hj']at hj;have:=r2 _ _ hj;rw[Nat.add_assoc];exact this
   .rename_i b;split at h<;>try cases h
    rename_i L ty hb;split at h<;>try cases h
    rename_i hz;have hz:=Nat.eq_of_beq_eq_true hz;subst hz;simp only[Option.some.injEq,Prod.mk.injEq]at h;obtain⟨aT,rfl⟩:=h;obtain⟨m,rfl,hm⟩:=rR aT;obtain⟨l,h1,rfl⟩:=R;cases l with|nil=>have hL:L=[]:=H.obj b _ _ hb h1;subst hL;simp at hm|«at» x c=>exact(H.obj b _ _ hb h1:False).elim|bS x c ps=>obtain⟨tail,ty',q1,q2,q3,q4⟩:=H.obj b _ _ hb h1;have hl:=q3.len;exact⟨.pointer (some ⟨x,m,none⟩),by simp[Loc.Sa,Instr.indexAt,asIntOf,hr,run_sizeOf hs,fU,hl,hm],x,c,ps,h1,by simp;omega,by simp⟩
  .split at h<;>try cases h
   rename_i n;split at h<;>try cases h
   rename_i b off sz hs;split at h<;>try cases h
   rename_i hb;rw[Nat.blt_eq]at hb;obtain⟨x,c,h1,rfl⟩:=R;exact⟨_,by simp[Instr.indexAt,asIntOf,hr,run_sizeOf hs,fU,hb,Instr.sureAddr],x,c,h1,rfl⟩
open Go.Proofs.YtkcpdpplobhpaaaGreat.Ev (Tr Tr.cf nth dc takeN fZ jq jr cJ fG jG run_underlying run_typeInfo run_sizeOf ej fU places pg js nU mh ph NS)
def kf(T:Tr AV)(x:Option Operand):Option (Option Int):=match x with|none=>some none|some x=>match cI T x with|some (.int _ n)=>some (some n)|_=>none
theorem GH{T:Tr AV}{x:Option Operand}(h:kf T x=some none):x=none:=by
 unfold kf at h;split at h
 .rfl
 .split at h<;>cases h
theorem GG{X:Cx}{T:Tr AV}{a:Act}{x:Option Operand}{n:Int}(h:kf T x=some (some n))(hr:∀y,x=some y->∀u,cI T y=some u->Rel X u (a.eval y)):∃y k,x=some y/\a.eval y=.int k n:=by
 unfold kf at h;split at h
 .cases h
 .rename_i y;split at h<;>try cases h
  rename_i k hy;exact⟨y,k,rfl,hr y rfl _ hy⟩
def lenOf(h:Hp):AV->Option Nat
 |.hd b _=>match h.tr.get b with|some (.arr _ L _)=>some L.length|some (.du _ _ L _ _)=>some L.length|_=>none
 |.vw _ _ _ len=>some len|.fz _ L=>some L.length|.dA _ _ L=>some L.length|.bq=>some 0|.cS b=>match h.tr.get b with|some (.cO L _)=>some L.length|_=>none
 |_=>none
theorem Ta{X:Cx}(H:aK X){u:AV}{n:Nat}{U:Value}(e:lenOf X.h u=some n)(R:Rel X u U):∃a c,U=.slice a n c/\n<=c:=by
 unfold lenOf at e;split at e<;>try cases e
 .rename_i b τ;split at e<;>try cases e
  .rename_i τ' L ty hb;obtain⟨l,h1,_,h2⟩:=R;rw[h2 _ (fE hb)];cases l with|nil=>have hL:L=[]:=H.obj b _ _ hb h1;subst hL;exact⟨none,0,rfl,Nat.le_refl _⟩|bS _ _ _=>exact(H.obj b _ _ hb h1:False).elim|«at» x c=>obtain⟨cs,tail,q1,q2,q3,q4⟩:=H.obj b _ _ hb h1;exact⟨_,c,rfl,q4⟩
  .rename_i τ' i' L vs ty hb;obtain⟨l,h1,_,h2⟩:=R;rw[h2 _ (YC hb)];obtain⟨x,c,pre,mid,post,tail,rfl,_,_,_,_,_,_,_,q⟩:=H.obj b _ _ hb h1;exact⟨_,c,rfl,q⟩
 .obtain⟨l,a,c,h1,rfl,h3,_⟩:=R;exact⟨a,c,rfl,h3⟩
 .obtain⟨a,len,cap,e1,e2,e3,_⟩:=R;simp only[List.cons.injEq,and_true]at e1;subst e1;subst e2;exact⟨a,cap,rfl,e3⟩
 .obtain⟨⟨a,len,cap,e1,e2,e3,_⟩,_⟩:=R;simp only[List.cons.injEq,and_true]at e1;subst e1;subst e2;exact⟨a,cap,rfl,e3⟩
 .rw[show U=_ from R];exact⟨none,0,rfl,Nat.le_refl _⟩
 .rename_i b;split at e<;>cases e;rename_i L ty hb;obtain⟨l,h1,rfl⟩:=R;cases l with|nil=>have hL:L=[]:=H.obj b _ _ hb h1;subst hL;exact⟨none,0,rfl,Nat.le_refl _⟩|«at» x c=>exact(H.obj b _ _ hb h1:False).elim|bS x c m=>obtain⟨tail,ty',q1,q2,q3,q4⟩:=H.obj b _ _ hb h1;exact⟨some ⟨x,0,none⟩,c,by rw[<-q3.len];rfl,by rw[<-q3.len];omega⟩
def okB(lo hi:Option Int)(len:Nat):Bool:=match lo,hi with|none,none=>true|some l,none=>both (decide (0<=l)) (decide (l<=(len:Int)))|none,some r=>both (decide (0<=r)) (decide (r<=(len:Int)))|some l,some r=>both (decide (0<=l)) (both (decide (l<=r)) (decide (r<=(len:Int))))
def dR:Option Int->Nat|none=>0|some l=>l.toNat
def eE:Option Int->Nat->Nat|none,n=>n|some r,_=>r.toNat
theorem uL{lo hi:Option Int}{len:Nat}(h:okB lo hi len=true):dR lo<=eE hi len/\eE hi len<=len/\(∀l,lo=some l->l=(dR lo:Int))/\(∀r,hi=some r->r=(eE hi len:Int)):=by
 cases lo<;>cases hi<;>simp only[okB]at h
 .exact⟨by simp[dR],by simp[eE],by simp,by simp⟩
 .rename_i r;obtain⟨h1,h2⟩:=mn h;simp only[decide_eq_true_eq]at h1 h2;refine⟨by simp[dR],by simp only[eE];omega,by simp,?_⟩;rintro r' q;cases q;simp only[eE];omega
 .rename_i l;obtain⟨h1,h2⟩:=mn h;simp only[decide_eq_true_eq]at h1 h2;refine⟨by simp only[dR,eE];omega,by simp[eE],?_,by simp⟩;rintro l' q;cases q;simp only[dR];omega
 .rename_i l r;obtain⟨h1,h2⟩:=mn h;obtain⟨h2,h3⟩:=mn h2;simp only[decide_eq_true_eq]at h1 h2 h3;refine⟨by simp only[dR,eE];omega,by simp only[eE];omega,?_,?_⟩
  .rintro l' q;cases q;simp only[dR];omega
  .rintro r' q;cases q;simp only[eE];omega
theorem Zlf{P:Program}{X:Cx}{T:Tr AV}{a:Act}{lo hi:Option Operand}{l h:Option Int}{len cap:Nat}(hr:∀x,(lo=some x\/hi=some x)->∀u,cI T x=some u->Rel X u (a.eval x))
  (h1:kf T lo=some l) (h2:kf T hi=some h) (hok:okB l h len=true) (hc:len<=cap) (b:Bool) (w:World) :
  (Instr.sliceBounds b len cap (lo.map a.eval) (hi.map a.eval) none).run P w=.ok (dR l,eE h len,cap) w:=by
 obtain⟨q1,q2,q3,q4⟩:=uL hok;have bd:∀(k:IntKind) (n y:Nat) (code:BoundsCode),n<=y->(Instr.sliceBound (.int k (n:Int)) y code).run P w=.ok n w:=fun k n y code h=>by simp[Instr.sliceBound,asIntOf,h]
 unfold Instr.sliceBounds;cases l with
 |none=>
  have:=GH h1;subst this;cases h with
  |none=>have:=GH h2;subst this;simp[dR,eE]|some r=>
   obtain⟨y,k,rfl,hy⟩:=GG h2 (fun y hy=>hr y (.inr hy));obtain⟨m,rfl⟩:∃m:Nat,r=(m:Int):=⟨_,q4 r rfl⟩;have hm:eE (some (m:Int)) len=m:=by simp[eE]
   rw[hm]at q2 |-;simp only[Option.map_some,Option.map_none,hy];simp[bd,dR,Nat.le_trans q2 hc]
 |some l=>
  obtain⟨x,kx,rfl,hx⟩:=GG h1 (fun y hy=>hr y (.inl hy));obtain⟨ml,rfl⟩:∃m:Nat,l=(m:Int):=⟨_,q3 l rfl⟩;have hml:dR (some (ml:Int))=ml:=by simp[dR]
  rw[hml]at q1 |-;cases h with
  |none=>have:=GH h2;subst this;simp only[Option.map_some,Option.map_none,hx];simp only[eE]at q1;simp[bd,eE,q1]|some r=>
   obtain⟨y,k,rfl,hy⟩:=GG h2 (fun y hy=>hr y (.inr hy));obtain⟨m,rfl⟩:∃m:Nat,r=(m:Int):=⟨_,q4 r rfl⟩;have hm:eE (some (m:Int)) len=m:=by simp[eE]
   rw[hm]at q1 q2 |-;simp only[Option.map_some,hx,hy];simp[bd,q1,Nat.le_trans q2 hc]
def Lk{α:Type}(lo hi:Option Int)(L:List α):List α:=match lo,hi with|none,none=>L|some l,none=>L.drop l.toNat|none,some r=>L.take r.toNat|some l,some r=>(L.drop l.toNat).take (r.toNat-l.toNat)
theorem adM{α:Type}(lo hi:Option Int)(L:List α):Lk lo hi L=(L.drop (dR lo)).take (eE hi L.length-dR lo):=by
 cases lo<;>cases hi<;>simp[Lk,dR,eE]
 .rw[List.take_of_length_le (by simp)]
def th(P:Program)(h:Hp)(T:Tr AV)(t:TypeId)(u:AV)(lo hi:Option Operand):Option (Bool×AV):=match kf T lo,kf T hi with
 |some l,some r=>match P.underlying t with
  |some (.slice elem)=>match ej P elem with
   |some sz=>match u with
    |.hd b τ=>match h.tr.get b with
     |some (.arr τ' L _)=>match Nat.beq sz τ.size with|true=>some (okB l r L.length,.vw b τ (dR l) (eE r L.length-dR l))|false=>none
     |_=>none
    |.vw b τ off len=>match Nat.beq sz τ.size with|true=>some (okB l r len,.vw b τ (off+dR l) (eE r len-dR l))|false=>none
    |.fz τ L=>match Nat.beq sz τ.size with|true=>some (okB l r L.length,.fz τ (Lk l r L))|false=>none
    |.bq=>some (okB l r 0,.bq)|_=>none
   |none=>none
  |some .string=>match u with|.str x=>some (okB l r x.size,.str (x.extract (dR l) (eE r x.size)))|_=>none
  |_=>none
 |_,_=>none
theorem Oe(x o n sz m l:Nat)(h:l<m):(if m=l then(some ⟨x,o,none⟩:Option Addr)else(some ⟨x,o,none⟩:Option Addr).map (·.add (l*sz)))=some ⟨x,o+l*sz,none⟩:=by rw[if_neg (by omega)];simp[fU]
theorem Zsu{P:Program}{T:Tr AV}{t:TypeId}{u v:AV}{lo hi:Option Operand}{g:Bool}{X:Cx}(H:aK X)(e:th P X.h T t u lo hi=some (g,v))(hg:g=true){U:Value}(R:Rel X u U){a:Act}
  (hr:∀x,(lo=some x\/hi=some x)->∀u,cI T x=some u->Rel X u (a.eval x)) (w:World) :
  ∃V,(Instr.sliceAt t U (lo.map a.eval) (hi.map a.eval) none).run P w=.ok V w/\Rel X v V:=by
 subst hg;unfold th at e;split at e<;>try cases e
 rename_i l r h1 h2;split at e
 .rename_i elem hu;have hru:=run_underlying hu w;split at e<;>try cases e
  rename_i sz hs;have main:∀(A:Option Addr) (len cap:Nat),okB l r len=true->len<=cap->(Instr.sliceAt t (.slice A len cap) (lo.map a.eval) (hi.map a.eval) none).run P w =
    .ok (.slice (if cap=dR l then A else A.map (·.add (dR l*sz))) (eE r len-dR l) (cap-dR l)) w:=by
   intro A len cap hok hc;simp only[Instr.sliceAt,Instr.slice,Sem.run_bind,hru,Result.andThen_ok,Zlf hr h1 h2 hok hc true w,run_sizeOf hs,Sem.run_pure]
  split at e<;>try cases e
  .rename_i b τ;split at e<;>try cases e
   rename_i τ' L ty hb;split at e<;>try cases e
   rename_i hz;have hz:=Nat.eq_of_beq_eq_true hz;subst hz;simp only[Option.some.injEq,Prod.mk.injEq]at e;obtain⟨hok,rfl⟩:=e;obtain⟨q1,q2,_,_⟩:=uL hok;obtain⟨A,c,rfl,hc⟩:=Ta H (show lenOf X.h (.hd b τ)=some L.length by simp[lenOf,hb]) R;obtain⟨k,g1,_,g2⟩:=R;have g3:=g2 _ (fE hb);refine⟨_,main A L.length c hok hc,k,_,_,g1,rfl,by omega,?_,?_,?_⟩
   .intro hp;cases k with|nil=>simp[Loc.slice]at g3;omega|bS _ _ _=>exact(H.obj b _ _ hb g1:False).elim|«at» x k=>simp only[Loc.slice,Value.slice.injEq,true_and]at g3;obtain⟨rfl,rfl⟩:=g3;exact⟨x,c,rfl,by rw[Oe x 0 0 _ _ _ (by omega)];simp⟩
   .intro h0;rw[h0];cases k with
    |nil=>simp only[Loc.slice,Value.slice.injEq,true_and]at g3;obtain⟨rfl,rfl⟩:=g3;simp[Loc.slice]
    |bS _ _ _=>exact(H.obj b _ _ hb g1:False).elim|«at» x k=>simp only[Loc.slice,Value.slice.injEq,true_and]at g3;obtain⟨rfl,rfl⟩:=g3;simp[Loc.slice,fU]
   .intro n₁ q;rw[fE hb]at q;cases q;omega
  .rename_i b τ off len;split at e<;>try cases e
   rename_i hz;have hz:=Nat.eq_of_beq_eq_true hz;subst hz;simp only[Option.some.injEq,Prod.mk.injEq]at e;obtain⟨hok,rfl⟩:=e;obtain⟨q1,q2,_,_⟩:=uL hok;obtain⟨k,A,c,g1,rfl,g3,g4,g5,g6⟩:=R;refine⟨_,main A len c hok g3,k,_,_,g1,rfl,by omega,?_,?_,?_⟩
   .intro hp;obtain⟨x,k',rfl,rfl⟩:=g4 (by omega);exact⟨x,k',rfl,by rw[Oe x _ 0 _ _ _ (by omega)];simp[Nat.add_mul]⟩
   .intro h0;have h01:off=0:=by omega
    have h02:dR l=0:=by omega
    have g5:=g5 h01;rw[h02];cases k with
    |nil=>simp only[Loc.slice,Value.slice.injEq,true_and]at g5;obtain⟨rfl,rfl⟩:=g5;simp[Loc.slice]
    |bS x k m=>simp only[Loc.slice,Value.slice.injEq,true_and]at g5;obtain⟨rfl,rfl⟩:=g5;simp[Loc.slice,fU]
    |«at» x k=>simp only[Loc.slice,Value.slice.injEq,true_and]at g5;obtain⟨rfl,rfl⟩:=g5;simp[Loc.slice,fU]
   .intro n₁ q;have:=g6 _ q;omega
  .rename_i τ L;split at e<;>try cases e
   rename_i hz;have hz:=Nat.eq_of_beq_eq_true hz;subst hz;simp only[Option.some.injEq,Prod.mk.injEq]at e;obtain⟨hok,rfl⟩:=e;obtain⟨q1,q2,_,_⟩:=uL hok;obtain⟨A,len,cap,e1,e2,e3,e4⟩:=R;simp only[List.cons.injEq,and_true]at e1;subst e1;subst e2;refine⟨_,main A _ cap hok e3,?_⟩;rw[adM];refine⟨_,_,_,rfl,by simp;omega,by omega,fun hne=>?_⟩;have hpos:dR l<eE r L.length:=by
    rcases Nat.lt_or_ge (dR l) (eE r L.length)with q|q
    .exact q
    .rw[show eE r L.length-dR l=0 by omega,List.take_zero]at hne;exact absurd rfl hne
   have hL:L≠[]:=by rintro rfl;simp only[List.length_nil]at q1 q2 hpos;omega
   obtain⟨b,o,Y,rfl,p2,p3,c,ty,fr,p4,p5⟩:=e4 hL;refine⟨b,o+dR l*τ.size,(Y.drop (dR l*τ.size)).take ((eE r L.length-dR l)*τ.size),Oe _ _ 0 _ _ _ (by omega),p2,bh.take (fun x c=>Cs.length) _ (bh.drop (fun x c=>Cs.length) _ p3),c,ty,fr,p4,?_⟩;intro j v hv;rw[List.getElem?_take]at hv;split at hv
   .rw[List.getElem?_drop]at hv;have:=p5 _ _ hv;rw[Nat.add_assoc];exact this
   .cases hv
  .simp only[Option.some.injEq,Prod.mk.injEq]at e;obtain⟨hok,rfl⟩:=e;obtain⟨q1,q2,_,_⟩:=uL hok;rw[show U=_ from R];refine⟨_,main none 0 0 hok (Nat.le_refl _),?_⟩;show _=_;have:eE r 0=0:=by omega
   simp[this]
 .rename_i hu;have hru:=run_underlying hu w;split at e<;>try cases e
  rename_i x;simp only[Option.some.injEq,Prod.mk.injEq]at e;obtain⟨hok,rfl⟩:=e;rw[show U=_ from R];refine⟨_,?_,rfl⟩;simp only[Instr.sliceAt,Instr.slice,Sem.run_bind,hru,Result.andThen_ok,Option.isSome_none,Bool.false_eq_true,if_false,Sem.run_pure];simp only[Zlf hr h1 h2 hok (Nat.le_refl _) false w,Result.andThen_ok,Sem.run_pure]
 .cases e
def pW(place:Nat->Option (Nat×Nat)):List AV->List (Nat×AV)->Option (List AV)
 |cells,[]=>some cells|cells,(i,v)::rest=>match place i with|none=>none|some (off,size)=>match Nat.beq (gn v).length size,Nat.ble (off+size) cells.length with|true,true=>pW place (takeN off cells++(gn v++fZ (off+size) cells)) rest|_,_=>none
def y5(X:Cx):List (Nat×AV)->List (Nat×Value)->Prop
 |[],ps=>ps=[]|x::l,ps=>∃V r,ps=(x.1,V)::r/\Rel X x.2 V/\y5 X l r
theorem DK{X:Cx}(place:Nat->Option (Nat×Nat)):∀(parts:List (Nat×AV)) (ps:List (Nat×Value)) (cells r:List AV) (cs:List Value),pW place cells parts=some r->y5 X parts ps->bk X cells cs ->
  ∃rs,Instr.fill place cs.toArray ps=some rs.toArray/\bk X r rs
 |[],ps,cells,r,cs,h,hp,hc=>by simp[pW]at h;subst h;rw[show ps=[]from hp];exact⟨cs,rfl,hc⟩|(i,v)::rest,ps,cells,r,cs,h,hp,hc=>by
  obtain⟨V,qs,rfl,hv,hq⟩:=hp;simp only[pW]at h;cases hpl:place i<;>simp only[hpl]at h
  .cases h
  rename_i q;obtain⟨off,size⟩:=q;simp only[]at h;cases h1:Nat.beq (gn v).length size<;>cases h2:Nat.ble (off+size) cells.length<;>simp only[h1,h2]at h<;>first|cases h|skip
  have h1:=Nat.eq_of_beq_eq_true h1;have h2:=Nat.le_of_ble_eq_true h2;have hvl:=ke hv;have hl:V.cells.size=size:=by rw[<-Array.length_toList,hvl.length,h1]
  have hcl:=hc.length;rw[jq,jr]at h;obtain⟨rs,q1,q2⟩:=DK place rest qs _ r (cs.take off++(V.cells.toList++cs.drop (off+size))) h hq ((hc.take off).append (hvl.append (hc.drop (off+size))));refine⟨rs,?_,q2⟩;simp only[Instr.fill,hpl];rw[if_neg (by simp[hl];omega),<-q1];congr 1;apply Array.toList_inj.1;have hz:V.cells.zipIdx.foldl (fun cs (x:Value×Nat)=>cs.setIfInBounds (off+x.2) x.1) cs.toArray
    = (V.cells.toList.zipIdx 0).foldl (fun cs (x:Value×Nat)=>cs.setIfInBounds (off+x.2) x.1) cs.toArray:=by
   rw[<-Array.foldl_toList];simp
  have:=NS off V.cells.toList 0 cs.toArray (by simp[hl];omega);rw[hz,this];simp[hl]
def ng(T:Tr AV):List (Nat×Operand)->Option (List (Nat×AV))
 |[]=>some []|(i,x)::l=>match cI T x with
  |some v=>match ng T l with|some vs=>some ((i,v)::vs)|none=>none
  |none=>none
theorem NW{X:Cx}{T:Tr AV}{a:Act}:∀{l:List (Nat×Operand)}{vs:List (Nat×AV)},ng T l=some vs ->
  (∀x∈l.map (·.2),∀u,cI T x=some u->Rel X u (a.eval x))->y5 X vs (l.map fun x=>(x.1,a.eval x.2))
 |[],vs,h,_=>by simp[ng]at h;subst h;rfl|(i,x)::l,vs,h,hr=>by
  simp only[ng]at h;cases hv:cI T x<;>simp only[hv]at h
  .cases h
  cases hl:ng T l<;>simp only[hl]at h
  .cases h
  simp at h;subst h;exact⟨_,_,rfl,hr x (by simp) _ hv,NW hl (fun y hy=>hr y (by simp only[List.map_cons];exact List.mem_cons_of_mem _ hy))⟩
def NL(P:Program)(t:TypeId)(parts:List (Nat×AV)):Option AV:=match P.underlying t with
 |some (.struct fields)=>match kL P t,places P fields.toList with
  |some z,some ps=>match pW (fun i=>nth ps i) (gn z) parts with|some r=>some (.agg r)|none=>none
  |_,_=>none
 |some (.array _ elem)=>match kL P t,ej P elem with
  |some z,some sz=>match pW (fun i=>some (i*sz,sz)) (gn z) parts with|some r=>some (.agg r)|none=>none
  |_,_=>none
 |_=>none
theorem Zsz{P:Program}{t:TypeId}{parts:List (Nat×AV)}{v:AV}(e:NL P t parts=some v){X:Cx}(w:World)(ps:Array (Nat×Value))(hp:y5 X parts ps.toList) :
  ∃V,(Instr.build t ps).run P w=.ok V w/\Rel X v V:=by
 unfold NL at e;split at e
 .rename_i fields hu;split at e<;>try cases e
  rename_i z q hz hq;split at e<;>try cases e
  rename_i r hr;obtain⟨Z,hZ,RZ⟩:=n9 hz X w;obtain⟨rs,f1,f2⟩:=DK _ _ _ _ _ _ hr hp (ke RZ);have hfun:(fun i=>(q.toArray:Array (Nat×Nat))[i]?)=fun i=>nth q i:=by funext i;rw[dc];simp
  refine⟨.agg rs.toArray,?_,rs,rfl,f2⟩;rw[Array.toArray_toList]at f1;simp only[Instr.build,Sem.run_bind,hZ,Result.andThen_ok,run_underlying hu,pg hq,Sem.run_pure];rw[hfun,f1];simp
 .rename_i k elem hu;split at e<;>try cases e
  rename_i z sz hz hs;split at e<;>try cases e
  rename_i r hr;obtain⟨Z,hZ,RZ⟩:=n9 hz X w;obtain⟨rs,f1,f2⟩:=DK _ _ _ _ _ _ hr hp (ke RZ);refine⟨.agg rs.toArray,?_,rs,rfl,f2⟩;rw[Array.toArray_toList]at f1;simp only[Instr.build,Sem.run_bind,hZ,Result.andThen_ok,run_underlying hu,run_sizeOf hs,Sem.run_pure];rw[f1];simp
 .cases e
def rK(P:Program)(h:Hp)(ts:Array TypeId)(u:AV):Option AV:=match nth ts.toList 0 with
 |some t=>match P.underlying t with
  |some (.slice _)=>match lenOf h u with|some n=>some (.int .i64 (n:Int))|none=>none
  |some .string=>match u with|.str x=>some (.int .i64 (x.size:Int))|_=>none
  |some (.array n _)=>some (.int .i64 (n:Int))|_=>none
 |none=>none
theorem ahG{P:Program}{ts:Array TypeId}{u v:AV}{X:Cx}(H:aK X)(e:rK P X.h ts u=some v){U:Value}(R:Rel X u U)(ty:TypeId)(w:World) :
  ∃V,(Builtin.len_ ts ty #[U]).run P w=.ok V w/\Rel X v V:=by
 unfold rK at e;split at e<;>try cases e
 rename_i t ht;have ht:ts[0]?=some t:=by rw[dc]at ht;simpa using ht
 split at e
 .rename_i hu;split at e<;>try cases e
  rename_i n hn;obtain⟨A,c,rfl,_⟩:=Ta H hn R;exact⟨_,by simp[Builtin.len_,ht,run_underlying hu,goInt],rfl⟩
 .rename_i hu;split at e<;>try cases e
  rw[show U=_ from R];exact⟨_,by simp[Builtin.len_,ht,run_underlying hu,goInt],rfl⟩
 .rename_i hu;cases e;exact⟨_,by simp[Builtin.len_,ht,run_underlying hu,goInt],rfl⟩
 .cases e
def vJ(k:IntKind):Int->List AV->Option Int
 |a,[]=>some a|a,v::l=>match v with|.int _ b=>vJ k (cQ (decide (b > a)) b a) l|_=>none
def vK(k:IntKind):Int->List AV->Option Int
 |a,[]=>some a|a,v::l=>match v with|.int _ b=>vK k (cQ (decide (b<a)) b a) l|_=>none
open Go.Proofs.YtkcpdpplobhpaaaGreat.Ev (Tr Tr.cf nth dc takeN fZ jq jr cJ fG jG run_underlying run_typeInfo run_sizeOf ej fU places pg js nU mh kJ)
mutual
theorem DS{h:Hp}:∀{σ:Sh}{l:List AV}{d:σ.T}{r:List AV}{h':Hp},dL false h σ l=some (d,r,h')->h'=h
 |.int k,l,d,r,h',e=>by
  simp only[dL]at e;split at e<;>try cases e
  split at e<;>cases e;rfl
 |.bool,l,d,r,h',e=>by simp only[dL]at e;split at e<;>cases e;rfl
 |.str,l,d,r,h',e=>by simp only[dL]at e;split at e<;>cases e;rfl
 |.agg ss,l,d,r,h',e=>Th (ss:=ss) e|.sl s,l,d,r,h',e=>by
  simp only[dL]at e;split at e<;>try cases e
  .rfl
  .split at e<;>cases e;rfl
  .split at e<;>try cases e
   split at e<;>first|(cases e;done)|(rename_i q _;cases q)
  .split at e<;>try cases e
   split at e<;>first|(cases e;done)|(rename_i q _;cases q)
theorem Th{h:Hp}:∀{ss:List Sh}{l:List AV}{d:TL ss}{r:List AV}{h':Hp},jP false h ss l=some (d,r,h')->h'=h
 |[],l,d,r,h',e=>by simp only[jP,Option.some.injEq,Prod.mk.injEq]at e;cases e;rfl
 |s::ss,l,d,r,h',e=>by
  simp only[jP]at e;split at e<;>try cases e
  rename_i d₁ r₁ h₁ e₁;split at e<;>try cases e
  rename_i d₂ r₂ h₂ e₂;rw[Th e₂,DS e₁]
end
def NJ(h:Hp)(b off:Nat)(vs:List AV):Option Hp:=match h.tr.get b with
 |some (.cells l ty)=>match Nat.ble (off+vs.length) l.length,o8 vs with
  |true,true=>match Tr.set FT h.tr b (some (.cells (takeN off l++(vs++fZ (off+vs.length) l)) ty))with|some tr=>some ⟨tr,h.next⟩|none=>none
  |_,_=>none
 |_=>none
theorem Zn0{P:Program}{X:Cx}(H:aK X){h':Hp}{b x c off:Nat}{vs:List AV}{Vs:List Value}(e:NJ X.h b off vs=some h')(hs:X.s b=some (.at x c))(R:bk X vs Vs) :
  ∃w',(storeCells ⟨x,off,none⟩ Vs).run P X.w=.ok () w'/\aK ⟨X.s,h',w',X.A⟩/\aP X ⟨X.s,h',w',X.A⟩:=by
 unfold NJ at e;split at e<;>try cases e
 rename_i l ty hb;split at e<;>try cases e
 rename_i hl ho;split at e<;>try cases e
 rename_i tr ht;have hl:=Nat.le_of_ble_eq_true hl;obtain⟨x',c',cs,e1,e2,e3⟩:=H.obj b _ _ hb hs;cases e1;have hL:=e3.length;have hV:=R.length;obtain⟨d,hd,hr⟩:=kJ (P:=P) (off:=off) Vs 0 X.w _ e2 (by simp;omega) (DY ho R);have hd:d=(cs.take off++(Vs++cs.drop (off+Vs.length))).toArray:=by apply Array.toList_inj.1;rw[hd];simp
 subst hd;have E:=aP.put (ob:=.cells (cs.take off++(Vs++cs.drop (off+Vs.length))).toArray ty (0,0)) H hb hs (by intro n q;cases q) ht;refine⟨_,hr,H.put hb hs (by intro n q;cases q) ht ⟨x,c,_,rfl,by show(cJ X.w x _).heap[x]?=_;rw[fG,if_pos ⟨rfl,eD e2⟩],?_⟩,E⟩;have R':=(e3.take off).append (R.append (e3.drop (off+vs.length)));rw[jq,jr,<-hV]at *
 exact R'.ext (E.dB H)
def Hj(h:Hp)(b i z o:Nat)(vs:List AV):Option Hp:=match h.tr.get b with
 |some (.arr τ L ty)=>match Nat.beq z τ.size,Nat.ble (o+vs.length) z,o8 vs,dL true h τ (takeN o (mo τ (L.getD i τ.zero))++(vs++fZ (o+vs.length) (mo τ (L.getD i τ.zero))))with
  |true,true,true,some (x,[],h₁)=>match h₁.tr.get b with
   |some _=>match Tr.set FT h₁.tr b (some (.arr τ (L.set i x) ty))with|some tr=>some ⟨tr,h₁.next⟩|none=>none
   |none=>none
  |_,_,_,_=>none
 |_=>none
theorem ahb{P:Program}{X:Cx}(H:aK X){h':Hp}{b x c i z o:Nat}{vs:List AV}{Vs:List Value}(e:Hj X.h b i z o vs=some h')(hs:X.s b=some (.at x c))
  (hi:∀n,rowOf X.h.tr b=some n->i<n) (R:bk X vs Vs) :
  ∃w',(storeCells ⟨x,i*z+o,none⟩ Vs).run P X.w=.ok () w'/\aK ⟨X.s,h',w',X.A⟩/\aP X ⟨X.s,h',w',X.A⟩:=by
 unfold Hj at e;split at e<;>try cases e
 rename_i τ L ty hb;split at e<;>try cases e
 rename_i y h₁ hz hle ho hf;split at e<;>try cases e
 rename_i ob₁ hb₁;split at e<;>try cases e
 rename_i tr ht;have hz:=Nat.eq_of_beq_eq_true hz;subst hz;have hle:=Nat.le_of_ble_eq_true hle;have hi:=hi _ (fE hb);obtain⟨cs,tail,q1,q2,q3,q4⟩:=H.obj b _ _ hb hs;have hget:L[i]?=some L[i]:=List.getElem?_eq_getElem hi;obtain⟨d,p1,p2⟩:=bh.get (fun x c=>Cs.length) q2 hget;have hd:=Cs.length p1;have hcs:=bh.length (fun x c=>Cs.length) q2;have hiz:i*τ.size+τ.size<=cs.length:=by rw[hcs];have:=Nat.mul_le_mul_right τ.size (show i+1<=L.length by omega);rw[Nat.add_mul]at this;omega
 have hV:=R.length;have RD:bk X (mo τ (L.getD i τ.zero)) d:=by rw[List.getD_eq_getElem?_getD,hget];exact te p1
 have Rn:=(RD.take o).append (R.append (RD.drop (o+vs.length)));rw[<-jq,<-jr]at Rn;obtain⟨F,c₁,r₁,k1,k2,k3⟩:=px H hf Rn;have hr₁:r₁=[]:=k3;subst hr₁;rw[List.append_nil]at k1;have hb₁':h₁.tr.get b=some (.arr τ L ty):=by have:=F.sub b _ hb₁;rw[hb]at this;rw[hb₁,<-this]
 obtain⟨e',he',hrun⟩:=kJ (P:=P) (off:=i*τ.size+o) Vs 0 X.w _ q1 (by simp;omega) (DY ho R);have hdd:d=(cs.drop (i*τ.size)).take τ.size:=by
  apply List.ext_getElem?;intro j;rw[List.getElem?_take];split
  .rename_i hj;rw[List.getElem?_drop];exact(p2 j hj).symm
  .rw[List.getElem?_eq_none (by omega)]
 have hsplit:cs=cs.take (i*τ.size)++(d++cs.drop (i*τ.size+τ.size)):=by rw[hdd,<-List.drop_drop,List.take_append_drop,List.take_append_drop]
 have hal:(cs.take (i*τ.size)).length=i*τ.size:=by simp;omega
 have hlist:e'=(cs.take (i*τ.size)++c₁++cs.drop (i*τ.size+τ.size)++tail).toArray:=by
  apply Array.toList_inj.1;rw[he',<-k1];simp only[Nat.add_zero];generalize cs.take (i*τ.size)=A at hsplit hal |-;generalize cs.drop (i*τ.size+τ.size)=B at hsplit |-;subst hsplit;have t1:(A++(d++B)++tail).take (i*τ.size+o)=A++d.take o:=by rw[<-hal,List.append_assoc,List.take_length_add_append,List.append_assoc,List.take_append_of_le_length (by omega)]
  have t2:(A++(d++B)++tail).drop (i*τ.size+o+Vs.length)=d.drop (o+vs.length)++(B++tail):=by rw[<-hal,Nat.add_assoc,List.append_assoc,List.drop_length_add_append,List.append_assoc,hV,List.drop_append_of_le_length (by omega)]
  rw[t1,t2];simp
 subst hlist;have E:=aP.put (X:=⟨X.s,h₁,X.w,X.A⟩) (ob:=.cells (cs.take (i*τ.size)++c₁++cs.drop (i*τ.size+τ.size)++tail).toArray ty (0,0)) F.H hb₁' hs (by intro n q;simpa[bf.row]using q) ht;refine⟨_,hrun,aK.put (X:=⟨X.s,h₁,X.w,X.A⟩) F.H hb₁' hs (by intro n q;simpa[bf.row]using q) ht ?_,F.E.trans E⟩;have K:=E.keeps;refine⟨cs.take (i*τ.size)++c₁++cs.drop (i*τ.size+τ.size),tail,?_,?_,?_,by simpa using q4⟩
 .show(cJ X.w x _).heap[x]?=_;rw[fG,if_pos ⟨rfl,eD q1⟩]
 .have s1:bh (Cs X.w (Cx.out ⟨X.s,h₁,X.w,X.A⟩) τ) L cs:=q2.mono (fun x c q=>q.aX F.E.keeps);have s2:bh (Cs X.w (Cx.out ⟨X.s,h₁,X.w,X.A⟩) τ) (L.set i y) (cs.take (i*τ.size)++c₁++cs.drop (i*τ.size+τ.size)):=bh.set (fun x c=>Cs.length) s1 hi k2;exact s2.mono (fun x c q=>q.aX K)
 .have:=Cs.length k2;simp only[List.length_append,List.length_take,List.length_drop,this];omega
def Sy:Sh->Bool
 |.sl _=>true|.agg l=>hasSlL l|_=>false
where hasSlL:List Sh->Bool
 |[]=>false|s::l=>match Sy s with|true=>true|false=>hasSlL l
def K7:List AV->Bool
 |[]=>false|.hd _ τ::l=>match Sy τ with|true=>true|false=>K7 l
 |_::l=>K7 l
def BP(h:Hp)(b i z o:Nat)(vs:List AV):Option (Bool×Hp):=match h.tr.get b with
 |some (.arr τ L ty)=>match Nat.beq z τ.size,Nat.ble (o+vs.length) z,o8 vs with
  |true,true,true=>match Tr.set FT h.tr b (some (.du τ i L (takeN o (mo τ (L.getD i τ.zero))++(vs++fZ (o+vs.length) (mo τ (L.getD i τ.zero)))) ty))with|some tr=>some (true,⟨tr,h.next⟩)|none=>none
  |_,_,_=>none
 |some (.du τ k L us ty)=>match Nat.beq z τ.size,Nat.ble (o+vs.length) z,o8 vs with
  |true,true,true=>match Tr.set FT h.tr b (some (.du τ k L (takeN o us++(vs++fZ (o+vs.length) us)) ty))with|some tr=>some (Nat.beq i k,⟨tr,h.next⟩)|none=>none
  |_,_,_=>none
 |_=>none
theorem Ys{P:Program}{X:Cx}(H:aK X){b x c i o:Nat}{ob:bf}{τ:Sh}{L:List τ.T}{us vs:List AV}{ty:TypeId}{Vs:List Value}{tr:Tr bf}(hb:X.h.tr.get b=some ob)(hrow:ob.row=some L.length)(hs:X.s b=some (.at x c))
  {pre mid post tail:List Value}(q1:X.w.heap[x]?=some (.cells (List.toArray (pre++(mid++(post++tail)))) ty (0,0))) (q2:bh (Cs X.w X.out τ) (L.take i) pre) (q3:bk X us mid) (q4:bh (Cs X.w X.out τ) (L.drop (i+1)) post)
  (hi:i<L.length) (hm:mid.length=τ.size) (hsum:pre.length+(mid.length+(post.length+tail.length))=c*τ.size) (hc:L.length<=c) (hle:o+vs.length<=τ.size) (ho:o8 vs=true) (R:bk X vs Vs)
  (ht:Tr.set FT X.h.tr b (some (.du τ i L (takeN o us++(vs++fZ (o+vs.length) us)) ty))=some tr) :
  ∃w',(storeCells ⟨x,i*τ.size+o,none⟩ Vs).run P X.w=.ok () w'/\aK ⟨X.s,⟨tr,X.h.next⟩,w',X.A⟩/\aP X ⟨X.s,⟨tr,X.h.next⟩,w',X.A⟩:=by
 have hV:=R.length;have hpre:pre.length=i*τ.size:=by rw[bh.length (fun x c=>Cs.length) q2,List.length_take,Nat.min_eq_left (by omega)]
 obtain⟨e',he',hrun⟩:=kJ (P:=P) (off:=i*τ.size+o) Vs 0 X.w _ q1 (by simp;omega) (DY ho R);have hlist:e'=(pre++((mid.take o++(Vs++mid.drop (o+vs.length)))++(post++tail))).toArray:=by apply Array.toList_inj.1;rw[he'];simp only[Nat.add_zero];rw[<-hpre,<-hV,List.take_length_add_append,Nat.add_assoc,List.drop_length_add_append,List.take_append_of_le_length (by omega),List.drop_append_of_le_length (by omega)];simp
 subst hlist;have hrw:∀n,(bf.du τ i L (takeN o us++(vs++fZ (o+vs.length) us)) ty).row=some n->ob.row=some n:=by intro n q;rw[hrow];exact q
 have E:=aP.put (ob:=.cells (pre++((mid.take o++(Vs++mid.drop (o+vs.length)))++(post++tail))).toArray ty (0,0)) H hb hs hrw ht;have K:=E.keeps;refine⟨_,hrun,aK.put H hb hs hrw ht ?_,E⟩;refine⟨x,c,pre,mid.take o++(Vs++mid.drop (o+vs.length)),post,tail,rfl,?_,q2.mono (fun x d q=>q.aX K),?_,q4.mono (fun x d q=>q.aX K),hi,?_,?_,hc⟩
 .show(cJ X.w x _).heap[x]?=_;rw[fG,if_pos ⟨rfl,eD q1⟩]
 .have R':=(q3.take o).append (R.append (q3.drop (o+vs.length)));rw[jq,jr];exact R'.ext (E.dB H)
 .simp only[List.length_append,List.length_take,List.length_drop];omega
 .simp only[List.length_append,List.length_take,List.length_drop];omega
theorem Yx{P:Program}{X:Cx}(H:aK X){h':Hp}{b x c i z o:Nat}{g:Bool}{vs:List AV}{Vs:List Value}(e:BP X.h b i z o vs=some (g,h'))(hg:g=true)(hs:X.s b=some (.at x c))
  (hi:∀n,rowOf X.h.tr b=some n->i<n) (R:bk X vs Vs) :
  ∃w',(storeCells ⟨x,i*z+o,none⟩ Vs).run P X.w=.ok () w'/\aK ⟨X.s,h',w',X.A⟩/\aP X ⟨X.s,h',w',X.A⟩:=by
 subst hg;unfold BP at e;split at e<;>try cases e
 .rename_i τ L ty hb;split at e<;>try cases e
  rename_i hz hle ho;split at e<;>cases e;rename_i tr ht;have hz:=Nat.eq_of_beq_eq_true hz;subst hz;have hle:=Nat.le_of_ble_eq_true hle;have hi:=hi _ (fE hb);obtain⟨cs,tail,q1,q2,q3,q4⟩:=H.obj b _ _ hb hs;have hget:L[i]?=some L[i]:=List.getElem?_eq_getElem hi;obtain⟨d,p1,p2⟩:=bh.get (fun x c=>Cs.length) q2 hget;have hd:=Cs.length p1;have hcs:=bh.length (fun x c=>Cs.length) q2;have hiz:i*τ.size+τ.size<=cs.length:=by rw[hcs];have:=Nat.mul_le_mul_right τ.size (show i+1<=L.length by omega);rw[Nat.add_mul]at this;omega
  have RD:bk X (mo τ (L.getD i τ.zero)) d:=by rw[List.getD_eq_getElem?_getD,hget];exact te p1
  have hdd:d=(cs.drop (i*τ.size)).take τ.size:=by
   apply List.ext_getElem?;intro j;rw[List.getElem?_take];split
   .rename_i hj;rw[List.getElem?_drop];exact(p2 j hj).symm
   .rw[List.getElem?_eq_none (by omega)]
  have hsplit:cs++tail=cs.take (i*τ.size)++(d++(cs.drop ((i+1)*τ.size)++tail)):=by rw[hdd,Nat.add_mul,Nat.one_mul,<-List.append_assoc,<-List.append_assoc,<-List.drop_drop,List.append_assoc (cs.take _),List.take_append_drop,List.take_append_drop]
  rw[hsplit]at q1;refine Ys H hb rfl hs q1 (bh.take (fun x c=>Cs.length) i q2) RD (bh.drop (fun x c=>Cs.length) (i+1) q2) hi hd ?_ q4 hle ho R ht;rw[<-q3,<-List.length_append,<-List.length_append,<-List.length_append,<-hsplit,List.length_append]
 .rename_i τ k L us ty hb;split at e<;>try cases e
  rename_i hz hle ho;split at e<;>try cases e
  rename_i tr ht;simp only[Option.some.injEq,Prod.mk.injEq]at e;obtain⟨hik,rfl⟩:=e;have hik:=Nat.eq_of_beq_eq_true hik;subst hik;have hz:=Nat.eq_of_beq_eq_true hz;subst hz;have hle:=Nat.le_of_ble_eq_true hle;obtain⟨x',c',pre,mid,post,tail,e1,q1,q2,q3,q4,q5,q6,q7,q8⟩:=H.obj b _ _ hb hs;cases e1;exact Ys H hb rfl hs q1 q2 q3 q4 q5 q6 q7 q8 hle ho R ht
def Gg(h:Hp)(b i z o:Nat)(vs:List AV):Option (Bool×Hp):=match h.tr.get b with|some (.du _ _ _ _ _)=>BP h b i z o vs|_=>match K7 vs with|true=>BP h b i z o vs|false=>match Hj h b i z o vs with|some h'=>some (true,h')|none=>none
theorem alu{P:Program}{X:Cx}(H:aK X){h':Hp}{b x c i z o:Nat}{g:Bool}{vs:List AV}{Vs:List Value}(e:Gg X.h b i z o vs=some (g,h'))(hg:g=true)(hs:X.s b=some (.at x c))
  (hi:∀n,rowOf X.h.tr b=some n->i<n) (R:bk X vs Vs) :
  ∃w',(storeCells ⟨x,i*z+o,none⟩ Vs).run P X.w=.ok () w'/\aK ⟨X.s,h',w',X.A⟩/\aP X ⟨X.s,h',w',X.A⟩:=by
 unfold Gg at e;split at e
 .exact Yx H e hg hs hi R
 .split at e
  .exact Yx H e hg hs hi R
  .split at e<;>cases e;rename_i hp;exact ahb H hp hs hi R
