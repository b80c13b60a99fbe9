import Derived.Test.YtmkbdfidnfmgmaaGreatWMa
import Derived.IntWalk
set_option linter.all false
section
namespace Go.Proofs.YtmkbdfidnfmgmaaGreat.Ev
open Go Go.RowKit
theorem aag(m:Nat):∀(r c:Nat),c<=2*m+192->Builtin.growBy m r c<=2*m+192
 |0,c,h=>by simpa[Builtin.growBy]using h|r+1,c,h=>by
  simp only[Builtin.growBy];split
  .exact h
  .exact aag m r _ atO
theorem JD{need old:Nat}(h:old<need):Builtin.nextslicecap need old<=2*need+192:=by
 unfold Builtin.nextslicecap;split
 .omega
 .split
  .omega
  .exact aag _ _ _ atO
theorem tc{P:Program}{o:Oper}{c:Call}{b:Builtin}{a:Act}{w:World}(ho:o.op=.call c)(hc:c.callee=.builtin b) :
  (execOp a.eval o).run P w=(builtin b c.argTypes o.type (c.args.map fun|.const _=>true|_=>false) (c.args.map a.eval)).run P w:=by
 unfold execOp;rw[ho];simp only[resolve,hc,Sem.run_bind,Sem.run_pure,Result.andThen_ok,invoke];rfl
end Go.Proofs.YtmkbdfidnfmgmaaGreat.Ev
end
section
namespace Go.Proofs.YtmkbdfidnfmgmaaGreat.V
open Go Go.RowKit
open Go.Proofs.YtmkbdfidnfmgmaaGreat.Ev (Tr Tr.dp nth fc takeN jm lH lI cS iU lY run_underlying run_typeInfo run_sizeOf gD ji places ta lJ)
def FT:Nat:=30
mutual
def pq:(σ:Sh)->σ.T->List AV
 |.int k,n=>[.int k n]|.bool,b=>[.bool b]|.str,s=>[.str s]|.agg l,d=>Tt l d|.sl s,L=>[.fz s L]
termination_by structural x=>x
def Tt:(l:List Sh)->TL l->List AV
 |[],_=>[]|s::l,d=>pq s d.1++Tt l d.2
termination_by structural x=>x
end
mutual
theorem xj{X:Cx}:∀{σ:Sh}{d:σ.T}{cs:pi},Cs X.w X.out σ d cs->bT X (pq σ d) cs
 |.int k,n,cs,h=>⟨_,[],h,rfl,rfl⟩|.bool,b,cs,h=>⟨_,[],h,rfl,rfl⟩|.str,s,cs,h=>⟨_,[],h,rfl,rfl⟩|.agg l,d,cs,h=>Zum (l:=l) h|.sl s,L,cs,h=>by obtain⟨a,len,cap,e,q⟩:=h;exact⟨_,[],e,⟨a,len,cap,rfl,q⟩,rfl⟩
theorem Zum{X:Cx}:∀{l:List Sh}{d:TL l}{cs:pi},jh X.w X.out l d cs->bT X (Tt l d) cs
 |[],_,cs,h=>h|s::l,d,cs,⟨c,r,e,h1,h2⟩=>by rw[e];exact(xj h1).append (Zum h2)
end
def ma{τ τ':Sh}(h:τ.eqv τ'=true)(L:List τ.T):List τ'.T:=Sh.ic h▸L
def zI{α:Type}(F:Hp->List AV->Option (α×List AV×Hp)):Nat->Hp->List AV->Option (List α×Hp)
 |0,h,l=>match l with|[]=>some ([],h)|_=>none
 |n+1,h,l=>match F h l with
  |some (x,r,h)=>match zI F n h r with|some (xs,h)=>some (x::xs,h)|none=>none
  |none=>none
mutual
def fX(kl:Bool)(h:Hp):(σ:Sh)->List AV->Option (σ.T×List AV×Hp)
 |.int k,l=>match l with
  |.int k' n::r=>match Nat.beq (Ev.IntKind.num k') (Ev.IntKind.num k)with|true=>some (n,r,h)|false=>none
  |_=>none
 |.bool,l=>match l with|.bool b::r=>some (b,r,h)|_=>none
 |.str,l=>match l with|.str s::r=>some (s,r,h)|_=>none
 |.agg ss,l=>mj kl h ss l|.sl s,l=>match l with
  |.bt::r=>some ([],r,h)|.fz τ L::r=>match e:τ.eqv s with|true=>some (ma e L,r,h)|false=>none
  |.hd b _::r=>match h.tr.get b with
   |some (.arr τ L _)=>match e:τ.eqv s,kl,Tr.set FT h.tr b none with|true,true,some tr=>some (ma e L,r,⟨tr,h.next⟩)|_,_,_=>none
   |_=>none
  |.vw b awo off len::r=>match h.tr.get b with
   |some (.arr τ L _)=>match e:τ.eqv s,awo.eqv s,kl,Tr.set FT h.tr b none with|true,true,true,some tr=>some (ma e ((L.drop off).take len),r,⟨tr,h.next⟩)|_,_,_,_=>none
   |some (.cells vs _)=>match kl,off,Tr.set FT h.tr b none with
    |true,0,some tr=>match zI (fun h l=>fX true h s l) len ⟨tr,h.next⟩ vs with|some (L,h')=>some (L,r,h')|none=>none
    |_,_,_=>none
   |_=>none
  |_=>none
termination_by structural x=>x
def mj(kl:Bool)(h:Hp):(l:List Sh)->List AV->Option (TL l×List AV×Hp)
 |[],r=>some ((),r,h)|s::l,r=>match fX kl h s r with
  |some (d,r,h)=>match mj kl h l r with|some (e,r,h)=>some ((d,e),r,h)|none=>none
  |none=>none
termination_by structural x=>x
end
structure gF(X:Cx)(h':Hp):Prop where
 E:bh X ⟨X.s,h',X.w,X.A⟩
 H:aV ⟨X.s,h',X.w,X.A⟩
 sub:∀i o,h'.tr.get i=some o->X.h.tr.get i=some o
theorem gF.refl{X:Cx}(H:aV X):gF X X.h:=⟨bh.refl X,H,fun _ _ h=>h⟩
theorem gF.trans{X:Cx}{h' h'':Hp}(a:gF X h')(b:gF ⟨X.s,h',X.w,X.A⟩ h''):gF X h'':=⟨a.E.trans b.E,b.H,fun i o q=>a.sub i o (b.sub i o q)⟩
theorem gF.kill{X:Cx}(H:aV X){b:Nat}{l:Loc}{tr:Tr bC}(hs:X.s b=some l)(ht:Tr.set FT X.h.tr b none=some tr):gF X ⟨tr,X.h.next⟩:=by
 obtain⟨E,H'⟩:=H.kill hs ht;refine⟨E,H',?_⟩;intro i o q;have:=Tr.dp FT X.h.tr b none tr ht i
 grind
theorem JM{w:World}{A:Nat->Prop}{τ τ':Sh}(h:τ.eqv τ'=true){L:List τ.T}{V:Value}(q:Cs w A (.sl τ) L [V]):Cs w A (.sl τ') (ma h L) [V]:=by have:=Sh.ic h;subst this;exact q
theorem akr{w:World}{A:Nat->Prop}{τ:Sh}{L:List τ.T}{x:Nat}{ty:TypeId}{cs tail:pi}{fr:Nat×Nat}(hw:w.heap[x]?=some (.cells (List.toArray (cs++tail)) ty fr))(ha:¬A x)(hf:bK (Cs w A τ) L cs)
  {off len cap:Nat}{a:pm}(hl:off+len<=L.length) (hc:len<=cap) (hA:0<len->a=some ⟨x,off*τ.size,none⟩):Cs w A (.sl τ) ((L.drop off).take len) [.slice a len cap]:=by
 refine⟨a,len,cap,rfl,by simp;omega,hc,fun hne=>?_⟩;have hpos:0<len:=by grind
 refine⟨x,off*τ.size,(cs.drop (off*τ.size)).take (len*τ.size),hA hpos,ha,bK.take (fun x c=>Cs.length) len (bK.drop (fun x c=>Cs.length) off hf),_,ty,_,hw,?_⟩
 grind
theorem X2{τ:Sh}{F:Hp->List AV->Option (τ.T×List AV×Hp)}(hF:∀{X:Cx},aV X->∀{l:List AV}{d:τ.T}{r:List AV}{h':Hp},F X.h l=some (d,r,h')->∀{cs:pi},bT X l cs ->
  gF X h'/\∃c e,cs=c++e/\Cs X.w (Cx.out ⟨X.s,h',X.w,X.A⟩) τ d c/\bT ⟨X.s,h',X.w,X.A⟩ r e):∀{n:Nat}{l:List AV}{X:Cx}{L:List τ.T}{h':Hp}{cs:pi},aV X->zI F n X.h l=some (L,h')->bT X l cs ->
  gF X h'/\L.length=n/\bK (Cs X.w (Cx.out ⟨X.s,h',X.w,X.A⟩) τ) L cs
 |0,l,X,L,h',cs,H,e,R=>by simp only[zI]at e;split at e<;>cases e;exact⟨gF.refl H,rfl,R⟩
 |n+1,l,X,L,h',cs,H,e,R=>by
  simp only[zI]at e;split at e<;>try cases e
  rename_i x r h₁ hf;split at e<;>cases e;rename_i xs hx;obtain⟨auk,c,t,rfl,q1,q2⟩:=hF H hf R;obtain⟨aul,k1,k2⟩:=X2 hF auk.H hx q2;exact⟨auk.trans aul,by simp[k1],c,t,rfl,q1.bn aul.E.keeps,k2⟩
mutual
theorem tu{kl:Bool}{X:Cx}(H:aV X):∀{σ:Sh}{l:List AV}{d:σ.T}{r:List AV}{h':Hp},fX kl X.h σ l=some (d,r,h')->∀{cs:pi},bT X l cs ->
  gF X h'/\∃c e,cs=c++e/\Cs X.w (Cx.out ⟨X.s,h',X.w,X.A⟩) σ d c/\bT ⟨X.s,h',X.w,X.A⟩ r e
 |.int k,l,d,r,h',e,cs,R=>by
  simp only[fX]at e;split at e<;>try cases e
  rename_i k' n r';split at e<;>try cases e
  rename_i hk;obtain⟨v,t,rfl,h1,h2⟩:=R;have:=Ev.IntKind.xp (cB hk);subst this;exact⟨gF.refl H,[v],t,rfl,by rw[show v=_ from h1];rfl,h2⟩
 |.bool,l,d,r,h',e,cs,R=>by
  simp only[fX]at e;split at e<;>try cases e
  obtain⟨v,t,rfl,h1,h2⟩:=R;exact⟨gF.refl H,[v],t,rfl,by rw[show v=_ from h1];rfl,h2⟩
 |.str,l,d,r,h',e,cs,R=>by
  simp only[fX]at e;split at e<;>try cases e
  obtain⟨v,t,rfl,h1,h2⟩:=R;exact⟨gF.refl H,[v],t,rfl,by rw[show v=_ from h1];rfl,h2⟩
 |.agg ss,l,d,r,h',e,cs,R=>aaL H (ss:=ss) e R|.sl s,l,d,r,h',e,cs,R=>by
  simp only[fX]at e;split at e<;>try cases e
  .obtain⟨v,t,rfl,h1,h2⟩:=R;exact⟨gF.refl H,[v],t,rfl,⟨none,0,0,by rw[show v=_ from h1],rfl,rt _,fun q=>absurd rfl q⟩,h2⟩
  .rename_i τ L r';split at e<;>try cases e
   rename_i he;obtain⟨v,t,rfl,h1,h2⟩:=R;exact⟨gF.refl H,[v],t,rfl,JM he h1,h2⟩
  .rename_i b awo r';split at e<;>try cases e
   rename_i τ L ty hb;split at e<;>try cases e
   rename_i tr he ht;obtain⟨v,t,rfl,⟨avx,g1,gc,g2⟩,h2⟩:=R;have F:=gF.kill H g1 ht;have:=H.freeze hb g1 ht;rw[g2 _ (je hb)];exact⟨F,[_],t,rfl,JM he this,h2.ext (F.E.fG H)⟩
  .rename_i b awo off len r';split at e<;>try cases e
   .rename_i τ L ty hb;split at e<;>try cases e
    rename_i tr he auZ ht;obtain⟨v,t,rfl,⟨avx,a,c,g1,g2,g3,g4,g5,g6⟩,h2⟩:=R;have F:=gF.kill H g1 ht;have hfz:=H.freeze hb g1 ht;have:=Sh.ic auZ;subst this;have:=Sh.ic he;subst this;refine⟨F,[v],t,rfl,JM he ?_,h2.ext (F.E.fG H)⟩;have hle:=g6 _ (je hb);rw[g2];cases avx with
    |nil=>
     have hL:L=[]:=H.obj b _ _ hb g1;subst hL;simp only[IT]at hle;have:len=0:=atO
     subst this;exact⟨a,0,c,rfl,atQ,g3,fun q=>by rw[arR]at q;exact absurd rfl q⟩
    |«at» x k=>
     obtain⟨cs,tail,q1,q2,q3,q4⟩:=H.obj b _ _ hb g1;refine akr (w:=X.w) q1 ?_ (q2.mono (fun x d q=>q.bn F.E.keeps)) hle g3 (fun hp=>?_)
     .rintro(q|⟨j,o,c',p1,p2,p3⟩)
      .exact H.loc b _ _ x hb g1 rfl q
      .have hj:=F.sub j o p1;have hg:=Tr.dp FT X.h.tr b none tr ht j;have:=H.inj j b o _ c' _ x hj hb p2 g1 p3 rfl;subst this
       replace p1:tr.get j=some o:=p1
       rw[hg,IO rfl]at p1;cases p1
     .obtain⟨x',k',e1,e2⟩:=g4 hp;cases e1;exact e2
    |dE x k m=>exact(H.obj b _ _ hb g1:False).elim
   .rename_i vs ty hb;split at e<;>try cases e
    rename_i tr ht;split at e<;>cases e;rename_i hr;obtain⟨v,t,rfl,⟨avx,a,c,g1,rfl,g3,g4,g5,g6⟩,h2⟩:=R;obtain⟨x,k,cs,rfl,q1,q2⟩:=H.obj b _ _ hb g1;have F:=gF.kill H g1 ht;obtain⟨aul,k1,k2⟩:=X2 (F:=fun h l=>fX true h s l) (fun H=>tu H) (X:=⟨X.s,⟨tr,X.h.next⟩,X.w,X.A⟩) F.H hr (q2.ext (F.E.fG H));have aum:=F.trans aul;refine⟨aum,[_],t,rfl,⟨a,len,c,rfl,k1.symm,g3,fun hne=>?_⟩,h2.ext (aum.E.fG H)⟩;have hpos:0<len:=by
     rcases ST len with r|r
     .subst r;exact absurd (ww k1) hne
     .exact r
    obtain⟨x',k',e1,e2⟩:=g4 hpos;cases e1;refine⟨x,0,cs,by rw[e2];simp,?_,k2,_,ty,_,q1,fun j u hu=>by rw[ase];simpa using hu⟩;rintro(r|⟨j,o',c',p1,p2,p3⟩)
    .exact H.loc b _ _ x hb g1 rfl r
    .have p1':=aul.sub j o' p1;have hg:=Tr.dp FT X.h.tr b none tr ht j
     replace p1':tr.get j=some o':=p1'
     rw[hg]at p1';by_cases hj:j=b
     .rw[IO hj]at p1';cases p1'
     .rw[BT hj]at p1';exact hj (H.inj j b o' _ c' _ x p1' hb p2 g1 p3 rfl)
theorem aaL{kl:Bool}{X:Cx}(H:aV X):∀{ss:List Sh}{l:List AV}{d:TL ss}{r:List AV}{h':Hp},mj kl X.h ss l=some (d,r,h')->∀{cs:pi},bT X l cs ->
  gF X h'/\∃c e,cs=c++e/\jh X.w (Cx.out ⟨X.s,h',X.w,X.A⟩) ss d c/\bT ⟨X.s,h',X.w,X.A⟩ r e
 |[],l,d,r,h',e,cs,R=>by simp only[mj,cM,arJ]at e;obtain⟨rfl,rfl,rfl⟩:=e;exact⟨gF.refl H,[],cs,rfl,rfl,R⟩
 |s::ss,l,d,r,h',e,cs,R=>by
  simp only[mj]at e;split at e<;>try cases e
  rename_i auN avI h₁ auQ;split at e<;>try cases e
  rename_i auO avJ h₂ auR;obtain⟨auk,c,t,rfl,q1,q2⟩:=tu H auQ R;obtain⟨aul,c',t',rfl,q3,q4⟩:=aaL (X:=⟨X.s,h₁,X.w,X.A⟩) auk.H auR q2;exact⟨auk.trans aul,c++c',t',atQ,⟨c,c',rfl,q1.bn aul.E.keeps,q3⟩,q4⟩
end
def sa:Value->Option AV
 |.bool b=>some (.bool b)|.int k n=>some (.int k n)|.string s=>some (.str s)|.pointer a=>match a with|none=>some .fw|some _=>none
 |.slice a len cap=>match a,len,cap with|none,0,0=>some .bt|_,_,_=>none
 |.map a=>match a with|none=>some .gr|some _=>none
 |.nilFunc=>some .ga|.nilIface=>some .gZ|_=>none
def qM:pi->Option (List AV)
 |[]=>some []|x::l=>match sa x with
  |some v=>match qM l with|some vs=>some (v::vs)|none=>none
  |none=>none
def back:Value->Option AV
 |.agg l=>match qM l.toList with|some vs=>some (.agg vs)|none=>none
 |.tuple l=>match qM l.toList with|some vs=>some (.d5 vs)|none=>none
 |v=>sa v
theorem aaq{x:Value}{v:AV}(h:sa x=some v)(X:Cx):Rel X v x:=by
 cases x with
 |pointer a=>cases a<;>simp[sa]at h;subst h;rfl
 |map a=>cases a<;>simp[sa]at h;subst h;rfl
 |slice a l c=>
  simp only[sa]at h;split at h
  .simp at h;subst h;rfl
  .cases h
 |_=>simp[sa]at h<;>subst h<;>rfl
theorem TM:∀{x:pi}{l:List AV},qM x=some l->∀X:Cx,bT X l x
 |[],l,h,X=>by simp[qM]at h;subst h;rfl|x::xs,l,h,X=>by
  simp only[qM]at h;cases hv:sa x<;>simp only[hv]at h
  .cases h
  cases hl:qM xs<;>simp only[hl]at h
  .cases h
  simp at h;subst h;exact⟨x,xs,rfl,aaq hv X,TM hl X⟩
theorem NV{x:Value}{v:AV}(h:back x=some v)(X:Cx):Rel X v x:=by
 cases x with
 |agg l=>
  simp only[back]at h;cases hl:qM l.toList<;>simp only[hl]at h
  .cases h
  simp at h;subst h;exact⟨l.toList,atQ,TM hl X⟩
 |tuple l=>
  simp only[back]at h;cases hl:qM l.toList<;>simp only[hl]at h
  .cases h
  simp at h;subst h;exact⟨l.toList,atQ,TM hl X⟩
 |_=>simp only[back]at h;exact aaq h X
def dX(T:Tr AV):Operand->Option AV
 |.tmp t=>T.get t|.const v=>back v|.func f=>some (.func f [] [])|.global _=>none
def qV(X:Cx)(T:Tr AV)(a:Act)(o:Op):Prop:=∀x∈o.operands,∀u,dX T x=some u->Rel X u (a.eval x)
theorem To{X:Cx}{T:Tr AV}{a:Act}{o:Op}(h:∀t,.tmp t∈o.operands->∀u,T.get t=some u->∃V,a.tmps[t]?=some V/\Rel X u V):qV X T a o:=by
 intro x hx u hu;cases x with
 |tmp t=>obtain⟨V,h1,h2⟩:=h t hx u hu;simpa[Act.eval,h1]using h2
 |const v=>exact NV hu X|func f=>simp[dX]at hu;subst hu;exact⟨[],[],rfl,rfl,rfl⟩|global g=>simp[dX]at hu
def kR(T:Tr AV):List Operand->Option (List AV)
 |[]=>some []|x::l=>match dX T x with
  |some v=>match kR T l with|some vs=>some (v::vs)|none=>none
  |none=>none
theorem aaR{X:Cx}{T:Tr AV}{a:Act}:∀{l:List Operand}{vs:List AV},kR T l=some vs->(∀x∈l,∀u,dX T x=some u->Rel X u (a.eval x))->bT X vs (l.map a.eval)
 |[],vs,h,_=>by simp[kR]at h;subst h;rfl|x::l,vs,h,hr=>by
  simp only[kR]at h;cases hv:dX T x<;>simp only[hv]at h
  .cases h
  cases hl:kR T l<;>simp only[hl]at h
  .cases h
  simp at h;subst h;exact⟨_,_,rfl,hr x atQ _ hv,aaR hl (fun y hy=>hr y (by simp[hy]))⟩
def nE(P:Program)(t:TypeId):Option AV:=match P.info? t with
 |some i=>match i.zero with|some v=>back v|none=>none
 |none=>none
theorem rn{P:Program}{t:TypeId}{v:AV}(h:nE P t=some v)(X:Cx)(w:World):∃V,(zeroValue t).run P w=.ok V w/\Rel X v V:=by
 unfold nE at h;cases hi:P.info? t<;>simp only[hi]at h
 .cases h
 rename_i i;cases hz:i.zero<;>simp only[hz]at h
 .cases h
 exact⟨_,by simp only[zeroValue,Sem.run_bind,run_typeInfo hi,Result.andThen_ok,hz,Sem.run_pure],NV h X⟩
def jt:AV->List AV
 |.agg l=>l|v=>[v]
theorem Z7{V:Value}(h:Ev.ou V=true):V.cells=#[V]:=by cases V<;>first|rfl|cases h
theorem mR{X:Cx}{v:AV}{V:Value}(h:Rel X v V):bT X (jt v) V.cells.toList:=by
 have single:∀{u:AV}{U:Value},Rel X u U->U.cells=#[U]->bT X [u] U.cells.toList:=fun{u U} q e=>by rw[e];exact⟨U,[],rfl,q,rfl⟩
 cases v with
 |agg l=>obtain⟨cs,rfl,h2⟩:=h;simpa[jt,Value.cells]using h2
 |d5 l=>exact single h (by obtain⟨cs,rfl,h2⟩:=h;rfl)
 |kS=>exact single h (Z7 h)|bool b=>exact single h (by rw[show V=_ from h];rfl)|int k n=>exact single h (by rw[show V=_ from h];rfl)|str s=>exact single h (by rw[show V=_ from h];rfl)|fw=>exact single h (by rw[show V=_ from h];rfl)|bt=>exact single h (by rw[show V=_ from h];rfl)|gr=>exact single h (by rw[show V=_ from h];rfl)|ga=>exact single h (by rw[show V=_ from h];rfl)|gZ=>exact single h (by rw[show V=_ from h];rfl)|ptr b off=>exact single h (by obtain⟨x,c,h1,rfl⟩:=h;rfl)
 |fE b i z o=>exact single h (by obtain⟨x,c,h1,rfl,_⟩:=h;rfl)
 |ie σ d o=>exact single h (by obtain⟨b,off,cs,rfl,_⟩:=h;rfl)
 |hd b τ=>exact single h (by obtain⟨l,h1,hc,_⟩:=h;exact Z7 hc)
 |vw b τ off len=>exact single h (by obtain⟨l,a,c,h1,rfl,_⟩:=h;rfl)
 |fz τ L=>exact single h (by obtain⟨a,len,cap,e,_⟩:=h;simp at e;rw[e];rfl)
 |func f x c=>exact single h (by obtain⟨xs,cs,rfl,_⟩:=h;rfl)
 |fJ τ z L=>exact single h (by obtain⟨_,a,l,c,rfl,_⟩:=h;rfl)
 |mp b=>exact single h (by obtain⟨x,c,h1,rfl⟩:=h;rfl)
 |fB b=>exact single h (by obtain⟨l,h1,rfl⟩:=h;cases l<;>rfl)
 |rp b i=>exact single h (by obtain⟨x,c,m,p,h1,h2,rfl⟩:=h;rfl)
 |ra b i=>exact single h (by obtain⟨x,c,m,h1,h2,rfl⟩:=h;rfl)
def one:AV->Bool
 |.agg _|.d5 _=>false|_=>true
def sV:List AV->Bool
 |[]=>true|x::l=>match one x with|true=>sV l|false=>false
theorem aa7{X:Cx}{v:AV}{V:Value}(h:one v=true)(R:Rel X v V):Ev.ou V=true:=by
 cases v with
 |agg l=>cases h
 |d5 l=>cases h
 |kS=>exact R|bool b=>rw[R];rfl|int k n=>rw[R];rfl|str s=>rw[R];rfl|fw=>rw[R];rfl|bt=>rw[R];rfl|gr=>rw[R];rfl|ga=>rw[R];rfl|gZ=>rw[R];rfl|ptr b off=>obtain⟨x,c,h1,rfl⟩:=R;rfl
 |fE b i z o=>obtain⟨x,c,h1,rfl,_⟩:=R;rfl
 |ie σ d o=>obtain⟨b,off,cs,rfl,_⟩:=R;rfl
 |hd b τ=>obtain⟨l,h1,hc,_⟩:=R;exact hc
 |vw b τ off len=>obtain⟨l,a,c,h1,rfl,_⟩:=R;rfl
 |fz τ L=>obtain⟨a,len,cap,e,_⟩:=R;simp at e;rw[e];rfl
 |func f x c=>obtain⟨xs,cs,rfl,_⟩:=R;rfl
 |fJ τ z L=>obtain⟨_,a,l,c,rfl,_⟩:=R;rfl
 |mp b=>obtain⟨x,c,h1,rfl⟩:=R;rfl
 |fB b=>obtain⟨l,h1,rfl⟩:=R;cases l<;>rfl
 |rp b i=>obtain⟨x,c,m,p,h1,h2,rfl⟩:=R;rfl
 |ra b i=>obtain⟨x,c,m,h1,h2,rfl⟩:=R;rfl
theorem JO{X:Cx}:∀{l:List AV}{cs:pi},sV l=true->bT X l cs->∀V∈cs,Ev.ou V=true
 |[],cs,_,R,V,hV=>by rw[R]at hV;cases hV
 |x::l,_,h,⟨v,r,rfl,h1,h2⟩,V,hV=>by
  simp only[sV]at h;split at h<;>try cases h
  rename_i hx;rcases GE.1 hV with rfl|hV
  .exact aa7 hx h1
  .exact JO h h2 V hV
open Go.Proofs.YtmkbdfidnfmgmaaGreat.Ev (Tr Tr.dp nth fc takeN jm lH lI cS iU lY run_underlying run_typeInfo run_sizeOf gD ji places ta lJ qY pj)
def aw(n:Int)(len:Nat):Bool:=decide (0<=n)&&decide (n<(len:Int))
theorem wb{n:Int}{len:Nat}(h:aw n len=true):∃m:Nat,n=m/\m<len:=by simp only[aw,act,IR]at h;exact⟨n.toNat,atO,atO⟩
def both(a b:Bool):Bool:=match a with|true=>b|false=>false
theorem pk{a b:Bool}(h:both a b=true):a=true/\b=true:=by cases a<;>simp_all [both]
def bP(c a b:Bool):Bool:=match c with|true=>a|false=>b
def ed(c:Bool)(a b:Int):Int:=match c with|true=>a|false=>b
def me(a b:IntKind):Bool:=Nat.beq (Ev.IntKind.num a) (Ev.IntKind.num b)
theorem oo{a b:IntKind}(h:me a b=true):a=b:=Ev.IntKind.xp (cB h)
def oN(k:IntKind)(a b:Int):Int:=k.wrap ((BitVec.ofInt k.bits a &&& BitVec.ofInt k.bits b).toNat:Int)
def zG(k:IntKind)(a b:Int):Int:=k.wrap ((BitVec.ofInt k.bits a ||| BitVec.ofInt k.bits b).toNat:Int)
def Zq(k:IntKind)(a b:Int):Int:=k.wrap ((BitVec.ofInt k.bits a ^^^ BitVec.ofInt k.bits b).toNat:Int)
def Zp(k:IntKind)(a b:Int):Int:=k.wrap ((BitVec.ofInt k.bits a &&& ~~~ (BitVec.ofInt k.bits b)).toNat:Int)
def arith(op:BinOp)(k:IntKind)(a b:Int):Option (Bool×AV):=match op with|.add=>some (true,.int k (k.wrap (a+b)))|.sub=>some (true,.int k (k.wrap (a-b)))|.mul=>some (true,.int k (k.wrap (a*b)))|.quo=>some (!(decide (b=0)),.int k (k.wrap (a.tdiv b)))|.rem=>some (!(decide (b=0)),.int k (a.tmod b))|.and=>some (true,.int k (oN k a b))|.or=>some (true,.int k (zG k a b))|.xor=>some (true,.int k (Zq k a b))|.andNot=>some (true,.int k (Zp k a b))|.eql=>some (true,.bool (a == b))|.neq=>some (true,.bool (a != b))|.lss=>some (true,.bool (decide (a<b)))|.leq=>some (true,.bool (decide (a<=b)))|.gtr=>some (true,.bool (decide (a > b)))|.geq=>some (true,.bool (decide (a>=b)))|_=>none
def Oe(op:BinOp)(k:IntKind)(a b:Int):Option (Bool×AV):=match op with|.shl=>some (decide (0<=b),.int k (k.wrap (a*2^(min b.toNat k.bits))))|.shr=>some (decide (0<=b),.int k (a.fdiv (2^(min b.toNat k.bits))))|_=>none
def abj:BinOp->Bool|.shl|.shr=>true|_=>false
def NH(op:BinOp)(a b:ByteArray):Option (Bool×AV):=match op with|.add=>some (decide (((a.size+b.size:Nat):Int)<=IntKind.i64.max),.str (a++b))|.eql=>some (true,.bool (a.toList == b.toList))|.neq=>some (true,.bool (!(a.toList == b.toList)))|.lss=>some (true,.bool (Op.bytesLess a.toList b.toList))|_=>none
def Oi:TypeDesc->AV->AV->Option Bool
 |.pointer _,.fw,.fw=>some true|.pointer _,.fw,.ptr _ _|.pointer _,.ptr _ _,.fw|.pointer _,.fw,.fE _ _ _ _|.pointer _,.fE _ _ _ _,.fw|.pointer _,.fw,.ie _ _ _|.pointer _,.ie _ _ _,.fw=>some false|.slice _,.bt,.bt=>some true|.slice _,.fJ _ z _,.bt=>some z|.slice _,.bt,.fJ _ z _=>some z|.map _ _,.gr,.gr=>some true|.func _ _ _,.ga,.ga=>some true|.func _ _ _,.ga,.func _ _ _|.func _ _ _,.func _ _ _,.ga=>some false|.bool,.bool a,.bool b=>some (a == b)|_,_,_=>none
def Nu(P:Program)(op:BinOp)(t:TypeId)(u v:AV):Option (Bool×AV):=match u,v with
 |.int k a,.int k' b=>match abj op with|true=>Oe op k a b|false=>match me k k' with|true=>arith op k a b|false=>none
 |.str a,.str b=>NH op a b|u,v=>match P.underlying t with
  |some d=>match Oi d u v with
   |some b=>match op with|.eql=>some (true,.bool b)|.neq=>some (true,.bool (!b))|_=>none
   |none=>none
  |none=>none
theorem an7{P:Program}{op:BinOp}{k:IntKind}{a b:Int}{g:Bool}{v:AV}(e:arith op k a b=some (g,v))(hg:g=true)(hs:abj op=false)(t:TypeId)(x y:Operand)(X:Cx)(w:World) :
  ∃V,(do eqGuard op t x y (.int k a) (.int k b);binOp op t (.int k a) (.int k b)).run P w=.ok V w/\Rel X v V:=by
 cases op<;>simp only[arith,cM,arJ]at e<;>first|(cases e;done)|skip
 all_goals
  obtain⟨e1,rfl⟩:=e;refine⟨_,?_,rfl⟩
  first
  |(have hb:¬b=0:=(by grind);simp[eqGuard,binOp,Op.intArith,Op.intDiv,Op.intBits,Op.intCmp,hb])
  |simp[eqGuard,binOp,Op.intArith,Op.intDiv,Op.intBits,Op.intCmp,oN,zG,Zq,Zp]
theorem ane{P:Program}{op:BinOp}{k k':IntKind}{a b:Int}{g:Bool}{v:AV}(e:Oe op k a b=some (g,v))(hg:g=true)(t:TypeId)(x y:Operand)(X:Cx)(w:World) :
  ∃V,(do eqGuard op t x y (.int k a) (.int k' b);binOp op t (.int k a) (.int k' b)).run P w=.ok V w/\Rel X v V:=by
 cases op<;>simp only[Oe,cM,arJ]at e<;>first|(cases e;done)|skip
 all_goals
  obtain⟨e1,rfl⟩:=e;have hb:¬b<0:=by grind
  exact⟨_,by simp[eqGuard,binOp,Op.shift,hb],rfl⟩
theorem anC{P:Program}{op:BinOp}{a b:ByteArray}{g:Bool}{v:AV}(e:NH op a b=some (g,v))(hg:g=true)(t:TypeId)(x y:Operand)(X:Cx)(w:World) :
  ∃V,(do eqGuard op t x y (.string a) (.string b);binOp op t (.string a) (.string b)).run P w=.ok V w/\Rel X v V:=by
 cases op<;>simp only[NH,cM,arJ]at e<;>first|(cases e;done)|skip
 all_goals
  obtain⟨e1,rfl⟩:=e;refine⟨_,?_,rfl⟩
  first
  |(have hb:¬(((a.size+b.size:Nat)) > IntKind.i64.max):=(by grind);have hs:(Op.stringOp .add a b)=pure (.string (a++b)):=(by unfold Op.stringOp;rw[BT hb]);simp[eqGuard,binOp,hs];done)
  |simp[eqGuard,binOp,Op.stringOp]
theorem ank{P:Program}{t:TypeId}{d:TypeDesc}{u v:AV}{b:Bool}(hu:P.underlying t=some d)(h:Oi d u v=some b){X:Cx}{U V:Value}(h1:Rel X u U)(h2:Rel X v V)(w:World)(x y:Operand) :
  (do eqGuard .eql t x y U V;binOp .eql t U V).run P w=.ok (.bool b) w/\(do eqGuard .neq t x y U V;binOp .neq t U V).run P w=.ok (.bool (!b)) w:=by
 have hr:=run_underlying hu w;have fin:∀{U V:Value},eqGuard .eql t x y U V=pure ()->eqGuard .neq t x y U V=pure ()->binOp .eql t U V=(do pure (.bool (<- Op.equal t U V)))->binOp .neq t U V=(do pure (.bool (!(<- Op.equal t U V)))) ->
   (∀n,(Op.equalIn (n+1) t U V).run P w=.ok b w) ->
   (do eqGuard .eql t x y U V;binOp .eql t U V).run P w=.ok (.bool b) w/\(do eqGuard .neq t x y U V;binOp .neq t U V).run P w=.ok (.bool (!b)) w:=by
  intro U V g1 g2 g3 g4 g5;have g5:(Op.equal t U V).run P w=.ok b w:=g5 9999;exact⟨by simp[g1,g3,g5],by simp[g2,g4,g5]⟩
 unfold Oi at h;split at h<;>first|(cases h;done)|skip
 all_goals
  simp only[cM]at h;subst h
 .rw[show U=_ from h1,show V=_ from h2];exact fin rfl rfl rfl rfl (fun n=>by simp[Op.equalIn,hr])
 .obtain⟨awl,auL,-,rfl⟩:=h2;rw[show U=_ from h1];exact fin rfl rfl rfl rfl (fun n=>by simp[Op.equalIn,hr])
 .obtain⟨awl,auL,-,rfl⟩:=h1;rw[show V=_ from h2];exact fin rfl rfl rfl rfl (fun n=>by simp[Op.equalIn,hr])
 .obtain⟨awl,auL,-,rfl,-⟩:=h2;rw[show U=_ from h1];exact fin rfl rfl rfl rfl (fun n=>by simp[Op.equalIn,hr])
 .obtain⟨awl,auL,-,rfl,-⟩:=h1;rw[show V=_ from h2];exact fin rfl rfl rfl rfl (fun n=>by simp[Op.equalIn,hr])
 .obtain⟨awl,auL,auM,rfl,-⟩:=h2;rw[show U=_ from h1];exact fin rfl rfl rfl rfl (fun n=>by simp[Op.equalIn,hr])
 .obtain⟨awl,auL,auM,rfl,-⟩:=h1;rw[show V=_ from h2];exact fin rfl rfl rfl rfl (fun n=>by simp[Op.equalIn,hr])
 .rw[show U=_ from h1,show V=_ from h2];exact fin rfl rfl rfl rfl (fun n=>by simp[Op.equalIn,hr])
 .obtain⟨-,a,l,c,rfl,hz⟩:=h1;rw[show V=_ from h2];exact fin rfl rfl rfl rfl (fun n=>by cases a<;>simp at hz<;>simp[Op.equalIn,hr,hz])
 .obtain⟨-,a,l,c,rfl,hz⟩:=h2;rw[show U=_ from h1];exact fin rfl rfl rfl rfl (fun n=>by cases a<;>simp at hz<;>simp[Op.equalIn,hr,hz])
 .rw[show U=_ from h1,show V=_ from h2];exact fin rfl rfl rfl rfl (fun n=>by simp[Op.equalIn,hr])
 .rw[show U=_ from h1,show V=_ from h2];exact fin rfl rfl rfl rfl (fun n=>by simp[Op.equalIn,hr])
 .obtain⟨xs,cs,rfl,-⟩:=h2;rw[show U=_ from h1];exact fin rfl rfl rfl rfl (fun n=>by simp[Op.equalIn,hr])
 .obtain⟨xs,cs,rfl,-⟩:=h1;rw[show V=_ from h2];exact fin rfl rfl rfl rfl (fun n=>by simp[Op.equalIn,hr])
 .rw[show U=_ from h1,show V=_ from h2];exact fin rfl rfl rfl rfl (fun n=>by simp[Op.equalIn,hr])
theorem Zx5{P:Program}{op:BinOp}{t:TypeId}{u v r:AV}{g:Bool}(e:Nu P op t u v=some (g,r))(hg:g=true){X:Cx}{U V:Value}(h1:Rel X u U)(h2:Rel X v V)(x y:Operand)(w:World) :
  ∃R,(do eqGuard op t x y U V;binOp op t U V).run P w=.ok R w/\Rel X r R:=by
 unfold Nu at e;split at e
 .rename_i k a k' b;rw[h1,h2];split at e
  .exact ane e hg t x y X w
  .rename_i hs;split at e<;>try cases e
   rename_i hk;have:=oo hk;subst this;exact an7 e hg hs t x y X w
 .rename_i a b;rw[h1,show V=_ from h2];exact anC e hg t x y X w
 .split at e<;>try cases e
  rename_i d hu;split at e<;>try cases e
  rename_i b hb;obtain⟨q1,q2⟩:=ank hu hb h1 h2 w x y;split at e<;>first|(cases e;done)|(cases e;exact⟨_,q1,rfl⟩)|(cases e;exact⟨_,q2,rfl⟩)
def xt(h:Hp):AV->Option (Bool×List AV×Nat)
 |.ptr b off=>match h.tr.get b with|some (.cells l _)=>some (true,l,off)|_=>none
 |.fE b i z o=>match h.tr.get b with
  |some (.arr τ L _)=>match Nat.beq z τ.size with|true=>some (true,pq τ (L.getD i τ.zero),o)|false=>none
  |some (.fA τ k L vs _)=>match Nat.beq z τ.size with|true=>some (Nat.beq i k,vs,o)|false=>none
  |_=>none
 |.ie σ d o=>some (true,pq σ d,o)|.ra b i=>match h.tr.get b with|some (.fu _ _)=>some (true,[.rp b i],0)|_=>none
 |_=>none
theorem Zxc{X:Cx}(H:aV X){u:AV}{g:Bool}{l:List AV}{o:Nat}{U:Value}(e:xt X.h u=some (g,l,o))(hg:g=true)(R:Rel X u U) :
  ∃b off c ty fr cs,U=.pointer (some ⟨b,off+o,none⟩)/\X.w.heap[b]?=some (.cells c ty fr)/\bT X l cs/\∀j v,cs[j]?=some v->c[off+j]?=some v:=by
 unfold xt at e;split at e<;>try cases e
 .rename_i b off;split at e<;>try cases e
  rename_i ty hb;obtain⟨x,c,h1,rfl⟩:=R;obtain⟨x',c',cs,e1,e2,e3⟩:=H.obj b _ _ hb h1;cases e1;exact⟨x,0,_,ty,_,cs,atQ,e2,e3,fun j v q=>by simpa using q⟩
 .rename_i b i z o';split at e<;>try cases e
  .rename_i τ L ty hb;split at e<;>try cases e
   rename_i hz;have hz:=cB hz;subst hz;obtain⟨x,c,h1,rfl,h3⟩:=R;have hi:=h3 _ (je hb);obtain⟨cs,tail,q1,q2,q3,q4⟩:=H.obj b _ _ hb h1;obtain⟨d,p1,p2⟩:=bK.get (fun x c=>Cs.length) q2 (ba hi);refine⟨x,i*τ.size,_,ty,_,d,rfl,q1,?_,?_⟩
   .rw[eu,ba hi];exact xj p1
   .intro j v hv;have hj:j<τ.size:=by
     rw[<-Cs.length p1];rcases arm j d.length with q|q
     .exact q
     .rw[abs q]at hv;cases hv
    rw[<-p2 j hj]at hv;simp only[Or];rw[Pi]
    .exact hv
    .rcases arm (i*τ.size+j) cs.length with q|q
     .exact q
     .rw[abs q]at hv;cases hv
  .rename_i τ k L vs ty hb;split at e<;>try cases e
   rename_i hz;have hz:=cB hz;subst hz;have hg:=cB hg;subst hg;obtain⟨x,c,h1,rfl,h3⟩:=R;obtain⟨x',c',pre,mid,post,tail,e1,q1,q2,q3,q4,q5,q6,q7,q8⟩:=H.obj b _ _ hb h1;cases e1;have hpre:pre.length=i*τ.size:=by rw[bK.length (fun x c=>Cs.length) q2,fx,asx atO]
   grind
 .rename_i σ d;obtain⟨b,off,cs,rfl,h2,h3,c,ty,fr,h4,h5⟩:=R;exact⟨b,off,c,ty,fr,cs,rfl,h4,xj h3,h5⟩
 .rename_i b i;split at e<;>cases e;rename_i L ty hb;obtain⟨x,c,m,h1,h2,rfl⟩:=R;obtain⟨tail,ty',q1,q2,q3,q4⟩:=H.obj b _ _ hb h1;have hp:=ba h2;refine⟨x,i,_,ty',_,[.pointer (some ⟨m[i].1,0,none⟩)],rfl,q1,⟨_,[],rfl,⟨x,c,m,m[i],h1,hp,rfl⟩,rfl⟩,?_⟩;intro j v hv;cases j with|zero=>simp only[Fd,cM]at hv;subst hv;rw[asF,Or,Pi (by unfold kW;simpa using h2)];unfold kW;rw[ct,hp];rfl|succ j=>simp at hv
def va(P:Program)(t:TypeId)(l:List AV)(off:Nat):Option AV:=match qY P t with
 |some true=>match gD P t with
  |some n=>match Nat.ble (off+n) l.length with|true=>some (.agg (takeN n (jm off l)))|false=>none
  |none=>none
 |some false=>nth l off|none=>none
theorem S5{P:Program}{t:TypeId}{l:List AV}{off:Nat}{v:AV}(e:va P t l off=some v){X:Cx}{cs:pi}(R:bT X l cs)(w:World) :
  ∃V,(part t cs.toArray off).run P w=.ok V w/\Rel X v V:=by
 unfold va at e;split at e
 .rename_i ha;split at e<;>try cases e
  rename_i n hn;split at e<;>try cases e
  refine⟨.agg ((cs.drop off).take n).toArray,?_,⟨_,rfl,by rw[lH,lI];exact(R.drop off).take n⟩⟩;simp[part,pj ha,run_sizeOf hn,List.extract_eq_take_drop]
 .rename_i ha;rw[fc]at e;obtain⟨V,h1,h2⟩:=R.get e;exact⟨V,by simp[part,pj ha,h1],h2⟩
 .cases e
def uY(P:Program)(h:Hp)(t:TypeId)(u:AV):Option (Bool×AV):=match xt h u with
 |some (g,l,o)=>match va P t l o with|some v=>some (g,v)|none=>none
 |none=>none
theorem Zpo{P:Program}{t:TypeId}{u v:AV}{g:Bool}{X:Cx}(H:aV X)(e:uY P X.h t u=some (g,v))(hg:g=true){U:Value}(R:Rel X u U) :
  ∃V,(Instr.loadAt t U).run P X.w=.ok V X.w/\Rel X v V:=by
 unfold uY at e;split at e<;>try cases e
 rename_i g' l o hc;split at e<;>cases e;rename_i e;obtain⟨b,off,c,ty,fr,cs,rfl,h1,h2,h3⟩:=Zxc H hc hg R;unfold va at e;split at e
 .rename_i ha;split at e<;>try cases e
  rename_i n hn;split at e<;>try cases e
  rename_i hle;have hle:=adc hle;have hcl:=h2.length;rcases ST n with hz|hz
  .subst hz;exact⟨.agg #[],by simp[Instr.loadAt,Instr.sureAddr,loadVar,pj ha,run_sizeOf hn,loadCells,loadCellsFrom],[],rfl,by simp[takeN,bT]⟩
  have hsz:off+o+n<=c.size:=by have:=h3 (o+n-1) cs[o+n-1] (ba atO);have:=ka this;omega
  refine⟨.agg ((cs.drop o).take n).toArray,?_,⟨_,rfl,by rw[lH,lI];exact(h2.drop o).take n⟩⟩;simp only[Instr.loadAt,Instr.sureAddr,Sem.run_bind,Sem.run_pure,Result.andThen_ok,loadVar,pj ha,if_true,run_sizeOf hn,loadCells];rw[Ev.run_loadCells (P:=P) h1 n 0 #[] atO];simp only[Result.andThen_ok,Sem.run_pure,asF];congr 3;simp only[UV];apply arW
  grind
 .rename_i ha;rw[fc]at e;obtain⟨V,q1,q2⟩:=h2.get e;refine⟨V,?_,q2⟩;have hc:X.w.cell? ⟨b,off+o,none⟩=some V:=by simp only[World.cell?,h1,Option.isSome_none,asz,if_false];exact h3 o V q1
  simp[Instr.loadAt,Instr.sureAddr,loadVar,pj ha,run_load,hc]
 .cases e
def Tq(P:Program)(t:TypeId)(u:AV)(f:Nat):Option AV:=match P.underlying t with
 |some (.struct fields)=>match nth fields.toList f with
  |some fd=>match u with|.agg l=>va P fd.type l fd.offset|_=>none
  |none=>none
 |_=>none
theorem Zsx{P:Program}{t:TypeId}{u v:AV}{f:Nat}(h:Tq P t u f=some v){X:Cx}{U:Value}(R:Rel X u U)(w:World) :
  ∃V,(Instr.field t U f).run P w=.ok V w/\Rel X v V:=by
 unfold Tq at h;cases hu:P.underlying t with
 |none=>simp[hu]at h|some d=>
  have hr:=run_underlying hu w;cases d<;>simp_all<;>try cases h
  rename_i fields;cases hf:nth fields.toList f<;>simp only[hf]at h
  .cases h
  rename_i fd;rw[fc]at hf;cases u<;>simp at h<;>try cases h
  have hf':fields[f]?=some fd:=by grind
  obtain⟨cs,rfl,R'⟩:=R;obtain⟨V,q1,q2⟩:=S5 h R' w;exact⟨V,by simp[Instr.field,hr,hf',asAgg,q1],q2⟩
def OA:AV->Nat->Option AV
 |.ptr b off,n=>some (.ptr b (off+n))|.fE b i z o,n=>some (.fE b i z (o+n))|.ie σ d o,n=>some (.ie σ d (o+n))|_,_=>none
theorem anz{X:Cx}{u v:AV}{n:Nat}{U:Value}(e:OA u n=some v)(R:Rel X u U):∃b o,U=.pointer (some ⟨b,o,none⟩)/\Rel X v (.pointer (some ⟨b,o+n,none⟩)):=by
 unfold OA at e;split at e<;>cases e
 .obtain⟨x,c,h1,rfl⟩:=R;exact⟨_,_,rfl,x,c,h1,rfl⟩
 .obtain⟨x,c,h1,rfl,h3⟩:=R;exact⟨_,_,rfl,x,c,h1,by grind,h3⟩
 .obtain⟨b,off,cs,rfl,h⟩:=R;exact⟨_,_,rfl,b,off,cs,by grind,h⟩
def SZ(P:Program)(t:TypeId)(u:AV)(f:Nat):Option AV:=match P.underlying t with
 |some (.struct fields)=>match nth fields.toList f with
  |some fd=>match gD P fd.type with|some (n+1)=>OA u fd.offset|_=>none
  |none=>none
 |_=>none
theorem Zqv{P:Program}{t:TypeId}{u v:AV}{f:Nat}(h:SZ P t u f=some v){X:Cx}{U:Value}(R:Rel X u U)(w:World) :
  ∃V,(Instr.fieldAt t U f).run P w=.ok V w/\Rel X v V:=by
 unfold SZ at h;cases hu:P.underlying t with
 |none=>simp[hu]at h|some d=>
  have hr:=run_underlying hu w;cases d<;>simp_all<;>try cases h
  rename_i fields;cases hf:nth fields.toList f<;>simp only[hf]at h
  .cases h
  rename_i fd;rw[fc]at hf;have hf':fields[f]?=some fd:=by grind
  split at h<;>try cases h
  rename_i n hs;obtain⟨b,o,rfl,q⟩:=anz h R;exact⟨_,by simp[Instr.fieldAt,hr,hf',Instr.sureAddr,fieldPlace,run_sizeOf hs,ji],q⟩
def xg(P:Program)(h:Hp)(t:TypeId)(u i:AV):Option (Bool×AV):=match i with
 |.int k n=>match P.underlying t with
  |some (.slice elem)=>match gD P elem with
   |some sz=>match u with
    |.hd b _=>match h.tr.get b with
     |some (.arr τ L _)=>match Nat.beq sz τ.size with|true=>some (aw n L.length,.fE b n.toNat sz 0)|false=>none
     |some (.fA τ _ L _ _)=>match Nat.beq sz τ.size with|true=>some (aw n L.length,.fE b n.toNat sz 0)|false=>none
     |_=>none
    |.vw b τ off len=>match Nat.beq sz τ.size with
     |true=>match h.tr.get b with|some (.cells _ _)=>some (aw n len,.ptr b ((off+n.toNat)*sz))|some (.arr _ _ _)=>some (aw n len,.fE b (off+n.toNat) sz 0)|_=>none
     |false=>none
    |.fz τ L=>match Nat.beq sz τ.size with|true=>some (aw n L.length,.ie τ (L.getD n.toNat τ.zero) 0)|false=>none
    |.fB b=>match h.tr.get b with
     |some (.fu L _)=>match Nat.beq sz 1 with|true=>some (aw n L.length,.ra b n.toNat)|false=>none
     |_=>none
    |_=>none
   |none=>none
  |some (.array len elem)=>match n with
   |.ofNat n=>match u,gD P elem with
    |.ptr b off,some sz=>match Nat.blt n len with|true=>some (true,.ptr b (off+n*sz))|false=>none
    |_,_=>none
   |_=>none
  |_=>none
 |_=>none
theorem Zqu{P:Program}{t:TypeId}{u i v:AV}{g:Bool}{X:Cx}(H:aV X)(h:xg P X.h t u i=some (g,v))(hg:g=true){U I:Value}(R:Rel X u U)(RI:Rel X i I)(w:World) :
  ∃V,(Instr.indexAt t U I).run P w=.ok V w/\Rel X v V:=by
 subst hg;unfold xg at h;cases i<;>simp only[]at h<;>try cases h
 rename_i k n;rw[show I=_ from RI];cases hu:P.underlying t with
 |none=>simp[hu]at h|some d=>
  have hr:=run_underlying hu w;cases d<;>simp only[hu]at h<;>try cases h
  .rename_i elem;split at h<;>try cases h
   rename_i sz hs;split at h<;>try cases h
   .rename_i b awo;have fin:∀(n':Nat),rowOf X.h.tr b=some n'->aw n n'=true->(∀l,X.s b=some l->∃x c,l=.at x c\/n'=0)->∃V,(Instr.indexAt t U (.int k n)).run P w=.ok V w/\Rel X (.fE b n.toNat sz 0) V:=by
     intro n' hrow bz hl;obtain⟨m,rfl,hm⟩:=wb bz;obtain⟨l,h1,_,h2⟩:=R;have hV:=h2 n' hrow;obtain⟨x,c,rfl|rfl⟩:=hl l h1
     .subst hV;refine⟨.pointer (some ⟨x,m*sz,none⟩),by simp[Loc.slice,Instr.indexAt,asIntOf,hr,run_sizeOf hs,ji,hm],x,c,h1,atQ,?_⟩;intro avD q;rw[hrow]at q;cases q;simpa using hm
     .exact absurd hm atO
    split at h<;>try cases h
    .rename_i τ L ty hb;split at h<;>try cases h
     rename_i hz;simp only[cM,arJ]at h;obtain⟨bz,rfl⟩:=h;refine fin _ (je hb) bz fun l h1=>?_;cases l with|nil=>have hL:L=[]:=H.obj b _ _ hb h1;subst hL;exact⟨0,0,.inr rfl⟩|dE _ _ _=>exact(H.obj b _ _ hb h1:False).elim|«at» x c=>exact⟨x,c,.inl rfl⟩
    .rename_i τ avs L vs ty hb;split at h<;>try cases h
     rename_i hz;simp only[cM,arJ]at h;obtain⟨bz,rfl⟩:=h;refine fin _ (aeJ hb) bz fun l h1=>?_;obtain⟨x,c,pre,mid,post,tail,e1,_⟩:=H.obj b _ _ hb h1;exact⟨x,c,.inl e1⟩
   .rename_i b τ off len;split at h<;>try cases h
    rename_i hz;have hz:=cB hz;subst hz;obtain⟨l,a,c,h1,rfl,h3,h4,h5,h6⟩:=R;split at h<;>try cases h
    .simp only[cM,arJ]at h;obtain⟨bz,rfl⟩:=h;obtain⟨m,rfl,hm⟩:=wb bz;obtain⟨x,k',rfl,rfl⟩:=h4 atO;exact⟨.pointer (some ⟨x,off*τ.size+m*τ.size,none⟩),by simp[Instr.indexAt,asIntOf,hr,run_sizeOf hs,ji,hm],x,k',h1,by simp[asc]⟩
    .simp only[cM,arJ]at h;obtain⟨bz,rfl⟩:=h;obtain⟨m,rfl,hm⟩:=wb bz;obtain⟨x,k',rfl,rfl⟩:=h4 atO;refine⟨.pointer (some ⟨x,off*τ.size+m*τ.size,none⟩),by simp[Instr.indexAt,asIntOf,hr,run_sizeOf hs,ji,hm],x,k',h1,by simp[asc],?_⟩;intro n' q;have:=h6 n' q;simp;omega
   .rename_i τ L;split at h<;>try cases h
    rename_i hz;have hz:=cB hz;subst hz;simp only[cM,arJ]at h;obtain⟨bz,rfl⟩:=h;obtain⟨m,rfl,hm⟩:=wb bz;obtain⟨a,len,cap,e1,e2,e3,e4⟩:=R;simp only[asH,asY]at e1;subst e1;obtain⟨b,o,Y,rfl,q2,q3,q4⟩:=e4 (by intro q;subst q;simp at hm);subst e2;have hget:L[m]?=some L[m]:=ba hm;obtain⟨d,p1,p2⟩:=bK.get (fun x c=>Cs.length) q3 hget;obtain⟨c,ty,fr,r1,r2⟩:=q4;refine⟨.pointer (some ⟨b,o+m*τ.size,none⟩),by simp[Instr.indexAt,asIntOf,hr,run_sizeOf hs,ji,hm],b,o+m*τ.size,d,atQ,q2,?_,c,ty,fr,r1,?_⟩
    .rw[Ne,eu,hget];exact p1
    .intro j u hj;have hj':j<τ.size:=by
      rw[<-Cs.length p1];rcases arm j d.length with q|q
      .exact q
      .rw[abs q]at hj;cases hj
     rw[<-p2 j hj']at hj;have:=r2 _ _ hj;rw[asp];exact this
   .rename_i b;split at h<;>try cases h
    rename_i L ty hb;split at h<;>try cases h
    rename_i hz;have hz:=cB hz;subst hz;simp only[cM,arJ]at h;obtain⟨bz,rfl⟩:=h;obtain⟨m,rfl,hm⟩:=wb bz;obtain⟨l,h1,rfl⟩:=R;cases l with|nil=>have hL:L=[]:=H.obj b _ _ hb h1;subst hL;simp at hm|«at» x c=>exact(H.obj b _ _ hb h1:False).elim|dE x c ps=>obtain⟨tail,ty',q1,q2,q3,q4⟩:=H.obj b _ _ hb h1;have hl:=q3.len;exact⟨.pointer (some ⟨x,m,none⟩),by simp[Loc.Y8,Instr.indexAt,asIntOf,hr,run_sizeOf hs,ji,hl,hm],x,c,ps,h1,by simp;omega,atQ⟩
  .split at h<;>try cases h
   rename_i n;split at h<;>try cases h
   rename_i b off sz hs;split at h<;>try cases h
   rename_i hb;rw[atA]at hb;obtain⟨x,c,h1,rfl⟩:=R;exact⟨_,by simp[Instr.indexAt,asIntOf,hr,run_sizeOf hs,ji,hb,Instr.sureAddr],x,c,h1,rfl⟩
open Go.Proofs.YtmkbdfidnfmgmaaGreat.Ev (Tr Tr.dp nth fc takeN jm lH lI cS iU lY run_underlying run_typeInfo run_sizeOf gD ji places ta lJ qY pj tc Tl)
def mV(T:Tr AV)(x:Option Operand):Option (Option Int):=match x with|none=>some none|some x=>match dX T x with|some (.int _ n)=>some (some n)|_=>none
theorem NU{T:Tr AV}{x:Option Operand}(h:mV T x=some none):x=none:=by
 unfold mV at h
 grind
theorem NT{X:Cx}{T:Tr AV}{a:Act}{x:Option Operand}{n:Int}(h:mV T x=some (some n))(hr:∀y,x=some y->∀u,dX T y=some u->Rel X u (a.eval y)):∃y k,x=some y/\a.eval y=.int k n:=by
 unfold mV at h;split at h
 .cases h
 .rename_i y;split at h<;>try cases h
  rename_i k hy;exact⟨y,k,rfl,hr y rfl _ hy⟩
def lenOf(h:Hp):AV->Option Nat
 |.hd b _=>match h.tr.get b with|some (.arr _ L _)=>some L.length|some (.fA _ _ L _ _)=>some L.length|_=>none
 |.vw _ _ _ len=>some len|.fz _ L=>some L.length|.fJ _ _ L=>some L.length|.bt=>some 0|.fB b=>match h.tr.get b with|some (.fu L _)=>some L.length|_=>none
 |_=>none
theorem aad{X:Cx}(H:aV X){u:AV}{n:Nat}{U:Value}(e:lenOf X.h u=some n)(R:Rel X u U):∃a c,U=.slice a n c/\n<=c:=by
 unfold lenOf at e;split at e<;>try cases e
 .rename_i b τ;split at e<;>try cases e
  .rename_i τ' L ty hb;obtain⟨l,h1,_,h2⟩:=R;rw[h2 _ (je hb)];cases l with|nil=>have hL:L=[]:=H.obj b _ _ hb h1;subst hL;exact⟨none,0,rfl,rt _⟩|dE _ _ _=>exact(H.obj b _ _ hb h1:False).elim|«at» x c=>obtain⟨cs,tail,q1,q2,q3,q4⟩:=H.obj b _ _ hb h1;exact⟨_,c,rfl,q4⟩
  .rename_i τ' i' L vs ty hb;obtain⟨l,h1,_,h2⟩:=R;rw[h2 _ (aeJ hb)];obtain⟨x,c,pre,mid,post,tail,rfl,_,_,_,_,_,_,_,q⟩:=H.obj b _ _ hb h1;exact⟨_,c,rfl,q⟩
 .obtain⟨l,a,c,h1,rfl,h3,_⟩:=R;exact⟨a,c,rfl,h3⟩
 .obtain⟨a,len,cap,e1,e2,e3,_⟩:=R
  grind
 .obtain⟨⟨a,len,cap,e1,e2,e3,_⟩,_⟩:=R
  grind
 .rw[show U=_ from R];grind
 .rename_i b;split at e<;>cases e;rename_i L ty hb;obtain⟨l,h1,rfl⟩:=R;cases l with|nil=>have hL:L=[]:=H.obj b _ _ hb h1;subst hL;exact⟨none,0,rfl,rt _⟩|«at» x c=>exact(H.obj b _ _ hb h1:False).elim|dE x c m=>obtain⟨tail,ty',q1,q2,q3,q4⟩:=H.obj b _ _ hb h1;exact⟨some ⟨x,0,none⟩,c,by rw[<-q3.len];rfl,by rw[<-q3.len];omega⟩
def okB(lo hi:Option Int)(len:Nat):Bool:=match lo,hi with|none,none=>true|some l,none=>both (decide (0<=l)) (decide (l<=(len:Int)))|none,some r=>both (decide (0<=r)) (decide (r<=(len:Int)))|some l,some r=>both (decide (0<=l)) (both (decide (l<=r)) (decide (r<=(len:Int))))
def gg:Option Int->Nat|none=>0|some l=>l.toNat
def gH:Option Int->Nat->Nat|none,n=>n|some r,_=>r.toNat
theorem yX{lo hi:Option Int}{len:Nat}(h:okB lo hi len=true):gg lo<=gH hi len/\gH hi len<=len/\(∀l,lo=some l->l=(gg lo:Int))/\(∀r,hi=some r->r=(gH hi len:Int)):=by
 cases lo<;>cases hi<;>simp only[okB]at h
 .exact⟨by simp[gg],by simp[gH],atQ,atQ⟩
 .rename_i r;obtain⟨h1,h2⟩:=pk h;simp only[IR]at h1 h2;refine⟨by simp[gg],by simp only[gH];omega,atQ,?_⟩;rintro r' q;cases q;simp only[gH];omega
 .rename_i l;obtain⟨h1,h2⟩:=pk h;simp only[IR]at h1 h2;refine⟨by simp only[gg,gH];omega,by simp[gH],?_,atQ⟩;rintro l' q;cases q;simp only[gg];omega
 .rename_i l r;obtain⟨h1,h2⟩:=pk h;obtain⟨h2,h3⟩:=pk h2;simp at h1 h2 h3;refine⟨by simp only[gg,gH];omega,by simp only[gH];omega,?_,?_⟩
  .rintro l' q;cases q;simp only[gg];omega
  .rintro r' q;cases q;simp only[gH];omega
theorem Zlf{P:Program}{X:Cx}{T:Tr AV}{a:Act}{lo hi:Option Operand}{l h:Option Int}{len cap:Nat}(hr:∀x,(lo=some x\/hi=some x)->∀u,dX T x=some u->Rel X u (a.eval x))
  (h1:mV T lo=some l) (h2:mV T hi=some h) (hok:okB l h len=true) (hc:len<=cap) (b:Bool) (w:World) :
  (Instr.sliceBounds b len cap (lo.map a.eval) (hi.map a.eval) none).run P w=.ok (gg l,gH h len,cap) w:=by
 obtain⟨q1,q2,q3,q4⟩:=yX hok;have bd:∀(k:IntKind) (n y:Nat) (code:BoundsCode),n<=y->(Instr.sliceBound (.int k (n:Int)) y code).run P w=.ok n w:=fun k n y code h=>by simp[Instr.sliceBound,asIntOf,h]
 unfold Instr.sliceBounds;cases l with
 |none=>
  have:=NU h1;subst this;cases h with
  |none=>have:=NU h2;subst this;simp[gg,gH]|some r=>
   obtain⟨y,k,rfl,hy⟩:=NT h2 (fun y hy=>hr y (.inr hy));obtain⟨m,rfl⟩:∃m:Nat,r=(m:Int):=⟨_,q4 r rfl⟩;have hm:gH (some (m:Int)) len=m:=by simp[gH]
   rw[hm]at q2 |-;simp only[Option.map_some,Option.map_none,hy];simp[bd,gg,IS q2 hc]
 |some l=>
  obtain⟨x,kx,rfl,hx⟩:=NT h1 (fun y hy=>hr y (.inl hy));obtain⟨ml,rfl⟩:∃m:Nat,l=(m:Int):=⟨_,q3 l rfl⟩;have hml:gg (some (ml:Int))=ml:=by simp[gg]
  rw[hml]at q1 |-;cases h with
  |none=>have:=NU h2;subst this;simp only[Option.map_some,Option.map_none,hx];simp only[gH]at q1;simp[bd,gH,q1]|some r=>
   obtain⟨y,k,rfl,hy⟩:=NT h2 (fun y hy=>hr y (.inr hy));obtain⟨m,rfl⟩:∃m:Nat,r=(m:Int):=⟨_,q4 r rfl⟩;have hm:gH (some (m:Int)) len=m:=by simp[gH]
   rw[hm]at q1 q2 |-;simp only[Option.map_some,hx,hy];simp[bd,q1,IS q2 hc]
def Rt{α:Type}(lo hi:Option Int)(L:List α):List α:=match lo,hi with|none,none=>L|some l,none=>L.drop l.toNat|none,some r=>L.take r.toNat|some l,some r=>(L.drop l.toNat).take (r.toNat-l.toNat)
theorem ajS{α:Type}(lo hi:Option Int)(L:List α):Rt lo hi L=(L.drop (gg lo)).take (gH hi L.length-gg lo):=by
 cases lo<;>cases hi<;>simp[Rt,gg,gH]
 .rw[If atQ]
def xk(P:Program)(h:Hp)(T:Tr AV)(t:TypeId)(u:AV)(lo hi:Option Operand):Option (Bool×AV):=match mV T lo,mV T hi with
 |some l,some r=>match P.underlying t with
  |some (.slice elem)=>match gD P elem with
   |some sz=>match u with
    |.hd b τ=>match h.tr.get b with
     |some (.arr τ' L _)=>match Nat.beq sz τ.size with|true=>some (okB l r L.length,.vw b τ (gg l) (gH r L.length-gg l))|false=>none
     |_=>none
    |.vw b τ off len=>match Nat.beq sz τ.size with|true=>some (okB l r len,.vw b τ (off+gg l) (gH r len-gg l))|false=>none
    |.fz τ L=>match Nat.beq sz τ.size with|true=>some (okB l r L.length,.fz τ (Rt l r L))|false=>none
    |.bt=>some (okB l r 0,.bt)|_=>none
   |none=>none
  |some .string=>match u with|.str x=>some (okB l r x.size,.str (x.extract (gg l) (gH r x.size)))|_=>none
  |_=>none
 |_,_=>none
theorem TD(x o n sz m l:Nat)(h:l<m):(if m=l then(some ⟨x,o,none⟩:pm)else(some ⟨x,o,none⟩:pm).map (·.add (l*sz)))=some ⟨x,o+l*sz,none⟩:=by rw[BT atO];simp[ji]
theorem Zsu{P:Program}{T:Tr AV}{t:TypeId}{u v:AV}{lo hi:Option Operand}{g:Bool}{X:Cx}(H:aV X)(e:xk P X.h T t u lo hi=some (g,v))(hg:g=true){U:Value}(R:Rel X u U){a:Act}
  (hr:∀x,(lo=some x\/hi=some x)->∀u,dX T x=some u->Rel X u (a.eval x)) (w:World) :
  ∃V,(Instr.sliceAt t U (lo.map a.eval) (hi.map a.eval) none).run P w=.ok V w/\Rel X v V:=by
 subst hg;unfold xk at e;split at e<;>try cases e
 rename_i l r h1 h2;split at e
 .rename_i elem hu;have hru:=run_underlying hu w;split at e<;>try cases e
  rename_i sz hs;have main:∀(A:pm) (len cap:Nat),okB l r len=true->len<=cap->(Instr.sliceAt t (.slice A len cap) (lo.map a.eval) (hi.map a.eval) none).run P w =
    .ok (.slice (if cap=gg l then A else A.map (·.add (gg l*sz))) (gH r len-gg l) (cap-gg l)) w:=by
   intro A len cap hok hc;simp only[Instr.sliceAt,Instr.slice,Sem.run_bind,hru,Result.andThen_ok,Zlf hr h1 h2 hok hc true w,run_sizeOf hs,Sem.run_pure]
  split at e<;>try cases e
  .rename_i b τ;split at e<;>try cases e
   rename_i τ' L ty hb;split at e<;>try cases e
   rename_i hz;have hz:=cB hz;subst hz;simp only[cM,arJ]at e;obtain⟨hok,rfl⟩:=e;obtain⟨q1,q2,_,_⟩:=yX hok;obtain⟨A,c,rfl,hc⟩:=aad H (show lenOf X.h (.hd b τ)=some L.length by simp[lenOf,hb]) R;obtain⟨k,g1,_,g2⟩:=R;have g3:=g2 _ (je hb);refine⟨_,main A L.length c hok hc,k,_,_,g1,rfl,atO,?_,?_,?_⟩
   .intro hp;cases k with|nil=>simp[Loc.slice]at g3;omega|dE _ _ _=>exact(H.obj b _ _ hb g1:False).elim|«at» x k=>simp only[Loc.slice,asP,true_and]at g3;obtain⟨rfl,rfl⟩:=g3;exact⟨x,c,rfl,by rw[TD x 0 0 _ _ _ atO];simp⟩
   .intro h0;rw[h0];cases k with
    |nil=>simp only[Loc.slice,asP,true_and]at g3;obtain⟨rfl,rfl⟩:=g3;simp[Loc.slice]
    |dE _ _ _=>exact(H.obj b _ _ hb g1:False).elim|«at» x k=>simp only[Loc.slice,asP,true_and]at g3;obtain⟨rfl,rfl⟩:=g3;simp[Loc.slice,ji]
   .intro avC q;rw[je hb]at q;cases q;omega
  .rename_i b τ off len;split at e<;>try cases e
   rename_i hz;have hz:=cB hz;subst hz;simp only[cM,arJ]at e;obtain⟨hok,rfl⟩:=e;obtain⟨q1,q2,_,_⟩:=yX hok;obtain⟨k,A,c,g1,rfl,g3,g4,g5,g6⟩:=R;refine⟨_,main A len c hok g3,k,_,_,g1,rfl,atO,?_,?_,?_⟩
   .intro hp;obtain⟨x,k',rfl,rfl⟩:=g4 atO;exact⟨x,k',rfl,by rw[TD x _ 0 _ _ _ atO];simp[asc]⟩
   .intro h0;have h01:off=0:=atO
    have h02:gg l=0:=atO
    have g5:=g5 h01;rw[h02];cases k with
    |nil=>simp only[Loc.slice,asP,true_and]at g5;obtain⟨rfl,rfl⟩:=g5;simp[Loc.slice]
    |dE x k m=>simp only[Loc.slice,asP,true_and]at g5;obtain⟨rfl,rfl⟩:=g5;simp[Loc.slice,ji]
    |«at» x k=>simp only[Loc.slice,asP,true_and]at g5;obtain⟨rfl,rfl⟩:=g5;simp[Loc.slice,ji]
   .intro avC q;have:=g6 _ q;omega
  .rename_i τ L;split at e<;>try cases e
   rename_i hz;have hz:=cB hz;subst hz;simp only[cM,arJ]at e;obtain⟨hok,rfl⟩:=e;obtain⟨q1,q2,_,_⟩:=yX hok;obtain⟨A,len,cap,e1,e2,e3,e4⟩:=R;simp only[asH,asY]at e1;subst e1;subst e2;refine⟨_,main A _ cap hok e3,?_⟩;rw[ajS];refine⟨_,_,_,rfl,by simp;omega,atO,fun hne=>?_⟩;have hpos:gg l<gH r L.length:=by
    rcases arm (gg l) (gH r L.length)with q|q
    .exact q
    .rw[show gH r L.length-gg l=0 by omega,arR]at hne;exact absurd rfl hne
   have hL:L≠[]:=by rintro rfl;simp only[IT]at q1 q2 hpos;omega
   obtain⟨b,o,Y,rfl,p2,p3,c,ty,fr,p4,p5⟩:=e4 hL;refine⟨b,o+gg l*τ.size,(Y.drop (gg l*τ.size)).take ((gH r L.length-gg l)*τ.size),TD _ _ 0 _ _ _ atO,p2,bK.take (fun x c=>Cs.length) _ (bK.drop (fun x c=>Cs.length) _ p3),c,ty,fr,p4,?_⟩;intro j v hv;rw[atk]at hv;split at hv
   .rw[atl]at hv;have:=p5 _ _ hv;rw[asp];exact this
   .cases hv
  .simp only[cM,arJ]at e;obtain⟨hok,rfl⟩:=e;obtain⟨q1,q2,_,_⟩:=yX hok;rw[show U=_ from R];refine⟨_,main none 0 0 hok (rt _),?_⟩;show _=_;have:gH r 0=0:=atO
   simp[this]
 .rename_i hu;have hru:=run_underlying hu w;split at e<;>try cases e
  rename_i x;simp only[cM,arJ]at e;obtain⟨hok,rfl⟩:=e;rw[show U=_ from R];refine⟨_,?_,rfl⟩;simp only[Instr.sliceAt,Instr.slice,Sem.run_bind,hru,Result.andThen_ok,Option.isSome_none,asz,if_false,Sem.run_pure];simp only[Zlf hr h1 h2 hok (rt _) false w,Result.andThen_ok,Sem.run_pure]
 .cases e
def ur(place:Nat->Option (Nat×Nat)):List AV->List (Nat×AV)->Option (List AV)
 |cells,[]=>some cells|cells,(i,v)::rest=>match place i with|none=>none|some (off,size)=>match Nat.beq (jt v).length size,Nat.ble (off+size) cells.length with|true,true=>ur place (takeN off cells++(jt v++jm (off+size) cells)) rest|_,_=>none
def EP(X:Cx):List (Nat×AV)->List (Nat×Value)->Prop
 |[],ps=>ps=[]|x::l,ps=>∃V r,ps=(x.1,V)::r/\Rel X x.2 V/\EP X l r
theorem Jy{X:Cx}(place:Nat->Option (Nat×Nat)):∀(parts:List (Nat×AV)) (ps:List (Nat×Value)) (cells r:List AV) (cs:pi),ur place cells parts=some r->EP X parts ps->bT X cells cs ->
  ∃rs,Instr.fill place cs.toArray ps=some rs.toArray/\bT X r rs
 |[],ps,cells,r,cs,h,hp,hc=>by simp[ur]at h;subst h;rw[show ps=[]from hp];exact⟨cs,rfl,hc⟩|(i,v)::rest,ps,cells,r,cs,h,hp,hc=>by
  obtain⟨V,qs,rfl,hv,hq⟩:=hp;simp only[ur]at h;cases hpl:place i<;>simp only[hpl]at h
  .cases h
  rename_i q;obtain⟨off,size⟩:=q;simp only[]at h;cases h1:Nat.beq (jt v).length size<;>cases h2:Nat.ble (off+size) cells.length<;>simp only[h1,h2]at h<;>first|cases h|skip
  have h1:=cB h1;have h2:=adc h2;have hvl:=mR hv;have hl:V.cells.size=size:=by rw[<-ass,hvl.length,h1]
  have hcl:=hc.length;rw[lH,lI]at h;obtain⟨rs,q1,q2⟩:=Jy place rest qs _ r (cs.take off++(V.cells.toList++cs.drop (off+size))) h hq ((hc.take off).append (hvl.append (hc.drop (off+size))));refine⟨rs,?_,q2⟩;simp only[Instr.fill,hpl];rw[BT (by simp[hl];omega),<-q1];congr 1;apply asm.1;have hz:V.cells.zipIdx.foldl (fun cs (x:Value×Nat)=>cs.setIfInBounds (off+x.2) x.1) cs.toArray
    = (V.cells.toList.zipIdx 0).foldl (fun cs (x:Value×Nat)=>cs.setIfInBounds (off+x.2) x.1) cs.toArray:=by
   rw[<-Array.foldl_toList];simp
  have:=Tl off V.cells.toList 0 cs.toArray (by simp[hl];omega);rw[hz,this];simp[hl]
def qm(T:Tr AV):List (Nat×Operand)->Option (List (Nat×AV))
 |[]=>some []|(i,x)::l=>match dX T x with
  |some v=>match qm T l with|some vs=>some ((i,v)::vs)|none=>none
  |none=>none
theorem Tp{X:Cx}{T:Tr AV}{a:Act}:∀{l:List (Nat×Operand)}{vs:List (Nat×AV)},qm T l=some vs ->
  (∀x∈l.map (·.2),∀u,dX T x=some u->Rel X u (a.eval x))->EP X vs (l.map fun x=>(x.1,a.eval x.2))
 |[],vs,h,_=>by simp[qm]at h;subst h;rfl|(i,x)::l,vs,h,hr=>by
  simp only[qm]at h;cases hv:dX T x<;>simp only[hv]at h
  .cases h
  cases hl:qm T l<;>simp only[hl]at h
  .cases h
  simp at h;subst h;exact⟨_,_,rfl,hr x atQ _ hv,Tp hl (fun y hy=>hr y (by grind))⟩
def Te(P:Program)(t:TypeId)(parts:List (Nat×AV)):Option AV:=match P.underlying t with
 |some (.struct fields)=>match nE P t,places P fields.toList with
  |some z,some ps=>match ur (fun i=>nth ps i) (jt z) parts with|some r=>some (.agg r)|none=>none
  |_,_=>none
 |some (.array _ elem)=>match nE P t,gD P elem with
  |some z,some sz=>match ur (fun i=>some (i*sz,sz)) (jt z) parts with|some r=>some (.agg r)|none=>none
  |_,_=>none
 |_=>none
theorem Zsz{P:Program}{t:TypeId}{parts:List (Nat×AV)}{v:AV}(e:Te P t parts=some v){X:Cx}(w:World)(ps:Array (Nat×Value))(hp:EP X parts ps.toList) :
  ∃V,(Instr.build t ps).run P w=.ok V w/\Rel X v V:=by
 unfold Te at e;split at e
 .rename_i fields hu;split at e<;>try cases e
  rename_i z q hz hq;split at e<;>try cases e
  rename_i r hr;obtain⟨Z,hZ,RZ⟩:=rn hz X w;obtain⟨rs,f1,f2⟩:=Jy _ _ _ _ _ _ hr hp (mR RZ);have hfun:(fun i=>(q.toArray:Array (Nat×Nat))[i]?)=fun i=>nth q i:=by funext i;rw[fc];simp
  refine⟨.agg rs.toArray,?_,rs,rfl,f2⟩;rw[asZ]at f1;simp only[Instr.build,Sem.run_bind,hZ,Result.andThen_ok,run_underlying hu,ta hq,Sem.run_pure];rw[hfun,f1];simp
 .rename_i k elem hu;split at e<;>try cases e
  rename_i z sz hz hs;split at e<;>try cases e
  rename_i r hr;obtain⟨Z,hZ,RZ⟩:=rn hz X w;obtain⟨rs,f1,f2⟩:=Jy _ _ _ _ _ _ hr hp (mR RZ);refine⟨.agg rs.toArray,?_,rs,rfl,f2⟩;rw[asZ]at f1;simp only[Instr.build,Sem.run_bind,hZ,Result.andThen_ok,run_underlying hu,run_sizeOf hs,Sem.run_pure];rw[f1];simp
 .cases e
def v7(P:Program)(h:Hp)(ts:Array TypeId)(u:AV):Option AV:=match nth ts.toList 0 with
 |some t=>match P.underlying t with
  |some (.slice _)=>match lenOf h u with|some n=>some (.int .i64 (n:Int))|none=>none
  |some .string=>match u with|.str x=>some (.int .i64 (x.size:Int))|_=>none
  |some (.array n _)=>some (.int .i64 (n:Int))|_=>none
 |none=>none
theorem an1{P:Program}{ts:Array TypeId}{u v:AV}{X:Cx}(H:aV X)(e:v7 P X.h ts u=some v){U:Value}(R:Rel X u U)(ty:TypeId)(w:World) :
  ∃V,(Builtin.len_ ts ty #[U]).run P w=.ok V w/\Rel X v V:=by
 unfold v7 at e;split at e<;>try cases e
 rename_i t ht;have ht:ts[0]?=some t:=by rw[fc]at ht;simpa using ht
 split at e
 .rename_i hu;split at e<;>try cases e
  rename_i n hn;obtain⟨A,c,rfl,_⟩:=aad H hn R;exact⟨_,by simp[Builtin.len_,ht,run_underlying hu,goInt],rfl⟩
 .rename_i hu;split at e<;>try cases e
  rw[show U=_ from R];exact⟨_,by simp[Builtin.len_,ht,run_underlying hu,goInt],rfl⟩
 .rename_i hu;cases e;exact⟨_,by simp[Builtin.len_,ht,run_underlying hu,goInt],rfl⟩
 .cases e
def zJ(k:IntKind):Int->List AV->Option Int
 |a,[]=>some a|a,v::l=>match v with|.int _ b=>zJ k (ed (decide (b > a)) b a) l|_=>none
def zK(k:IntKind):Int->List AV->Option Int
 |a,[]=>some a|a,v::l=>match v with|.int _ b=>zK k (ed (decide (b<a)) b a) l|_=>none
open Go.Proofs.YtmkbdfidnfmgmaaGreat.Ev (Tr Tr.dp nth fc takeN jm lH lI cS iU lY run_underlying run_typeInfo run_sizeOf gD ji places ta lJ qY pj nD)
mutual
theorem JJ{h:Hp}:∀{σ:Sh}{l:List AV}{d:σ.T}{r:List AV}{h':Hp},fX false h σ l=some (d,r,h')->h'=h
 |.int k,l,d,r,h',e=>by
  simp only[fX]at e;split at e<;>try cases e
  split at e<;>cases e;rfl
 |.bool,l,d,r,h',e=>by simp only[fX]at e;split at e<;>cases e;rfl
 |.str,l,d,r,h',e=>by simp only[fX]at e;split at e<;>cases e;rfl
 |.agg ss,l,d,r,h',e=>aaj (ss:=ss) e|.sl s,l,d,r,h',e=>by
  simp only[fX]at e;split at e<;>try cases e
  .rfl
  .split at e<;>cases e;rfl
  .split at e<;>try cases e
   split at e<;>first|(cases e;done)|(rename_i q _;cases q)
  .split at e<;>try cases e
   split at e<;>first|(cases e;done)|(rename_i q _;cases q)
theorem aaj{h:Hp}:∀{ss:List Sh}{l:List AV}{d:TL ss}{r:List AV}{h':Hp},mj false h ss l=some (d,r,h')->h'=h
 |[],l,d,r,h',e=>by simp only[mj,cM,arJ]at e;cases e;rfl
 |s::ss,l,d,r,h',e=>by
  simp only[mj]at e;split at e<;>try cases e
  rename_i auN avI h₁ auQ;split at e<;>try cases e
  rename_i auO avJ h₂ auR;rw[aaj auR,JJ auQ]
end
def Tc(h:Hp)(b off:Nat)(vs:List AV):Option Hp:=match h.tr.get b with
 |some (.cells l ty)=>match Nat.ble (off+vs.length) l.length,sV vs with
  |true,true=>match Tr.set FT h.tr b (some (.cells (takeN off l++(vs++jm (off+vs.length) l)) ty))with|some tr=>some ⟨tr,h.next⟩|none=>none
  |_,_=>none
 |_=>none
theorem Zn0{P:Program}{X:Cx}(H:aV X){h':Hp}{b x c off:Nat}{vs:List AV}{Vs:pi}(e:Tc X.h b off vs=some h')(hs:X.s b=some (.at x c))(R:bT X vs Vs) :
  ∃w',(storeCells ⟨x,off,none⟩ Vs).run P X.w=.ok () w'/\aV ⟨X.s,h',w',X.A⟩/\bh X ⟨X.s,h',w',X.A⟩:=by
 unfold Tc at e;split at e<;>try cases e
 rename_i l ty hb;split at e<;>try cases e
 rename_i hl ho;split at e<;>try cases e
 rename_i tr ht;have hl:=adc hl;obtain⟨x',c',cs,e1,e2,e3⟩:=H.obj b _ _ hb hs;cases e1;have hL:=e3.length;have hV:=R.length;obtain⟨d,hd,hr⟩:=nD (P:=P) (off:=off) Vs 0 X.w _ e2 (by simp;omega) (JO ho R);have hd:d=(cs.take off++(Vs++cs.drop (off+Vs.length))).toArray:=by grind
 subst hd;have E:=bh.put (ob:=.cells (cs.take off++(Vs++cs.drop (off+Vs.length))).toArray ty (0,0)) H hb hs (by intro n q;cases q) ht;refine⟨_,hr,H.put hb hs (by intro n q;cases q) ht ⟨x,c,_,rfl,by show(cS X.w x _).heap[x]?=_;rw[iU,IO ⟨rfl,ka e2⟩],?_⟩,E⟩;have R':=(e3.take off).append (R.append (e3.drop (off+vs.length)));rw[lH,lI,<-hV]at *
 exact R'.ext (E.fG H)
def Om(h:Hp)(b i z o:Nat)(vs:List AV):Option Hp:=match h.tr.get b with
 |some (.arr τ L ty)=>match Nat.beq z τ.size,Nat.ble (o+vs.length) z,sV vs,fX true h τ (takeN o (pq τ (L.getD i τ.zero))++(vs++jm (o+vs.length) (pq τ (L.getD i τ.zero))))with
  |true,true,true,some (x,[],h₁)=>match h₁.tr.get b with
   |some _=>match Tr.set FT h₁.tr b (some (.arr τ (L.set i x) ty))with|some tr=>some ⟨tr,h₁.next⟩|none=>none
   |none=>none
  |_,_,_,_=>none
 |_=>none
theorem ano{P:Program}{X:Cx}(H:aV X){h':Hp}{b x c i z o:Nat}{vs:List AV}{Vs:pi}(e:Om X.h b i z o vs=some h')(hs:X.s b=some (.at x c))
  (hi:∀n,rowOf X.h.tr b=some n->i<n) (R:bT X vs Vs) :
  ∃w',(storeCells ⟨x,i*z+o,none⟩ Vs).run P X.w=.ok () w'/\aV ⟨X.s,h',w',X.A⟩/\bh X ⟨X.s,h',w',X.A⟩:=by
 unfold Om at e;split at e<;>try cases e
 rename_i τ L ty hb;split at e<;>try cases e
 rename_i y h₁ hz hle ho hf;split at e<;>try cases e
 rename_i avE auX;split at e<;>try cases e
 rename_i tr ht;have hz:=cB hz;subst hz;have hle:=adc hle;have hi:=hi _ (je hb);obtain⟨cs,tail,q1,q2,q3,q4⟩:=H.obj b _ _ hb hs;have hget:L[i]?=some L[i]:=ba hi;obtain⟨d,p1,p2⟩:=bK.get (fun x c=>Cs.length) q2 hget;have hd:=Cs.length p1;have hcs:=bK.length (fun x c=>Cs.length) q2;have hiz:i*τ.size+τ.size<=cs.length:=by rw[hcs];have:=arP τ.size (show i+1<=L.length by omega);rw[asc]at this;omega
 have hV:=R.length;have RD:bT X (pq τ (L.getD i τ.zero)) d:=by rw[eu,hget];exact xj p1
 have Rn:=(RD.take o).append (R.append (RD.drop (o+vs.length)));rw[<-lH,<-lI]at Rn;obtain⟨F,auL,avI,k1,k2,k3⟩:=tu H hf Rn;have avk:avI=[]:=k3;subst avk;rw[d6]at k1;have auY:h₁.tr.get b=some (.arr τ L ty):=by have:=F.sub b _ auX;rw[hb]at this;rw[auX,<-this]
 obtain⟨e',he',hrun⟩:=nD (P:=P) (off:=i*τ.size+o) Vs 0 X.w _ q1 (by simp;omega) (JO ho R);have hdd:d=(cs.drop (i*τ.size)).take τ.size:=by
  apply arW;intro j;rw[atk];split
  .rename_i hj;rw[atl];exact(p2 j hj).symm
  .rw[abs atO]
 have hsplit:cs=cs.take (i*τ.size)++(d++cs.drop (i*τ.size+τ.size)):=by rw[hdd,<-atx,LT,LT]
 have hal:(cs.take (i*τ.size)).length=i*τ.size:=by simp;omega
 have hlist:e'=(cs.take (i*τ.size)++auL++cs.drop (i*τ.size+τ.size)++tail).toArray:=by
  apply asm.1;rw[he',<-k1];simp only[asF];generalize cs.take (i*τ.size)=A at hsplit hal |-;generalize cs.drop (i*τ.size+τ.size)=B at hsplit |-;subst hsplit;have t1:(A++(d++B)++tail).take (i*τ.size+o)=A++d.take o:=by rw[<-hal,bB,asy,bB,asr atO]
  have t2:(A++(d++B)++tail).drop (i*τ.size+o+Vs.length)=d.drop (o+vs.length)++(B++tail):=by rw[<-hal,asp,bB,ask,bB,hV,List.drop_append_of_le_length atO]
  rw[t1,t2];simp
 subst hlist;have E:=bh.put (X:=⟨X.s,h₁,X.w,X.A⟩) (ob:=.cells (cs.take (i*τ.size)++auL++cs.drop (i*τ.size+τ.size)++tail).toArray ty (0,0)) F.H auY hs (by intro n q;simpa[bC.row]using q) ht;refine⟨_,hrun,aV.put (X:=⟨X.s,h₁,X.w,X.A⟩) F.H auY hs (by intro n q;simpa[bC.row]using q) ht ?_,F.E.trans E⟩;have K:=E.keeps;refine⟨cs.take (i*τ.size)++auL++cs.drop (i*τ.size+τ.size),tail,?_,?_,?_,by simpa using q4⟩
 .show(cS X.w x _).heap[x]?=_;rw[iU,IO ⟨rfl,ka q1⟩]
 .have s1:bK (Cs X.w (Cx.out ⟨X.s,h₁,X.w,X.A⟩) τ) L cs:=q2.mono (fun x c q=>q.bn F.E.keeps);have s2:bK (Cs X.w (Cx.out ⟨X.s,h₁,X.w,X.A⟩) τ) (L.set i y) (cs.take (i*τ.size)++auL++cs.drop (i*τ.size+τ.size)):=bK.set (fun x c=>Cs.length) s1 hi k2;exact s2.mono (fun x c q=>q.bn K)
 .have:=Cs.length k2;simp only[bU,fx,asl,this];omega
def Zv:Sh->Bool
 |.sl _=>true|.agg l=>hasSlL l|_=>false
where hasSlL:List Sh->Bool
 |[]=>false|s::l=>match Zv s with|true=>true|false=>hasSlL l
def Ri:List AV->Bool
 |[]=>false|.hd _ τ::l=>match Zv τ with|true=>true|false=>Ri l
 |_::l=>Ri l
def Hc(h:Hp)(b i z o:Nat)(vs:List AV):Option (Bool×Hp):=match h.tr.get b with
 |some (.arr τ L ty)=>match Nat.beq z τ.size,Nat.ble (o+vs.length) z,sV vs with
  |true,true,true=>match Tr.set FT h.tr b (some (.fA τ i L (takeN o (pq τ (L.getD i τ.zero))++(vs++jm (o+vs.length) (pq τ (L.getD i τ.zero)))) ty))with|some tr=>some (true,⟨tr,h.next⟩)|none=>none
  |_,_,_=>none
 |some (.fA τ k L us ty)=>match Nat.beq z τ.size,Nat.ble (o+vs.length) z,sV vs with
  |true,true,true=>match Tr.set FT h.tr b (some (.fA τ k L (takeN o us++(vs++jm (o+vs.length) us)) ty))with|some tr=>some (Nat.beq i k,⟨tr,h.next⟩)|none=>none
  |_,_,_=>none
 |_=>none
theorem aew{P:Program}{X:Cx}(H:aV X){b x c i o:Nat}{ob:bC}{τ:Sh}{L:List τ.T}{us vs:List AV}{ty:TypeId}{Vs:pi}{tr:Tr bC}(hb:X.h.tr.get b=some ob)(hrow:ob.row=some L.length)(hs:X.s b=some (.at x c))
  {pre mid post tail:pi}(q1:X.w.heap[x]?=some (.cells (List.toArray (pre++(mid++(post++tail)))) ty (0,0))) (q2:bK (Cs X.w X.out τ) (L.take i) pre) (q3:bT X us mid) (q4:bK (Cs X.w X.out τ) (L.drop (i+1)) post)
  (hi:i<L.length) (hm:mid.length=τ.size) (hsum:pre.length+(mid.length+(post.length+tail.length))=c*τ.size) (hc:L.length<=c) (hle:o+vs.length<=τ.size) (ho:sV vs=true) (R:bT X vs Vs)
  (ht:Tr.set FT X.h.tr b (some (.fA τ i L (takeN o us++(vs++jm (o+vs.length) us)) ty))=some tr) :
  ∃w',(storeCells ⟨x,i*τ.size+o,none⟩ Vs).run P X.w=.ok () w'/\aV ⟨X.s,⟨tr,X.h.next⟩,w',X.A⟩/\bh X ⟨X.s,⟨tr,X.h.next⟩,w',X.A⟩:=by
 have hV:=R.length;have hpre:pre.length=i*τ.size:=by rw[bK.length (fun x c=>Cs.length) q2,fx,asx atO]
 obtain⟨e',he',hrun⟩:=nD (P:=P) (off:=i*τ.size+o) Vs 0 X.w _ q1 (by simp;omega) (JO ho R);have hlist:e'=(pre++((mid.take o++(Vs++mid.drop (o+vs.length)))++(post++tail))).toArray:=by apply asm.1;rw[he'];simp only[asF];rw[<-hpre,<-hV,asy,asp,ask,asr atO,List.drop_append_of_le_length atO];simp
 subst hlist;have hrw:∀n,(bC.fA τ i L (takeN o us++(vs++jm (o+vs.length) us)) ty).row=some n->ob.row=some n:=by intro n q;rw[hrow];exact q
 have E:=bh.put (ob:=.cells (pre++((mid.take o++(Vs++mid.drop (o+vs.length)))++(post++tail))).toArray ty (0,0)) H hb hs hrw ht;have K:=E.keeps;refine⟨_,hrun,aV.put H hb hs hrw ht ?_,E⟩;refine⟨x,c,pre,mid.take o++(Vs++mid.drop (o+vs.length)),post,tail,rfl,?_,q2.mono (fun x d q=>q.bn K),?_,q4.mono (fun x d q=>q.bn K),hi,?_,?_,hc⟩
 .show(cS X.w x _).heap[x]?=_;rw[iU,IO ⟨rfl,ka q1⟩]
 .have R':=(q3.take o).append (R.append (q3.drop (o+vs.length)));rw[lH,lI];exact R'.ext (E.fG H)
 .simp only[bU,fx,asl];omega
 grind
theorem aez{P:Program}{X:Cx}(H:aV X){h':Hp}{b x c i z o:Nat}{g:Bool}{vs:List AV}{Vs:pi}(e:Hc X.h b i z o vs=some (g,h'))(hg:g=true)(hs:X.s b=some (.at x c))
  (hi:∀n,rowOf X.h.tr b=some n->i<n) (R:bT X vs Vs) :
  ∃w',(storeCells ⟨x,i*z+o,none⟩ Vs).run P X.w=.ok () w'/\aV ⟨X.s,h',w',X.A⟩/\bh X ⟨X.s,h',w',X.A⟩:=by
 subst hg;unfold Hc at e;split at e<;>try cases e
 .rename_i τ L ty hb;split at e<;>try cases e
  rename_i hz hle ho;split at e<;>cases e;rename_i tr ht;have hz:=cB hz;subst hz;have hle:=adc hle;have hi:=hi _ (je hb);obtain⟨cs,tail,q1,q2,q3,q4⟩:=H.obj b _ _ hb hs;have hget:L[i]?=some L[i]:=ba hi;obtain⟨d,p1,p2⟩:=bK.get (fun x c=>Cs.length) q2 hget;have hd:=Cs.length p1;have hcs:=bK.length (fun x c=>Cs.length) q2;have hiz:i*τ.size+τ.size<=cs.length:=by rw[hcs];have:=arP τ.size (show i+1<=L.length by omega);rw[asc]at this;omega
  have RD:bT X (pq τ (L.getD i τ.zero)) d:=by rw[eu,hget];exact xj p1
  have hdd:d=(cs.drop (i*τ.size)).take τ.size:=by
   apply arW
   grind
  have hsplit:cs++tail=cs.take (i*τ.size)++(d++(cs.drop ((i+1)*τ.size)++tail)):=by rw[hdd,asc,Nat.one_mul,<-bB,<-bB,<-atx,bB (cs.take _),LT,LT]
  rw[hsplit]at q1;refine aew H hb rfl hs q1 (bK.take (fun x c=>Cs.length) i q2) RD (bK.drop (fun x c=>Cs.length) (i+1) q2) hi hd ?_ q4 hle ho R ht
  grind
 .rename_i τ k L us ty hb;split at e<;>try cases e
  rename_i hz hle ho;split at e<;>try cases e
  rename_i tr ht;simp only[cM,arJ]at e;obtain⟨hik,rfl⟩:=e;have hik:=cB hik;subst hik;have hz:=cB hz;subst hz;have hle:=adc hle;obtain⟨x',c',pre,mid,post,tail,e1,q1,q2,q3,q4,q5,q6,q7,q8⟩:=H.obj b _ _ hb hs;cases e1;exact aew H hb rfl hs q1 q2 q3 q4 q5 q6 q7 q8 hle ho R ht
def Nv(h:Hp)(b i z o:Nat)(vs:List AV):Option (Bool×Hp):=match h.tr.get b with|some (.fA _ _ _ _ _)=>Hc h b i z o vs|_=>match Ri vs with|true=>Hc h b i z o vs|false=>match Om h b i z o vs with|some h'=>some (true,h')|none=>none
theorem aro{P:Program}{X:Cx}(H:aV X){h':Hp}{b x c i z o:Nat}{g:Bool}{vs:List AV}{Vs:pi}(e:Nv X.h b i z o vs=some (g,h'))(hg:g=true)(hs:X.s b=some (.at x c))
  (hi:∀n,rowOf X.h.tr b=some n->i<n) (R:bT X vs Vs) :
  ∃w',(storeCells ⟨x,i*z+o,none⟩ Vs).run P X.w=.ok () w'/\aV ⟨X.s,h',w',X.A⟩/\bh X ⟨X.s,h',w',X.A⟩:=by
 unfold Nv at e;split at e
 .exact aez H e hg hs hi R
 .split at e
  .exact aez H e hg hs hi R
  .split at e<;>cases e;rename_i hp;exact ano H hp hs hi R
