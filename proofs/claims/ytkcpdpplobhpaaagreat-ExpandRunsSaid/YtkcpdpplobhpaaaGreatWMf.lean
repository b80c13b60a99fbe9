import Derived.Test.YtkcpdpplobhpaaaGreatWMe
import Derived.Test.YtkcpdpplobhpaaaGreatWBs
set_option linter.unusedVariables false
set_option linter.unusedSimpArgs false
set_option linter.unnecessarySimpa false
section
namespace Go.Proofs.YtkcpdpplobhpaaaGreat.V
open Go Go.RowKit
open Go.Proofs.YtkcpdpplobhpaaaGreat.Ev (Tr Tr.cI nth dI Ex)
theorem ahP{X:Cx}(H:aF X){j f b c:Nat}{o:bu}{vs':List AV}{ty:TypeId}{tr:Tr bu}{cs:List Value}(hj:X.h.tr.get j=some o)(ho:∀τ L ty,o≠.arr τ L ty)(hs:X.s j=some (.at b c))(hw:X.w.heap[b]?=some (.cells (List.toArray cs) ty (0,0)))
  (hv:bB X vs' cs) (ht:Tr.set f X.h.tr j (some (.cells vs' ty))=some tr):aF ⟨X.s,⟨tr,X.h.next⟩,X.w,X.A⟩/\aO X ⟨X.s,⟨tr,X.h.next⟩,X.w,X.A⟩:=by
 have hg:=Tr.cI _ _ _ _ _ ht;have back:∀i o,tr.get i=some o->∃o',X.h.tr.get i=some o'/\(∀n,o.row=some n->o'.row=some n):=by
  intro i o h;rw[hg i]at h;by_cases q:i=j
  .rw[if_pos q]at h;cases h;subst q;exact⟨_,hj,fun n r=>by cases r⟩
  .rw[if_neg q]at h;exact⟨o,h,fun _ r=>r⟩
 have bO:∀b,Cx.bO ⟨X.s,⟨tr,X.h.next⟩,X.w,X.A⟩ b->X.bO b:=by rintro b ⟨i,o,c,h1,h2⟩;obtain⟨o',h3,_⟩:=back i o h1;exact⟨i,o',c,h3,h2⟩
 have E:aO X ⟨X.s,⟨tr,X.h.next⟩,X.w,X.A⟩:=by
  refine⟨rfl,rfl,rfl,aS _,fun _ _ h=>h,fun _ _ _ h=>h,aS _,fun _ _ _=>rfl,fun b h=>.inl (bO b h),?_,?_,rfl⟩
  .intro i n _ h;obtain⟨o,h,hr⟩:=ki h;obtain⟨o',h1,h2⟩:=back i _ h;show rowOf X.h.tr i=some n;rw[jI h1];exact h2 n hr
  .intro i _ hn;show tr.get i=_;rw[hg i,if_neg (by rintro rfl;rw[hs]at hn;cases hn)]
 have RE:=E.eS H;refine⟨⟨?_,?_,?_,H.di,H.alt,?_⟩,E⟩
 .intro i o l h1 h2
  replace h1:tr.get i=some o:=h1
  rw[hg i]at h1;by_cases q:i=j
  .rw[if_pos q]at h1;cases h1;subst q
   replace h2:X.s i=some l:=h2
   rw[hs]at h2;cases h2;exact⟨b,c,cs,rfl,hw,hv.ext RE⟩
  .rw[if_neg q]at h1;exact(H.obj i o l h1 h2).ext RE (fun _ _=>rfl)
 .intro i k o o' c c' b h1 h2 h3 h4 h5 h6;obtain⟨p,g1,_⟩:=back i o h1;obtain⟨q,g2,_⟩:=back k o' h2;exact H.inj i k p q c c' b g1 g2 h3 h4 h5 h6
 .intro i o h1;obtain⟨p,g1,_⟩:=back i o h1;exact H.lt i p g1
 .intro i o c b h1 h2;obtain⟨p,g1,_⟩:=back i o h1;exact H.loc i p c b g1 h2
theorem aiy{X:Cx}(H:aF X){j f:Nat}{l:Loc}{o o':bu}{tr:Tr bu}(hj:X.h.tr.get j=some o)(hrow:∀n,o'.row=some n->o.row=some n)(hs:X.s j=some l)(ho:jc X l o')(ht:Tr.set f X.h.tr j (some o')=some tr) :
  aF ⟨X.s,⟨tr,X.h.next⟩,X.w,X.A⟩/\aO X ⟨X.s,⟨tr,X.h.next⟩,X.w,X.A⟩:=by
 have hg:=Tr.cI _ _ _ _ _ ht;have back:∀i o₁,tr.get i=some o₁->∃o₂,X.h.tr.get i=some o₂/\(∀n,o₁.row=some n->o₂.row=some n):=by
  intro i o₁ h;rw[hg i]at h;by_cases q:i=j
  .rw[if_pos q]at h;cases h;subst q;exact⟨_,hj,hrow⟩
  .rw[if_neg q]at h;exact⟨o₁,h,fun _ r=>r⟩
 have E:aO X ⟨X.s,⟨tr,X.h.next⟩,X.w,X.A⟩:=by
  refine⟨rfl,rfl,rfl,aS _,fun _ _ h=>h,fun _ _ _ h=>h,aS _,fun _ _ _=>rfl,?_,?_,?_,rfl⟩
  .rintro b ⟨i,o₁,c,h1,h2⟩;obtain⟨o₂,h3,_⟩:=back i o₁ h1;exact .inl ⟨i,o₂,c,h3,h2⟩
  .intro i n _ h;obtain⟨o₁,h,hr⟩:=ki h;obtain⟨o₂,h1,h2⟩:=back i _ h;show rowOf X.h.tr i=some n;rw[jI h1];exact h2 n hr
  .intro i _ hn;show tr.get i=_;rw[hg i,if_neg (by rintro rfl;rw[hs]at hn;cases hn)]
 have RE:=E.eS H;refine⟨⟨?_,?_,?_,H.di,H.alt,?_⟩,E⟩
 .intro i o₁ l₁ h1 h2
  replace h1:tr.get i=some o₁:=h1
  rw[hg i]at h1;by_cases q:i=j
  .rw[if_pos q]at h1;cases h1;subst q
   replace h2:X.s i=some l₁:=h2
   rw[hs]at h2;cases h2;exact ho.ext RE (fun _ _=>rfl)
  .rw[if_neg q]at h1;exact(H.obj i o₁ l₁ h1 h2).ext RE (fun _ _=>rfl)
 .intro i k o₁ o₂ c c' b h1 h2 h3 h4 h5 h6;obtain⟨p,g1,_⟩:=back i o₁ h1;obtain⟨q,g2,_⟩:=back k o₂ h2;exact H.inj i k p q c c' b g1 g2 h3 h4 h5 h6
 .intro i o₁ h1;obtain⟨p,g1,_⟩:=back i o₁ h1;exact H.lt i p g1
 .intro i o₁ c b h1 h2;obtain⟨p,g1,_⟩:=back i o₁ h1;exact H.loc i p c b g1 h2
def N7(h:Hp)(b:Nat):Option Hp:=match h.tr.get b with
 |some (.dV τ i L vs ty)=>match fi true h τ vs with
  |some (x,l,h₁)=>match l,h₁.tr.get b with
   |[],some _=>match Tr.set FT h₁.tr b (some (.arr τ (L.set i x) ty))with|some tr=>some ⟨tr,h₁.next⟩|none=>none
   |_,_=>none
  |none=>none
 |_=>some h
theorem anT{X:Cx}(H:aF X){b:Nat}{l:Loc}{h':Hp}(e:N7 X.h b=some h')(hs:X.s b=some l):aF ⟨X.s,h',X.w,X.A⟩/\aO X ⟨X.s,h',X.w,X.A⟩:=by
 unfold N7 at e;split at e
 .rename_i τ i L vs ty hb;split at e<;>try cases e
  rename_i x r h₁ hf;split at e<;>try cases e
  rename_i ob hob;split at e<;>cases e;rename_i tr ht;obtain⟨b₀,c,pre,mid,post,tail,rfl,q1,q2,q3,q4,q5,q6,q7,q8⟩:=H.obj b _ _ hb hs;obtain⟨F,c₁,r₁,k1,k2,k3⟩:=qe H hf q3;have:r₁=[]:=k3;subst this;rw[dB]at k1;subst k1;have hob':h₁.tr.get b=some (.dV τ i L vs ty):=by have:=F.sub b _ hob;rw[hb]at this;rw[hob,<-this]
  have K:=F.E.keeps;have ho:jc ⟨X.s,h₁,X.w,X.A⟩ (.at b₀ c) (.arr τ (L.set i x) ty):=by refine⟨pre++(mid++post),tail,by rw[q1];simp,?_,by simp only[aU];omega,by simpa using q8⟩;rw[List.set_eq_take_append_cons_drop,if_pos q5];refine(q2.mono (fun x d q=>q.bj K)).append ?_;exact⟨mid,post,rfl,k2,q4.mono (fun x d q=>q.bj K)⟩
  obtain⟨g1,g2⟩:=aiy (X:=⟨X.s,h₁,X.w,X.A⟩) F.H hob' (fun n q=>by simpa[bu.row]using q) hs ho ht;exact⟨g1,F.E.trans g2⟩
 .cases e;exact⟨H,aO.refl X⟩
def pt:List (Nat×LO)->Nat->Option LO
 |[],_=>none|p::l,i=>match Nat.beq p.1 i with|true=>some p.2|false=>pt l i
def Jy(lh:List (Nat×LO))(h:Hp)(i:Nat):AV->Option (AV×Hp)
 |.bk=>match pt lh i with
  |some o=>match o with
   |.arr τ ty=>match Tr.set FT h.tr h.next (some (.arr τ [] ty))with|some t=>some (.hd h.next τ,⟨t,h.next+1⟩)|none=>none
   |_=>none
  |none=>none
 |.hd b τ=>match pt lh i with
  |some o=>match o with
   |.arr _ _=>match N7 h b with|some h'=>some (.hd b τ,h')|none=>none
   |_=>some (.hd b τ,h)
  |none=>some (.hd b τ,h)
 |v=>some (v,h)
def Kq(lh:List (Nat×LO))(h:Hp)(i:Nat):AV->Option (AV×Hp)
 |.bk=>match pt lh i with
  |some o=>match o with
   |.dL ty=>match Tr.set FT h.tr h.next (some (.dL [] ty))with|some t=>some (.dW h.next,⟨t,h.next+1⟩)|none=>none
   |_=>none
  |none=>none
 |v=>some (v,h)
def Jw(h:Hp)(τ:Sh):AV->Option (AV×Hp)
 |.hd b τ'=>match fi true h (.sl τ) [.hd b τ']with
  |some (L,l,h')=>match l with|[]=>some (.fz τ L,h')|_=>none
  |none=>none
 |.vw b τ' o n=>match fi true h (.sl τ) [.vw b τ' o n]with
  |some (L,l,h')=>match l with|[]=>some (.fz τ L,h')|_=>none
  |none=>DL h (.vw b τ' o n)
 |v=>some (v,h)
mutual
def gY(lh:List (Nat×LO))(h:Hp):LA->AV->Option (AV×Hp)
 |.hd i τ,v=>Jy lh h i v|.dW i,v=>Kq lh h i v|.fz τ,v=>Jw h τ v|.func f x c,v=>match v with
  |.func g x' c'=>match oO lh h x x' with
   |some (x',h)=>match oO lh h c c' with|some (c',h)=>some (.func g x' c',h)|none=>none
   |none=>none
  |v=>some (v,h)
 |.agg l,v=>match v with
  |.agg l'=>match oO lh h l l' with|some (l',h)=>some (.agg l',h)|none=>none
  |v=>some (v,h)
 |.cM l,v=>match v with
  |.cM l'=>match oO lh h l l' with|some (l',h)=>some (.cM l',h)|none=>none
  |v=>some (v,h)
 |_,v=>some (v,h)
termination_by structural x=>x
def oO(lh:List (Nat×LO))(h:Hp):List LA->List AV->Option (List AV×Hp)
 |[],vs=>some (vs,h)|a::l,vs=>match vs with
  |[]=>some ([],h)|v::vs=>match gY lh h a v with
   |some (v,h)=>match oO lh h l vs with|some (vs,h)=>some (v::vs,h)|none=>none
   |none=>none
termination_by structural x=>x
end
def dR(X:Cx)(h':Hp)(X':Cx):Prop:=X'.w=X.w/\X'.h=h'/\aF X'/\aO X X'
theorem dR.refl{X:Cx}(H:aF X):dR X X.h X:=⟨rfl,rfl,H,aO.refl X⟩
theorem aj7{lh:List (Nat×LO)}{i:Nat}{v v':AV}{h':Hp}{X:Cx}(H:aF X)(e:Jy lh X.h i v=some (v',h')){V:Value}(R:Rel X v V):∃X',dR X h' X'/\Rel X' v' V:=by
 unfold Jy at e;split at e
 .split at e<;>try cases e
  split at e<;>try cases e
  rename_i τ ty;split at e<;>cases e;rename_i t ht;obtain⟨E,H'⟩:=aF.void H ht;have g0:=Tr.cI _ _ _ _ _ ht;refine⟨⟨bZ X.s X.h.next .nil,⟨t,X.h.next+1⟩,X.w,X.A⟩,⟨rfl,rfl,H',E⟩,.nil,fG _ _ _,?_,?_⟩
  .rw[show V=_ from R];rfl
  .intro n' q
   replace q:rowOf t X.h.next=some n':=q
   rw[jI (by rw[g0,if_pos rfl])]at q;cases q;rw[show V=_ from R];rfl
 .rename_i b τ;split at e
  .split at e
   .split at e<;>cases e;rename_i hc;obtain⟨l,hs,hR⟩:=R;obtain⟨H',E⟩:=anT H hc hs;exact⟨⟨X.s,h',X.w,X.A⟩,⟨rfl,rfl,H',E⟩,Rel.ext (E.eS H) (v:=.hd b τ) ⟨l,hs,hR⟩⟩
   .cases e;exact⟨X,dR.refl H,R⟩
  .cases e;exact⟨X,dR.refl H,R⟩
 .cases e;exact⟨X,dR.refl H,R⟩
theorem ajE{lh:List (Nat×LO)}{i:Nat}{v v':AV}{h':Hp}{X:Cx}(H:aF X)(e:Kq lh X.h i v=some (v',h')){V:Value}(R:Rel X v V):∃X',dR X h' X'/\Rel X' v' V:=by
 unfold Kq at e;split at e
 .split at e<;>try cases e
  split at e<;>try cases e
  rename_i ty;split at e<;>cases e;rename_i t ht;obtain⟨E,H'⟩:=aF.VS H ht (fun _=>rfl);refine⟨⟨bZ X.s X.h.next .nil,⟨t,X.h.next+1⟩,X.w,X.A⟩,⟨rfl,rfl,H',E⟩,.nil,fG _ _ _,?_⟩;rw[show V=_ from R];rfl
 .cases e;exact⟨X,dR.refl H,R⟩
theorem aj8{τ:Sh}{v v':AV}{h':Hp}{X:Cx}(H:aF X)(e:Jw X.h τ v=some (v',h')){V:Value}(R:Rel X v V):∃X',dR X h' X'/\Rel X' v' V:=by
 have main:∀u,Rel X u V->(match fi true X.h (.sl τ) [u]with
  |some (L,l,h')=>match l with|[]=>some (AV.fz τ L,h')|_=>none
  |none=>none)=some (v',h')->∃X',dR X h' X'/\Rel X' v' V:=by
  intro u R e;split at e<;>try cases e
  rename_i L l h₁ hf;split at e<;>cases e;obtain⟨F,c,r,he,h1,h2⟩:=qe H hf (show bB X [u] [V]from⟨V,[],rfl,R,rfl⟩);have:r=[]:=h2;subst this;rw[dB]at he;subst he;exact⟨⟨X.s,h',X.w,X.A⟩,⟨rfl,rfl,F.H,F.E⟩,h1⟩
 unfold Jw at e;split at e
 .exact main _ R e
 .split at e
  .rename_i hf;exact main _ R (by rw[hf];exact e)
  .obtain⟨F,Q⟩:=WJ H e R;exact⟨⟨X.s,h',X.w,X.A⟩,⟨rfl,rfl,F.H,F.E⟩,Q⟩
 .cases e;exact⟨X,dR.refl H,R⟩
theorem dR.trans{X X' X'':Cx}{h' h'':Hp}(a:dR X h' X')(b:dR X' h'' X''):dR X h'' X'':=⟨b.1.trans a.1,b.2.1,b.2.2.1,a.2.2.2.trans b.2.2.2⟩
mutual
theorem Xa{lh:List (Nat×LO)}:∀(a:LA) {v v':AV}{h':Hp}{X:Cx},aF X->gY lh X.h a v=some (v',h')->∀{V:Value},Rel X v V->∃X',dR X h' X'/\Rel X' v' V
 |.hd i τ,v,v',h',X,H,e,V,R=>aj7 H (by simpa only[gY]using e) R|.dW i,v,v',h',X,H,e,V,R=>ajE H (by simpa only[gY]using e) R|.fz τ,v,v',h',X,H,e,V,R=>aj8 H (by simpa only[gY]using e) R|.func f x c,v,v',h',X,H,e,V,R=>by
  simp only[gY]at e;split at e
  .rename_i g x' c';split at e<;>try cases e
   rename_i x₂ h₁ e₁;split at e<;>cases e;rename_i c₂ e₂;obtain⟨xs,cs,rfl,R1,R2⟩:=R;obtain⟨X₁,F₁,Q₁⟩:=ud x H e₁ R1;have hX:=F₁.2.1;rw[<-hX]at e₂;obtain⟨X₂,F₂,Q₂⟩:=ud c F₁.2.2.1 e₂ (R2.ext (F₁.2.2.2.eS H));exact⟨X₂,F₁.trans F₂,xs,cs,rfl,Q₁.ext (F₂.2.2.2.eS F₁.2.2.1),Q₂⟩
  .cases e;exact⟨X,dR.refl H,R⟩
 |.agg l,v,v',h',X,H,e,V,R=>by
  simp only[gY]at e;split at e
  .rename_i l';split at e<;>cases e;rename_i l₂ e₁;obtain⟨cs,rfl,R1⟩:=R;obtain⟨X₁,F₁,Q₁⟩:=ud l H e₁ R1;exact⟨X₁,F₁,cs,rfl,Q₁⟩
  .cases e;exact⟨X,dR.refl H,R⟩
 |.cM l,v,v',h',X,H,e,V,R=>by
  simp only[gY]at e;split at e
  .rename_i l';split at e<;>cases e;rename_i l₂ e₁;obtain⟨cs,rfl,R1⟩:=R;obtain⟨X₁,F₁,Q₁⟩:=ud l H e₁ R1;exact⟨X₁,F₁,cs,rfl,Q₁⟩
  .cases e;exact⟨X,dR.refl H,R⟩
 |.int k,v,v',h',X,H,e,V,R=>by simp only[gY]at e;cases e;exact⟨X,dR.refl H,R⟩
 |.bool,v,v',h',X,H,e,V,R=>by simp only[gY]at e;cases e;exact⟨X,dR.refl H,R⟩
 |.str,v,v',h',X,H,e,V,R=>by simp only[gY]at e;cases e;exact⟨X,dR.refl H,R⟩
 |.ed,v,v',h',X,H,e,V,R=>by simp only[gY]at e;cases e;exact⟨X,dR.refl H,R⟩
 |.bk,v,v',h',X,H,e,V,R=>by simp only[gY]at e;cases e;exact⟨X,dR.refl H,R⟩
 |.fE,v,v',h',X,H,e,V,R=>by simp only[gY]at e;cases e;exact⟨X,dR.refl H,R⟩
 |.fj,v,v',h',X,H,e,V,R=>by simp only[gY]at e;cases e;exact⟨X,dR.refl H,R⟩
 |.fV,v,v',h',X,H,e,V,R=>by simp only[gY]at e;cases e;exact⟨X,dR.refl H,R⟩
 |.jK,v,v',h',X,H,e,V,R=>by simp only[gY]at e;cases e;exact⟨X,dR.refl H,R⟩
 |.ej τ,v,v',h',X,H,e,V,R=>by simp only[gY]at e;cases e;exact⟨X,dR.refl H,R⟩
 |.fX σ o,v,v',h',X,H,e,V,R=>by simp only[gY]at e;cases e;exact⟨X,dR.refl H,R⟩
 |.ptr b o,v,v',h',X,H,e,V,R=>by simp only[gY]at e;cases e;exact⟨X,dR.refl H,R⟩
 |.mp b,v,v',h',X,H,e,V,R=>by simp only[gY]at e;cases e;exact⟨X,dR.refl H,R⟩
 |.dT b z o,v,v',h',X,H,e,V,R=>by simp only[gY]at e;cases e;exact⟨X,dR.refl H,R⟩
 |.rp b,v,v',h',X,H,e,V,R=>by simp only[gY]at e;cases e;exact⟨X,dR.refl H,R⟩
theorem ud{lh:List (Nat×LO)}:∀(l:List LA) {vs vs':List AV}{h':Hp}{X:Cx},aF X->oO lh X.h l vs=some (vs',h')->∀{cs:List Value},bB X vs cs->∃X',dR X h' X'/\bB X' vs' cs
 |[],vs,vs',h',X,H,e,cs,R=>by simp only[oO]at e;cases e;exact⟨X,dR.refl H,R⟩
 |a::l,vs,vs',h',X,H,e,cs,R=>by
  simp only[oO]at e;split at e
  .cases e;exact⟨X,dR.refl H,R⟩
  .rename_i v vs;split at e<;>try cases e
   rename_i v₂ h₁ e₁;split at e<;>cases e;rename_i vs₂ e₂;obtain⟨V,r,rfl,R1,R2⟩:=R;obtain⟨X₁,F₁,Q₁⟩:=Xa a H e₁ R1;have hX:=F₁.2.1;rw[<-hX]at e₂;obtain⟨X₂,F₂,Q₂⟩:=ud l F₁.2.2.1 e₂ (R2.ext (F₁.2.2.2.eS H));exact⟨X₂,F₁.trans F₂,V,r,rfl,Q₁.ext (F₂.2.2.2.eS F₁.2.2.1),Q₂⟩
end
def qY(n:Nat)(lh:List (Nat×LO)):List (Tmp×LA)->St->Option St
 |[],st=>some st|p::l,st=>match st.T.get p.1 with
  |some v=>match gY lh st.h p.2 v with
   |some (v,h)=>match gm n st.T (some p.1) v with|some T=>qY n lh l ⟨T,h⟩|none=>none
   |none=>none
  |none=>qY n lh l st
theorem Be{n:Nat}{lh:List (Nat×LO)}:∀{l:List (Tmp×LA)}{st st':St},qY n lh l st=some st'->∀{X:Cx}{a:Act},RF X n st a->∃X',X'.w=X.w/\RF X' n st' a/\aO X X'
 |[],st,st',e,X,a,R=>by simp only[qY,bV]at e;subst e;exact⟨X,rfl,R,aO.refl X⟩|p::l,st,st',e,X,a,R=>by
  simp only[qY]at e;split at e
  .rename_i v hv;split at e<;>try cases e
   rename_i v₂ h₁ e₁;split at e<;>try cases e
   rename_i T hT;have hX:=R.h;rw[<-hX]at e₁;obtain⟨V,b1,b2⟩:=R.T.get _ _ hv;obtain⟨X₁,⟨w₁,h₁',H₁,E₁⟩,Q₁⟩:=Xa p.2 R.H e₁ b2;have hg:=oY hT;have R₁:RF X₁ n ⟨T,h₁⟩ a:=by
    refine⟨h₁',⟨R.T.size,R.T.defers,?_⟩,H₁⟩;intro x u hu;rw[hg x]at hu;by_cases q:p.1=x
    .subst q;rw[if_pos rfl]at hu;cases hu;exact⟨V,b1,Q₁⟩
    .rw[if_neg (by simpa using q)]at hu;obtain⟨U,c1,c2⟩:=R.T.get _ _ hu;exact⟨U,c1,c2.ext (E₁.eS R.H)⟩
   obtain⟨X₂,w₂,R₂,E₂⟩:=Be e R₁;exact⟨X₂,w₂.trans w₁,R₂,E₁.trans E₂⟩
  .exact Be e R
def Og(lh:List (Nat×LO))(las:List LA)(j:Nat)(h:Hp):Option Hp:=match h.tr.get j with
 |some o=>match o with
  |.cells vs ty=>match oO lh h las vs with
   |some (vs',h')=>match h'.tr.get j with
    |some o'=>match o' with
     |.cells _ _=>match Tr.set FT h'.tr j (some (.cells vs' ty))with|some t=>some ⟨t,h'.next⟩|none=>none
     |_=>none
    |none=>none
   |none=>none
  |_=>none
 |none=>none
theorem agt{lh:List (Nat×LO)}{las:List LA}{j:Nat}{h':Hp}{X:Cx}(H:aF X)(e:Og lh las j X.h=some h')(hr:X.s j≠none):∃X',dR X h' X':=by
 unfold Og at e;split at e<;>try cases e
 rename_i o hj;split at e<;>try cases e
 rename_i vs ty;split at e<;>try cases e
 rename_i vs' h₁ hf;split at e<;>try cases e
 rename_i o₂ ho₂;split at e<;>try cases e
 rename_i vs₂ ty₂;split at e<;>cases e;rename_i t ht;cases hs:X.s j with|none=>exact absurd hs hr|some l=>obtain⟨b,c,cs,rfl,e2,e3⟩:=H.obj j _ l hj hs;obtain⟨X₁,⟨w₁,hh₁,H₁,E₁⟩,Q₁⟩:=ud las H hf e3;have hsn:X₁.s j=some (.at b c):=E₁.sg _ _ hs;rw[<-hh₁]at ho₂ ht;obtain⟨g1,g2⟩:=ahP H₁ ho₂ (fun _ _ _ q=>by cases q) hsn (by rw[w₁];exact e2) Q₁ ht;exact⟨⟨X₁.s,⟨t,X₁.h.next⟩,X₁.w,X₁.A⟩,w₁,by rw[hh₁],g1,E₁.trans g2⟩
def jr(j:Nat):List Nat->Bool
 |[]=>false|i::l=>match Nat.beq i j with|true=>true|false=>jr j l
theorem FQ{j:Nat}:∀{l:List Nat},jr j l=true->j∈l
 |[],h=>by cases h
 |i::l,h=>by
  simp only[jr]at h;split at h
  .rename_i q;rw[bD q];simp
  .exact eK _ (FQ h)
mutual
def gk:AV->List Nat->List Nat
 |.ptr b _,r=>b::r|.hd b _,r=>b::r|.mp b,r=>b::r|.dW b,r=>b::r|.rp b _,r=>b::r|.ra b _,r=>b::r|.func _ x c,r=>lB x (lB c r)|.agg l,r=>lB l r|.cM l,r=>lB l r|_,r=>r
termination_by structural x=>x
def lB:List AV->List Nat->List Nat
 |[],r=>r|v::l,r=>gk v (lB l r)
termination_by structural x=>x
end
mutual
theorem Zyi{X:Cx}:∀(v:AV) {r:List Nat}{V:Value},Rel X v V->(∀j∈r,X.s j≠none)->∀j∈gk v r,X.s j≠none
 |.ptr b o,r,V,⟨x,c,h1,_⟩,hr,j,hj=>by
  simp only[gk,List.mem_cons]at hj;rcases hj with rfl|hj
  .rw[h1];simp
  .exact hr j hj
 |.hd b o,r,V,⟨x,h1,_⟩,hr,j,hj=>by
  simp only[gk,List.mem_cons]at hj;rcases hj with rfl|hj
  .rw[h1];simp
  .exact hr j hj
 |.mp b,r,V,⟨x,c,h1,_⟩,hr,j,hj=>by
  simp only[gk,List.mem_cons]at hj;rcases hj with rfl|hj
  .rw[h1];simp
  .exact hr j hj
 |.dW b,r,V,⟨x,h1,_⟩,hr,j,hj=>by
  simp only[gk,List.mem_cons]at hj;rcases hj with rfl|hj
  .rw[h1];simp
  .exact hr j hj
 |.rp b i,r,V,⟨x,c,m,p,h1,_⟩,hr,j,hj=>by
  simp only[gk,List.mem_cons]at hj;rcases hj with rfl|hj
  .rw[h1];simp
  .exact hr j hj
 |.ra b i,r,V,⟨x,c,m,h1,_⟩,hr,j,hj=>by
  simp only[gk,List.mem_cons]at hj;rcases hj with rfl|hj
  .rw[h1];simp
  .exact hr j hj
 |.func f x c,r,V,⟨xs,cs,_,h1,h2⟩,hr,j,hj=>rB x h1 (rB c h2 hr) j (by simpa only[gk]using hj)|.agg l,r,V,⟨cs,_,h1⟩,hr,j,hj=>rB l h1 hr j (by simpa only[gk]using hj)|.cM l,r,V,⟨cs,_,h1⟩,hr,j,hj=>rB l h1 hr j (by simpa only[gk]using hj)|.bool _,r,V,h,hr,j,hj=>hr j (by simpa only[gk]using hj)|.int _ _,r,V,h,hr,j,hj=>hr j (by simpa only[gk]using hj)|.str _,r,V,h,hr,j,hj=>hr j (by simpa only[gk]using hj)|.ed,r,V,h,hr,j,hj=>hr j (by simpa only[gk]using hj)|.bk,r,V,h,hr,j,hj=>hr j (by simpa only[gk]using hj)|.fE,r,V,h,hr,j,hj=>hr j (by simpa only[gk]using hj)|.fj,r,V,h,hr,j,hj=>hr j (by simpa only[gk]using hj)|.fV,r,V,h,hr,j,hj=>hr j (by simpa only[gk]using hj)|.jK,r,V,h,hr,j,hj=>hr j (by simpa only[gk]using hj)|.dT _ _ _ _,r,V,h,hr,j,hj=>hr j (by simpa only[gk]using hj)|.fX _ _ _,r,V,h,hr,j,hj=>hr j (by simpa only[gk]using hj)|.vw _ _ _ _,r,V,h,hr,j,hj=>hr j (by simpa only[gk]using hj)|.ej _ _ _,r,V,h,hr,j,hj=>hr j (by simpa only[gk]using hj)|.fz _ _,r,V,h,hr,j,hj=>hr j (by simpa only[gk]using hj)
theorem rB{X:Cx}:∀(l:List AV) {r:List Nat}{cs:List Value},bB X l cs->(∀j∈r,X.s j≠none)->∀j∈lB l r,X.s j≠none
 |[],r,cs,h,hr,j,hj=>hr j (by simpa only[lB]using hj)|v::l,r,cs,⟨V,t,_,h1,h2⟩,hr,j,hj=>Zyi v h1 (rB l h2 hr) j (by simpa only[lB]using hj)
end
def cellsOf(h:Hp)(j:Nat):List AV:=match h.tr.get j with
 |some o=>match o with|.cells l _=>l|.dV _ _ _ l _=>l|_=>[]
 |none=>[]
theorem Wx{X:Cx}(H:aF X){j:Nat}(hj:X.s j≠none){r:List Nat}(hr:∀i∈r,X.s i≠none):∀i∈lB (cellsOf X.h j) r,X.s i≠none:=by
 unfold cellsOf;split
 .rename_i o ho;split
  .rename_i l ty;cases hs:X.s j with|none=>exact absurd hs hj|some k=>obtain⟨b,c,cs,rfl,e2,e3⟩:=H.obj j _ k ho hs;exact rB l e3 hr
  .rename_i τ' i' L' l ty;cases hs:X.s j with|none=>exact absurd hs hj|some k=>obtain⟨b,c,pre,mid,post,tail,rfl,e1,e2,e3,_⟩:=H.obj j _ k ho hs;exact rB l e3 hr
  .simpa only[lB]using hr
 .simpa only[lB]using hr
def pI(lh:List (Nat×LO)):List (Nat×Nat)->List Nat->Hp->Option (List Nat×Hp)
 |[],kn,h=>some (kn,h)|p::m,kn,h=>match jr p.1 kn with
  |true=>match pt lh p.2 with
   |some o=>match o with
    |.cells las _=>match Og lh las p.1 h with|some h=>pI lh m (lB (cellsOf h p.1) kn) h|none=>none
    |.dV _ _ _=>pI lh m (lB (cellsOf h p.1) kn) h|_=>pI lh m kn h
   |none=>pI lh m kn h
  |false=>none
theorem vM{lh:List (Nat×LO)}:∀{m:List (Nat×Nat)}{kn kn':List Nat}{h':Hp}{X:Cx},aF X->pI lh m kn X.h=some (kn',h')->(∀j∈kn,X.s j≠none)->∃X',dR X h' X'/\∀j∈kn',X'.s j≠none
 |[],kn,kn',h',X,H,e,hk=>by simp only[pI,bV,Prod.mk.injEq]at e;obtain⟨rfl,rfl⟩:=e;exact⟨X,dR.refl H,hk⟩
 |p::m,kn,kn',h',X,H,e,hk=>by
  simp only[pI]at e;split at e<;>try cases e
  rename_i hm;have hr:=hk _ (FQ hm);split at e
  .split at e
   .split at e<;>try cases e
    rename_i h₁ hB;obtain⟨X₁,F₁⟩:=agt H hB hr;have hk₁:∀j∈kn,X₁.s j≠none:=fun j hj q=>by cases r:X.s j with|none=>exact hk j hj r|some l=>rw[F₁.2.2.2.sg _ _ r]at q;cases q
    have hr₁:X₁.s p.1≠none:=hk₁ _ (FQ hm);have hX:=F₁.2.1;rw[<-hX]at e;obtain⟨X₂,F₂,hk₂⟩:=vM F₁.2.2.1 e (Wx F₁.2.2.1 hr₁ hk₁);exact⟨X₂,F₁.trans F₂,hk₂⟩
   .exact vM H e (Wx H hr hk)
   .exact vM H e hk
  .exact vM H e hk
theorem afP(m:List (Nat×Nat)):Gg 0 m=dG m:=by
 funext j;unfold Gg;split
 .rename_i h;rw[Nat.blt_eq]at h;omega
 .rfl
def gD(base:Nat)(s:Sg)(m:List (Nat×Nat)):Sg:=fun i=>match inv m i with|some j=>s j|none=>match Nat.blt i base with|true=>s i|false=>none
structure XU(m:List (Nat×Nat))(X X':Cx):Prop where
 H:aF X'
 R:Rn (dG m) X X'
 s1:∀j i,dG m j=some i->X'.s i=X.s j
 g2:∀i o',X'.h.tr.get i=some o'->∃j o,dG m j=some i/\X.h.tr.get j=some o/\jz (dG m) o=some o'
 bO:∀b,X'.bO b->X.bO b
theorem V9{X:Cx}(H:aF X){base nx:Nat}(hbn:base<=nx){m:List (Nat×Nat)}(O:pV 0 nx m){t:Tr bu}(ht:oa (dG m) X.h.tr m .nil=some t){A':Nat->Prop}
  (hA1:∀b,A' b->X.out b) (hA2:∀b,A' b->¬Cx.bO ⟨gD base X.s m,⟨t,nx⟩,X.w,A'⟩ b):XU m X ⟨gD base X.s m,⟨t,nx⟩,X.w,A'⟩:=by
 have fI:∀j i,dG m j=some i->(j,i)∈m:=fun j i q=>ym q;have fM:∀j i,(j,i)∈m->dG m j=some i:=fun j i q=>vN O q;have s1:∀j i,dG m j=some i->gD base X.s m i=X.s j:=by intro j i q;unfold gD;rw[Jf O (fI j i q)]
 have s2:∀i l,gD base X.s m i=some l->i<nx:=by
  intro i l q;unfold gD at q;split at q
  .rename_i j hj;exact(O.lo _ (XM hj)).2.2
  .split at q
   .rename_i q2;rw[Nat.blt_eq]at q2;omega
   .cases q
 have g2:∀i o',t.get i=some o'->∃j o,dG m j=some i/\X.h.tr.get j=some o/\jz (dG m) o=some o':=by
  intro i o' q;rcases(xY ht i).2 o' q with r|⟨j,o,a,b,c⟩
  .simp[Tr.get]at r
  .exact⟨j,o,fM j i a,b,c⟩
 have inj:∀j k i,dG m j=some i->dG m k=some i->j=k:=by intro j k i h1 h2;have:=O.snd _ (fI j i h1) _ (fI k i h2) rfl;simpa using this
 have arr:∀j i n,dG m j=some i->rowOf t i=some n->rowOf X.h.tr j=some n:=by intro j i n h1 h2;obtain⟨o',h2,hr⟩:=ki h2;obtain⟨k,o,a,b,c⟩:=g2 i _ h2;have:=inj j k i h1 a;subst this;rw[jI b,<-abt c];exact hr
 have bO:∀b,Cx.bO ⟨gD base X.s m,⟨t,nx⟩,X.w,A'⟩ b->X.bO b:=by rintro b ⟨i,o',c,h1,h2,h3⟩;obtain⟨j,o,a1,a2,_⟩:=g2 i o' h1;rw[show Cx.s ⟨gD base X.s m,⟨t,nx⟩,X.w,A'⟩ i=gD base X.s m i from rfl,s1 j i a1]at h2;exact⟨j,o,c,a2,h2,h3⟩
 have Rn':Rn (dG m) X ⟨gD base X.s m,⟨t,nx⟩,X.w,A'⟩:=by
  refine⟨fun j i l q r=>by show gD base X.s m i=_;rw[s1 j i q];exact r,?_,fun j i n q r=>arr j i n q r⟩;intro b o h q;refine⟨q,?_⟩;rintro(r|r)
  .exact h (hA1 b r)
  .exact h (.inr (bO b r))
 refine⟨⟨?_,?_,?_,?_,?_,?_⟩,Rn',s1,g2,bO⟩
 .intro i o' l h1 h2;obtain⟨j,o,a1,a2,a3⟩:=g2 i o' h1;rw[show Cx.s ⟨gD base X.s m,⟨t,nx⟩,X.w,A'⟩ i=gD base X.s m i from rfl,s1 j i a1]at h2;exact Xt Rn' rfl a3 (H.obj j o l a2 h2)
 .intro i k o₁ o₂ c c' b h1 h2 h3 h4 h5 h6;obtain⟨j,o,a1,a2,_⟩:=g2 i o₁ h1;obtain⟨j',o',b1,b2,_⟩:=g2 k o₂ h2;rw[show Cx.s ⟨gD base X.s m,⟨t,nx⟩,X.w,A'⟩ i=gD base X.s m i from rfl,s1 j i a1]at h3;rw[show Cx.s ⟨gD base X.s m,⟨t,nx⟩,X.w,A'⟩ k=gD base X.s m k from rfl,s1 j' k b1]at h4;have:=H.inj j j' o o' c c' b a2 b2 h3 h4 h5 h6;subst this;rw[a1]at b1;cases b1;rfl
 .intro i o h1;obtain⟨j,o',a,_⟩:=g2 i o h1;exact(O.lo _ (fI j i a)).2.2
 .intro i l h1;exact s2 i l h1
 .intro b hb;rcases hA1 b hb with q|q
  .exact H.alt b q
  .exact H.vX q
 .intro i o' c b h1 h2 h4 h3;exact hA2 b h3 ⟨i,o',c,h1,h2,h4⟩
theorem QG{n:Nat}{bj:List Tmp}{m:List (Nat×Nat)}{nx:Nat}{st N:St}(e:xj 0 n bj m nx st=some N) :
  pV 0 nx m/\ux (dG m) n st.T bj=some N.T/\oa (dG m) st.h.tr m .nil=some N.h.tr/\N.h.next=nx:=by
 unfold xj at e;split at e
 case h_2=>cases e
 rename_i hm hbn;split at e<;>try cases e
 rename_i T t₁ hT h₁;split at e<;>try cases e
 rename_i t h₂;rw[afP]at hT h₂;have:t₁=.nil:=by simp only[Jq,bV]at h₁;exact h₁.symm
 subst this;exact⟨WU hm,hT,h₂,rfl⟩
theorem agU{n:Nat}{bj:List Tmp}{m:List (Nat×Nat)}{nx:Nat}{st N:St}(e:xj 0 n bj m nx st=some N){X₀ X:Cx}{a:Act}(H₀:aF X₀)(hlo:∀i,i<X₀.h.next->dG m i=some i\/inv m i=none)(hnx:X₀.h.next<=nx)
  (hr:∀i,i<X₀.h.next->X₀.s i≠none) (E:aO X₀ X) (R:RF X n st a):∃X',X'.w=X.w/\RF X' n N a/\aO X₀ X':=by
 obtain⟨O,hT,ht,hn⟩:=QG e;have hX:=R.h;rw[<-hX]at ht;have Q:=V9 R.H hnx O ht (A':=X.A) (fun b h=>.inl h) (by
  rintro b hb ⟨i,o',c,h1,h2,h3⟩;rcases(xY ht i).2 o' h1 with r|⟨j,o,a1,a2,_⟩
  .simp[Tr.get]at r
  .replace h2:gD X₀.h.next X.s m i=some c:=h2
   unfold gD at h2;rw[Jf O a1]at h2;exact R.H.loc j o c b a2 h2 h3 hb)
 have hN:N.h=⟨N.h.tr,nx⟩:=by rw[<-hn]
 refine⟨⟨gD X₀.h.next X.s m,⟨N.h.tr,nx⟩,X.w,X.A⟩,rfl,⟨hN.symm,⟨R.T.size,R.T.defers,?_⟩,Q.H⟩,?_⟩
 .intro x v' q;obtain⟨v,a1,a2⟩:=J9 hT x v' q;obtain⟨V,b1,b2⟩:=R.T.get x v a1;exact⟨V,b1,J0 Q.R a2 b2⟩
 .have sl:∀i,i<X₀.h.next->gD X₀.h.next X.s m i=X.s i:=fun i hi=>by
   rcases hlo i hi with q|q
   .exact Q.s1 i i q
   .unfold gD;rw[q,show Nat.blt i X₀.h.next=true by rw[Nat.blt_eq];exact hi]
  refine⟨E.os,E.tape,E.output,E.size,?_,?_,hnx,E.frame,fun b h=>E.bO b (Q.bO b h),?_,?_,E.A⟩
  .intro i l h;show gD X₀.h.next X.s m i=_;rw[sl i (H₀.di i l h)];exact E.sg i l h
  .intro i l hi h
   replace h:gD X₀.h.next X.s m i=some l:=h
   rw[sl i hi]at h;exact E.di i l hi h
  .intro j n hj h;rcases hlo j hj with q|q
   .exact E.len j n hj (Q.R.obj j j n q h)
   .obtain⟨o',h2,_⟩:=ki h;obtain⟨k,o,a,_⟩:=Q.g2 j o' h2;rw[Jf O (ym a)]at q;cases q
  .intro i hi q;exact absurd q (hr i hi)
def aoh:LA->Option Nat
 |.ptr b _=>some b|.dT b _ _=>some b|.rp b=>some b|.hd b _=>some b|.mp b=>some b|.dW b=>some b|_=>none
def numOf:AV->Option Nat
 |.ptr b _=>some b|.dT b _ _ _=>some b|.rp b _=>some b|.hd b _=>some b|.mp b=>some b|.dW b=>some b|_=>none
def oT:List LA->List AV->List (LA×AV)->List (LA×AV)
 |[],_,r=>r|a::l,m,r=>match m with|b::m=>(a,b)::oT l m r|[]=>r
def nE(lh:List (Nat×LO))(h:Tr bu):Nat->List (LA×AV)->List (Nat×Nat)->Option (List (Nat×Nat))
 |0,_,_=>none|k+1,l,m=>match l with
  |[]=>some m|p::l=>match aoh p.1,numOf p.2 with
   |some i,some j=>match dG m j with|some _=>nE lh h k l m|none=>match pt lh i,h.get j with|some (.cells a _),some (.cells b _)=>nE lh h k (oT a b l) ((j,i)::m)|some (.dV _ a _),some (.dV _ _ _ b _)=>nE lh h k (oT a b l) ((j,i)::m)|_,_=>nE lh h k l ((j,i)::m)
   |_,_=>match p.1,p.2 with|.func _ x c,.func _ x' c'=>nE lh h k (oT x x' (oT c c' l)) m|.agg x,.agg x'=>nE lh h k (oT x x' l) m|.cM x,.cM x'=>nE lh h k (oT x x' l) m|_,_=>nE lh h k l m
def vP(T:Tr AV):List (Tmp×LA)->List (LA×AV)
 |[]=>[]|p::l=>match T.get p.1 with|some v=>(p.2,v)::vP T l|none=>vP T l
def JB:List (Tmp×LA)->List Tmp
 |[]=>[]|p::l=>p.1::JB l
def pK(lh:List (Nat×LO)):Nat->List (Nat×Nat)
 |0=>[]|b+1=>match pt lh b with|some _=>(b,b)::pK lh b|none=>pK lh b
def AQ:Nat->List Nat->List Nat
 |0,r=>r|b+1,r=>b::AQ b r
def yh(lh:List (Nat×LO))(h:Tr bu):Nat->List (LA×AV)
 |0=>[]|b+1=>match pt lh b,h.get b with|some (.cells x _),some (.cells y _)=>oT x y (yh lh h b)|some (.dV _ x _),some (.dV _ _ _ y _)=>oT x y (yh lh h b)|_,_=>yh lh h b
def Oa{α:Type}:List α->List α->List α
 |[],m=>m|x::l,m=>x::Oa l m
def abJ{α:Type}:List α->List α->List α
 |[],m=>m|x::l,m=>abJ l (x::m)
def vu(T:Tr AV):List (Tmp×LA)->List Nat->List Nat
 |[],r=>r|p::l,r=>match T.get p.1 with|some v=>gk v (vu T l r)|none=>vu T l r
theorem Qy{X:Cx}{n:Nat}{T:Tr AV}{a:Act}(R:kI X n T a):∀{l:List (Tmp×LA)}{r:List Nat},(∀j∈r,X.s j≠none)->∀j∈vu T l r,X.s j≠none
 |[],r,h,j,hj=>h j hj|p::l,r,h,j,hj=>by
  simp only[vu]at hj;split at hj
  .rename_i v hv;obtain⟨V,_,b2⟩:=R.get _ _ hv;exact Zyi v b2 (Qy R h) j hj
  .exact Qy R h j hj
theorem Wj:∀{b:Nat}{r:List Nat}{j:Nat},j∈AQ b r->j<b\/j∈r
 |0,r,j,h=>.inr h|b+1,r,j,h=>by
  simp only[AQ,List.mem_cons]at h;rcases h with rfl|h
  .exact .inl (by omega)
  .rcases Wj h with q|q
   .exact .inl (by omega)
   .exact .inr q
def AS(m:List (Nat×Nat))(b:Nat)(r:Bool):Bool:=match inv m b with|none=>r|some _=>false
def qD(m:List (Nat×Nat)):Nat->Bool
 |0=>true|b+1=>match dG m b with
  |some i=>match Nat.beq i b with|true=>qD m b|false=>AS m b (qD m b)
  |none=>AS m b (qD m b)
theorem Uf{m:List (Nat×Nat)}{b:Nat}{r:Bool}(h:AS m b r=true):inv m b=none/\r=true:=by
 unfold AS at h;split at h
 .rename_i q;exact⟨q,h⟩
 .cases h
theorem Zyf{m:List (Nat×Nat)}:∀{b:Nat},qD m b=true->∀i,i<b->dG m i=some i\/inv m i=none
 |0,_,i,h=>by omega|b+1,e,i,h=>by
  have key:(dG m b=some b\/inv m b=none)/\qD m b=true:=by
   simp only[qD]at e;split at e
   .rename_i k hk;split at e
    .rename_i q;have q:=bD q;subst q;exact⟨.inl hk,e⟩
    .obtain⟨h1,h2⟩:=Uf e;exact⟨.inr h1,h2⟩
   .obtain⟨h1,h2⟩:=Uf e;exact⟨.inr h1,h2⟩
  rcases de i b with r|r
  .exact Zyf key.2 i r
  .have:i=b:=by omega
   subst this;exact key.1
def DB(base:Nat)(lay:Lay)(st:St):Option (List Nat×Hp):=match nE lay.h st.h.tr 1000 (Oa (vP st.T lay.T) (yh lay.h st.h.tr base)) (pK lay.h base)with|some m=>pI lay.h (abJ m []) (vu st.T lay.T (AQ base [])) st.h|none=>none
def enter(base n:Nat)(lay:Lay)(own:List (Tmp×Sh×TypeId))(st:St):Option (TL lay.σs):=match tI n own st with
 |some st=>match qY n lay.h lay.T st with
  |some st=>match DB base lay st with
   |some (_,h)=>match nE lay.h h.tr 1000 (Oa (vP st.T lay.T) (yh lay.h h.tr base)) (pK lay.h base)with
    |some m=>match qD m base,Nat.ble base lay.nx,xj 0 n (JB lay.T) m lay.nx ⟨st.T,h⟩with|true,true,some st=>lay.get st|_,_,_=>none
    |none=>none
   |none=>none
  |none=>none
 |none=>none
def Real(X:Cx):Prop:=∀i,i<X.h.next->X.s i≠none
theorem U1{n:Nat}{lay:Lay}{N st:St}{d:TL lay.σs}(hg:lay.get N=some d)(hp:lay.put n d=some st){X₀ X:Cx}{a:Act}(hb:X₀.h.next<=lay.nx)(hr:Real X₀)(H₀:aF X₀)(hn:N.h.next=lay.nx)(E:aO X₀ X)(R:RF X n N a) :
  ∃X',X'.w=X.w/\RF X' n st a/\aO X₀ X':=by
 unfold Lay.get at hg;split at hg<;>try cases hg
 rename_i dh hh;unfold Lay.put at hp;split at hp<;>try cases hp
 rename_i T d₂ hT;obtain⟨e1,t2⟩:=WZ hg hT;subst e1;split at hp<;>try cases hp
 rename_i t ht;have h2:=W2 hh ht;have hX:=R.h;have bO:∀b,Cx.bO ⟨X.s,⟨t,lay.nx⟩,X.w,X.A⟩ b->X.bO b:=by rintro b ⟨i,o',c,q1,q2⟩;obtain⟨o,g1,g2⟩:=h2 i o' q1;exact⟨i,o,c,by rw[hX];exact g1,q2⟩
 have RE:gl X ⟨X.s,⟨t,lay.nx⟩,X.w,X.A⟩:=by
  refine⟨fun _ _ h=>h,?_,?_⟩
  .intro b o h q;refine⟨q,?_⟩;rintro(r|r)
   .exact h (.inl r)
   .exact h (.inr (bO b r))
  .intro j l n _ q;obtain⟨o',q,hr⟩:=ki q;obtain⟨o,g1,g2⟩:=h2 j _ q;rw[hX,jI g1];exact g2.2 n hr
 have H':aF ⟨X.s,⟨t,lay.nx⟩,X.w,X.A⟩:=by
  refine⟨?_,?_,?_,?_,R.H.alt,?_⟩
  .intro i o' l q1 q2;obtain⟨o,g1,g2⟩:=h2 i o' q1;have:=R.H.obj i o l (by rw[hX];exact g1) q2;exact(g2.1 X l this).ext RE (fun _ _=>rfl)
  .intro i j o o' c c' b q1 q2 q3 q4;obtain⟨p,g1,_⟩:=h2 i o q1;obtain⟨p',g2,_⟩:=h2 j o' q2;exact R.H.inj i j p p' c c' b (by rw[hX];exact g1) (by rw[hX];exact g2) q3 q4
  .intro i o' q;obtain⟨o,g1,_⟩:=h2 i o' q;have:=R.H.lt i o (by rw[hX];exact g1);rw[hX,hn]at this;exact this
  .intro i l q;have:=R.H.di i l q;rw[hX,hn]at this;exact this
  .intro i o' c b q1 q2;obtain⟨o,g1,_⟩:=h2 i o' q1;exact R.H.loc i o c b (by rw[hX];exact g1) q2
 refine⟨⟨X.s,⟨t,lay.nx⟩,X.w,X.A⟩,rfl,⟨rfl,⟨R.T.size,R.T.defers,?_⟩,H'⟩,?_⟩
 .intro x v' q;obtain⟨v,a1,a2⟩:=t2 x v' q;obtain⟨V,b1,b2⟩:=R.T.get x v a1;exact⟨V,b1,(a2 X V b2).ext RE⟩
 .refine⟨E.os,E.tape,E.output,E.size,E.sg,E.di,hb,E.frame,fun b h=>E.bO b (bO b h),?_,fun i hi q=>absurd q (hr i hi),E.A⟩;intro j n hj q;obtain⟨o',q,hr⟩:=ki q;obtain⟨o,g1,g2⟩:=h2 j _ q;exact E.len j n hj (by rw[hX,jI g1];exact g2.2 n hr)
theorem XQ{base:Nat}{lay:Lay}{st:St}{kn:List Nat}{h':Hp}(e:DB base lay st=some (kn,h')){X:Cx}{n:Nat}{a:Act}(R:RF X n st a)(hlo:∀i,i<base->X.s i≠none) :
  ∃X',X'.w=X.w/\RF X' n ⟨st.T,h'⟩ a/\aO X X'/\∀j∈kn,X'.s j≠none:=by
 unfold DB at e;split at e<;>try cases e
 rename_i m hm;have hX:=R.h;rw[<-hX]at e;obtain⟨X',⟨w',hh,H',E'⟩,hk⟩:=vM R.H e (Qy R.T (fun j hj=>by
  rcases Wj hj with q|q
  .exact hlo j q
  .cases q))
 exact⟨X',w',⟨hh,R.T.ext (E'.eS R.H),H'⟩,E',hk⟩
theorem Real.of{X X':Cx}(h:Real X)(E:aO X X'):∀i,i<X.h.next->X'.s i≠none:=by intro i hi q;cases r:X.s i with|none=>exact h i hi r|some l=>rw[E.sg _ _ r]at q;cases q
theorem FV{base n:Nat}{lay:Lay}{own:List (Tmp×Sh×TypeId)}{st₀ st:St}{d:TL lay.σs}(hg:enter base n lay own st₀=some d)(hp:lay.put n d=some st){X₀ X:Cx}{a:Act}(hb:X₀.h.next=base/\Real X₀)(H₀:aF X₀)(E:aO X₀ X)(R:RF X n st₀ a) :
  ∃X',X'.w=X.w/\RF X' n st a/\aO X₀ X':=by
 obtain⟨hb,hr⟩:=hb;unfold enter at hg;split at hg<;>try cases hg
 rename_i st₁ h₁;split at hg<;>try cases hg
 rename_i st₂ h₂;split at hg<;>try cases hg
 rename_i kn h h₃;split at hg<;>try cases hg
 rename_i m hm;split at hg<;>try cases hg
 rename_i N hlow hnx hN;have hnx:=Nat.le_of_ble_eq_true hnx;obtain⟨X₁,w₁,R₁,E₁⟩:=JV h₁ R;obtain⟨X₂,w₂,R₂,E₂⟩:=Be h₂ R₁;have E₀₂:=(E.trans E₁).trans E₂;obtain⟨X₃,w₃,R₃,E₃,_⟩:=XQ h₃ R₂ (fun i hi=>hr.of E₀₂ i (by omega));obtain⟨X₄,w₄,R₄,E₄⟩:=agU hN H₀ (fun i hi=>Zyf hlow i (by omega)) (by omega) hr (E₀₂.trans E₃) R₃;have hn:N.h.next=lay.nx:=(QG hN).2.2.2;obtain⟨X₅,w₅,R₅,E₅⟩:=U1 hg hp (by omega) hr H₀ hn E₄ R₄;exact⟨X₅,by rw[w₅,w₄,w₃,w₂,w₁],R₅,E₅⟩
def Oe:Ex->Ex->Bool
 |.normal,e=>match e with|.normal=>true|_=>false
 |.exit i,e=>match e with|.exit j=>Nat.beq i j|_=>false
 |.ret,e=>match e with|.ret=>true|_=>false
theorem XR{a b:Ex}(h:Oe a b=true):a=b:=by
 cases a<;>cases b<;>first|rfl|cases h|skip
 rw[bD h]
def Out:List (Ex×Lay)->Type
 |[]=>Empty|[p]=>TL p.2.σs|p::q::l=>TL p.2.σs⊕Out (q::l)
def ri{R:Type}(n:Nat):(l:List (Ex×Lay))->Out l->(Ex->St->Option R)->Option R
 |[],_,_=>none|[p],o,k=>match p.2.put n o with|some st=>k p.1 st|none=>none
 |p::q::l,o,k=>match o with
  |.inl d=>match p.2.put n d with|some st=>k p.1 st|none=>none
  |.inr o=>ri n (q::l) o k
def kz(n:Nat):(l:List (Ex×Lay))->Out l->Option (Ex×St)
 |[],_=>none|[p],o=>match p.2.put n o with|some st=>some (p.1,st)|none=>none
 |p::q::l,o=>match o with
  |.inl d=>match p.2.put n d with|some st=>some (p.1,st)|none=>none
  |.inr o=>kz n (q::l) o
theorem J1{R:Type}{n:Nat}:∀{l:List (Ex×Lay)}{o:Out l}{k:Ex->St->Option R}{r:R},ri n l o k=some r->∃e st,kz n l o=some (e,st)/\k e st=some r
 |[],o,k,r,h=>by cases h
 |[p],o,k,r,h=>by
  simp only[ri]at h;split at h<;>try cases h
  rename_i st hst;exact⟨p.1,st,by simp only[kz,hst],h⟩
 |p::q::l,o,k,r,h=>by
  cases o with
  |inl d=>
   simp only[ri]at h;split at h<;>try cases h
   rename_i st hst;exact⟨p.1,st,by simp only[kz,hst],h⟩
  |inr o=>simp only[ri]at h;obtain⟨e,st,h1,h2⟩:=J1 h;exact⟨e,st,by simp only[kz];exact h1,h2⟩
def oF(base n:Nat):(l:List (Ex×Lay))->Ex->St->Option (Out l)
 |[],_,_=>none|[p],e,st=>match Oe p.1 e with|true=>enter base n p.2 [] st|false=>none
 |p::q::l,e,st=>match(match Oe p.1 e with|true=>enter base n p.2 [] st|false=>none)with|some d=>some (.inl d)|none=>match oF base n (q::l) e st with|some o=>some (.inr o)|none=>none
theorem QV{base n:Nat}:∀{l:List (Ex×Lay)}{e:Ex}{st₀:St}{o:Out l},oF base n l e st₀=some o->∀{e':Ex}{st:St},kz n l o=some (e',st)->e'=e /\
  ∀{X₀ X:Cx}{a:Act},(X₀.h.next=base/\Real X₀)->aF X₀->aO X₀ X->RF X n st₀ a->∃X',X'.w=X.w/\RF X' n st a/\aO X₀ X'
 |[],e,st₀,o,h,e',st,hs=>by cases h
 |[p],e,st₀,o,h,e',st,hs=>by
  simp only[oF]at h;split at h<;>try cases h
  rename_i he;simp only[kz]at hs;split at hs<;>try cases hs
  rename_i hp;exact⟨XR he,fun hb H₀ E R=>FV h hp hb H₀ E R⟩
 |p::q::l,e,st₀,o,h,e',st,hs=>by
  simp only[oF]at h;split at h
  .rename_i d hd;cases h;split at hd<;>try cases hd
   rename_i he;simp only[kz]at hs;split at hs<;>try cases hs
   rename_i hp;exact⟨XR he,fun hb H₀ E R=>FV hd hp hb H₀ E R⟩
  .split at h<;>cases h;rename_i o' ho;simp only[kz]at hs;exact QV ho hs
structure lu where
 np:Nat
 lay:Lay
 nr:Nat
 outs:List (Ex×Lay)
 F:TL lay.σs->Option (Out outs)
def l8(T:Tr AV):Nat->Nat->Option (List AV)
 |0,_=>some []|k+1,i=>match T.get i with
  |some v=>match l8 T k (i+1)with|some l=>some (v::l)|none=>none
  |none=>none
theorem QC{X:Cx}{n:Nat}{T:Tr AV}{a:Act}(R:kI X n T a):∀{k i:Nat}{us:List AV}{Vs:List Value},l8 T k i=some us->Vs.length=k->(∀t,t<k->a.tmps[i+t]?=Vs[t]?)->bB X us Vs
 |0,i,us,Vs,e,hl,h=>by simp only[l8,bV]at e;subst e;exact jd hl|k+1,i,us,Vs,e,hl,h=>by
  simp only[l8]at e;split at e<;>try cases e
  rename_i v hv;split at e<;>cases e;rename_i l hL;cases Vs with|nil=>simp at hl|cons V r=>obtain⟨U,b1,b2⟩:=R.get _ _ hv;have h0:=h 0 (by omega);simp only[Nat.add_zero,List.getElem?_cons_zero]at h0;rw[b1]at h0;cases h0;refine⟨_,r,rfl,b2,QC R hL (by simpa using hl) ?_⟩;intro t ht;have:=h (t+1) (by omega);rw[show i+1+t=i+(t+1) by omega,this];simp
def jv(P:Program)(f:FuncId)(s:lu):Prop:=
 (∃fn c,P.funcs[f]?=some fn/\(fn.name == "runtime.NumGoroutine")=false/\fn.body=some c) /\
 ∀d o,s.F d=some o->∀st e st',s.lay.put s.np d=some st->kz s.nr s.outs o=some (e,st')->∀X vs args,X.h=st.h->aF X->Real X->l8 st.T s.np 0=some vs->bB X vs args ->
  Calls P f (List.toArray args) X.w fun e w'=>∃X' Vs,e=.returned (lM Vs)/\X'.w=w'/\X'.h=st'.h/\aF X'/\aO X X'/\∀us,l8 st'.T s.nr 0=some us->bB X' us Vs
def tB{α:Type}:List α->Nat
 |[]=>0|_::l=>tB l+1
theorem J5{α:Type}:∀l:List α,tB l=l.length
 |[]=>rfl|_::l=>by simp[tB,J5 l]
def AL(kn:List Nat):List (Nat×Nat)->Bool
 |[]=>true|p::m=>match jr p.1 kn with|true=>AL kn m|false=>false
theorem Zz6{kn:List Nat}:∀{m:List (Nat×Nat)},AL kn m=true->∀p∈m,p.1∈kn
 |[],_,p,hp=>by cases hp
 |q::m,h,p,hp=>by
  simp only[AL]at h;split at h<;>try cases h
  rename_i hq;rcases List.mem_cons.1 hp with rfl|hp
  .exact FQ hq
  .exact Zz6 h p hp
def DE(i:Nat):List (Nat×Nat)->Bool
 |[]=>false|p::m=>match Nat.beq p.2 i with|true=>true|false=>DE i m
theorem Wo{i:Nat}:∀{m:List (Nat×Nat)},DE i m=true->∃j,(j,i)∈m
 |[],h=>by cases h
 |p::m,h=>by
  simp only[DE]at h;split at h
  .rename_i q;have q:=bD q;exact⟨p.1,by rw[<-q];simp⟩
  .obtain⟨j,hj⟩:=Wo h;exact⟨j,eK _ hj⟩
def AX(m:List (Nat×Nat)):Nat->Bool
 |0=>true|b+1=>match DE b m with|true=>AX m b|false=>false
theorem Zye{m:List (Nat×Nat)}:∀{b:Nat},AX m b=true->∀i,i<b->∃j,(j,i)∈m
 |0,_,i,h=>by omega|b+1,e,i,h=>by
  simp only[AX]at e;split at e<;>try cases e
  rename_i q;rcases de i b with r|r
  .exact Zye e i r
  .rw[show i=b by omega];exact Wo q
def Ky(s:lu)(vs:List AV)(h:Hp):Option (List (Nat×Nat)×Hp×TL s.lay.σs):=match Nat.beq (tB vs) s.np,kX s.np vs 0 .nil with
 |true,some T=>match qY s.np s.lay.h s.lay.T ⟨T,h⟩with
  |some st=>match DB 0 s.lay st with
   |some (kn,h)=>match nE s.lay.h h.tr 1000 (vP st.T s.lay.T) []with
    |some m=>match AL kn m,AX m s.lay.nx,xj 0 s.np (JB s.lay.T) m s.lay.nx ⟨st.T,h⟩with
     |true,true,some N=>match s.lay.get N with
      |some d=>match s.lay.put s.np d with
       |some st=>match l8 st.T s.np 0 with|some _=>some (m,h,d)|none=>none
       |none=>none
      |none=>none
     |_,_,_=>none
    |none=>none
   |none=>none
  |none=>none
 |_,_=>none
def sB(t:Tr bu):List (Nat×Nat)->Option (Tr bu)
 |[]=>some t|p::m=>match sB t m with|some t=>Tr.set FT t p.1 none|none=>none
theorem QK{t:Tr bu}:∀{m:List (Nat×Nat)}{t':Tr bu},sB t m=some t'->∀k,(t'.get k=t.get k/\∀i,(k,i)∉m)\/(t'.get k=none/\∃i,(k,i)∈m)
 |[],t',e,k=>by simp only[sB,bV]at e;subst e;exact .inl ⟨rfl,fun i h=>by cases h⟩
 |p::m,t',e,k=>by
  simp only[sB]at e;split at e<;>try cases e
  rename_i t₁ h₁;rw[Tr.cI _ _ _ _ _ e k];by_cases q:k=p.1
  .rw[if_pos q];exact .inr ⟨rfl,p.2,by rw[q];simp⟩
  .rw[if_neg q];rcases QK h₁ k with⟨a,b⟩|⟨a,i,b⟩
   .exact .inl ⟨a,fun i hi=>by
     rcases List.mem_cons.1 hi with rfl|hi
     .exact q rfl
     .exact b i hi⟩
   .exact .inr ⟨a,i,eK _ b⟩
def news(nx hn:Nat):Nat->List (Nat×Nat)
 |0=>[]|q+1=>(nx+q,hn+q)::news nx hn q
theorem QU{nx hn:Nat}:∀{c:Nat}{p:Nat×Nat},p∈news nx hn c↔∃q,q<c/\p=(nx+q,hn+q)
 |0,p=>by simp[news]|c+1,p=>by
  simp only[news,List.mem_cons,QU (c:=c)];constructor
  .rintro(rfl|⟨q,h,rfl⟩)
   .exact⟨c,by omega,rfl⟩
   .exact⟨q,by omega,rfl⟩
  .rintro⟨q,h,rfl⟩;rcases de q c with r|r
   .exact .inr ⟨q,r,rfl⟩
   .left;rw[show q=c by omega]
def vF:List (Nat×Nat)->List (Nat×Nat)->List (Nat×Nat)
 |[],r=>r|p::m,r=>(p.2,p.1)::vF m r
theorem FG:∀{m r:List (Nat×Nat)}{p:Nat×Nat},p∈vF m r↔(p.2,p.1)∈m\/p∈r
 |[],r,p=>by simp[vF]|q::m,r,p=>by
  obtain⟨a,b⟩:=p;obtain⟨c,d⟩:=q;simp only[vF,List.mem_cons,FG (m:=m),Prod.mk.injEq];constructor
  .rintro(⟨rfl,rfl⟩|h|h)
   .exact .inl (.inl ⟨rfl,rfl⟩)
   .exact .inl (.inr h)
   .exact .inr h
  .rintro((⟨rfl,rfl⟩|h)|h)
   .exact .inl ⟨rfl,rfl⟩
   .exact .inr (.inl h)
   .exact .inr (.inr h)
def oB(m:List (Nat×Nat))(nx hn c:Nat):List (Nat×Nat):=vF m (news nx hn c)
theorem aeR{m:List (Nat×Nat)}{nx hn c:Nat}(O:pV 0 nx m)(hm:∀p∈m,p.1<hn):pV 0 (hn+c) (oB m nx hn c):=by
 have mem:∀p,p∈oB m nx hn c->(p.2,p.1)∈m\/∃q,q<c/\p=(nx+q,hn+q):=by
  intro p hp;rcases FG.1 hp with h|h
  .exact .inl h
  .exact .inr (QU.1 h)
 refine⟨?_,?_,?_⟩
 .intro p hp;rcases mem p hp with h|⟨q,h,rfl⟩
  .have:=hm _ h;simp only at this;omega
  .simp only;omega
 .intro p hp p' hp' e;rcases mem p hp with h|⟨q,h,rfl⟩<;>rcases mem p' hp' with h'|⟨q',h',rfl⟩
  .have:=O.snd _ h _ h' e;simp only[Prod.mk.injEq]at this;exact Prod.ext this.2 this.1
  .have:=(O.lo _ h).2.2;simp only at this e;omega
  .have:=(O.lo _ h').2.2;simp only at this e;omega
  .simp only at e;rw[show q=q' by omega]
 .intro p hp p' hp' e;rcases mem p hp with h|⟨q,h,rfl⟩<;>rcases mem p' hp' with h'|⟨q',h',rfl⟩
  .have:=O.fst _ h _ h' e;simp only[Prod.mk.injEq]at this;exact Prod.ext this.2 this.1
  .have:=hm _ h;simp only at this e;omega
  .have:=hm _ h';simp only at this e;omega
  .simp only at e;rw[show q=q' by omega]
def Kk(m:List (Nat×Nat))(h:Hp)(nx nr:Nat)(st':St):Option (List AV×Hp):=match sB h.tr m,l8 st'.T nr 0 with
 |some t,some us=>match oa (dG (oB m nx h.next (st'.h.next-nx))) st'.h.tr (oB m nx h.next (st'.h.next-nx)) t,nj (dG (oB m nx h.next (st'.h.next-nx))) us with|some t',some us'=>some (us',⟨t',h.next+(st'.h.next-nx)⟩)|_,_=>none
 |_,_=>none
theorem afg{X₂ Xn X₀:Cx}{m:List (Nat×Nat)}{nx:Nat}(H₂:aF X₂)(O:pV 0 nx m)(Q:XU m X₂ Xn)(hnx:Xn.h.next=nx)(hAn:∀b,Xn.A b↔X₂.out b/\¬Xn.bO b)(hwn:Xn.w=X₂.w)
  (hreal:∀p∈m,X₂.s p.1≠none) (H':aF X₀) (E:aO Xn X₀) {t₁ t':Tr bu}(hk:sB X₂.h.tr m=some t₁)
  (hc:oa (dG (oB m nx X₂.h.next (X₀.h.next-nx))) X₀.h.tr (oB m nx X₂.h.next (X₀.h.next-nx)) t₁=some t') :
  ∃X',X'.w=X₀.w/\X'.h=⟨t',X₂.h.next+(X₀.h.next-nx)⟩/\aF X'/\aO X₂ X'/\Rn (dG (oB m nx X₂.h.next (X₀.h.next-nx))) X₀ X':=by
 obtain⟨hn,ehn⟩:∃hn,hn=X₂.h.next:=⟨_,rfl⟩;obtain⟨jw,ecnt⟩:∃c,c=X₀.h.next-nx:=⟨_,rfl⟩;rw[<-ehn,<-ecnt]at hc |-;have hcn:X₀.h.next=nx+jw:=by have:=E.next;omega
 have mlt:∀p∈m,p.1<hn:=by intro p hp;cases q:X₂.s p.1 with|none=>exact absurd q (hreal p hp)|some l=>have:=H₂.di _ _ q;omega
 have OG:=aeR (c:=jw) O mlt;obtain⟨G,eG⟩:∃G,G=oB m nx hn jw:=⟨_,rfl⟩;have gmem:∀i k,(i,k)∈G->((k,i)∈m/\k<hn/\i<nx)\/∃q,q<jw/\i=nx+q/\k=hn+q:=by
  intro i k h;rw[eG]at h;rcases FG.1 h with h|h
  .exact .inl ⟨h,mlt _ h,(O.lo _ h).2.2⟩
  .obtain⟨q,h1,h2⟩:=QU.1 h;simp only[Prod.mk.injEq]at h2;exact .inr ⟨q,h1,h2.1,h2.2⟩
 rw[<-eG]at OG hc |-;have gI:∀i k,dG G i=some k->(i,k)∈G:=fun i k h=>ym h;have gM:∀i k,(i,k)∈G->dG G i=some k:=fun i k h=>vN OG h
 let s':Sg:=fun k=>if k<hn then X₂.s k else X₀.s (k-hn+nx)
 have sold:∀k l,X₂.s k=some l->k<hn/\s' k=some l:=by
  intro k l h;have:=H₂.di k l h;have hlt:k<hn:=by omega
  exact⟨hlt,by simp only[s',if_pos hlt];exact h⟩
 have gS:∀i k,dG G i=some k->s' k=X₀.s i:=by
  intro i k h;rcases gmem i k (gI i k h)with⟨h1,h2,h3⟩|⟨q,h1,rfl,rfl⟩
  .simp only[s',if_pos h2];have e1:=Q.s1 k i (vN O h1);cases r:X₂.s k with|none=>exact absurd r (hreal _ h1)|some l=>rw[r]at e1;exact(E.sg i l e1).symm
  .simp only[s'];rw[if_neg (by omega)];congr 1;omega
 have objF:∀k o',t'.get k=some o'->(X₂.h.tr.get k=some o'/\(∀i,(k,i)∉m)/\k<hn)\/∃i o,dG G i=some k/\X₀.h.tr.get i=some o/\jz (dG G) o=some o':=by
  intro k o' h;rcases(xY hc k).2 o' h with r|⟨i,o,a,b,c⟩
  .rcases QK hk k with⟨a,b⟩|⟨a,_⟩
   .rw[a]at r;have:=H₂.lt k o' r;exact .inl ⟨r,b,by omega⟩
   .rw[a]at r;cases r
  .exact .inr ⟨i,o,gM i k a,b,c⟩
 have gone:∀k i,(k,i)∈m->∀j,dG G j=some k->j=i:=by
  intro k i h j hj;have h1:(i,k)∈G:=by rw[eG];exact FG.2 (.inl h)
  have:=OG.snd _ (gI j k hj) _ h1 rfl;simpa using this
 have notG:∀k,(∀i,(k,i)∉m)->k<hn->∀i,dG G i≠some k:=by
  intro k h1 h2 i h3;rcases gmem i k (gI i k h3)with⟨a,_⟩|⟨q,_,_,a⟩
  .exact h1 i a
  .omega
 have imgn:∀k i l,dG m k=some i->X₂.s k=some l->Xn.s i=some l:=fun k i l h1 h2=>by rw[Q.s1 k i h1];exact h2
 have imgX:∀b,Xn.bO b->∃k i o c,(k,i)∈m/\X₂.h.tr.get k=some o/\X₂.s k=some c/\c.own b:=by rintro b ⟨i,o',c,h1,h2,h3⟩;obtain⟨k,o,a1,a2,_⟩:=Q.g2 i o' h1;rw[Q.s1 k i a1]at h2;exact⟨k,i,o,c,ym a1,a2,h2,h3⟩
 have other:∀k o c b,X₂.h.tr.get k=some o->(∀i,(k,i)∉m)->X₂.s k=some c->c.own b->Xn.A b:=by intro k o c b h1 h2 h3 h4;refine(hAn b).2 ⟨.inr ⟨k,o,c,h1,h3,h4⟩,fun hi=>?_⟩;obtain⟨k',i,o',c',g1,g2,g3,g4⟩:=imgX b hi;have:=H₂.inj k k' o o' c c' b h1 g2 h3 g3 h4 g4;subst this;exact h2 i g1
 have A₂:∀b,X₂.A b->Xn.A b:=by intro b h;refine(hAn b).2 ⟨.inl h,fun hi=>?_⟩;obtain⟨k',i,o',c',g1,g2,g3,g4⟩:=imgX b hi;exact H₂.loc k' o' c' b g2 g3 g4 h
 have img':∀b,Cx.bO ⟨s',⟨t',hn+jw⟩,X₀.w,X₂.A⟩ b->X₀.bO b\/(Xn.A b/\X₂.bO b):=by
  rintro b ⟨k,o',c,h1,h2,h3⟩
  replace h2:s' k=some c:=h2
  rcases objF k o' h1 with⟨a1,a2,a3⟩|⟨i,o,a1,a2,a3⟩
  .simp only[s',if_pos a3]at h2;exact .inr ⟨other k o' c b a1 a2 h2 h3,k,o',c,a1,h2,h3⟩
  .rw[gS i k a1]at h2;exact .inl ⟨i,o,c,a2,h2,h3⟩
 have outn:∀b,Xn.out b->X₂.out b:=by
  rintro b (h|h)
  .exact((hAn b).1 h).1
  .exact .inr (Q.bO b h)
 have arr:∀i k n,dG G i=some k->rowOf t' k=some n->rowOf X₀.h.tr i=some n:=by
  intro i k n h1 h2;obtain⟨o',h2,hr⟩:=ki h2;rcases objF k _ h2 with⟨a1,a2,a3⟩|⟨i',o,a1,a2,a3⟩
  .exact absurd h1 (notG k a2 a3 i)
  .have:=OG.snd _ (gI i k h1) _ (gI i' k a1) rfl;simp only[Prod.mk.injEq,and_true]at this;subst this;rw[jI a2,<-abt a3];exact hr
 have Rn':Rn (dG G) X₀ ⟨s',⟨t',hn+jw⟩,X₀.w,X₂.A⟩:=by
  refine⟨fun i k l q r=>by show s' k=_;rw[gS i k q];exact r,?_,arr⟩;intro b o h q;refine⟨q,?_⟩;rintro(r|r)
  .refine h (.inl ?_);rw[E.A];exact A₂ b r
  .rcases img' b r with r|⟨r,_⟩
   .exact h (.inr r)
   .refine h (.inl ?_);rw[E.A];exact r
 have low:∀b,b<X₂.w.heap.size->¬X₂.bO b->X₀.w.heap[b]?=X₂.w.heap[b]?:=by intro b hb hi;rw[E.frame b (by rw[hwn];exact hb) (fun q=>hi (Q.bO b q)),hwn]
 have lenOld:∀j n,j<hn->rowOf t' j=some n->rowOf X₂.h.tr j=some n:=by
  intro j n hj h0;obtain⟨o',h,hr⟩:=ki h0;rcases objF j _ h with⟨a1,_,_⟩|⟨i,o,a1,a2,a3⟩
  .rw[jI a1];exact hr
  .have h4:=arr i j n a1 h0;rcases gmem i j (gI i j a1)with⟨b1,b2,b3⟩|⟨q,_,_,rfl⟩
   .exact Q.R.obj j i n (vN O b1) (E.len i n (by omega) h4)
   .omega
 have RE:gl X₂ ⟨s',⟨t',hn+jw⟩,X₀.w,X₂.A⟩:=by
  refine⟨fun k l h=>(sold k l h).2,?_,fun j l n h q=>lenOld j n (sold j l h).1 q⟩;intro b o h q;have hb:=fN q;refine⟨by show X₀.w.heap[b]?=_;rw[low b hb (fun r=>h (.inr r))];exact q,?_⟩;rintro(r|r)
  .exact h (.inl r)
  .rcases img' b r with r|⟨_,r⟩
   .rcases E.bO b r with r|r
    .exact h (.inr (Q.bO b r))
    .rw[hwn]at r;omega
   .exact h (.inr r)
 have hsz:X₂.w.heap.size<=X₀.w.heap.size:=by have:=E.size;rw[hwn]at this;exact this
 refine⟨⟨s',⟨t',hn+jw⟩,X₀.w,X₂.A⟩,rfl,rfl,⟨?_,?_,?_,?_,?_,?_⟩,?_,Rn'⟩
 .intro k o' l h1 h2
  replace h2:s' k=some l:=h2
  rcases objF k o' h1 with⟨a1,a2,a3⟩|⟨i,o,a1,a2,a3⟩
  .simp only[s',if_pos a3]at h2;refine(H₂.obj k o' l a1 h2).ext RE ?_;intro b hb;show X₀.w.heap[b]?=_;rw[E.frame b (by rw[hwn];exact H₂.jj a1 h2 hb) (fun q=>((hAn b).1 (other k o' l b a1 a2 h2 hb)).2 q),hwn]
  .rw[gS i k a1]at h2;exact Xt Rn' rfl a3 (H'.obj i o l a2 h2)
 .intro k₁ k₂ o₁ o₂ c₁ c₂ b h1 h2 h3 h4 f3 f4
  replace h3:s' k₁=some c₁:=h3
  replace h4:s' k₂=some c₂:=h4
  rcases objF k₁ o₁ h1 with⟨a1,a2,a3⟩|⟨i,o,a1,a2,a3⟩<;>rcases objF k₂ o₂ h2 with⟨b1,b2,b3⟩|⟨i',o',b1,b2,b3⟩
  .simp only[s',if_pos a3]at h3;simp only[s',if_pos b3]at h4;exact H₂.inj k₁ k₂ o₁ o₂ c₁ c₂ b a1 b1 h3 h4 f3 f4
  .simp only[s',if_pos a3]at h3;rw[gS i' k₂ b1]at h4;refine absurd (other k₁ o₁ c₁ b a1 a2 h3 f3) ?_;have:=H'.loc i' o' c₂ b b2 h4 f4;rw[E.A]at this;exact this
  .simp only[s',if_pos b3]at h4;rw[gS i k₁ a1]at h3;refine absurd (other k₂ o₂ c₂ b b1 b2 h4 f4) ?_;have:=H'.loc i o c₁ b a2 h3 f3;rw[E.A]at this;exact this
  .rw[gS i k₁ a1]at h3;rw[gS i' k₂ b1]at h4;have:=H'.inj i i' o o' c₁ c₂ b a2 b2 h3 h4 f3 f4;subst this;rw[a1]at b1;cases b1;rfl
 .intro k o' h1;show k<hn+jw;rcases objF k o' h1 with⟨_,_,a3⟩|⟨i,o,a1,a2,a3⟩
  .omega
  .exact(OG.lo _ (gI i k a1)).2.2
 .intro k l h1
  replace h1:s' k=some l:=h1
  show k<hn+jw;by_cases q:k<hn
  .omega
  .simp only[s',if_neg q]at h1;have:=H'.di _ l h1;omega
 .intro b hb;have:=H₂.alt b hb;show b<X₀.w.heap.size;omega
 .intro k o' c b h1 h2 h4 h3
  replace h2:s' k=some c:=h2
  rcases objF k o' h1 with⟨a1,a2,a3⟩|⟨i,o,a1,a2,a3⟩
  .simp only[s',if_pos a3]at h2;exact H₂.loc k o' c b a1 h2 h4 h3
  .rw[gS i k a1]at h2;have:=H'.loc i o c b a2 h2 h4;rw[E.A]at this;exact this (A₂ b h3)
 .refine⟨by rw[<-hwn];exact E.os,by rw[<-hwn];exact E.tape,by rw[<-hwn];exact E.output,hsz,fun k l h=>(sold k l h).2,?_,by show X₂.h.next<=hn+jw;omega,low,?_,?_,?_,rfl⟩
  .intro k l hk' h
   replace h:s' k=some l:=h
   simp only[s',if_pos (show k<hn by omega)]at h;exact h
  .intro b h;rcases img' b h with r|⟨_,r⟩
   .rcases E.bO b r with r|r
    .exact .inl (Q.bO b r)
    .rw[hwn]at r;exact .inr r
   .exact .inl r
  .intro j n hj h;exact lenOld j n (by omega) h
  .intro k hk' hs;show t'.get k=_;have hnm:∀i,(k,i)∉m:=fun i hi=>hreal _ hi hs;have hng:∀p∈G,p.2≠k:=by rintro⟨i,k'⟩ hp rfl;exact notG k' hnm (by omega) i (gM i k' hp)
   rw[(xY hc k).1 hng];rcases QK hk k with⟨a,_⟩|⟨_,i,b⟩
   .exact a
   .exact absurd b (hnm i)
theorem ahb{P:Program}{f:FuncId}{s:lu}(hC:jv P f s){vs:List AV}{h h₂ h':Hp}{m:List (Nat×Nat)}{d:TL s.lay.σs}(e₁:Ky s vs h=some (m,h₂,d)){o:Out s.outs}(ho:s.F d=some o){ex:Ex}{st':St}
  (hs:kz s.nr s.outs o=some (ex,st')) {us':List AV}(e₂:Kk m h₂ s.lay.nx s.nr st'=some (us',h')):AK P f vs h (pR us') h':=by
 refine⟨hC.1,?_⟩;intro X args hX H hR;subst hX;unfold Ky at e₁;split at e₁<;>try cases e₁
 rename_i T hlen hT;split at e₁<;>try cases e₁
 rename_i st₁ hfT;split at e₁<;>try cases e₁
 rename_i kn h₂' hfM;split at e₁<;>try cases e₁
 rename_i m' hm;split at e₁<;>try cases e₁
 rename_i N hall htot hN;split at e₁<;>try cases e₁
 rename_i d' hg;split at e₁<;>try cases e₁
 rename_i st₀ hp;split at e₁<;>try cases e₁
 rename_i us₀ hv₀;have hlen:=bD hlen;rw[J5]at hlen;have hal:args.length=s.np:=by rw[hR.length];exact hlen
 obtain⟨X₁,w₁,R₁,E₁⟩:=Be hfT (uc H hT hR);obtain⟨X₂,w₂,R₂,E₂,hk⟩:=XQ hfM R₁ (fun i hi=>by omega);have E₀₂:=E₁.trans E₂;have hX₂:X₂.h=h₂:=R₂.h;have hw₂:X₂.w=X.w:=w₂.trans w₁;have hA₂:X₂.A=X.A:=E₀₂.A;have H₂:=R₂.H;obtain⟨O,hTN,htN,hnN⟩:=QG hN
 replace htN:oa (dG m) h₂.tr m .nil=some N.h.tr:=htN
 rw[<-hX₂]at htN;have hreal:∀p∈m,X₂.s p.1≠none:=fun p hp'=>hk _ (Zz6 hall p hp');have mlt:∀p∈m,p.1<X₂.h.next:=by intro p hp';cases q:X₂.s p.1 with|none=>exact absurd q (hreal p hp')|some l=>exact H₂.di _ _ q
 let A₀:Nat->Prop:=fun b=>X₂.out b/\¬∃i o c,N.h.tr.get i=some o/\gD 0 X₂.s m i=some c/\c.own b
 have Q:=V9 H₂ (base:=0) (dq _) O htN (A':=A₀) (fun b hb=>hb.1) (fun b hb hi=>hb.2 hi);obtain⟨Xn,hXn⟩:∃Xn:Cx,Xn=⟨gD 0 X₂.s m,⟨N.h.tr,s.lay.nx⟩,X₂.w,A₀⟩:=⟨_,rfl⟩;rw[<-hXn]at Q;have hNh:N.h=⟨N.h.tr,s.lay.nx⟩:=by rw[<-hnN]
 have RN:RF Xn s.np N _:=⟨by rw[hXn];exact hNh.symm,⟨R₂.T.size,R₂.T.defers,fun x v' q=>by obtain⟨v,a1,a2⟩:=J9 hTN x v' q;obtain⟨V,b1,b2⟩:=R₂.T.get x v a1;exact⟨V,b1,J0 Q.R a2 b2⟩⟩,Q.H⟩;have hnx:Xn.h.next=s.lay.nx:=by rw[hXn]
 have hrn:Real Xn:=by intro i hi q;obtain⟨j,hj⟩:=Zye htot i (by omega);rw[Q.s1 j i (vN O hj)]at q;exact hreal _ hj q
 obtain⟨Z,wZ,RZ,EZ⟩:=U1 hg hp (by omega) hrn Q.H hnN (aO.refl Xn) RN;have hst₀n:st₀.h.next=s.lay.nx:=by
  unfold Lay.put at hp;split at hp<;>try cases hp
  split at hp<;>cases hp;rfl
 have hZn:Z.h.next=s.lay.nx:=by rw[RZ.h];exact hst₀n
 have hZr:Real Z:=fun i hi=>hrn.of EZ i (by omega);have Rv:=QC RZ.T hv₀ hal (fun t ht=>by simp only[Nat.zero_add];rw[Array.getElem?_append_left (by simpa[hal]using ht)];simp);have hZw:Z.w=X.w:=by rw[wZ,hXn];exact hw₂
 rw[<-hZw];refine(hC.2 d o ho st₀ ex st' hp hs Z us₀ args RZ.h RZ.H hZr hv₀ Rv).mono ?_;rintro e w' ⟨X₀,Vs,rfl,rfl,hh',H',E₀,hus⟩;unfold Kk at e₂;split at e₂<;>try cases e₂
 rename_i t₁ us hkl hvus;split at e₂<;>try cases e₂
 rename_i t' us₂ hcp hru;have E:=EZ.trans E₀;rw[<-hh',<-hX₂]at hcp hru;rw[<-hX₂]at hkl;obtain⟨X',g1,g2,g3,g4,g5⟩:=afg H₂ O Q hnx (by rw[hXn];exact fun b=>Iff.rfl) (by rw[hXn]) hreal H' E hkl hcp;refine⟨X',lM Vs,rfl,g1,by rw[g2,hX₂,<-hh'],g3,?_,Bh (qa g5 hru (hus us hvus))⟩;exact E₀₂.trans g4
def DN{R:Type}:List lu->List AV->Hp->(Bool->AV->Hp->Option R)->Option R
 |[],_,_,_=>none|s::l,vs,h,k=>match Ky s vs h with
  |some x=>ao (s.F x.2.2) fun o=>ri s.nr s.outs o fun _ st'=>match Kk x.1 x.2.1 s.lay.nx s.nr st' with|some y=>k true (pR y.1) y.2|none=>none
  |none=>DN l vs h k
abbrev KF:=FuncId->List lu
def Xj(P:Program)(Q:KF):Prop:=∀f,∀s∈Q f,jv P f s
theorem Xr{R:Type}{P:Program}{f:FuncId}{vs:List AV}{h:Hp}{k:Bool->AV->Hp->Option R}{r:R}:∀{l:List lu},(∀s∈l,jv P f s)->DN l vs h k=some r ->
  ∃ch v h',k ch v h'=some r/\(ch=false->fl h h')/\AK P f vs h v h'
 |[],_,e=>by cases e
 |s::l,hC,e=>by
  simp only[DN]at e;split at e
  .rename_i x hx;obtain⟨o,ho,hk⟩:=vY e;obtain⟨ex,st',hs,hk⟩:=J1 hk;split at hk<;>try cases hk
   rename_i y hy;exact⟨true,_,_,hk,fun q=>(by cases q),ahb (hC s (by simp)) hx ho hs hy⟩
  .exact Xr (fun s' h'=>hC s' (by simp[h'])) e
open Go.Proofs.YtkcpdpplobhpaaaGreat.Ev (Tr Tr.cI nth dI)
def zR:eu:=(0,(0,([],())))
def AN{R:Type}(call:iM R):iM R:=fun f vs h k=>match vs with
 |[]=>call f vs h k|v₀::rest=>match v₀ with
  |.rp b i=>match h.tr.get b with
   |some (.dL L ty)=>match Tr.set FT h.tr b none with
    |some t₀=>match Tr.set FT t₀ h.next (some (.cells [.int .i64 (L.getD i zR).1,.int .i64 (L.getD i zR).2.1,.mp (h.next+1)] ty))with
     |some t₁=>match Tr.set FT t₁ (h.next+1) (some (.map .u64 (.int .u64) (L.getD i zR).2.2.1))with
      |some t₂=>call f (.ptr h.next 0::rest) ⟨t₂,h.next+2⟩ fun _ v h'=>match h'.tr.get h.next,h'.tr.get (h.next+1)with
       |some (.cells [.int .i64 a,.int .i64 w,.mp j] ty'),some (.map .u64 (.int .u64) M)=>match Nat.beq j (h.next+1),Nat.beq ty' ty with
        |true,true=>match Tr.set FT h'.tr h.next none with
         |some t₃=>match Tr.set FT t₃ (h.next+1) none with
          |some t₄=>match Tr.set FT t₄ b (some (.dL (L.set i (a,(w,(M,())))) ty))with|some t₅=>k true v ⟨t₅,h'.next⟩|none=>none
          |none=>none
         |none=>none
        |_,_=>none
       |_,_=>none
      |none=>none
     |none=>none
    |none=>none
   |_=>none
  |_=>call f vs h k
theorem gg.get{w:World}{A:Nat->Prop}{ty:TypeId}:∀{m:List (Nat×Nat)}{L:List eu}{i:Nat}{p:Nat×Nat},gg w A ty m L->m[i]?=some p->∃d,L[i]?=some d/\qu w A p d ty
 |[],L,i,p,h,q=>by simp at q|x::m,L,i,p,h,q=>by cases L with|nil=>exact h.elim|cons d L=>cases i with|zero=>simp only[List.getElem?_cons_zero,bV]at q;subst q;exact⟨d,rfl,h.1⟩|succ i=>obtain⟨d',g1,g2⟩:=gg.get (i:=i) h.2 (by simpa using q);exact⟨d',by simpa using g1,g2⟩
theorem gg.bZ{w w':World}{A A':Nat->Prop}(K:jl w A w' A'){ty:TypeId}{p:Nat×Nat}{d':eu}(hp':qu w' A' p d' ty):∀{m:List (Nat×Nat)}{L:List eu}{i:Nat},m[i]?=some p->gg w A ty m L ->
  (∀k q,m[k]?=some q->k≠i->w'.heap[q.1]?=w.heap[q.1]?/\w'.heap[q.2]?=w.heap[q.2]?)->gg w' A' ty m (L.set i d')
 |[],L,i,q,h,hs=>by simp at q|x::m,L,i,q,h,hs=>by
  cases L with
  |nil=>exact h.elim|cons d L=>
   cases i with
   |zero=>simp only[List.getElem?_cons_zero,bV]at q;subst q;refine⟨hp',h.2.ext K fun y hy=>?_⟩;obtain⟨k,hk⟩:=List.getElem?_of_mem hy;exact hs (k+1) y (by simpa using hk) (by omega)
   |succ i=>have h0:=hs 0 x rfl (by omega);exact⟨h.1.ext K h0.1 h0.2,gg.bZ K hp' (by simpa using q) h.2 fun k y hk hne=>hs (k+1) y (by simpa using hk) (by omega)⟩
theorem FE{m:List (Nat×Nat)}{k:Nat}{q:Nat×Nat}(h:m[k]?=some q):q.1∈gn m/\q.2∈gn m:=by have:=dc h;unfold gn;exact⟨List.mem_flatMap.2 ⟨q,this,by simp⟩,List.mem_flatMap.2 ⟨q,this,by simp⟩⟩
theorem Wz:∀{m:List (Nat×Nat)}{i k:Nat}{p q:Nat×Nat},(gn m).Nodup->m[i]?=some p->m[k]?=some q->k≠i->q.1≠p.1/\q.1≠p.2/\q.2≠p.1/\q.2≠p.2
 |[],i,k,p,q,_,h,_,_=>by simp at h|x::m,i,k,p,q,hn,h1,h2,hne=>by
  have hn':(x.1::x.2::gn m).Nodup:=hn;obtain⟨n1,n2⟩:=List.nodup_cons.1 hn';obtain⟨n2,n3⟩:=List.nodup_cons.1 n2;have n1':x.1∉gn m:=fun q=>n1 (eK _ q);cases i with
  |zero=>cases k with|zero=>exact absurd rfl hne|succ k=>simp only[List.getElem?_cons_zero,bV]at h1;subst h1;obtain⟨b1,b2⟩:=FE (m:=m) (by simpa using h2);exact⟨fun e=>n1' (e▸b1),fun e=>n2 (e▸b1),fun e=>n1' (e▸b2),fun e=>n2 (e▸b2)⟩
  |succ i=>
   cases k with
   |zero=>simp only[List.getElem?_cons_zero,bV]at h2;subst h2;obtain⟨b1,b2⟩:=FE (m:=m) (by simpa using h1);exact⟨fun e=>n1' (e▸b1),fun e=>n1' (e▸b2),fun e=>n2 (e▸b1),fun e=>n2 (e▸b2)⟩
   |succ k=>exact Wz n3 (by simpa using h1) (by simpa using h2) (by omega)
theorem Zz4:∀{m:List (Nat×Nat)}{i:Nat}{p:Nat×Nat},(gn m).Nodup->m[i]?=some p->p.1≠p.2
 |[],i,p,_,h=>by simp at h|x::m,i,p,hn,h=>by have hn':(x.1::x.2::gn m).Nodup:=hn;obtain⟨n1,n2⟩:=List.nodup_cons.1 hn';cases i with|zero=>simp only[List.getElem?_cons_zero,bV]at h;subst h;exact fun e=>n1 (by rw[e];simp)|succ i=>exact Zz4 (List.nodup_cons.1 n2).2 (by simpa using h)
theorem af1{X:Cx}(H:aF X){b i x c:Nat}{m:List (Nat×Nat)}{p:Nat×Nat}{L:List eu}{ty:TypeId}(hb:X.h.tr.get b=some (.dL L ty))(hs:X.s b=some (.cE x c m))(hp:m[i]?=some p){t₀ t₁ t₂:Tr bu}
  (h0:Tr.set FT X.h.tr b none=some t₀) (h1:Tr.set FT t₀ X.h.next (some (.cells [.int .i64 (L.getD i zR).1,.int .i64 (L.getD i zR).2.1,.mp (X.h.next+1)] ty))=some t₁) (h2:Tr.set FT t₁ (X.h.next+1) (some (.map .u64 (.int .u64) (L.getD i zR).2.2.1))=some t₂) :
  ∃X₁:Cx,X₁.w=X.w/\X₁.h=⟨t₂,X.h.next+2⟩/\(∀q,X₁.A q↔X.A q\/((Loc.cE x c m).own q/\q≠p.1/\q≠p.2))/\X₁.s X.h.next=some (.at p.1 0)/\X₁.s (X.h.next+1)=some (.at p.2 0)/\(∀j,j<X.h.next->X₁.s j=X.s j) /\
   aF X₁/\gl X X₁/\(∀q,X₁.bO q->X.bO q)/\(∀j o,j<X.h.next->X₁.h.tr.get j=some o->X.h.tr.get j=some o/\j≠b)/\(∀j,j<X.h.next->j≠b->X₁.h.tr.get j=X.h.tr.get j) /\
   (∀q,(Loc.cE x c m).own q->q≠p.1->q≠p.2->¬X₁.bO q):=by
 have g0:=Tr.cI _ _ _ _ _ h0;have g1:=Tr.cI _ _ _ _ _ h1;have g2:=Tr.cI _ _ _ _ _ h2;have hbn:=H.lt b _ hb;obtain⟨tail,ty',r1,r2,r3,r4⟩:=H.obj b _ _ hb hs;obtain⟨n1,n2⟩:=List.nodup_cons.1 r4;obtain⟨d,hd,s1,es,clk,s2,s3⟩:=r3.get hp;have hD:L.getD i zR=d:=by rw[bM,hd];rfl
 have hpp:=Zz4 n2 hp;have own1:(Loc.cE x c m).own p.1:=.inr ⟨p,dc hp,.inl rfl⟩;have own2:(Loc.cE x c m).own p.2:=.inr ⟨p,dc hp,.inr rfl⟩
 let s':Sg:=bZ (bZ X.s X.h.next (.at p.1 0)) (X.h.next+1) (.at p.2 0)
 have sn:s' X.h.next=some (.at p.1 0):=by show bZ _ _ _ _=_;rw[dE _ _ _ (by omega),fG]
 have sn1:s' (X.h.next+1)=some (.at p.2 0):=fG _ _ _;have sl:∀j,j<X.h.next->s' j=X.s j:=fun j hj=>by show bZ _ _ _ _=_;rw[dE _ _ _ (by omega),dE _ _ _ (by omega)]
 have alt:∀j o,t₂.get j=some o->(j=X.h.next/\o=.cells [.int .i64 d.1,.int .i64 d.2.1,.mp (X.h.next+1)] ty)\/(j=X.h.next+1/\o=.map .u64 (.int .u64) d.2.2.1)\/(X.h.tr.get j=some o/\j≠b/\j<X.h.next):=by
  intro j o hj;rw[g2 j]at hj;by_cases q:j=X.h.next+1
  .rw[if_pos q,hD]at hj;exact .inr (.inl ⟨q,by simpa using hj.symm⟩)
  .rw[if_neg q,g1 j]at hj;by_cases q':j=X.h.next
   .rw[if_pos q',hD]at hj;exact .inl ⟨q',by simpa using hj.symm⟩
   .rw[if_neg q',g0 j]at hj;by_cases q'':j=b
    .rw[if_pos q'']at hj;cases hj
    .rw[if_neg q'']at hj;exact .inr (.inr ⟨hj,q'',H.lt j o hj⟩)
 let A':Nat->Prop:=fun q=>X.A q\/((Loc.cE x c m).own q/\q≠p.1/\q≠p.2)
 have bO:∀q,Cx.bO ⟨s',⟨t₂,X.h.next+2⟩,X.w,A'⟩ q->X.bO q/\((Loc.cE x c m).own q->q=p.1\/q=p.2):=by
  rintro q ⟨j,o,l,e1,e2,e3⟩
  replace e1:t₂.get j=some o:=e1
  replace e2:s' j=some l:=e2
  rcases alt j o e1 with⟨rfl,rfl⟩|⟨rfl,rfl⟩|⟨f1,f2,f3⟩
  .rw[sn]at e2;cases e2;cases e3;exact⟨⟨b,_,_,hb,hs,own1⟩,fun _=>.inl rfl⟩
  .rw[sn1]at e2;cases e2;cases e3;exact⟨⟨b,_,_,hb,hs,own2⟩,fun _=>.inr rfl⟩
  .rw[sl j f3]at e2;exact⟨⟨j,o,l,f1,e2,e3⟩,fun hq=>absurd (H.inj j b o _ l _ q f1 hb e2 hs e3 hq) f2⟩
 have E:gl X ⟨s',⟨t₂,X.h.next+2⟩,X.w,A'⟩:=by
  refine⟨fun j l h=>by show s' j=_;rw[sl j (H.di j l h)];exact h,?_,?_⟩
  .intro q o hq e;refine⟨e,?_⟩;rintro((r|⟨r,_⟩)|r)
   .exact hq (.inl r)
   .exact hq (.inr ⟨b,_,_,hb,hs,r⟩)
   .exact hq (.inr (bO q r).1)
  .intro j l n h1' q;obtain⟨o',q,hr⟩:=ki q;rcases alt j _ q with⟨_,q⟩|⟨_,q⟩|⟨f1,_⟩
   .subst q;cases hr
   .subst q;cases hr
   .show rowOf X.h.tr j=some n;rw[jI f1];exact hr
 refine⟨⟨s',⟨t₂,X.h.next+2⟩,X.w,A'⟩,rfl,rfl,fun q=>Iff.rfl,sn,sn1,sl,⟨?_,?_,?_,?_,?_,?_⟩,E,fun q h=>(bO q h).1,?_,?_,?_⟩
 .intro j o l e1 e2
  replace e1:t₂.get j=some o:=e1
  replace e2:s' j=some l:=e2
  rcases alt j o e1 with⟨rfl,rfl⟩|⟨rfl,rfl⟩|⟨f1,f2,f3⟩
  .rw[sn]at e2;cases e2;exact⟨p.1,0,[.int .i64 d.1,.int .i64 d.2.1,.map (some p.2)],rfl,s1,_,_,rfl,rfl,_,_,rfl,rfl,_,_,rfl,⟨p.2,0,sn1,rfl⟩,rfl⟩
  .rw[sn1]at e2;cases e2;exact⟨p.2,0,es,clk,rfl,s2,s3.bj E.K⟩
  .rw[sl j f3]at e2;exact(H.obj j o l f1 e2).ext E (fun _ _=>rfl)
 .intro j k o o' l l' q e1 e2 e3 e4 e5 e6
  replace e1:t₂.get j=some o:=e1
  replace e2:t₂.get k=some o':=e2
  replace e3:s' j=some l:=e3
  replace e4:s' k=some l':=e4
  rcases alt j o e1 with⟨rfl,rfl⟩|⟨rfl,rfl⟩|⟨f1,f2,f3⟩<;>rcases alt k o' e2 with⟨rfl,rfl⟩|⟨rfl,rfl⟩|⟨k1,k2,k3⟩
  .rfl
  .rw[sn]at e3;rw[sn1]at e4;cases e3;cases e4;cases e5;exact absurd e6 hpp
  .rw[sn]at e3;cases e3;cases e5;rw[sl k k3]at e4;exact absurd (H.inj k b o' _ l' _ _ k1 hb e4 hs e6 own1) k2
  .rw[sn1]at e3;rw[sn]at e4;cases e3;cases e4;cases e6;exact absurd e5 hpp
  .rfl
  .rw[sn1]at e3;cases e3;cases e5;rw[sl k k3]at e4;exact absurd (H.inj k b o' _ l' _ _ k1 hb e4 hs e6 own2) k2
  .rw[sn]at e4;cases e4;cases e6;rw[sl j f3]at e3;exact absurd (H.inj j b o _ l _ _ f1 hb e3 hs e5 own1) f2
  .rw[sn1]at e4;cases e4;cases e6;rw[sl j f3]at e3;exact absurd (H.inj j b o _ l _ _ f1 hb e3 hs e5 own2) f2
  .rw[sl j f3]at e3;rw[sl k k3]at e4;exact H.inj j k o o' l l' q f1 k1 e3 e4 e5 e6
 .intro j o e1;rcases alt j o e1 with⟨rfl,_⟩|⟨rfl,_⟩|⟨_,_,f3⟩
  .show X.h.next<X.h.next+2;omega
  .show X.h.next+1<X.h.next+2;omega
  .show j<X.h.next+2;omega
 .intro j l e;show j<X.h.next+2;by_cases q:j<X.h.next
  .omega
  .replace e:s' j=some l:=e
   by_cases q1:j=X.h.next
   .omega
   .by_cases q2:j=X.h.next+1
    .omega
    .have:s' j=X.s j:=by show bZ _ _ _ _=_;rw[dE _ _ _ q2,dE _ _ _ q1]
     rw[this]at e;have:=H.di j l e;omega
 .rintro q (r|⟨r,_⟩)
  .exact H.alt q r
  .exact H.jj hb hs r
 .intro j o l q e1 e2 e3
  replace e1:t₂.get j=some o:=e1
  replace e2:s' j=some l:=e2
  rcases alt j o e1 with⟨rfl,rfl⟩|⟨rfl,rfl⟩|⟨f1,f2,f3⟩
  .rw[sn]at e2;cases e2;cases e3;rintro(r|⟨_,r,_⟩)
   .exact H.loc b _ _ _ hb hs own1 r
   .exact r rfl
  .rw[sn1]at e2;cases e2;cases e3;rintro(r|⟨_,_,r⟩)
   .exact H.loc b _ _ _ hb hs own2 r
   .exact r rfl
  .rw[sl j f3]at e2;rintro(r|⟨r,_⟩)
   .exact H.loc j o l q f1 e2 e3 r
   .exact f2 (H.inj j b o _ l _ q f1 hb e2 hs e3 r)
 .intro j o hj e;rcases alt j o e with⟨rfl,_⟩|⟨rfl,_⟩|⟨f1,f2,_⟩
  .omega
  .omega
  .exact⟨f1,f2⟩
 .intro j hj hjb;show t₂.get j=_;rw[g2 j,if_neg (by omega),g1 j,if_neg (by omega),g0 j,if_neg hjb]
 .intro q hq a1 a2 hi;rcases(bO q hi).2 hq with r|r
  .exact a1 r
  .exact a2 r
theorem Xg{R:Type}{P:Program}{call:iM R}(hc:kf P call):kf P (AN call):=by
 intro f vs h k r e;unfold AN at e;split at e
 .exact hc _ _ _ _ _ e
 rename_i v₀ rest;split at e
 case h_2=>exact hc _ _ _ _ _ e
 rename_i b i;split at e<;>try cases e
 rename_i L ty hb;split at e<;>try cases e
 rename_i t₀ h0;split at e<;>try cases e
 rename_i t₁ h1;split at e<;>try cases e
 rename_i t₂ h2;obtain⟨ch,v,h',hk,_,hfn,hcall⟩:=hc _ _ _ _ _ e;split at hk<;>try cases hk
 rename_i a w j ty₂ M hn hn1;split at hk<;>try cases hk
 rename_i hj hty;have hj:=bD hj;have hty:=bD hty;subst hj;subst hty;split at hk<;>try cases hk
 rename_i t₃ h3;split at hk<;>try cases hk
 rename_i t₄ h4;split at hk<;>try cases hk
 rename_i t₅ h5;refine⟨true,v,⟨t₅,h'.next⟩,hk,(fun q=>by cases q),hfn,?_⟩;intro X args hX H hR;subst hX;obtain⟨V₀,rs,rfl,⟨x,c,m,p,hs,hp,rfl⟩,hRr⟩:=hR;obtain⟨X₁,w1,hh1,hA1,sn,sn1,sl,H₁,E₁,img1,tr1,tr1',off1⟩:=af1 H hb hs hp h0 h1 h2;refine(w1▸hcall X₁ (.pointer (some ⟨p.1,0,none⟩)::rs) hh1 H₁ ⟨_,_,rfl,⟨p.1,0,sn,rfl⟩,hRr.ext E₁⟩:Calls P f _ X.w _).mono ?_;rintro e' w' ⟨X₂,V,rfl,rfl,hh2,H₂,E₂,hv⟩;subst hh2;obtain⟨tail,ty',r1,r2,r3,r4⟩:=H.obj b _ _ hb hs;obtain⟨n1,n2⟩:=List.nodup_cons.1 r4;have hbn:=H.lt b _ hb;have own1:(Loc.cE x c m).own p.1:=.inr ⟨p,dc hp,.inl rfl⟩;have own2:(Loc.cE x c m).own p.2:=.inr ⟨p,dc hp,.inr rfl⟩;have s2b:X₂.s b=some (.cE x c m):=E₂.sg _ _ (by rw[sl b hbn];exact hs);have s2n:=E₂.sg _ _ sn;have s2n1:=E₂.sg _ _ sn1;have g3:=Tr.cI _ _ _ _ _ h3;have g4:=Tr.cI _ _ _ _ _ h4;have g5:=Tr.cI _ _ _ _ _ h5;have alt:∀j o,t₅.get j=some o->(j=b/\o=.dL (L.set i (a,(w,(M,())))) ty₂)\/(X₂.h.tr.get j=some o/\j≠b/\j≠X.h.next/\j≠X.h.next+1):=by
  intro j o hj;rw[g5 j]at hj;by_cases q:j=b
  .rw[if_pos q]at hj;exact .inl ⟨q,by simpa using hj.symm⟩
  .rw[if_neg q,g4 j]at hj;by_cases q':j=X.h.next+1
   .rw[if_pos q']at hj;cases hj
   .rw[if_neg q',g3 j]at hj;by_cases q'':j=X.h.next
    .rw[if_pos q'']at hj;cases hj
    .rw[if_neg q'']at hj;exact .inr ⟨hj,q,q'',q'⟩
 have hA2:X₂.A=X₁.A:=E₂.A;have alone:∀j o l q,X₂.h.tr.get j=some o->j≠X.h.next->j≠X.h.next+1->X₂.s j=some l->l.own q->¬(Loc.cE x c m).own q:=by
  intro j o l q e1 e2 e3 e4 e5 e6;by_cases q1:q=p.1
  .subst q1;exact e2 (H₂.inj j _ o _ l _ _ e1 hn e4 s2n e5 rfl)
  .by_cases q2:q=p.2
   .subst q2;exact e3 (H₂.inj j _ o _ l _ _ e1 hn1 e4 s2n1 e5 rfl)
   .exact H₂.loc j o l q e1 e4 e5 (by rw[hA2];exact(hA1 q).2 (.inr ⟨e6,q1,q2⟩))
 have img3:∀q,Cx.bO ⟨X₂.s,⟨t₅,X₂.h.next⟩,X₂.w,X.A⟩ q->(Loc.cE x c m).own q\/X₂.bO q:=by
  rintro q ⟨j,o,l,e1,e2,e3⟩
  replace e1:t₅.get j=some o:=e1
  replace e2:X₂.s j=some l:=e2
  rcases alt j o e1 with⟨rfl,rfl⟩|⟨f1,_⟩
  .rw[s2b]at e2;cases e2;exact .inl e3
  .exact .inr ⟨j,o,l,f1,e2,e3⟩
 have inOut:∀q,(Loc.cE x c m).own q->X₂.out q:=by
  intro q hq;by_cases q1:q=p.1
  .subst q1;exact .inr ⟨_,_,_,hn,s2n,rfl⟩
  .by_cases q2:q=p.2
   .subst q2;exact .inr ⟨_,_,_,hn1,s2n1,rfl⟩
   .exact .inl (by rw[hA2];exact(hA1 q).2 (.inr ⟨hq,q1,q2⟩))
 have E₃:gl X₂ ⟨X₂.s,⟨t₅,X₂.h.next⟩,X₂.w,X.A⟩:=by
  refine⟨fun _ _ h=>h,?_,?_⟩
  .intro q o hq e;refine⟨e,?_⟩;rintro(r|r)
   .exact hq (.inl (by rw[hA2];exact(hA1 q).2 (.inl r)))
   .rcases img3 q r with r|r
    .exact hq (inOut q r)
    .exact hq (.inr r)
  .intro j l n _ q;obtain⟨o',q,hr⟩:=ki q;rcases alt j _ q with⟨_,q⟩|⟨f1,_⟩
   .subst q;cases hr
   .show rowOf X₂.h.tr j=some n;rw[jI f1];exact hr
 have size:∀q,X.bO q->q<X.w.heap.size:=fun q hq=>H.vX hq;have still:∀q,(Loc.cE x c m).own q->q≠p.1->q≠p.2->X₂.w.heap[q]?=X.w.heap[q]?:=by intro q hq a1 a2;have:=E₂.frame q (by rw[w1];exact H.jj hb hs hq) (off1 q hq a1 a2);rw[this,w1]
 have H₃:aF ⟨X₂.s,⟨t₅,X₂.h.next⟩,X₂.w,X.A⟩:=by
  refine⟨?_,?_,?_,H₂.di,fun q hq=>H₂.alt q (by rw[hA2];exact(hA1 q).2 (.inl hq)),?_⟩
  .intro j o l e1 e2
   replace e1:t₅.get j=some o:=e1
   replace e2:X₂.s j=some l:=e2
   rcases alt j o e1 with⟨rfl,rfl⟩|⟨f1,_⟩
   .rw[s2b]at e2;cases e2;obtain⟨y,c',cs,k1,k2,k3⟩:=H₂.obj _ _ _ hn s2n;cases k1;obtain⟨y',c'',es,clk,k4,k5,k6⟩:=H₂.obj _ _ _ hn1 s2n1;cases k4;obtain⟨u1,t1,rfl,rfl,u2,t2,rfl,rfl,u3,t3,rfl,⟨y3,c3,z1,rfl⟩,t4⟩:=k3;have:t3=[]:=t4;subst this;rw[s2n1]at z1;cases z1;refine⟨tail,ty',?_,r2,?_,r4⟩
    .show X₂.w.heap[x]?=_;rw[still x (.inl rfl) (fun e=>n1 (e▸(FE hp).1)) (fun e=>n1 (e▸(FE hp).2))];exact r1
    .have hK:jl X.w X.out X₂.w (Cx.out ⟨X₂.s,⟨t₅,X₂.h.next⟩,X₂.w,X.A⟩):=by have K2:jl X₁.w X₁.out X₂.w X₂.out:=E₂.keeps;exact(E₁.K.trans K2).trans E₃.K
     refine gg.bZ hK ⟨k2,es,clk,k5,k6.bj E₃.K⟩ hp r3 ?_;intro k q hk hne;obtain⟨a1,a2,a3,a4⟩:=Wz n2 hp hk hne;have hm:=dc hk;exact⟨still q.1 (.inr ⟨q,hm,.inl rfl⟩) a1 a2,still q.2 (.inr ⟨q,hm,.inr rfl⟩) a3 a4⟩
   .exact(H₂.obj j o l f1 e2).ext E₃ (fun _ _=>rfl)
  .intro j k o o' l l' q e1 e2 e3 e4 e5 e6
   replace e1:t₅.get j=some o:=e1
   replace e2:t₅.get k=some o':=e2
   replace e3:X₂.s j=some l:=e3
   replace e4:X₂.s k=some l':=e4
   rcases alt j o e1 with⟨rfl,rfl⟩|⟨f1,f2,f3,f4⟩<;>rcases alt k o' e2 with⟨rfl,rfl⟩|⟨k1,k2,k3,k4⟩
   .rfl
   .rw[s2b]at e3;cases e3;exact absurd e5 (alone k o' l' q k1 k3 k4 e4 e6)
   .rw[s2b]at e4;cases e4;exact absurd e6 (alone j o l q f1 f3 f4 e3 e5)
   .exact H₂.inj j k o o' l l' q f1 k1 e3 e4 e5 e6
  .intro j o e1;rcases alt j o e1 with⟨rfl,rfl⟩|⟨f1,_⟩
   .show j<X₂.h.next;have:=E₂.next;rw[hh1]at this;have:X.h.next+2<=X₂.h.next:=this;omega
   .exact H₂.lt j o f1
  .intro j o l q e1 e2 e3
   replace e1:t₅.get j=some o:=e1
   replace e2:X₂.s j=some l:=e2
   rcases alt j o e1 with⟨rfl,rfl⟩|⟨f1,_⟩
   .rw[s2b]at e2;cases e2;exact H.loc j _ _ q hb hs e3
   .intro r;exact H₂.loc j o l q f1 e2 e3 (by rw[hA2];exact(hA1 q).2 (.inl r))
 have uz:X.h.next+2<=X₂.h.next:=by have:=E₂.next;rw[hh1]at this;exact this
 refine⟨⟨X₂.s,⟨t₅,X₂.h.next⟩,X₂.w,X.A⟩,V,rfl,rfl,rfl,H₃,?_,hv.ext E₃⟩;refine⟨by rw[<-w1];exact E₂.os,by rw[<-w1];exact E₂.tape,by rw[<-w1];exact E₂.output,by rw[<-w1];exact E₂.size,?_,?_,by show X.h.next<=X₂.h.next;omega,?_,?_,?_,?_,rfl⟩
 .intro j l hj;exact E₂.sg j l (by rw[sl j (H.di j l hj)];exact hj)
 .intro j l hj e;have:=E₂.di j l (by rw[hh1];show j<X.h.next+2;omega) e;rw[sl j hj]at this;exact this
 .intro q hq hn';have:=E₂.frame q (by rw[w1];exact hq) (fun r=>hn' (img1 q r));show X₂.w.heap[q]?=_;rw[this,w1]
 .intro q hq;rcases img3 q hq with r|r
  .exact .inl ⟨b,_,_,hb,hs,r⟩
  .rcases E₂.bO q r with r|r
   .exact .inl (img1 q r)
   .exact .inr (by rw[<-w1];exact r)
 .intro j n hj q;obtain⟨o',q,hr⟩:=ki q;rcases alt j _ q with⟨_,q⟩|⟨f1,_⟩
  .subst q;cases hr
  .have:=E₂.len j n (by rw[hh1];show j<X.h.next+2;omega) (by rw[jI f1];exact hr);obtain⟨o₁,q1,q2⟩:=ki this;show rowOf X.h.tr j=some n;rw[jI (tr1 j _ hj q1).1];exact q2
 .intro j hj hsj;have hjb:j≠b:=by rintro rfl;rw[hs]at hsj;cases hsj
  show t₅.get j=_;rw[g5 j,if_neg hjb,g4 j,if_neg (by omega),g3 j,if_neg (by omega),E₂.same j (by rw[hh1];show j<X.h.next+2;omega) (by rw[sl j hj];exact hsj)];exact tr1' j hj hjb
structure Kn where
 S:vp
 Q:KF
structure nN(P:Program)(K:Kn):Prop where
 S:Ka P K.S
 Q:Xj P K.Q
def AM{R:Type}(K:Kn):iM R:=fun f vs h k=>match K.S f with|some _=>JH K.S f vs h k|none=>DN (K.Q f) vs h k
theorem Xh{R:Type}{P:Program}{K:Kn}(hK:nN P K):kf P (AM (R:=R) K):=by
 intro f vs h k r e;unfold AM at e;split at e
 .exact afT hK.S f vs h k r e
 .exact Xr (hK.Q f) e
def known(K:Kn)(f:FuncId):Bool:=match K.S f with|some _=>true|none=>match K.Q f with|[]=>false|_=>true
abbrev Env:=FuncId->Option Func
def pk(P:Program)(E:Env):Prop:=∀f e,E f=some e->P.funcs[f]?=some e/\(e.name == "runtime.NumGoroutine")=false
def J2{R:Type}(p:FuncId->Bool)(a b:iM R):iM R:=fun f vs h k=>match p f with|true=>a f vs h k|false=>b f vs h k
theorem ajw{R:Type}{P:Program}{p:FuncId->Bool}{a b:iM R}(ha:kf P a)(hb:kf P b):kf P (J2 p a b):=by
 intro f vs h k r e;unfold J2 at e;split at e
 .exact ha f vs h k r e
 .exact hb f vs h k r e
section
variable{R:Type}(P:Program)(sh:TypeId->Option Sh)(S:Kn)(E:Env)
def qx:Nat->iM R
 |0=>AN (AM S)|d+1=>AN (J2 (known S) (AM S) fun f vs h k=>match E f with
  |some e=>match e.body with
   |some c=>match kX e.ntmps vs 0 .nil with
    |some T=>runK P sh (qx d) (fun _ _ _=>none) e.ntmps c ⟨T,h⟩ fun x st=>match x with|.exit _=>none|_=>match lV P st e.results.toList with|some rs=>k true (pR rs) st.h|none=>none
    |none=>none
   |none=>none
  |none=>none)
end
theorem um{R:Type}{P:Program}(hm:P.follows .mixedOrders=true){sh:TypeId->Option Sh}{S:Kn}(hS:nN P S){E:Env}(hE:pk P E):∀d,kf P (qx (R:=R) P sh S E d)
 |0=>Xg (Xh hS)|d+1=>by
  refine Xg (ajw (Xh hS) ?_);intro f vs h k r e;dsimp only at e;split at e<;>try cases e
  rename_i en hen;obtain⟨hf,hname⟩:=hE f en hen;split at e<;>try cases e
  rename_i c hb;split at e<;>try cases e
  rename_i T hT;obtain⟨x,st,hk,Tk⟩:=uw (G:=fun _=>True) hm (um hm hS hE d) (base:=h.next) c (fun x _ st k r q=>by cases q) _ _ r e;have main:(match lV P st en.results.toList with
      |some rs=>k true (pR rs) st.h|none=>none)=some r->(∀i,x≠.exit i)->∃ch v h',k ch v h'=some r/\(ch=false->fl h h')/\AK P f vs h v h':=by
   intro hk hx;split at hk<;>try cases hk
   rename_i rs hrs;refine⟨true,_,st.h,hk,(fun q=>by cases q),⟨en,c,hf,hname,hb⟩,?_⟩;intro X args hX H hR;subst hX;refine calls_of_wp hf hb ?_;refine Tk X X _ ⟨rfl,trivial⟩ H (aO.refl X) (uc H hT hR) _ ?_;intro X' a' R' E';obtain⟨Vs,g1,g2⟩:=FF R' hrs;have fin:a'.defers=[]/\∃V,(results en a'.tmps).run P X'.w=.ok V X'.w/\∃X'' V',Ending.returned V=.returned V'/\X''.w=X'.w/\X''.h=st.h/\aF X''/\aO X X''/\Rel X'' (pR rs) V':=⟨R'.T.defers,_,g1,X',_,rfl,rfl,R'.h,R'.H,E',Bh g2⟩;cases x with|exit i=>exact absurd rfl (hx i)|normal=>exact fin|ret=>exact fin
  cases x with
  |exit i=>simp only[]at hk;cases hk
  |normal=>exact main hk (fun i q=>by cases q)
  |ret=>exact main hk (fun i q=>by cases q)
def rj{τs:List Sh}(P:Program)(sh:TypeId->Option Sh)(S:Kn)(E:Env)(dep:Nat)(loops:lr (TL τs))(e:Func)(c:Code)(σs:List Sh)(d:TL σs):Option (TL τs):=match kX e.ntmps (yn σs d) 0 .nil with
 |some T=>runK P sh (qx P sh S E dep) loops e.ntmps c ⟨T,⟨.nil,0⟩⟩ fun x st=>match x with
  |.exit _=>none|_=>match lV P st e.results.toList with
   |some rs=>match mo true st.h τs rs with|some (x,_)=>some x|none=>none
   |none=>none
 |none=>none
theorem ai7{P:Program}(hm:P.follows .mixedOrders=true){sh:TypeId->Option Sh}{S:Kn}(hS:nN P S){E:Env}(hE:pk P E){dep:Nat}{f:FuncId}{e:Func}{c:Code}{σs τs:List Sh}{loops:lr (TL τs)}(hl:∀x∈fb c,lO P Real 0 e.ntmps x (loops (jS x)))
  (hf:P.funcs[f]?=some e) (hname:(e.name == "runtime.NumGoroutine")=false) (hb:e.body=some c) {F:TL σs->Option (TL τs)}
  (h:∀d x,F d=some x->rj P sh S E dep loops e c σs d=some x):Comes P f σs τs F:=by
 refine⟨⟨e,c,hf,hname,hb⟩,?_⟩;intro d x hx w A args hA ha;have hr:=h d x hx;unfold rj at hr;split at hr<;>try cases hr
 rename_i T hT;obtain⟨y,st,hk,Tk⟩:=uw (G:=Real) hm (um hm hS hE dep) (base:=0) c hl _ _ _ hr
 let X:Cx:=⟨fun _=>none,⟨.nil,0⟩,w,A⟩
 have out:∀b,X.out b->A b:=by
  rintro b (q|⟨i,o,c,h1,h2⟩)
  .exact q
  .simp[X,Tr.get]at h1
 have H:aF X:=⟨fun i o l h=>by simp[X,Tr.get]at h,fun i j o o' b c c' h=>by simp[X,Tr.get]at h,fun i o h=>by simp[X,Tr.get]at h,fun i l h=>by simp[X]at h,hA,fun i o b c h=>by simp[X,Tr.get]at h⟩;have ha':k7 X.w X.out σs d args:=ha.bj (fun b o q r=>⟨r,fun s=>q (out b s)⟩);refine calls_of_wp hf hb ?_;refine Tk X X _ ⟨rfl,fun i hi=>absurd hi (Nat.not_lt_zero i)⟩ H (aO.refl X) (uc H hT (yb ha')) _ ?_;intro X' a' R' E';have main:(match lV P st e.results.toList with
   |some rs=>match mo true st.h τs rs with|some (x,_)=>some x|none=>none
   |none=>none)=some x->a'.defers=[]/\∃V,(results e a'.tmps).run P X'.w=.ok V X'.w/\∃vs,Ending.returned V=.returned (lM vs)/\Below w.heap.size w X'.w/\k7 X'.w A τs x vs:=by
  intro hk;split at hk<;>try cases hk
  rename_i rs hrs;split at hk<;>cases hk;rename_i h' hfz;obtain⟨Vs,g1,g2⟩:=FF R' hrs;have hX:=R'.h;rw[<-hX]at hfz;obtain⟨Fz,hA'⟩:=vL R'.H hfz g2;refine⟨R'.T.defers,_,g1,Vs,rfl,⟨E'.os,E'.tape,E'.output,E'.size,fun b hb=>E'.frame b hb ?_⟩,?_⟩
  .rintro⟨i,o,c,h1,h2⟩;simp[X,Tr.get]at h1
  .refine hA'.bj (fun b o q r=>⟨r,fun s=>q (.inl ?_)⟩);show X'.A b;rw[E'.A];exact s
 cases y with
 |exit i=>simp only[]at hk;cases hk
 |normal=>exact main hk|ret=>exact main hk
def xn{outs:List (Ex×Lay)}(P:Program)(sh:TypeId->Option Sh)(S:Kn)(E:Env)(dep:Nat)(loops:lr (Out outs))(e:Func)(c:Code)(np nr:Nat)(lay:Lay)(d:TL lay.σs):Option (Out outs):=match lay.put np d with
 |some st=>match l8 st.T np 0 with
  |some vs=>match kX e.ntmps vs 0 .nil with
   |some T=>runK P sh (qx P sh S E dep) loops e.ntmps c ⟨T,st.h⟩ fun x st=>match x with
    |.exit _=>none|_=>match lV P st e.results.toList with
     |some rs=>match Nat.beq (tB rs) nr,kX nr rs 0 .nil with|true,some T=>oF lay.nx nr outs .ret ⟨T,st.h⟩|_,_=>none
     |none=>none
   |none=>none
  |none=>none
 |none=>none
theorem aiR{P:Program}(hm:P.follows .mixedOrders=true){sh:TypeId->Option Sh}{S:Kn}(hS:nN P S){E:Env}(hE:pk P E){dep:Nat}{f:FuncId}{e:Func}{c:Code}{s:lu}{loops:lr (Out s.outs)}(hl:∀x∈fb c,lO P Real s.lay.nx e.ntmps x (loops (jS x)))
  (hf:P.funcs[f]?=some e) (hname:(e.name == "runtime.NumGoroutine")=false) (hb:e.body=some c)
  (h:∀d o,s.F d=some o->xn P sh S E dep loops e c s.np s.nr s.lay d=some o):jv P f s:=by
 refine⟨⟨e,c,hf,hname,hb⟩,?_⟩;intro d o ho st ex st' hp hs X vs args hX H hr hv hR;have hrun:=h d o ho;unfold xn at hrun;rw[hp]at hrun;dsimp only at hrun;rw[hv]at hrun;dsimp only at hrun;split at hrun<;>try cases hrun
 rename_i T hT;have hn:st.h.next=s.lay.nx:=by
  unfold Lay.put at hp;split at hp<;>try cases hp
  split at hp<;>cases hp;rfl
 rw[<-hX]at hrun;obtain⟨y,st₂,hk,Tk⟩:=uw (G:=Real) hm (um hm hS hE dep) (base:=s.lay.nx) c hl _ _ _ hrun;refine calls_of_wp hf hb ?_;refine Tk X X _ ⟨by rw[hX];exact hn,hr⟩ H (aO.refl X) (uc H hT hR) _ ?_;intro X' a' R' E';have main:(match lV P st₂ e.results.toList with
   |some rs=>match Nat.beq (tB rs) s.nr,kX s.nr rs 0 .nil with|true,some T=>oF s.lay.nx s.nr s.outs .ret ⟨T,st₂.h⟩|_,_=>none
   |none=>none)=some o->a'.defers=[]/\∃V,(results e a'.tmps).run P X'.w=.ok V X'.w/\∃X'' Vs,Ending.returned V=.returned (lM Vs)/\X''.w=X'.w/\X''.h=st'.h/\aF X''/\aO X X''/\∀us,l8 st'.T s.nr 0=some us->bB X'' us Vs:=by
  intro hk;split at hk<;>try cases hk
  rename_i rs hrs;split at hk<;>try cases hk
  rename_i T₂ hlen hT₂;have hlen:=bD hlen;rw[J5]at hlen;obtain⟨Vs,g1,g2⟩:=FF R' hrs;have hVl:Vs.length=s.nr:=by rw[g2.length];exact hlen
  have R₂:=uc R'.H hT₂ g2;rw[R'.h]at R₂;obtain⟨X'',w'',R₃,E₃⟩:=(QV hk hs).2 ⟨by rw[hX];exact hn,hr⟩ H E' R₂;refine⟨R'.T.defers,_,g1,X'',Vs,rfl,w'',R₃.h,R₃.H,E₃,fun us hus=>QC R₃.T hus hVl (fun t ht=>?_)⟩;simp only[Nat.zero_add];rw[Array.getElem?_append_left (by simpa[hVl]using ht)];simp
 cases y with
 |exit i=>simp only[]at hk;cases hk
 |normal=>exact main hk|ret=>exact main hk
structure Vr where
 lay:Lay
 own:List (Tmp×Sh×TypeId)
 outs:List (Ex×Lay)
 L:TL lay.σs->Option (Out outs)
def vD{R:Type}(base n:Nat)(s:Vr)(st:St)(k:Ex->St->Option R):Option R:=match enter base n s.lay s.own st with|some d=>ao (s.L d) fun o=>ri n s.outs o k|none=>none
def xm(P:Program)(sh:TypeId->Option Sh)(S:Kn)(E:Env)(dep base n:Nat)(lay:Lay)(outs:List (Ex×Lay))(loops:lr (TL lay.σs⊕Out outs))(x:Code)(d:TL lay.σs):Option (TL lay.σs⊕Out outs):=match lay.put n d with
 |some st=>runK P sh (qx P sh S E dep) loops n x st fun e st=>match e with
  |.normal=>match enter base n lay [] st with|some d=>some (.inl d)|none=>none
  |.exit i=>match oF base n outs (.exit i) st with|some o=>some (.inr o)|none=>none
  |.ret=>match oF base n outs .ret st with|some o=>some (.inr o)|none=>none
 |none=>none
def aX{D O:Type}(B:D->Option (D⊕O)):Nat->D->Option O
 |0,_=>none|m+1,d=>match B d with
  |some r=>match r with|.inl d=>aX B m d|.inr o=>some o
  |none=>none
theorem Zby{R:Type}{P:Program}(hm:P.follows .mixedOrders=true){sh:TypeId->Option Sh}{S:Kn}(hS:nN P S){E:Env}(hE:pk P E){dep base n:Nat}{s:Vr}{x:Code}{loops:lr (TL s.lay.σs⊕Out s.outs)}
  (hl:∀y∈fb x,lO P Real base n y (loops (jS y))) (h:∀d o,s.L d=some o->∃m,aX (xm P sh S E dep base n s.lay s.outs loops x) m d=some o):lO P Real base n x (vD (R:=R) base n s):=by
 intro st k r e;unfold vD at e;split at e<;>try cases e
 rename_i d hd;obtain⟨o,ho,hk⟩:=vY e;obtain⟨ex,st',hs,hk⟩:=J1 hk;obtain⟨m,hmm⟩:=h d o ho;have key:∀m d,aX (xm P sh S E dep base n s.lay s.outs loops x) m d=some o->∃st,s.lay.put n d=some st/\∀X₀ X a,(X₀.h.next=base/\Real X₀)->aF X₀->aO X₀ X->RF X n st a->∀Q:Exit->Act->World->Prop,
   (∀X' a',RF X' n st' a'->aO X₀ X'->Q ex.to a' X'.w)->Code.rounds P x Q m a X.w:=by
  intro m
  induction m with
  |zero=>intro d e;cases e
  |succ m ih=>
   intro d e;simp only[aX]at e;split at e<;>try cases e
   rename_i rr hB;unfold xm at hB;split at hB<;>try cases hB
   rename_i st₁ hp;refine⟨st₁,hp,?_⟩;obtain⟨e₂,st₂,hk₂,Tk⟩:=uw (G:=Real) hm (um hm hS hE dep) (base:=base) x hl _ _ _ hB;intro X₀ X a hb H₀ hE RR Q hQ;rw[rounds_succ];refine Tk X₀ X a hb H₀ hE RR _ ?_;intro X' a' R' E';have out:∀i o',oF base n s.outs i st₂=some o'->some (Sum.inr o')=some rr->Q i.to a' X'.w:=by intro i o' ho' hk₂;cases hk₂;simp only[bV]at e;subst e;obtain⟨q1,q2⟩:=QV ho' hs;subst q1;obtain⟨X'',hw,R'',E''⟩:=q2 hb H₀ E' R';rw[<-hw];exact hQ X'' a' R'' E''
   cases e₂ with
   |normal=>simp only[]at hk₂;split at hk₂<;>cases hk₂;rename_i d' hd';simp only[]at e;obtain⟨st₃,hp₃,rest⟩:=ih d' e;obtain⟨X'',hw,R'',E''⟩:=FV hd' hp₃ hb H₀ E' R';have:=rest X₀ X'' a' hb H₀ E'' R'' Q hQ;rw[hw]at this;exact this
   |exit i=>
    simp only[]at hk₂;split at hk₂<;>try cases hk₂
    rename_i o' ho';exact out (.exit i) o' ho' rfl
   |ret=>
    simp only[]at hk₂;split at hk₂<;>try cases hk₂
    rename_i o' ho';exact out .ret o' ho' rfl
 obtain⟨st₁,hp,S'⟩:=key m d hmm;refine⟨ex,st',hk,?_⟩;intro X₀ X a hb H₀ hE RR Q hQ;obtain⟨X₁,w₁,R₁,E₁⟩:=FV hd hp hb H₀ hE RR;have:=S' X₀ X₁ a hb H₀ E₁ R₁ Q hQ;rw[w₁]at this;exact wp_loop_rounds m this
def shL(f:TypeId->Option Sh):List Field->Option (List Sh)
 |[]=>some []|x::l=>match f x.type with
  |some s=>match shL f l with|some r=>some (s::r)|none=>none
  |none=>none
def nm(P:Program):Nat->TypeId->Option Sh
 |0,_=>none|k+1,t=>match P.underlying t with
  |some d=>match d with
   |.bool=>some .bool|.int k=>some (.int k)|.string=>some .str|.slice e=>match nm P k e with|some s=>some (.sl s)|none=>none
   |.struct fs=>match shL (nm P k) fs.toList with|some l=>some (.agg l)|none=>none
   |_=>none
  |none=>none
def bh(f:Func):Code:=match f.body with|some c=>c|none=>.skip
def bI:List Nat->Code->Code
 |[],c=>c|i::l,c=>match Ev.nth (fb c) i with|some x=>bI l x|none=>.skip
def A0:List (Nat×Spec)->vp
 |[],_=>none|p::l,f=>match Nat.beq p.1 f with|true=>some p.2|false=>A0 l f
def vO:List (Nat×lu)->KF
 |[],_=>[]|p::l,f=>match Nat.beq p.1 f with|true=>p.2::vO l f|false=>vO l f
def lK:List (Nat×Func)->Env
 |[],_=>none|p::l,f=>match Nat.beq p.1 f with|true=>some p.2|false=>lK l f
theorem ru{P:Program}:∀{l:List (Nat×Func)},(∀p∈l,P.funcs[p.1]?=some p.2/\(p.2.name == "runtime.NumGoroutine")=false)->pk P (lK l)
 |[],_,f,e,h=>by cases h
 |p::l,hC,f,e,h=>by
  simp only[lK]at h;split at h
  .rename_i q;cases h;rw[<-bD q];exact hC p (by simp)
  .exact ru (fun p' hp=>hC p' (by simp[hp])) f e h
def kn(l:List (Nat×Spec))(q:List (Nat×lu)):Kn:=⟨A0 l,vO q⟩
theorem WL{P:Program}:∀{l:List (Nat×Spec)},(∀p∈l,Comes P p.1 p.2.σs p.2.τs p.2.F)->Ka P (A0 l)
 |[],_,f,s,h=>by cases h
 |p::l,hC,f,s,h=>by
  simp only[A0]at h;split at h
  .rename_i q;cases h;rw[<-bD q];exact hC p (by simp)
  .exact WL (fun p' hp=>hC p' (by simp[hp])) f s h
theorem QE{P:Program}:∀{l:List (Nat×lu)},(∀p∈l,jv P p.1 p.2)->Xj P (vO l)
 |[],_,f,s,h=>by cases h
 |p::l,hC,f,s,h=>by
  simp only[vO]at h;split at h
  .rename_i q;have q:=bD q;rcases List.mem_cons.1 h with rfl|h
   .rw[<-q];exact hC p (by simp)
   .exact QE (fun p' hp=>hC p' (by simp[hp])) f s h
  .exact QE (fun p' hp=>hC p' (by simp[hp])) f s h
theorem aik{P:Program}{l:List (Nat×Spec)}{q:List (Nat×lu)}(h1:∀p∈l,Comes P p.1 p.2.σs p.2.τs p.2.F)(h2:∀p∈q,jv P p.1 p.2):nN P (kn l q):=⟨WL h1,QE h2⟩
set_option maxRecDepth 100000
abbrev iL(a b:Int):Bool:=@decide _ (Int.decLt a b)
abbrev iE(a b:Int):Bool:=@decide _ (Int.decLe a b)
abbrev iQ(a b:Int):Bool:=@decide _ (Int.instDecidableEq a b)
abbrev bQ(a b:Bool):Bool:=@decide _ (instDecidableEqBool a b)
abbrev nQ(a b:Nat):Bool:=@decide _ (instDecidableEqNat a b)
section
variable{a1 a2 a3 a4 a5 a6 a7 a8 a9 a10 a11 a12 a13 a14 a15 a16 a17 a18 a19 a20 a21 a22 a23 a24 z r:Type}
abbrev u1(f:a1->r)(d:a1×z):r:=f d.1
abbrev u2(f:a1->a2->r)(d:a1×a2×z):r:=f d.1 d.2.1
abbrev u3(f:a1->a2->a3->r)(d:a1×a2×a3×z):r:=f d.1 d.2.1 d.2.2.1
abbrev u4(f:a1->a2->a3->a4->r)(d:a1×a2×a3×a4×z):r:=f d.1 d.2.1 d.2.2.1 d.2.2.2.1
abbrev u5(f:a1->a2->a3->a4->a5->r)(d:a1×a2×a3×a4×a5×z):r:=f d.1 d.2.1 d.2.2.1 d.2.2.2.1 d.2.2.2.2.1
abbrev u6(f:a1->a2->a3->a4->a5->a6->r)(d:a1×a2×a3×a4×a5×a6×z):r:=f d.1 d.2.1 d.2.2.1 d.2.2.2.1 d.2.2.2.2.1 d.2.2.2.2.2.1
abbrev u7(f:a1->a2->a3->a4->a5->a6->a7->r)(d:a1×a2×a3×a4×a5×a6×a7×z):r:=f d.1 d.2.1 d.2.2.1 d.2.2.2.1 d.2.2.2.2.1 d.2.2.2.2.2.1 d.2.2.2.2.2.2.1
abbrev u8(f:a1->a2->a3->a4->a5->a6->a7->a8->r)(d:a1×a2×a3×a4×a5×a6×a7×a8×z):r:=f d.1 d.2.1 d.2.2.1 d.2.2.2.1 d.2.2.2.2.1 d.2.2.2.2.2.1 d.2.2.2.2.2.2.1 d.2.2.2.2.2.2.2.1
abbrev u9(f:a1->a2->a3->a4->a5->a6->a7->a8->a9->r)(d:a1×a2×a3×a4×a5×a6×a7×a8×a9×z):r:=f d.1 d.2.1 d.2.2.1 d.2.2.2.1 d.2.2.2.2.1 d.2.2.2.2.2.1 d.2.2.2.2.2.2.1 d.2.2.2.2.2.2.2.1 d.2.2.2.2.2.2.2.2.1
abbrev kU(f:a1->a2->a3->a4->a5->a6->a7->a8->a9->a10->r)(d:a1×a2×a3×a4×a5×a6×a7×a8×a9×a10×z):r:=f d.1 d.2.1 d.2.2.1 d.2.2.2.1 d.2.2.2.2.1 d.2.2.2.2.2.1 d.2.2.2.2.2.2.1 d.2.2.2.2.2.2.2.1 d.2.2.2.2.2.2.2.2.1 d.2.2.2.2.2.2.2.2.2.1
abbrev kV(f:a1->a2->a3->a4->a5->a6->a7->a8->a9->a10->a11->r)(d:a1×a2×a3×a4×a5×a6×a7×a8×a9×a10×a11×z):r:=f d.1 d.2.1 d.2.2.1 d.2.2.2.1 d.2.2.2.2.1 d.2.2.2.2.2.1 d.2.2.2.2.2.2.1 d.2.2.2.2.2.2.2.1 d.2.2.2.2.2.2.2.2.1 d.2.2.2.2.2.2.2.2.2.1 d.2.2.2.2.2.2.2.2.2.2.1
abbrev mO(f:a1->a2->a3->a4->a5->a6->a7->a8->a9->a10->a11->a12->r)(d:a1×a2×a3×a4×a5×a6×a7×a8×a9×a10×a11×a12×z):r:=f d.1 d.2.1 d.2.2.1 d.2.2.2.1 d.2.2.2.2.1 d.2.2.2.2.2.1 d.2.2.2.2.2.2.1 d.2.2.2.2.2.2.2.1 d.2.2.2.2.2.2.2.2.1 d.2.2.2.2.2.2.2.2.2.1 d.2.2.2.2.2.2.2.2.2.2.1 d.2.2.2.2.2.2.2.2.2.2.2.1
abbrev ot(f:a1->a2->a3->a4->a5->a6->a7->a8->a9->a10->a11->a12->a13->r)(d:a1×a2×a3×a4×a5×a6×a7×a8×a9×a10×a11×a12×a13×z):r:=f d.1 d.2.1 d.2.2.1 d.2.2.2.1 d.2.2.2.2.1 d.2.2.2.2.2.1 d.2.2.2.2.2.2.1 d.2.2.2.2.2.2.2.1 d.2.2.2.2.2.2.2.2.1 d.2.2.2.2.2.2.2.2.2.1 d.2.2.2.2.2.2.2.2.2.2.1 d.2.2.2.2.2.2.2.2.2.2.2.1 d.2.2.2.2.2.2.2.2.2.2.2.2.1
abbrev i7(f:a1->a2->a3->a4->a5->a6->a7->a8->a9->a10->a11->a12->a13->a14->r)(d:a1×a2×a3×a4×a5×a6×a7×a8×a9×a10×a11×a12×a13×a14×z):r:=f d.1 d.2.1 d.2.2.1 d.2.2.2.1 d.2.2.2.2.1 d.2.2.2.2.2.1 d.2.2.2.2.2.2.1 d.2.2.2.2.2.2.2.1 d.2.2.2.2.2.2.2.2.1 d.2.2.2.2.2.2.2.2.2.1 d.2.2.2.2.2.2.2.2.2.2.1 d.2.2.2.2.2.2.2.2.2.2.2.1 d.2.2.2.2.2.2.2.2.2.2.2.2.1 d.2.2.2.2.2.2.2.2.2.2.2.2.2.1
abbrev fB(f:a1->a2->a3->a4->a5->a6->a7->a8->a9->a10->a11->a12->a13->a14->a15->r)(d:a1×a2×a3×a4×a5×a6×a7×a8×a9×a10×a11×a12×a13×a14×a15×z):r:=f d.1 d.2.1 d.2.2.1 d.2.2.2.1 d.2.2.2.2.1 d.2.2.2.2.2.1 d.2.2.2.2.2.2.1 d.2.2.2.2.2.2.2.1 d.2.2.2.2.2.2.2.2.1 d.2.2.2.2.2.2.2.2.2.1 d.2.2.2.2.2.2.2.2.2.2.1 d.2.2.2.2.2.2.2.2.2.2.2.1 d.2.2.2.2.2.2.2.2.2.2.2.2.1 d.2.2.2.2.2.2.2.2.2.2.2.2.2.1 d.2.2.2.2.2.2.2.2.2.2.2.2.2.2.1
abbrev u16(f:a1->a2->a3->a4->a5->a6->a7->a8->a9->a10->a11->a12->a13->a14->a15->a16->r)(d:a1×a2×a3×a4×a5×a6×a7×a8×a9×a10×a11×a12×a13×a14×a15×a16×z):r:=f d.1 d.2.1 d.2.2.1 d.2.2.2.1 d.2.2.2.2.1 d.2.2.2.2.2.1 d.2.2.2.2.2.2.1 d.2.2.2.2.2.2.2.1 d.2.2.2.2.2.2.2.2.1 d.2.2.2.2.2.2.2.2.2.1 d.2.2.2.2.2.2.2.2.2.2.1 d.2.2.2.2.2.2.2.2.2.2.2.1 d.2.2.2.2.2.2.2.2.2.2.2.2.1 d.2.2.2.2.2.2.2.2.2.2.2.2.2.1 d.2.2.2.2.2.2.2.2.2.2.2.2.2.2.1 d.2.2.2.2.2.2.2.2.2.2.2.2.2.2.2.1
abbrev ka(f:a1->a2->a3->a4->a5->a6->a7->a8->a9->a10->a11->a12->a13->a14->a15->a16->a17->r)(d:a1×a2×a3×a4×a5×a6×a7×a8×a9×a10×a11×a12×a13×a14×a15×a16×a17×z):r:=f d.1 d.2.1 d.2.2.1 d.2.2.2.1 d.2.2.2.2.1 d.2.2.2.2.2.1 d.2.2.2.2.2.2.1 d.2.2.2.2.2.2.2.1 d.2.2.2.2.2.2.2.2.1 d.2.2.2.2.2.2.2.2.2.1 d.2.2.2.2.2.2.2.2.2.2.1 d.2.2.2.2.2.2.2.2.2.2.2.1 d.2.2.2.2.2.2.2.2.2.2.2.2.1 d.2.2.2.2.2.2.2.2.2.2.2.2.2.1 d.2.2.2.2.2.2.2.2.2.2.2.2.2.2.1 d.2.2.2.2.2.2.2.2.2.2.2.2.2.2.2.1 d.2.2.2.2.2.2.2.2.2.2.2.2.2.2.2.2.1
abbrev Gi(f:a1->a2->a3->a4->a5->a6->a7->a8->a9->a10->a11->a12->a13->a14->a15->a16->a17->a18->r)(d:a1×a2×a3×a4×a5×a6×a7×a8×a9×a10×a11×a12×a13×a14×a15×a16×a17×a18×z):r:=f d.1 d.2.1 d.2.2.1 d.2.2.2.1 d.2.2.2.2.1 d.2.2.2.2.2.1 d.2.2.2.2.2.2.1 d.2.2.2.2.2.2.2.1 d.2.2.2.2.2.2.2.2.1 d.2.2.2.2.2.2.2.2.2.1 d.2.2.2.2.2.2.2.2.2.2.1 d.2.2.2.2.2.2.2.2.2.2.2.1 d.2.2.2.2.2.2.2.2.2.2.2.2.1 d.2.2.2.2.2.2.2.2.2.2.2.2.2.1 d.2.2.2.2.2.2.2.2.2.2.2.2.2.2.1 d.2.2.2.2.2.2.2.2.2.2.2.2.2.2.2.1 d.2.2.2.2.2.2.2.2.2.2.2.2.2.2.2.2.1 d.2.2.2.2.2.2.2.2.2.2.2.2.2.2.2.2.2.1
abbrev uA(f:a1->a2->a3->a4->a5->a6->a7->a8->a9->a10->a11->a12->a13->a14->a15->a16->a17->a18->a19->r)(d:a1×a2×a3×a4×a5×a6×a7×a8×a9×a10×a11×a12×a13×a14×a15×a16×a17×a18×a19×z):r:=f d.1 d.2.1 d.2.2.1 d.2.2.2.1 d.2.2.2.2.1 d.2.2.2.2.2.1 d.2.2.2.2.2.2.1 d.2.2.2.2.2.2.2.1 d.2.2.2.2.2.2.2.2.1 d.2.2.2.2.2.2.2.2.2.1 d.2.2.2.2.2.2.2.2.2.2.1 d.2.2.2.2.2.2.2.2.2.2.2.1 d.2.2.2.2.2.2.2.2.2.2.2.2.1 d.2.2.2.2.2.2.2.2.2.2.2.2.2.1 d.2.2.2.2.2.2.2.2.2.2.2.2.2.2.1 d.2.2.2.2.2.2.2.2.2.2.2.2.2.2.2.1 d.2.2.2.2.2.2.2.2.2.2.2.2.2.2.2.2.1 d.2.2.2.2.2.2.2.2.2.2.2.2.2.2.2.2.2.1 d.2.2.2.2.2.2.2.2.2.2.2.2.2.2.2.2.2.2.1
abbrev ku(f:a1->a2->a3->a4->a5->a6->a7->a8->a9->a10->a11->a12->a13->a14->a15->a16->a17->a18->a19->a20->r)(d:a1×a2×a3×a4×a5×a6×a7×a8×a9×a10×a11×a12×a13×a14×a15×a16×a17×a18×a19×a20×z):r:=f d.1 d.2.1 d.2.2.1 d.2.2.2.1 d.2.2.2.2.1 d.2.2.2.2.2.1 d.2.2.2.2.2.2.1 d.2.2.2.2.2.2.2.1 d.2.2.2.2.2.2.2.2.1 d.2.2.2.2.2.2.2.2.2.1 d.2.2.2.2.2.2.2.2.2.2.1 d.2.2.2.2.2.2.2.2.2.2.2.1 d.2.2.2.2.2.2.2.2.2.2.2.2.1 d.2.2.2.2.2.2.2.2.2.2.2.2.2.1 d.2.2.2.2.2.2.2.2.2.2.2.2.2.2.1 d.2.2.2.2.2.2.2.2.2.2.2.2.2.2.2.1 d.2.2.2.2.2.2.2.2.2.2.2.2.2.2.2.2.1 d.2.2.2.2.2.2.2.2.2.2.2.2.2.2.2.2.2.1 d.2.2.2.2.2.2.2.2.2.2.2.2.2.2.2.2.2.2.1 d.2.2.2.2.2.2.2.2.2.2.2.2.2.2.2.2.2.2.2.1
abbrev uB(f:a1->a2->a3->a4->a5->a6->a7->a8->a9->a10->a11->a12->a13->a14->a15->a16->a17->a18->a19->a20->a21->r)(d:a1×a2×a3×a4×a5×a6×a7×a8×a9×a10×a11×a12×a13×a14×a15×a16×a17×a18×a19×a20×a21×z):r:=f d.1 d.2.1 d.2.2.1 d.2.2.2.1 d.2.2.2.2.1 d.2.2.2.2.2.1 d.2.2.2.2.2.2.1 d.2.2.2.2.2.2.2.1 d.2.2.2.2.2.2.2.2.1 d.2.2.2.2.2.2.2.2.2.1 d.2.2.2.2.2.2.2.2.2.2.1 d.2.2.2.2.2.2.2.2.2.2.2.1 d.2.2.2.2.2.2.2.2.2.2.2.2.1 d.2.2.2.2.2.2.2.2.2.2.2.2.2.1 d.2.2.2.2.2.2.2.2.2.2.2.2.2.2.1 d.2.2.2.2.2.2.2.2.2.2.2.2.2.2.2.1 d.2.2.2.2.2.2.2.2.2.2.2.2.2.2.2.2.1 d.2.2.2.2.2.2.2.2.2.2.2.2.2.2.2.2.2.1 d.2.2.2.2.2.2.2.2.2.2.2.2.2.2.2.2.2.2.1 d.2.2.2.2.2.2.2.2.2.2.2.2.2.2.2.2.2.2.2.1 d.2.2.2.2.2.2.2.2.2.2.2.2.2.2.2.2.2.2.2.2.1
abbrev pf(f:a1->a2->a3->a4->a5->a6->a7->a8->a9->a10->a11->a12->a13->a14->a15->a16->a17->a18->a19->a20->a21->a22->r)(d:a1×a2×a3×a4×a5×a6×a7×a8×a9×a10×a11×a12×a13×a14×a15×a16×a17×a18×a19×a20×a21×a22×z):r:=f d.1 d.2.1 d.2.2.1 d.2.2.2.1 d.2.2.2.2.1 d.2.2.2.2.2.1 d.2.2.2.2.2.2.1 d.2.2.2.2.2.2.2.1 d.2.2.2.2.2.2.2.2.1 d.2.2.2.2.2.2.2.2.2.1 d.2.2.2.2.2.2.2.2.2.2.1 d.2.2.2.2.2.2.2.2.2.2.2.1 d.2.2.2.2.2.2.2.2.2.2.2.2.1 d.2.2.2.2.2.2.2.2.2.2.2.2.2.1 d.2.2.2.2.2.2.2.2.2.2.2.2.2.2.1 d.2.2.2.2.2.2.2.2.2.2.2.2.2.2.2.1 d.2.2.2.2.2.2.2.2.2.2.2.2.2.2.2.2.1 d.2.2.2.2.2.2.2.2.2.2.2.2.2.2.2.2.2.1 d.2.2.2.2.2.2.2.2.2.2.2.2.2.2.2.2.2.2.1 d.2.2.2.2.2.2.2.2.2.2.2.2.2.2.2.2.2.2.2.1 d.2.2.2.2.2.2.2.2.2.2.2.2.2.2.2.2.2.2.2.2.1 d.2.2.2.2.2.2.2.2.2.2.2.2.2.2.2.2.2.2.2.2.2.1
end
abbrev ap{α:Type}(a b:List α):List α:=a++b
def gt(σ:Sh)(L:List σ.T)(i:Int):σ.T:=List.getD L i.toNat σ.zero
def NN:Nat:=10000000000000000000000000000000000000000
theorem rn:Tryz.prog.follows .mixedOrders=true:=by kernel_rfl
theorem Wi{D O:Type}{B B':D->Option (D⊕O)}(h:∀d,B d=B' d):∀m d,aX B m d=aX B' m d
 |0,d=>rfl|m+1,d=>by
  simp only[aX,h d];split
  .split
   .exact Wi h m _
   .rfl
  .rfl
theorem aip{D O:Type}{B B':D->Option (D⊕O)}(h:∀d,B d=B' d):∀d o,aX B' NN d=some o->∃m,aX B m d=some o:=fun d o e=>⟨NN,by rw[Wi h];exact e⟩
theorem Pb{D O:Type}{F G:D->Option O}(h:∀d,F d=G d):∀d o,G d=some o->F d=some o:=fun d o e=>by rw[h];exact e
theorem Zi0{P:Program}{f:FuncId}{e:Func}{c:Code}{s:lu}(hf:P.funcs[f]?=some e)(hname:(e.name == "runtime.NumGoroutine")=false)(hb:e.body=some c)(hm:P.follows .mixedOrders=true){sh:TypeId->Option Sh}{S:Kn}(hS:nN P S){E:Env}(hE:pk P E){dep:Nat}
  {loops:lr (Out s.outs)}(base n:Nat) (h1:s.lay.nx=base) (h2:e.ntmps=n) (hl:∀x∈fb c,lO P Real base n x (loops (jS x))) (h:∀d o,s.F d=some o->xn P sh S E dep loops e c s.np s.nr s.lay d=some o):jv P f s:=by
 subst h1;subst h2;exact aiR hm hS hE hl hf hname hb h
theorem Zd1{P:Program}{f:FuncId}{e:Func}{c:Code}{σs τs:List Sh}(hf:P.funcs[f]?=some e)(hname:(e.name == "runtime.NumGoroutine")=false)(hb:e.body=some c)(hm:P.follows .mixedOrders=true){sh:TypeId->Option Sh}{S:Kn}(hS:nN P S){E:Env}(hE:pk P E){dep:Nat}
  {loops:lr (TL τs)}(n:Nat) (h2:e.ntmps=n) (hl:∀x∈fb c,lO P Real 0 n x (loops (jS x))) {F:TL σs->Option (TL τs)}(h:∀d x,F d=some x->rj P sh S E dep loops e c σs d=some x):Comes P f σs τs F:=by
 subst h2;exact ai7 hm hS hE hl hf hname hb h
theorem ajq{P:Program}{f:FuncId}{e:Func}{c:Code}{np nr:Nat}{lay:Lay}{outs:List (Ev.Ex×Lay)}(hf:P.funcs[f]?=some e)(hname:(e.name == "runtime.NumGoroutine")=false)(hb:e.body=some c):jv P f ⟨np,lay,nr,outs,fun _=>none⟩:=⟨⟨e,c,hf,hname,hb⟩,fun d o h=>by cases h⟩
theorem anF{P:Program}{f:FuncId}{τ:Sh}{nr:Nat}{outs:List (Ev.Ex×Lay)}{F':TL [.bool,.sl τ]->Option (Out outs)}(hC:jv P f ⟨1,⟨[(0,.ej τ)],[],0⟩,nr,outs,F'⟩)
  (h0:F' (true,([],()))=F' (false,([],()))):jv P f ⟨1,⟨[(0,.fz τ)],[],0⟩,nr,outs,fun d=>F' (false,d)⟩:=by
 refine⟨hC.1,?_⟩;rintro⟨L,u⟩ o ho st e st' hput hs X vs args hX H hr hv R;have e1:st=⟨.node (some (.fz τ L)) .nil .nil,⟨.nil,0⟩⟩:=by have:Lay.put 1 (⟨[(0,.fz τ)],[],0⟩:Lay) (L,u)=some ⟨.node (some (.fz τ L)) .nil .nil,⟨.nil,0⟩⟩:=rfl;rw[this]at hput;cases hput;rfl
 subst e1;have hv':some [AV.fz τ L]=some vs:=hv;cases hv';obtain⟨V,r,rfl,h1,h2⟩:=R;have:r=[]:=h2;subst this;have h1':=h1;obtain⟨a,len,cap,q1,q2,q3,q4⟩:=h1;simp only[List.cons.injEq,and_true]at q1;have hz:a.isNone=true->L=[]:=by
  intro hn;rcases Classical.em (L=[])with q|q
  .exact q
  .obtain⟨b,o',Y,e5,_⟩:=q4 q;rw[e5]at hn;cases hn
 have hF:F' (a.isNone,(L,u))=some o:=by cases hn:a.isNone with|false=>exact ho|true=>have:=hz hn;subst this;rw[<-ho];exact h0
 exact hC.2 (a.isNone,(L,u)) o hF ⟨.node (some (.ej τ a.isNone L)) .nil .nil,⟨.nil,0⟩⟩ e st' rfl hs X [.ej τ a.isNone L] [V] hX H hr rfl ⟨V,[],rfl,⟨h1',a,len,cap,q1,rfl⟩,rfl⟩
section
variable{R:Type}(P:Program)(sh:TypeId->Option Sh)(S:Kn)(E:Env)(dep n:Nat)
def xq(loops:lr R)(x:Code):Nat->St->(Ex->St->Option R)->Option R
 |0,_,_=>none|m+1,st,k=>runK P sh (qx P sh S E dep) loops n x st fun e st=>match e with|.normal=>xq loops x m st k|.exit i=>k (.exit i) st|.ret=>k .ret st
end
theorem aha{R:Type}{P:Program}(hm:P.follows .mixedOrders=true){sh:TypeId->Option Sh}{S:Kn}(hS:nN P S){E:Env}(hE:pk P E){dep base n:Nat}{loops:lr R}{x:Code}
  (hl:∀y∈fb x,lO P Real base n y (loops (jS y))) (m:Nat):lO P Real base n x (xq P sh S E dep n loops x m):=by
 have key:∀m st k r,xq P sh S E dep n loops x m st k=some r->∃e st',k e st'=some r/\∀X₀ X a,(X₀.h.next=base/\Real X₀)->aF X₀->aO X₀ X->RF X n st a->∀Q:Exit->Act->World->Prop,
   (∀X' a',RF X' n st' a'->aO X₀ X'->Q e.to a' X'.w)->Code.rounds P x Q m a X.w:=by
  intro m
  induction m with
  |zero=>intro st k r e;cases e
  |succ m ih=>
   intro st k r e;simp only[xq]at e;obtain⟨e₂,st₂,hk₂,Tk⟩:=uw (G:=Real) hm (um hm hS hE dep) (base:=base) x hl _ _ _ e;cases e₂ with
   |normal=>simp only[]at hk₂;obtain⟨e₃,st₃,hk₃,rest⟩:=ih _ _ _ hk₂;refine⟨e₃,st₃,hk₃,?_⟩;intro X₀ X a hb H₀ hE' RR Q hQ;rw[rounds_succ];refine Tk X₀ X a hb H₀ hE' RR _ ?_;intro X' a' R' E';exact rest X₀ X' a' hb H₀ E' R' Q hQ
   |exit i=>simp only[]at hk₂;refine⟨_,_,hk₂,?_⟩;intro X₀ X a hb H₀ hE' RR Q hQ;rw[rounds_succ];refine Tk X₀ X a hb H₀ hE' RR _ ?_;intro X' a' R' E';exact hQ X' a' R' E'|ret=>simp only[]at hk₂;refine⟨_,_,hk₂,?_⟩;intro X₀ X a hb H₀ hE' RR Q hQ;rw[rounds_succ];refine Tk X₀ X a hb H₀ hE' RR _ ?_;intro X' a' R' E';exact hQ X' a' R' E'
 intro st k r e;obtain⟨e₁,st₁,hk,T⟩:=key m st k r e;refine⟨e₁,st₁,hk,?_⟩;intro X₀ X a hb H₀ hE' RR Q hQ;exact wp_loop_rounds m (T X₀ X a hb H₀ hE' RR Q hQ)
structure Kd(f:FuncId)(σs τs:List Sh) where
 F:TL σs->Option (TL τs)
 ok:Comes Tryz.prog f σs τs F
structure Kb(f:FuncId)(np:Nat)(lay:Lay)(nr:Nat)(outs:List (Ev.Ex×Lay)) where
 F:TL lay.σs->Option (Out outs)
 ok:jv Tryz.prog f ⟨np,lay,nr,outs,F⟩
structure Ld(base n:Nat)(x:Code)(lay:Lay)(outs:List (Ev.Ex×Lay)) where
 L:TL lay.σs->Option (Out outs)
 ok:∀{R:Type},lO Tryz.prog Real base n x (vD (R:=R) base n ⟨lay,[],outs,L⟩)
structure KN where
 l:List (Nat×Spec)
 q:List (Nat×lu)
 h1:∀p∈l,Comes Tryz.prog p.1 p.2.σs p.2.τs p.2.F
 h2:∀p∈q,jv Tryz.prog p.1 p.2
def k0:KN:=⟨[],[],List.forall_mem_nil _,List.forall_mem_nil _⟩
def kD{f:FuncId}{σs τs:List Sh}(k:Kd f σs τs)(s:KN):KN:=⟨(f,⟨σs,τs,k.F⟩)::s.l,s.q,List.forall_mem_cons.2 ⟨k.ok,s.h1⟩,s.h2⟩
def kB{f np:Nat}{lay:Lay}{nr:Nat}{outs:List (Ev.Ex×Lay)}(k:Kb f np lay nr outs)(s:KN):KN:=⟨s.l,(f,⟨np,lay,nr,outs,k.F⟩)::s.q,s.h1,List.forall_mem_cons.2 ⟨k.ok,s.h2⟩⟩
def KN.kn(s:KN):Kn:=V.kn s.l s.q
theorem KN.ok(s:KN):nN Tryz.prog s.kn:=aik s.h1 s.h2
structure EN where
 l:List (Nat×Func)
 h:∀p∈l,Tryz.prog.funcs[p.1]?=some p.2/\(p.2.name == "runtime.NumGoroutine")=false
def e0:EN:=⟨[],List.forall_mem_nil _⟩
def eC{f:FuncId}{e:Func}(h:Tryz.prog.funcs[f]?=some e)(h2:(e.name == "runtime.NumGoroutine")=false)(s:EN):EN:=⟨(f,e)::s.l,List.forall_mem_cons.2 ⟨⟨h,h2⟩,s.h⟩⟩
abbrev iR:=(R:Type)->lr R
def LN(base n:Nat)(cs:List Code)(tab:iR):Prop:=∀R,∀y∈cs,lO Tryz.prog Real base n y (tab R (jS y))
def abN:iR:=fun R _ _ _=>none
theorem l0{base n:Nat}:LN base n [] abN:=fun _=>List.forall_mem_nil _
def other(x:Code):List Code->Bool
 |[]=>true|y::l=>match Nat.beq (jS x) (jS y)with|true=>false|false=>other x l
theorem abm{x:Code}:∀{l:List Code},other x l=true->∀y∈l,Nat.beq (jS x) (jS y)=false
 |[],_,y,h=>by cases h
 |z::l,h,y,hy=>by
  simp only[other]at h;split at h
  .cases h
  rename_i q;rcases List.mem_cons.1 hy with rfl|hy
  .exact q
  .exact abm h y hy
def DK(x:Code)(g:(R:Type)->St->(Ev.Ex->St->Option R)->Option R)(t:iR):iR:=fun R i st k=>match Nat.beq (jS x) i with|true=>g R st k|false=>t R i st k
theorem lX{base n:Nat}{x:Code}{cs:List Code}{t:iR}{g:(R:Type)->St->(Ev.Ex->St->Option R)->Option R}(hg:∀R,lO Tryz.prog Real base n x (g R))(s:LN base n cs t)(h:other x cs=true):LN base n (x::cs) (DK x g t):=by
 intro R y hy;unfold DK;rcases List.mem_cons.1 hy with rfl|hy
 .simp only[Nat.beq_refl];exact hg R
 .simp only[abm h y hy];exact s R y hy
def abO{base n:Nat}{x:Code}{lay:Lay}{outs:List (Ev.Ex×Lay)}(k:Ld base n x lay outs)(t:iR):iR:=DK x (fun R=>vD base n ⟨lay,[],outs,k.L⟩) t
theorem lC{base n:Nat}{x:Code}{lay:Lay}{outs:List (Ev.Ex×Lay)}{cs:List Code}{t:iR}(k:Ld base n x lay outs)(s:LN base n cs t)(h:other x cs=true):LN base n (x::cs) (abO k t):=lX (fun R=>k.ok) s h
theorem lU{base n:Nat}(x:Code)(m:Nat)(K:KN)(E:EN)(dep:Nat){cs':List Code}{u:iR}(T:LN base n cs' u)(hl:fb x=cs'){cs:List Code}{t:iR}(s:LN base n cs t)(h:other x cs=true):LN base n (x::cs) (DK x (fun R st k=>xq Tryz.prog (nm Tryz.prog 20) K.kn (lK E.l) dep n (u R) x m st k) t):=lX (fun R=>aha rn K.ok (ru E.h) (by rw[hl];exact T R) m) s h
def LB(base n:Nat)(x:Code)(lay:Lay)(outs:List (Ev.Ex×Lay))(B:TL lay.σs->Option (TL lay.σs⊕Out outs)):Prop:=∀{R:Type},lO Tryz.prog Real base n x (vD (R:=R) base n ⟨lay,[],outs,aX B NN⟩)
theorem prL{base n:Nat}{x:Code}{lay:Lay}{outs:List (Ev.Ex×Lay)}(K:KN)(E:EN)(dep:Nat){cs:List Code}{t:iR}(T:LN base n cs t)(hl:fb x=cs){B:TL lay.σs->Option (TL lay.σs⊕Out outs)}
  (h:∀d,xm Tryz.prog (nm Tryz.prog 20) K.kn (lK E.l) dep base n lay outs (t _) x d=B d):LB base n x lay outs B:=
 fun{R}=>Zby (s:=⟨lay,[],outs,aX B NN⟩) rn K.ok (ru E.h) (by rw[hl];exact T _) (aip h)
def bN{base n:Nat}{x:Code}{lay:Lay}{outs:List (Ev.Ex×Lay)}(B:TL lay.σs->Option (TL lay.σs⊕Out outs))(h:LB base n x lay outs B):Ld base n x lay outs:=⟨aX B NN,h⟩
theorem prD{f:FuncId}{e:Func}{σs τs:List Sh}(hf:Tryz.prog.funcs[f]?=some e)(n:Nat)(K:KN)(E:EN)(dep:Nat){t:iR}(T:LN 0 n (fb (bh e)) t)(hn:(e.name == "runtime.NumGoroutine")=false)(hb:e.body=some (bh e))(hm:e.ntmps=n){F:TL σs->Option (TL τs)}
  (h:∀d,rj Tryz.prog (nm Tryz.prog 20) K.kn (lK E.l) dep (t _) e (bh e) σs d=F d):Comes Tryz.prog f σs τs F:=
 Zd1 hf hn hb rn K.ok (ru E.h) n hm (T _) (Pb h)
def shZ(P:Program)(t:TypeId):Option Sh:=match Nat.beq t 1000000000 with|true=>some .bool|false=>nm P 20 t
theorem aol{f:FuncId}{e:Func}{σs τs:List Sh}(hf:Tryz.prog.funcs[f]?=some e)(n:Nat)(K:KN)(E:EN)(dep:Nat){t:iR}(T:LN 0 n (fb (bh e)) t)(hn:(e.name == "runtime.NumGoroutine")=false)(hb:e.body=some (bh e))(hm:e.ntmps=n){F:TL σs->Option (TL τs)}
  (h:∀d,rj Tryz.prog (shZ Tryz.prog) K.kn (lK E.l) dep (t _) e (bh e) σs d=F d):Comes Tryz.prog f σs τs F:=
 Zd1 hf hn hb rn K.ok (ru E.h) n hm (T _) (Pb h)
theorem prB{f:FuncId}{e:Func}{np:Nat}{lay:Lay}{nr:Nat}{outs:List (Ev.Ex×Lay)}(hf:Tryz.prog.funcs[f]?=some e)(n:Nat)(K:KN)(E:EN)(dep:Nat){t:iR}(T:LN lay.nx n (fb (bh e)) t)(hn:(e.name == "runtime.NumGoroutine")=false)(hb:e.body=some (bh e))(hm:e.ntmps=n){F:TL lay.σs->Option (Out outs)}
  (h:∀d,xn Tryz.prog (nm Tryz.prog 20) K.kn (lK E.l) dep (t _) e (bh e) np nr lay d=F d):jv Tryz.prog f ⟨np,lay,nr,outs,F⟩:=
 Zi0 (s:=⟨np,lay,nr,outs,F⟩) hf hn hb rn K.ok (ru E.h) lay.nx n rfl hm (T _) (Pb h)
theorem lS{base n:Nat}{c:Code}{cs:List Code}{t:iR}(T:LN base n cs t)(hl:fb c=cs):LN base n (fb c) t:=by rw[hl];exact T
theorem pL{base n:Nat}{x:Code}{lay:Lay}{outs:List (Ev.Ex×Lay)}(K:KN)(E:EN)(dep:Nat){cs:List Code}{t:iR}(T:LN base n cs t){B:TL lay.σs->Option (TL lay.σs⊕Out outs)}
  (h:∀d,xm Tryz.prog (nm Tryz.prog 20) K.kn (lK E.l) dep base n lay outs (t _) x d=B d) (hl:fb x=cs:=by kernel_rfl):LB base n x lay outs B:=prL K E dep T hl h
theorem pD{f:FuncId}{e:Func}{σs τs:List Sh}(hf:Tryz.prog.funcs[f]?=some e)(n:Nat)(K:KN)(E:EN)(dep:Nat){t:iR}(T:LN 0 n (fb (bh e)) t){F:TL σs->Option (TL τs)}
  (h:∀d,rj Tryz.prog (nm Tryz.prog 20) K.kn (lK E.l) dep (t _) e (bh e) σs d=F d) (hn:(e.name == "runtime.NumGoroutine")=false:=by kernel_rfl) (hb:e.body=some (bh e):=by kernel_rfl) (hm:e.ntmps=n:=by kernel_rfl):Comes Tryz.prog f σs τs F:=prD hf n K E dep T hn hb hm h
theorem pZ{f:FuncId}{e:Func}{σs τs:List Sh}(hf:Tryz.prog.funcs[f]?=some e)(n:Nat)(K:KN)(E:EN)(dep:Nat){t:iR}(T:LN 0 n (fb (bh e)) t){F:TL σs->Option (TL τs)}
  (h:∀d,rj Tryz.prog (shZ Tryz.prog) K.kn (lK E.l) dep (t _) e (bh e) σs d=F d) (hn:(e.name == "runtime.NumGoroutine")=false:=by kernel_rfl) (hb:e.body=some (bh e):=by kernel_rfl) (hm:e.ntmps=n:=by kernel_rfl):Comes Tryz.prog f σs τs F:=aol hf n K E dep T hn hb hm h
theorem pB{f:FuncId}{e:Func}{np:Nat}{lay:Lay}{nr:Nat}{outs:List (Ev.Ex×Lay)}(hf:Tryz.prog.funcs[f]?=some e)(n:Nat)(K:KN)(E:EN)(dep:Nat){t:iR}(T:LN lay.nx n (fb (bh e)) t){F:TL lay.σs->Option (Out outs)}
  (h:∀d,xn Tryz.prog (nm Tryz.prog 20) K.kn (lK E.l) dep (t _) e (bh e) np nr lay d=F d) (hn:(e.name == "runtime.NumGoroutine")=false:=by kernel_rfl) (hb:e.body=some (bh e):=by kernel_rfl) (hm:e.ntmps=n:=by kernel_rfl):jv Tryz.prog f ⟨np,lay,nr,outs,F⟩:=prB hf n K E dep T hn hb hm h
theorem sS{base n:Nat}{c:Code}{cs:List Code}{t:iR}(T:LN base n cs t)(hl:fb c=cs:=by kernel_rfl):LN base n (fb c) t:=lS T hl
theorem sC{base n:Nat}{x:Code}{lay:Lay}{outs:List (Ev.Ex×Lay)}{cs:List Code}{t:iR}(k:Ld base n x lay outs)(s:LN base n cs t)(h:other x cs=true:=by kernel_rfl):LN base n (x::cs) (abO k t):=lC k s h
def mk0{f:FuncId}{e:Func}{np:Nat}{lay:Lay}{nr:Nat}{outs:List (Ev.Ex×Lay)}(hf:Tryz.prog.funcs[f]?=some e)(hn:(e.name == "runtime.NumGoroutine")=false)(hb:e.body=some (bh e)):Kb f np lay nr outs:=⟨fun _=>none,ajq hf hn hb⟩
def rM{f:FuncId}{τ:Sh}{nr:Nat}{outs:List (Ev.Ex×Lay)}(k:Kb f 1 ⟨[(0,.ej τ)],[],0⟩ nr outs)(h0:k.F (true,([],()))=k.F (false,([],()))):Kb f 1 ⟨[(0,.fz τ)],[],0⟩ nr outs:=⟨fun d=>k.F (false,d),anF k.ok h0⟩
theorem Nv{P:Program}{f:FuncId}{τ:Sh}{ty:TypeId}{F':TL [.bool,.sl τ]->Option (Out [(Ev.Ex.ret,⟨[(0,.hd 0 τ)],[(0,.arr τ ty)],1⟩)])}(hC:jv P f ⟨1,⟨[(0,.ej τ)],[],0⟩,1,[(Ev.Ex.ret,⟨[(0,.hd 0 τ)],[(0,.arr τ ty)],1⟩)],F'⟩){a:Nat}
  (h0:F' (true,([],()))=some ([],())) (h1:∀L:List τ.T,F' (false,(L,()))=ai (room a L.length) (some (L,())))
  (hz:∀L:List τ.T,∃st h',kz 1 [(Ev.Ex.ret,(⟨[(0,.hd 0 τ)],[(0,.arr τ ty)],1⟩:Lay))] (L,())=some (.ret,st)/\l8 st.T 1 0=some [.hd 0 τ]/\mo true st.h [.sl τ] [.hd 0 τ]=some ((L,()),h')):Comes P f [.sl τ] [.sl τ] (fun d=>ai (room a (List.length d.1)) (some (d.1,()))):=by
 refine⟨hC.1,?_⟩;rintro⟨L,u⟩ x hx w A args hA ha;obtain⟨hroom,hx⟩:=nB hx;have hx:(L,())=x:=Option.some.inj hx;subst hx
 let X:Cx:=⟨fun _=>none,⟨.nil,0⟩,w,A⟩
 have out:∀b,X.out b->A b:=by
  rintro b (q|⟨i,o,c,h1,h2⟩)
  .exact q
  .simp[X,Ev.Tr.get]at h1
 have H:aF X:=⟨fun i o l h=>by simp[X,Ev.Tr.get]at h,fun i j o o' b c c' h=>by simp[X,Ev.Tr.get]at h,fun i o h=>by simp[X,Ev.Tr.get]at h,fun i l h=>by simp[X]at h,hA,fun i o b c h=>by simp[X,Ev.Tr.get]at h⟩;have ha':k7 X.w X.out [.sl τ] (L,u) args:=ha.bj (fun b o q r=>⟨r,fun s=>q (out b s)⟩);obtain⟨V,r,rfl,h1',h2'⟩:=yb ha';have:r=[]:=h2';subst this;have h1s:=h1';obtain⟨ad,len,cap,q1,q2,q3,q4⟩:=h1';simp only[List.cons.injEq,and_true]at q1;have hF:F' (ad.isNone,(L,()))=some (L,()):=by
  cases hn:ad.isNone with
  |false=>exact(h1 L).trans (by have hr:room a (List.length L)=true:=hroom;rw[hr];rfl)|true=>
   have hL:L=[]:=by
    rcases Classical.em (L=[])with q|q
    .exact q
    .obtain⟨b,o',Y,e5,_⟩:=q4 q;rw[e5]at hn;cases hn
   subst hL;exact h0
 obtain⟨st,hh₂,z1,z2,z3⟩:=hz L;refine(hC.2 (ad.isNone,(L,())) (L,()) hF ⟨.node (some (.ej τ ad.isNone L)) .nil .nil,⟨.nil,0⟩⟩ .ret st rfl z1 X [.ej τ ad.isNone L] [V] rfl H (fun i hi=>absurd hi (Nat.not_lt_zero i)) rfl ⟨V,[],rfl,⟨h1s,ad,len,cap,q1,rfl⟩,rfl⟩).mono ?_;rintro e w' ⟨X',Vs,rfl,rfl,hh,H',E',R'⟩;obtain⟨Fz,hA'⟩:=vL (kl:=true) (l:=[.sl τ]) (d:=(L,())) H' (vs:=[.hd 0 τ]) (by rw[hh];exact z3) (R' [.hd 0 τ] z2);refine⟨Vs,rfl,⟨E'.os,E'.tape,E'.output,E'.size,fun b hb=>E'.frame b hb ?_⟩,?_⟩
 .rintro⟨i,o,c,h1,h2⟩;simp[X,Ev.Tr.get]at h1
 .refine hA'.bj (fun b o q r=>⟨r,fun s=>q (.inl ?_)⟩);show X'.A b;rw[E'.A];exact s
theorem anL{α:Type}{l:List α}{i:Nat}{x:α}(h:l[i]?=some x):i<l.length:=by
 rcases de i l.length with q|q
 .exact q
 .rw[ep q]at h;cases h
theorem ant{P:Program}{f:FuncId}{τ:Sh}{ty:TypeId}(hpl:plain τ=true){F:TL [.sl τ]->Option (Out [(Ev.Ex.ret,⟨[(0,.hd 0 τ)],[(0,.arr τ ty)],1⟩)])}
  (hC:jv P f ⟨1,⟨[(0,.fz τ)],[],0⟩,1,[(Ev.Ex.ret,⟨[(0,.hd 0 τ)],[(0,.arr τ ty)],1⟩)],F⟩) :
  jv P f ⟨1,⟨[(0,.hd 0 τ)],[(0,.arr τ ty)],1⟩,1,[(Ev.Ex.ret,⟨[(0,.hd 1 τ)],[(0,.arr τ ty),(1,.arr τ ty)],2⟩)],fun d=>ao (F (d.1,())) fun x=>some (d.1,(x.1,()))⟩:=by
 refine⟨hC.1,?_⟩;rintro⟨L,u⟩ o ho st e st' hput hs X vs args hX H hr hv R;obtain⟨⟨L',u'⟩,hF,ho⟩:=vY ho;have ho:(L,(L',()))=o:=Option.some.inj ho;subst ho;have e1:st=⟨.node (some (.hd 0 τ)) .nil .nil,⟨.node (some (.arr τ L ty)) .nil .nil,1⟩⟩:=by have:Lay.put 1 (⟨[(0,.hd 0 τ)],[(0,.arr τ ty)],1⟩:Lay) (L,u)=some ⟨.node (some (.hd 0 τ)) .nil .nil,⟨.node (some (.arr τ L ty)) .nil .nil,1⟩⟩:=rfl;exact(Option.some.inj (this.symm.trans hput)).symm
 subst e1;have e2:(e,st')=(.ret,⟨.node (some (.hd 1 τ)) .nil .nil,⟨.node (some (.arr τ L ty)) (.node (some (.arr τ L' ty)) .nil .nil) .nil,2⟩⟩):=by have:kz 1 [(Ev.Ex.ret,(⟨[(0,.hd 1 τ)],[(0,.arr τ ty),(1,.arr τ ty)],2⟩:Lay))] (L,(L',()))=some (.ret,⟨.node (some (.hd 1 τ)) .nil .nil,⟨.node (some (.arr τ L ty)) (.node (some (.arr τ L' ty)) .nil .nil) .nil,2⟩⟩):=rfl;exact(Option.some.inj (this.symm.trans hs)).symm
 cases e2;have hv':some [AV.hd 0 τ]=some vs:=hv;cases hv';obtain⟨V,r,rfl,⟨l,hl,hc1,hV⟩,hr2⟩:=R;have:r=[]:=hr2;subst this;have g0:X.h.tr.get 0=some (.arr τ L ty):=by rw[hX];rfl
 have gi:∀i o,X.h.tr.get i=some o->i=0:=by
  intro i o h;have:=H.lt i o h;have e:X.h.next=1:=by rw[hX]
  omega
 have hV:V=l.slice L.length:=hV _ (gF g0);have hO:=H.obj 0 _ l g0 hl
 let Y:Cx:=⟨fun _=>none,⟨.nil,0⟩,X.w,X.A⟩
 have yout:∀b,Y.out b->X.A b:=by
  rintro b (q|⟨i,o,c,h1,h2⟩)
  .exact q
  .simp[Y,Ev.Tr.get]at h1
 have HY:aF Y:=⟨fun i o l h=>by simp[Y,Ev.Tr.get]at h,fun i j o o' b c c' h=>by simp[Y,Ev.Tr.get]at h,fun i o h=>by simp[Y,Ev.Tr.get]at h,fun i l h=>by simp[Y]at h,H.alt,fun i o b c h=>by simp[Y,Ev.Tr.get]at h⟩;have RY:Rel Y (.fz τ L) V:=by
  subst hV;cases l with
  |nil=>have:L=[]:=hO;subst this;exact⟨none,0,0,rfl,rfl,aS _,fun q=>absurd rfl q⟩|«at» b c=>obtain⟨cs,tail,h1,h2,h3,h4⟩:=hO;refine⟨_,_,_,rfl,rfl,h4,fun _=>⟨b,0,cs,rfl,fun q=>H.loc 0 _ _ b g0 hl rfl (yout b q),h2.mono (fun x d q=>Bk hpl q),_,_,_,h1,?_⟩⟩;intro j v hj;rw[Nat.zero_add];simp only[List.getElem?_toArray];rw[List.getElem?_append_left (anL hj)];exact hj
  |cE b c m=>exact hO.elim
 refine(hC.2 (L,()) (L',u') hF ⟨.node (some (.fz τ L)) .nil .nil,⟨.nil,0⟩⟩ .ret ⟨.node (some (.hd 0 τ)) .nil .nil,⟨.node (some (.arr τ L' ty)) .nil .nil,1⟩⟩ rfl rfl Y [.fz τ L] [V] rfl HY (fun i hi=>absurd hi (Nat.not_lt_zero i)) rfl ⟨V,[],rfl,RY,rfl⟩).mono ?_;rintro e w' ⟨Y',Vs,rfl,rfl,hh,H',E',R'⟩;obtain⟨V',r',rfl,⟨l',hl',hc2,hV'⟩,hr3⟩:=R' [.hd 0 τ] rfl;have:r'=[]:=hr3;subst this;have g0':Y'.h.tr.get 0=some (.arr τ L' ty):=by rw[hh];rfl
 have fr:∀b,b<X.w.heap.size->Y'.w.heap[b]?=X.w.heap[b]?:=fun b hb=>E'.frame b hb (by rintro⟨i,o,c,h1,h2⟩;simp[Y,Ev.Tr.get]at h1);have nw:∀b,l'.own b->X.w.heap.size<=b:=by
  intro b hb;rcases E'.bO b ⟨0,_,l',g0',hl',hb⟩with⟨i,o,c,h1,h2⟩|q
  .simp[Y,Ev.Tr.get]at h1
  .exact q
 let X':Cx:=⟨fun i=>match i with|1=>some l'|_=>X.s i,⟨.node (some (.arr τ L ty)) (.node (some (.arr τ L' ty)) .nil .nil) .nil,2⟩,Y'.w,X.A⟩
 have gX:∀i o,X'.h.tr.get i=some o->(i=0/\o=.arr τ L ty)\/(i=1/\o=.arr τ L' ty):=by
  intro i o h;have h:Ev.Tr.get (.node (some (.arr τ L ty)) (.node (some (.arr τ L' ty)) .nil .nil) .nil) i=some o:=h;rcases i with _|_|i
  .left;refine⟨rfl,?_⟩;have h:some (bu.arr τ L ty)=some o:=h;cases h;rfl
  .right;refine⟨rfl,?_⟩;have h:some (bu.arr τ L' ty)=some o:=h;cases h;rfl
  .exfalso;rw[Ev.Tr.uf]at h;split at h
   .obtain⟨k,hk⟩:∃k,(i+1) / 2=k+1:=⟨(i+1) / 2-1,by omega⟩;rw[hk,Ev.Tr.uf]at h;simp[Ev.Tr.get]at h
   .simp[Ev.Tr.get]at h
 have hl0:∀i l₁,i≠1->X'.s i=some l₁->X.s i=some l₁:=by
  intro i l₁ hi h;rcases i with _|_|i
  .exact h
  .exact absurd rfl hi
  .exact h
 have hl1:∀l₁,X'.s 1=some l₁->l₁=l':=fun l₁ h=>by have h:some l'=some l₁:=h;cases h;rfl
 have im:∀b,X'.bO b->X.bO b\/X.w.heap.size<=b:=by
  rintro b ⟨i,o,l₁,h1,h2,h3⟩;rcases gX i o h1 with⟨rfl,rfl⟩|⟨rfl,rfl⟩
  .exact .inl ⟨0,_,l₁,g0,hl0 0 l₁ (by decide) h2,h3⟩
  .have:=hl1 l₁ h2;subst this;exact .inr (nw b h3)
 have E:aO X X':=by
  refine⟨E'.os,E'.tape,E'.output,E'.size,?_,?_,by rw[hX];exact(by decide:1<=2),fun b hb _=>fr b hb,im,?_,?_,rfl⟩
  .intro i l₁ h;have hi:=H.di i l₁ h;have e:X.h.next=1:=by rw[hX]
   have:i=0:=by omega
   subst this;exact h
  .intro i l₁ hi h;have e:X.h.next=1:=by rw[hX]
   exact hl0 i l₁ (by omega) h
  .intro j n hj q;have e:X.h.next=1:=by rw[hX]
   have:j=0:=by omega
   subst this;have q:some L.length=some n:=q;rw[gF g0];exact q
  .intro i hi _;have e:X.h.next=1:=by rw[hX]
   have:i=0:=by omega
   subst this;exact g0.symm
 have hH:aF X':=by
  refine⟨?_,?_,?_,?_,fun b hb=>iS (H.alt b hb) E'.size,?_⟩
  .intro i o l₁ h1 h2;rcases gX i o h1 with⟨rfl,rfl⟩|⟨rfl,rfl⟩
   .have e:=hl0 0 l₁ (by decide) h2;exact(H.obj 0 _ l₁ g0 e).ext (E.eS H) (fun b hb=>fr b (H.jj g0 e hb))
   .have:=hl1 l₁ h2;subst this;have q:=H'.obj 0 _ l₁ g0' hl';cases l₁ with
    |nil=>exact q|«at» b c=>obtain⟨cs,tail,q1,q2,q3,q4⟩:=q;exact⟨cs,tail,q1,q2.mono (fun x d q=>Bk hpl q),q3,q4⟩
    |cE b c m=>exact q.elim
  .intro i j o o' l₁ l₂ b h1 h2 h3 h4 h5 h6;rcases gX i o h1 with⟨rfl,rfl⟩|⟨rfl,rfl⟩<;>rcases gX j o' h2 with⟨rfl,rfl⟩|⟨rfl,rfl⟩
   .rfl
   .have a:=H.jj g0 (hl0 0 l₁ (by decide) h3) h5;have:=hl1 l₂ h4;subst this;have:=nw b h6;omega
   .have a:=H.jj g0 (hl0 0 l₂ (by decide) h4) h6;have:=hl1 l₁ h3;subst this;have:=nw b h5;omega
   .rfl
  .intro i o h1;rcases gX i o h1 with⟨rfl,_⟩|⟨rfl,_⟩
   .exact(by decide:0<2)
   .exact(by decide:1<2)
  .intro i l₁ h;rcases i with _|_|i
   .exact(by decide:0<2)
   .exact(by decide:1<2)
   .have:=H.di (i+2) l₁ h;have e:X.h.next=1:=by rw[hX]
    omega
  .intro i o l₁ b h1 h2 h3 h4;have h4:X.A b:=h4;rcases gX i o h1 with⟨rfl,rfl⟩|⟨rfl,rfl⟩
   .exact H.loc 0 _ l₁ b g0 (hl0 0 l₁ (by decide) h2) h3 h4
   .have:=hl1 l₁ h2;subst this;have a:=nw b h3;have:=H.alt b h4;omega
 refine⟨X',[V'],rfl,rfl,rfl,hH,E,?_⟩;intro us hus;have hus:some [AV.hd 1 τ]=some us:=hus;cases hus;refine⟨V',[],rfl,⟨l',rfl,hc2,fun n q=>?_⟩,rfl⟩;have q:some L'.length=some n:=q;cases q;exact hV' _ (gF g0')
theorem je{R:Type}{b:Bool}{x y:Option R}(h:b=true):br b x y=x:=by rw[h];rfl
theorem gd{R:Type}{b:Bool}{x y:Option R}(h:b=false):br b x y=y:=by rw[h];rfl
theorem fe{R:Type}{b:Bool}{x:Option R}(h:b=true):ai b x=x:=by rw[h];rfl
theorem cL{α R:Type}{x:Option α}{a:α}{k:α->Option R}(h:x=some a):ao x k=k a:=by rw[h];rfl
theorem ax{R:Type}{b:Bool}{x y z:Option R}(h:b=true)(e:x=z):br b x y=z:=(je h).trans e
theorem ag{R:Type}{b:Bool}{x y z:Option R}(h:b=false)(e:y=z):br b x y=z:=(gd h).trans e
theorem ak{R:Type}{b:Bool}{x z:Option R}(h:b=true)(e:x=z):ai b x=z:=(fe h).trans e
theorem ah{α R:Type}{x:Option α}{a:α}{k:α->Option R}{z:Option R}(h:x=some a)(e:k a=z):ao x k=z:=(cL h).trans e
theorem aK{i:Int}{n:Nat}(h:0<=i/\i<(n:Int)):av i n=true:=by simp[av,h.1,h.2]
theorem l9{a n:Nat}(h:(2*n+192)*a<=281474976710656)(h2:n<=1099511627776):room a n=true:=by simp[room,both,h,h2]
theorem Oq{b:Bool}:bn false true b=b:=rfl
theorem ke{b:Bool}(h:b=false):Bool.not b=true:=by rw[h];rfl
theorem fQ{b:Bool}(h:b=true):Bool.not b=false:=by rw[h];rfl
theorem ar{p:Prop}{i:Decidable p}(h:p):@decide p i=true:=bG h
theorem au{p:Prop}{i:Decidable p}(h:¬p):@decide p i=false:=cw h
theorem cf{x:Int}(h:-9223372036854775808<=x/\x<=9223372036854775807):IntKind.wrap (.i64:IntKind) x=x:=IntWalk.i64_in _ (by omega)
theorem bF{σ:Sh}{L:List σ.T}{i:Nat}{x:σ.T}(h:L[i]?=some x):gt σ L (i:Int)=x:=by unfold gt;rw[eD,bM,h];rfl
theorem ur{D O:Type}{B:D->Option (D⊕O)}(f:Nat->D)(n:Nat){o:O}(hs:∀i,i<n->B (f i)=some (.inl (f (i+1))))(he:B (f n)=some (.inr o)):∀N,n<N->aX B N (f 0)=some o:=by
 have main:∀k i,i+k=n->∀N,k<N->aX B N (f i)=some o:=by
  intro k
  induction k with
  |zero=>
   intro i hi N hN;obtain⟨M,rfl⟩:∃M,N=M+1:=⟨N-1,by omega⟩;have:i=n:=by omega
   subst this;simp only[aX,he]
  |succ k ih=>intro i hi N hN;obtain⟨M,rfl⟩:∃M,N=M+1:=⟨N-1,by omega⟩;simp only[aX,hs i (by omega)];exact ih (i+1) (by omega) M (by omega)
 exact fun N hN=>main n 0 (by omega) N hN
theorem dn{D O:Type}{B:D->Option (D⊕O)}(f:Nat->D)(n:Nat){d:D}{o:O}(hd:d=f 0)(hs:∀i,i<n->B (f i)=some (.inl (f (i+1))))(he:B (f n)=some (.inr o)){N:Nat}(hN:n<N):aX B N d=some o:=by subst hd;exact ur f n hs he N hN
theorem qd{α:Type}{a:Nat}{L:List α}{x:α}(h:L.length<=100000000)(ha:a<=1000):room a (List.length (L++(x::[])))=true:=by
 have h3:List.length (L++(x::[]))=L.length+1:=by rw[aU];rfl
 have h2:(2*(L.length+1)+192)*a<=(2*(L.length+1)+192)*1000:=Nat.mul_le_mul_left _ ha;rw[h3];exact l9 (by omega) (by omega)
theorem mW{D O:Type}{B:D->Option (D⊕O)}(I:D->Prop)(Q:O->Prop)(μ:D->Nat)(h:∀d,I d->(∃o,B d=some (.inr o)/\Q o)\/∃d',B d=some (.inl d')/\I d'/\μ d'<μ d):∀N d,I d->μ d<N->∃o,aX B N d=some o/\Q o:=by
 intro N
 induction N with
 |zero=>intro d _ h;omega|succ N ih=>
  intro d hI hN;rcases h d hI with⟨o,h1,h2⟩|⟨d',h1,h2,h3⟩
  .exact⟨o,by simp only[aX,h1],h2⟩
  .obtain⟨o,g1,g2⟩:=ih d' h2 (by omega);exact⟨o,by simp only[aX,h1];exact g1,g2⟩
theorem bL{n:Nat}(h:n<=1000000000000000000):n<NN:=by unfold NN;omega
abbrev aA:Sh:=(.agg [(.int .u64),(.int .u64)])
abbrev bg:Sh:=(.agg [(.int .i64),(.sl (.int .i64))])
abbrev aq:Sh:=(.agg [.bool,(.int .i64),(.int .i64)])
abbrev ae:Sh:=(.agg [(.int .i64),(.int .i64),(.int .i64)])
abbrev aH:Sh:=(.agg [(.int .i64),(.sl (.int .i64)),(.sl (.int .i64))])
abbrev gK:Sh:=(.agg [(.sl .bool),(.sl (.sl aA))])
abbrev dU:Sh:=(.agg [.bool,(.int .i64),(.int .i64),(.sl (.int .i64)),(.sl (.int .i64))])
abbrev ab:Sh:=(.agg [(.int .i64),(.int .i64),.bool,(.sl bg),(.sl aH)])
abbrev ca:Sh:=(.agg [(.int .i64),(.sl (.int .i64)),(.sl ae),(.sl (.int .i64)),(.sl (.int .i64)),(.sl (.int .i64)),(.sl ab),(.sl ae)])
abbrev jf:List LA:=[.int .i64,.fz (.int .i64),.fz ae,.fz (.int .i64),.fz (.int .i64),.fz (.int .i64),.fz ab,.fz ae]
open Go.ChangeShapes Go.WideShapes Go.ChangeAt Go.Deep
def Kh:Sh->TypeDesc->Bool
 |.bool,d=>match d with|.bool=>true|_=>false
 |.str,d=>match d with|.string=>true|_=>false
 |.int k,d=>match d with|.int k'=>Nat.beq (Ev.IntKind.num k) (Ev.IntKind.num k')|_=>false
 |_,_=>false
def Dz(P:Program)(f:TypeId->Sh->Bool):List Field->List Sh->Nat->Bool
 |[],l,_=>match l with|[]=>true|_=>false
 |x::fs,l,o=>match l with|[]=>false|s::l=>match Nat.beq x.offset o,Nat.beq (P.cellsOf x.type) s.size,f x.type s with|true,true,true=>Dz P f fs l (o+s.size)|_,_,_=>false
def tv(P:Program):Nat->TypeId->Sh->Bool
 |0,_,_=>false|k+1,t,σ=>match P.underlying t with
  |none=>false|some d=>match d with
   |.slice e=>match σ with
    |.sl s=>match Nat.blt 0 s.size,Nat.beq (P.cellsOf e) s.size with|true,true=>tv P k e s|_,_=>false
    |_=>false
   |.struct fs=>match σ with
    |.agg l=>match Nat.beq (P.cellsOf t) (qF l)with|true=>Dz P (tv P k) fs.toList l 0|false=>false
    |_=>false
   |d=>Kh σ d
def lD{α:Type}(Q:α->Prop)(L:List α):Prop:=∀x∈L,Q x
mutual
def lj:(σ:Sh)->σ.T->Prop
 |.int k,n=>(Lit.int k n).wf=true|.bool,_=>True|.str,s=>ByteArray.size s<=maxLen|.agg l,d=>Om l d|.sl s,L=>List.length L<=maxLen/\lD (lj s) L
termination_by structural x=>x
def Om:(l:List Sh)->TL l->Prop
 |[],_=>True|s::l,d=>lj s d.1/\Om l d.2
termination_by structural x=>x
end
section
variable{H:Type}{enc:TypeId×Value->H}{P:Program}{W:World}
theorem Zyr{α:Type}{R:α->List Value->Prop}:∀(l:List (α×List Value)),(∀p∈l,R p.1 p.2)->bw R (l.map (·.1)) (l.flatMap (·.2))
 |[],_=>rfl|p::l,h=>⟨p.2,l.flatMap (·.2),by rw[List.flatMap_cons],h p (by simp),Zyr l fun q hq=>h q (by simp[hq])⟩
theorem W9{α:Type}{C:Nat}(hC:0<C):∀(l:List (α×List Value)),(∀p∈l,p.2.length=C)->∀k,(l.flatMap (·.2))[k]?=l[k / C]?.bind fun x=>x.2[k % C]?
 |[],_,k=>by simp|p::l,h,k=>by
  have hp:=h p (by simp);rw[List.flatMap_cons];rcases de k C with q|q
  .rw[List.getElem?_append_left (by omega),Nat.div_eq_of_lt q,Nat.mod_eq_of_lt q];rfl
  .rw[List.getElem?_append_right (by omega),W9 hC l (fun q hq=>h q (by simp[hq])),hp];have e1:k / C=(k-C) / C+1:=by rw[Nat.div_eq_sub_div hC q]
   have e2:(k-C) % C=k % C:=by rw[<-Nat.mod_eq_sub_mod q]
   rw[e1,e2];simp
theorem akg{a:Addr}{u:Value}(h:W.cell? (a.add 0)=some u):a.spot=none:=by
 have e:a.add 0=a:=by unfold Addr.add;simp
 rw[e]at h;unfold World.cell? at h;split at h
 .split at h
  .cases h
  .rename_i hs;cases q:a.spot with|none=>rfl|some x=>exact absurd (by rw[q];rfl) hs
 .cases h
theorem Wy{b o j:Nat}{u:Value}(h:W.cell? ((⟨b,o,none⟩:Addr).add j)=some u):∃c ty fr,W.heap[b]?=some (.cells c ty fr)/\c[o+j]?=some u:=by
 rw[Ev.h9]at h;unfold World.cell? at h;split at h
 .rename_i c ty fr hc;split at h
  .cases h
  .exact⟨c,ty,fr,hc,h⟩
 .cases h
theorem Zz1{f:TypeId->Sh->Bool}{n:Nat}{cs:List Value}(hf:∀t s,f t s=true->∀n cs y,DataW.trod enc P W 0 (fun _=>true) true n t cs=some y->∃d,Cs W (fun _=>False) s d cs/\lj s d) :
  ∀(fs:List Field) (l:List Sh) (o:Nat),Dz P f fs l o=true->o+qF l=cs.length->(∀(i:Nat) (g:Field),fs[i]?=some g->∃y,DataW.trod enc P W 0 (fun _=>true) true n g.type ((cs.drop g.offset).take (P.cellsOf g.type))=some y) ->
   ∃d,gZ W (fun _=>False) l d (cs.drop o)/\Om l d
 |[],l,o,h,hl,_=>by cases l with|nil=>exact⟨(),by show cs.drop o=[];rw[List.drop_eq_nil_of_le];simp only[qF]at hl;omega,trivial⟩|cons s l=>cases h
 |x::fs,l,o,h,hl,hx=>by
  cases l with
  |nil=>cases h
  |cons s l=>
   simp only[Dz]at h;split at h<;>try cases h
   rename_i q1 q2 q3;have q1:=bD q1;have q2:=bD q2;obtain⟨y,hy⟩:=hx 0 x rfl;obtain⟨d,h1,h2⟩:=hf _ _ q3 _ _ _ hy;rw[qF]at hl;obtain⟨e,h3,h4⟩:=Zz1 hf fs l (o+s.size) h (by omega) (fun i g hg=>hx (i+1) g (by simpa using hg));refine⟨(d,e),⟨(cs.drop o).take s.size,cs.drop (o+s.size),?_,?_,h3⟩,h2,h4⟩
   .rw[<-List.drop_drop,List.take_append_drop]
   .rw[q1,q2]at h1;exact h1
theorem QO:∀(k:Nat) (t:TypeId) (σ:Sh),tv P k t σ=true->∀n cs y,DataW.trod enc P W 0 (fun _=>true) true n t cs=some y->∃d,Cs W (fun _=>False) σ d cs/\lj σ d
 |0,_,_,h=>by cases h
 |k+1,t,σ,h=>by
  intro n cs y hy;simp only[tv]at h;split at h
  .cases h
  rename_i d hu;split at h
  .rename_i e;split at h<;>try cases h
   rename_i s;split at h<;>try cases h
   rename_i q1 q2;rw[Nat.blt_eq]at q1;have q2:=bD q2;rcases open_slice hu hy with⟨rfl,_⟩|⟨a,len,cap,m,n',D,Pl,rfl,_,hl,hm,hmm,_,hi⟩
   .exact⟨[],⟨none,0,0,rfl,rfl,aS _,fun q=>absurd rfl q⟩,dq _,fun x hx=>by cases hx⟩
   have hmm':m=cap:=by simpa using hmm
   subst hmm';obtain⟨l,hll,hp⟩:=WH (α:=s.T×List Value) (p:=fun i x=>Cs W (fun _=>False) s x.1 x.2/\lj s x.1/\∀j,j<s.size->W.cell? (a.add (i*s.size+j))=x.2[j]?) len (fun i hi0=>by obtain⟨cs',h1,h2⟩:=hi i (by omega);obtain⟨x,hx1,hx2⟩:=QO k e s h _ _ _ h2;refine⟨(x,cs'),hx1,hx2,fun j hj=>?_⟩;rw[q2]at h1;obtain⟨_,_,hat⟩:=World.cells?_some h1;rw[<-Zuk,hat j hj]);have hlen:∀p∈l,p.2.length=s.size:=by intro p hpm;obtain⟨i,hi⟩:=List.getElem?_of_mem hpm;exact Cs.length (hp i p hi).1
   have hcell:∀j u,(l.flatMap (·.2))[j]?=some u->W.cell? (a.add j)=some u:=by
    intro j u hu;rw[W9 q1 l hlen]at hu;rcases hx:l[j / s.size]? with _|x
    .rw[hx]at hu;cases hu
    .rw[hx]at hu;have hu:x.2[j % s.size]?=some u:=hu;have:=(hp _ x hx).2.2 (j % s.size) (Nat.mod_lt _ q1);rw[Nat.div_add_mod' j s.size]at this;rw[this,hu]
   refine⟨l.map (·.1),⟨some a,len,m,rfl,by simp[hll],hl,fun hne=>?_⟩,by simpa[hll]using dK hl hm,?_⟩
   .have hflat:bw (Cs W (fun _=>False) s) (l.map (·.1)) (l.flatMap (·.2)):=Zyr l (fun p hpm=>by obtain⟨i,hi⟩:=List.getElem?_of_mem hpm;exact(hp i p hi).1);have hfl:(l.flatMap (·.2)).length=l.length*s.size:=by have:=bw.length (fun x c=>Cs.length) hflat;simpa using this
    have hl0:0<l.length:=by cases l with|nil=>exact absurd rfl hne|cons _ _=>simp
    have h0:0<(l.flatMap (·.2)).length:=by rw[hfl];exact Nat.mul_pos hl0 q1
    have hsp:=akg (hcell 0 _ (aN h0));obtain⟨b,o,sp⟩:=a;have hsp:sp=none:=hsp;subst hsp;obtain⟨c,ty,fr,hc,_⟩:=Wy (hcell 0 _ (aN h0));refine⟨b,o,l.flatMap (·.2),rfl,fun h=>h,hflat,c,ty,fr,hc,?_⟩;intro j u hu;obtain⟨c',ty',fr',hc',hj⟩:=Wy (hcell j u hu);rw[hc]at hc';cases hc';exact hj
   .intro x hx;obtain⟨p,hpm,rfl⟩:=List.mem_map.1 hx;obtain⟨i,hi⟩:=List.getElem?_of_mem hpm;exact(hp i p hi).2.1
  .rename_i fs;split at h<;>try cases h
   rename_i l;split at h<;>try cases h
   rename_i q1;have q1:=bD q1;obtain⟨xs,n',rfl,_,hlen,hxl,hx⟩:=DataW.trod_struct hu hy;obtain⟨d,h1,h2⟩:=Zz1 (n:=n') (cs:=cs) (QO k) fs.toList l 0 h (by rw[hlen,q1];omega) (fun i g hg=>by
    have hg':fs[i]?=some g:=by simpa using hg
    have hi:i<fs.size:=(Array.getElem?_eq_some_iff.1 hg').1;have:=hx i g hg';rw[aN (by omega)]at this;exact⟨_,this⟩)
   rw[List.drop_zero]at h1;exact⟨d,h1,h2⟩
  .unfold Kh at h;split at h
   .split at h<;>try cases h
    obtain⟨b,rfl,_⟩:=DataW.trod_bool hu hy;exact⟨b,rfl,trivial⟩
   .split at h<;>try cases h
    obtain⟨s,rfl,_,hs⟩:=DataW.trod_string hu hy;exact⟨s,rfl,hs⟩
   .split at h<;>try cases h
    rename_i k₁ k₂;have:=Ev.IntKind.uh (bD h);subst this;obtain⟨m,rfl,_,hw⟩:=DataW.trod_int hu hy;exact⟨m,rfl,hw⟩
   .cases h
theorem Jc{k:Nat}{t:TypeId}{σ:Sh}{v:Value}{d:DataW H}{ps:List MemPlace}{r:Reach}{b0:Nat}(h:tv P k t σ=true)(hv:Value.okWide P W r b0 t v)(hd:DataW.Trod enc P W 0 (fun _=>true) true t v d ps) :
  ∃x,ju W (fun _=>False) σ x v/\lj σ x:=by
 obtain⟨fuel,hf⟩:=hd;obtain⟨x,h1,h2⟩:=QO k t σ h _ _ _ hf;refine⟨x,⟨h1,?_⟩,h2⟩;cases k with
 |zero=>cases h
 |succ k=>
  simp only[tv]at h;split at h
  .cases h
  rename_i d' hu;split at h
  .split at h<;>try cases h
   obtain⟨a,l,c,rfl⟩:=okWide_slice hu hv;rfl
  .split at h<;>try cases h
   obtain⟨cs,rfl,_⟩:=okWide_struct hu hv;rfl
  .unfold Kh at h;split at h
   .split at h<;>try cases h
    obtain⟨b,rfl⟩:=okWide_bool hu hv;rfl
   .split at h<;>try cases h
    obtain⟨b,rfl⟩:=okWide_string hu hv;rfl
   .split at h<;>try cases h
    obtain⟨b,rfl⟩:=okWide_int hu hv;rfl
   .cases h
