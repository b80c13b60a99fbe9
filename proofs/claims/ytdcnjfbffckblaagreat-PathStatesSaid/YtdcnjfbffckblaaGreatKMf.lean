import Derived.Test.YtdcnjfbffckblaaGreatKMe
import Derived.Test.YtdcnjfbffckblaaGreatKBs
set_option linter.unusedVariables false
set_option linter.unusedSimpArgs false
set_option linter.unnecessarySimpa false
section
namespace Go.Proofs.YtdcnjfbffckblaaGreat.V
open Go Go.RowKit
open Go.Proofs.YtdcnjfbffckblaaGreat.Ev (Tr Tr.bz nth bI Ex)
theorem U0{X:Cx}(H:ab X){j f b c:Nat}{o:aC}{vs':List AV}{ty:TypeId}{tr:Tr aC}{cs:List Value}(hj:X.h.tr.get j=some o)(ho:∀τ L ty,o≠.arr τ L ty)(hs:X.s j=some (.at b c))(hw:X.w.heap[b]?=some (.cells (List.toArray cs) ty (0,0)))
  (hv:bg X vs' cs) (ht:Tr.set f X.h.tr j (some (.cells vs' ty))=some tr):ab ⟨X.s,⟨tr,X.h.next⟩,X.w,X.A⟩/\aH X ⟨X.s,⟨tr,X.h.next⟩,X.w,X.A⟩:=by
 have hg:=Tr.bz _ _ _ _ _ ht;have back:∀i o,tr.get i=some o->∃o',X.h.tr.get i=some o'/\(∀n,o.row=some n->o'.row=some n):=by
  intro i o h;rw[hg i]at h;by_cases q:i=j
  .rw[if_pos q]at h;cases h;subst q;exact⟨_,hj,fun n r=>by cases r⟩
  .rw[if_neg q]at h;exact⟨o,h,fun _ r=>r⟩
 have bx:∀b,Cx.bx ⟨X.s,⟨tr,X.h.next⟩,X.w,X.A⟩ b->X.bx b:=by rintro b ⟨i,o,c,h1,h2⟩;obtain⟨o',h3,_⟩:=back i o h1;exact⟨i,o',c,h3,h2⟩
 have E:aH X ⟨X.s,⟨tr,X.h.next⟩,X.w,X.A⟩:=by
  refine⟨rfl,rfl,rfl,Nat.le_refl _,fun _ _ h=>h,fun _ _ _ h=>h,Nat.le_refl _,fun _ _ _=>rfl,fun b h=>.inl (bx b h),?_,?_,rfl⟩
  .intro i n _ h;obtain⟨o,h,hr⟩:=gO h;obtain⟨o',h1,h2⟩:=back i _ h;show rowOf X.h.tr i=some n;rw[fS h1];exact h2 n hr
  .intro i _ hn;show tr.get i=_;rw[hg i,if_neg (by rintro rfl;rw[hs]at hn;cases hn)]
 have RE:=E.db H;refine⟨⟨?_,?_,?_,H.bZ,H.alt,?_⟩,E⟩
 .intro i o l h1 h2
  replace h1:tr.get i=some o:=h1
  rw[hg i]at h1;by_cases q:i=j
  .rw[if_pos q]at h1;cases h1;subst q
   replace h2:X.s i=some l:=h2
   rw[hs]at h2;cases h2;exact⟨b,c,cs,rfl,hw,hv.ext RE⟩
  .rw[if_neg q]at h1;exact(H.obj i o l h1 h2).ext RE (fun _ _=>rfl)
 .intro i k o o' c c' b h1 h2 h3 h4 h5 h6;obtain⟨p,g1,_⟩:=back i o h1;obtain⟨q,g2,_⟩:=back k o' h2;exact H.inj i k p q c c' b g1 g2 h3 h4 h5 h6
 .intro i o h1;obtain⟨p,g1,_⟩:=back i o h1;exact H.lt i p g1
 .intro i o c b h1 h2;obtain⟨p,g1,_⟩:=back i o h1;exact H.loc i p c b g1 h2
theorem VA{X:Cx}(H:ab X){j f:Nat}{l:Loc}{o o':aC}{tr:Tr aC}(hj:X.h.tr.get j=some o)(hrow:∀n,o'.row=some n->o.row=some n)(hs:X.s j=some l)(ho:bG X l o')(ht:Tr.set f X.h.tr j (some o')=some tr) :
  ab ⟨X.s,⟨tr,X.h.next⟩,X.w,X.A⟩/\aH X ⟨X.s,⟨tr,X.h.next⟩,X.w,X.A⟩:=by
 have hg:=Tr.bz _ _ _ _ _ ht;have back:∀i o₁,tr.get i=some o₁->∃o₂,X.h.tr.get i=some o₂/\(∀n,o₁.row=some n->o₂.row=some n):=by
  intro i o₁ h;rw[hg i]at h;by_cases q:i=j
  .rw[if_pos q]at h;cases h;subst q;exact⟨_,hj,hrow⟩
  .rw[if_neg q]at h;exact⟨o₁,h,fun _ r=>r⟩
 have E:aH X ⟨X.s,⟨tr,X.h.next⟩,X.w,X.A⟩:=by
  refine⟨rfl,rfl,rfl,Nat.le_refl _,fun _ _ h=>h,fun _ _ _ h=>h,Nat.le_refl _,fun _ _ _=>rfl,?_,?_,?_,rfl⟩
  .rintro b ⟨i,o₁,c,h1,h2⟩;obtain⟨o₂,h3,_⟩:=back i o₁ h1;exact .inl ⟨i,o₂,c,h3,h2⟩
  .intro i n _ h;obtain⟨o₁,h,hr⟩:=gO h;obtain⟨o₂,h1,h2⟩:=back i _ h;show rowOf X.h.tr i=some n;rw[fS h1];exact h2 n hr
  .intro i _ hn;show tr.get i=_;rw[hg i,if_neg (by rintro rfl;rw[hs]at hn;cases hn)]
 have RE:=E.db H;refine⟨⟨?_,?_,?_,H.bZ,H.alt,?_⟩,E⟩
 .intro i o₁ l₁ h1 h2
  replace h1:tr.get i=some o₁:=h1
  rw[hg i]at h1;by_cases q:i=j
  .rw[if_pos q]at h1;cases h1;subst q
   replace h2:X.s i=some l₁:=h2
   rw[hs]at h2;cases h2;exact ho.ext RE (fun _ _=>rfl)
  .rw[if_neg q]at h1;exact(H.obj i o₁ l₁ h1 h2).ext RE (fun _ _=>rfl)
 .intro i k o₁ o₂ c c' b h1 h2 h3 h4 h5 h6;obtain⟨p,g1,_⟩:=back i o₁ h1;obtain⟨q,g2,_⟩:=back k o₂ h2;exact H.inj i k p q c c' b g1 g2 h3 h4 h5 h6
 .intro i o₁ h1;obtain⟨p,g1,_⟩:=back i o₁ h1;exact H.lt i p g1
 .intro i o₁ c b h1 h2;obtain⟨p,g1,_⟩:=back i o₁ h1;exact H.loc i p c b g1 h2
def DX(h:Hp)(b:Nat):Option Hp:=match h.tr.get b with
 |some (.cR τ i L vs ty)=>match di true h τ vs with
  |some (x,l,h₁)=>match l,h₁.tr.get b with
   |[],some _=>match Tr.set FT h₁.tr b (some (.arr τ (L.set i x) ty))with|some tr=>some ⟨tr,h₁.next⟩|none=>none
   |_,_=>none
  |none=>none
 |_=>some h
theorem ZT{X:Cx}(H:ab X){b:Nat}{l:Loc}{h':Hp}(e:DX X.h b=some h')(hs:X.s b=some l):ab ⟨X.s,h',X.w,X.A⟩/\aH X ⟨X.s,h',X.w,X.A⟩:=by
 unfold DX at e;split at e
 .rename_i τ i L vs ty hb;split at e<;>try cases e
  rename_i x r h₁ hf;split at e<;>try cases e
  rename_i ob hob;split at e<;>cases e;rename_i tr ht;obtain⟨b₀,c,pre,mid,post,tail,rfl,q1,q2,q3,q4,q5,q6,q7,q8⟩:=H.obj b _ _ hb hs;obtain⟨F,c₁,r₁,k1,k2,k3⟩:=mr H hf q3;have:r₁=[]:=k3;subst this;rw[fR]at k1;subst k1;have hob':h₁.tr.get b=some (.cR τ i L vs ty):=by have:=F.sub b _ hob;rw[hb]at this;rw[hob,<-this]
  have K:=F.E.keeps;have ho:bG ⟨X.s,h₁,X.w,X.A⟩ (.at b₀ c) (.arr τ (L.set i x) ty):=by refine⟨pre++(mid++post),tail,by rw[q1];simp,?_,by simp only[bA];omega,by simpa using q8⟩;rw[List.set_eq_take_append_cons_drop,if_pos q5];refine(q2.mono (fun x d q=>q.aN K)).append ?_;exact⟨mid,post,rfl,k2,q4.mono (fun x d q=>q.aN K)⟩
  obtain⟨g1,g2⟩:=VA (X:=⟨X.s,h₁,X.w,X.A⟩) F.H hob' (fun n q=>by simpa[aC.row]using q) hs ho ht;exact⟨g1,F.E.trans g2⟩
 .cases e;exact⟨H,aH.refl X⟩
def lL:List (Nat×LO)->Nat->Option LO
 |[],_=>none|p::l,i=>match Nat.beq p.1 i with|true=>some p.2|false=>lL l i
def z8(lh:List (Nat×LO))(h:Hp)(i:Nat):AV->Option (AV×Hp)
 |.av=>match lL lh i with
  |some o=>match o with
   |.arr τ ty=>match Tr.set FT h.tr h.next (some (.arr τ [] ty))with|some t=>some (.hd h.next τ,⟨t,h.next+1⟩)|none=>none
   |_=>none
  |none=>none
 |.hd b τ=>match lL lh i with
  |some o=>match o with
   |.arr _ _=>match DX h b with|some h'=>some (.hd b τ,h')|none=>none
   |_=>some (.hd b τ,h)
  |none=>some (.hd b τ,h)
 |v=>some (v,h)
def Bw(lh:List (Nat×LO))(h:Hp)(i:Nat):AV->Option (AV×Hp)
 |.av=>match lL lh i with
  |some o=>match o with
   |.dG ty=>match Tr.set FT h.tr h.next (some (.dG [] ty))with|some t=>some (.dk h.next,⟨t,h.next+1⟩)|none=>none
   |_=>none
  |none=>none
 |v=>some (v,h)
def z7(h:Hp)(τ:Sh):AV->Option (AV×Hp)
 |.hd b τ'=>match di true h (.sl τ) [.hd b τ']with
  |some (L,l,h')=>match l with|[]=>some (.fz τ L,h')|_=>none
  |none=>none
 |.vw b τ' o n=>match di true h (.sl τ) [.vw b τ' o n]with
  |some (L,l,h')=>match l with|[]=>some (.fz τ L,h')|_=>none
  |none=>wM h (.vw b τ' o n)
 |v=>some (v,h)
mutual
def eA(lh:List (Nat×LO))(h:Hp):LA->AV->Option (AV×Hp)
 |.hd i τ,v=>z8 lh h i v|.dk i,v=>Bw lh h i v|.fz τ,v=>z7 h τ v|.func f x c,v=>match v with
  |.func g x' c'=>match kV lh h x x' with
   |some (x',h)=>match kV lh h c c' with|some (c',h)=>some (.func g x' c',h)|none=>none
   |none=>none
  |v=>some (v,h)
 |.agg l,v=>match v with
  |.agg l'=>match kV lh h l l' with|some (l',h)=>some (.agg l',h)|none=>none
  |v=>some (v,h)
 |.bk l,v=>match v with
  |.bk l'=>match kV lh h l l' with|some (l',h)=>some (.bk l',h)|none=>none
  |v=>some (v,h)
 |_,v=>some (v,h)
termination_by structural x=>x
def kV(lh:List (Nat×LO))(h:Hp):List LA->List AV->Option (List AV×Hp)
 |[],vs=>some (vs,h)|a::l,vs=>match vs with
  |[]=>some ([],h)|v::vs=>match eA lh h a v with
   |some (v,h)=>match kV lh h l vs with|some (vs,h)=>some (v::vs,h)|none=>none
   |none=>none
termination_by structural x=>x
end
def cG(X:Cx)(h':Hp)(X':Cx):Prop:=X'.w=X.w/\X'.h=h'/\ab X'/\aH X X'
theorem cG.refl{X:Cx}(H:ab X):cG X X.h X:=⟨rfl,rfl,H,aH.refl X⟩
theorem Xw{lh:List (Nat×LO)}{i:Nat}{v v':AV}{h':Hp}{X:Cx}(H:ab X)(e:z8 lh X.h i v=some (v',h')){V:Value}(R:Rel X v V):∃X',cG X h' X'/\Rel X' v' V:=by
 unfold z8 at e;split at e
 .split at e<;>try cases e
  split at e<;>try cases e
  rename_i τ ty;split at e<;>cases e;rename_i t ht;obtain⟨E,H'⟩:=ab.void H ht;have g0:=Tr.bz _ _ _ _ _ ht;refine⟨⟨aT X.s X.h.next .nil,⟨t,X.h.next+1⟩,X.w,X.A⟩,⟨rfl,rfl,H',E⟩,.nil,cd _ _ _,?_,?_⟩
  .rw[show V=_ from R];rfl
  .intro n' q
   replace q:rowOf t X.h.next=some n':=q
   rw[fS (by rw[g0,if_pos rfl])]at q;cases q;rw[show V=_ from R];rfl
 .rename_i b τ;split at e
  .split at e
   .split at e<;>cases e;rename_i hc;obtain⟨l,hs,hR⟩:=R;obtain⟨H',E⟩:=ZT H hc hs;exact⟨⟨X.s,h',X.w,X.A⟩,⟨rfl,rfl,H',E⟩,Rel.ext (E.db H) (v:=.hd b τ) ⟨l,hs,hR⟩⟩
   .cases e;exact⟨X,cG.refl H,R⟩
  .cases e;exact⟨X,cG.refl H,R⟩
 .cases e;exact⟨X,cG.refl H,R⟩
theorem WU{lh:List (Nat×LO)}{i:Nat}{v v':AV}{h':Hp}{X:Cx}(H:ab X)(e:Bw lh X.h i v=some (v',h')){V:Value}(R:Rel X v V):∃X',cG X h' X'/\Rel X' v' V:=by
 unfold Bw at e;split at e
 .split at e<;>try cases e
  split at e<;>try cases e
  rename_i ty;split at e<;>cases e;rename_i t ht;obtain⟨E,H'⟩:=ab.JG H ht (fun _=>rfl);refine⟨⟨aT X.s X.h.next .nil,⟨t,X.h.next+1⟩,X.w,X.A⟩,⟨rfl,rfl,H',E⟩,.nil,cd _ _ _,?_⟩;rw[show V=_ from R];rfl
 .cases e;exact⟨X,cG.refl H,R⟩
theorem Xx{τ:Sh}{v v':AV}{h':Hp}{X:Cx}(H:ab X)(e:z7 X.h τ v=some (v',h')){V:Value}(R:Rel X v V):∃X',cG X h' X'/\Rel X' v' V:=by
 have main:∀u,Rel X u V->(match di true X.h (.sl τ) [u]with
  |some (L,l,h')=>match l with|[]=>some (AV.fz τ L,h')|_=>none
  |none=>none)=some (v',h')->∃X',cG X h' X'/\Rel X' v' V:=by
  intro u R e;split at e<;>try cases e
  rename_i L l h₁ hf;split at e<;>cases e;obtain⟨F,c,r,he,h1,h2⟩:=mr H hf (show bg X [u] [V]from⟨V,[],rfl,R,rfl⟩);have:r=[]:=h2;subst this;rw[fR]at he;subst he;exact⟨⟨X.s,h',X.w,X.A⟩,⟨rfl,rfl,F.H,F.E⟩,h1⟩
 unfold z7 at e;split at e
 .exact main _ R e
 .split at e
  .rename_i hf;exact main _ R (by rw[hf];exact e)
  .obtain⟨F,Q⟩:=Kv H e R;exact⟨⟨X.s,h',X.w,X.A⟩,⟨rfl,rfl,F.H,F.E⟩,Q⟩
 .cases e;exact⟨X,cG.refl H,R⟩
theorem cG.trans{X X' X'':Cx}{h' h'':Hp}(a:cG X h' X')(b:cG X' h'' X''):cG X h'' X'':=⟨b.1.trans a.1,b.2.1,b.2.2.1,a.2.2.2.trans b.2.2.2⟩
mutual
theorem KU{lh:List (Nat×LO)}:∀(a:LA) {v v':AV}{h':Hp}{X:Cx},ab X->eA lh X.h a v=some (v',h')->∀{V:Value},Rel X v V->∃X',cG X h' X'/\Rel X' v' V
 |.hd i τ,v,v',h',X,H,e,V,R=>Xw H (by simpa only[eA]using e) R|.dk i,v,v',h',X,H,e,V,R=>WU H (by simpa only[eA]using e) R|.fz τ,v,v',h',X,H,e,V,R=>Xx H (by simpa only[eA]using e) R|.func f x c,v,v',h',X,H,e,V,R=>by
  simp only[eA]at e;split at e
  .rename_i g x' c';split at e<;>try cases e
   rename_i x₂ h₁ e₁;split at e<;>cases e;rename_i c₂ e₂;obtain⟨xs,cs,rfl,R1,R2⟩:=R;obtain⟨X₁,F₁,Q₁⟩:=pr x H e₁ R1;have hX:=F₁.2.1;rw[<-hX]at e₂;obtain⟨X₂,F₂,Q₂⟩:=pr c F₁.2.2.1 e₂ (R2.ext (F₁.2.2.2.db H));exact⟨X₂,F₁.trans F₂,xs,cs,rfl,Q₁.ext (F₂.2.2.2.db F₁.2.2.1),Q₂⟩
  .cases e;exact⟨X,cG.refl H,R⟩
 |.agg l,v,v',h',X,H,e,V,R=>by
  simp only[eA]at e;split at e
  .rename_i l';split at e<;>cases e;rename_i l₂ e₁;obtain⟨cs,rfl,R1⟩:=R;obtain⟨X₁,F₁,Q₁⟩:=pr l H e₁ R1;exact⟨X₁,F₁,cs,rfl,Q₁⟩
  .cases e;exact⟨X,cG.refl H,R⟩
 |.bk l,v,v',h',X,H,e,V,R=>by
  simp only[eA]at e;split at e
  .rename_i l';split at e<;>cases e;rename_i l₂ e₁;obtain⟨cs,rfl,R1⟩:=R;obtain⟨X₁,F₁,Q₁⟩:=pr l H e₁ R1;exact⟨X₁,F₁,cs,rfl,Q₁⟩
  .cases e;exact⟨X,cG.refl H,R⟩
 |.int k,v,v',h',X,H,e,V,R=>by simp only[eA]at e;cases e;exact⟨X,cG.refl H,R⟩
 |.bool,v,v',h',X,H,e,V,R=>by simp only[eA]at e;cases e;exact⟨X,cG.refl H,R⟩
 |.str,v,v',h',X,H,e,V,R=>by simp only[eA]at e;cases e;exact⟨X,cG.refl H,R⟩
 |.cg,v,v',h',X,H,e,V,R=>by simp only[eA]at e;cases e;exact⟨X,cG.refl H,R⟩
 |.av,v,v',h',X,H,e,V,R=>by simp only[eA]at e;cases e;exact⟨X,cG.refl H,R⟩
 |.cE,v,v',h',X,H,e,V,R=>by simp only[eA]at e;cases e;exact⟨X,cG.refl H,R⟩
 |.cD,v,v',h',X,H,e,V,R=>by simp only[eA]at e;cases e;exact⟨X,cG.refl H,R⟩
 |.cZ,v,v',h',X,H,e,V,R=>by simp only[eA]at e;cases e;exact⟨X,cG.refl H,R⟩
 |.fU,v,v',h',X,H,e,V,R=>by simp only[eA]at e;cases e;exact⟨X,cG.refl H,R⟩
 |.eW τ,v,v',h',X,H,e,V,R=>by simp only[eA]at e;cases e;exact⟨X,cG.refl H,R⟩
 |.dO σ o,v,v',h',X,H,e,V,R=>by simp only[eA]at e;cases e;exact⟨X,cG.refl H,R⟩
 |.ptr b o,v,v',h',X,H,e,V,R=>by simp only[eA]at e;cases e;exact⟨X,cG.refl H,R⟩
 |.mp b,v,v',h',X,H,e,V,R=>by simp only[eA]at e;cases e;exact⟨X,cG.refl H,R⟩
 |.da b z o,v,v',h',X,H,e,V,R=>by simp only[eA]at e;cases e;exact⟨X,cG.refl H,R⟩
 |.rp b,v,v',h',X,H,e,V,R=>by simp only[eA]at e;cases e;exact⟨X,cG.refl H,R⟩
theorem pr{lh:List (Nat×LO)}:∀(l:List LA) {vs vs':List AV}{h':Hp}{X:Cx},ab X->kV lh X.h l vs=some (vs',h')->∀{cs:List Value},bg X vs cs->∃X',cG X h' X'/\bg X' vs' cs
 |[],vs,vs',h',X,H,e,cs,R=>by simp only[kV]at e;cases e;exact⟨X,cG.refl H,R⟩
 |a::l,vs,vs',h',X,H,e,cs,R=>by
  simp only[kV]at e;split at e
  .cases e;exact⟨X,cG.refl H,R⟩
  .rename_i v vs;split at e<;>try cases e
   rename_i v₂ h₁ e₁;split at e<;>cases e;rename_i vs₂ e₂;obtain⟨V,r,rfl,R1,R2⟩:=R;obtain⟨X₁,F₁,Q₁⟩:=KU a H e₁ R1;have hX:=F₁.2.1;rw[<-hX]at e₂;obtain⟨X₂,F₂,Q₂⟩:=pr l F₁.2.2.1 e₂ (R2.ext (F₁.2.2.2.db H));exact⟨X₂,F₁.trans F₂,V,r,rfl,Q₁.ext (F₂.2.2.2.db F₁.2.2.1),Q₂⟩
end
def nn(n:Nat)(lh:List (Nat×LO)):List (Tmp×LA)->St->Option St
 |[],st=>some st|p::l,st=>match st.T.get p.1 with
  |some v=>match eA lh st.h p.2 v with
   |some (v,h)=>match cI n st.T (some p.1) v with|some T=>nn n lh l ⟨T,h⟩|none=>none
   |none=>none
  |none=>nn n lh l st
theorem ur{n:Nat}{lh:List (Nat×LO)}:∀{l:List (Tmp×LA)}{st st':St},nn n lh l st=some st'->∀{X:Cx}{a:Act},RF X n st a->∃X',X'.w=X.w/\RF X' n st' a/\aH X X'
 |[],st,st',e,X,a,R=>by simp only[nn,aX]at e;subst e;exact⟨X,rfl,R,aH.refl X⟩|p::l,st,st',e,X,a,R=>by
  simp only[nn]at e;split at e
  .rename_i v hv;split at e<;>try cases e
   rename_i v₂ h₁ e₁;split at e<;>try cases e
   rename_i T hT;have hX:=R.h;rw[<-hX]at e₁;obtain⟨V,b1,b2⟩:=R.T.get _ _ hv;obtain⟨X₁,⟨w₁,h₁',H₁,E₁⟩,Q₁⟩:=KU p.2 R.H e₁ b2;have hg:=iJ hT;have R₁:RF X₁ n ⟨T,h₁⟩ a:=by
    refine⟨h₁',⟨R.T.size,R.T.defers,?_⟩,H₁⟩;intro x u hu;rw[hg x]at hu;by_cases q:p.1=x
    .subst q;rw[if_pos rfl]at hu;cases hu;exact⟨V,b1,Q₁⟩
    .rw[if_neg (by simpa using q)]at hu;obtain⟨U,c1,c2⟩:=R.T.get _ _ hu;exact⟨U,c1,c2.ext (E₁.db R.H)⟩
   obtain⟨X₂,w₂,R₂,E₂⟩:=ur e R₁;exact⟨X₂,w₂.trans w₁,R₂,E₁.trans E₂⟩
  .exact ur e R
def Eb(lh:List (Nat×LO))(las:List LA)(j:Nat)(h:Hp):Option Hp:=match h.tr.get j with
 |some o=>match o with
  |.cells vs ty=>match kV lh h las vs with
   |some (vs',h')=>match h'.tr.get j with
    |some o'=>match o' with
     |.cells _ _=>match Tr.set FT h'.tr j (some (.cells vs' ty))with|some t=>some ⟨t,h'.next⟩|none=>none
     |_=>none
    |none=>none
   |none=>none
  |_=>none
 |none=>none
theorem TS{lh:List (Nat×LO)}{las:List LA}{j:Nat}{h':Hp}{X:Cx}(H:ab X)(e:Eb lh las j X.h=some h')(hr:X.s j≠none):∃X',cG X h' X':=by
 unfold Eb at e;split at e<;>try cases e
 rename_i o hj;split at e<;>try cases e
 rename_i vs ty;split at e<;>try cases e
 rename_i vs' h₁ hf;split at e<;>try cases e
 rename_i o₂ ho₂;split at e<;>try cases e
 rename_i vs₂ ty₂;split at e<;>cases e;rename_i t ht;cases hs:X.s j with|none=>exact absurd hs hr|some l=>obtain⟨b,c,cs,rfl,e2,e3⟩:=H.obj j _ l hj hs;obtain⟨X₁,⟨w₁,hh₁,H₁,E₁⟩,Q₁⟩:=pr las H hf e3;have hsn:X₁.s j=some (.at b c):=E₁.sg _ _ hs;rw[<-hh₁]at ho₂ ht;obtain⟨g1,g2⟩:=U0 H₁ ho₂ (fun _ _ _ q=>by cases q) hsn (by rw[w₁];exact e2) Q₁ ht;exact⟨⟨X₁.s,⟨t,X₁.h.next⟩,X₁.w,X₁.A⟩,w₁,by rw[hh₁],g1,E₁.trans g2⟩
def fD(j:Nat):List Nat->Bool
 |[]=>false|i::l=>match Nat.beq i j with|true=>true|false=>fD j l
theorem yM{j:Nat}:∀{l:List Nat},fD j l=true->j∈l
 |[],h=>by cases h
 |i::l,h=>by
  simp only[fD]at h;split at h
  .rename_i q;rw[aA q];simp
  .exact List.mem_cons_of_mem _ (yM h)
mutual
def dW:AV->List Nat->List Nat
 |.ptr b _,r=>b::r|.hd b _,r=>b::r|.mp b,r=>b::r|.dk b,r=>b::r|.rp b _,r=>b::r|.ra b _,r=>b::r|.func _ x c,r=>iw x (iw c r)|.agg l,r=>iw l r|.bk l,r=>iw l r|_,r=>r
termination_by structural x=>x
def iw:List AV->List Nat->List Nat
 |[],r=>r|v::l,r=>dW v (iw l r)
termination_by structural x=>x
end
mutual
theorem Q6{X:Cx}:∀(v:AV) {r:List Nat}{V:Value},Rel X v V->(∀j∈r,X.s j≠none)->∀j∈dW v r,X.s j≠none
 |.ptr b o,r,V,⟨x,c,h1,_⟩,hr,j,hj=>by
  simp only[dW,List.mem_cons]at hj;rcases hj with rfl|hj
  .rw[h1];simp
  .exact hr j hj
 |.hd b o,r,V,⟨x,h1,_⟩,hr,j,hj=>by
  simp only[dW,List.mem_cons]at hj;rcases hj with rfl|hj
  .rw[h1];simp
  .exact hr j hj
 |.mp b,r,V,⟨x,c,h1,_⟩,hr,j,hj=>by
  simp only[dW,List.mem_cons]at hj;rcases hj with rfl|hj
  .rw[h1];simp
  .exact hr j hj
 |.dk b,r,V,⟨x,h1,_⟩,hr,j,hj=>by
  simp only[dW,List.mem_cons]at hj;rcases hj with rfl|hj
  .rw[h1];simp
  .exact hr j hj
 |.rp b i,r,V,⟨x,c,m,p,h1,_⟩,hr,j,hj=>by
  simp only[dW,List.mem_cons]at hj;rcases hj with rfl|hj
  .rw[h1];simp
  .exact hr j hj
 |.ra b i,r,V,⟨x,c,m,h1,_⟩,hr,j,hj=>by
  simp only[dW,List.mem_cons]at hj;rcases hj with rfl|hj
  .rw[h1];simp
  .exact hr j hj
 |.func f x c,r,V,⟨xs,cs,_,h1,h2⟩,hr,j,hj=>nP x h1 (nP c h2 hr) j (by simpa only[dW]using hj)|.agg l,r,V,⟨cs,_,h1⟩,hr,j,hj=>nP l h1 hr j (by simpa only[dW]using hj)|.bk l,r,V,⟨cs,_,h1⟩,hr,j,hj=>nP l h1 hr j (by simpa only[dW]using hj)|.bool _,r,V,h,hr,j,hj=>hr j (by simpa only[dW]using hj)|.int _ _,r,V,h,hr,j,hj=>hr j (by simpa only[dW]using hj)|.str _,r,V,h,hr,j,hj=>hr j (by simpa only[dW]using hj)|.cg,r,V,h,hr,j,hj=>hr j (by simpa only[dW]using hj)|.av,r,V,h,hr,j,hj=>hr j (by simpa only[dW]using hj)|.cE,r,V,h,hr,j,hj=>hr j (by simpa only[dW]using hj)|.cD,r,V,h,hr,j,hj=>hr j (by simpa only[dW]using hj)|.cZ,r,V,h,hr,j,hj=>hr j (by simpa only[dW]using hj)|.fU,r,V,h,hr,j,hj=>hr j (by simpa only[dW]using hj)|.da _ _ _ _,r,V,h,hr,j,hj=>hr j (by simpa only[dW]using hj)|.dO _ _ _,r,V,h,hr,j,hj=>hr j (by simpa only[dW]using hj)|.vw _ _ _ _,r,V,h,hr,j,hj=>hr j (by simpa only[dW]using hj)|.eW _ _ _,r,V,h,hr,j,hj=>hr j (by simpa only[dW]using hj)|.fz _ _,r,V,h,hr,j,hj=>hr j (by simpa only[dW]using hj)
theorem nP{X:Cx}:∀(l:List AV) {r:List Nat}{cs:List Value},bg X l cs->(∀j∈r,X.s j≠none)->∀j∈iw l r,X.s j≠none
 |[],r,cs,h,hr,j,hj=>hr j (by simpa only[iw]using hj)|v::l,r,cs,⟨V,t,_,h1,h2⟩,hr,j,hj=>Q6 v h1 (nP l h2 hr) j (by simpa only[iw]using hj)
end
def cellsOf(h:Hp)(j:Nat):List AV:=match h.tr.get j with
 |some o=>match o with|.cells l _=>l|.cR _ _ _ l _=>l|_=>[]
 |none=>[]
theorem Kl{X:Cx}(H:ab X){j:Nat}(hj:X.s j≠none){r:List Nat}(hr:∀i∈r,X.s i≠none):∀i∈iw (cellsOf X.h j) r,X.s i≠none:=by
 unfold cellsOf;split
 .rename_i o ho;split
  .rename_i l ty;cases hs:X.s j with|none=>exact absurd hs hj|some k=>obtain⟨b,c,cs,rfl,e2,e3⟩:=H.obj j _ k ho hs;exact nP l e3 hr
  .rename_i τ' i' L' l ty;cases hs:X.s j with|none=>exact absurd hs hj|some k=>obtain⟨b,c,pre,mid,post,tail,rfl,e1,e2,e3,_⟩:=H.obj j _ k ho hs;exact nP l e3 hr
  .simpa only[iw]using hr
 .simpa only[iw]using hr
def lW(lh:List (Nat×LO)):List (Nat×Nat)->List Nat->Hp->Option (List Nat×Hp)
 |[],kn,h=>some (kn,h)|p::m,kn,h=>match fD p.1 kn with
  |true=>match lL lh p.2 with
   |some o=>match o with
    |.cells las _=>match Eb lh las p.1 h with|some h=>lW lh m (iw (cellsOf h p.1) kn) h|none=>none
    |.cR _ _ _=>lW lh m (iw (cellsOf h p.1) kn) h|_=>lW lh m kn h
   |none=>lW lh m kn h
  |false=>none
theorem qM{lh:List (Nat×LO)}:∀{m:List (Nat×Nat)}{kn kn':List Nat}{h':Hp}{X:Cx},ab X->lW lh m kn X.h=some (kn',h')->(∀j∈kn,X.s j≠none)->∃X',cG X h' X'/\∀j∈kn',X'.s j≠none
 |[],kn,kn',h',X,H,e,hk=>by simp only[lW,aX,Prod.mk.injEq]at e;obtain⟨rfl,rfl⟩:=e;exact⟨X,cG.refl H,hk⟩
 |p::m,kn,kn',h',X,H,e,hk=>by
  simp only[lW]at e;split at e<;>try cases e
  rename_i hm;have hr:=hk _ (yM hm);split at e
  .split at e
   .split at e<;>try cases e
    rename_i h₁ hB;obtain⟨X₁,F₁⟩:=TS H hB hr;have hk₁:∀j∈kn,X₁.s j≠none:=fun j hj q=>by cases r:X.s j with|none=>exact hk j hj r|some l=>rw[F₁.2.2.2.sg _ _ r]at q;cases q
    have hr₁:X₁.s p.1≠none:=hk₁ _ (yM hm);have hX:=F₁.2.1;rw[<-hX]at e;obtain⟨X₂,F₂,hk₂⟩:=qM F₁.2.2.1 e (Kl F₁.2.2.1 hr₁ hk₁);exact⟨X₂,F₁.trans F₂,hk₂⟩
   .exact qM H e (Kl H hr hk)
   .exact qM H e hk
  .exact qM H e hk
theorem Tp(m:List (Nat×Nat)):zd 0 m=cq m:=by
 funext j;unfold zd;split
 .rename_i h;rw[Nat.blt_eq]at h;omega
 .rfl
def ej(base:Nat)(s:Sg)(m:List (Nat×Nat)):Sg:=fun i=>match inv m i with|some j=>s j|none=>match Nat.blt i base with|true=>s i|false=>none
structure L0(m:List (Nat×Nat))(X X':Cx):Prop where
 H:ab X'
 R:Rn (cq m) X X'
 s1:∀j i,cq m j=some i->X'.s i=X.s j
 g2:∀i o',X'.h.tr.get i=some o'->∃j o,cq m j=some i/\X.h.tr.get j=some o/\fK (cq m) o=some o'
 bx:∀b,X'.bx b->X.bx b
theorem JP{X:Cx}(H:ab X){base nx:Nat}(hbn:base<=nx){m:List (Nat×Nat)}(O:mb 0 nx m){t:Tr aC}(ht:kj (cq m) X.h.tr m .nil=some t){A':Nat->Prop}
  (hA1:∀b,A' b->X.out b) (hA2:∀b,A' b->¬Cx.bx ⟨ej base X.s m,⟨t,nx⟩,X.w,A'⟩ b):L0 m X ⟨ej base X.s m,⟨t,nx⟩,X.w,A'⟩:=by
 have fI:∀j i,cq m j=some i->(j,i)∈m:=fun j i q=>tb q;have fM:∀j i,(j,i)∈m->cq m j=some i:=fun j i q=>qN O q;have s1:∀j i,cq m j=some i->ej base X.s m i=X.s j:=by intro j i q;unfold ej;rw[zP O (fI j i q)]
 have s2:∀i l,ej base X.s m i=some l->i<nx:=by
  intro i l q;unfold ej at q;split at q
  .rename_i j hj;exact(O.lo _ (LL hj)).2.2
  .split at q
   .rename_i q2;rw[Nat.blt_eq]at q2;omega
   .cases q
 have g2:∀i o',t.get i=some o'->∃j o,cq m j=some i/\X.h.tr.get j=some o/\fK (cq m) o=some o':=by
  intro i o' q;rcases(sL ht i).2 o' q with r|⟨j,o,a,b,c⟩
  .simp[Tr.get]at r
  .exact⟨j,o,fM j i a,b,c⟩
 have inj:∀j k i,cq m j=some i->cq m k=some i->j=k:=by intro j k i h1 h2;have:=O.snd _ (fI j i h1) _ (fI k i h2) rfl;simpa using this
 have arr:∀j i n,cq m j=some i->rowOf t i=some n->rowOf X.h.tr j=some n:=by intro j i n h1 h2;obtain⟨o',h2,hr⟩:=gO h2;obtain⟨k,o,a,b,c⟩:=g2 i _ h2;have:=inj j k i h1 a;subst this;rw[fS b,<-OS c];exact hr
 have bx:∀b,Cx.bx ⟨ej base X.s m,⟨t,nx⟩,X.w,A'⟩ b->X.bx b:=by rintro b ⟨i,o',c,h1,h2,h3⟩;obtain⟨j,o,a1,a2,_⟩:=g2 i o' h1;rw[show Cx.s ⟨ej base X.s m,⟨t,nx⟩,X.w,A'⟩ i=ej base X.s m i from rfl,s1 j i a1]at h2;exact⟨j,o,c,a2,h2,h3⟩
 have Rn':Rn (cq m) X ⟨ej base X.s m,⟨t,nx⟩,X.w,A'⟩:=by
  refine⟨fun j i l q r=>by show ej base X.s m i=_;rw[s1 j i q];exact r,?_,fun j i n q r=>arr j i n q r⟩;intro b o h q;refine⟨q,?_⟩;rintro(r|r)
  .exact h (hA1 b r)
  .exact h (.inr (bx b r))
 refine⟨⟨?_,?_,?_,?_,?_,?_⟩,Rn',s1,g2,bx⟩
 .intro i o' l h1 h2;obtain⟨j,o,a1,a2,a3⟩:=g2 i o' h1;rw[show Cx.s ⟨ej base X.s m,⟨t,nx⟩,X.w,A'⟩ i=ej base X.s m i from rfl,s1 j i a1]at h2;exact Lm Rn' rfl a3 (H.obj j o l a2 h2)
 .intro i k o₁ o₂ c c' b h1 h2 h3 h4 h5 h6;obtain⟨j,o,a1,a2,_⟩:=g2 i o₁ h1;obtain⟨j',o',b1,b2,_⟩:=g2 k o₂ h2;rw[show Cx.s ⟨ej base X.s m,⟨t,nx⟩,X.w,A'⟩ i=ej base X.s m i from rfl,s1 j i a1]at h3;rw[show Cx.s ⟨ej base X.s m,⟨t,nx⟩,X.w,A'⟩ k=ej base X.s m k from rfl,s1 j' k b1]at h4;have:=H.inj j j' o o' c c' b a2 b2 h3 h4 h5 h6;subst this;rw[a1]at b1;cases b1;rfl
 .intro i o h1;obtain⟨j,o',a,_⟩:=g2 i o h1;exact(O.lo _ (fI j i a)).2.2
 .intro i l h1;exact s2 i l h1
 .intro b hb;rcases hA1 b hb with q|q
  .exact H.alt b q
  .exact H.uG q
 .intro i o' c b h1 h2 h4 h3;exact hA2 b h3 ⟨i,o',c,h1,h2,h4⟩
theorem GK{n:Nat}{aN:List Tmp}{m:List (Nat×Nat)}{nx:Nat}{st N:St}(e:rL 0 n aN m nx st=some N) :
  mb 0 nx m/\pQ (cq m) n st.T aN=some N.T/\kj (cq m) st.h.tr m .nil=some N.h.tr/\N.h.next=nx:=by
 unfold rL at e;split at e
 case h_2=>cases e
 rename_i hm hbn;split at e<;>try cases e
 rename_i T t₁ hT h₁;split at e<;>try cases e
 rename_i t h₂;rw[Tp]at hT h₂;have:t₁=.nil:=by simp only[zV,aX]at h₁;exact h₁.symm
 subst this;exact⟨KH hm,hT,h₂,rfl⟩
theorem Ub{n:Nat}{aN:List Tmp}{m:List (Nat×Nat)}{nx:Nat}{st N:St}(e:rL 0 n aN m nx st=some N){X₀ X:Cx}{a:Act}(H₀:ab X₀)(hlo:∀i,i<X₀.h.next->cq m i=some i\/inv m i=none)(hnx:X₀.h.next<=nx)
  (hr:∀i,i<X₀.h.next->X₀.s i≠none) (E:aH X₀ X) (R:RF X n st a):∃X',X'.w=X.w/\RF X' n N a/\aH X₀ X':=by
 obtain⟨O,hT,ht,hn⟩:=GK e;have hX:=R.h;rw[<-hX]at ht;have Q:=JP R.H hnx O ht (A':=X.A) (fun b h=>.inl h) (by
  rintro b hb ⟨i,o',c,h1,h2,h3⟩;rcases(sL ht i).2 o' h1 with r|⟨j,o,a1,a2,_⟩
  .simp[Tr.get]at r
  .replace h2:ej X₀.h.next X.s m i=some c:=h2
   unfold ej at h2;rw[zP O a1]at h2;exact R.H.loc j o c b a2 h2 h3 hb)
 have hN:N.h=⟨N.h.tr,nx⟩:=by rw[<-hn]
 refine⟨⟨ej X₀.h.next X.s m,⟨N.h.tr,nx⟩,X.w,X.A⟩,rfl,⟨hN.symm,⟨R.T.size,R.T.defers,?_⟩,Q.H⟩,?_⟩
 .intro x v' q;obtain⟨v,a1,a2⟩:=Bd hT x v' q;obtain⟨V,b1,b2⟩:=R.T.get x v a1;exact⟨V,b1,AS Q.R a2 b2⟩
 .have sl:∀i,i<X₀.h.next->ej X₀.h.next X.s m i=X.s i:=fun i hi=>by
   rcases hlo i hi with q|q
   .exact Q.s1 i i q
   .unfold ej;rw[q,show Nat.blt i X₀.h.next=true by rw[Nat.blt_eq];exact hi]
  refine⟨E.os,E.tape,E.output,E.size,?_,?_,hnx,E.frame,fun b h=>E.bx b (Q.bx b h),?_,?_,E.A⟩
  .intro i l h;show ej X₀.h.next X.s m i=_;rw[sl i (H₀.bZ i l h)];exact E.sg i l h
  .intro i l hi h
   replace h:ej X₀.h.next X.s m i=some l:=h
   rw[sl i hi]at h;exact E.bZ i l hi h
  .intro j n hj h;rcases hlo j hj with q|q
   .exact E.len j n hj (Q.R.obj j j n q h)
   .obtain⟨o',h2,_⟩:=gO h;obtain⟨k,o,a,_⟩:=Q.g2 j o' h2;rw[zP O (tb a)]at q;cases q
  .intro i hi q;exact absurd q (hr i hi)
def ZZ:LA->Option Nat
 |.ptr b _=>some b|.da b _ _=>some b|.rp b=>some b|.hd b _=>some b|.mp b=>some b|.dk b=>some b|_=>none
def numOf:AV->Option Nat
 |.ptr b _=>some b|.da b _ _ _=>some b|.rp b _=>some b|.hd b _=>some b|.mp b=>some b|.dk b=>some b|_=>none
def lf:List LA->List AV->List (LA×AV)->List (LA×AV)
 |[],_,r=>r|a::l,m,r=>match m with|b::m=>(a,b)::lf l m r|[]=>r
def jM(lh:List (Nat×LO))(h:Tr aC):Nat->List (LA×AV)->List (Nat×Nat)->Option (List (Nat×Nat))
 |0,_,_=>none|k+1,l,m=>match l with
  |[]=>some m|p::l=>match ZZ p.1,numOf p.2 with
   |some i,some j=>match cq m j with|some _=>jM lh h k l m|none=>match lL lh i,h.get j with|some (.cells a _),some (.cells b _)=>jM lh h k (lf a b l) ((j,i)::m)|some (.cR _ a _),some (.cR _ _ _ b _)=>jM lh h k (lf a b l) ((j,i)::m)|_,_=>jM lh h k l ((j,i)::m)
   |_,_=>match p.1,p.2 with|.func _ x c,.func _ x' c'=>jM lh h k (lf x x' (lf c c' l)) m|.agg x,.agg x'=>jM lh h k (lf x x' l) m|.bk x,.bk x'=>jM lh h k (lf x x' l) m|_,_=>jM lh h k l m
def qQ(T:Tr AV):List (Tmp×LA)->List (LA×AV)
 |[]=>[]|p::l=>match T.get p.1 with|some v=>(p.2,v)::qQ T l|none=>qQ T l
def Ae:List (Tmp×LA)->List Tmp
 |[]=>[]|p::l=>p.1::Ae l
def lY(lh:List (Nat×LO)):Nat->List (Nat×Nat)
 |0=>[]|b+1=>match lL lh b with|some _=>(b,b)::lY lh b|none=>lY lh b
def ub:Nat->List Nat->List Nat
 |0,r=>r|b+1,r=>b::ub b r
def sW(lh:List (Nat×LO))(h:Tr aC):Nat->List (LA×AV)
 |0=>[]|b+1=>match lL lh b,h.get b with|some (.cells x _),some (.cells y _)=>lf x y (sW lh h b)|some (.cR _ x _),some (.cR _ _ _ y _)=>lf x y (sW lh h b)|_,_=>sW lh h b
def D5{α:Type}:List α->List α->List α
 |[],m=>m|x::l,m=>x::D5 l m
def O8{α:Type}:List α->List α->List α
 |[],m=>m|x::l,m=>O8 l (x::m)
def qz(T:Tr AV):List (Tmp×LA)->List Nat->List Nat
 |[],r=>r|p::l,r=>match T.get p.1 with|some v=>dW v (qz T l r)|none=>qz T l r
theorem Gt{X:Cx}{n:Nat}{T:Tr AV}{a:Act}(R:eZ X n T a):∀{l:List (Tmp×LA)}{r:List Nat},(∀j∈r,X.s j≠none)->∀j∈qz T l r,X.s j≠none
 |[],r,h,j,hj=>h j hj|p::l,r,h,j,hj=>by
  simp only[qz]at hj;split at hj
  .rename_i v hv;obtain⟨V,_,b2⟩:=R.get _ _ hv;exact Q6 v b2 (Gt R h) j hj
  .exact Gt R h j hj
theorem J1:∀{b:Nat}{r:List Nat}{j:Nat},j∈ub b r->j<b\/j∈r
 |0,r,j,h=>.inr h|b+1,r,j,h=>by
  simp only[ub,List.mem_cons]at h;rcases h with rfl|h
  .exact .inl (by omega)
  .rcases J1 h with q|q
   .exact .inl (by omega)
   .exact .inr q
def ud(m:List (Nat×Nat))(b:Nat)(r:Bool):Bool:=match inv m b with|none=>r|some _=>false
def mR(m:List (Nat×Nat)):Nat->Bool
 |0=>true|b+1=>match cq m b with
  |some i=>match Nat.beq i b with|true=>mR m b|false=>ud m b (mR m b)
  |none=>ud m b (mR m b)
theorem IY{m:List (Nat×Nat)}{b:Nat}{r:Bool}(h:ud m b r=true):inv m b=none/\r=true:=by
 unfold ud at h;split at h
 .rename_i q;exact⟨q,h⟩
 .cases h
theorem Q3{m:List (Nat×Nat)}:∀{b:Nat},mR m b=true->∀i,i<b->cq m i=some i\/inv m i=none
 |0,_,i,h=>by omega|b+1,e,i,h=>by
  have key:(cq m b=some b\/inv m b=none)/\mR m b=true:=by
   simp only[mR]at e;split at e
   .rename_i k hk;split at e
    .rename_i q;have q:=aA q;subst q;exact⟨.inl hk,e⟩
    .obtain⟨h1,h2⟩:=IY e;exact⟨.inr h1,h2⟩
   .obtain⟨h1,h2⟩:=IY e;exact⟨.inr h1,h2⟩
  rcases Nat.lt_or_ge i b with r|r
  .exact Q3 key.2 i r
  .have:i=b:=by omega
   subst this;exact key.1
def wD(base:Nat)(lay:Lay)(st:St):Option (List Nat×Hp):=match jM lay.h st.h.tr 1000 (D5 (qQ st.T lay.T) (sW lay.h st.h.tr base)) (lY lay.h base)with|some m=>lW lay.h (O8 m []) (qz st.T lay.T (ub base [])) st.h|none=>none
def enter(base n:Nat)(lay:Lay)(own:List (Tmp×Sh×TypeId))(st:St):Option (TL lay.σs):=match o8 n own st with
 |some st=>match nn n lay.h lay.T st with
  |some st=>match wD base lay st with
   |some (_,h)=>match jM lay.h h.tr 1000 (D5 (qQ st.T lay.T) (sW lay.h h.tr base)) (lY lay.h base)with
    |some m=>match mR m base,Nat.ble base lay.nx,rL 0 n (Ae lay.T) m lay.nx ⟨st.T,h⟩with|true,true,some st=>lay.get st|_,_,_=>none
    |none=>none
   |none=>none
  |none=>none
 |none=>none
def Real(X:Cx):Prop:=∀i,i<X.h.next->X.s i≠none
theorem Jf{n:Nat}{lay:Lay}{N st:St}{d:TL lay.σs}(hg:lay.get N=some d)(hp:lay.put n d=some st){X₀ X:Cx}{a:Act}(hb:X₀.h.next<=lay.nx)(hr:Real X₀)(H₀:ab X₀)(hn:N.h.next=lay.nx)(E:aH X₀ X)(R:RF X n N a) :
  ∃X',X'.w=X.w/\RF X' n st a/\aH X₀ X':=by
 unfold Lay.get at hg;split at hg<;>try cases hg
 rename_i dh hh;unfold Lay.put at hp;split at hp<;>try cases hp
 rename_i T d₂ hT;obtain⟨e1,t2⟩:=KM hg hT;subst e1;split at hp<;>try cases hp
 rename_i t ht;have h2:=KO hh ht;have hX:=R.h;have bx:∀b,Cx.bx ⟨X.s,⟨t,lay.nx⟩,X.w,X.A⟩ b->X.bx b:=by rintro b ⟨i,o',c,q1,q2⟩;obtain⟨o,g1,g2⟩:=h2 i o' q1;exact⟨i,o,c,by rw[hX];exact g1,q2⟩
 have RE:ez X ⟨X.s,⟨t,lay.nx⟩,X.w,X.A⟩:=by
  refine⟨fun _ _ h=>h,?_,?_⟩
  .intro b o h q;refine⟨q,?_⟩;rintro(r|r)
   .exact h (.inl r)
   .exact h (.inr (bx b r))
  .intro j l n _ q;obtain⟨o',q,hr⟩:=gO q;obtain⟨o,g1,g2⟩:=h2 j _ q;rw[hX,fS g1];exact g2.2 n hr
 have H':ab ⟨X.s,⟨t,lay.nx⟩,X.w,X.A⟩:=by
  refine⟨?_,?_,?_,?_,R.H.alt,?_⟩
  .intro i o' l q1 q2;obtain⟨o,g1,g2⟩:=h2 i o' q1;have:=R.H.obj i o l (by rw[hX];exact g1) q2;exact(g2.1 X l this).ext RE (fun _ _=>rfl)
  .intro i j o o' c c' b q1 q2 q3 q4;obtain⟨p,g1,_⟩:=h2 i o q1;obtain⟨p',g2,_⟩:=h2 j o' q2;exact R.H.inj i j p p' c c' b (by rw[hX];exact g1) (by rw[hX];exact g2) q3 q4
  .intro i o' q;obtain⟨o,g1,_⟩:=h2 i o' q;have:=R.H.lt i o (by rw[hX];exact g1);rw[hX,hn]at this;exact this
  .intro i l q;have:=R.H.bZ i l q;rw[hX,hn]at this;exact this
  .intro i o' c b q1 q2;obtain⟨o,g1,_⟩:=h2 i o' q1;exact R.H.loc i o c b (by rw[hX];exact g1) q2
 refine⟨⟨X.s,⟨t,lay.nx⟩,X.w,X.A⟩,rfl,⟨rfl,⟨R.T.size,R.T.defers,?_⟩,H'⟩,?_⟩
 .intro x v' q;obtain⟨v,a1,a2⟩:=t2 x v' q;obtain⟨V,b1,b2⟩:=R.T.get x v a1;exact⟨V,b1,(a2 X V b2).ext RE⟩
 .refine⟨E.os,E.tape,E.output,E.size,E.sg,E.bZ,hb,E.frame,fun b h=>E.bx b (bx b h),?_,fun i hi q=>absurd q (hr i hi),E.A⟩;intro j n hj q;obtain⟨o',q,hr⟩:=gO q;obtain⟨o,g1,g2⟩:=h2 j _ q;exact E.len j n hj (by rw[hX,fS g1];exact g2.2 n hr)
theorem LU{base:Nat}{lay:Lay}{st:St}{kn:List Nat}{h':Hp}(e:wD base lay st=some (kn,h')){X:Cx}{n:Nat}{a:Act}(R:RF X n st a)(hlo:∀i,i<base->X.s i≠none) :
  ∃X',X'.w=X.w/\RF X' n ⟨st.T,h'⟩ a/\aH X X'/\∀j∈kn,X'.s j≠none:=by
 unfold wD at e;split at e<;>try cases e
 rename_i m hm;have hX:=R.h;rw[<-hX]at e;obtain⟨X',⟨w',hh,H',E'⟩,hk⟩:=qM R.H e (Gt R.T (fun j hj=>by
  rcases J1 hj with q|q
  .exact hlo j q
  .cases q))
 exact⟨X',w',⟨hh,R.T.ext (E'.db R.H),H'⟩,E',hk⟩
theorem Real.of{X X':Cx}(h:Real X)(E:aH X X'):∀i,i<X.h.next->X'.s i≠none:=by intro i hi q;cases r:X.s i with|none=>exact h i hi r|some l=>rw[E.sg _ _ r]at q;cases q
theorem yR{base n:Nat}{lay:Lay}{own:List (Tmp×Sh×TypeId)}{st₀ st:St}{d:TL lay.σs}(hg:enter base n lay own st₀=some d)(hp:lay.put n d=some st){X₀ X:Cx}{a:Act}(hb:X₀.h.next=base/\Real X₀)(H₀:ab X₀)(E:aH X₀ X)(R:RF X n st₀ a) :
  ∃X',X'.w=X.w/\RF X' n st a/\aH X₀ X':=by
 obtain⟨hb,hr⟩:=hb;unfold enter at hg;split at hg<;>try cases hg
 rename_i st₁ h₁;split at hg<;>try cases hg
 rename_i st₂ h₂;split at hg<;>try cases hg
 rename_i kn h h₃;split at hg<;>try cases hg
 rename_i m hm;split at hg<;>try cases hg
 rename_i N hlow hnx hN;have hnx:=Nat.le_of_ble_eq_true hnx;obtain⟨X₁,w₁,R₁,E₁⟩:=AN h₁ R;obtain⟨X₂,w₂,R₂,E₂⟩:=ur h₂ R₁;have E₀₂:=(E.trans E₁).trans E₂;obtain⟨X₃,w₃,R₃,E₃,_⟩:=LU h₃ R₂ (fun i hi=>hr.of E₀₂ i (by omega));obtain⟨X₄,w₄,R₄,E₄⟩:=Ub hN H₀ (fun i hi=>Q3 hlow i (by omega)) (by omega) hr (E₀₂.trans E₃) R₃;have hn:N.h.next=lay.nx:=(GK hN).2.2.2;obtain⟨X₅,w₅,R₅,E₅⟩:=Jf hg hp (by omega) hr H₀ hn E₄ R₄;exact⟨X₅,by rw[w₅,w₄,w₃,w₂,w₁],R₅,E₅⟩
def D9:Ex->Ex->Bool
 |.normal,e=>match e with|.normal=>true|_=>false
 |.exit i,e=>match e with|.exit j=>Nat.beq i j|_=>false
 |.ret,e=>match e with|.ret=>true|_=>false
theorem LV{a b:Ex}(h:D9 a b=true):a=b:=by
 cases a<;>cases b<;>first|rfl|cases h|skip
 rw[aA h]
def Out:List (Ex×Lay)->Type
 |[]=>Empty|[p]=>TL p.2.σs|p::q::l=>TL p.2.σs⊕Out (q::l)
def nz{R:Type}(n:Nat):(l:List (Ex×Lay))->Out l->(Ex->St->Option R)->Option R
 |[],_,_=>none|[p],o,k=>match p.2.put n o with|some st=>k p.1 st|none=>none
 |p::q::l,o,k=>match o with
  |.inl d=>match p.2.put n d with|some st=>k p.1 st|none=>none
  |.inr o=>nz n (q::l) o k
def jq(n:Nat):(l:List (Ex×Lay))->Out l->Option (Ex×St)
 |[],_=>none|[p],o=>match p.2.put n o with|some st=>some (p.1,st)|none=>none
 |p::q::l,o=>match o with
  |.inl d=>match p.2.put n d with|some st=>some (p.1,st)|none=>none
  |.inr o=>jq n (q::l) o
theorem AU{R:Type}{n:Nat}:∀{l:List (Ex×Lay)}{o:Out l}{k:Ex->St->Option R}{r:R},nz n l o k=some r->∃e st,jq n l o=some (e,st)/\k e st=some r
 |[],o,k,r,h=>by cases h
 |[p],o,k,r,h=>by
  simp only[nz]at h;split at h<;>try cases h
  rename_i st hst;exact⟨p.1,st,by simp only[jq,hst],h⟩
 |p::q::l,o,k,r,h=>by
  cases o with
  |inl d=>
   simp only[nz]at h;split at h<;>try cases h
   rename_i st hst;exact⟨p.1,st,by simp only[jq,hst],h⟩
  |inr o=>simp only[nz]at h;obtain⟨e,st,h1,h2⟩:=AU h;exact⟨e,st,by simp only[jq];exact h1,h2⟩
def kI(base n:Nat):(l:List (Ex×Lay))->Ex->St->Option (Out l)
 |[],_,_=>none|[p],e,st=>match D9 p.1 e with|true=>enter base n p.2 [] st|false=>none
 |p::q::l,e,st=>match(match D9 p.1 e with|true=>enter base n p.2 [] st|false=>none)with|some d=>some (.inl d)|none=>match kI base n (q::l) e st with|some o=>some (.inr o)|none=>none
theorem GZ{base n:Nat}:∀{l:List (Ex×Lay)}{e:Ex}{st₀:St}{o:Out l},kI base n l e st₀=some o->∀{e':Ex}{st:St},jq n l o=some (e',st)->e'=e /\
  ∀{X₀ X:Cx}{a:Act},(X₀.h.next=base/\Real X₀)->ab X₀->aH X₀ X->RF X n st₀ a->∃X',X'.w=X.w/\RF X' n st a/\aH X₀ X'
 |[],e,st₀,o,h,e',st,hs=>by cases h
 |[p],e,st₀,o,h,e',st,hs=>by
  simp only[kI]at h;split at h<;>try cases h
  rename_i he;simp only[jq]at hs;split at hs<;>try cases hs
  rename_i hp;exact⟨LV he,fun hb H₀ E R=>yR h hp hb H₀ E R⟩
 |p::q::l,e,st₀,o,h,e',st,hs=>by
  simp only[kI]at h;split at h
  .rename_i d hd;cases h;split at hd<;>try cases hd
   rename_i he;simp only[jq]at hs;split at hs<;>try cases hs
   rename_i hp;exact⟨LV he,fun hb H₀ E R=>yR hd hp hb H₀ E R⟩
  .split at h<;>cases h;rename_i o' ho;simp only[jq]at hs;exact GZ ho hs
structure ir where
 np:Nat
 lay:Lay
 nr:Nat
 outs:List (Ex×Lay)
 F:TL lay.σs->Option (Out outs)
def jR(T:Tr AV):Nat->Nat->Option (List AV)
 |0,_=>some []|k+1,i=>match T.get i with
  |some v=>match jR T k (i+1)with|some l=>some (v::l)|none=>none
  |none=>none
theorem GF{X:Cx}{n:Nat}{T:Tr AV}{a:Act}(R:eZ X n T a):∀{k i:Nat}{us:List AV}{Vs:List Value},jR T k i=some us->Vs.length=k->(∀t,t<k->a.tmps[i+t]?=Vs[t]?)->bg X us Vs
 |0,i,us,Vs,e,hl,h=>by simp only[jR,aX]at e;subst e;exact List.eq_nil_of_length_eq_zero hl|k+1,i,us,Vs,e,hl,h=>by
  simp only[jR]at e;split at e<;>try cases e
  rename_i v hv;split at e<;>cases e;rename_i l hL;cases Vs with|nil=>simp at hl|cons V r=>obtain⟨U,b1,b2⟩:=R.get _ _ hv;have h0:=h 0 (by omega);simp only[Nat.add_zero,List.getElem?_cons_zero]at h0;rw[b1]at h0;cases h0;refine⟨_,r,rfl,b2,GF R hL (by simpa using hl) ?_⟩;intro t ht;have:=h (t+1) (by omega);rw[show i+1+t=i+(t+1) by omega,this];simp
def ja(P:Program)(f:FuncId)(s:ir):Prop:=
 (∃fn c,P.funcs[f]?=some fn/\(fn.name == "runtime.NumGoroutine")=false/\fn.body=some c) /\
 ∀d o,s.F d=some o->∀st e st',s.lay.put s.np d=some st->jq s.nr s.outs o=some (e,st')->∀X vs args,X.h=st.h->ab X->Real X->jR st.T s.np 0=some vs->bg X vs args ->
  Calls P f (List.toArray args) X.w fun e w'=>∃X' Vs,e=.returned (iX Vs)/\X'.w=w'/\X'.h=st'.h/\ab X'/\aH X X'/\∀us,jR st'.T s.nr 0=some us->bg X' us Vs
def oX{α:Type}:List α->Nat
 |[]=>0|_::l=>oX l+1
theorem AY{α:Type}:∀l:List α,oX l=l.length
 |[]=>rfl|_::l=>by simp[oX,AY l]
def tY(kn:List Nat):List (Nat×Nat)->Bool
 |[]=>true|p::m=>match fD p.1 kn with|true=>tY kn m|false=>false
theorem Ro{kn:List Nat}:∀{m:List (Nat×Nat)},tY kn m=true->∀p∈m,p.1∈kn
 |[],_,p,hp=>by cases hp
 |q::m,h,p,hp=>by
  simp only[tY]at h;split at h<;>try cases h
  rename_i hq;rcases List.mem_cons.1 hp with rfl|hp
  .exact yM hq
  .exact Ro h p hp
def wG(i:Nat):List (Nat×Nat)->Bool
 |[]=>false|p::m=>match Nat.beq p.2 i with|true=>true|false=>wG i m
theorem J7{i:Nat}:∀{m:List (Nat×Nat)},wG i m=true->∃j,(j,i)∈m
 |[],h=>by cases h
 |p::m,h=>by
  simp only[wG]at h;split at h
  .rename_i q;have q:=aA q;exact⟨p.1,by rw[<-q];simp⟩
  .obtain⟨j,hj⟩:=J7 h;exact⟨j,List.mem_cons_of_mem _ hj⟩
def ug(m:List (Nat×Nat)):Nat->Bool
 |0=>true|b+1=>match wG b m with|true=>ug m b|false=>false
theorem Q2{m:List (Nat×Nat)}:∀{b:Nat},ug m b=true->∀i,i<b->∃j,(j,i)∈m
 |0,_,i,h=>by omega|b+1,e,i,h=>by
  simp only[ug]at e;split at e<;>try cases e
  rename_i q;rcases Nat.lt_or_ge i b with r|r
  .exact Q2 e i r
  .rw[show i=b by omega];exact J7 q
def BF(s:ir)(vs:List AV)(h:Hp):Option (List (Nat×Nat)×Hp×TL s.lay.σs):=match Nat.beq (oX vs) s.np,fx s.np vs 0 .nil with
 |true,some T=>match nn s.np s.lay.h s.lay.T ⟨T,h⟩with
  |some st=>match wD 0 s.lay st with
   |some (kn,h)=>match jM s.lay.h h.tr 1000 (qQ st.T s.lay.T) []with
    |some m=>match tY kn m,ug m s.lay.nx,rL 0 s.np (Ae s.lay.T) m s.lay.nx ⟨st.T,h⟩with
     |true,true,some N=>match s.lay.get N with
      |some d=>match s.lay.put s.np d with
       |some st=>match jR st.T s.np 0 with|some _=>some (m,h,d)|none=>none
       |none=>none
      |none=>none
     |_,_,_=>none
    |none=>none
   |none=>none
  |none=>none
 |_,_=>none
def oG(t:Tr aC):List (Nat×Nat)->Option (Tr aC)
 |[]=>some t|p::m=>match oG t m with|some t=>Tr.set FT t p.1 none|none=>none
theorem GO{t:Tr aC}:∀{m:List (Nat×Nat)}{t':Tr aC},oG t m=some t'->∀k,(t'.get k=t.get k/\∀i,(k,i)∉m)\/(t'.get k=none/\∃i,(k,i)∈m)
 |[],t',e,k=>by simp only[oG,aX]at e;subst e;exact .inl ⟨rfl,fun i h=>by cases h⟩
 |p::m,t',e,k=>by
  simp only[oG]at e;split at e<;>try cases e
  rename_i t₁ h₁;rw[Tr.bz _ _ _ _ _ e k];by_cases q:k=p.1
  .rw[if_pos q];exact .inr ⟨rfl,p.2,by rw[q];simp⟩
  .rw[if_neg q];rcases GO h₁ k with⟨a,b⟩|⟨a,i,b⟩
   .exact .inl ⟨a,fun i hi=>by
     rcases List.mem_cons.1 hi with rfl|hi
     .exact q rfl
     .exact b i hi⟩
   .exact .inr ⟨a,i,List.mem_cons_of_mem _ b⟩
def news(nx hn:Nat):Nat->List (Nat×Nat)
 |0=>[]|q+1=>(nx+q,hn+q)::news nx hn q
theorem GY{nx hn:Nat}:∀{c:Nat}{p:Nat×Nat},p∈news nx hn c↔∃q,q<c/\p=(nx+q,hn+q)
 |0,p=>by simp[news]|c+1,p=>by
  simp only[news,List.mem_cons,GY (c:=c)];constructor
  .rintro(rfl|⟨q,h,rfl⟩)
   .exact⟨c,by omega,rfl⟩
   .exact⟨q,by omega,rfl⟩
  .rintro⟨q,h,rfl⟩;rcases Nat.lt_or_ge q c with r|r
   .exact .inr ⟨q,r,rfl⟩
   .left;rw[show q=c by omega]
def qI:List (Nat×Nat)->List (Nat×Nat)->List (Nat×Nat)
 |[],r=>r|p::m,r=>(p.2,p.1)::qI m r
theorem yz:∀{m r:List (Nat×Nat)}{p:Nat×Nat},p∈qI m r↔(p.2,p.1)∈m\/p∈r
 |[],r,p=>by simp[qI]|q::m,r,p=>by
  obtain⟨a,b⟩:=p;obtain⟨c,d⟩:=q;simp only[qI,List.mem_cons,yz (m:=m),Prod.mk.injEq];constructor
  .rintro(⟨rfl,rfl⟩|h|h)
   .exact .inl (.inl ⟨rfl,rfl⟩)
   .exact .inl (.inr h)
   .exact .inr h
  .rintro((⟨rfl,rfl⟩|h)|h)
   .exact .inl ⟨rfl,rfl⟩
   .exact .inr (.inl h)
   .exact .inr (.inr h)
def ku(m:List (Nat×Nat))(nx hn c:Nat):List (Nat×Nat):=qI m (news nx hn c)
theorem SO{m:List (Nat×Nat)}{nx hn c:Nat}(O:mb 0 nx m)(hm:∀p∈m,p.1<hn):mb 0 (hn+c) (ku m nx hn c):=by
 have mem:∀p,p∈ku m nx hn c->(p.2,p.1)∈m\/∃q,q<c/\p=(nx+q,hn+q):=by
  intro p hp;rcases yz.1 hp with h|h
  .exact .inl h
  .exact .inr (GY.1 h)
 refine⟨?_,?_,?_⟩
 .intro p hp;rcases mem p hp with h|⟨q,h,rfl⟩
  .have:=hm _ h;simp only at this;omega
  .simp only;omega
 .intro p hp p' hp' e;rcases mem p hp with h|⟨q,h,rfl⟩<;>rcases mem p' hp' with h'|⟨q',h',rfl⟩
  .have:=O.snd _ h _ h' e;simp only[Prod.mk.injEq]at this;exact Prod.ext this.2 this.1
  .have:=(O.lo _ h).2.2;simp only at this e;omega
  .have:=(O.lo _ h').2.2;simp only at this e;omega
  .simp only at e;rw[show q=q' by omega]
 .intro p hp p' hp' e;rcases mem p hp with h|⟨q,h,rfl⟩<;>rcases mem p' hp' with h'|⟨q',h',rfl⟩
  .have:=O.fst _ h _ h' e;simp only[Prod.mk.injEq]at this;exact Prod.ext this.2 this.1
  .have:=hm _ h;simp only at this e;omega
  .have:=hm _ h';simp only at this e;omega
  .simp only at e;rw[show q=q' by omega]
def Bq(m:List (Nat×Nat))(h:Hp)(nx nr:Nat)(st':St):Option (List AV×Hp):=match oG h.tr m,jR st'.T nr 0 with
 |some t,some us=>match kj (cq (ku m nx h.next (st'.h.next-nx))) st'.h.tr (ku m nx h.next (st'.h.next-nx)) t,jx (cq (ku m nx h.next (st'.h.next-nx))) us with|some t',some us'=>some (us',⟨t',h.next+(st'.h.next-nx)⟩)|_,_=>none
 |_,_=>none
theorem S3{X₂ Xn X₀:Cx}{m:List (Nat×Nat)}{nx:Nat}(H₂:ab X₂)(O:mb 0 nx m)(Q:L0 m X₂ Xn)(hnx:Xn.h.next=nx)(hAn:∀b,Xn.A b↔X₂.out b/\¬Xn.bx b)(hwn:Xn.w=X₂.w)
  (hreal:∀p∈m,X₂.s p.1≠none) (H':ab X₀) (E:aH Xn X₀) {t₁ t':Tr aC}(hk:oG X₂.h.tr m=some t₁)
  (hc:kj (cq (ku m nx X₂.h.next (X₀.h.next-nx))) X₀.h.tr (ku m nx X₂.h.next (X₀.h.next-nx)) t₁=some t') :
  ∃X',X'.w=X₀.w/\X'.h=⟨t',X₂.h.next+(X₀.h.next-nx)⟩/\ab X'/\aH X₂ X'/\Rn (cq (ku m nx X₂.h.next (X₀.h.next-nx))) X₀ X':=by
 obtain⟨hn,ehn⟩:∃hn,hn=X₂.h.next:=⟨_,rfl⟩;obtain⟨cnt,ecnt⟩:∃c,c=X₀.h.next-nx:=⟨_,rfl⟩;rw[<-ehn,<-ecnt]at hc |-;have hcn:X₀.h.next=nx+cnt:=by have:=E.next;omega
 have mlt:∀p∈m,p.1<hn:=by intro p hp;cases q:X₂.s p.1 with|none=>exact absurd q (hreal p hp)|some l=>have:=H₂.bZ _ _ q;omega
 have OG:=SO (c:=cnt) O mlt;obtain⟨G,eG⟩:∃G,G=ku m nx hn cnt:=⟨_,rfl⟩;have gmem:∀i k,(i,k)∈G->((k,i)∈m/\k<hn/\i<nx)\/∃q,q<cnt/\i=nx+q/\k=hn+q:=by
  intro i k h;rw[eG]at h;rcases yz.1 h with h|h
  .exact .inl ⟨h,mlt _ h,(O.lo _ h).2.2⟩
  .obtain⟨q,h1,h2⟩:=GY.1 h;simp only[Prod.mk.injEq]at h2;exact .inr ⟨q,h1,h2.1,h2.2⟩
 rw[<-eG]at OG hc |-;have gI:∀i k,cq G i=some k->(i,k)∈G:=fun i k h=>tb h;have gM:∀i k,(i,k)∈G->cq G i=some k:=fun i k h=>qN OG h
 let s':Sg:=fun k=>if k<hn then X₂.s k else X₀.s (k-hn+nx)
 have sold:∀k l,X₂.s k=some l->k<hn/\s' k=some l:=by
  intro k l h;have:=H₂.bZ k l h;have hlt:k<hn:=by omega
  exact⟨hlt,by simp only[s',if_pos hlt];exact h⟩
 have gS:∀i k,cq G i=some k->s' k=X₀.s i:=by
  intro i k h;rcases gmem i k (gI i k h)with⟨h1,h2,h3⟩|⟨q,h1,rfl,rfl⟩
  .simp only[s',if_pos h2];have e1:=Q.s1 k i (qN O h1);cases r:X₂.s k with|none=>exact absurd r (hreal _ h1)|some l=>rw[r]at e1;exact(E.sg i l e1).symm
  .simp only[s'];rw[if_neg (by omega)];congr 1;omega
 have objF:∀k o',t'.get k=some o'->(X₂.h.tr.get k=some o'/\(∀i,(k,i)∉m)/\k<hn)\/∃i o,cq G i=some k/\X₀.h.tr.get i=some o/\fK (cq G) o=some o':=by
  intro k o' h;rcases(sL hc k).2 o' h with r|⟨i,o,a,b,c⟩
  .rcases GO hk k with⟨a,b⟩|⟨a,_⟩
   .rw[a]at r;have:=H₂.lt k o' r;exact .inl ⟨r,b,by omega⟩
   .rw[a]at r;cases r
  .exact .inr ⟨i,o,gM i k a,b,c⟩
 have gone:∀k i,(k,i)∈m->∀j,cq G j=some k->j=i:=by
  intro k i h j hj;have h1:(i,k)∈G:=by rw[eG];exact yz.2 (.inl h)
  have:=OG.snd _ (gI j k hj) _ h1 rfl;simpa using this
 have notG:∀k,(∀i,(k,i)∉m)->k<hn->∀i,cq G i≠some k:=by
  intro k h1 h2 i h3;rcases gmem i k (gI i k h3)with⟨a,_⟩|⟨q,_,_,a⟩
  .exact h1 i a
  .omega
 have imgn:∀k i l,cq m k=some i->X₂.s k=some l->Xn.s i=some l:=fun k i l h1 h2=>by rw[Q.s1 k i h1];exact h2
 have imgX:∀b,Xn.bx b->∃k i o c,(k,i)∈m/\X₂.h.tr.get k=some o/\X₂.s k=some c/\c.own b:=by rintro b ⟨i,o',c,h1,h2,h3⟩;obtain⟨k,o,a1,a2,_⟩:=Q.g2 i o' h1;rw[Q.s1 k i a1]at h2;exact⟨k,i,o,c,tb a1,a2,h2,h3⟩
 have other:∀k o c b,X₂.h.tr.get k=some o->(∀i,(k,i)∉m)->X₂.s k=some c->c.own b->Xn.A b:=by intro k o c b h1 h2 h3 h4;refine(hAn b).2 ⟨.inr ⟨k,o,c,h1,h3,h4⟩,fun hi=>?_⟩;obtain⟨k',i,o',c',g1,g2,g3,g4⟩:=imgX b hi;have:=H₂.inj k k' o o' c c' b h1 g2 h3 g3 h4 g4;subst this;exact h2 i g1
 have A₂:∀b,X₂.A b->Xn.A b:=by intro b h;refine(hAn b).2 ⟨.inl h,fun hi=>?_⟩;obtain⟨k',i,o',c',g1,g2,g3,g4⟩:=imgX b hi;exact H₂.loc k' o' c' b g2 g3 g4 h
 have img':∀b,Cx.bx ⟨s',⟨t',hn+cnt⟩,X₀.w,X₂.A⟩ b->X₀.bx b\/(Xn.A b/\X₂.bx b):=by
  rintro b ⟨k,o',c,h1,h2,h3⟩
  replace h2:s' k=some c:=h2
  rcases objF k o' h1 with⟨a1,a2,a3⟩|⟨i,o,a1,a2,a3⟩
  .simp only[s',if_pos a3]at h2;exact .inr ⟨other k o' c b a1 a2 h2 h3,k,o',c,a1,h2,h3⟩
  .rw[gS i k a1]at h2;exact .inl ⟨i,o,c,a2,h2,h3⟩
 have outn:∀b,Xn.out b->X₂.out b:=by
  rintro b (h|h)
  .exact((hAn b).1 h).1
  .exact .inr (Q.bx b h)
 have arr:∀i k n,cq G i=some k->rowOf t' k=some n->rowOf X₀.h.tr i=some n:=by
  intro i k n h1 h2;obtain⟨o',h2,hr⟩:=gO h2;rcases objF k _ h2 with⟨a1,a2,a3⟩|⟨i',o,a1,a2,a3⟩
  .exact absurd h1 (notG k a2 a3 i)
  .have:=OG.snd _ (gI i k h1) _ (gI i' k a1) rfl;simp only[Prod.mk.injEq,and_true]at this;subst this;rw[fS a2,<-OS a3];exact hr
 have Rn':Rn (cq G) X₀ ⟨s',⟨t',hn+cnt⟩,X₀.w,X₂.A⟩:=by
  refine⟨fun i k l q r=>by show s' k=_;rw[gS i k q];exact r,?_,arr⟩;intro b o h q;refine⟨q,?_⟩;rintro(r|r)
  .refine h (.inl ?_);rw[E.A];exact A₂ b r
  .rcases img' b r with r|⟨r,_⟩
   .exact h (.inr r)
   .refine h (.inl ?_);rw[E.A];exact r
 have low:∀b,b<X₂.w.heap.size->¬X₂.bx b->X₀.w.heap[b]?=X₂.w.heap[b]?:=by intro b hb hi;rw[E.frame b (by rw[hwn];exact hb) (fun q=>hi (Q.bx b q)),hwn]
 have lenOld:∀j n,j<hn->rowOf t' j=some n->rowOf X₂.h.tr j=some n:=by
  intro j n hj h0;obtain⟨o',h,hr⟩:=gO h0;rcases objF j _ h with⟨a1,_,_⟩|⟨i,o,a1,a2,a3⟩
  .rw[fS a1];exact hr
  .have h4:=arr i j n a1 h0;rcases gmem i j (gI i j a1)with⟨b1,b2,b3⟩|⟨q,_,_,rfl⟩
   .exact Q.R.obj j i n (qN O b1) (E.len i n (by omega) h4)
   .omega
 have RE:ez X₂ ⟨s',⟨t',hn+cnt⟩,X₀.w,X₂.A⟩:=by
  refine⟨fun k l h=>(sold k l h).2,?_,fun j l n h q=>lenOld j n (sold j l h).1 q⟩;intro b o h q;have hb:=fi q;refine⟨by show X₀.w.heap[b]?=_;rw[low b hb (fun r=>h (.inr r))];exact q,?_⟩;rintro(r|r)
  .exact h (.inl r)
  .rcases img' b r with r|⟨_,r⟩
   .rcases E.bx b r with r|r
    .exact h (.inr (Q.bx b r))
    .rw[hwn]at r;omega
   .exact h (.inr r)
 have hsz:X₂.w.heap.size<=X₀.w.heap.size:=by have:=E.size;rw[hwn]at this;exact this
 refine⟨⟨s',⟨t',hn+cnt⟩,X₀.w,X₂.A⟩,rfl,rfl,⟨?_,?_,?_,?_,?_,?_⟩,?_,Rn'⟩
 .intro k o' l h1 h2
  replace h2:s' k=some l:=h2
  rcases objF k o' h1 with⟨a1,a2,a3⟩|⟨i,o,a1,a2,a3⟩
  .simp only[s',if_pos a3]at h2;refine(H₂.obj k o' l a1 h2).ext RE ?_;intro b hb;show X₀.w.heap[b]?=_;rw[E.frame b (by rw[hwn];exact H₂.gG a1 h2 hb) (fun q=>((hAn b).1 (other k o' l b a1 a2 h2 hb)).2 q),hwn]
  .rw[gS i k a1]at h2;exact Lm Rn' rfl a3 (H'.obj i o l a2 h2)
 .intro k₁ k₂ o₁ o₂ c₁ c₂ b h1 h2 h3 h4 f3 f4
  replace h3:s' k₁=some c₁:=h3
  replace h4:s' k₂=some c₂:=h4
  rcases objF k₁ o₁ h1 with⟨a1,a2,a3⟩|⟨i,o,a1,a2,a3⟩<;>rcases objF k₂ o₂ h2 with⟨b1,b2,b3⟩|⟨i',o',b1,b2,b3⟩
  .simp only[s',if_pos a3]at h3;simp only[s',if_pos b3]at h4;exact H₂.inj k₁ k₂ o₁ o₂ c₁ c₂ b a1 b1 h3 h4 f3 f4
  .simp only[s',if_pos a3]at h3;rw[gS i' k₂ b1]at h4;refine absurd (other k₁ o₁ c₁ b a1 a2 h3 f3) ?_;have:=H'.loc i' o' c₂ b b2 h4 f4;rw[E.A]at this;exact this
  .simp only[s',if_pos b3]at h4;rw[gS i k₁ a1]at h3;refine absurd (other k₂ o₂ c₂ b b1 b2 h4 f4) ?_;have:=H'.loc i o c₁ b a2 h3 f3;rw[E.A]at this;exact this
  .rw[gS i k₁ a1]at h3;rw[gS i' k₂ b1]at h4;have:=H'.inj i i' o o' c₁ c₂ b a2 b2 h3 h4 f3 f4;subst this;rw[a1]at b1;cases b1;rfl
 .intro k o' h1;show k<hn+cnt;rcases objF k o' h1 with⟨_,_,a3⟩|⟨i,o,a1,a2,a3⟩
  .omega
  .exact(OG.lo _ (gI i k a1)).2.2
 .intro k l h1
  replace h1:s' k=some l:=h1
  show k<hn+cnt;by_cases q:k<hn
  .omega
  .simp only[s',if_neg q]at h1;have:=H'.bZ _ l h1;omega
 .intro b hb;have:=H₂.alt b hb;show b<X₀.w.heap.size;omega
 .intro k o' c b h1 h2 h4 h3
  replace h2:s' k=some c:=h2
  rcases objF k o' h1 with⟨a1,a2,a3⟩|⟨i,o,a1,a2,a3⟩
  .simp only[s',if_pos a3]at h2;exact H₂.loc k o' c b a1 h2 h4 h3
  .rw[gS i k a1]at h2;have:=H'.loc i o c b a2 h2 h4;rw[E.A]at this;exact this (A₂ b h3)
 .refine⟨by rw[<-hwn];exact E.os,by rw[<-hwn];exact E.tape,by rw[<-hwn];exact E.output,hsz,fun k l h=>(sold k l h).2,?_,by show X₂.h.next<=hn+cnt;omega,low,?_,?_,?_,rfl⟩
  .intro k l hk' h
   replace h:s' k=some l:=h
   simp only[s',if_pos (show k<hn by omega)]at h;exact h
  .intro b h;rcases img' b h with r|⟨_,r⟩
   .rcases E.bx b r with r|r
    .exact .inl (Q.bx b r)
    .rw[hwn]at r;exact .inr r
   .exact .inl r
  .intro j n hj h;exact lenOld j n (by omega) h
  .intro k hk' hs;show t'.get k=_;have hnm:∀i,(k,i)∉m:=fun i hi=>hreal _ hi hs;have hng:∀p∈G,p.2≠k:=by rintro⟨i,k'⟩ hp rfl;exact notG k' hnm (by omega) i (gM i k' hp)
   rw[(sL hc k).1 hng];rcases GO hk k with⟨a,_⟩|⟨_,i,b⟩
   .exact a
   .exact absurd b (hnm i)
theorem Uk{P:Program}{f:FuncId}{s:ir}(hC:ja P f s){vs:List AV}{h h₂ h':Hp}{m:List (Nat×Nat)}{d:TL s.lay.σs}(e₁:BF s vs h=some (m,h₂,d)){o:Out s.outs}(ho:s.F d=some o){ex:Ex}{st':St}
  (hs:jq s.nr s.outs o=some (ex,st')) {us':List AV}(e₂:Bq m h₂ s.lay.nx s.nr st'=some (us',h')):tX P f vs h (l9 us') h':=by
 refine⟨hC.1,?_⟩;intro X args hX H hR;subst hX;unfold BF at e₁;split at e₁<;>try cases e₁
 rename_i T hlen hT;split at e₁<;>try cases e₁
 rename_i st₁ hfT;split at e₁<;>try cases e₁
 rename_i kn h₂' hfM;split at e₁<;>try cases e₁
 rename_i m' hm;split at e₁<;>try cases e₁
 rename_i N hall htot hN;split at e₁<;>try cases e₁
 rename_i d' hg;split at e₁<;>try cases e₁
 rename_i st₀ hp;split at e₁<;>try cases e₁
 rename_i us₀ hv₀;have hlen:=aA hlen;rw[AY]at hlen;have hal:args.length=s.np:=by rw[hR.length];exact hlen
 obtain⟨X₁,w₁,R₁,E₁⟩:=ur hfT (sM H hT hR);obtain⟨X₂,w₂,R₂,E₂,hk⟩:=LU hfM R₁ (fun i hi=>by omega);have E₀₂:=E₁.trans E₂;have hX₂:X₂.h=h₂:=R₂.h;have hw₂:X₂.w=X.w:=w₂.trans w₁;have hA₂:X₂.A=X.A:=E₀₂.A;have H₂:=R₂.H;obtain⟨O,hTN,htN,hnN⟩:=GK hN
 replace htN:kj (cq m) h₂.tr m .nil=some N.h.tr:=htN
 rw[<-hX₂]at htN;have hreal:∀p∈m,X₂.s p.1≠none:=fun p hp'=>hk _ (Ro hall p hp');have mlt:∀p∈m,p.1<X₂.h.next:=by intro p hp';cases q:X₂.s p.1 with|none=>exact absurd q (hreal p hp')|some l=>exact H₂.bZ _ _ q
 let A₀:Nat->Prop:=fun b=>X₂.out b/\¬∃i o c,N.h.tr.get i=some o/\ej 0 X₂.s m i=some c/\c.own b
 have Q:=JP H₂ (base:=0) (Nat.zero_le _) O htN (A':=A₀) (fun b hb=>hb.1) (fun b hb hi=>hb.2 hi);obtain⟨Xn,hXn⟩:∃Xn:Cx,Xn=⟨ej 0 X₂.s m,⟨N.h.tr,s.lay.nx⟩,X₂.w,A₀⟩:=⟨_,rfl⟩;rw[<-hXn]at Q;have hNh:N.h=⟨N.h.tr,s.lay.nx⟩:=by rw[<-hnN]
 have RN:RF Xn s.np N _:=⟨by rw[hXn];exact hNh.symm,⟨R₂.T.size,R₂.T.defers,fun x v' q=>by obtain⟨v,a1,a2⟩:=Bd hTN x v' q;obtain⟨V,b1,b2⟩:=R₂.T.get x v a1;exact⟨V,b1,AS Q.R a2 b2⟩⟩,Q.H⟩;have hnx:Xn.h.next=s.lay.nx:=by rw[hXn]
 have hrn:Real Xn:=by intro i hi q;obtain⟨j,hj⟩:=Q2 htot i (by omega);rw[Q.s1 j i (qN O hj)]at q;exact hreal _ hj q
 obtain⟨Z,wZ,RZ,EZ⟩:=Jf hg hp (by omega) hrn Q.H hnN (aH.refl Xn) RN;have hst₀n:st₀.h.next=s.lay.nx:=by
  unfold Lay.put at hp;split at hp<;>try cases hp
  split at hp<;>cases hp;rfl
 have hZn:Z.h.next=s.lay.nx:=by rw[RZ.h];exact hst₀n
 have hZr:Real Z:=fun i hi=>hrn.of EZ i (by omega);have Rv:=GF RZ.T hv₀ hal (fun t ht=>by simp only[Nat.zero_add];rw[Array.getElem?_append_left (by simpa[hal]using ht)];simp);have hZw:Z.w=X.w:=by rw[wZ,hXn];exact hw₂
 rw[<-hZw];refine(hC.2 d o ho st₀ ex st' hp hs Z us₀ args RZ.h RZ.H hZr hv₀ Rv).mono ?_;rintro e w' ⟨X₀,Vs,rfl,rfl,hh',H',E₀,hus⟩;unfold Bq at e₂;split at e₂<;>try cases e₂
 rename_i t₁ us hkl hvus;split at e₂<;>try cases e₂
 rename_i t' us₂ hcp hru;have E:=EZ.trans E₀;rw[<-hh',<-hX₂]at hcp hru;rw[<-hX₂]at hkl;obtain⟨X',g1,g2,g3,g4,g5⟩:=S3 H₂ O Q hnx (by rw[hXn];exact fun b=>Iff.rfl) (by rw[hXn]) hreal H' E hkl hcp;refine⟨X',iX Vs,rfl,g1,by rw[g2,hX₂,<-hh'],g3,?_,uv (mn g5 hru (hus us hvus))⟩;exact E₀₂.trans g4
def wN{R:Type}:List ir->List AV->Hp->(Bool->AV->Hp->Option R)->Option R
 |[],_,_,_=>none|s::l,vs,h,k=>match BF s vs h with
  |some x=>az (s.F x.2.2) fun o=>nz s.nr s.outs o fun _ st'=>match Bq x.1 x.2.1 s.lay.nx s.nr st' with|some y=>k true (l9 y.1) y.2|none=>none
  |none=>wN l vs h k
abbrev BM:=FuncId->List ir
def Lc(P:Program)(Q:BM):Prop:=∀f,∀s∈Q f,ja P f s
theorem Lj{R:Type}{P:Program}{f:FuncId}{vs:List AV}{h:Hp}{k:Bool->AV->Hp->Option R}{r:R}:∀{l:List ir},(∀s∈l,ja P f s)->wN l vs h k=some r ->
  ∃ch v h',k ch v h'=some r/\(ch=false->dm h h')/\tX P f vs h v h'
 |[],_,e=>by cases e
 |s::l,hC,e=>by
  simp only[wN]at e;split at e
  .rename_i x hx;obtain⟨o,ho,hk⟩:=uH e;obtain⟨ex,st',hs,hk⟩:=AU hk;split at hk<;>try cases hk
   rename_i y hy;exact⟨true,_,_,hk,fun q=>(by cases q),Uk (hC s (by simp)) hx ho hs hy⟩
  .exact Lj (fun s' h'=>hC s' (by simp[h'])) e
open Go.Proofs.YtdcnjfbffckblaaGreat.Ev (Tr Tr.bz nth bI)
def zR:fC:=(0,(0,([],())))
def ua{R:Type}(call:fj R):fj R:=fun f vs h k=>match vs with
 |[]=>call f vs h k|v₀::rest=>match v₀ with
  |.rp b i=>match h.tr.get b with
   |some (.dG L ty)=>match Tr.set FT h.tr b none with
    |some t₀=>match Tr.set FT t₀ h.next (some (.cells [.int .i64 (L.getD i zR).1,.int .i64 (L.getD i zR).2.1,.mp (h.next+1)] ty))with
     |some t₁=>match Tr.set FT t₁ (h.next+1) (some (.map .u64 (.int .u64) (L.getD i zR).2.2.1))with
      |some t₂=>call f (.ptr h.next 0::rest) ⟨t₂,h.next+2⟩ fun _ v h'=>match h'.tr.get h.next,h'.tr.get (h.next+1)with
       |some (.cells [.int .i64 a,.int .i64 w,.mp j] ty'),some (.map .u64 (.int .u64) M)=>match Nat.beq j (h.next+1),Nat.beq ty' ty with
        |true,true=>match Tr.set FT h'.tr h.next none with
         |some t₃=>match Tr.set FT t₃ (h.next+1) none with
          |some t₄=>match Tr.set FT t₄ b (some (.dG (L.set i (a,(w,(M,())))) ty))with|some t₅=>k true v ⟨t₅,h'.next⟩|none=>none
          |none=>none
         |none=>none
        |_,_=>none
       |_,_=>none
      |none=>none
     |none=>none
    |none=>none
   |_=>none
  |_=>call f vs h k
theorem dS.get{w:World}{A:Nat->Prop}{ty:TypeId}:∀{m:List (Nat×Nat)}{L:List fC}{i:Nat}{p:Nat×Nat},dS w A ty m L->m[i]?=some p->∃d,L[i]?=some d/\mM w A p d ty
 |[],L,i,p,h,q=>by simp at q|x::m,L,i,p,h,q=>by cases L with|nil=>exact h.elim|cons d L=>cases i with|zero=>simp only[List.getElem?_cons_zero,aX]at q;subst q;exact⟨d,rfl,h.1⟩|succ i=>obtain⟨d',g1,g2⟩:=dS.get (i:=i) h.2 (by simpa using q);exact⟨d',by simpa using g1,g2⟩
theorem dS.aT{w w':World}{A A':Nat->Prop}(K:fw w A w' A'){ty:TypeId}{p:Nat×Nat}{d':fC}(hp':mM w' A' p d' ty):∀{m:List (Nat×Nat)}{L:List fC}{i:Nat},m[i]?=some p->dS w A ty m L ->
  (∀k q,m[k]?=some q->k≠i->w'.heap[q.1]?=w.heap[q.1]?/\w'.heap[q.2]?=w.heap[q.2]?)->dS w' A' ty m (L.set i d')
 |[],L,i,q,h,hs=>by simp at q|x::m,L,i,q,h,hs=>by
  cases L with
  |nil=>exact h.elim|cons d L=>
   cases i with
   |zero=>simp only[List.getElem?_cons_zero,aX]at q;subst q;refine⟨hp',h.2.ext K fun y hy=>?_⟩;obtain⟨k,hk⟩:=List.getElem?_of_mem hy;exact hs (k+1) y (by simpa using hk) (by omega)
   |succ i=>have h0:=hs 0 x rfl (by omega);exact⟨h.1.ext K h0.1 h0.2,dS.aT K hp' (by simpa using q) h.2 fun k y hk hne=>hs (k+1) y (by simpa using hk) (by omega)⟩
theorem yw{m:List (Nat×Nat)}{k:Nat}{q:Nat×Nat}(h:m[k]?=some q):q.1∈dZ m/\q.2∈dZ m:=by have:=cK h;unfold dZ;exact⟨List.mem_flatMap.2 ⟨q,this,by simp⟩,List.mem_flatMap.2 ⟨q,this,by simp⟩⟩
theorem Ko:∀{m:List (Nat×Nat)}{i k:Nat}{p q:Nat×Nat},(dZ m).Nodup->m[i]?=some p->m[k]?=some q->k≠i->q.1≠p.1/\q.1≠p.2/\q.2≠p.1/\q.2≠p.2
 |[],i,k,p,q,_,h,_,_=>by simp at h|x::m,i,k,p,q,hn,h1,h2,hne=>by
  have hn':(x.1::x.2::dZ m).Nodup:=hn;obtain⟨n1,n2⟩:=List.nodup_cons.1 hn';obtain⟨n2,n3⟩:=List.nodup_cons.1 n2;have n1':x.1∉dZ m:=fun q=>n1 (List.mem_cons_of_mem _ q);cases i with
  |zero=>cases k with|zero=>exact absurd rfl hne|succ k=>simp only[List.getElem?_cons_zero,aX]at h1;subst h1;obtain⟨b1,b2⟩:=yw (m:=m) (by simpa using h2);exact⟨fun e=>n1' (e▸b1),fun e=>n2 (e▸b1),fun e=>n1' (e▸b2),fun e=>n2 (e▸b2)⟩
  |succ i=>
   cases k with
   |zero=>simp only[List.getElem?_cons_zero,aX]at h2;subst h2;obtain⟨b1,b2⟩:=yw (m:=m) (by simpa using h1);exact⟨fun e=>n1' (e▸b1),fun e=>n1' (e▸b2),fun e=>n2 (e▸b1),fun e=>n2 (e▸b2)⟩
   |succ k=>exact Ko n3 (by simpa using h1) (by simpa using h2) (by omega)
theorem Rl:∀{m:List (Nat×Nat)}{i:Nat}{p:Nat×Nat},(dZ m).Nodup->m[i]?=some p->p.1≠p.2
 |[],i,p,_,h=>by simp at h|x::m,i,p,hn,h=>by have hn':(x.1::x.2::dZ m).Nodup:=hn;obtain⟨n1,n2⟩:=List.nodup_cons.1 hn';cases i with|zero=>simp only[List.getElem?_cons_zero,aX]at h;subst h;exact fun e=>n1 (by rw[e];simp)|succ i=>exact Rl (List.nodup_cons.1 n2).2 (by simpa using h)
theorem Tt{X:Cx}(H:ab X){b i x c:Nat}{m:List (Nat×Nat)}{p:Nat×Nat}{L:List fC}{ty:TypeId}(hb:X.h.tr.get b=some (.dG L ty))(hs:X.s b=some (.bN x c m))(hp:m[i]?=some p){t₀ t₁ t₂:Tr aC}
  (h0:Tr.set FT X.h.tr b none=some t₀) (h1:Tr.set FT t₀ X.h.next (some (.cells [.int .i64 (L.getD i zR).1,.int .i64 (L.getD i zR).2.1,.mp (X.h.next+1)] ty))=some t₁) (h2:Tr.set FT t₁ (X.h.next+1) (some (.map .u64 (.int .u64) (L.getD i zR).2.2.1))=some t₂) :
  ∃X₁:Cx,X₁.w=X.w/\X₁.h=⟨t₂,X.h.next+2⟩/\(∀q,X₁.A q↔X.A q\/((Loc.bN x c m).own q/\q≠p.1/\q≠p.2))/\X₁.s X.h.next=some (.at p.1 0)/\X₁.s (X.h.next+1)=some (.at p.2 0)/\(∀j,j<X.h.next->X₁.s j=X.s j) /\
   ab X₁/\ez X X₁/\(∀q,X₁.bx q->X.bx q)/\(∀j o,j<X.h.next->X₁.h.tr.get j=some o->X.h.tr.get j=some o/\j≠b)/\(∀j,j<X.h.next->j≠b->X₁.h.tr.get j=X.h.tr.get j) /\
   (∀q,(Loc.bN x c m).own q->q≠p.1->q≠p.2->¬X₁.bx q):=by
 have g0:=Tr.bz _ _ _ _ _ h0;have g1:=Tr.bz _ _ _ _ _ h1;have g2:=Tr.bz _ _ _ _ _ h2;have hbn:=H.lt b _ hb;obtain⟨tail,ty',r1,r2,r3,r4⟩:=H.obj b _ _ hb hs;obtain⟨n1,n2⟩:=List.nodup_cons.1 r4;obtain⟨d,hd,s1,es,clk,s2,s3⟩:=r3.get hp;have hD:L.getD i zR=d:=by rw[dP,hd];rfl
 have hpp:=Rl n2 hp;have own1:(Loc.bN x c m).own p.1:=.inr ⟨p,cK hp,.inl rfl⟩;have own2:(Loc.bN x c m).own p.2:=.inr ⟨p,cK hp,.inr rfl⟩
 let s':Sg:=aT (aT X.s X.h.next (.at p.1 0)) (X.h.next+1) (.at p.2 0)
 have sn:s' X.h.next=some (.at p.1 0):=by show aT _ _ _ _=_;rw[cp _ _ _ (by omega),cd]
 have sn1:s' (X.h.next+1)=some (.at p.2 0):=cd _ _ _;have sl:∀j,j<X.h.next->s' j=X.s j:=fun j hj=>by show aT _ _ _ _=_;rw[cp _ _ _ (by omega),cp _ _ _ (by omega)]
 have alt:∀j o,t₂.get j=some o->(j=X.h.next/\o=.cells [.int .i64 d.1,.int .i64 d.2.1,.mp (X.h.next+1)] ty)\/(j=X.h.next+1/\o=.map .u64 (.int .u64) d.2.2.1)\/(X.h.tr.get j=some o/\j≠b/\j<X.h.next):=by
  intro j o hj;rw[g2 j]at hj;by_cases q:j=X.h.next+1
  .rw[if_pos q,hD]at hj;exact .inr (.inl ⟨q,by simpa using hj.symm⟩)
  .rw[if_neg q,g1 j]at hj;by_cases q':j=X.h.next
   .rw[if_pos q',hD]at hj;exact .inl ⟨q',by simpa using hj.symm⟩
   .rw[if_neg q',g0 j]at hj;by_cases q'':j=b
    .rw[if_pos q'']at hj;cases hj
    .rw[if_neg q'']at hj;exact .inr (.inr ⟨hj,q'',H.lt j o hj⟩)
 let A':Nat->Prop:=fun q=>X.A q\/((Loc.bN x c m).own q/\q≠p.1/\q≠p.2)
 have bx:∀q,Cx.bx ⟨s',⟨t₂,X.h.next+2⟩,X.w,A'⟩ q->X.bx q/\((Loc.bN x c m).own q->q=p.1\/q=p.2):=by
  rintro q ⟨j,o,l,e1,e2,e3⟩
  replace e1:t₂.get j=some o:=e1
  replace e2:s' j=some l:=e2
  rcases alt j o e1 with⟨rfl,rfl⟩|⟨rfl,rfl⟩|⟨f1,f2,f3⟩
  .rw[sn]at e2;cases e2;cases e3;exact⟨⟨b,_,_,hb,hs,own1⟩,fun _=>.inl rfl⟩
  .rw[sn1]at e2;cases e2;cases e3;exact⟨⟨b,_,_,hb,hs,own2⟩,fun _=>.inr rfl⟩
  .rw[sl j f3]at e2;exact⟨⟨j,o,l,f1,e2,e3⟩,fun hq=>absurd (H.inj j b o _ l _ q f1 hb e2 hs e3 hq) f2⟩
 have E:ez X ⟨s',⟨t₂,X.h.next+2⟩,X.w,A'⟩:=by
  refine⟨fun j l h=>by show s' j=_;rw[sl j (H.bZ j l h)];exact h,?_,?_⟩
  .intro q o hq e;refine⟨e,?_⟩;rintro((r|⟨r,_⟩)|r)
   .exact hq (.inl r)
   .exact hq (.inr ⟨b,_,_,hb,hs,r⟩)
   .exact hq (.inr (bx q r).1)
  .intro j l n h1' q;obtain⟨o',q,hr⟩:=gO q;rcases alt j _ q with⟨_,q⟩|⟨_,q⟩|⟨f1,_⟩
   .subst q;cases hr
   .subst q;cases hr
   .show rowOf X.h.tr j=some n;rw[fS f1];exact hr
 refine⟨⟨s',⟨t₂,X.h.next+2⟩,X.w,A'⟩,rfl,rfl,fun q=>Iff.rfl,sn,sn1,sl,⟨?_,?_,?_,?_,?_,?_⟩,E,fun q h=>(bx q h).1,?_,?_,?_⟩
 .intro j o l e1 e2
  replace e1:t₂.get j=some o:=e1
  replace e2:s' j=some l:=e2
  rcases alt j o e1 with⟨rfl,rfl⟩|⟨rfl,rfl⟩|⟨f1,f2,f3⟩
  .rw[sn]at e2;cases e2;exact⟨p.1,0,[.int .i64 d.1,.int .i64 d.2.1,.map (some p.2)],rfl,s1,_,_,rfl,rfl,_,_,rfl,rfl,_,_,rfl,⟨p.2,0,sn1,rfl⟩,rfl⟩
  .rw[sn1]at e2;cases e2;exact⟨p.2,0,es,clk,rfl,s2,s3.aN E.K⟩
  .rw[sl j f3]at e2;exact(H.obj j o l f1 e2).ext E (fun _ _=>rfl)
 .intro j k o o' l l' q e1 e2 e3 e4 e5 e6
  replace e1:t₂.get j=some o:=e1
  replace e2:t₂.get k=some o':=e2
  replace e3:s' j=some l:=e3
  replace e4:s' k=some l':=e4
  rcases alt j o e1 with⟨rfl,rfl⟩|⟨rfl,rfl⟩|⟨f1,f2,f3⟩<;>rcases alt k o' e2 with⟨rfl,rfl⟩|⟨rfl,rfl⟩|⟨k1,k2,k3⟩
  .rfl
  .rw[sn]at e3;rw[sn1]at e4;cases e3;cases e4;cases e5;exact absurd e6 hpp
  .rw[sn]at e3;cases e3;cases e5;rw[sl k k3]at e4;exact absurd (H.inj k b o' _ l' _ _ k1 hb e4 hs e6 own1) k2
  .rw[sn1]at e3;rw[sn]at e4;cases e3;cases e4;cases e6;exact absurd e5 hpp
  .rfl
  .rw[sn1]at e3;cases e3;cases e5;rw[sl k k3]at e4;exact absurd (H.inj k b o' _ l' _ _ k1 hb e4 hs e6 own2) k2
  .rw[sn]at e4;cases e4;cases e6;rw[sl j f3]at e3;exact absurd (H.inj j b o _ l _ _ f1 hb e3 hs e5 own1) f2
  .rw[sn1]at e4;cases e4;cases e6;rw[sl j f3]at e3;exact absurd (H.inj j b o _ l _ _ f1 hb e3 hs e5 own2) f2
  .rw[sl j f3]at e3;rw[sl k k3]at e4;exact H.inj j k o o' l l' q f1 k1 e3 e4 e5 e6
 .intro j o e1;rcases alt j o e1 with⟨rfl,_⟩|⟨rfl,_⟩|⟨_,_,f3⟩
  .show X.h.next<X.h.next+2;omega
  .show X.h.next+1<X.h.next+2;omega
  .show j<X.h.next+2;omega
 .intro j l e;show j<X.h.next+2;by_cases q:j<X.h.next
  .omega
  .replace e:s' j=some l:=e
   by_cases q1:j=X.h.next
   .omega
   .by_cases q2:j=X.h.next+1
    .omega
    .have:s' j=X.s j:=by show aT _ _ _ _=_;rw[cp _ _ _ q2,cp _ _ _ q1]
     rw[this]at e;have:=H.bZ j l e;omega
 .rintro q (r|⟨r,_⟩)
  .exact H.alt q r
  .exact H.gG hb hs r
 .intro j o l q e1 e2 e3
  replace e1:t₂.get j=some o:=e1
  replace e2:s' j=some l:=e2
  rcases alt j o e1 with⟨rfl,rfl⟩|⟨rfl,rfl⟩|⟨f1,f2,f3⟩
  .rw[sn]at e2;cases e2;cases e3;rintro(r|⟨_,r,_⟩)
   .exact H.loc b _ _ _ hb hs own1 r
   .exact r rfl
  .rw[sn1]at e2;cases e2;cases e3;rintro(r|⟨_,_,r⟩)
   .exact H.loc b _ _ _ hb hs own2 r
   .exact r rfl
  .rw[sl j f3]at e2;rintro(r|⟨r,_⟩)
   .exact H.loc j o l q f1 e2 e3 r
   .exact f2 (H.inj j b o _ l _ q f1 hb e2 hs e3 r)
 .intro j o hj e;rcases alt j o e with⟨rfl,_⟩|⟨rfl,_⟩|⟨f1,f2,_⟩
  .omega
  .omega
  .exact⟨f1,f2⟩
 .intro j hj hjb;show t₂.get j=_;rw[g2 j,if_neg (by omega),g1 j,if_neg (by omega),g0 j,if_neg hjb]
 .intro q hq a1 a2 hi;rcases(bx q hi).2 hq with r|r
  .exact a1 r
  .exact a2 r
theorem K8{R:Type}{P:Program}{call:fj R}(hc:cT P call):cT P (ua call):=by
 intro f vs h k r e;unfold ua at e;split at e
 .exact hc _ _ _ _ _ e
 rename_i v₀ rest;split at e
 case h_2=>exact hc _ _ _ _ _ e
 rename_i b i;split at e<;>try cases e
 rename_i L ty hb;split at e<;>try cases e
 rename_i t₀ h0;split at e<;>try cases e
 rename_i t₁ h1;split at e<;>try cases e
 rename_i t₂ h2;obtain⟨ch,v,h',hk,_,hfn,hcall⟩:=hc _ _ _ _ _ e;split at hk<;>try cases hk
 rename_i a w j ty₂ M hn hn1;split at hk<;>try cases hk
 rename_i hj hty;have hj:=aA hj;have hty:=aA hty;subst hj;subst hty;split at hk<;>try cases hk
 rename_i t₃ h3;split at hk<;>try cases hk
 rename_i t₄ h4;split at hk<;>try cases hk
 rename_i t₅ h5;refine⟨true,v,⟨t₅,h'.next⟩,hk,(fun q=>by cases q),hfn,?_⟩;intro X args hX H hR;subst hX;obtain⟨V₀,rs,rfl,⟨x,c,m,p,hs,hp,rfl⟩,hRr⟩:=hR;obtain⟨X₁,w1,hh1,hA1,sn,sn1,sl,H₁,E₁,img1,tr1,tr1',off1⟩:=Tt H hb hs hp h0 h1 h2;refine(w1▸hcall X₁ (.pointer (some ⟨p.1,0,none⟩)::rs) hh1 H₁ ⟨_,_,rfl,⟨p.1,0,sn,rfl⟩,hRr.ext E₁⟩:Calls P f _ X.w _).mono ?_;rintro e' w' ⟨X₂,V,rfl,rfl,hh2,H₂,E₂,hv⟩;subst hh2;obtain⟨tail,ty',r1,r2,r3,r4⟩:=H.obj b _ _ hb hs;obtain⟨n1,n2⟩:=List.nodup_cons.1 r4;have hbn:=H.lt b _ hb;have own1:(Loc.bN x c m).own p.1:=.inr ⟨p,cK hp,.inl rfl⟩;have own2:(Loc.bN x c m).own p.2:=.inr ⟨p,cK hp,.inr rfl⟩;have s2b:X₂.s b=some (.bN x c m):=E₂.sg _ _ (by rw[sl b hbn];exact hs);have s2n:=E₂.sg _ _ sn;have s2n1:=E₂.sg _ _ sn1;have g3:=Tr.bz _ _ _ _ _ h3;have g4:=Tr.bz _ _ _ _ _ h4;have g5:=Tr.bz _ _ _ _ _ h5;have alt:∀j o,t₅.get j=some o->(j=b/\o=.dG (L.set i (a,(w,(M,())))) ty₂)\/(X₂.h.tr.get j=some o/\j≠b/\j≠X.h.next/\j≠X.h.next+1):=by
  intro j o hj;rw[g5 j]at hj;by_cases q:j=b
  .rw[if_pos q]at hj;exact .inl ⟨q,by simpa using hj.symm⟩
  .rw[if_neg q,g4 j]at hj;by_cases q':j=X.h.next+1
   .rw[if_pos q']at hj;cases hj
   .rw[if_neg q',g3 j]at hj;by_cases q'':j=X.h.next
    .rw[if_pos q'']at hj;cases hj
    .rw[if_neg q'']at hj;exact .inr ⟨hj,q,q'',q'⟩
 have hA2:X₂.A=X₁.A:=E₂.A;have alone:∀j o l q,X₂.h.tr.get j=some o->j≠X.h.next->j≠X.h.next+1->X₂.s j=some l->l.own q->¬(Loc.bN x c m).own q:=by
  intro j o l q e1 e2 e3 e4 e5 e6;by_cases q1:q=p.1
  .subst q1;exact e2 (H₂.inj j _ o _ l _ _ e1 hn e4 s2n e5 rfl)
  .by_cases q2:q=p.2
   .subst q2;exact e3 (H₂.inj j _ o _ l _ _ e1 hn1 e4 s2n1 e5 rfl)
   .exact H₂.loc j o l q e1 e4 e5 (by rw[hA2];exact(hA1 q).2 (.inr ⟨e6,q1,q2⟩))
 have img3:∀q,Cx.bx ⟨X₂.s,⟨t₅,X₂.h.next⟩,X₂.w,X.A⟩ q->(Loc.bN x c m).own q\/X₂.bx q:=by
  rintro q ⟨j,o,l,e1,e2,e3⟩
  replace e1:t₅.get j=some o:=e1
  replace e2:X₂.s j=some l:=e2
  rcases alt j o e1 with⟨rfl,rfl⟩|⟨f1,_⟩
  .rw[s2b]at e2;cases e2;exact .inl e3
  .exact .inr ⟨j,o,l,f1,e2,e3⟩
 have inOut:∀q,(Loc.bN x c m).own q->X₂.out q:=by
  intro q hq;by_cases q1:q=p.1
  .subst q1;exact .inr ⟨_,_,_,hn,s2n,rfl⟩
  .by_cases q2:q=p.2
   .subst q2;exact .inr ⟨_,_,_,hn1,s2n1,rfl⟩
   .exact .inl (by rw[hA2];exact(hA1 q).2 (.inr ⟨hq,q1,q2⟩))
 have E₃:ez X₂ ⟨X₂.s,⟨t₅,X₂.h.next⟩,X₂.w,X.A⟩:=by
  refine⟨fun _ _ h=>h,?_,?_⟩
  .intro q o hq e;refine⟨e,?_⟩;rintro(r|r)
   .exact hq (.inl (by rw[hA2];exact(hA1 q).2 (.inl r)))
   .rcases img3 q r with r|r
    .exact hq (inOut q r)
    .exact hq (.inr r)
  .intro j l n _ q;obtain⟨o',q,hr⟩:=gO q;rcases alt j _ q with⟨_,q⟩|⟨f1,_⟩
   .subst q;cases hr
   .show rowOf X₂.h.tr j=some n;rw[fS f1];exact hr
 have size:∀q,X.bx q->q<X.w.heap.size:=fun q hq=>H.uG hq;have still:∀q,(Loc.bN x c m).own q->q≠p.1->q≠p.2->X₂.w.heap[q]?=X.w.heap[q]?:=by intro q hq a1 a2;have:=E₂.frame q (by rw[w1];exact H.gG hb hs hq) (off1 q hq a1 a2);rw[this,w1]
 have H₃:ab ⟨X₂.s,⟨t₅,X₂.h.next⟩,X₂.w,X.A⟩:=by
  refine⟨?_,?_,?_,H₂.bZ,fun q hq=>H₂.alt q (by rw[hA2];exact(hA1 q).2 (.inl hq)),?_⟩
  .intro j o l e1 e2
   replace e1:t₅.get j=some o:=e1
   replace e2:X₂.s j=some l:=e2
   rcases alt j o e1 with⟨rfl,rfl⟩|⟨f1,_⟩
   .rw[s2b]at e2;cases e2;obtain⟨y,c',cs,k1,k2,k3⟩:=H₂.obj _ _ _ hn s2n;cases k1;obtain⟨y',c'',es,clk,k4,k5,k6⟩:=H₂.obj _ _ _ hn1 s2n1;cases k4;obtain⟨u1,t1,rfl,rfl,u2,t2,rfl,rfl,u3,t3,rfl,⟨y3,c3,z1,rfl⟩,t4⟩:=k3;have:t3=[]:=t4;subst this;rw[s2n1]at z1;cases z1;refine⟨tail,ty',?_,r2,?_,r4⟩
    .show X₂.w.heap[x]?=_;rw[still x (.inl rfl) (fun e=>n1 (e▸(yw hp).1)) (fun e=>n1 (e▸(yw hp).2))];exact r1
    .have hK:fw X.w X.out X₂.w (Cx.out ⟨X₂.s,⟨t₅,X₂.h.next⟩,X₂.w,X.A⟩):=by have K2:fw X₁.w X₁.out X₂.w X₂.out:=E₂.keeps;exact(E₁.K.trans K2).trans E₃.K
     refine dS.aT hK ⟨k2,es,clk,k5,k6.aN E₃.K⟩ hp r3 ?_;intro k q hk hne;obtain⟨a1,a2,a3,a4⟩:=Ko n2 hp hk hne;have hm:=cK hk;exact⟨still q.1 (.inr ⟨q,hm,.inl rfl⟩) a1 a2,still q.2 (.inr ⟨q,hm,.inr rfl⟩) a3 a4⟩
   .exact(H₂.obj j o l f1 e2).ext E₃ (fun _ _=>rfl)
  .intro j k o o' l l' q e1 e2 e3 e4 e5 e6
   replace e1:t₅.get j=some o:=e1
   replace e2:t₅.get k=some o':=e2
   replace e3:X₂.s j=some l:=e3
   replace e4:X₂.s k=some l':=e4
   rcases alt j o e1 with⟨rfl,rfl⟩|⟨f1,f2,f3,f4⟩<;>rcases alt k o' e2 with⟨rfl,rfl⟩|⟨k1,k2,k3,k4⟩
   .rfl
   .rw[s2b]at e3;cases e3;exact absurd e5 (alone k o' l' q k1 k3 k4 e4 e6)
   .rw[s2b]at e4;cases e4;exact absurd e6 (alone j o l q f1 f3 f4 e3 e5)
   .exact H₂.inj j k o o' l l' q f1 k1 e3 e4 e5 e6
  .intro j o e1;rcases alt j o e1 with⟨rfl,rfl⟩|⟨f1,_⟩
   .show j<X₂.h.next;have:=E₂.next;rw[hh1]at this;have:X.h.next+2<=X₂.h.next:=this;omega
   .exact H₂.lt j o f1
  .intro j o l q e1 e2 e3
   replace e1:t₅.get j=some o:=e1
   replace e2:X₂.s j=some l:=e2
   rcases alt j o e1 with⟨rfl,rfl⟩|⟨f1,_⟩
   .rw[s2b]at e2;cases e2;exact H.loc j _ _ q hb hs e3
   .intro r;exact H₂.loc j o l q f1 e2 e3 (by rw[hA2];exact(hA1 q).2 (.inl r))
 have nxt:X.h.next+2<=X₂.h.next:=by have:=E₂.next;rw[hh1]at this;exact this
 refine⟨⟨X₂.s,⟨t₅,X₂.h.next⟩,X₂.w,X.A⟩,V,rfl,rfl,rfl,H₃,?_,hv.ext E₃⟩;refine⟨by rw[<-w1];exact E₂.os,by rw[<-w1];exact E₂.tape,by rw[<-w1];exact E₂.output,by rw[<-w1];exact E₂.size,?_,?_,by show X.h.next<=X₂.h.next;omega,?_,?_,?_,?_,rfl⟩
 .intro j l hj;exact E₂.sg j l (by rw[sl j (H.bZ j l hj)];exact hj)
 .intro j l hj e;have:=E₂.bZ j l (by rw[hh1];show j<X.h.next+2;omega) e;rw[sl j hj]at this;exact this
 .intro q hq hn';have:=E₂.frame q (by rw[w1];exact hq) (fun r=>hn' (img1 q r));show X₂.w.heap[q]?=_;rw[this,w1]
 .intro q hq;rcases img3 q hq with r|r
  .exact .inl ⟨b,_,_,hb,hs,r⟩
  .rcases E₂.bx q r with r|r
   .exact .inl (img1 q r)
   .exact .inr (by rw[<-w1];exact r)
 .intro j n hj q;obtain⟨o',q,hr⟩:=gO q;rcases alt j _ q with⟨_,q⟩|⟨f1,_⟩
  .subst q;cases hr
  .have:=E₂.len j n (by rw[hh1];show j<X.h.next+2;omega) (by rw[fS f1];exact hr);obtain⟨o₁,q1,q2⟩:=gO this;show rowOf X.h.tr j=some n;rw[fS (tr1 j _ hj q1).1];exact q2
 .intro j hj hsj;have hjb:j≠b:=by rintro rfl;rw[hs]at hsj;cases hsj
  show t₅.get j=_;rw[g5 j,if_neg hjb,g4 j,if_neg (by omega),g3 j,if_neg (by omega),E₂.same j (by rw[hh1];show j<X.h.next+2;omega) (by rw[sl j hj];exact hsj)];exact tr1' j hj hjb
structure Kn where
 S:qk
 Q:BM
structure kM(P:Program)(K:Kn):Prop where
 S:Bf P K.S
 Q:Lc P K.Q
def tZ{R:Type}(K:Kn):fj R:=fun f vs h k=>match K.S f with|some _=>Aq K.S f vs h k|none=>wN (K.Q f) vs h k
theorem K9{R:Type}{P:Program}{K:Kn}(hK:kM P K):cT P (tZ (R:=R) K):=by
 intro f vs h k r e;unfold tZ at e;split at e
 .exact Ts hK.S f vs h k r e
 .exact Lj (hK.Q f) e
def known(K:Kn)(f:FuncId):Bool:=match K.S f with|some _=>true|none=>match K.Q f with|[]=>false|_=>true
abbrev Env:=FuncId->Option Func
def iS(P:Program)(E:Env):Prop:=∀f e,E f=some e->P.funcs[f]?=some e/\(e.name == "runtime.NumGoroutine")=false
def AW{R:Type}(p:FuncId->Bool)(a b:fj R):fj R:=fun f vs h k=>match p f with|true=>a f vs h k|false=>b f vs h k
theorem WJ{R:Type}{P:Program}{p:FuncId->Bool}{a b:fj R}(ha:cT P a)(hb:cT P b):cT P (AW p a b):=by
 intro f vs h k r e;unfold AW at e;split at e
 .exact ha f vs h k r e
 .exact hb f vs h k r e
section
variable{R:Type}(P:Program)(sh:TypeId->Option Sh)(S:Kn)(E:Env)
def qp:Nat->fj R
 |0=>ua (tZ S)|d+1=>ua (AW (known S) (tZ S) fun f vs h k=>match E f with
  |some e=>match e.body with
   |some c=>match fx e.ntmps vs 0 .nil with
    |some T=>runK P sh (qp d) (fun _ _ _=>none) e.ntmps c ⟨T,h⟩ fun x st=>match x with|.exit _=>none|_=>match fq P st e.results.toList with|some rs=>k true (l9 rs) st.h|none=>none
    |none=>none
   |none=>none
  |none=>none)
end
theorem yT{R:Type}{P:Program}(hm:P.follows .mixedOrders=true){sh:TypeId->Option Sh}{S:Kn}(hS:kM P S){E:Env}(hE:iS P E):∀d,cT P (qp (R:=R) P sh S E d)
 |0=>K8 (K9 hS)|d+1=>by
  refine K8 (WJ (K9 hS) ?_);intro f vs h k r e;dsimp only at e;split at e<;>try cases e
  rename_i en hen;obtain⟨hf,hname⟩:=hE f en hen;split at e<;>try cases e
  rename_i c hb;split at e<;>try cases e
  rename_i T hT;obtain⟨x,st,hk,Tk⟩:=yU (G:=fun _=>True) hm (yT hm hS hE d) (base:=h.next) c (fun x _ st k r q=>by cases q) _ _ r e;have main:(match fq P st en.results.toList with
      |some rs=>k true (l9 rs) st.h|none=>none)=some r->(∀i,x≠.exit i)->∃ch v h',k ch v h'=some r/\(ch=false->dm h h')/\tX P f vs h v h':=by
   intro hk hx;split at hk<;>try cases hk
   rename_i rs hrs;refine⟨true,_,st.h,hk,(fun q=>by cases q),⟨en,c,hf,hname,hb⟩,?_⟩;intro X args hX H hR;subst hX;refine calls_of_wp hf hb ?_;refine Tk X X _ ⟨rfl,trivial⟩ H (aH.refl X) (sM H hT hR) _ ?_;intro X' a' R' E';obtain⟨Vs,g1,g2⟩:=n0 R' hrs;have fin:a'.defers=[]/\∃V,(results en a'.tmps).run P X'.w=.ok V X'.w/\∃X'' V',Ending.returned V=.returned V'/\X''.w=X'.w/\X''.h=st.h/\ab X''/\aH X X''/\Rel X'' (l9 rs) V':=⟨R'.T.defers,_,g1,X',_,rfl,rfl,R'.h,R'.H,E',uv g2⟩;cases x with|exit i=>exact absurd rfl (hx i)|normal=>exact fin|ret=>exact fin
  cases x with
  |exit i=>simp only[]at hk;cases hk
  |normal=>exact main hk (fun i q=>by cases q)
  |ret=>exact main hk (fun i q=>by cases q)
def rO{τs:List Sh}(P:Program)(sh:TypeId->Option Sh)(S:Kn)(E:Env)(dep:Nat)(loops:jk (TL τs))(e:Func)(c:Code)(σs:List Sh)(d:TL σs):Option (TL τs):=match fx e.ntmps (tc σs d) 0 .nil with
 |some T=>runK P sh (qp P sh S E dep) loops e.ntmps c ⟨T,⟨.nil,0⟩⟩ fun x st=>match x with
  |.exit _=>none|_=>match fq P st e.results.toList with
   |some rs=>match jv true st.h τs rs with|some (x,_)=>some x|none=>none
   |none=>none
 |none=>none
theorem We{P:Program}(hm:P.follows .mixedOrders=true){sh:TypeId->Option Sh}{S:Kn}(hS:kM P S){E:Env}(hE:iS P E){dep:Nat}{f:FuncId}{e:Func}{c:Code}{σs τs:List Sh}{loops:jk (TL τs)}(hl:∀x∈dz c,jy P Real 0 e.ntmps x (loops (gm x)))
  (hf:P.funcs[f]?=some e) (hname:(e.name == "runtime.NumGoroutine")=false) (hb:e.body=some c) {F:TL σs->Option (TL τs)}
  (h:∀d x,F d=some x->rO P sh S E dep loops e c σs d=some x):Comes P f σs τs F:=by
 refine⟨⟨e,c,hf,hname,hb⟩,?_⟩;intro d x hx w A args hA ha;have hr:=h d x hx;unfold rO at hr;split at hr<;>try cases hr
 rename_i T hT;obtain⟨y,st,hk,Tk⟩:=yU (G:=Real) hm (yT hm hS hE dep) (base:=0) c hl _ _ _ hr
 let X:Cx:=⟨fun _=>none,⟨.nil,0⟩,w,A⟩
 have out:∀b,X.out b->A b:=by
  rintro b (q|⟨i,o,c,h1,h2⟩)
  .exact q
  .simp[X,Tr.get]at h1
 have H:ab X:=⟨fun i o l h=>by simp[X,Tr.get]at h,fun i j o o' b c c' h=>by simp[X,Tr.get]at h,fun i o h=>by simp[X,Tr.get]at h,fun i l h=>by simp[X]at h,hA,fun i o b c h=>by simp[X,Tr.get]at h⟩;have ha':iA X.w X.out σs d args:=ha.aN (fun b o q r=>⟨r,fun s=>q (out b s)⟩);refine calls_of_wp hf hb ?_;refine Tk X X _ ⟨rfl,fun i hi=>absurd hi (Nat.not_lt_zero i)⟩ H (aH.refl X) (sM H hT (yx ha')) _ ?_;intro X' a' R' E';have main:(match fq P st e.results.toList with
   |some rs=>match jv true st.h τs rs with|some (x,_)=>some x|none=>none
   |none=>none)=some x->a'.defers=[]/\∃V,(results e a'.tmps).run P X'.w=.ok V X'.w/\∃vs,Ending.returned V=.returned (iX vs)/\Below w.heap.size w X'.w/\iA X'.w A τs x vs:=by
  intro hk;split at hk<;>try cases hk
  rename_i rs hrs;split at hk<;>cases hk;rename_i h' hfz;obtain⟨Vs,g1,g2⟩:=n0 R' hrs;have hX:=R'.h;rw[<-hX]at hfz;obtain⟨Fz,hA'⟩:=uo R'.H hfz g2;refine⟨R'.T.defers,_,g1,Vs,rfl,⟨E'.os,E'.tape,E'.output,E'.size,fun b hb=>E'.frame b hb ?_⟩,?_⟩
  .rintro⟨i,o,c,h1,h2⟩;simp[X,Tr.get]at h1
  .refine hA'.aN (fun b o q r=>⟨r,fun s=>q (.inl ?_)⟩);show X'.A b;rw[E'.A];exact s
 cases y with
 |exit i=>simp only[]at hk;cases hk
 |normal=>exact main hk|ret=>exact main hk
def rP{outs:List (Ex×Lay)}(P:Program)(sh:TypeId->Option Sh)(S:Kn)(E:Env)(dep:Nat)(loops:jk (Out outs))(e:Func)(c:Code)(np nr:Nat)(lay:Lay)(d:TL lay.σs):Option (Out outs):=match lay.put np d with
 |some st=>match jR st.T np 0 with
  |some vs=>match fx e.ntmps vs 0 .nil with
   |some T=>runK P sh (qp P sh S E dep) loops e.ntmps c ⟨T,st.h⟩ fun x st=>match x with
    |.exit _=>none|_=>match fq P st e.results.toList with
     |some rs=>match Nat.beq (oX rs) nr,fx nr rs 0 .nil with|true,some T=>kI lay.nx nr outs .ret ⟨T,st.h⟩|_,_=>none
     |none=>none
   |none=>none
  |none=>none
 |none=>none
theorem VT{P:Program}(hm:P.follows .mixedOrders=true){sh:TypeId->Option Sh}{S:Kn}(hS:kM P S){E:Env}(hE:iS P E){dep:Nat}{f:FuncId}{e:Func}{c:Code}{s:ir}{loops:jk (Out s.outs)}(hl:∀x∈dz c,jy P Real s.lay.nx e.ntmps x (loops (gm x)))
  (hf:P.funcs[f]?=some e) (hname:(e.name == "runtime.NumGoroutine")=false) (hb:e.body=some c)
  (h:∀d o,s.F d=some o->rP P sh S E dep loops e c s.np s.nr s.lay d=some o):ja P f s:=by
 refine⟨⟨e,c,hf,hname,hb⟩,?_⟩;intro d o ho st ex st' hp hs X vs args hX H hr hv hR;have hrun:=h d o ho;unfold rP at hrun;rw[hp]at hrun;dsimp only at hrun;rw[hv]at hrun;dsimp only at hrun;split at hrun<;>try cases hrun
 rename_i T hT;have hn:st.h.next=s.lay.nx:=by
  unfold Lay.put at hp;split at hp<;>try cases hp
  split at hp<;>cases hp;rfl
 rw[<-hX]at hrun;obtain⟨y,st₂,hk,Tk⟩:=yU (G:=Real) hm (yT hm hS hE dep) (base:=s.lay.nx) c hl _ _ _ hrun;refine calls_of_wp hf hb ?_;refine Tk X X _ ⟨by rw[hX];exact hn,hr⟩ H (aH.refl X) (sM H hT hR) _ ?_;intro X' a' R' E';have main:(match fq P st₂ e.results.toList with
   |some rs=>match Nat.beq (oX rs) s.nr,fx s.nr rs 0 .nil with|true,some T=>kI s.lay.nx s.nr s.outs .ret ⟨T,st₂.h⟩|_,_=>none
   |none=>none)=some o->a'.defers=[]/\∃V,(results e a'.tmps).run P X'.w=.ok V X'.w/\∃X'' Vs,Ending.returned V=.returned (iX Vs)/\X''.w=X'.w/\X''.h=st'.h/\ab X''/\aH X X''/\∀us,jR st'.T s.nr 0=some us->bg X'' us Vs:=by
  intro hk;split at hk<;>try cases hk
  rename_i rs hrs;split at hk<;>try cases hk
  rename_i T₂ hlen hT₂;have hlen:=aA hlen;rw[AY]at hlen;obtain⟨Vs,g1,g2⟩:=n0 R' hrs;have hVl:Vs.length=s.nr:=by rw[g2.length];exact hlen
  have R₂:=sM R'.H hT₂ g2;rw[R'.h]at R₂;obtain⟨X'',w'',R₃,E₃⟩:=(GZ hk hs).2 ⟨by rw[hX];exact hn,hr⟩ H E' R₂;refine⟨R'.T.defers,_,g1,X'',Vs,rfl,w'',R₃.h,R₃.H,E₃,fun us hus=>GF R₃.T hus hVl (fun t ht=>?_)⟩;simp only[Nat.zero_add];rw[Array.getElem?_append_left (by simpa[hVl]using ht)];simp
 cases y with
 |exit i=>simp only[]at hk;cases hk
 |normal=>exact main hk|ret=>exact main hk
structure Jp where
 lay:Lay
 own:List (Tmp×Sh×TypeId)
 outs:List (Ex×Lay)
 L:TL lay.σs->Option (Out outs)
def qG{R:Type}(base n:Nat)(s:Jp)(st:St)(k:Ex->St->Option R):Option R:=match enter base n s.lay s.own st with|some d=>az (s.L d) fun o=>nz n s.outs o k|none=>none
def rN(P:Program)(sh:TypeId->Option Sh)(S:Kn)(E:Env)(dep base n:Nat)(lay:Lay)(outs:List (Ex×Lay))(loops:jk (TL lay.σs⊕Out outs))(x:Code)(d:TL lay.σs):Option (TL lay.σs⊕Out outs):=match lay.put n d with
 |some st=>runK P sh (qp P sh S E dep) loops n x st fun e st=>match e with
  |.normal=>match enter base n lay [] st with|some d=>some (.inl d)|none=>none
  |.exit i=>match kI base n outs (.exit i) st with|some o=>some (.inr o)|none=>none
  |.ret=>match kI base n outs .ret st with|some o=>some (.inr o)|none=>none
 |none=>none
def bj{D O:Type}(B:D->Option (D⊕O)):Nat->D->Option O
 |0,_=>none|m+1,d=>match B d with
  |some r=>match r with|.inl d=>bj B m d|.inr o=>some o
  |none=>none
theorem Zby{R:Type}{P:Program}(hm:P.follows .mixedOrders=true){sh:TypeId->Option Sh}{S:Kn}(hS:kM P S){E:Env}(hE:iS P E){dep base n:Nat}{s:Jp}{x:Code}{loops:jk (TL s.lay.σs⊕Out s.outs)}
  (hl:∀y∈dz x,jy P Real base n y (loops (gm y))) (h:∀d o,s.L d=some o->∃m,bj (rN P sh S E dep base n s.lay s.outs loops x) m d=some o):jy P Real base n x (qG (R:=R) base n s):=by
 intro st k r e;unfold qG at e;split at e<;>try cases e
 rename_i d hd;obtain⟨o,ho,hk⟩:=uH e;obtain⟨ex,st',hs,hk⟩:=AU hk;obtain⟨m,hmm⟩:=h d o ho;have key:∀m d,bj (rN P sh S E dep base n s.lay s.outs loops x) m d=some o->∃st,s.lay.put n d=some st/\∀X₀ X a,(X₀.h.next=base/\Real X₀)->ab X₀->aH X₀ X->RF X n st a->∀Q:Exit->Act->World->Prop,
   (∀X' a',RF X' n st' a'->aH X₀ X'->Q ex.to a' X'.w)->Code.rounds P x Q m a X.w:=by
  intro m
  induction m with
  |zero=>intro d e;cases e
  |succ m ih=>
   intro d e;simp only[bj]at e;split at e<;>try cases e
   rename_i rr hB;unfold rN at hB;split at hB<;>try cases hB
   rename_i st₁ hp;refine⟨st₁,hp,?_⟩;obtain⟨e₂,st₂,hk₂,Tk⟩:=yU (G:=Real) hm (yT hm hS hE dep) (base:=base) x hl _ _ _ hB;intro X₀ X a hb H₀ hE RR Q hQ;rw[rounds_succ];refine Tk X₀ X a hb H₀ hE RR _ ?_;intro X' a' R' E';have out:∀i o',kI base n s.outs i st₂=some o'->some (Sum.inr o')=some rr->Q i.to a' X'.w:=by intro i o' ho' hk₂;cases hk₂;simp only[aX]at e;subst e;obtain⟨q1,q2⟩:=GZ ho' hs;subst q1;obtain⟨X'',hw,R'',E''⟩:=q2 hb H₀ E' R';rw[<-hw];exact hQ X'' a' R'' E''
   cases e₂ with
   |normal=>simp only[]at hk₂;split at hk₂<;>cases hk₂;rename_i d' hd';simp only[]at e;obtain⟨st₃,hp₃,rest⟩:=ih d' e;obtain⟨X'',hw,R'',E''⟩:=yR hd' hp₃ hb H₀ E' R';have:=rest X₀ X'' a' hb H₀ E'' R'' Q hQ;rw[hw]at this;exact this
   |exit i=>
    simp only[]at hk₂;split at hk₂<;>try cases hk₂
    rename_i o' ho';exact out (.exit i) o' ho' rfl
   |ret=>
    simp only[]at hk₂;split at hk₂<;>try cases hk₂
    rename_i o' ho';exact out .ret o' ho' rfl
 obtain⟨st₁,hp,S'⟩:=key m d hmm;refine⟨ex,st',hk,?_⟩;intro X₀ X a hb H₀ hE RR Q hQ;obtain⟨X₁,w₁,R₁,E₁⟩:=yR hd hp hb H₀ hE RR;have:=S' X₀ X₁ a hb H₀ E₁ R₁ Q hQ;rw[w₁]at this;exact wp_loop_rounds m this
def RL(f:TypeId->Option Sh):List Field->Option (List Sh)
 |[]=>some []|x::l=>match f x.type with
  |some s=>match RL f l with|some r=>some (s::r)|none=>none
  |none=>none
def l8(P:Program):Nat->TypeId->Option Sh
 |0,_=>none|k+1,t=>match P.underlying t with
  |some d=>match d with
   |.bool=>some .bool|.int k=>some (.int k)|.string=>some .str|.slice e=>match l8 P k e with|some s=>some (.sl s)|none=>none
   |.struct fs=>match RL (l8 P k) fs.toList with|some l=>some (.agg l)|none=>none
   |_=>none
  |none=>none
def bw(f:Func):Code:=match f.body with|some c=>c|none=>.skip
def bL:List Nat->Code->Code
 |[],c=>c|i::l,c=>match Ev.nth (dz c) i with|some x=>bL l x|none=>.skip
def uh:List (Nat×Spec)->qk
 |[],_=>none|p::l,f=>match Nat.beq p.1 f with|true=>some p.2|false=>uh l f
def qP:List (Nat×ir)->BM
 |[],_=>[]|p::l,f=>match Nat.beq p.1 f with|true=>p.2::qP l f|false=>qP l f
def kU:List (Nat×Func)->Env
 |[],_=>none|p::l,f=>match Nat.beq p.1 f with|true=>some p.2|false=>kU l f
theorem wW{P:Program}:∀{l:List (Nat×Func)},(∀p∈l,P.funcs[p.1]?=some p.2/\(p.2.name == "runtime.NumGoroutine")=false)->iS P (kU l)
 |[],_,f,e,h=>by cases h
 |p::l,hC,f,e,h=>by
  simp only[kU]at h;split at h
  .rename_i q;cases h;rw[<-aA q];exact hC p (by simp)
  .exact wW (fun p' hp=>hC p' (by simp[hp])) f e h
def kn(l:List (Nat×Spec))(q:List (Nat×ir)):Kn:=⟨uh l,qP q⟩
theorem Kx{P:Program}:∀{l:List (Nat×Spec)},(∀p∈l,Comes P p.1 p.2.σs p.2.τs p.2.F)->Bf P (uh l)
 |[],_,f,s,h=>by cases h
 |p::l,hC,f,s,h=>by
  simp only[uh]at h;split at h
  .rename_i q;cases h;rw[<-aA q];exact hC p (by simp)
  .exact Kx (fun p' hp=>hC p' (by simp[hp])) f s h
theorem GI{P:Program}:∀{l:List (Nat×ir)},(∀p∈l,ja P p.1 p.2)->Lc P (qP l)
 |[],_,f,s,h=>by cases h
 |p::l,hC,f,s,h=>by
  simp only[qP]at h;split at h
  .rename_i q;have q:=aA q;rcases List.mem_cons.1 h with rfl|h
   .rw[<-q];exact hC p (by simp)
   .exact GI (fun p' hp=>hC p' (by simp[hp])) f s h
  .exact GI (fun p' hp=>hC p' (by simp[hp])) f s h
theorem Vh{P:Program}{l:List (Nat×Spec)}{q:List (Nat×ir)}(h1:∀p∈l,Comes P p.1 p.2.σs p.2.τs p.2.F)(h2:∀p∈q,ja P p.1 p.2):kM P (kn l q):=⟨Kx h1,GI h2⟩
set_option maxRecDepth 100000
abbrev iL(a b:Int):Bool:=@decide _ (Int.decLt a b)
abbrev iE(a b:Int):Bool:=@decide _ (Int.decLe a b)
abbrev iQ(a b:Int):Bool:=@decide _ (Int.instDecidableEq a b)
section
variable{a1 a2 a3 a4 a5 a6 a7 a8 a9 a10 a11 a12 a13 a14 a15 a16 a17 a18 a19 a20 a21 a22 a23 a24 z r:Type}
abbrev u1(f:a1->r)(d:a1×z):r:=f d.1
abbrev u2(f:a1->a2->r)(d:a1×a2×z):r:=f d.1 d.2.1
abbrev u3(f:a1->a2->a3->r)(d:a1×a2×a3×z):r:=f d.1 d.2.1 d.2.2.1
abbrev u4(f:a1->a2->a3->a4->r)(d:a1×a2×a3×a4×z):r:=f d.1 d.2.1 d.2.2.1 d.2.2.2.1
abbrev u5(f:a1->a2->a3->a4->a5->r)(d:a1×a2×a3×a4×a5×z):r:=f d.1 d.2.1 d.2.2.1 d.2.2.2.1 d.2.2.2.2.1
abbrev u6(f:a1->a2->a3->a4->a5->a6->r)(d:a1×a2×a3×a4×a5×a6×z):r:=f d.1 d.2.1 d.2.2.1 d.2.2.2.1 d.2.2.2.2.1 d.2.2.2.2.2.1
abbrev u7(f:a1->a2->a3->a4->a5->a6->a7->r)(d:a1×a2×a3×a4×a5×a6×a7×z):r:=f d.1 d.2.1 d.2.2.1 d.2.2.2.1 d.2.2.2.2.1 d.2.2.2.2.2.1 d.2.2.2.2.2.2.1
abbrev u8(f:a1->a2->a3->a4->a5->a6->a7->a8->r)(d:a1×a2×a3×a4×a5×a6×a7×a8×z):r:=f d.1 d.2.1 d.2.2.1 d.2.2.2.1 d.2.2.2.2.1 d.2.2.2.2.2.1 d.2.2.2.2.2.2.1 d.2.2.2.2.2.2.2.1
abbrev u9(f:a1->a2->a3->a4->a5->a6->a7->a8->a9->r)(d:a1×a2×a3×a4×a5×a6×a7×a8×a9×z):r:=f d.1 d.2.1 d.2.2.1 d.2.2.2.1 d.2.2.2.2.1 d.2.2.2.2.2.1 d.2.2.2.2.2.2.1 d.2.2.2.2.2.2.2.1 d.2.2.2.2.2.2.2.2.1
abbrev pW(f:a1->a2->a3->a4->a5->a6->a7->a8->a9->a10->r)(d:a1×a2×a3×a4×a5×a6×a7×a8×a9×a10×z):r:=f d.1 d.2.1 d.2.2.1 d.2.2.2.1 d.2.2.2.2.1 d.2.2.2.2.2.1 d.2.2.2.2.2.2.1 d.2.2.2.2.2.2.2.1 d.2.2.2.2.2.2.2.2.1 d.2.2.2.2.2.2.2.2.2.1
abbrev jh(f:a1->a2->a3->a4->a5->a6->a7->a8->a9->a10->a11->r)(d:a1×a2×a3×a4×a5×a6×a7×a8×a9×a10×a11×z):r:=f d.1 d.2.1 d.2.2.1 d.2.2.2.1 d.2.2.2.2.1 d.2.2.2.2.2.1 d.2.2.2.2.2.2.1 d.2.2.2.2.2.2.2.1 d.2.2.2.2.2.2.2.2.1 d.2.2.2.2.2.2.2.2.2.1 d.2.2.2.2.2.2.2.2.2.2.1
abbrev kr(f:a1->a2->a3->a4->a5->a6->a7->a8->a9->a10->a11->a12->r)(d:a1×a2×a3×a4×a5×a6×a7×a8×a9×a10×a11×a12×z):r:=f d.1 d.2.1 d.2.2.1 d.2.2.2.1 d.2.2.2.2.1 d.2.2.2.2.2.1 d.2.2.2.2.2.2.1 d.2.2.2.2.2.2.2.1 d.2.2.2.2.2.2.2.2.1 d.2.2.2.2.2.2.2.2.2.1 d.2.2.2.2.2.2.2.2.2.2.1 d.2.2.2.2.2.2.2.2.2.2.2.1
abbrev iR(f:a1->a2->a3->a4->a5->a6->a7->a8->a9->a10->a11->a12->a13->r)(d:a1×a2×a3×a4×a5×a6×a7×a8×a9×a10×a11×a12×a13×z):r:=f d.1 d.2.1 d.2.2.1 d.2.2.2.1 d.2.2.2.2.1 d.2.2.2.2.2.1 d.2.2.2.2.2.2.1 d.2.2.2.2.2.2.2.1 d.2.2.2.2.2.2.2.2.1 d.2.2.2.2.2.2.2.2.2.1 d.2.2.2.2.2.2.2.2.2.2.1 d.2.2.2.2.2.2.2.2.2.2.2.1 d.2.2.2.2.2.2.2.2.2.2.2.2.1
abbrev ji(f:a1->a2->a3->a4->a5->a6->a7->a8->a9->a10->a11->a12->a13->a14->r)(d:a1×a2×a3×a4×a5×a6×a7×a8×a9×a10×a11×a12×a13×a14×z):r:=f d.1 d.2.1 d.2.2.1 d.2.2.2.1 d.2.2.2.2.1 d.2.2.2.2.2.1 d.2.2.2.2.2.2.1 d.2.2.2.2.2.2.2.1 d.2.2.2.2.2.2.2.2.1 d.2.2.2.2.2.2.2.2.2.1 d.2.2.2.2.2.2.2.2.2.2.1 d.2.2.2.2.2.2.2.2.2.2.2.1 d.2.2.2.2.2.2.2.2.2.2.2.2.1 d.2.2.2.2.2.2.2.2.2.2.2.2.2.1
abbrev mH(f:a1->a2->a3->a4->a5->a6->a7->a8->a9->a10->a11->a12->a13->a14->a15->r)(d:a1×a2×a3×a4×a5×a6×a7×a8×a9×a10×a11×a12×a13×a14×a15×z):r:=f d.1 d.2.1 d.2.2.1 d.2.2.2.1 d.2.2.2.2.1 d.2.2.2.2.2.1 d.2.2.2.2.2.2.1 d.2.2.2.2.2.2.2.1 d.2.2.2.2.2.2.2.2.1 d.2.2.2.2.2.2.2.2.2.1 d.2.2.2.2.2.2.2.2.2.2.1 d.2.2.2.2.2.2.2.2.2.2.2.1 d.2.2.2.2.2.2.2.2.2.2.2.2.1 d.2.2.2.2.2.2.2.2.2.2.2.2.2.1 d.2.2.2.2.2.2.2.2.2.2.2.2.2.2.1
abbrev u16(f:a1->a2->a3->a4->a5->a6->a7->a8->a9->a10->a11->a12->a13->a14->a15->a16->r)(d:a1×a2×a3×a4×a5×a6×a7×a8×a9×a10×a11×a12×a13×a14×a15×a16×z):r:=f d.1 d.2.1 d.2.2.1 d.2.2.2.1 d.2.2.2.2.1 d.2.2.2.2.2.1 d.2.2.2.2.2.2.1 d.2.2.2.2.2.2.2.1 d.2.2.2.2.2.2.2.2.1 d.2.2.2.2.2.2.2.2.2.1 d.2.2.2.2.2.2.2.2.2.2.1 d.2.2.2.2.2.2.2.2.2.2.2.1 d.2.2.2.2.2.2.2.2.2.2.2.2.1 d.2.2.2.2.2.2.2.2.2.2.2.2.2.1 d.2.2.2.2.2.2.2.2.2.2.2.2.2.2.1 d.2.2.2.2.2.2.2.2.2.2.2.2.2.2.2.1
abbrev tk(f:a1->a2->a3->a4->a5->a6->a7->a8->a9->a10->a11->a12->a13->a14->a15->a16->a17->r)(d:a1×a2×a3×a4×a5×a6×a7×a8×a9×a10×a11×a12×a13×a14×a15×a16×a17×z):r:=f d.1 d.2.1 d.2.2.1 d.2.2.2.1 d.2.2.2.2.1 d.2.2.2.2.2.1 d.2.2.2.2.2.2.1 d.2.2.2.2.2.2.2.1 d.2.2.2.2.2.2.2.2.1 d.2.2.2.2.2.2.2.2.2.1 d.2.2.2.2.2.2.2.2.2.2.1 d.2.2.2.2.2.2.2.2.2.2.2.1 d.2.2.2.2.2.2.2.2.2.2.2.2.1 d.2.2.2.2.2.2.2.2.2.2.2.2.2.1 d.2.2.2.2.2.2.2.2.2.2.2.2.2.2.1 d.2.2.2.2.2.2.2.2.2.2.2.2.2.2.2.1 d.2.2.2.2.2.2.2.2.2.2.2.2.2.2.2.2.1
abbrev Ht(f:a1->a2->a3->a4->a5->a6->a7->a8->a9->a10->a11->a12->a13->a14->a15->a16->a17->a18->r)(d:a1×a2×a3×a4×a5×a6×a7×a8×a9×a10×a11×a12×a13×a14×a15×a16×a17×a18×z):r:=f d.1 d.2.1 d.2.2.1 d.2.2.2.1 d.2.2.2.2.1 d.2.2.2.2.2.1 d.2.2.2.2.2.2.1 d.2.2.2.2.2.2.2.1 d.2.2.2.2.2.2.2.2.1 d.2.2.2.2.2.2.2.2.2.1 d.2.2.2.2.2.2.2.2.2.2.1 d.2.2.2.2.2.2.2.2.2.2.2.1 d.2.2.2.2.2.2.2.2.2.2.2.2.1 d.2.2.2.2.2.2.2.2.2.2.2.2.2.1 d.2.2.2.2.2.2.2.2.2.2.2.2.2.2.1 d.2.2.2.2.2.2.2.2.2.2.2.2.2.2.2.1 d.2.2.2.2.2.2.2.2.2.2.2.2.2.2.2.2.1 d.2.2.2.2.2.2.2.2.2.2.2.2.2.2.2.2.2.1
abbrev Hu(f:a1->a2->a3->a4->a5->a6->a7->a8->a9->a10->a11->a12->a13->a14->a15->a16->a17->a18->a19->a20->r)(d:a1×a2×a3×a4×a5×a6×a7×a8×a9×a10×a11×a12×a13×a14×a15×a16×a17×a18×a19×a20×z):r:=f d.1 d.2.1 d.2.2.1 d.2.2.2.1 d.2.2.2.2.1 d.2.2.2.2.2.1 d.2.2.2.2.2.2.1 d.2.2.2.2.2.2.2.1 d.2.2.2.2.2.2.2.2.1 d.2.2.2.2.2.2.2.2.2.1 d.2.2.2.2.2.2.2.2.2.2.1 d.2.2.2.2.2.2.2.2.2.2.2.1 d.2.2.2.2.2.2.2.2.2.2.2.2.1 d.2.2.2.2.2.2.2.2.2.2.2.2.2.1 d.2.2.2.2.2.2.2.2.2.2.2.2.2.2.1 d.2.2.2.2.2.2.2.2.2.2.2.2.2.2.2.1 d.2.2.2.2.2.2.2.2.2.2.2.2.2.2.2.2.1 d.2.2.2.2.2.2.2.2.2.2.2.2.2.2.2.2.2.1 d.2.2.2.2.2.2.2.2.2.2.2.2.2.2.2.2.2.2.1 d.2.2.2.2.2.2.2.2.2.2.2.2.2.2.2.2.2.2.2.1
abbrev pX(f:a1->a2->a3->a4->a5->a6->a7->a8->a9->a10->a11->a12->a13->a14->a15->a16->a17->a18->a19->a20->a21->a22->r)(d:a1×a2×a3×a4×a5×a6×a7×a8×a9×a10×a11×a12×a13×a14×a15×a16×a17×a18×a19×a20×a21×a22×z):r:=f d.1 d.2.1 d.2.2.1 d.2.2.2.1 d.2.2.2.2.1 d.2.2.2.2.2.1 d.2.2.2.2.2.2.1 d.2.2.2.2.2.2.2.1 d.2.2.2.2.2.2.2.2.1 d.2.2.2.2.2.2.2.2.2.1 d.2.2.2.2.2.2.2.2.2.2.1 d.2.2.2.2.2.2.2.2.2.2.2.1 d.2.2.2.2.2.2.2.2.2.2.2.2.1 d.2.2.2.2.2.2.2.2.2.2.2.2.2.1 d.2.2.2.2.2.2.2.2.2.2.2.2.2.2.1 d.2.2.2.2.2.2.2.2.2.2.2.2.2.2.2.1 d.2.2.2.2.2.2.2.2.2.2.2.2.2.2.2.2.1 d.2.2.2.2.2.2.2.2.2.2.2.2.2.2.2.2.2.1 d.2.2.2.2.2.2.2.2.2.2.2.2.2.2.2.2.2.2.1 d.2.2.2.2.2.2.2.2.2.2.2.2.2.2.2.2.2.2.2.1 d.2.2.2.2.2.2.2.2.2.2.2.2.2.2.2.2.2.2.2.2.1 d.2.2.2.2.2.2.2.2.2.2.2.2.2.2.2.2.2.2.2.2.2.1
end
abbrev ap{α:Type}(a b:List α):List α:=a++b
def gt(σ:Sh)(L:List σ.T)(i:Int):σ.T:=List.getD L i.toNat σ.zero
def NN:Nat:=10000000000000000000000000000000000000000
theorem Ez:Tryz.prog.follows .mixedOrders=true:=by kernel_rfl
theorem J0{D O:Type}{B B':D->Option (D⊕O)}(h:∀d,B d=B' d):∀m d,bj B m d=bj B' m d
 |0,d=>rfl|m+1,d=>by
  simp only[bj,h d];split
  .split
   .exact J0 h m _
   .rfl
  .rfl
theorem Vm{D O:Type}{B B':D->Option (D⊕O)}(h:∀d,B d=B' d):∀d o,bj B' NN d=some o->∃m,bj B m d=some o:=fun d o e=>⟨NN,by rw[J0 h];exact e⟩
theorem P1{D O:Type}{F G:D->Option O}(h:∀d,F d=G d):∀d o,G d=some o->F d=some o:=fun d o e=>by rw[h];exact e
theorem Zi0{P:Program}{f:FuncId}{e:Func}{c:Code}{s:ir}(hf:P.funcs[f]?=some e)(hname:(e.name == "runtime.NumGoroutine")=false)(hb:e.body=some c)(hm:P.follows .mixedOrders=true){sh:TypeId->Option Sh}{S:Kn}(hS:kM P S){E:Env}(hE:iS P E){dep:Nat}
  {loops:jk (Out s.outs)}(base n:Nat) (h1:s.lay.nx=base) (h2:e.ntmps=n) (hl:∀x∈dz c,jy P Real base n x (loops (gm x))) (h:∀d o,s.F d=some o->rP P sh S E dep loops e c s.np s.nr s.lay d=some o):ja P f s:=by
 subst h1;subst h2;exact VT hm hS hE hl hf hname hb h
theorem Zd1{P:Program}{f:FuncId}{e:Func}{c:Code}{σs τs:List Sh}(hf:P.funcs[f]?=some e)(hname:(e.name == "runtime.NumGoroutine")=false)(hb:e.body=some c)(hm:P.follows .mixedOrders=true){sh:TypeId->Option Sh}{S:Kn}(hS:kM P S){E:Env}(hE:iS P E){dep:Nat}
  {loops:jk (TL τs)}(n:Nat) (h2:e.ntmps=n) (hl:∀x∈dz c,jy P Real 0 n x (loops (gm x))) {F:TL σs->Option (TL τs)}(h:∀d x,F d=some x->rO P sh S E dep loops e c σs d=some x):Comes P f σs τs F:=by
 subst h2;exact We hm hS hE hl hf hname hb h
theorem WC{P:Program}{f:FuncId}{e:Func}{c:Code}{np nr:Nat}{lay:Lay}{outs:List (Ev.Ex×Lay)}(hf:P.funcs[f]?=some e)(hname:(e.name == "runtime.NumGoroutine")=false)(hb:e.body=some c):ja P f ⟨np,lay,nr,outs,fun _=>none⟩:=⟨⟨e,c,hf,hname,hb⟩,fun d o h=>by cases h⟩
structure Kd(f:FuncId)(σs τs:List Sh) where
 F:TL σs->Option (TL τs)
 ok:Comes Tryz.prog f σs τs F
structure Kb(f:FuncId)(np:Nat)(lay:Lay)(nr:Nat)(outs:List (Ev.Ex×Lay)) where
 F:TL lay.σs->Option (Out outs)
 ok:ja Tryz.prog f ⟨np,lay,nr,outs,F⟩
structure Ld(base n:Nat)(x:Code)(lay:Lay)(outs:List (Ev.Ex×Lay)) where
 L:TL lay.σs->Option (Out outs)
 ok:∀{R:Type},jy Tryz.prog Real base n x (qG (R:=R) base n ⟨lay,[],outs,L⟩)
structure KN where
 l:List (Nat×Spec)
 q:List (Nat×ir)
 h1:∀p∈l,Comes Tryz.prog p.1 p.2.σs p.2.τs p.2.F
 h2:∀p∈q,ja Tryz.prog p.1 p.2
def k0:KN:=⟨[],[],List.forall_mem_nil _,List.forall_mem_nil _⟩
def kD{f:FuncId}{σs τs:List Sh}(k:Kd f σs τs)(s:KN):KN:=⟨(f,⟨σs,τs,k.F⟩)::s.l,s.q,List.forall_mem_cons.2 ⟨k.ok,s.h1⟩,s.h2⟩
def kB{f np:Nat}{lay:Lay}{nr:Nat}{outs:List (Ev.Ex×Lay)}(k:Kb f np lay nr outs)(s:KN):KN:=⟨s.l,(f,⟨np,lay,nr,outs,k.F⟩)::s.q,s.h1,List.forall_mem_cons.2 ⟨k.ok,s.h2⟩⟩
def KN.kn(s:KN):Kn:=V.kn s.l s.q
theorem KN.ok(s:KN):kM Tryz.prog s.kn:=Vh s.h1 s.h2
structure EN where
 l:List (Nat×Func)
 h:∀p∈l,Tryz.prog.funcs[p.1]?=some p.2/\(p.2.name == "runtime.NumGoroutine")=false
def e0:EN:=⟨[],List.forall_mem_nil _⟩
def eC{f:FuncId}{e:Func}(h:Tryz.prog.funcs[f]?=some e)(h2:(e.name == "runtime.NumGoroutine")=false)(s:EN):EN:=⟨(f,e)::s.l,List.forall_mem_cons.2 ⟨⟨h,h2⟩,s.h⟩⟩
abbrev gh:=(R:Type)->jk R
def LN(base n:Nat)(cs:List Code)(tab:gh):Prop:=∀R,∀y∈cs,jy Tryz.prog Real base n y (tab R (gm y))
def ab7:gh:=fun R _ _ _=>none
theorem l0{base n:Nat}:LN base n [] ab7:=fun _=>List.forall_mem_nil _
def other(x:Code):List Code->Bool
 |[]=>true|y::l=>match Nat.beq (gm x) (gm y)with|true=>false|false=>other x l
theorem ON{x:Code}:∀{l:List Code},other x l=true->∀y∈l,Nat.beq (gm x) (gm y)=false
 |[],_,y,h=>by cases h
 |z::l,h,y,hy=>by
  simp only[other]at h;split at h
  .cases h
  rename_i q;rcases List.mem_cons.1 hy with rfl|hy
  .exact q
  .exact ON h y hy
def Ep(x:Code)(g:(R:Type)->St->(Ev.Ex->St->Option R)->Option R)(t:gh):gh:=fun R i st k=>match Nat.beq (gm x) i with|true=>g R st k|false=>t R i st k
theorem lX{base n:Nat}{x:Code}{cs:List Code}{t:gh}{g:(R:Type)->St->(Ev.Ex->St->Option R)->Option R}(hg:∀R,jy Tryz.prog Real base n x (g R))(s:LN base n cs t)(h:other x cs=true):LN base n (x::cs) (Ep x g t):=by
 intro R y hy;unfold Ep;rcases List.mem_cons.1 hy with rfl|hy
 .simp only[Nat.beq_refl];exact hg R
 .simp only[ON h y hy];exact s R y hy
def Py{base n:Nat}{x:Code}{lay:Lay}{outs:List (Ev.Ex×Lay)}(k:Ld base n x lay outs)(t:gh):gh:=Ep x (fun R=>qG base n ⟨lay,[],outs,k.L⟩) t
theorem lC{base n:Nat}{x:Code}{lay:Lay}{outs:List (Ev.Ex×Lay)}{cs:List Code}{t:gh}(k:Ld base n x lay outs)(s:LN base n cs t)(h:other x cs=true):LN base n (x::cs) (Py k t):=lX (fun R=>k.ok) s h
def LB(base n:Nat)(x:Code)(lay:Lay)(outs:List (Ev.Ex×Lay))(B:TL lay.σs->Option (TL lay.σs⊕Out outs)):Prop:=∀{R:Type},jy Tryz.prog Real base n x (qG (R:=R) base n ⟨lay,[],outs,bj B NN⟩)
theorem prL{base n:Nat}{x:Code}{lay:Lay}{outs:List (Ev.Ex×Lay)}(K:KN)(E:EN)(dep:Nat){cs:List Code}{t:gh}(T:LN base n cs t)(hl:dz x=cs){B:TL lay.σs->Option (TL lay.σs⊕Out outs)}
  (h:∀d,rN Tryz.prog (l8 Tryz.prog 20) K.kn (kU E.l) dep base n lay outs (t _) x d=B d):LB base n x lay outs B:=
 fun{R}=>Zby (s:=⟨lay,[],outs,bj B NN⟩) Ez K.ok (wW E.h) (by rw[hl];exact T _) (Vm h)
def bO{base n:Nat}{x:Code}{lay:Lay}{outs:List (Ev.Ex×Lay)}(B:TL lay.σs->Option (TL lay.σs⊕Out outs))(h:LB base n x lay outs B):Ld base n x lay outs:=⟨bj B NN,h⟩
theorem prD{f:FuncId}{e:Func}{σs τs:List Sh}(hf:Tryz.prog.funcs[f]?=some e)(n:Nat)(K:KN)(E:EN)(dep:Nat){t:gh}(T:LN 0 n (dz (bw e)) t)(hn:(e.name == "runtime.NumGoroutine")=false)(hb:e.body=some (bw e))(hm:e.ntmps=n){F:TL σs->Option (TL τs)}
  (h:∀d,rO Tryz.prog (l8 Tryz.prog 20) K.kn (kU E.l) dep (t _) e (bw e) σs d=F d):Comes Tryz.prog f σs τs F:=
 Zd1 hf hn hb Ez K.ok (wW E.h) n hm (T _) (P1 h)
theorem prB{f:FuncId}{e:Func}{np:Nat}{lay:Lay}{nr:Nat}{outs:List (Ev.Ex×Lay)}(hf:Tryz.prog.funcs[f]?=some e)(n:Nat)(K:KN)(E:EN)(dep:Nat){t:gh}(T:LN lay.nx n (dz (bw e)) t)(hn:(e.name == "runtime.NumGoroutine")=false)(hb:e.body=some (bw e))(hm:e.ntmps=n){F:TL lay.σs->Option (Out outs)}
  (h:∀d,rP Tryz.prog (l8 Tryz.prog 20) K.kn (kU E.l) dep (t _) e (bw e) np nr lay d=F d):ja Tryz.prog f ⟨np,lay,nr,outs,F⟩:=
 Zi0 (s:=⟨np,lay,nr,outs,F⟩) hf hn hb Ez K.ok (wW E.h) lay.nx n rfl hm (T _) (P1 h)
theorem lS{base n:Nat}{c:Code}{cs:List Code}{t:gh}(T:LN base n cs t)(hl:dz c=cs):LN base n (dz c) t:=by rw[hl];exact T
theorem pL{base n:Nat}{x:Code}{lay:Lay}{outs:List (Ev.Ex×Lay)}(K:KN)(E:EN)(dep:Nat){cs:List Code}{t:gh}(T:LN base n cs t){B:TL lay.σs->Option (TL lay.σs⊕Out outs)}
  (h:∀d,rN Tryz.prog (l8 Tryz.prog 20) K.kn (kU E.l) dep base n lay outs (t _) x d=B d) (hl:dz x=cs:=by kernel_rfl):LB base n x lay outs B:=prL K E dep T hl h
theorem pD{f:FuncId}{e:Func}{σs τs:List Sh}(hf:Tryz.prog.funcs[f]?=some e)(n:Nat)(K:KN)(E:EN)(dep:Nat){t:gh}(T:LN 0 n (dz (bw e)) t){F:TL σs->Option (TL τs)}
  (h:∀d,rO Tryz.prog (l8 Tryz.prog 20) K.kn (kU E.l) dep (t _) e (bw e) σs d=F d) (hn:(e.name == "runtime.NumGoroutine")=false:=by kernel_rfl) (hb:e.body=some (bw e):=by kernel_rfl) (hm:e.ntmps=n:=by kernel_rfl):Comes Tryz.prog f σs τs F:=prD hf n K E dep T hn hb hm h
theorem pB{f:FuncId}{e:Func}{np:Nat}{lay:Lay}{nr:Nat}{outs:List (Ev.Ex×Lay)}(hf:Tryz.prog.funcs[f]?=some e)(n:Nat)(K:KN)(E:EN)(dep:Nat){t:gh}(T:LN lay.nx n (dz (bw e)) t){F:TL lay.σs->Option (Out outs)}
  (h:∀d,rP Tryz.prog (l8 Tryz.prog 20) K.kn (kU E.l) dep (t _) e (bw e) np nr lay d=F d) (hn:(e.name == "runtime.NumGoroutine")=false:=by kernel_rfl) (hb:e.body=some (bw e):=by kernel_rfl) (hm:e.ntmps=n:=by kernel_rfl):ja Tryz.prog f ⟨np,lay,nr,outs,F⟩:=prB hf n K E dep T hn hb hm h
theorem sS{base n:Nat}{c:Code}{cs:List Code}{t:gh}(T:LN base n cs t)(hl:dz c=cs:=by kernel_rfl):LN base n (dz c) t:=lS T hl
theorem sC{base n:Nat}{x:Code}{lay:Lay}{outs:List (Ev.Ex×Lay)}{cs:List Code}{t:gh}(k:Ld base n x lay outs)(s:LN base n cs t)(h:other x cs=true:=by kernel_rfl):LN base n (x::cs) (Py k t):=lC k s h
def mk0{f:FuncId}{e:Func}{np:Nat}{lay:Lay}{nr:Nat}{outs:List (Ev.Ex×Lay)}(hf:Tryz.prog.funcs[f]?=some e)(hn:(e.name == "runtime.NumGoroutine")=false)(hb:e.body=some (bw e)):Kb f np lay nr outs:=⟨fun _=>none,WC hf hn hb⟩
theorem gz{R:Type}{b:Bool}{x y:Option R}(h:b=true):br b x y=x:=by rw[h];rfl
theorem eK{R:Type}{b:Bool}{x y:Option R}(h:b=false):br b x y=y:=by rw[h];rfl
theorem dv{R:Type}{b:Bool}{x:Option R}(h:b=true):ak b x=x:=by rw[h];rfl
theorem bW{α R:Type}{x:Option α}{a:α}{k:α->Option R}(h:x=some a):az x k=k a:=by rw[h];rfl
theorem ao{R:Type}{b:Bool}{x y z:Option R}(h:b=true)(e:x=z):br b x y=z:=(gz h).trans e
theorem ag{R:Type}{b:Bool}{x y z:Option R}(h:b=false)(e:y=z):br b x y=z:=(eK h).trans e
theorem ai{R:Type}{b:Bool}{x z:Option R}(h:b=true)(e:x=z):ak b x=z:=(dv h).trans e
theorem aE{α R:Type}{x:Option α}{a:α}{k:α->Option R}{z:Option R}(h:x=some a)(e:k a=z):az x k=z:=(bW h).trans e
theorem aP{i:Int}{n:Nat}(h:0<=i/\i<(n:Int)):ah i n=true:=by simp[ah,h.1,h.2]
theorem mX{a n:Nat}(h:(2*n+192)*a<=281474976710656)(h2:n<=1099511627776):room a n=true:=by simp[room,both,h,h2]
theorem Ek{b:Bool}:bD false true b=b:=rfl
theorem Ah{b:Bool}(h:b=false):Bool.not b=true:=by rw[h];rfl
theorem qy{b:Bool}(h:b=true):Bool.not b=false:=by rw[h];rfl
theorem ax{p:Prop}{i:Decidable p}(h:p):@decide p i=true:=bF h
theorem aj{p:Prop}{i:Decidable p}(h:¬p):@decide p i=false:=cw h
theorem bR{x:Int}(h:-9223372036854775808<=x/\x<=9223372036854775807):IntKind.wrap (.i64:IntKind) x=x:=IntWalk.i64_in _ (by omega)
theorem bn{σ:Sh}{L:List σ.T}{i:Nat}{x:σ.T}(h:L[i]?=some x):gt σ L (i:Int)=x:=by unfold gt;rw[Int.toNat_natCast,dP,h];rfl
theorem pG{D O:Type}{B:D->Option (D⊕O)}(f:Nat->D)(n:Nat){o:O}(hs:∀i,i<n->B (f i)=some (.inl (f (i+1))))(he:B (f n)=some (.inr o)):∀N,n<N->bj B N (f 0)=some o:=by
 have main:∀k i,i+k=n->∀N,k<N->bj B N (f i)=some o:=by
  intro k
  induction k with
  |zero=>
   intro i hi N hN;obtain⟨M,rfl⟩:∃M,N=M+1:=⟨N-1,by omega⟩;have:i=n:=by omega
   subst this;simp only[bj,he]
  |succ k ih=>intro i hi N hN;obtain⟨M,rfl⟩:∃M,N=M+1:=⟨N-1,by omega⟩;simp only[bj,hs i (by omega)];exact ih (i+1) (by omega) M (by omega)
 exact fun N hN=>main n 0 (by omega) N hN
theorem dg{D O:Type}{B:D->Option (D⊕O)}(f:Nat->D)(n:Nat){d:D}{o:O}(hd:d=f 0)(hs:∀i,i<n->B (f i)=some (.inl (f (i+1))))(he:B (f n)=some (.inr o)){N:Nat}(hN:n<N):bj B N d=some o:=by subst hd;exact pG f n hs he N hN
theorem n5{α:Type}{a:Nat}{L:List α}{x:α}(h:L.length<=100000000)(ha:a<=1000):room a (List.length (L++(x::[])))=true:=by
 have h3:List.length (L++(x::[]))=L.length+1:=by rw[bA];rfl
 have h2:(2*(L.length+1)+192)*a<=(2*(L.length+1)+192)*1000:=Nat.mul_le_mul_left _ ha;rw[h3];exact mX (by omega) (by omega)
theorem uF{D O:Type}{B:D->Option (D⊕O)}(I:D->Prop)(Q:O->Prop)(μ:D->Nat)(h:∀d,I d->(∃o,B d=some (.inr o)/\Q o)\/∃d',B d=some (.inl d')/\I d'/\μ d'<μ d):∀N d,I d->μ d<N->∃o,bj B N d=some o/\Q o:=by
 intro N
 induction N with
 |zero=>intro d _ h;omega|succ N ih=>
  intro d hI hN;rcases h d hI with⟨o,h1,h2⟩|⟨d',h1,h2,h3⟩
  .exact⟨o,by simp only[bj,h1],h2⟩
  .obtain⟨o,g1,g2⟩:=ih d' h2 (by omega);exact⟨o,by simp only[bj,h1];exact g1,g2⟩
theorem bM{n:Nat}(h:n<=1000000000000000000):n<NN:=by unfold NN;omega
abbrev ar:Sh:=(.agg [(.int .u64),(.int .u64)])
abbrev cV:Sh:=(.agg [(.int .i64),(.sl (.int .i64))])
abbrev cM:Sh:=(.agg [.bool,(.int .i64),(.int .i64)])
abbrev al:Sh:=(.agg [(.int .i64),(.int .i64),(.int .i64)])
abbrev bU:Sh:=(.agg [(.int .i64),(.sl (.int .i64)),(.sl (.int .i64))])
abbrev cj:Sh:=(.agg [(.sl .bool),(.sl (.sl ar))])
abbrev aQ:Sh:=(.agg [.bool,(.int .i64),(.int .i64),(.sl (.int .i64)),(.sl (.int .i64))])
abbrev an:Sh:=(.agg [(.int .i64),(.int .i64),.bool,(.sl cV),(.sl bU)])
abbrev bE:Sh:=(.agg [(.int .i64),(.sl (.int .i64)),(.sl al),(.sl (.int .i64)),(.sl (.int .i64)),(.sl (.int .i64)),(.sl an),(.sl al)])
abbrev gR:List LA:=[.int .i64,.fz (.int .i64),.fz al,.fz (.int .i64),.fz (.int .i64),.fz (.int .i64),.fz an,.fz al]
open Go.ChangeShapes Go.WideShapes Go.ChangeAt Go.Deep
def Bn:Sh->TypeDesc->Bool
 |.bool,d=>match d with|.bool=>true|_=>false
 |.str,d=>match d with|.string=>true|_=>false
 |.int k,d=>match d with|.int k'=>Nat.beq (Ev.IntKind.num k) (Ev.IntKind.num k')|_=>false
 |_,_=>false
def wC(P:Program)(f:TypeId->Sh->Bool):List Field->List Sh->Nat->Bool
 |[],l,_=>match l with|[]=>true|_=>false
 |x::fs,l,o=>match l with|[]=>false|s::l=>match Nat.beq x.offset o,Nat.beq (P.cellsOf x.type) s.size,f x.type s with|true,true,true=>wC P f fs l (o+s.size)|_,_,_=>false
def oT(P:Program):Nat->TypeId->Sh->Bool
 |0,_,_=>false|k+1,t,σ=>match P.underlying t with
  |none=>false|some d=>match d with
   |.slice e=>match σ with
    |.sl s=>match Nat.blt 0 s.size,Nat.beq (P.cellsOf e) s.size with|true,true=>oT P k e s|_,_=>false
    |_=>false
   |.struct fs=>match σ with
    |.agg l=>match Nat.beq (P.cellsOf t) (mU l)with|true=>wC P (oT P k) fs.toList l 0|false=>false
    |_=>false
   |d=>Bn σ d
def iy{α:Type}(Q:α->Prop)(L:List α):Prop:=∀x∈L,Q x
mutual
def gH:(σ:Sh)->σ.T->Prop
 |.int k,n=>(Lit.int k n).wf=true|.bool,_=>True|.str,s=>ByteArray.size s<=maxLen|.agg l,d=>Ef l d|.sl s,L=>List.length L<=maxLen/\iy (gH s) L
termination_by structural x=>x
def Ef:(l:List Sh)->TL l->Prop
 |[],_=>True|s::l,d=>gH s d.1/\Ef l d.2
termination_by structural x=>x
end
section
variable{H:Type}{enc:TypeId×Value->H}{P:Program}{W:World}
theorem Rc{α:Type}{R:α->List Value->Prop}:∀(l:List (α×List Value)),(∀p∈l,R p.1 p.2)->bc R (l.map (·.1)) (l.flatMap (·.2))
 |[],_=>rfl|p::l,h=>⟨p.2,l.flatMap (·.2),by rw[List.flatMap_cons],h p (by simp),Rc l fun q hq=>h q (by simp[hq])⟩
theorem KT{α:Type}{C:Nat}(hC:0<C):∀(l:List (α×List Value)),(∀p∈l,p.2.length=C)->∀k,(l.flatMap (·.2))[k]?=l[k / C]?.bind fun x=>x.2[k % C]?
 |[],_,k=>by simp|p::l,h,k=>by
  have hp:=h p (by simp);rw[List.flatMap_cons];rcases Nat.lt_or_ge k C with q|q
  .rw[List.getElem?_append_left (by omega),Nat.div_eq_of_lt q,Nat.mod_eq_of_lt q];rfl
  .rw[List.getElem?_append_right (by omega),KT hC l (fun q hq=>h q (by simp[hq])),hp];have e1:k / C=(k-C) / C+1:=by rw[Nat.div_eq_sub_div hC q]
   have e2:(k-C) % C=k % C:=by rw[<-Nat.mod_eq_sub_mod q]
   rw[e1,e2];simp
theorem XI{a:Addr}{u:Value}(h:W.cell? (a.add 0)=some u):a.spot=none:=by
 have e:a.add 0=a:=by unfold Addr.add;simp
 rw[e]at h;unfold World.cell? at h;split at h
 .split at h
  .cases h
  .rename_i hs;cases q:a.spot with|none=>rfl|some x=>exact absurd (by rw[q];rfl) hs
 .cases h
theorem Km{b o j:Nat}{u:Value}(h:W.cell? ((⟨b,o,none⟩:Addr).add j)=some u):∃c ty fr,W.heap[b]?=some (.cells c ty fr)/\c[o+j]?=some u:=by
 rw[Ev.cX]at h;unfold World.cell? at h;split at h
 .rename_i c ty fr hc;split at h
  .cases h
  .exact⟨c,ty,fr,hc,h⟩
 .cases h
theorem Rj{f:TypeId->Sh->Bool}{n:Nat}{cs:List Value}(hf:∀t s,f t s=true->∀n cs y,DataW.trod enc P W 0 (fun _=>true) true n t cs=some y->∃d,Cs W (fun _=>False) s d cs/\gH s d) :
  ∀(fs:List Field) (l:List Sh) (o:Nat),wC P f fs l o=true->o+mU l=cs.length->(∀(i:Nat) (g:Field),fs[i]?=some g->∃y,DataW.trod enc P W 0 (fun _=>true) true n g.type ((cs.drop g.offset).take (P.cellsOf g.type))=some y) ->
   ∃d,eD W (fun _=>False) l d (cs.drop o)/\Ef l d
 |[],l,o,h,hl,_=>by cases l with|nil=>exact⟨(),by show cs.drop o=[];rw[List.drop_eq_nil_of_le];simp only[mU]at hl;omega,trivial⟩|cons s l=>cases h
 |x::fs,l,o,h,hl,hx=>by
  cases l with
  |nil=>cases h
  |cons s l=>
   simp only[wC]at h;split at h<;>try cases h
   rename_i q1 q2 q3;have q1:=aA q1;have q2:=aA q2;obtain⟨y,hy⟩:=hx 0 x rfl;obtain⟨d,h1,h2⟩:=hf _ _ q3 _ _ _ hy;rw[mU]at hl;obtain⟨e,h3,h4⟩:=Rj hf fs l (o+s.size) h (by omega) (fun i g hg=>hx (i+1) g (by simpa using hg));refine⟨(d,e),⟨(cs.drop o).take s.size,cs.drop (o+s.size),?_,?_,h3⟩,h2,h4⟩
   .rw[<-List.drop_drop,List.take_append_drop]
   .rw[q1,q2]at h1;exact h1
theorem GU:∀(k:Nat) (t:TypeId) (σ:Sh),oT P k t σ=true->∀n cs y,DataW.trod enc P W 0 (fun _=>true) true n t cs=some y->∃d,Cs W (fun _=>False) σ d cs/\gH σ d
 |0,_,_,h=>by cases h
 |k+1,t,σ,h=>by
  intro n cs y hy;simp only[oT]at h;split at h
  .cases h
  rename_i d hu;split at h
  .rename_i e;split at h<;>try cases h
   rename_i s;split at h<;>try cases h
   rename_i q1 q2;rw[Nat.blt_eq]at q1;have q2:=aA q2;rcases open_slice hu hy with⟨rfl,_⟩|⟨a,len,cap,m,n',D,Pl,rfl,_,hl,hm,hmm,_,hi⟩
   .exact⟨[],⟨none,0,0,rfl,rfl,Nat.le_refl _,fun q=>absurd rfl q⟩,Nat.zero_le _,fun x hx=>by cases hx⟩
   have hmm':m=cap:=by simpa using hmm
   subst hmm';obtain⟨l,hll,hp⟩:=Kt (α:=s.T×List Value) (p:=fun i x=>Cs W (fun _=>False) s x.1 x.2/\gH s x.1/\∀j,j<s.size->W.cell? (a.add (i*s.size+j))=x.2[j]?) len (fun i hi0=>by obtain⟨cs',h1,h2⟩:=hi i (by omega);obtain⟨x,hx1,hx2⟩:=GU k e s h _ _ _ h2;refine⟨(x,cs'),hx1,hx2,fun j hj=>?_⟩;rw[q2]at h1;obtain⟨_,_,hat⟩:=World.cells?_some h1;rw[<-Zuk,hat j hj]);have hlen:∀p∈l,p.2.length=s.size:=by intro p hpm;obtain⟨i,hi⟩:=List.getElem?_of_mem hpm;exact Cs.length (hp i p hi).1
   have hcell:∀j u,(l.flatMap (·.2))[j]?=some u->W.cell? (a.add j)=some u:=by
    intro j u hu;rw[KT q1 l hlen]at hu;rcases hx:l[j / s.size]? with _|x
    .rw[hx]at hu;cases hu
    .rw[hx]at hu;have hu:x.2[j % s.size]?=some u:=hu;have:=(hp _ x hx).2.2 (j % s.size) (Nat.mod_lt _ q1);rw[Nat.div_add_mod' j s.size]at this;rw[this,hu]
   refine⟨l.map (·.1),⟨some a,len,m,rfl,by simp[hll],hl,fun hne=>?_⟩,by simpa[hll]using Nat.le_trans hl hm,?_⟩
   .have hflat:bc (Cs W (fun _=>False) s) (l.map (·.1)) (l.flatMap (·.2)):=Rc l (fun p hpm=>by obtain⟨i,hi⟩:=List.getElem?_of_mem hpm;exact(hp i p hi).1);have hfl:(l.flatMap (·.2)).length=l.length*s.size:=by have:=bc.length (fun x c=>Cs.length) hflat;simpa using this
    have hl0:0<l.length:=by cases l with|nil=>exact absurd rfl hne|cons _ _=>simp
    have h0:0<(l.flatMap (·.2)).length:=by rw[hfl];exact Nat.mul_pos hl0 q1
    have hsp:=XI (hcell 0 _ (bu h0));obtain⟨b,o,sp⟩:=a;have hsp:sp=none:=hsp;subst hsp;obtain⟨c,ty,fr,hc,_⟩:=Km (hcell 0 _ (bu h0));refine⟨b,o,l.flatMap (·.2),rfl,fun h=>h,hflat,c,ty,fr,hc,?_⟩;intro j u hu;obtain⟨c',ty',fr',hc',hj⟩:=Km (hcell j u hu);rw[hc]at hc';cases hc';exact hj
   .intro x hx;obtain⟨p,hpm,rfl⟩:=List.mem_map.1 hx;obtain⟨i,hi⟩:=List.getElem?_of_mem hpm;exact(hp i p hi).2.1
  .rename_i fs;split at h<;>try cases h
   rename_i l;split at h<;>try cases h
   rename_i q1;have q1:=aA q1;obtain⟨xs,n',rfl,_,hlen,hxl,hx⟩:=DataW.trod_struct hu hy;obtain⟨d,h1,h2⟩:=Rj (n:=n') (cs:=cs) (GU k) fs.toList l 0 h (by rw[hlen,q1];omega) (fun i g hg=>by
    have hg':fs[i]?=some g:=by simpa using hg
    have hi:i<fs.size:=(Array.getElem?_eq_some_iff.1 hg').1;have:=hx i g hg';rw[bu (by omega)]at this;exact⟨_,this⟩)
   rw[List.drop_zero]at h1;exact⟨d,h1,h2⟩
  .unfold Bn at h;split at h
   .split at h<;>try cases h
    obtain⟨b,rfl,_⟩:=DataW.trod_bool hu hy;exact⟨b,rfl,trivial⟩
   .split at h<;>try cases h
    obtain⟨s,rfl,_,hs⟩:=DataW.trod_string hu hy;exact⟨s,rfl,hs⟩
   .split at h<;>try cases h
    rename_i k₁ k₂;have:=Ev.IntKind.px (aA h);subst this;obtain⟨m,rfl,_,hw⟩:=DataW.trod_int hu hy;exact⟨m,rfl,hw⟩
   .cases h
theorem qe{k:Nat}{t:TypeId}{σ:Sh}{v:Value}{d:DataW H}{ps:List MemPlace}{r:Reach}{b0:Nat}(h:oT P k t σ=true)(hv:Value.okWide P W r b0 t v)(hd:DataW.Trod enc P W 0 (fun _=>true) true t v d ps) :
  ∃x,fG W (fun _=>False) σ x v/\gH σ x:=by
 obtain⟨fuel,hf⟩:=hd;obtain⟨x,h1,h2⟩:=GU k t σ h _ _ _ hf;refine⟨x,⟨h1,?_⟩,h2⟩;cases k with
 |zero=>cases h
 |succ k=>
  simp only[oT]at h;split at h
  .cases h
  rename_i d' hu;split at h
  .split at h<;>try cases h
   obtain⟨a,l,c,rfl⟩:=okWide_slice hu hv;rfl
  .split at h<;>try cases h
   obtain⟨cs,rfl,_⟩:=okWide_struct hu hv;rfl
  .unfold Bn at h;split at h
   .split at h<;>try cases h
    obtain⟨b,rfl⟩:=okWide_bool hu hv;rfl
   .split at h<;>try cases h
    obtain⟨b,rfl⟩:=okWide_string hu hv;rfl
   .split at h<;>try cases h
    obtain⟨b,rfl⟩:=okWide_int hu hv;rfl
   .cases h
