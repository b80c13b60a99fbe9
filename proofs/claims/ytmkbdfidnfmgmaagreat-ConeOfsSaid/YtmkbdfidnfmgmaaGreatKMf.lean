import Derived.Test.YtmkbdfidnfmgmaaGreatKMe
import Derived.Test.YtmkbdfidnfmgmaaGreatKBs
set_option linter.all false
section
namespace Go.Proofs.YtmkbdfidnfmgmaaGreat.V
open Go Go.RowKit
open Go.Proofs.YtmkbdfidnfmgmaaGreat.Ev (Tr Tr.d6 nth fc Ex)
variable{j:Nat}{X:Cx}{o:cp}{tr:Tr cp}
theorem anO(H:bn X){f b c:Nat}{vs':List AV}{ty:TypeId}{cs:mt}(hj:X.h.tr.get j=some o)(ho:∀τ L ty,o≠.arr τ L ty)(hs:X.s j=some (.at b c))(hw:X.w.heap[b]?=some (.cells (List.toArray cs) ty (0,0)))
  (hv:cE X vs' cs) (ht:Tr.set f X.h.tr j (some (.cells vs' ty))=some tr):bn ⟨X.s,⟨tr,X.h.next⟩,X.w,X.A⟩/\bL X ⟨X.s,⟨tr,X.h.next⟩,X.w,X.A⟩:=by
 have hg:=Tr.d6 _ _ _ _ _ ht;have back:∀i o,tr.get i=some o->∃o',X.h.tr.get i=some o'/\(∀n,o.row=some n->o'.row=some n):=by
  intro i o h;rw[hg i]at h;by_cases q:i=j
  .rw[IO q]at h;cases h;subst q;exact⟨_,hj,fun n r=>by cases r⟩
  grind
 have dY:∀b,Cx.dY ⟨X.s,⟨tr,X.h.next⟩,X.w,X.A⟩ b->X.dY b:=by rintro b ⟨i,o,c,h1,h2⟩;obtain⟨o',h3,_⟩:=back i o h1;exact⟨i,o',c,h3,h2⟩
 have E:bL X ⟨X.s,⟨tr,X.h.next⟩,X.w,X.A⟩:=by
  refine⟨rfl,rfl,rfl,ro _,fun _ _ h=>h,fun _ _ _ h=>h,ro _,fun _ _ _=>rfl,fun b h=>.inl (dY b h),?_,?_,rfl⟩
  .intro i n _ h;obtain⟨o,h,hr⟩:=oC h;obtain⟨o',h1,h2⟩:=back i _ h;show rowOf X.h.tr i=some n;rw[mr h1];exact h2 n hr
  grind
 have RE:=E.fC H;refine⟨⟨?_,?_,?_,H.eh,H.alt,?_⟩,E⟩
 .intro i o l h1 h2
  replace h1:tr.get i=some o:=h1
  rw[hg i]at h1;by_cases q:i=j
  .rw[IO q]at h1;cases h1;subst q
   replace h2:X.s i=some l:=h2
   rw[hs]at h2;cases h2;exact⟨b,c,cs,rfl,hw,hv.ext RE⟩
  .rw[Fr q]at h1;exact(H.obj i o l h1 h2).ext RE (fun _ _=>rfl)
 .intro i k o o' c c' b h1 h2 h3 h4 h5 h6;obtain⟨p,g1,_⟩:=back i o h1;obtain⟨q,g2,_⟩:=back k o' h2;exact H.inj i k p q c c' b g1 g2 h3 h4 h5 h6
 .intro i o h1;obtain⟨p,g1,_⟩:=back i o h1;exact H.lt i p g1
 .intro i o c b h1 h2;obtain⟨p,g1,_⟩:=back i o h1;exact H.loc i p c b g1 h2
variable{l:Loc}
theorem aoy(H:bn X){f:Nat}{o':cp}(hj:X.h.tr.get j=some o)(hrow:∀n,o'.row=some n->o.row=some n)(hs:X.s j=some l)(ho:jd X l o')(ht:Tr.set f X.h.tr j (some o')=some tr) :
  bn ⟨X.s,⟨tr,X.h.next⟩,X.w,X.A⟩/\bL X ⟨X.s,⟨tr,X.h.next⟩,X.w,X.A⟩:=by
 have hg:=Tr.d6 _ _ _ _ _ ht;have back:∀i avN,tr.get i=some avN->∃avO,X.h.tr.get i=some avO/\(∀n,avN.row=some n->avO.row=some n):=by grind
 have E:bL X ⟨X.s,⟨tr,X.h.next⟩,X.w,X.A⟩:=by
  refine⟨rfl,rfl,rfl,ro _,fun _ _ h=>h,fun _ _ _ h=>h,ro _,fun _ _ _=>rfl,?_,?_,?_,rfl⟩
  .rintro b ⟨i,avN,c,h1,h2⟩;obtain⟨avO,h3,_⟩:=back i avN h1;exact .inl ⟨i,avO,c,h3,h2⟩
  .intro i n _ h;obtain⟨avN,h,hr⟩:=oC h;obtain⟨avO,h1,h2⟩:=back i _ h;show rowOf X.h.tr i=some n;rw[mr h1];exact h2 n hr
  grind
 have RE:=E.fC H;refine⟨⟨?_,?_,?_,H.eh,H.alt,?_⟩,E⟩
 .intro i avN l₁ h1 h2
  replace h1:tr.get i=some avN:=h1
  rw[hg i]at h1;by_cases q:i=j
  .rw[IO q]at h1;cases h1;subst q
   replace h2:X.s i=some l₁:=h2
   rw[hs]at h2;cases h2;exact ho.ext RE (fun _ _=>rfl)
  .rw[Fr q]at h1;exact(H.obj i avN l₁ h1 h2).ext RE (fun _ _=>rfl)
 .intro i k avN avO c c' b h1 h2 h3 h4 h5 h6;obtain⟨p,g1,_⟩:=back i avN h1;obtain⟨q,g2,_⟩:=back k avO h2;exact H.inj i k p q c c' b g1 g2 h3 h4 h5 h6
 .intro i avN h1;obtain⟨p,g1,_⟩:=back i avN h1;exact H.lt i p g1
 .intro i avN c b h1 h2;obtain⟨p,g1,_⟩:=back i avN h1;exact H.loc i p c b g1 h2
def RQ(h:Hp)(b:Nat):Option Hp:=match h.tr.get b with
 |some (.fg τ i L vs ty)=>match fN true h τ vs with
  |some (x,l,h₁)=>match l,h₁.tr.get b with
   |[],some _=>match Tr.set FT h₁.tr b (some (.arr τ (L.set i x) ty))with|some tr=>some ⟨tr,h₁.next⟩|none=>none
   |_,_=>none
  |none=>none
 |_=>some h
theorem ar2(H:bn X){b:Nat}{h':Hp}(e:RQ X.h b=some h')(hs:X.s b=some l):bn ⟨X.s,h',X.w,X.A⟩/\bL X ⟨X.s,h',X.w,X.A⟩:=by
 unfold RQ at e;split at e
 .rename_i τ i L vs ty hb;split at e<;>try cases e
  rename_i x r h₁ hf;split at e<;>try cases e
  rename_i ob hob;split at e<;>cases e;rename_i tr ht;obtain⟨auU,c,pre,mid,post,tail,rfl,q1,q2,q3,q4,q5,q6,q7,q8⟩:=H.obj b _ _ hb hs;obtain⟨F,auV,avQ,k1,k2,k3⟩:=rY H hf q3;have:avQ=[]:=k3;subst this;rw[di]at k1;subst k1;have hob':h₁.tr.get b=some (.fg τ i L vs ty):=by
   have:=F.sub b _ hob
   grind
  have K:=F.E.keeps;have ho:jd ⟨X.s,h₁,X.w,X.A⟩ (.at auU c) (.arr τ (L.set i x) ty):=by refine⟨pre++(mid++post),tail,by grind,?_,by grind,by grind⟩;rw[atl,IO q5];refine(q2.mono (fun x d q=>q.bU K)).append ?_;exact⟨mid,post,rfl,k2,q4.mono (fun x d q=>q.bU K)⟩
  obtain⟨g1,g2⟩:=aoy (X:=⟨X.s,h₁,X.w,X.A⟩) F.H hob' (fun n q=>by simpa[cp.row]using q) hs ho ht;exact⟨g1,F.E.trans g2⟩
 .cases e;exact⟨H,bL.refl X⟩
def pI:List (Nat×LO)->Nat->Option LO
 |[],_=>none|p::l,i=>match Nat.beq p.1 i with|true=>some p.2|false=>pI l i
def OV(lh:List (Nat×LO))(h:Hp)(i:Nat):AV->Option (AV×Hp)
 |.aR=>match pI lh i with
  |some o=>match o with
   |.arr τ ty=>match Tr.set FT h.tr h.next (some (.arr τ [] ty))with|some t=>some (.hd h.next τ,⟨t,h.next+1⟩)|none=>none
   |_=>none
  |none=>none
 |.hd b τ=>match pI lh i with
  |some o=>match o with
   |.arr _ _=>match RQ h b with|some h'=>some (.hd b τ,h')|none=>none
   |_=>some (.hd b τ,h)
  |none=>some (.hd b τ,h)
 |.vw b τ off n=>match off,pI lh i,h.tr.get b with
  |0,some (.arr _ _),some (.arr τ' L ty)=>match Tr.set FT h.tr b none with
   |some awa=>match Tr.set FT awa h.next (some (.arr τ' (L.take n) ty))with|some t=>some (.hd h.next τ',⟨t,h.next+1⟩)|none=>none
   |none=>none
  |_,_,_=>some (.vw b τ off n,h)
 |v=>some (v,h)
def PO(lh:List (Nat×LO))(h:Hp)(i:Nat):AV->Option (AV×Hp)
 |.aR=>match pI lh i with
  |some o=>match o with
   |.jJ ty=>match Tr.set FT h.tr h.next (some (.jJ [] ty))with|some t=>some (.ik h.next,⟨t,h.next+1⟩)|none=>none
   |_=>none
  |none=>none
 |v=>some (v,h)
def OU(h:Hp)(τ:Sh):AV->Option (AV×Hp)
 |.hd b τ'=>match fN true h (.sl τ) [.hd b τ']with
  |some (L,l,h')=>match l with|[]=>some (.fz τ L,h')|_=>none
  |none=>none
 |.vw b τ' o n=>match fN true h (.sl τ) [.vw b τ' o n]with
  |some (L,l,h')=>match l with|[]=>some (.fz τ L,h')|_=>none
  |none=>Hy h (.vw b τ' o n)
 |v=>some (v,h)
mutual
def iM(lh:List (Nat×LO))(h:Hp):LA->AV->Option (AV×Hp)
 |.hd i τ,v=>OV lh h i v|.ik i,v=>PO lh h i v|.fz τ,v=>OU h τ v|.func f x c,v=>match v with
  |.func g x' c'=>match qb lh h x x' with
   |some (x',h)=>match qb lh h c c' with|some (c',h)=>some (.func g x' c',h)|none=>none
   |none=>none
  |v=>some (v,h)
 |.agg l,v=>match v with
  |.agg l'=>match qb lh h l l' with|some (l',h)=>some (.agg l',h)|none=>none
  |v=>some (v,h)
 |.dW l,v=>match v with
  |.dW l'=>match qb lh h l l' with|some (l',h)=>some (.dW l',h)|none=>none
  |v=>some (v,h)
 |_,v=>some (v,h)
termination_by structural x=>x
def qb(lh:List (Nat×LO))(h:Hp):List LA->List AV->Option (List AV×Hp)
 |[],vs=>some (vs,h)|a::l,vs=>match vs with
  |[]=>some ([],h)|v::vs=>match iM lh h a v with
   |some (v,h)=>match qb lh h l vs with|some (vs,h)=>some (v::vs,h)|none=>none
   |none=>none
termination_by structural x=>x
end
def eT(X:Cx)(h':Hp)(X':Cx):Prop:=X'.w=X.w/\X'.h=h'/\bn X'/\bL X X'
theorem eT.refl{X:Cx}(H:bn X):eT X X.h X:=⟨rfl,rfl,H,bL.refl X⟩
theorem am8{X:Cx}(H:bn X){b n:Nat}{τ:Sh}{L:List τ.T}{ty:TypeId}{l:Loc}{awa t:Tr cp}(hb:X.h.tr.get b=some (.arr τ L ty))(hs:X.s b=some l)(hn:n<=L.length)(hk:Tr.set FT X.h.tr b none=some awa)
  (ht:Tr.set FT awa X.h.next (some (.arr τ (L.take n) ty))=some t):∃X',eT X ⟨t,X.h.next+1⟩ X'/\Rel X' (.hd X.h.next τ) (l.slice n):=by
 have hlen:(L.take n).length=n:=by grind
 cases l with
 |nil=>
  have hL:L=[]:=H.obj b _ _ hb hs;subst hL;have hn0:n=0:=by grind
  subst hn0;obtain⟨aur,auC⟩:=H.kill hs hk;have G:=Grown.none (X:=X) (X₁:=⟨X.s,⟨awa,X.h.next⟩,X.w,X.A⟩) aur auC rfl ht;exact⟨⟨dw X.s X.h.next .nil,⟨t,X.h.next+1⟩,X.w,X.A⟩,⟨rfl,rfl,G.H,G.E⟩,G.R⟩
 |«at» x c=>
  obtain⟨cs,tail,h1,h2,h3,h4⟩:=H.obj b _ _ hb hs;obtain⟨auV,auW,e,k1⟩:∃auV auW,auV++auW=cs/\cF (Cs X.w X.out τ) (L.take n) auV:=⟨_,_,GT (n*τ.size) cs,cF.take (fun x c=>Cs.length) n h2⟩;subst e;have G:=Grown.fit (tail:=auW++tail) H hb hs hk ht k1 (by grind) auc;have ew:Ev.dp X.w x (.cells (auV++(auW++tail)).toArray ty (0,0))=X.w:=by
   unfold Ev.dp;have:X.w.heap.setIfInBounds x (.cells (auV++(auW++tail)).toArray ty (0,0))=X.w.heap:=by grind
   rw[this]
  rw[ew]at G;refine⟨⟨dw X.s X.h.next (.at x c),⟨t,X.h.next+1⟩,X.w,X.A⟩,⟨rfl,rfl,G.H,G.E⟩,?_⟩;have:=G.R;rw[hlen]at this;exact this
 |gW x c m=>exact(H.obj b _ _ hb hs).elim
theorem ap2{lh:List (Nat×LO)}{i:Nat}{v v':AV}{h':Hp}{X:Cx}(H:bn X)(e:OV lh X.h i v=some (v',h')){V:Value}(R:Rel X v V):∃X',eT X h' X'/\Rel X' v' V:=by
 unfold OV at e;split at e
 .split at e<;>try cases e
  split at e<;>try cases e
  rename_i τ ty;split at e<;>cases e;rename_i t ht;obtain⟨E,H'⟩:=bn.void H ht;have g0:=Tr.d6 _ _ _ _ _ ht;refine⟨⟨dw X.s X.h.next .nil,⟨t,X.h.next+1⟩,X.w,X.A⟩,⟨rfl,rfl,H',E⟩,.nil,iu _ _ _,?_,?_⟩
  .rw[show V=_ from R];rfl
  .intro n' q
   replace q:rowOf t X.h.next=some n':=q
   rw[mr (by rw[g0,IO rfl])]at q;cases q;rw[show V=_ from R];rfl
 .rename_i b τ;split at e
  .split at e
   .split at e<;>cases e;rename_i hc;obtain⟨l,hs,hR⟩:=R;obtain⟨H',E⟩:=ar2 H hc hs;exact⟨⟨X.s,h',X.w,X.A⟩,⟨rfl,rfl,H',E⟩,Rel.ext (E.fC H) (v:=.hd b τ) ⟨l,hs,hR⟩⟩
   .cases e;exact⟨X,eT.refl H,R⟩
  .cases e;exact⟨X,eT.refl H,R⟩
 .split at e
  .rename_i hb;split at e<;>try cases e
   rename_i awa hk;split at e<;>cases e;rename_i t ht;obtain⟨l,a,c,hs,_,_,_,h5,h6⟩:=R;rw[h5 rfl];have hle:=h6 _ (jX hb);exact am8 H hb hs auc hk ht
  .cases e;exact⟨X,eT.refl H,R⟩
 .cases e;exact⟨X,eT.refl H,R⟩
theorem apx{lh:List (Nat×LO)}{i:Nat}{v v':AV}{h':Hp}{X:Cx}(H:bn X)(e:PO lh X.h i v=some (v',h')){V:Value}(R:Rel X v V):∃X',eT X h' X'/\Rel X' v' V:=by
 unfold PO at e;split at e
 .split at e<;>try cases e
  split at e<;>try cases e
  rename_i ty;split at e<;>cases e;rename_i t ht;obtain⟨E,H'⟩:=bn.ace H ht (fun _=>rfl);refine⟨⟨dw X.s X.h.next .nil,⟨t,X.h.next+1⟩,X.w,X.A⟩,⟨rfl,rfl,H',E⟩,.nil,iu _ _ _,?_⟩;rw[show V=_ from R];rfl
 .cases e;exact⟨X,eT.refl H,R⟩
theorem ap3{τ:Sh}{v v':AV}{h':Hp}{X:Cx}(H:bn X)(e:OU X.h τ v=some (v',h')){V:Value}(R:Rel X v V):∃X',eT X h' X'/\Rel X' v' V:=by
 have main:∀u,Rel X u V->(match fN true X.h (.sl τ) [u]with
  |some (L,l,h')=>match l with|[]=>some (AV.fz τ L,h')|_=>none
  |none=>none)=some (v',h')->∃X',eT X h' X'/\Rel X' v' V:=by
  intro u R e;split at e<;>try cases e
  rename_i L l h₁ hf;split at e<;>cases e;obtain⟨F,c,r,he,h1,h2⟩:=rY H hf (show cE X [u] [V]from⟨V,[],rfl,R,rfl⟩);have:r=[]:=h2;subst this;rw[di]at he;subst he;exact⟨⟨X.s,h',X.w,X.A⟩,⟨rfl,rfl,F.H,F.E⟩,h1⟩
 unfold OU at e;split at e
 .exact main _ R e
 .split at e
  .rename_i hf
   grind
  .obtain⟨F,Q⟩:=ac9 H e R;exact⟨⟨X.s,h',X.w,X.A⟩,⟨rfl,rfl,F.H,F.E⟩,Q⟩
 .cases e;exact⟨X,eT.refl H,R⟩
theorem eT.trans{X X' X'':Cx}{h' h'':Hp}(a:eT X h' X')(b:eT X' h'' X''):eT X h'' X'':=⟨b.1.trans a.1,b.2.1,b.2.2.1,a.2.2.2.trans b.2.2.2⟩
mutual
theorem adv{lh:List (Nat×LO)}:∀(a:LA) {v v':AV}{h':Hp}{X:Cx},bn X->iM lh X.h a v=some (v',h')->∀{V:Value},Rel X v V->∃X',eT X h' X'/\Rel X' v' V
 |.hd i τ,v,v',h',X,H,e,V,R=>ap2 H (by simpa only[iM]using e) R|.ik i,v,v',h',X,H,e,V,R=>apx H (by simpa only[iM]using e) R|.fz τ,v,v',h',X,H,e,V,R=>ap3 H (by simpa only[iM]using e) R|.func f x c,v,v',h',X,H,e,V,R=>by
  simp only[iM]at e;split at e
  .rename_i g x' c';split at e<;>try cases e
   rename_i awn h₁ ava;split at e<;>cases e;rename_i auW avb;obtain⟨xs,cs,rfl,R1,R2⟩:=R;obtain⟨X₁,auy,auF⟩:=vK x H ava R1;have hX:=auy.2.1;rw[<-hX]at avb;obtain⟨auQ,auz,auG⟩:=vK c auy.2.2.1 avb (R2.ext (auy.2.2.2.fC H));exact⟨auQ,auy.trans auz,xs,cs,rfl,auF.ext (auz.2.2.2.fC auy.2.2.1),auG⟩
  .cases e;exact⟨X,eT.refl H,R⟩
 |.agg l,v,v',h',X,H,e,V,R=>by
  simp only[iM]at e;split at e
  .rename_i l';split at e<;>cases e;rename_i avG ava;obtain⟨cs,rfl,R1⟩:=R;obtain⟨X₁,auy,auF⟩:=vK l H ava R1;exact⟨X₁,auy,cs,rfl,auF⟩
  .cases e;exact⟨X,eT.refl H,R⟩
 |.dW l,v,v',h',X,H,e,V,R=>by
  simp only[iM]at e;split at e
  .rename_i l';split at e<;>cases e;rename_i avG ava;obtain⟨cs,rfl,R1⟩:=R;obtain⟨X₁,auy,auF⟩:=vK l H ava R1;exact⟨X₁,auy,cs,rfl,auF⟩
  .cases e;exact⟨X,eT.refl H,R⟩
 |.int k,v,v',h',X,H,e,V,R=>by simp only[iM]at e;cases e;exact⟨X,eT.refl H,R⟩
 |.bool,v,v',h',X,H,e,V,R=>by simp only[iM]at e;cases e;exact⟨X,eT.refl H,R⟩
 |.str,v,v',h',X,H,e,V,R=>by simp only[iM]at e;cases e;exact⟨X,eT.refl H,R⟩
 |.fi,v,v',h',X,H,e,V,R=>by simp only[iM]at e;cases e;exact⟨X,eT.refl H,R⟩
 |.aR,v,v',h',X,H,e,V,R=>by simp only[iM]at e;cases e;exact⟨X,eT.refl H,R⟩
 |.gj,v,v',h',X,H,e,V,R=>by simp only[iM]at e;cases e;exact⟨X,eT.refl H,R⟩
 |.fS,v,v',h',X,H,e,V,R=>by simp only[iM]at e;cases e;exact⟨X,eT.refl H,R⟩
 |.gN,v,v',h',X,H,e,V,R=>by simp only[iM]at e;cases e;exact⟨X,eT.refl H,R⟩
 |.ki,v,v',h',X,H,e,V,R=>by simp only[iM]at e;cases e;exact⟨X,eT.refl H,R⟩
 |.ji τ,v,v',h',X,H,e,V,R=>by simp only[iM]at e;cases e;exact⟨X,eT.refl H,R⟩
 |.gX σ o,v,v',h',X,H,e,V,R=>by simp only[iM]at e;cases e;exact⟨X,eT.refl H,R⟩
 |.ptr b o,v,v',h',X,H,e,V,R=>by simp only[iM]at e;cases e;exact⟨X,eT.refl H,R⟩
 |.mp b,v,v',h',X,H,e,V,R=>by simp only[iM]at e;cases e;exact⟨X,eT.refl H,R⟩
 |.fy b z o,v,v',h',X,H,e,V,R=>by simp only[iM]at e;cases e;exact⟨X,eT.refl H,R⟩
 |.rp b,v,v',h',X,H,e,V,R=>by simp only[iM]at e;cases e;exact⟨X,eT.refl H,R⟩
theorem vK{lh:List (Nat×LO)}:∀(l:List LA) {vs vs':List AV}{h':Hp}{X:Cx},bn X->qb lh X.h l vs=some (vs',h')->∀{cs:mt},cE X vs cs->∃X',eT X h' X'/\cE X' vs' cs
 |[],vs,vs',h',X,H,e,cs,R=>by simp only[qb]at e;cases e;exact⟨X,eT.refl H,R⟩
 |a::l,vs,vs',h',X,H,e,cs,R=>by
  simp only[qb]at e;split at e
  .cases e;exact⟨X,eT.refl H,R⟩
  .rename_i v vs;split at e<;>try cases e
   rename_i awf h₁ ava;split at e<;>cases e;rename_i awd avb;obtain⟨V,r,rfl,R1,R2⟩:=R;obtain⟨X₁,auy,auF⟩:=adv a H ava R1;have hX:=auy.2.1;rw[<-hX]at avb;obtain⟨auQ,auz,auG⟩:=vK l auy.2.2.1 avb (R2.ext (auy.2.2.2.fC H));exact⟨auQ,auy.trans auz,V,r,rfl,auF.ext (auz.2.2.2.fC auy.2.2.1),auG⟩
end
def tv(n:Nat)(lh:List (Nat×LO)):List (Tmp×LA)->St->Option St
 |[],st=>some st|p::l,st=>match st.T.get p.1 with
  |some v=>match iM lh st.h p.2 v with
   |some (v,h)=>match jg n st.T (some p.1) v with|some T=>tv n lh l ⟨T,h⟩|none=>none
   |none=>none
  |none=>tv n lh l st
theorem FK{n:Nat}{lh:List (Nat×LO)}:∀{l:List (Tmp×LA)}{st st':St},tv n lh l st=some st'->∀{X:Cx}{a:Act},RF X n st a->∃X',X'.w=X.w/\RF X' n st' a/\bL X X'
 |[],st,st',e,X,a,R=>by simp only[tv,dm]at e;subst e;exact⟨X,rfl,R,bL.refl X⟩|p::l,st,st',e,X,a,R=>by
  simp only[tv]at e;split at e
  .rename_i v hv;split at e<;>try cases e
   rename_i awf h₁ ava;split at e<;>try cases e
   rename_i T hT;have hX:=R.h;rw[<-hX]at ava;obtain⟨V,b1,b2⟩:=R.T.get _ _ hv;obtain⟨X₁,⟨awh,avx,auC,aur⟩,auF⟩:=adv p.2 R.H ava b2;have hg:=qo hT;have auH:RF X₁ n ⟨T,h₁⟩ a:=by
    refine⟨avx,⟨R.T.size,R.T.defers,?_⟩,auC⟩;intro x u hu;rw[hg x]at hu;by_cases q:p.1=x
    .subst q
     grind
    .rw[Fr (by grind)]at hu;obtain⟨U,c1,c2⟩:=R.T.get _ _ hu;exact⟨U,c1,c2.ext (aur.fC R.H)⟩
   obtain⟨auQ,awi,auI,aus⟩:=FK e auH;exact⟨auQ,awi.trans awh,auI,aur.trans aus⟩
  .exact FK e R
def R4(lh:List (Nat×LO))(las:List LA)(j:Nat)(h:Hp):Option Hp:=match h.tr.get j with
 |some o=>match o with
  |.cells vs ty=>match qb lh h las vs with
   |some (vs',h')=>match h'.tr.get j with
    |some o'=>match o' with
     |.cells _ _=>match Tr.set FT h'.tr j (some (.cells vs' ty))with|some t=>some ⟨t,h'.next⟩|none=>none
     |_=>none
    |none=>none
   |none=>none
  |_=>none
 |none=>none
theorem al0{lh:List (Nat×LO)}{las:List LA}{j:Nat}{h':Hp}{X:Cx}(H:bn X)(e:R4 lh las j X.h=some h')(hr:X.s j≠none):∃X',eT X h' X':=by
 unfold R4 at e;split at e<;>try cases e
 rename_i o hj;split at e<;>try cases e
 rename_i vs ty;split at e<;>try cases e
 rename_i vs' h₁ hf;split at e<;>try cases e
 rename_i avO avq;split at e<;>try cases e
 rename_i awd avY;split at e<;>cases e;rename_i t ht;cases hs:X.s j with|none=>exact absurd hs hr|some l=>obtain⟨b,c,cs,rfl,e2,e3⟩:=H.obj j _ l hj hs;obtain⟨X₁,⟨awh,avl,auC,aur⟩,auF⟩:=vK las H hf e3;have hsn:X₁.s j=some (.at b c):=aur.sg _ _ hs;rw[<-avl]at avq ht;obtain⟨g1,g2⟩:=anO auC avq (fun _ _ _ q=>by cases q) hsn (by grind) auF ht;exact⟨⟨X₁.s,⟨t,X₁.h.next⟩,X₁.w,X₁.A⟩,awh,by rw[avl],g1,aur.trans g2⟩
def j2(j:Nat):md->Bool
 |[]=>false|i::l=>match Nat.beq i j with|true=>true|false=>j2 j l
theorem JH{j:Nat}:∀{l:md},j2 j l=true->j∈l
 |[],h=>by cases h
 |i::l,h=>by
  simp only[j2]at h;split at h
  .rename_i q;simp_all
  .exact Id _ (JH h)
mutual
def iq:AV->md->md
 |.ptr b _,r=>b::r|.hd b _,r=>b::r|.mp b,r=>b::r|.ik b,r=>b::r|.rp b _,r=>b::r|.ra b _,r=>b::r|.func _ x c,r=>mh x (mh c r)|.agg l,r=>mh l r|.dW l,r=>mh l r|_,r=>r
termination_by structural x=>x
def mh:List AV->md->md
 |[],r=>r|v::l,r=>iq v (mh l r)
termination_by structural x=>x
end
mutual
theorem Zyi{X:Cx}:∀(v:AV) {r:md}{V:Value},Rel X v V->(∀j∈r,X.s j≠none)->∀j∈iq v r,X.s j≠none
 |.ptr b o,r,V,⟨x,c,h1,_⟩,hr,j,hj=>by
  simp only[iq,Fn]at hj;rcases hj with rfl|hj
  .rw[h1];simp
  .exact hr j hj
 |.hd b o,r,V,⟨x,h1,_⟩,hr,j,hj=>by
  simp only[iq,Fn]at hj;rcases hj with rfl|hj
  .rw[h1];simp
  .exact hr j hj
 |.mp b,r,V,⟨x,c,h1,_⟩,hr,j,hj=>by
  simp only[iq,Fn]at hj;rcases hj with rfl|hj
  .rw[h1];simp
  .exact hr j hj
 |.ik b,r,V,⟨x,h1,_⟩,hr,j,hj=>by
  simp only[iq,Fn]at hj;rcases hj with rfl|hj
  .rw[h1];simp
  .exact hr j hj
 |.rp b i,r,V,⟨x,c,m,p,h1,_⟩,hr,j,hj=>by
  simp only[iq,Fn]at hj;rcases hj with rfl|hj
  .rw[h1];simp
  .exact hr j hj
 |.ra b i,r,V,⟨x,c,m,h1,_⟩,hr,j,hj=>by
  simp only[iq,Fn]at hj;rcases hj with rfl|hj
  .rw[h1];simp
  .exact hr j hj
 |.func f x c,r,V,⟨xs,cs,_,h1,h2⟩,hr,j,hj=>tM x h1 (tM c h2 hr) j (by simpa only[iq]using hj)|.agg l,r,V,⟨cs,_,h1⟩,hr,j,hj=>tM l h1 hr j (by simpa only[iq]using hj)|.dW l,r,V,⟨cs,_,h1⟩,hr,j,hj=>tM l h1 hr j (by simpa only[iq]using hj)|.bool _,r,V,h,hr,j,hj=>hr j (by simpa only[iq]using hj)|.int _ _,r,V,h,hr,j,hj=>hr j (by simpa only[iq]using hj)|.str _,r,V,h,hr,j,hj=>hr j (by simpa only[iq]using hj)|.fi,r,V,h,hr,j,hj=>hr j (by simpa only[iq]using hj)|.aR,r,V,h,hr,j,hj=>hr j (by simpa only[iq]using hj)|.gj,r,V,h,hr,j,hj=>hr j (by simpa only[iq]using hj)|.fS,r,V,h,hr,j,hj=>hr j (by simpa only[iq]using hj)|.gN,r,V,h,hr,j,hj=>hr j (by simpa only[iq]using hj)|.ki,r,V,h,hr,j,hj=>hr j (by simpa only[iq]using hj)|.fy _ _ _ _,r,V,h,hr,j,hj=>hr j (by simpa only[iq]using hj)|.gX _ _ _,r,V,h,hr,j,hj=>hr j (by simpa only[iq]using hj)|.vw _ _ _ _,r,V,h,hr,j,hj=>hr j (by simpa only[iq]using hj)|.ji _ _ _,r,V,h,hr,j,hj=>hr j (by simpa only[iq]using hj)|.fz _ _,r,V,h,hr,j,hj=>hr j (by simpa only[iq]using hj)
theorem tM{X:Cx}:∀(l:List AV) {r:md}{cs:mt},cE X l cs->(∀j∈r,X.s j≠none)->∀j∈mh l r,X.s j≠none
 |[],r,cs,h,hr,j,hj=>hr j (by simpa only[mh]using hj)|v::l,r,cs,⟨V,t,_,h1,h2⟩,hr,j,hj=>Zyi v h1 (tM l h2 hr) j (by simpa only[mh]using hj)
end
def cellsOf(h:Hp)(j:Nat):List AV:=match h.tr.get j with
 |some o=>match o with|.cells l _=>l|.fg _ _ _ l _=>l|_=>[]
 |none=>[]
theorem ac2{X:Cx}(H:bn X){j:Nat}(hj:X.s j≠none){r:md}(hr:∀i∈r,X.s i≠none):∀i∈mh (cellsOf X.h j) r,X.s i≠none:=by
 unfold cellsOf;split
 .rename_i o ho;split
  .rename_i l ty;cases hs:X.s j with|none=>exact absurd hs hj|some k=>obtain⟨b,c,cs,rfl,e2,e3⟩:=H.obj j _ k ho hs;exact tM l e3 hr
  .rename_i τ' i' L' l ty;cases hs:X.s j with|none=>exact absurd hs hj|some k=>obtain⟨b,c,pre,mid,post,tail,rfl,e1,e2,e3,_⟩:=H.obj j _ k ho hs;exact tM l e3 hr
  .simpa only[mh]using hr
 .simpa only[mh]using hr
def rH(lh:List (Nat×LO)):List (Nat×Nat)->md->Hp->Option (md×Hp)
 |[],kn,h=>some (kn,h)|p::m,kn,h=>match j2 p.1 kn with
  |true=>match pI lh p.2 with
   |some o=>match o with
    |.cells las _=>match R4 lh las p.1 h with|some h=>rH lh m (mh (cellsOf h p.1) kn) h|none=>none
    |.fg _ _ _=>rH lh m (mh (cellsOf h p.1) kn) h|_=>rH lh m kn h
   |none=>rH lh m kn h
  |false=>none
theorem xK{lh:List (Nat×LO)}:∀{m:List (Nat×Nat)}{kn kn':md}{h':Hp}{X:Cx},bn X->rH lh m kn X.h=some (kn',h')->(∀j∈kn,X.s j≠none)->∃X',eT X h' X'/\∀j∈kn',X'.s j≠none
 |[],kn,kn',h',X,H,e,hk=>by simp only[rH,dm,asg]at e;obtain⟨rfl,rfl⟩:=e;exact⟨X,eT.refl H,hk⟩
 |p::m,kn,kn',h',X,H,e,hk=>by
  simp only[rH]at e;split at e<;>try cases e
  rename_i hm;have hr:=hk _ (JH hm);split at e
  .split at e
   .split at e<;>try cases e
    rename_i h₁ hB;obtain⟨X₁,auy⟩:=al0 H hB hr;have avo:∀j∈kn,X₁.s j≠none:=fun j hj q=>by cases r:X.s j with|none=>exact hk j hj r|some l=>rw[auy.2.2.2.sg _ _ r]at q;cases q
    have avs:X₁.s p.1≠none:=avo _ (JH hm);have hX:=auy.2.1;rw[<-hX]at e;obtain⟨auQ,auz,avp⟩:=xK auy.2.2.1 e (ac2 auy.2.2.1 avs avo);exact⟨auQ,auy.trans auz,avp⟩
   .exact xK H e (ac2 H hr hk)
   .exact xK H e hk
  .exact xK H e hk
theorem alq(m:List (Nat×Nat)):JU 0 m=eE m:=by
 funext j;unfold JU;split
 .rename_i h;rw[atP]at h;omega
 .rfl
def iG(base:Nat)(s:Sg)(m:List (Nat×Nat)):Sg:=fun i=>match inv m i with|some j=>s j|none=>match Nat.blt i base with|true=>s i|false=>none
structure aed(m:List (Nat×Nat))(X X':Cx):Prop where
 H:bn X'
 R:Rn (eE m) X X'
 s1:∀j i,eE m j=some i->X'.s i=X.s j
 g2:∀i o',X'.h.tr.get i=some o'->∃j o,eE m j=some i/\X.h.tr.get j=some o/\j6 (eE m) o=some o'
 dY:∀b,X'.dY b->X.dY b
theorem acI{X:Cx}(H:bn X){base nx:Nat}(hbn:base<=nx){m:List (Nat×Nat)}(O:rP 0 nx m){t:Tr cp}(ht:o5 (eE m) X.h.tr m .nil=some t){A':Nat->Prop}
  (hA1:∀b,A' b->X.out b) (hA2:∀b,A' b->¬Cx.dY ⟨iG base X.s m,⟨t,nx⟩,X.w,A'⟩ b):aed m X ⟨iG base X.s m,⟨t,nx⟩,X.w,A'⟩:=by
 have fI:∀j i,eE m j=some i->(j,i)∈m:=fun j i q=>zo q;have fM:∀j i,(j,i)∈m->eE m j=some i:=fun j i q=>xL O q;have s1:∀j i,eE m j=some i->iG base X.s m i=X.s j:=by intro j i q;unfold iG;rw[Ot O (fI j i q)]
 have s2:∀i l,iG base X.s m i=some l->i<nx:=by
  intro i l q;unfold iG at q;split at q
  .rename_i j hj;exact(O.lo _ (ad3 hj)).2.2
  .split at q
   .rename_i q2;rw[atP]at q2;omega
   .cases q
 have g2:∀i o',t.get i=some o'->∃j o,eE m j=some i/\X.h.tr.get j=some o/\j6 (eE m) o=some o':=by
  intro i o' q;rcases(yZ ht i).2 o' q with r|⟨j,o,a,b,c⟩
  .simp[Tr.get]at r
  .exact⟨j,o,fM j i a,b,c⟩
 have inj:∀j k i,eE m j=some i->eE m k=some i->j=k:=by intro j k i h1 h2;have:=O.snd _ (fI j i h1) _ (fI k i h2) rfl;simpa using this
 have arr:∀j i n,eE m j=some i->rowOf t i=some n->rowOf X.h.tr j=some n:=by intro j i n h1 h2;obtain⟨o',h2,hr⟩:=oC h2;obtain⟨k,o,a,b,c⟩:=g2 i _ h2;have:=inj j k i h1 a;subst this;rw[mr b,<-afV c];exact hr
 have dY:∀b,Cx.dY ⟨iG base X.s m,⟨t,nx⟩,X.w,A'⟩ b->X.dY b:=by rintro b ⟨i,o',c,h1,h2,h3⟩;obtain⟨j,o,a1,a2,_⟩:=g2 i o' h1;rw[show Cx.s ⟨iG base X.s m,⟨t,nx⟩,X.w,A'⟩ i=iG base X.s m i from rfl,s1 j i a1]at h2;exact⟨j,o,c,a2,h2,h3⟩
 have Rn':Rn (eE m) X ⟨iG base X.s m,⟨t,nx⟩,X.w,A'⟩:=by
  refine⟨fun j i l q r=>by grind,?_,fun j i n q r=>arr j i n q r⟩;intro b o h q;refine⟨q,?_⟩;rintro(r|r)
  .exact h (hA1 b r)
  .exact h (.inr (dY b r))
 refine⟨⟨?_,?_,?_,?_,?_,?_⟩,Rn',s1,g2,dY⟩
 .intro i o' l h1 h2;obtain⟨j,o,a1,a2,a3⟩:=g2 i o' h1;rw[show Cx.s ⟨iG base X.s m,⟨t,nx⟩,X.w,A'⟩ i=iG base X.s m i from rfl,s1 j i a1]at h2;exact adN Rn' rfl a3 (H.obj j o l a2 h2)
 .intro i k avN avO c c' b h1 h2 h3 h4 h5 h6;obtain⟨j,o,a1,a2,_⟩:=g2 i avN h1;obtain⟨j',o',b1,b2,_⟩:=g2 k avO h2;rw[show Cx.s ⟨iG base X.s m,⟨t,nx⟩,X.w,A'⟩ i=iG base X.s m i from rfl,s1 j i a1]at h3;rw[show Cx.s ⟨iG base X.s m,⟨t,nx⟩,X.w,A'⟩ k=iG base X.s m k from rfl,s1 j' k b1]at h4;have:=H.inj j j' o o' c c' b a2 b2 h3 h4 h5 h6;subst this;rw[a1]at b1;cases b1;rfl
 .intro i o h1;obtain⟨j,o',a,_⟩:=g2 i o h1;exact(O.lo _ (fI j i a)).2.2
 .intro i l h1;exact s2 i l h1
 .intro b hb;rcases hA1 b hb with q|q
  .exact H.alt b q
  .exact H.tj q
 .intro i o' c b h1 h2 h4 h3;exact hA2 b h3 ⟨i,o',c,h1,h2,h4⟩
theorem Ue{n:Nat}{bU:List Tmp}{m:List (Nat×Nat)}{nx:Nat}{st N:St}(e:yw 0 n bU m nx st=some N) :
  rP 0 nx m/\vU (eE m) n st.T bU=some N.T/\o5 (eE m) st.h.tr m .nil=some N.h.tr/\N.h.next=nx:=by
 unfold yw at e;split at e
 case h_2=>cases e
 rename_i hm hbn;split at e<;>try cases e
 rename_i T awa hT h₁;split at e<;>try cases e
 rename_i t h₂;rw[alq]at hT h₂;have:awa=.nil:=by simp only[OQ,dm]at h₁;exact h₁.symm
 subst this;exact⟨adk hm,hT,h₂,rfl⟩
theorem amn{n:Nat}{bU:List Tmp}{m:List (Nat×Nat)}{nx:Nat}{st N:St}(e:yw 0 n bU m nx st=some N){X₀ X:Cx}{a:Act}(auB:bn X₀)(hlo:∀i,i<X₀.h.next->eE m i=some i\/inv m i=none)(hnx:X₀.h.next<=nx)
  (hr:∀i,i<X₀.h.next->X₀.s i≠none) (E:bL X₀ X) (R:RF X n st a):∃X',X'.w=X.w/\RF X' n N a/\bL X₀ X':=by
 obtain⟨O,hT,ht,hn⟩:=Ue e;have hX:=R.h;rw[<-hX]at ht;have Q:=acI R.H hnx O ht (A':=X.A) (fun b h=>.inl h) (by
  rintro b hb ⟨i,o',c,h1,h2,h3⟩;rcases(yZ ht i).2 o' h1 with r|⟨j,o,a1,a2,_⟩
  .simp[Tr.get]at r
  .replace h2:iG X₀.h.next X.s m i=some c:=h2
   unfold iG at h2;rw[Ot O a1]at h2;exact R.H.loc j o c b a2 h2 h3 hb)
 have hN:N.h=⟨N.h.tr,nx⟩:=by rw[<-hn]
 refine⟨⟨iG X₀.h.next X.s m,⟨N.h.tr,nx⟩,X.w,X.A⟩,rfl,⟨hN.symm,⟨R.T.size,R.T.defers,?_⟩,Q.H⟩,?_⟩
 .intro x v' q;obtain⟨v,a1,a2⟩:=Pz hT x v' q;obtain⟨V,b1,b2⟩:=R.T.get x v a1;exact⟨V,b1,Pr Q.R a2 b2⟩
 .have sl:∀i,i<X₀.h.next->iG X₀.h.next X.s m i=X.s i:=fun i hi=>by
   rcases hlo i hi with q|q
   .exact Q.s1 i i q
   .unfold iG;rw[q,show Nat.blt i X₀.h.next=true by rw[atP];exact hi]
  refine⟨E.os,E.tape,E.output,E.size,?_,?_,hnx,E.frame,fun b h=>E.dY b (Q.dY b h),?_,?_,E.A⟩
  .intro i l h;show iG X₀.h.next X.s m i=_;rw[sl i (auB.eh i l h)];exact E.sg i l h
  .intro i l hi h
   replace h:iG X₀.h.next X.s m i=some l:=h
   rw[sl i hi]at h;exact E.eh i l hi h
  .intro j n hj h;rcases hlo j hj with q|q
   .exact E.len j n hj (Q.R.obj j j n q h)
   .obtain⟨o',h2,_⟩:=oC h;obtain⟨k,o,a,_⟩:=Q.g2 j o' h2;rw[Ot O (zo a)]at q;cases q
  grind
def ar8:LA->Option Nat
 |.ptr b _=>some b|.fy b _ _=>some b|.rp b=>some b|.hd b _=>some b|.mp b=>some b|.ik b=>some b|_=>none
def numOf:AV->Option Nat
 |.ptr b _=>some b|.fy b _ _ _=>some b|.rp b _=>some b|.hd b _=>some b|.mp b=>some b|.ik b=>some b|_=>none
def qh:List LA->List AV->List (LA×AV)->List (LA×AV)
 |[],_,r=>r|a::l,m,r=>match m with|b::m=>(a,b)::qh l m r|[]=>r
def n8(lh:List (Nat×LO))(h:Tr cp):Nat->List (LA×AV)->List (Nat×Nat)->Option (List (Nat×Nat))
 |0,_,_=>none|k+1,l,m=>match l with
  |[]=>some m|p::l=>match ar8 p.1,numOf p.2 with
   |some i,some j=>match eE m j with|some _=>n8 lh h k l m|none=>match pI lh i,h.get j with|some (.cells a _),some (.cells b _)=>n8 lh h k (qh a b l) ((j,i)::m)|some (.fg _ a _),some (.fg _ _ _ b _)=>n8 lh h k (qh a b l) ((j,i)::m)|_,_=>n8 lh h k l ((j,i)::m)
   |_,_=>match p.1,p.2 with|.func _ x c,.func _ x' c'=>n8 lh h k (qh x x' (qh c c' l)) m|.agg x,.agg x'=>n8 lh h k (qh x x' l) m|.dW x,.dW x'=>n8 lh h k (qh x x' l) m|_,_=>n8 lh h k l m
def xN(T:Tr AV):List (Tmp×LA)->List (LA×AV)
 |[]=>[]|p::l=>match T.get p.1 with|some v=>(p.2,v)::xN T l|none=>xN T l
def OY:List (Tmp×LA)->List Tmp
 |[]=>[]|p::l=>p.1::OY l
def rJ(lh:List (Nat×LO)):Nat->List (Nat×Nat)
 |0=>[]|b+1=>match pI lh b with|some _=>(b,b)::rJ lh b|none=>rJ lh b
def Fw:Nat->md->md
 |0,r=>r|b+1,r=>b::Fw b r
def zh(lh:List (Nat×LO))(h:Tr cp):Nat->List (LA×AV)
 |0=>[]|b+1=>match pI lh b,h.get b with|some (.cells x _),some (.cells y _)=>qh x y (zh lh h b)|some (.fg _ x _),some (.fg _ _ _ y _)=>qh x y (zh lh h b)|_,_=>zh lh h b
def RT{α:Type}:List α->List α->List α
 |[],m=>m|x::l,m=>x::RT l m
def aga{α:Type}:List α->List α->List α
 |[],m=>m|x::l,m=>aga l (x::m)
def xB(T:Tr AV):List (Tmp×LA)->md->md
 |[],r=>r|p::l,r=>match T.get p.1 with|some v=>iq v (xB T l r)|none=>xB T l r
theorem T5{X:Cx}{n:Nat}{T:Tr AV}{a:Act}(R:lN X n T a):∀{l:List (Tmp×LA)}{r:md},(∀j∈r,X.s j≠none)->∀j∈xB T l r,X.s j≠none
 |[],r,h,j,hj=>h j hj|p::l,r,h,j,hj=>by
  simp only[xB]at hj;split at hj
  .rename_i v hv;obtain⟨V,_,b2⟩:=R.get _ _ hv;exact Zyi v b2 (T5 R h) j hj
  .exact T5 R h j hj
theorem acS:∀{b:Nat}{r:md}{j:Nat},j∈Fw b r->j<b\/j∈r
 |0,r,j,h=>.inr h|b+1,r,j,h=>by
  simp only[Fw,Fn]at h;rcases h with rfl|h
  .exact .inl auc
  .rcases acS h with q|q
   .exact .inl auc
   .exact .inr q
def Fx(m:List (Nat×Nat))(b:Nat)(r:Bool):Bool:=match inv m b with|none=>r|some _=>false
def s9(m:List (Nat×Nat)):Nat->Bool
 |0=>true|b+1=>match eE m b with
  |some i=>match Nat.beq i b with|true=>s9 m b|false=>Fx m b (s9 m b)
  |none=>Fx m b (s9 m b)
theorem aaD{m:List (Nat×Nat)}{b:Nat}{r:Bool}(h:Fx m b r=true):inv m b=none/\r=true:=by
 unfold Fx at h
 grind
theorem Zyf{m:List (Nat×Nat)}:∀{b:Nat},s9 m b=true->∀i,i<b->eE m i=some i\/inv m i=none
 |0,_,i,h=>by omega|b+1,e,i,h=>by
  have key:(eE m b=some b\/inv m b=none)/\s9 m b=true:=by
   simp only[s9]at e;split at e
   .rename_i k hk;split at e
    .rename_i q
     simp_all
    .obtain⟨h1,h2⟩:=aaD e;exact⟨.inr h1,h2⟩
   .obtain⟨h1,h2⟩:=aaD e;exact⟨.inr h1,h2⟩
  rcases adc i b with r|r
  .exact Zyf key.2 i r
  grind
def Hl(base:Nat)(lay:ak)(st:St):Option (md×Hp):=match n8 lay.h st.h.tr 1000 (RT (xN st.T lay.T) (zh lay.h st.h.tr base)) (rJ lay.h base)with|some m=>rH lay.h (aga m []) (xB st.T lay.T (Fw base [])) st.h|none=>none
def enter(base n:Nat)(lay:ak)(own:List (Tmp×Sh×TypeId))(st:St):Option (TL lay.σs):=match vk n own st with
 |some st=>match tv n lay.h lay.T st with
  |some st=>match Hl base lay st with
   |some (_,h)=>match n8 lay.h h.tr 1000 (RT (xN st.T lay.T) (zh lay.h h.tr base)) (rJ lay.h base)with
    |some m=>match s9 m base,Nat.ble base lay.nx,yw 0 n (OY lay.T) m lay.nx ⟨st.T,h⟩with|true,true,some st=>lay.get st|_,_,_=>none
    |none=>none
   |none=>none
  |none=>none
 |none=>none
def Real(X:Cx):Prop:=∀i,i<X.h.next->X.s i≠none
theorem abv{n:Nat}{lay:ak}{N st:St}{d:TL lay.σs}(hg:lay.get N=some d)(hp:lay.put n d=some st){X₀ X:Cx}{a:Act}(hb:X₀.h.next<=lay.nx)(hr:Real X₀)(auB:bn X₀)(hn:N.h.next=lay.nx)(E:bL X₀ X)(R:RF X n N a) :
  ∃X',X'.w=X.w/\RF X' n st a/\bL X₀ X':=by
 unfold ak.get at hg;split at hg<;>try cases hg
 rename_i dh hh;unfold ak.put at hp;split at hp<;>try cases hp
 rename_i T auY hT;obtain⟨e1,t2⟩:=ado hg hT;subst e1;split at hp<;>try cases hp
 rename_i t ht;have h2:=adp hh ht;have hX:=R.h;have dY:∀b,Cx.dY ⟨X.s,⟨t,lay.nx⟩,X.w,X.A⟩ b->X.dY b:=by rintro b ⟨i,o',c,q1,q2⟩;obtain⟨o,g1,g2⟩:=h2 i o' q1;exact⟨i,o,c,by rw[hX];exact g1,q2⟩
 have RE:jm X ⟨X.s,⟨t,lay.nx⟩,X.w,X.A⟩:=by
  refine⟨fun _ _ h=>h,?_,?_⟩
  .intro b o h q;refine⟨q,?_⟩;rintro(r|r)
   .exact h (.inl r)
   .exact h (.inr (dY b r))
  .intro j l n _ q;obtain⟨o',q,hr⟩:=oC q;obtain⟨o,g1,g2⟩:=h2 j _ q;rw[hX,mr g1];exact g2.2 n hr
 have H':bn ⟨X.s,⟨t,lay.nx⟩,X.w,X.A⟩:=by
  refine⟨?_,?_,?_,?_,R.H.alt,?_⟩
  .intro i o' l q1 q2;obtain⟨o,g1,g2⟩:=h2 i o' q1;have:=R.H.obj i o l (by rw[hX];exact g1) q2;exact(g2.1 X l this).ext RE (fun _ _=>rfl)
  .intro i j o o' c c' b q1 q2 q3 q4;obtain⟨p,g1,_⟩:=h2 i o q1;obtain⟨p',g2,_⟩:=h2 j o' q2;exact R.H.inj i j p p' c c' b (by rw[hX];exact g1) (by rw[hX];exact g2) q3 q4
  .intro i o' q;obtain⟨o,g1,_⟩:=h2 i o' q;have:=R.H.lt i o (by rw[hX];exact g1)
   grind
  .intro i l q;have:=R.H.eh i l q
   grind
  .intro i o' c b q1 q2;obtain⟨o,g1,_⟩:=h2 i o' q1;exact R.H.loc i o c b (by rw[hX];exact g1) q2
 refine⟨⟨X.s,⟨t,lay.nx⟩,X.w,X.A⟩,rfl,⟨rfl,⟨R.T.size,R.T.defers,?_⟩,H'⟩,?_⟩
 .intro x v' q;obtain⟨v,a1,a2⟩:=t2 x v' q;obtain⟨V,b1,b2⟩:=R.T.get x v a1;exact⟨V,b1,(a2 X V b2).ext RE⟩
 .refine⟨E.os,E.tape,E.output,E.size,E.sg,E.eh,hb,E.frame,fun b h=>E.dY b (dY b h),?_,fun i hi q=>absurd q (hr i hi),E.A⟩;intro j n hj q;obtain⟨o',q,hr⟩:=oC q;obtain⟨o,g1,g2⟩:=h2 j _ q;exact E.len j n hj (by rw[hX,mr g1];exact g2.2 n hr)
theorem ad7{base:Nat}{lay:ak}{st:St}{kn:md}{h':Hp}(e:Hl base lay st=some (kn,h')){X:Cx}{n:Nat}{a:Act}(R:RF X n st a)(hlo:∀i,i<base->X.s i≠none) :
  ∃X',X'.w=X.w/\RF X' n ⟨st.T,h'⟩ a/\bL X X'/\∀j∈kn,X'.s j≠none:=by
 unfold Hl at e;split at e<;>try cases e
 rename_i m hm;have hX:=R.h;rw[<-hX]at e;obtain⟨X',⟨w',hh,H',E'⟩,hk⟩:=xK R.H e (T5 R.T (fun j hj=>by
  rcases acS hj with q|q
  .exact hlo j q
  .cases q))
 exact⟨X',w',⟨hh,R.T.ext (E'.fC R.H),H'⟩,E',hk⟩
theorem Real.of{X X':Cx}(h:Real X)(E:bL X X'):∀i,i<X.h.next->X'.s i≠none:=by intro i hi q;cases r:X.s i with|none=>exact h i hi r|some l=>rw[E.sg _ _ r]at q;cases q
theorem JK{base n:Nat}{lay:ak}{own:List (Tmp×Sh×TypeId)}{avS st:St}{d:TL lay.σs}(hg:enter base n lay own avS=some d)(hp:lay.put n d=some st){X₀ X:Cx}{a:Act}(hb:X₀.h.next=base/\Real X₀)(auB:bn X₀)(E:bL X₀ X)(R:RF X n avS a) :
  ∃X',X'.w=X.w/\RF X' n st a/\bL X₀ X':=by
 obtain⟨hb,hr⟩:=hb;unfold enter at hg;split at hg<;>try cases hg
 rename_i avT h₁;split at hg<;>try cases hg
 rename_i avU h₂;split at hg<;>try cases hg
 rename_i kn h avz;split at hg<;>try cases hg
 rename_i m hm;split at hg<;>try cases hg
 rename_i N hlow hnx hN;have hnx:=abs hnx;obtain⟨X₁,awh,auH,aur⟩:=Pm h₁ R;obtain⟨auQ,awi,auI,aus⟩:=FK h₂ auH;have auq:=(E.trans aur).trans aus;obtain⟨auR,awj,auJ,aut,_⟩:=ad7 avz auI (fun i hi=>hr.of auq i auc);obtain⟨auS,awk,auK,auu⟩:=amn hN auB (fun i hi=>Zyf hlow i auc) auc hr (auq.trans aut) auJ;have hn:N.h.next=lay.nx:=(Ue hN).2.2.2;obtain⟨auT,awl,auL,auv⟩:=abv hg hp auc hr auB hn auu auK
 grind
def R3:Ex->Ex->Bool
 |.normal,e=>match e with|.normal=>true|_=>false
 |.exit i,e=>match e with|.exit j=>Nat.beq i j|_=>false
 |.ret,e=>match e with|.ret=>true|_=>false
theorem ad8{a b:Ex}(h:R3 a b=true):a=b:=by
 cases a<;>cases b<;>first|rfl|cases h|skip
 rw[db h]
def Out:List (Ex×ak)->Type
 |[]=>Empty|[p]=>TL p.2.σs|p::q::l=>TL p.2.σs⊕Out (q::l)
abbrev be(l:ak)(o:List (Ev.Ex×ak)):=TL l.σs->Option (Out o)
abbrev am(l:ak)(o:List (Ev.Ex×ak)):=Option (TL l.σs⊕Out o)
def tC{R:Type}(n:Nat):(l:List (Ex×ak))->Out l->(Ex->St->Option R)->Option R
 |[],_,_=>none|[p],o,k=>match p.2.put n o with|some st=>k p.1 st|none=>none
 |p::q::l,o,k=>match o with
  |.inl d=>match p.2.put n d with|some st=>k p.1 st|none=>none
  |.inr o=>tC n (q::l) o k
def nH(n:Nat):(l:List (Ex×ak))->Out l->Option (Ex×St)
 |[],_=>none|[p],o=>match p.2.put n o with|some st=>some (p.1,st)|none=>none
 |p::q::l,o=>match o with
  |.inl d=>match p.2.put n d with|some st=>some (p.1,st)|none=>none
  |.inr o=>nH n (q::l) o
theorem Ps{R:Type}{n:Nat}:∀{l:List (Ex×ak)}{o:Out l}{k:Ex->St->Option R}{r:R},tC n l o k=some r->∃e st,nH n l o=some (e,st)/\k e st=some r
 |[],o,k,r,h=>by cases h
 |[p],o,k,r,h=>by
  simp only[tC]at h;split at h<;>try cases h
  rename_i st hst;exact⟨p.1,st,by simp only[nH,hst],h⟩
 |p::q::l,o,k,r,h=>by
  cases o with
  |inl d=>
   simp only[tC]at h;split at h<;>try cases h
   rename_i st hst;exact⟨p.1,st,by simp only[nH,hst],h⟩
  |inr o=>simp only[tC]at h;obtain⟨e,st,h1,h2⟩:=Ps h;exact⟨e,st,by simp only[nH];exact h1,h2⟩
def pN(base n:Nat):(l:List (Ex×ak))->Ex->St->Option (Out l)
 |[],_,_=>none|[p],e,st=>match R3 p.1 e with|true=>enter base n p.2 [] st|false=>none
 |p::q::l,e,st=>match(match R3 p.1 e with|true=>enter base n p.2 [] st|false=>none)with|some d=>aul d|none=>match pN base n (q::l) e st with|some o=>aum o|none=>none
theorem Up{base n:Nat}:∀{l:List (Ex×ak)}{e:Ex}{avS:St}{o:Out l},pN base n l e avS=some o->∀{e':Ex}{st:St},nH n l o=some (e',st)->e'=e /\
  ∀{X₀ X:Cx}{a:Act},(X₀.h.next=base/\Real X₀)->bn X₀->bL X₀ X->RF X n avS a->∃X',X'.w=X.w/\RF X' n st a/\bL X₀ X'
 |[],e,avS,o,h,e',st,hs=>by cases h
 |[p],e,avS,o,h,e',st,hs=>by
  simp only[pN]at h;split at h<;>try cases h
  rename_i he;simp only[nH]at hs;split at hs<;>try cases hs
  rename_i hp;exact⟨ad8 he,fun hb auB E R=>JK h hp hb auB E R⟩
 |p::q::l,e,avS,o,h,e',st,hs=>by
  simp only[pN]at h;split at h
  .rename_i d hd;cases h;split at hd<;>try cases hd
   rename_i he;simp only[nH]at hs;split at hs<;>try cases hs
   rename_i hp;exact⟨ad8 he,fun hb auB E R=>JK hd hp hb auB E R⟩
  .split at h<;>cases h;rename_i o' ho;simp only[nH]at hs;exact Up ho hs
structure me where
 np:Nat
 lay:ak
 nr:Nat
 outs:List (Ex×ak)
 F:be lay outs
def oA(T:Tr AV):Nat->Nat->Option (List AV)
 |0,_=>some []|k+1,i=>match T.get i with
  |some v=>match oA T k (i+1)with|some l=>some (v::l)|none=>none
  |none=>none
theorem Ua{X:Cx}{n:Nat}{T:Tr AV}{a:Act}(R:lN X n T a):∀{k i:Nat}{us:List AV}{Vs:mt},oA T k i=some us->Vs.length=k->(∀t,t<k->a.tmps[i+t]?=Vs[t]?)->cE X us Vs
 |0,i,us,Vs,e,hl,h=>by simp only[oA,dm]at e;subst e;exact AC hl|k+1,i,us,Vs,e,hl,h=>by
  simp only[oA]at e;split at e<;>try cases e
  rename_i v hv;split at e<;>cases e;rename_i l hL;cases Vs with
  |nil=>simp at hl|cons V r=>
   obtain⟨U,b1,b2⟩:=R.get _ _ hv;have h0:=h 0 auc;simp only[atf,FS]at h0;rw[b1]at h0;cases h0;refine⟨_,r,rfl,b2,Ua R hL (by grind) ?_⟩
   grind
def kM(P:Program)(f:FuncId)(s:me):Prop:=
 (∃fn c,P.funcs[f]?=some fn/\(fn.name == "runtime.NumGoroutine")=false/\fn.body=some c) /\
 ∀d o,s.F d=some o->∀st e st',s.lay.put s.np d=some st->nH s.nr s.outs o=some (e,st')->∀X vs args,X.h=st.h->bn X->Real X->oA st.T s.np 0=some vs->cE X vs args ->
  Calls P f (List.toArray args) X.w fun e w'=>∃X' Vs,e=.returned (mX Vs)/\X'.w=w'/\X'.h=st'.h/\bn X'/\bL X X'/\∀us,oA st'.T s.nr 0=some us->cE X' us Vs
def vh{α:Type}:List α->Nat
 |[]=>0|_::l=>vh l+1
theorem Pw{α:Type}:∀l:List α,vh l=l.length
 |[]=>rfl|_::l=>by simp[vh,Pw l]
def Fs(kn:md):List (Nat×Nat)->Bool
 |[]=>true|p::m=>match j2 p.1 kn with|true=>Fs kn m|false=>false
theorem Zz6{kn:md}:∀{m:List (Nat×Nat)},Fs kn m=true->∀p∈m,p.1∈kn
 |[],_,p,hp=>by cases hp
 |q::m,h,p,hp=>by
  simp only[Fs]at h;split at h<;>try cases h
  rename_i hq;rcases Fn.1 hp with rfl|hp
  .exact JH hq
  .exact Zz6 h p hp
def Hq(i:Nat):List (Nat×Nat)->Bool
 |[]=>false|p::m=>match Nat.beq p.2 i with|true=>true|false=>Hq i m
theorem acV{i:Nat}:∀{m:List (Nat×Nat)},Hq i m=true->∃j,(j,i)∈m
 |[],h=>by cases h
 |p::m,h=>by
  simp only[Hq]at h;split at h
  .rename_i q;have q:=db q
   grind
  .obtain⟨j,hj⟩:=acV h
   grind
def FB(m:List (Nat×Nat)):Nat->Bool
 |0=>true|b+1=>match Hq b m with|true=>FB m b|false=>false
theorem Zye{m:List (Nat×Nat)}:∀{b:Nat},FB m b=true->∀i,i<b->∃j,(j,i)∈m
 |0,_,i,h=>by omega|b+1,e,i,h=>by
  simp only[FB]at e;split at e<;>try cases e
  rename_i q;rcases adc i b with r|r
  .exact Zye e i r
  .rw[show i=b by omega];exact acV q
def PV(s:me)(vs:List AV)(h:Hp):Option (List (Nat×Nat)×Hp×TL s.lay.σs):=match Nat.beq (vh vs) s.np,kQ s.np vs 0 .nil with
 |true,some T=>match tv s.np s.lay.h s.lay.T ⟨T,h⟩with
  |some st=>match Hl 0 s.lay st with
   |some (kn,h)=>match n8 s.lay.h h.tr 1000 (xN st.T s.lay.T) []with
    |some m=>match Fs kn m,FB m s.lay.nx,yw 0 s.np (OY s.lay.T) m s.lay.nx ⟨st.T,h⟩with
     |true,true,some N=>match s.lay.get N with
      |some d=>match s.lay.put s.np d with
       |some st=>match oA st.T s.np 0 with|some _=>some (m,h,d)|none=>none
       |none=>none
      |none=>none
     |_,_,_=>none
    |none=>none
   |none=>none
  |none=>none
 |_,_=>none
def uN(t:Tr cp):List (Nat×Nat)->Option (Tr cp)
 |[]=>some t|p::m=>match uN t m with|some t=>Tr.set FT t p.1 none|none=>none
theorem Ug{t:Tr cp}:∀{m:List (Nat×Nat)}{t':Tr cp},uN t m=some t'->∀k,(t'.get k=t.get k/\∀i,(k,i)∉m)\/(t'.get k=none/\∃i,(k,i)∈m)
 |[],t',e,k=>by simp only[uN,dm]at e;grind|p::m,t',e,k=>by
  simp only[uN]at e;split at e<;>try cases e
  rename_i awa h₁;rw[Tr.d6 _ _ _ _ _ e k];by_cases q:k=p.1
  .rw[IO q]
   grind
  .rw[Fr q];rcases Ug h₁ k with⟨a,b⟩|⟨a,i,b⟩
   .exact .inl ⟨a,fun i hi=>by grind⟩
   grind
def news(nx hn:Nat):Nat->List (Nat×Nat)
 |0=>[]|q+1=>(nx+q,hn+q)::news nx hn q
theorem Uo{nx hn:Nat}:∀{c:Nat}{p:Nat×Nat},p∈news nx hn c↔∃q,q<c/\p=(nx+q,hn+q)
 |0,p=>by simp[news]|c+1,p=>by
  simp only[news,Fn,Uo (c:=c)]
  grind
def xH:List (Nat×Nat)->List (Nat×Nat)->List (Nat×Nat)
 |[],r=>r|p::m,r=>(p.2,p.1)::xH m r
theorem Jw:∀{m r:List (Nat×Nat)}{p:Nat×Nat},p∈xH m r↔(p.2,p.1)∈m\/p∈r
 |[],r,p=>by simp[xH]|q::m,r,p=>by
  obtain⟨a,b⟩:=p;obtain⟨c,d⟩:=q;simp only[xH,Fn,Jw (m:=m),asg]
  grind
def pE(m:List (Nat×Nat))(nx hn c:Nat):List (Nat×Nat):=xH m (news nx hn c)
theorem akG{m:List (Nat×Nat)}{nx hn c:Nat}(O:rP 0 nx m)(hm:∀p∈m,p.1<hn):rP 0 (hn+c) (pE m nx hn c):=by
 have mem:∀p,p∈pE m nx hn c->(p.2,p.1)∈m\/∃q,q<c/\p=(nx+q,hn+q):=by
  intro p hp;rcases Jw.1 hp with h|h
  .exact .inl h
  .exact .inr (Uo.1 h)
 refine⟨?_,?_,?_⟩
 .intro p hp
  grind
 .intro p hp p' hp' e;rcases mem p hp with h|⟨q,h,rfl⟩<;>rcases mem p' hp' with h'|⟨q',h',rfl⟩
  .have:=O.snd _ h _ h' e
   grind
  .have:=(O.lo _ h).2.2;simp only at this e;omega
  .have:=(O.lo _ h').2.2;simp only at this e;omega
  .simp only at e;rw[show q=q' by omega]
 .intro p hp p' hp' e;rcases mem p hp with h|⟨q,h,rfl⟩<;>rcases mem p' hp' with h'|⟨q',h',rfl⟩
  .have:=O.fst _ h _ h' e
   grind
  .have:=hm _ h;simp only at this e;omega
  .have:=hm _ h';simp only at this e;omega
  grind
def PH(m:List (Nat×Nat))(h:Hp)(nx nr:Nat)(st':St):Option (List AV×Hp):=match uN h.tr m,oA st'.T nr 0 with
 |some t,some us=>match o5 (eE (pE m nx h.next (st'.h.next-nx))) st'.h.tr (pE m nx h.next (st'.h.next-nx)) t,nT (eE (pE m nx h.next (st'.h.next-nx))) us with|some t',some us'=>some (us',⟨t',h.next+(st'.h.next-nx)⟩)|_,_=>none
 |_,_=>none
theorem akS{auQ Xn X₀:Cx}{m:List (Nat×Nat)}{nx:Nat}(auD:bn auQ)(O:rP 0 nx m)(Q:aed m auQ Xn)(hnx:Xn.h.next=nx)(hAn:∀b,Xn.A b↔auQ.out b/\¬Xn.dY b)(hwn:Xn.w=auQ.w)
  (hreal:∀p∈m,auQ.s p.1≠none) (H':bn X₀) (E:bL Xn X₀) {awa t':Tr cp}(hk:uN auQ.h.tr m=some awa)
  (hc:o5 (eE (pE m nx auQ.h.next (X₀.h.next-nx))) X₀.h.tr (pE m nx auQ.h.next (X₀.h.next-nx)) awa=some t') :
  ∃X',X'.w=X₀.w/\X'.h=⟨t',auQ.h.next+(X₀.h.next-nx)⟩/\bn X'/\bL auQ X'/\Rn (eE (pE m nx auQ.h.next (X₀.h.next-nx))) X₀ X':=by
 obtain⟨hn,ehn⟩:∃hn,hn=auQ.h.next:=⟨_,rfl⟩;obtain⟨kY,ecnt⟩:∃c,c=X₀.h.next-nx:=⟨_,rfl⟩;rw[<-ehn,<-ecnt]at hc |-;have hcn:X₀.h.next=nx+kY:=by have:=E.next;omega
 have mlt:∀p∈m,p.1<hn:=by intro p hp;cases q:auQ.s p.1 with|none=>exact absurd q (hreal p hp)|some l=>have:=auD.eh _ _ q;omega
 have OG:=akG (c:=kY) O mlt;obtain⟨G,eG⟩:∃G,G=pE m nx hn kY:=⟨_,rfl⟩;have gmem:∀i k,(i,k)∈G->((k,i)∈m/\k<hn/\i<nx)\/∃q,q<kY/\i=nx+q/\k=hn+q:=by
  intro i k h;rw[eG]at h;rcases Jw.1 h with h|h
  .exact .inl ⟨h,mlt _ h,(O.lo _ h).2.2⟩
  .obtain⟨q,h1,h2⟩:=Uo.1 h;simp only[asg]at h2;exact .inr ⟨q,h1,h2.1,h2.2⟩
 rw[<-eG]at OG hc |-;have gI:∀i k,eE G i=some k->(i,k)∈G:=fun i k h=>zo h;have gM:∀i k,(i,k)∈G->eE G i=some k:=fun i k h=>xL OG h
 let s':Sg:=fun k=>if k<hn then auQ.s k else X₀.s (k-hn+nx)
 have sold:∀k l,auQ.s k=some l->k<hn/\s' k=some l:=by
  intro k l h;have:=auD.eh k l h;have hlt:k<hn:=auc
  exact⟨hlt,by simp only[s',IO hlt];exact h⟩
 have gS:∀i k,eE G i=some k->s' k=X₀.s i:=by
  intro i k h;rcases gmem i k (gI i k h)with⟨h1,h2,h3⟩|⟨q,h1,rfl,rfl⟩
  .simp only[s',IO h2];have e1:=Q.s1 k i (xL O h1);cases r:auQ.s k with|none=>exact absurd r (hreal _ h1)|some l=>rw[r]at e1;exact(E.sg i l e1).symm
  .simp only[s'];rw[Fr auc];congr 1;omega
 have objF:∀k o',t'.get k=some o'->(auQ.h.tr.get k=some o'/\(∀i,(k,i)∉m)/\k<hn)\/∃i o,eE G i=some k/\X₀.h.tr.get i=some o/\j6 (eE G) o=some o':=by
  intro k o' h;rcases(yZ hc k).2 o' h with r|⟨i,o,a,b,c⟩
  .rcases Ug hk k with⟨a,b⟩|⟨a,_⟩
   .rw[a]at r;have:=auD.lt k o' r;exact .inl ⟨r,b,auc⟩
   .rw[a]at r;cases r
  .exact .inr ⟨i,o,gM i k a,b,c⟩
 have gone:∀k i,(k,i)∈m->∀j,eE G j=some k->j=i:=by
  intro k i h j hj;have h1:(i,k)∈G:=by rw[eG];exact Jw.2 (.inl h)
  have:=OG.snd _ (gI j k hj) _ h1 rfl;simpa using this
 have notG:∀k,(∀i,(k,i)∉m)->k<hn->∀i,eE G i≠some k:=by
  intro k h1 h2 i h3;rcases gmem i k (gI i k h3)with⟨a,_⟩|⟨q,_,_,a⟩
  .exact h1 i a
  .omega
 have imgn:∀k i l,eE m k=some i->auQ.s k=some l->Xn.s i=some l:=fun k i l h1 h2=>by rw[Q.s1 k i h1];exact h2
 have imgX:∀b,Xn.dY b->∃k i o c,(k,i)∈m/\auQ.h.tr.get k=some o/\auQ.s k=some c/\c.own b:=by rintro b ⟨i,o',c,h1,h2,h3⟩;obtain⟨k,o,a1,a2,_⟩:=Q.g2 i o' h1;rw[Q.s1 k i a1]at h2;exact⟨k,i,o,c,zo a1,a2,h2,h3⟩
 have other:∀k o c b,auQ.h.tr.get k=some o->(∀i,(k,i)∉m)->auQ.s k=some c->c.own b->Xn.A b:=by intro k o c b h1 h2 h3 h4;refine(hAn b).2 ⟨.inr ⟨k,o,c,h1,h3,h4⟩,fun hi=>?_⟩;obtain⟨k',i,o',c',g1,g2,g3,g4⟩:=imgX b hi;have:=auD.inj k k' o o' c c' b h1 g2 h3 g3 h4 g4;subst this;exact h2 i g1
 have auo:∀b,auQ.A b->Xn.A b:=by intro b h;refine(hAn b).2 ⟨.inl h,fun hi=>?_⟩;obtain⟨k',i,o',c',g1,g2,g3,g4⟩:=imgX b hi;exact auD.loc k' o' c' b g2 g3 g4 h
 have img':∀b,Cx.dY ⟨s',⟨t',hn+kY⟩,X₀.w,auQ.A⟩ b->X₀.dY b\/(Xn.A b/\auQ.dY b):=by
  rintro b ⟨k,o',c,h1,h2,h3⟩
  replace h2:s' k=some c:=h2
  rcases objF k o' h1 with⟨a1,a2,a3⟩|⟨i,o,a1,a2,a3⟩
  .simp only[s',IO a3]at h2;exact .inr ⟨other k o' c b a1 a2 h2 h3,k,o',c,a1,h2,h3⟩
  .rw[gS i k a1]at h2;exact .inl ⟨i,o,c,a2,h2,h3⟩
 have outn:∀b,Xn.out b->auQ.out b:=by
  rintro b (h|h)
  .exact((hAn b).1 h).1
  .exact .inr (Q.dY b h)
 have arr:∀i k n,eE G i=some k->rowOf t' k=some n->rowOf X₀.h.tr i=some n:=by
  intro i k n h1 h2;obtain⟨o',h2,hr⟩:=oC h2;rcases objF k _ h2 with⟨a1,a2,a3⟩|⟨i',o,a1,a2,a3⟩
  .exact absurd h1 (notG k a2 a3 i)
  .have:=OG.snd _ (gI i k h1) _ (gI i' k a1) rfl;simp only[asg,atF]at this;subst this;rw[mr a2,<-afV a3];exact hr
 have Rn':Rn (eE G) X₀ ⟨s',⟨t',hn+kY⟩,X₀.w,auQ.A⟩:=by
  refine⟨fun i k l q r=>by show s' k=_;rw[gS i k q];exact r,?_,arr⟩;intro b o h q;refine⟨q,?_⟩;rintro(r|r)
  .refine h (.inl ?_);rw[E.A];exact auo b r
  .rcases img' b r with r|⟨r,_⟩
   .exact h (.inr r)
   .refine h (.inl ?_);rw[E.A];exact r
 have low:∀b,b<auQ.w.heap.size->¬auQ.dY b->X₀.w.heap[b]?=auQ.w.heap[b]?:=by intro b hb hi;rw[E.frame b (by rw[hwn];exact hb) (fun q=>hi (Q.dY b q)),hwn]
 have lenOld:∀j n,j<hn->rowOf t' j=some n->rowOf auQ.h.tr j=some n:=by
  intro j n hj h0;obtain⟨o',h,hr⟩:=oC h0;rcases objF j _ h with⟨a1,_,_⟩|⟨i,o,a1,a2,a3⟩
  .rw[mr a1];exact hr
  .have h4:=arr i j n a1 h0;rcases gmem i j (gI i j a1)with⟨b1,b2,b3⟩|⟨q,_,_,rfl⟩
   .exact Q.R.obj j i n (xL O b1) (E.len i n auc h4)
   .omega
 have RE:jm auQ ⟨s',⟨t',hn+kY⟩,X₀.w,auQ.A⟩:=by
  refine⟨fun k l h=>(sold k l h).2,?_,fun j l n h q=>lenOld j n (sold j l h).1 q⟩;intro b o h q;have hb:=kr q;refine⟨by show X₀.w.heap[b]?=_;rw[low b hb (fun r=>h (.inr r))];exact q,?_⟩;rintro(r|r)
  .exact h (.inl r)
  .rcases img' b r with r|⟨_,r⟩
   .rcases E.dY b r with r|r
    .exact h (.inr (Q.dY b r))
    .rw[hwn]at r;omega
   .exact h (.inr r)
 have hsz:auQ.w.heap.size<=X₀.w.heap.size:=by have:=E.size;rw[hwn]at this;exact this
 refine⟨⟨s',⟨t',hn+kY⟩,X₀.w,auQ.A⟩,rfl,rfl,⟨?_,?_,?_,?_,?_,?_⟩,?_,Rn'⟩
 .intro k o' l h1 h2
  replace h2:s' k=some l:=h2
  rcases objF k o' h1 with⟨a1,a2,a3⟩|⟨i,o,a1,a2,a3⟩
  .simp only[s',IO a3]at h2;refine(auD.obj k o' l a1 h2).ext RE ?_;intro b hb;show X₀.w.heap[b]?=_;rw[E.frame b (by rw[hwn];exact auD.ng a1 h2 hb) (fun q=>((hAn b).1 (other k o' l b a1 a2 h2 hb)).2 q),hwn]
  .rw[gS i k a1]at h2;exact adN Rn' rfl a3 (H'.obj i o l a2 h2)
 .intro avB avC avN avO auV auW b h1 h2 h3 h4 f3 f4
  replace h3:s' avB=some auV:=h3
  replace h4:s' avC=some auW:=h4
  rcases objF avB avN h1 with⟨a1,a2,a3⟩|⟨i,o,a1,a2,a3⟩<;>rcases objF avC avO h2 with⟨b1,b2,b3⟩|⟨i',o',b1,b2,b3⟩
  .simp only[s',IO a3]at h3;simp only[s',IO b3]at h4;exact auD.inj avB avC avN avO auV auW b a1 b1 h3 h4 f3 f4
  .simp only[s',IO a3]at h3;rw[gS i' avC b1]at h4;refine absurd (other avB avN auV b a1 a2 h3 f3) ?_;have:=H'.loc i' o' auW b b2 h4 f4;rw[E.A]at this;exact this
  .simp only[s',IO b3]at h4;rw[gS i avB a1]at h3;refine absurd (other avC avO auW b b1 b2 h4 f4) ?_;have:=H'.loc i o auV b a2 h3 f3;rw[E.A]at this;exact this
  .rw[gS i avB a1]at h3;rw[gS i' avC b1]at h4;have:=H'.inj i i' o o' auV auW b a2 b2 h3 h4 f3 f4;subst this;rw[a1]at b1;cases b1;rfl
 .intro k o' h1;show k<hn+kY;rcases objF k o' h1 with⟨_,_,a3⟩|⟨i,o,a1,a2,a3⟩
  .omega
  .exact(OG.lo _ (gI i k a1)).2.2
 .intro k l h1
  replace h1:s' k=some l:=h1
  show k<hn+kY;by_cases q:k<hn
  .omega
  .simp only[s',Fr q]at h1;have:=H'.eh _ l h1;omega
 .intro b hb;have:=auD.alt b hb;show b<X₀.w.heap.size;omega
 .intro k o' c b h1 h2 h4 h3
  replace h2:s' k=some c:=h2
  rcases objF k o' h1 with⟨a1,a2,a3⟩|⟨i,o,a1,a2,a3⟩
  .simp only[s',IO a3]at h2;exact auD.loc k o' c b a1 h2 h4 h3
  .rw[gS i k a1]at h2;have:=H'.loc i o c b a2 h2 h4;rw[E.A]at this;exact this (auo b h3)
 .refine⟨by rw[<-hwn];exact E.os,by rw[<-hwn];exact E.tape,by rw[<-hwn];exact E.output,hsz,fun k l h=>(sold k l h).2,?_,by show auQ.h.next<=hn+kY;omega,low,?_,?_,?_,rfl⟩
  .intro k l hk' h
   replace h:s' k=some l:=h
   simp only[s',IO (show k<hn by omega)]at h;exact h
  .intro b h;rcases img' b h with r|⟨_,r⟩
   .rcases E.dY b r with r|r
    .exact .inl (Q.dY b r)
    .rw[hwn]at r;exact .inr r
   .exact .inl r
  .intro j n hj h;exact lenOld j n auc h
  .intro k hk' hs;show t'.get k=_;have hnm:∀i,(k,i)∉m:=fun i hi=>hreal _ hi hs;have hng:∀p∈G,p.2≠k:=by rintro⟨i,k'⟩ hp rfl;exact notG k' hnm auc i (gM i k' hp)
   rw[(yZ hc k).1 hng];rcases Ug hk k with⟨a,_⟩|⟨_,i,b⟩
   .exact a
   .exact absurd b (hnm i)
theorem am0{P:Program}{f:FuncId}{s:me}(hC:kM P f s){vs:List AV}{h h₂ h':Hp}{m:List (Nat×Nat)}{d:TL s.lay.σs}(ava:PV s vs h=some (m,h₂,d)){o:Out s.outs}(ho:s.F d=some o){ex:Ex}{st':St}
  (hs:nH s.nr s.outs o=some (ex,st')) {us':List AV}(avb:PH m h₂ s.lay.nx s.nr st'=some (us',h')):Fp P f vs h (rM us') h':=by
 refine⟨hC.1,?_⟩;intro X args hX H hR;subst hX;unfold PV at ava;split at ava<;>try cases ava
 rename_i T hlen hT;split at ava<;>try cases ava
 rename_i avT hfT;split at ava<;>try cases ava
 rename_i kn avy hfM;split at ava<;>try cases ava
 rename_i m' hm;split at ava<;>try cases ava
 rename_i N hall htot hN;split at ava<;>try cases ava
 rename_i d' hg;split at ava<;>try cases ava
 rename_i avS hp;split at ava<;>try cases ava
 rename_i awb avu;have hlen:=db hlen;rw[Pw]at hlen;have hal:args.length=s.np:=by rw[hR.length];exact hlen
 obtain⟨X₁,awh,auH,aur⟩:=FK hfT (y8 H hT hR);obtain⟨auQ,awi,auI,aus,hk⟩:=ad7 hfM auH (fun i hi=>auc);have auq:=aur.trans aus;have avg:auQ.h=h₂:=auI.h;have avv:auQ.w=X.w:=awi.trans awh;have avd:auQ.A=X.A:=auq.A;have auD:=auI.H;obtain⟨O,hTN,htN,hnN⟩:=Ue hN
 replace htN:o5 (eE m) h₂.tr m .nil=some N.h.tr:=htN
 rw[<-avg]at htN;have hreal:∀p∈m,auQ.s p.1≠none:=fun p hp'=>hk _ (Zz6 hall p hp');have mlt:∀p∈m,p.1<auQ.h.next:=by intro p hp';cases q:auQ.s p.1 with|none=>exact absurd q (hreal p hp')|some l=>exact auD.eh _ _ q
 let aun:Nat->Prop:=fun b=>auQ.out b/\¬∃i o c,N.h.tr.get i=some o/\iG 0 auQ.s m i=some c/\c.own b
 have Q:=acI auD (base:=0) (Do _) O htN (A':=aun) (fun b hb=>hb.1) (fun b hb hi=>hb.2 hi);obtain⟨Xn,hXn⟩:∃Xn:Cx,Xn=⟨iG 0 auQ.s m,⟨N.h.tr,s.lay.nx⟩,auQ.w,aun⟩:=⟨_,rfl⟩;rw[<-hXn]at Q;have hNh:N.h=⟨N.h.tr,s.lay.nx⟩:=by rw[<-hnN]
 have RN:RF Xn s.np N _:=⟨by rw[hXn];exact hNh.symm,⟨auI.T.size,auI.T.defers,fun x v' q=>by obtain⟨v,a1,a2⟩:=Pz hTN x v' q;obtain⟨V,b1,b2⟩:=auI.T.get x v a1;exact⟨V,b1,Pr Q.R a2 b2⟩⟩,Q.H⟩;have hnx:Xn.h.next=s.lay.nx:=by rw[hXn]
 have hrn:Real Xn:=by intro i hi q;obtain⟨j,hj⟩:=Zye htot i auc;rw[Q.s1 j i (xL O hj)]at q;exact hreal _ hj q
 obtain⟨Z,wZ,RZ,EZ⟩:=abv hg hp auc hrn Q.H hnN (bL.refl Xn) RN;have avt:avS.h.next=s.lay.nx:=by
  unfold ak.put at hp;split at hp<;>try cases hp
  split at hp<;>cases hp;rfl
 have hZn:Z.h.next=s.lay.nx:=by rw[RZ.h];exact avt
 have hZr:Real Z:=fun i hi=>hrn.of EZ i auc;have Rv:=Ua RZ.T avu hal (fun t ht=>by grind);have hZw:Z.w=X.w:=by rw[wZ,hXn];exact avv
 rw[<-hZw];refine(hC.2 d o ho avS ex st' hp hs Z awb args RZ.h RZ.H hZr avu Rv).mono ?_;rintro e w' ⟨X₀,Vs,rfl,rfl,hh',H',aup,hus⟩;unfold PH at avb;split at avb<;>try cases avb
 rename_i awa us hkl hvus;split at avb<;>try cases avb
 rename_i t' awc hcp hru;have E:=EZ.trans aup;rw[<-hh',<-avg]at hcp hru;rw[<-avg]at hkl;obtain⟨X',g1,g2,g3,g4,g5⟩:=akS auD O Q hnx (by rw[hXn];exact fun b=>Iff.rfl) (by rw[hXn]) hreal H' E hkl hcp;refine⟨X',mX Vs,rfl,g1,by rw[g2,avg,<-hh'],g3,?_,FM (rU g5 hru (hus us hvus))⟩;exact auq.trans g4
def HH{R:Type}:List me->List AV->Hp->(Bool->AV->Hp->Option R)->Option R
 |[],_,_,_=>none|s::l,vs,h,k=>match PV s vs h with
  |some x=>aA (s.F x.2.2) fun o=>tC s.nr s.outs o fun _ st'=>match PH x.1 x.2.1 s.lay.nx s.nr st' with|some y=>k true (rM y.1) y.2|none=>none
  |none=>HH l vs h k
abbrev P5:=FuncId->List me
def adE(P:Program)(Q:P5):Prop:=∀f,∀s∈Q f,kM P f s
theorem adL{R:Type}{P:Program}{f:FuncId}{vs:List AV}{h:Hp}{k:Bool->AV->Hp->Option R}{r:R}:∀{l:List me},(∀s∈l,kM P f s)->HH l vs h k=some r ->
  ∃ch v h',k ch v h'=some r/\(ch=false->fT h h')/\Fp P f vs h v h'
 |[],_,e=>by cases e
 |s::l,hC,e=>by
  simp only[HH]at e;split at e
  .rename_i x hx;obtain⟨o,ho,hk⟩:=FX e;obtain⟨ex,st',hs,hk⟩:=Ps hk;split at hk<;>try cases hk
   rename_i y hy;exact⟨true,_,_,hk,fun q=>(by cases q),am0 (hC s aue) hx ho hs hy⟩
  .exact adL (fun s' h'=>hC s' (by simp[h'])) e
def OP{R:Type}(call:jz R):jz R:=call
theorem adB{R:Type}{P:Program}{call:jz R}(hc:lx P call):lx P (OP call):=hc
structure Kn where
 S:xq
 Q:P5
structure pR(P:Program)(K:Kn):Prop where
 S:PA P K.S
 Q:adE P K.Q
def Ft{R:Type}(K:Kn):jz R:=fun f vs h k=>match K.S f with|some _=>O0 K.S f vs h k|none=>HH (K.Q f) vs h k
theorem adC{R:Type}{P:Program}{K:Kn}(hK:pR P K):lx P (Ft (R:=R) K):=by
 intro f vs h k r e;unfold Ft at e;split at e
 .exact alA hK.S f vs h k r e
 .exact adL (hK.Q f) e
def known(K:Kn)(f:FuncId):Bool:=match K.S f with|some _=>true|none=>match K.Q f with|[]=>false|_=>true
abbrev Env:=FuncId->Option Func
def sT(P:Program)(E:Env):Prop:=∀f e,E f=some e->P.funcs[f]?=some e/\(e.name == "runtime.NumGoroutine")=false
def Pt{R:Type}(p:FuncId->Bool)(a b:jz R):jz R:=fun f vs h k=>match p f with|true=>a f vs h k|false=>b f vs h k
theorem aps{R:Type}{P:Program}{p:FuncId->Bool}{a b:jz R}(ha:lx P a)(hb:lx P b):lx P (Pt p a b):=by
 intro f vs h k r e;unfold Pt at e;split at e
 .exact ha f vs h k r e
 .exact hb f vs h k r e
section
variable{R:Type}(P:Program)(sh:TypeId->Option Sh)(S:Kn)(E:Env)
def xv:Nat->jz R
 |0=>OP (Ft S)|d+1=>OP (Pt (known S) (Ft S) fun f vs h k=>match E f with
  |some e=>match e.body with
   |some c=>match kQ e.ntmps vs 0 .nil with
    |some T=>runK P sh (xv d) (fun _ _ _=>none) e.ntmps c ⟨T,h⟩ fun x st=>match x with|.exit _=>none|_=>match lU P st e.results.toList with|some rs=>k true (rM rs) st.h|none=>none
    |none=>none
   |none=>none
  |none=>none)
end
theorem JM{R:Type}{P:Program}(hm:P.follows .mixedOrders=true){sh:TypeId->Option Sh}{S:Kn}(hS:pR P S){E:Env}(hE:sT P E):∀d,lx P (xv (R:=R) P sh S E d)
 |0=>adB (adC hS)|d+1=>by
  refine adB (aps (adC hS) ?_);intro f vs h k r e;dsimp only at e;split at e<;>try cases e
  rename_i en hen;obtain⟨hf,hname⟩:=hE f en hen;split at e<;>try cases e
  rename_i c hb;split at e<;>try cases e
  rename_i T hT;obtain⟨x,st,hk,Tk⟩:=JN (G:=fun _=>True) hm (JM hm hS hE d) (base:=h.next) c (fun x _ st k r q=>by cases q) _ _ r e;have main:(match lU P st en.results.toList with
      |some rs=>k true (rM rs) st.h|none=>none)=some r->(∀i,x≠.exit i)->∃ch v h',k ch v h'=some r/\(ch=false->fT h h')/\Fp P f vs h v h':=by
   intro hk hx;split at hk<;>try cases hk
   rename_i rs hrs;refine⟨true,_,st.h,hk,(fun q=>by cases q),⟨en,c,hf,hname,hb⟩,?_⟩;intro X args hX H hR;subst hX;refine calls_of_wp hf hb ?_;refine Tk X X _ ⟨rfl,trivial⟩ H (bL.refl X) (y8 H hT hR) _ ?_;intro X' a' R' E';obtain⟨Vs,g1,g2⟩:=TS R' hrs;have fin:a'.defers=[]/\∃V,(results en a'.tmps).run P X'.w=.ok V X'.w/\∃X'' V',Ending.returned V=.returned V'/\X''.w=X'.w/\X''.h=st.h/\bn X''/\bL X X''/\Rel X'' (rM rs) V':=⟨R'.T.defers,_,g1,X',_,rfl,rfl,R'.h,R'.H,E',FM g2⟩;cases x with|exit i=>exact absurd rfl (hx i)|normal=>exact fin|ret=>exact fin
  grind
def tF{τs:List Sh}(P:Program)(sh:TypeId->Option Sh)(S:Kn)(E:Env)(dep:Nat)(loops:nF (TL τs))(e:Func)(c:Code)(σs:List Sh)(d:TL σs):Option (TL τs):=match kQ e.ntmps (zp σs d) 0 .nil with
 |some T=>runK P sh (xv P sh S E dep) loops e.ntmps c ⟨T,⟨.nil,0⟩⟩ fun x st=>match x with
  |.exit _=>none|_=>match lU P st e.results.toList with
   |some rs=>match nR true st.h τs rs with|some (x,_)=>some x|none=>none
   |none=>none
 |none=>none
variable{τs:List Sh}{e:Func}{loops:nF (TL τs)}{f:FuncId}{σs:List Sh}{F:TL σs->Option (TL τs)}{c:Code}{dep:Nat}
theorem ao3{P:Program}(hm:P.follows .mixedOrders=true){sh:TypeId->Option Sh}{S:Kn}(hS:pR P S){E:Env}(hE:sT P E)(hl:∀x∈fU c,nW P Real 0 e.ntmps x (loops (kN x)))
  (hf:P.funcs[f]?=some e) (hname:(e.name == "runtime.NumGoroutine")=false) (hb:e.body=some c) 
  (h:∀d x,F d=some x->tF P sh S E dep loops e c σs d=some x):Comes P f σs τs F:=by
 refine⟨⟨e,c,hf,hname,hb⟩,?_⟩;intro d x hx w A args hA ha;have hr:=h d x hx;unfold tF at hr;split at hr<;>try cases hr
 rename_i T hT;obtain⟨y,st,hk,Tk⟩:=JN (G:=Real) hm (JM hm hS hE dep) (base:=0) c hl _ _ _ hr
 let X:Cx:=⟨fun _=>none,⟨.nil,0⟩,w,A⟩
 have out:∀b,X.out b->A b:=by
  rintro b (q|⟨i,o,c,h1,h2⟩)
  .exact q
  .simp[X,Tr.get]at h1
 have H:bn X:=⟨fun i o l h=>by grind,fun i j o o' b c c' h=>by simp[X,Tr.get]at h,fun i o h=>by simp[X,Tr.get]at h,fun i l h=>by simp[X]at h,hA,fun i o b c h=>by grind⟩;have ha':mj X.w X.out σs d args:=ha.bU (fun b o q r=>⟨r,fun s=>q (out b s)⟩);refine calls_of_wp hf hb ?_;refine Tk X X _ ⟨rfl,fun i hi=>absurd hi (asn i)⟩ H (bL.refl X) (y8 H hT (Jv ha')) _ ?_;intro X' a' R' E';have main:(match lU P st e.results.toList with
   |some rs=>match nR true st.h τs rs with|some (x,_)=>some x|none=>none
   |none=>none)=some x->a'.defers=[]/\∃V,(results e a'.tmps).run P X'.w=.ok V X'.w/\∃vs,Ending.returned V=.returned (mX vs)/\Below w.heap.size w X'.w/\mj X'.w A τs x vs:=by
  intro hk;split at hk<;>try cases hk
  rename_i rs hrs;split at hk<;>cases hk;rename_i h' hfz;obtain⟨Vs,g1,g2⟩:=TS R' hrs;have hX:=R'.h;rw[<-hX]at hfz;obtain⟨Fz,hA'⟩:=FJ R'.H hfz g2;refine⟨R'.T.defers,_,g1,Vs,rfl,⟨E'.os,E'.tape,E'.output,E'.size,fun b hb=>E'.frame b hb ?_⟩,?_⟩
  .rintro⟨i,o,c,h1,h2⟩;simp[X,Tr.get]at h1
  .refine hA'.bU (fun b o q r=>⟨r,fun s=>q (.inl ?_)⟩);show X'.A b;rw[E'.A];exact s
 cases y with
 |exit i=>simp only[]at hk;cases hk
 |normal=>exact main hk|ret=>exact main hk
def yB{outs:List (Ex×ak)}(P:Program)(sh:TypeId->Option Sh)(S:Kn)(E:Env)(dep:Nat)(loops:nF (Out outs))(e:Func)(c:Code)(np nr:Nat)(lay:ak)(d:TL lay.σs):Option (Out outs):=match lay.put np d with
 |some st=>match oA st.T np 0 with
  |some vs=>match kQ e.ntmps vs 0 .nil with
   |some T=>runK P sh (xv P sh S E dep) loops e.ntmps c ⟨T,st.h⟩ fun x st=>match x with
    |.exit _=>none|_=>match lU P st e.results.toList with
     |some rs=>match Nat.beq (vh rs) nr,kQ nr rs 0 .nil with|true,some T=>pN lay.nx nr outs .ret ⟨T,st.h⟩|_,_=>none
     |none=>none
   |none=>none
  |none=>none
 |none=>none
variable{s:me}
theorem aoM{P:Program}(hm:P.follows .mixedOrders=true){sh:TypeId->Option Sh}{S:Kn}(hS:pR P S){E:Env}(hE:sT P E){loops:nF (Out s.outs)}(hl:∀x∈fU c,nW P Real s.lay.nx e.ntmps x (loops (kN x)))
  (hf:P.funcs[f]?=some e) (hname:(e.name == "runtime.NumGoroutine")=false) (hb:e.body=some c)
  (h:∀d o,s.F d=some o->yB P sh S E dep loops e c s.np s.nr s.lay d=some o):kM P f s:=by
 refine⟨⟨e,c,hf,hname,hb⟩,?_⟩;intro d o ho st ex st' hp hs X vs args hX H hr hv hR;have hrun:=h d o ho;unfold yB at hrun;rw[hp]at hrun;dsimp only at hrun;rw[hv]at hrun;dsimp only at hrun;split at hrun<;>try cases hrun
 rename_i T hT;have hn:st.h.next=s.lay.nx:=by
  unfold ak.put at hp
  grind
 rw[<-hX]at hrun;obtain⟨y,avU,hk,Tk⟩:=JN (G:=Real) hm (JM hm hS hE dep) (base:=s.lay.nx) c hl _ _ _ hrun;refine calls_of_wp hf hb ?_;refine Tk X X _ ⟨by grind,hr⟩ H (bL.refl X) (y8 H hT hR) _ ?_;intro X' a' R' E';have main:(match lU P avU e.results.toList with
   |some rs=>match Nat.beq (vh rs) s.nr,kQ s.nr rs 0 .nil with|true,some T=>pN s.lay.nx s.nr s.outs .ret ⟨T,avU.h⟩|_,_=>none
   |none=>none)=some o->a'.defers=[]/\∃V,(results e a'.tmps).run P X'.w=.ok V X'.w/\∃X'' Vs,Ending.returned V=.returned (mX Vs)/\X''.w=X'.w/\X''.h=st'.h/\bn X''/\bL X X''/\∀us,oA st'.T s.nr 0=some us->cE X'' us Vs:=by
  intro hk;split at hk<;>try cases hk
  rename_i rs hrs;split at hk<;>try cases hk
  rename_i auO hlen avf;have hlen:=db hlen;rw[Pw]at hlen;obtain⟨Vs,g1,g2⟩:=TS R' hrs;have hVl:Vs.length=s.nr:=by rw[g2.length];exact hlen
  have auI:=y8 R'.H avf g2;rw[R'.h]at auI;obtain⟨X'',w'',auJ,aut⟩:=(Up hk hs).2 ⟨by grind,hr⟩ H E' auI;refine⟨R'.T.defers,_,g1,X'',Vs,rfl,w'',auJ.h,auJ.H,aut,fun us hus=>Ua auJ.T hus hVl (fun t ht=>?_)⟩
  grind
 cases y with
 |exit i=>simp only[]at hk;cases hk
 |normal=>exact main hk|ret=>exact main hk
structure abQ where
 lay:ak
 own:List (Tmp×Sh×TypeId)
 outs:List (Ex×ak)
 L:be lay outs
def xF{R:Type}(base n:Nat)(s:abQ)(st:St)(k:Ex->St->Option R):Option R:=match enter base n s.lay s.own st with|some d=>aA (s.L d) fun o=>tC n s.outs o k|none=>none
def yA(P:Program)(sh:TypeId->Option Sh)(S:Kn)(E:Env)(dep base n:Nat)(lay:ak)(outs:List (Ex×ak))(loops:nF (TL lay.σs⊕Out outs))(x:Code)(d:TL lay.σs):am lay outs:=match lay.put n d with
 |some st=>runK P sh (xv P sh S E dep) loops n x st fun e st=>match e with
  |.normal=>match enter base n lay [] st with|some d=>aul d|none=>none
  |.exit i=>match pN base n outs (.exit i) st with|some o=>aum o|none=>none
  |.ret=>match pN base n outs .ret st with|some o=>aum o|none=>none
 |none=>none
def bj{D O:Type}(B:D->Option (D⊕O)):Nat->D->Option O
 |0,_=>none|m+1,d=>match B d with
  |some r=>match r with|.inl d=>bj B m d|.inr o=>some o
  |none=>none
variable{n:Nat}{x:Code}{base:Nat}
theorem Zby{R:Type}{P:Program}(hm:P.follows .mixedOrders=true){sh:TypeId->Option Sh}{S:Kn}(hS:pR P S){E:Env}(hE:sT P E){s:abQ}{loops:nF (TL s.lay.σs⊕Out s.outs)}
  (hl:∀y∈fU x,nW P Real base n y (loops (kN y))) (h:∀d o,s.L d=some o->∃m,bj (yA P sh S E dep base n s.lay s.outs loops x) m d=some o):nW P Real base n x (xF (R:=R) base n s):=by
 intro st k r e;unfold xF at e;split at e<;>try cases e
 rename_i d hd;obtain⟨o,ho,hk⟩:=FX e;obtain⟨ex,st',hs,hk⟩:=Ps hk;obtain⟨m,hmm⟩:=h d o ho;have key:∀m d,bj (yA P sh S E dep base n s.lay s.outs loops x) m d=some o->∃st,s.lay.put n d=some st/\∀X₀ X a,(X₀.h.next=base/\Real X₀)->bn X₀->bL X₀ X->RF X n st a->∀Q:Exit->Act->World->Prop,
   (∀X' a',RF X' n st' a'->bL X₀ X'->Q ex.to a' X'.w)->Code.rounds P x Q m a X.w:=by
  intro m
  induction m with
  |zero=>intro d e;cases e
  |succ m ih=>
   intro d e;simp only[bj]at e;split at e<;>try cases e
   rename_i rr hB;unfold yA at hB;split at hB<;>try cases hB
   rename_i avT hp;refine⟨avT,hp,?_⟩;obtain⟨avb,avU,avp,Tk⟩:=JN (G:=Real) hm (JM hm hS hE dep) (base:=base) x hl _ _ _ hB;intro X₀ X a hb auB hE RR Q hQ;rw[rounds_succ];refine Tk X₀ X a hb auB hE RR _ ?_;intro X' a' R' E';have out:∀i o',pN base n s.outs i avU=some o'->some (Sum.inr o')=some rr->Q i.to a' X'.w:=by
    intro i o' ho' avp;cases avp;simp only[dm]at e;subst e;obtain⟨q1,q2⟩:=Up ho' hs
    grind
   cases avb with
   |normal=>simp only[]at avp;split at avp<;>cases avp;rename_i d' hd';simp only[]at e;obtain⟨avV,avr,rest⟩:=ih d' e;obtain⟨X'',hw,R'',E''⟩:=JK hd' avr hb auB E' R';have:=rest X₀ X'' a' hb auB E'' R'' Q hQ;rw[hw]at this;exact this
   |exit i=>
    simp only[]at avp;split at avp<;>try cases avp
    rename_i o' ho';exact out (.exit i) o' ho' rfl
   |ret=>
    simp only[]at avp;split at avp<;>try cases avp
    rename_i o' ho';exact out .ret o' ho' rfl
 obtain⟨avT,hp,S'⟩:=key m d hmm;refine⟨ex,st',hk,?_⟩;intro X₀ X a hb auB hE RR Q hQ;obtain⟨X₁,awh,auH,aur⟩:=JK hd hp hb auB hE RR;have:=S' X₀ X₁ a hb auB aur auH Q hQ;rw[awh]at this;exact wp_loop_rounds m this
def shL(f:TypeId->Option Sh):List Field->Option (List Sh)
 |[]=>some []|x::l=>match f x.type with
  |some s=>match shL f l with|some r=>some (s::r)|none=>none
  |none=>none
def qf(P:Program):Nat->TypeId->Option Sh
 |0,_=>none|k+1,t=>match P.underlying t with
  |some d=>match d with
   |.bool=>some .bool|.int k=>some (.int k)|.string=>some .str|.slice e=>match qf P k e with|some s=>some (.sl s)|none=>none
   |.struct fs=>match shL (qf P k) fs.toList with|some l=>some (.agg l)|none=>none
   |_=>none
  |none=>none
def bt(f:Func):Code:=match f.body with|some c=>c|none=>.skip
def bI:md->Code->Code
 |[],c=>c|i::l,c=>match Ev.nth (fU c) i with|some x=>bI l x|none=>.skip
def FD:List (Nat×Spec)->xq
 |[],_=>none|p::l,f=>match Nat.beq p.1 f with|true=>some p.2|false=>FD l f
def xM:List (Nat×me)->P5
 |[],_=>[]|p::l,f=>match Nat.beq p.1 f with|true=>p.2::xM l f|false=>xM l f
def nP:List (Nat×Func)->Env
 |[],_=>none|p::l,f=>match Nat.beq p.1 f with|true=>some p.2|false=>nP l f
theorem yI{P:Program}:∀{l:List (Nat×Func)},(∀p∈l,P.funcs[p.1]?=some p.2/\(p.2.name == "runtime.NumGoroutine")=false)->sT P (nP l)
 |[],_,f,e,h=>by cases h
 |p::l,hC,f,e,h=>by
  simp only[nP]at h;split at h
  .rename_i q
   simp_all
  .exact yI (fun p' hp=>hC p' (by simp[hp])) f e h
def kn(l:List (Nat×Spec))(q:List (Nat×me)):Kn:=⟨FD l,xM q⟩
theorem adb{P:Program}:∀{l:List (Nat×Spec)},(∀p∈l,Comes P p.1 p.2.σs p.2.τs p.2.F)->PA P (FD l)
 |[],_,f,s,h=>by cases h
 |p::l,hC,f,s,h=>by
  simp only[FD]at h;split at h
  .rename_i q;cases h
   simp_all
  .exact adb (fun p' hp=>hC p' (by simp[hp])) f s h
theorem Uc{P:Program}:∀{l:List (Nat×me)},(∀p∈l,kM P p.1 p.2)->adE P (xM l)
 |[],_,f,s,h=>by cases h
 |p::l,hC,f,s,h=>by
  simp only[xM]at h;split at h
  .rename_i q;have q:=db q;rcases Fn.1 h with rfl|h
   .rw[<-q];exact hC p aue
   .exact Uc (fun p' hp=>hC p' (by simp[hp])) f s h
  .exact Uc (fun p' hp=>hC p' (by simp[hp])) f s h
theorem aoe{P:Program}{l:List (Nat×Spec)}{q:List (Nat×me)}(h1:∀p∈l,Comes P p.1 p.2.σs p.2.τs p.2.F)(h2:∀p∈q,kM P p.1 p.2):pR P (kn l q):=⟨adb h1,Uc h2⟩
set_option maxRecDepth 100000
abbrev iL(a b:Int):Bool:=@decide _ (Int.decLt a b)
abbrev iE(a b:Int):Bool:=@decide _ (Int.decLe a b)
abbrev iQ(a b:Int):Bool:=@decide _ (Int.instDecidableEq a b)
abbrev bQ(a b:Bool):Bool:=@decide _ (instDecidableEqBool a b)
abbrev nQ(a b:Nat):Bool:=@decide _ (instDecidableEqNat a b)
section
variable{a1 a2 a3 a4 a5 a6 a7 a8 a9 a10 a11 a12 a13 a14 a15 a16 a17 a18 a19 a20 a21 a22 a23 a24 z r:Type}
abbrev u1(f:a1->r)(d:a1×z):r:=f d.1
abbrev u2(f:a1->a2->r)(d:a1×a2×z):r:=f d.1 d.2.1
abbrev u3(f:a1->a2->a3->r)(d:a1×a2×a3×z):r:=f d.1 d.2.1 d.2.2.1
abbrev u4(f:a1->a2->a3->a4->r)(d:a1×a2×a3×a4×z):r:=f d.1 d.2.1 d.2.2.1 d.2.2.2.1
abbrev u5(f:a1->a2->a3->a4->a5->r)(d:a1×a2×a3×a4×a5×z):r:=f d.1 d.2.1 d.2.2.1 d.2.2.2.1 d.2.2.2.2.1
abbrev u6(f:a1->a2->a3->a4->a5->a6->r)(d:a1×a2×a3×a4×a5×a6×z):r:=f d.1 d.2.1 d.2.2.1 d.2.2.2.1 d.2.2.2.2.1 d.2.2.2.2.2.1
abbrev u7(f:a1->a2->a3->a4->a5->a6->a7->r)(d:a1×a2×a3×a4×a5×a6×a7×z):r:=f d.1 d.2.1 d.2.2.1 d.2.2.2.1 d.2.2.2.2.1 d.2.2.2.2.2.1 d.2.2.2.2.2.2.1
abbrev u8(f:a1->a2->a3->a4->a5->a6->a7->a8->r)(d:a1×a2×a3×a4×a5×a6×a7×a8×z):r:=f d.1 d.2.1 d.2.2.1 d.2.2.2.1 d.2.2.2.2.1 d.2.2.2.2.2.1 d.2.2.2.2.2.2.1 d.2.2.2.2.2.2.2.1
abbrev u9(f:a1->a2->a3->a4->a5->a6->a7->a8->a9->r)(d:a1×a2×a3×a4×a5×a6×a7×a8×a9×z):r:=f d.1 d.2.1 d.2.2.1 d.2.2.2.1 d.2.2.2.2.1 d.2.2.2.2.2.1 d.2.2.2.2.2.2.1 d.2.2.2.2.2.2.2.1 d.2.2.2.2.2.2.2.2.1
abbrev ei(f:a1->a2->a3->a4->a5->a6->a7->a8->a9->a10->r)(d:a1×a2×a3×a4×a5×a6×a7×a8×a9×a10×z):r:=f d.1 d.2.1 d.2.2.1 d.2.2.2.1 d.2.2.2.2.1 d.2.2.2.2.2.1 d.2.2.2.2.2.2.1 d.2.2.2.2.2.2.2.1 d.2.2.2.2.2.2.2.2.1 d.2.2.2.2.2.2.2.2.2.1
abbrev ju(f:a1->a2->a3->a4->a5->a6->a7->a8->a9->a10->a11->r)(d:a1×a2×a3×a4×a5×a6×a7×a8×a9×a10×a11×z):r:=f d.1 d.2.1 d.2.2.1 d.2.2.2.1 d.2.2.2.2.1 d.2.2.2.2.2.1 d.2.2.2.2.2.2.1 d.2.2.2.2.2.2.2.1 d.2.2.2.2.2.2.2.2.1 d.2.2.2.2.2.2.2.2.2.1 d.2.2.2.2.2.2.2.2.2.2.1
abbrev bV(f:a1->a2->a3->a4->a5->a6->a7->a8->a9->a10->a11->a12->r)(d:a1×a2×a3×a4×a5×a6×a7×a8×a9×a10×a11×a12×z):r:=f d.1 d.2.1 d.2.2.1 d.2.2.2.1 d.2.2.2.2.1 d.2.2.2.2.2.1 d.2.2.2.2.2.2.1 d.2.2.2.2.2.2.2.1 d.2.2.2.2.2.2.2.2.1 d.2.2.2.2.2.2.2.2.2.1 d.2.2.2.2.2.2.2.2.2.2.1 d.2.2.2.2.2.2.2.2.2.2.2.1
abbrev cy(d:a1×a2×a3×a4×a5×a6×a7×a8×a9×a10×a11×a12×z):z:=d.2.2.2.2.2.2.2.2.2.2.2.2
abbrev iT(f:a1->a2->a3->a4->a5->a6->a7->a8->a9->a10->a11->a12->a13->r)(d:a1×a2×a3×a4×a5×a6×a7×a8×a9×a10×a11×a12×a13×z):r:=u1 (bV f d) (cy d)
abbrev gA(f:a1->a2->a3->a4->a5->a6->a7->a8->a9->a10->a11->a12->a13->a14->r)(d:a1×a2×a3×a4×a5×a6×a7×a8×a9×a10×a11×a12×a13×a14×z):r:=u2 (bV f d) (cy d)
abbrev fW(f:a1->a2->a3->a4->a5->a6->a7->a8->a9->a10->a11->a12->a13->a14->a15->r)(d:a1×a2×a3×a4×a5×a6×a7×a8×a9×a10×a11×a12×a13×a14×a15×z):r:=u3 (bV f d) (cy d)
abbrev u16(f:a1->a2->a3->a4->a5->a6->a7->a8->a9->a10->a11->a12->a13->a14->a15->a16->r)(d:a1×a2×a3×a4×a5×a6×a7×a8×a9×a10×a11×a12×a13×a14×a15×a16×z):r:=u4 (bV f d) (cy d)
abbrev gK(f:a1->a2->a3->a4->a5->a6->a7->a8->a9->a10->a11->a12->a13->a14->a15->a16->a17->r)(d:a1×a2×a3×a4×a5×a6×a7×a8×a9×a10×a11×a12×a13×a14×a15×a16×a17×z):r:=u5 (bV f d) (cy d)
abbrev mC(f:a1->a2->a3->a4->a5->a6->a7->a8->a9->a10->a11->a12->a13->a14->a15->a16->a17->a18->r)(d:a1×a2×a3×a4×a5×a6×a7×a8×a9×a10×a11×a12×a13×a14×a15×a16×a17×a18×z):r:=u6 (bV f d) (cy d)
abbrev nq(f:a1->a2->a3->a4->a5->a6->a7->a8->a9->a10->a11->a12->a13->a14->a15->a16->a17->a18->a19->r)(d:a1×a2×a3×a4×a5×a6×a7×a8×a9×a10×a11×a12×a13×a14×a15×a16×a17×a18×a19×z):r:=u7 (bV f d) (cy d)
abbrev kZ(f:a1->a2->a3->a4->a5->a6->a7->a8->a9->a10->a11->a12->a13->a14->a15->a16->a17->a18->a19->a20->r)(d:a1×a2×a3×a4×a5×a6×a7×a8×a9×a10×a11×a12×a13×a14×a15×a16×a17×a18×a19×a20×z):r:=u8 (bV f d) (cy d)
abbrev Ux(f:a1->a2->a3->a4->a5->a6->a7->a8->a9->a10->a11->a12->a13->a14->a15->a16->a17->a18->a19->a20->a21->r)(d:a1×a2×a3×a4×a5×a6×a7×a8×a9×a10×a11×a12×a13×a14×a15×a16×a17×a18×a19×a20×a21×z):r:=u9 (bV f d) (cy d)
abbrev lF(f:a1->a2->a3->a4->a5->a6->a7->a8->a9->a10->a11->a12->a13->a14->a15->a16->a17->a18->a19->a20->a21->a22->r)(d:a1×a2×a3×a4×a5×a6×a7×a8×a9×a10×a11×a12×a13×a14×a15×a16×a17×a18×a19×a20×a21×a22×z):r:=ei (bV f d) (cy d)
abbrev qC(f:a1->a2->a3->a4->a5->a6->a7->a8->a9->a10->a11->a12->a13->a14->a15->a16->a17->a18->a19->a20->a21->a22->a23->r)(d:a1×a2×a3×a4×a5×a6×a7×a8×a9×a10×a11×a12×a13×a14×a15×a16×a17×a18×a19×a20×a21×a22×a23×z):r:=ju (bV f d) (cy d)
abbrev pg(f:a1->a2->a3->a4->a5->a6->a7->a8->a9->a10->a11->a12->a13->a14->a15->a16->a17->a18->a19->a20->a21->a22->a23->a24->r)(d:a1×a2×a3×a4×a5×a6×a7×a8×a9×a10×a11×a12×a13×a14×a15×a16×a17×a18×a19×a20×a21×a22×a23×a24×z):r:=bV (bV f d) (cy d)
end
abbrev ap{α:Type}(a b:List α):List α:=a++b
def gt(σ:Sh)(L:List σ.T)(i:Int):σ.T:=List.getD L i.toNat σ.zero
def NN:Nat:=10000000000000000000000000000000000000000
theorem Ir:Tryz.prog.follows .mixedOrders=true:=aud
theorem acR{D O:Type}{B B':D->Option (D⊕O)}(h:∀d,B d=B' d):∀m d,bj B m d=bj B' m d
 |0,d=>rfl|m+1,d=>by
  simp only[bj,h d];split
  .split
   .exact acR h m _
   .rfl
  .rfl
variable{D:Type}{O:Type}{B:D->Option (D⊕O)}
theorem aoj{B':D->Option (D⊕O)}(h:∀d,B d=B' d):∀d o,bj B' NN d=some o->∃m,bj B m d=some o:=fun d o e=>⟨NN,by rw[acR h];exact e⟩
theorem S6{F G:D->Option O}(h:∀d,F d=G d):∀d o,G d=some o->F d=some o:=by grind
theorem Zi0{P:Program}(hf:P.funcs[f]?=some e)(hname:(e.name == "runtime.NumGoroutine")=false)(hb:e.body=some c)(hm:P.follows .mixedOrders=true){sh:TypeId->Option Sh}{S:Kn}(hS:pR P S){E:Env}(hE:sT P E)
  {loops:nF (Out s.outs)}(base n:Nat) (h1:s.lay.nx=base) (h2:e.ntmps=n) (hl:∀x∈fU c,nW P Real base n x (loops (kN x))) (h:∀d o,s.F d=some o->yB P sh S E dep loops e c s.np s.nr s.lay d=some o):kM P f s:=by
 subst h1;subst h2;exact aoM hm hS hE hl hf hname hb h
theorem Zd1{P:Program}(hf:P.funcs[f]?=some e)(hname:(e.name == "runtime.NumGoroutine")=false)(hb:e.body=some c)(hm:P.follows .mixedOrders=true){sh:TypeId->Option Sh}{S:Kn}(hS:pR P S){E:Env}(hE:sT P E)
  (n:Nat) (h2:e.ntmps=n) (hl:∀x∈fU c,nW P Real 0 n x (loops (kN x))) (h:∀d x,F d=some x->tF P sh S E dep loops e c σs d=some x):Comes P f σs τs F:=by
 subst h2;exact ao3 hm hS hE hl hf hname hb h
variable{np:Nat}{outs:List (Ev.Ex×ak)}{lay:ak}{nr:Nat}
theorem apj{P:Program}(hf:P.funcs[f]?=some e)(hname:(e.name == "runtime.NumGoroutine")=false)(hb:e.body=some c):kM P f ⟨np,lay,nr,outs,fun _=>none⟩:=⟨⟨e,c,hf,hname,hb⟩,fun d o h=>by cases h⟩
structure Kd(f:FuncId)(σs τs:List Sh) where
 F:TL σs->Option (TL τs)
 ok:Comes Tryz.prog f σs τs F
structure Kb(f:FuncId)(np:Nat)(lay:ak)(nr:Nat)(outs:List (Ev.Ex×ak)) where
 F:be lay outs
 ok:kM Tryz.prog f ⟨np,lay,nr,outs,F⟩
structure Ld(base n:Nat)(x:Code)(lay:ak)(outs:List (Ev.Ex×ak)) where
 L:be lay outs
 ok:∀{R:Type},nW Tryz.prog Real base n x (xF (R:=R) base n ⟨lay,[],outs,L⟩)
structure KN where
 l:List (Nat×Spec)
 q:List (Nat×me)
 h1:∀p∈l,Comes Tryz.prog p.1 p.2.σs p.2.τs p.2.F
 h2:∀p∈q,kM Tryz.prog p.1 p.2
def k0:KN:=⟨[],[],atO _,atO _⟩
def kD{f:FuncId}{σs τs:List Sh}(k:Kd f σs τs)(s:KN):KN:=⟨(f,⟨σs,τs,k.F⟩)::s.l,s.q,List.forall_mem_cons.2 ⟨k.ok,s.h1⟩,s.h2⟩
def kB{f np:Nat}{lay:ak}{nr:Nat}{outs:List (Ev.Ex×ak)}(k:Kb f np lay nr outs)(s:KN):KN:=⟨s.l,(f,⟨np,lay,nr,outs,k.F⟩)::s.q,s.h1,List.forall_mem_cons.2 ⟨k.ok,s.h2⟩⟩
def KN.kn(s:KN):Kn:=V.kn s.l s.q
theorem KN.ok(s:KN):pR Tryz.prog s.kn:=aoe s.h1 s.h2
structure EN where
 l:List (Nat×Func)
 h:∀p∈l,Tryz.prog.funcs[p.1]?=some p.2/\(p.2.name == "runtime.NumGoroutine")=false
def e0:EN:=⟨[],atO _⟩
def eC{f:FuncId}{e:Func}(h:Tryz.prog.funcs[f]?=some e)(h2:(e.name == "runtime.NumGoroutine")=false)(s:EN):EN:=⟨(f,e)::s.l,List.forall_mem_cons.2 ⟨⟨h,h2⟩,s.h⟩⟩
abbrev jV:=(R:Type)->nF R
def LN(base n:Nat)(cs:List Code)(tab:jV):Prop:=∀R,∀y∈cs,nW Tryz.prog Real base n y (tab R (kN y))
def asb:jV:=fun R _ _ _=>none
theorem l0:LN base n [] asb:=fun _=>atO _
def other(x:Code):List Code->Bool
 |[]=>true|y::l=>match Nat.beq (kN x) (kN y)with|true=>false|false=>other x l
theorem afS{x:Code}:∀{l:List Code},other x l=true->∀y∈l,Nat.beq (kN x) (kN y)=false
 |[],_,y,h=>by cases h
 |z::l,h,y,hy=>by
  simp only[other]at h;split at h
  .cases h
  rename_i q;rcases Fn.1 hy with rfl|hy
  .exact q
  .exact afS h y hy
def Sj(x:Code)(g:(R:Type)->St->(Ev.Ex->St->Option R)->Option R)(t:jV):jV:=fun R i st k=>match Nat.beq (kN x) i with|true=>g R st k|false=>t R i st k
variable{cs:List Code}{t:jV}
theorem lX{g:(R:Type)->St->(Ev.Ex->St->Option R)->Option R}(hg:∀R,nW Tryz.prog Real base n x (g R))(s:LN base n cs t)(h:other x cs=true):LN base n (x::cs) (Sj x g t):=by
 intro R y hy;unfold Sj;rcases Fn.1 hy with rfl|hy
 .simp only[Nat.beq_refl];exact hg R
 .simp only[afS h y hy];exact s R y hy
def agj{base n:Nat}{x:Code}{lay:ak}{outs:List (Ev.Ex×ak)}(k:Ld base n x lay outs)(t:jV):jV:=Sj x (fun R=>xF base n ⟨lay,[],outs,k.L⟩) t
theorem lC(k:Ld base n x lay outs)(s:LN base n cs t)(h:other x cs=true):LN base n (x::cs) (agj k t):=lX (fun R=>k.ok) s h
def LB(base n:Nat)(x:Code)(lay:ak)(outs:List (Ev.Ex×ak))(B:TL lay.σs->am lay outs):Prop:=∀{R:Type},nW Tryz.prog Real base n x (xF (R:=R) base n ⟨lay,[],outs,bj B NN⟩)
theorem prL(K:KN)(E:EN)(dep:Nat)(T:LN base n cs t)(hl:fU x=cs){B:TL lay.σs->am lay outs}
  (h:∀d,yA Tryz.prog (qf Tryz.prog 20) K.kn (nP E.l) dep base n lay outs (t _) x d=B d):LB base n x lay outs B:=
 fun{R}=>Zby (s:=⟨lay,[],outs,bj B NN⟩) Ir K.ok (yI E.h) (by rw[hl];exact T _) (aoj h)
def bJ{base n:Nat}{x:Code}{lay:ak}{outs:List (Ev.Ex×ak)}(B:TL lay.σs->am lay outs)(h:LB base n x lay outs B):Ld base n x lay outs:=⟨bj B NN,h⟩
theorem prD(hf:Tryz.prog.funcs[f]?=some e)(n:Nat)(K:KN)(E:EN)(dep:Nat)(T:LN 0 n (fU (bt e)) t)(hn:(e.name == "runtime.NumGoroutine")=false)(hb:e.body=some (bt e))(hm:e.ntmps=n)
  (h:∀d,tF Tryz.prog (qf Tryz.prog 20) K.kn (nP E.l) dep (t _) e (bt e) σs d=F d):Comes Tryz.prog f σs τs F:=
 Zd1 hf hn hb Ir K.ok (yI E.h) n hm (T _) (S6 h)
def shZ(P:Program)(t:TypeId):Option Sh:=match Nat.beq t 1000000000 with|true=>some .bool|false=>qf P 20 t
theorem ar9(hf:Tryz.prog.funcs[f]?=some e)(n:Nat)(K:KN)(E:EN)(dep:Nat)(T:LN 0 n (fU (bt e)) t)(hn:(e.name == "runtime.NumGoroutine")=false)(hb:e.body=some (bt e))(hm:e.ntmps=n)
  (h:∀d,tF Tryz.prog (shZ Tryz.prog) K.kn (nP E.l) dep (t _) e (bt e) σs d=F d):Comes Tryz.prog f σs τs F:=
 Zd1 hf hn hb Ir K.ok (yI E.h) n hm (T _) (S6 h)
theorem prB(hf:Tryz.prog.funcs[f]?=some e)(n:Nat)(K:KN)(E:EN)(dep:Nat)(T:LN lay.nx n (fU (bt e)) t)(hn:(e.name == "runtime.NumGoroutine")=false)(hb:e.body=some (bt e))(hm:e.ntmps=n){F:be lay outs}
  (h:∀d,yB Tryz.prog (qf Tryz.prog 20) K.kn (nP E.l) dep (t _) e (bt e) np nr lay d=F d):kM Tryz.prog f ⟨np,lay,nr,outs,F⟩:=
 Zi0 (s:=⟨np,lay,nr,outs,F⟩) hf hn hb Ir K.ok (yI E.h) lay.nx n rfl hm (T _) (S6 h)
theorem lS(T:LN base n cs t)(hl:fU c=cs):LN base n (fU c) t:=by grind
theorem pL(K:KN)(E:EN)(dep:Nat)(T:LN base n cs t){B:TL lay.σs->am lay outs}
  (h:∀d,yA Tryz.prog (qf Tryz.prog 20) K.kn (nP E.l) dep base n lay outs (t _) x d=B d) (hl:fU x=cs:=by kernel_rfl):LB base n x lay outs B:=prL K E dep T hl h
theorem pD(hf:Tryz.prog.funcs[f]?=some e)(n:Nat)(K:KN)(E:EN)(dep:Nat)(T:LN 0 n (fU (bt e)) t)
  (h:∀d,tF Tryz.prog (qf Tryz.prog 20) K.kn (nP E.l) dep (t _) e (bt e) σs d=F d) (hn:(e.name == "runtime.NumGoroutine")=false:=by kernel_rfl) (hb:e.body=some (bt e):=by kernel_rfl) (hm:e.ntmps=n:=by kernel_rfl):Comes Tryz.prog f σs τs F:=prD hf n K E dep T hn hb hm h
theorem pZ(hf:Tryz.prog.funcs[f]?=some e)(n:Nat)(K:KN)(E:EN)(dep:Nat)(T:LN 0 n (fU (bt e)) t)
  (h:∀d,tF Tryz.prog (shZ Tryz.prog) K.kn (nP E.l) dep (t _) e (bt e) σs d=F d) (hn:(e.name == "runtime.NumGoroutine")=false:=by kernel_rfl) (hb:e.body=some (bt e):=by kernel_rfl) (hm:e.ntmps=n:=by kernel_rfl):Comes Tryz.prog f σs τs F:=ar9 hf n K E dep T hn hb hm h
theorem pB(hf:Tryz.prog.funcs[f]?=some e)(n:Nat)(K:KN)(E:EN)(dep:Nat)(T:LN lay.nx n (fU (bt e)) t){F:be lay outs}
  (h:∀d,yB Tryz.prog (qf Tryz.prog 20) K.kn (nP E.l) dep (t _) e (bt e) np nr lay d=F d) (hn:(e.name == "runtime.NumGoroutine")=false:=by kernel_rfl) (hb:e.body=some (bt e):=by kernel_rfl) (hm:e.ntmps=n:=by kernel_rfl):kM Tryz.prog f ⟨np,lay,nr,outs,F⟩:=prB hf n K E dep T hn hb hm h
theorem sS(T:LN base n cs t)(hl:fU c=cs:=by kernel_rfl):LN base n (fU c) t:=lS T hl
theorem sC(k:Ld base n x lay outs)(s:LN base n cs t)(h:other x cs=true:=by kernel_rfl):LN base n (x::cs) (agj k t):=lC k s h
def Uu{f:FuncId}{e:Func}{np:Nat}{lay:ak}{nr:Nat}{outs:List (Ev.Ex×ak)}(hf:Tryz.prog.funcs[f]?=some e)(hn:(e.name == "runtime.NumGoroutine")=false)(hb:e.body=some (bt e)):Kb f np lay nr outs:=⟨fun _=>none,apj hf hn hb⟩
variable{b:Bool}
theorem bR{R:Type}{x y:Option R}(h:b=true):br b x y=x:=by rw[h];rfl
theorem bC{R:Type}{x y:Option R}(h:b=false):br b x y=y:=by rw[h];rfl
theorem aW{R:Type}{x:Option R}(h:b=true):aj b x=x:=by rw[h];rfl
variable{α:Type}{a:α}
theorem bg{R:Type}{x:Option α}{k:α->Option R}(h:x=some a):aA x k=k a:=by rw[h];rfl
theorem ba{R:Type}{x y z:Option R}(h:b=true)(e:x=z):br b x y=z:=(bR h).trans e
theorem aN{R:Type}{x y z:Option R}(h:b=false)(e:y=z):br b x y=z:=(bC h).trans e
theorem aK{R:Type}{x z:Option R}(h:b=true)(e:x=z):aj b x=z:=(aW h).trans e
theorem aZ{R:Type}{x:Option α}{k:α->Option R}{z:Option R}(h:x=some a)(e:k a=z):aA x k=z:=(bg h).trans e
theorem aP{i:Int}(h:0<=i/\i<(n:Int)):an i n=true:=by simp[an,h.1,h.2]
theorem aug{i:Int}(h:0<=i/\i<(n:Int):=by omega):an i n=true:=aP h
theorem q9{a:Nat}(h:(2*n+192)*a<=281474976710656)(h2:n<=1099511627776):room a n=true:=by simp[room,both,h,h2]
theorem Hv:bK false true b=b:=rfl
theorem sZ(h:b=false):Bool.not b=true:=by rw[h];rfl
theorem qU(h:b=true):Bool.not b=false:=by rw[h];rfl
variable{p:Prop}{i:Decidable p}
theorem aF(h:p):@decide p i=true:=fm h
theorem auj(h:p:=by omega):@decide p i=true:=aF h
theorem aJ(h:¬p):@decide p i=false:=jC h
theorem aui(h:¬p:=by omega):@decide p i=false:=aJ h
theorem bP{x:Int}(h:-9223372036854775808<=x/\x<=9223372036854775807):pu x=x:=IntWalk.i64_in _ auc
theorem auk{x:Int}(h:-9223372036854775808<=x/\x<=9223372036854775807:=by omega):pu x=x:=bP h
theorem bz{σ:Sh}{L:List σ.T}{i:Nat}{x:σ.T}(h:L[i]?=some x):gt σ L (i:Int)=x:=by
 unfold gt
 grind
theorem vR(f:Nat->D)(n:Nat){o:O}(hs:∀i,i<n->B (f i)=aul (f (i+1)))(he:B (f n)=aum o):∀N,n<N->bj B N (f 0)=some o:=by
 have main:∀k i,i+k=n->∀N,k<N->bj B N (f i)=some o:=by
  intro k
  induction k with
  |zero=>
   intro i hi N hN;obtain⟨M,rfl⟩:∃M,N=M+1:=⟨N-1,auc⟩;have:i=n:=auc
   subst this;simp only[bj,he]
  |succ k ih=>
   intro i hi N hN;obtain⟨M,rfl⟩:∃M,N=M+1:=⟨N-1,auc⟩;simp only[bj,hs i auc]
   grind
 grind
theorem cO(f:Nat->D)(n:Nat){d:D}{o:O}(hd:d=f 0)(hs:∀i,i<n->B (f i)=aul (f (i+1)))(he:B (f n)=aum o){N:Nat}(hN:n<N):bj B N d=some o:=by subst hd;exact vR f n hs he N hN
theorem eX{a:Nat}{L:List α}{x:α}(h:L.length<=100000000)(ha:a<=1000):room a (List.length (L++(x::[])))=true:=by
 have h3:List.length (L++(x::[]))=L.length+1:=by grind
 have h2:(2*(L.length+1)+192)*a<=(2*(L.length+1)+192)*1000:=Nat.mul_le_mul_left _ ha;rw[h3];exact q9 auc auc
theorem jD(I:D->Prop)(Q:O->Prop)(μ:D->Nat)(h:∀d,I d->(∃o,B d=aum o/\Q o)\/∃d',B d=aul d'/\I d'/\μ d'<μ d):∀N d,I d->μ d<N->∃o,bj B N d=some o/\Q o:=by
 intro N
 induction N with
 |zero=>intro d _ h;omega|succ N ih=>
  intro d hI hN;rcases h d hI with⟨o,h1,h2⟩|⟨d',h1,h2,h3⟩
  .exact⟨o,by simp only[bj,h1],h2⟩
  .obtain⟨o,g1,g2⟩:=ih d' h2 auc;exact⟨o,by simp only[bj,h1];exact g1,g2⟩
theorem bG(h:n<=1000000000000000000):n<NN:=by unfold NN;omega
theorem auh(h:n<=1000000000000000000:=by omega):n<NN:=bG h
abbrev bO:Sh:=(.agg [.I,(.sl .I)])
abbrev ge:=List (Sh.T bO)
abbrev aH:Sh:=(.agg [.bool,.I,.I])
abbrev eq:=List (Sh.T aH)
abbrev ae:Sh:=(.agg [.I,.I,.I])
abbrev bv:=List (Sh.T ae)
abbrev bu:Sh:=(.agg [.I,(.sl .I),(.sl .I)])
abbrev ii:=List (Sh.T bu)
abbrev bT:Sh:=(.agg [.bool,.I,.I,(.sl .I),(.sl .I)])
abbrev ip:=List (Sh.T bT)
abbrev ai:Sh:=(.agg [.I,.I,.bool,(.sl bO),(.sl bu)])
abbrev ce:=List (Sh.T ai)
abbrev cJ:Sh:=(.agg [.I,(.sl .I),(.sl ae),(.sl .I),(.sl .I),(.sl .I),(.sl ai),(.sl ae)])
abbrev dx:List LA:=[.I,.fz .I,.fz ae,.fz .I,.fz .I,.fz .I,.fz ai,.fz ae]
open Go.ChangeShapes Go.WideShapes Go.ChangeAt Go.Deep
def PF:Sh->TypeDesc->Bool
 |.bool,d=>match d with|.bool=>true|_=>false
 |.str,d=>match d with|.string=>true|_=>false
 |.int k,d=>match d with|.int k'=>Nat.beq (Ev.IntKind.num k) (Ev.IntKind.num k')|_=>false
 |_,_=>false
def Hj(P:Program)(f:TypeId->Sh->Bool):List Field->List Sh->Nat->Bool
 |[],l,_=>match l with|[]=>true|_=>false
 |x::fs,l,o=>match l with|[]=>false|s::l=>match Nat.beq x.offset o,Nat.beq (P.cellsOf x.type) s.size,f x.type s with|true,true,true=>Hj P f fs l (o+s.size)|_,_,_=>false
def vc(P:Program):Nat->TypeId->Sh->Bool
 |0,_,_=>false|k+1,t,σ=>match P.underlying t with
  |none=>false|some d=>match d with
   |.slice e=>match σ with
    |.sl s=>match Nat.blt 0 s.size,Nat.beq (P.cellsOf e) s.size with|true,true=>vc P k e s|_,_=>false
    |_=>false
   |.struct fs=>match σ with
    |.agg l=>match Nat.beq (P.cellsOf t) (tc l)with|true=>Hj P (vc P k) fs.toList l 0|false=>false
    |_=>false
   |d=>PF σ d
def mi{α:Type}(Q:α->Prop)(L:List α):Prop:=∀x∈L,Q x
mutual
def pa:(σ:Sh)->σ.T->Prop
 |.int k,n=>(Lit.int k n).wf=true|.bool,_=>True|.str,s=>ByteArray.size s<=maxLen|.agg l,d=>Sa l d|.sl s,L=>List.length L<=maxLen/\mi (pa s) L
termination_by structural x=>x
def Sa:(l:List Sh)->TL l->Prop
 |[],_=>True|s::l,d=>pa s d.1/\Sa l d.2
termination_by structural x=>x
end
section
variable{H:Type}{enc:TypeId×Value->H}{P:Program}{W:World}
theorem Zyr{α:Type}{R:α->mt->Prop}:∀(l:List (α×mt)),(∀p∈l,R p.1 p.2)->cF R (l.map (·.1)) (l.flatMap (·.2))
 |[],_=>rfl|p::l,h=>⟨p.2,l.flatMap (·.2),by grind,h p aue,Zyr l fun q hq=>h q (by simp[hq])⟩
theorem adu{α:Type}{C:Nat}(hC:0<C):∀(l:List (α×mt)),(∀p∈l,p.2.length=C)->∀k,(l.flatMap (·.2))[k]?=l[k / C]?.bind fun x=>x.2[k % C]?
 |[],_,k=>by simp|p::l,h,k=>by
  have hp:=h p aue;rw[ww];rcases adc k C with q|q
  .rw[Ne auc,Nat.div_eq_of_lt q,atV q];rfl
  .rw[In auc,adu hC l (fun q hq=>h q (by simp[hq])),hp];have e1:k / C=(k-C) / C+1:=by rw[Nat.div_eq_sub_div hC q]
   have e2:(k-C) % C=k % C:=by rw[<-Nat.mod_eq_sub_mod q]
   rw[e1,e2];simp
theorem aqb{a:Addr}{u:Value}(h:W.cell? (a.add 0)=some u):a.spot=none:=by
 have e:a.add 0=a:=by unfold Addr.add;simp
 rw[e]at h;unfold World.cell? at h;split at h
 .split at h
  .cases h
  simp_all
 .cases h
theorem ac3{b o j:Nat}{u:Value}(h:W.cell? ((⟨b,o,none⟩:Addr).add j)=some u):∃c ty fr,W.heap[b]?=some (.cells c ty fr)/\c[o+j]?=some u:=by
 rw[Ev.iZ]at h;unfold World.cell? at h
 grind
theorem Zz1{f:TypeId->Sh->Bool}{n:Nat}{cs:mt}(hf:∀t s,f t s=true->∀n cs y,DataW.trod enc P W 0 (fun _=>true) true n t cs=some y->∃d,Cs W (fun _=>False) s d cs/\pa s d) :
  ∀(fs:List Field) (l:List Sh) (o:Nat),Hj P f fs l o=true->o+tc l=cs.length->(∀(i:Nat) (g:Field),fs[i]?=some g->∃y,DataW.trod enc P W 0 (fun _=>true) true n g.type ((cs.drop g.offset).take (P.cellsOf g.type))=some y) ->
   ∃d,iO W (fun _=>False) l d (cs.drop o)/\Sa l d
 |[],l,o,h,hl,_=>by cases l with|nil=>exact⟨(),by show cs.drop o=[];rw[asG];simp only[tc]at hl;omega,trivial⟩|cons s l=>cases h
 |x::fs,l,o,h,hl,hx=>by
  cases l with
  |nil=>cases h
  |cons s l=>
   simp only[Hj]at h;split at h<;>try cases h
   rename_i q1 q2 q3;have q1:=db q1;have q2:=db q2;obtain⟨y,hy⟩:=hx 0 x rfl;obtain⟨d,h1,h2⟩:=hf _ _ q3 _ _ _ hy;rw[tc]at hl;obtain⟨e,h3,h4⟩:=Zz1 hf fs l (o+s.size) h auc (fun i g hg=>hx (i+1) g (by grind));refine⟨(d,e),⟨(cs.drop o).take s.size,cs.drop (o+s.size),?_,?_,h3⟩,h2,h4⟩
   .rw[<-atM,GT]
   .rw[q1,q2]at h1;exact h1
theorem Uk:∀(k:Nat) (t:TypeId) (σ:Sh),vc P k t σ=true->∀n cs y,DataW.trod enc P W 0 (fun _=>true) true n t cs=some y->∃d,Cs W (fun _=>False) σ d cs/\pa σ d
 |0,_,_,h=>by cases h
 |k+1,t,σ,h=>by
  intro n cs y hy;simp only[vc]at h;split at h
  .cases h
  rename_i d hu;split at h
  .rename_i e;split at h<;>try cases h
   rename_i s;split at h<;>try cases h
   rename_i q1 q2;rw[atP]at q1;have q2:=db q2;rcases open_slice hu hy with⟨rfl,_⟩|⟨a,len,cap,m,n',D,Pl,rfl,_,hl,hm,hmm,_,hi⟩
   .exact⟨[],⟨none,0,0,rfl,rfl,ro _,fun q=>absurd rfl q⟩,Do _,fun x hx=>by cases hx⟩
   have hmm':m=cap:=by simpa using hmm
   subst hmm';obtain⟨l,hll,hp⟩:=ac6 (α:=s.T×mt) (p:=fun i x=>Cs W (fun _=>False) s x.1 x.2/\pa s x.1/\∀j,j<s.size->W.cell? (a.add (i*s.size+j))=x.2[j]?) len (fun i hi0=>by obtain⟨cs',h1,h2⟩:=hi i auc;obtain⟨x,hx1,hx2⟩:=Uk k e s h _ _ _ h2;refine⟨(x,cs'),hx1,hx2,fun j hj=>?_⟩;rw[q2]at h1;obtain⟨_,_,hat⟩:=World.cells?_some h1;rw[<-Zuk,hat j hj]);have hlen:∀p∈l,p.2.length=s.size:=by intro p hpm;obtain⟨i,hi⟩:=LT hpm;exact Cs.length (hp i p hi).1
   have hcell:∀j u,(l.flatMap (·.2))[j]?=some u->W.cell? (a.add j)=some u:=by
    intro j u hu;rw[adu q1 l hlen]at hu;rcases hx:l[j / s.size]? with _|x
    .rw[hx]at hu;cases hu
    .rw[hx]at hu;have hu:x.2[j % s.size]?=some u:=hu;have:=(hp _ x hx).2.2 (j % s.size) (Nat.mod_lt _ q1);rw[Nat.div_add_mod' j s.size]at this;rw[this,hu]
   refine⟨l.map (·.1),⟨some a,len,m,rfl,by simp[hll],hl,fun hne=>?_⟩,by simpa[hll]using EQ hl hm,?_⟩
   .have hflat:cF (Cs W (fun _=>False) s) (l.map (·.1)) (l.flatMap (·.2)):=Zyr l (fun p hpm=>by obtain⟨i,hi⟩:=LT hpm;exact(hp i p hi).1);have hfl:(l.flatMap (·.2)).length=l.length*s.size:=by have:=cF.length (fun x c=>Cs.length) hflat;simpa using this
    have hl0:0<l.length:=by cases l with|nil=>exact absurd rfl hne|cons _ _=>simp
    have h0:0<(l.flatMap (·.2)).length:=by rw[hfl];exact Nat.mul_pos hl0 q1
    have hsp:=aqb (hcell 0 _ (bA h0));obtain⟨b,o,sp⟩:=a;have hsp:sp=none:=hsp;subst hsp;obtain⟨c,ty,fr,hc,_⟩:=ac3 (hcell 0 _ (bA h0));refine⟨b,o,l.flatMap (·.2),rfl,fun h=>h,hflat,c,ty,fr,hc,?_⟩;intro j u hu;obtain⟨c',ty',fr',hc',hj⟩:=ac3 (hcell j u hu);rw[hc]at hc';cases hc';exact hj
   .intro x hx;obtain⟨p,hpm,rfl⟩:=rt.1 hx;obtain⟨i,hi⟩:=LT hpm;exact(hp i p hi).2.1
  .rename_i fs;split at h<;>try cases h
   rename_i l;split at h<;>try cases h
   rename_i q1;have q1:=db q1;obtain⟨xs,n',rfl,_,hlen,hxl,hx⟩:=DataW.trod_struct hu hy;obtain⟨d,h1,h2⟩:=Zz1 (n:=n') (cs:=cs) (Uk k) fs.toList l 0 h (by rw[hlen,q1];omega) (fun i g hg=>by grind);rw[List.drop_zero]at h1;exact⟨d,h1,h2⟩
  .unfold PF at h;split at h
   .split at h<;>try cases h
    obtain⟨b,rfl,_⟩:=DataW.trod_bool hu hy;exact⟨b,rfl,trivial⟩
   .split at h<;>try cases h
    obtain⟨s,rfl,_,hs⟩:=DataW.trod_string hu hy;exact⟨s,rfl,hs⟩
   .split at h<;>try cases h
    rename_i avB avC;have:=Ev.IntKind.vP (db h);subst this;obtain⟨m,rfl,_,hw⟩:=DataW.trod_int hu hy;exact⟨m,rfl,hw⟩
   .cases h
theorem ana{k:Nat}{t:TypeId}{σ:Sh}{v:Value}{d:DataW H}{ps:List MemPlace}{r:Reach}{b0:Nat}(h:vc P k t σ=true)(hv:Value.okWide P W r b0 t v)(hd:DataW.Trod enc P W 0 (fun _=>true) true t v d ps) :
  ∃x,ic W (fun _=>False) σ x v/\pa σ x:=by
 obtain⟨fuel,hf⟩:=hd;obtain⟨x,h1,h2⟩:=Uk k t σ h _ _ _ hf;refine⟨x,⟨h1,?_⟩,h2⟩;cases k with
 |zero=>cases h
 |succ k=>
  simp only[vc]at h;split at h
  .cases h
  rename_i d' hu;split at h
  .split at h<;>try cases h
   obtain⟨a,l,c,rfl⟩:=okWide_slice hu hv;rfl
  .split at h<;>try cases h
   obtain⟨cs,rfl,_⟩:=okWide_struct hu hv;rfl
  .unfold PF at h;split at h
   .split at h<;>try cases h
    obtain⟨b,rfl⟩:=okWide_bool hu hv;rfl
   .split at h<;>try cases h
    obtain⟨b,rfl⟩:=okWide_string hu hv;rfl
   .split at h<;>try cases h
    obtain⟨b,rfl⟩:=okWide_int hu hv;rfl
   .cases h
