import Derived.Test.YtjflbmpepamfjaaGreatKMe
import Derived.Test.YtjflbmpepamfjaaGreatKBs
set_option linter.all false
section
namespace Go.Proofs.YtjflbmpepamfjaaGreat.V
open Go Go.RowKit
open Go.Proofs.YtjflbmpepamfjaaGreat.Ev (Tr Tr.bM nth ct Ex)
variable{tr:Tr aE}{X:Cx}{o:aE}{ty:TypeId}{j:Nat}
theorem ah1(H:ab X){f b c:Nat}{vs':List AV}{cs:kw}(hj:X.h.tr.get j=some o)(ho:∀τ L ty,o≠.arr τ L ty)(hs:X.s j=some (.at b c))(hw:X.w.heap[b]?=some (.cells (List.toArray cs) ty (0,0)))
  (hv:bm X vs' cs) (ht:Tr.set f X.h.tr j (some (.cells vs' ty))=some tr):ab ⟨X.s,⟨tr,X.h.next⟩,X.w,X.A⟩/\aH X ⟨X.s,⟨tr,X.h.next⟩,X.w,X.A⟩:=by
 have hg:=Tr.bM _ _ _ _ _ ht;have back:∀i o,tr.get i=some o->∃o',X.h.tr.get i=some o'/\(∀n,o.row=some n->o'.row=some n):=by
  intro i o h;rw[hg i]at h;by_cases q:i=j
  .rw[BY q]at h;cases h;subst q;exact⟨_,hj,fun n r=>by cases r⟩
  grind
 have bI:∀b,Cx.bI ⟨X.s,⟨tr,X.h.next⟩,X.w,X.A⟩ b->X.bI b:=by rintro b ⟨i,o,c,h1,h2⟩;obtain⟨o',h3,_⟩:=back i o h1;exact⟨i,o',c,h3,h2⟩
 have E:aH X ⟨X.s,⟨tr,X.h.next⟩,X.w,X.A⟩:=by
  refine⟨rfl,rfl,rfl,pi _,fun _ _ h=>h,fun _ _ _ h=>h,pi _,fun _ _ _=>rfl,fun b h=>.inl (bI b h),?_,?_,rfl⟩
  .intro i n _ h;obtain⟨o,h,hr⟩:=kb h;obtain⟨o',h1,h2⟩:=back i _ h;show rowOf X.h.tr i=some n;rw[ji h1];exact h2 n hr
  grind
 have RE:=E.ei H;refine⟨⟨?_,?_,?_,H.cJ,H.alt,?_⟩,E⟩
 .intro i o l h1 h2
  replace h1:tr.get i=some o:=h1
  rw[hg i]at h1;by_cases q:i=j
  .rw[BY q]at h1;cases h1;subst q
   replace h2:X.s i=some l:=h2
   rw[hs]at h2;cases h2;exact⟨b,c,cs,rfl,hw,hv.ext RE⟩
  .rw[rx q]at h1;exact(H.obj i o l h1 h2).ext RE (fun _ _=>rfl)
 .intro i k o o' c c' b h1 h2 h3 h4 h5 h6;obtain⟨p,g1,_⟩:=back i o h1;obtain⟨q,g2,_⟩:=back k o' h2;exact H.inj i k p q c c' b g1 g2 h3 h4 h5 h6
 .intro i o h1;obtain⟨p,g1,_⟩:=back i o h1;exact H.lt i p g1
 .intro i o c b h1 h2;obtain⟨p,g1,_⟩:=back i o h1;exact H.loc i p c b g1 h2
variable{l:Loc}
theorem aiU(H:ab X){f:Nat}{o':aE}(hj:X.h.tr.get j=some o)(hrow:∀n,o'.row=some n->o.row=some n)(hs:X.s j=some l)(ho:cj X l o')(ht:Tr.set f X.h.tr j (some o')=some tr) :
  ab ⟨X.s,⟨tr,X.h.next⟩,X.w,X.A⟩/\aH X ⟨X.s,⟨tr,X.h.next⟩,X.w,X.A⟩:=by
 have hg:=Tr.bM _ _ _ _ _ ht;have back:∀i aIk,tr.get i=some aIk->∃aIl,X.h.tr.get i=some aIl/\(∀n,aIk.row=some n->aIl.row=some n):=by grind
 have E:aH X ⟨X.s,⟨tr,X.h.next⟩,X.w,X.A⟩:=by
  refine⟨rfl,rfl,rfl,pi _,fun _ _ h=>h,fun _ _ _ h=>h,pi _,fun _ _ _=>rfl,?_,?_,?_,rfl⟩
  .rintro b ⟨i,aIk,c,h1,h2⟩;obtain⟨aIl,h3,_⟩:=back i aIk h1;exact .inl ⟨i,aIl,c,h3,h2⟩
  .intro i n _ h;obtain⟨aIk,h,hr⟩:=kb h;obtain⟨aIl,h1,h2⟩:=back i _ h;show rowOf X.h.tr i=some n;rw[ji h1];exact h2 n hr
  grind
 have RE:=E.ei H;refine⟨⟨?_,?_,?_,H.cJ,H.alt,?_⟩,E⟩
 .intro i aIk l₁ h1 h2
  replace h1:tr.get i=some aIk:=h1
  rw[hg i]at h1;by_cases q:i=j
  .rw[BY q]at h1;cases h1;subst q
   replace h2:X.s i=some l₁:=h2
   rw[hs]at h2;cases h2;exact ho.ext RE (fun _ _=>rfl)
  .rw[rx q]at h1;exact(H.obj i aIk l₁ h1 h2).ext RE (fun _ _=>rfl)
 .intro i k aIk aIl c c' b h1 h2 h3 h4 h5 h6;obtain⟨p,g1,_⟩:=back i aIk h1;obtain⟨q,g2,_⟩:=back k aIl h2;exact H.inj i k p q c c' b g1 g2 h3 h4 h5 h6
 .intro i aIk h1;obtain⟨p,g1,_⟩:=back i aIk h1;exact H.lt i p g1
 .intro i aIk c b h1 h2;obtain⟨p,g1,_⟩:=back i aIk h1;exact H.loc i p c b g1 h2
def Kv(h:Hp)(b:Nat):Option Hp:=match h.tr.get b with
 |some (.dA τ i L vs ty)=>match eu true h τ vs with
  |some (x,l,h₁)=>match l,h₁.tr.get b with
   |[],some _=>match Tr.set FT h₁.tr b (some (.arr τ (L.set i x) ty))with|some tr=>some ⟨tr,h₁.next⟩|none=>none
   |_,_=>none
  |none=>none
 |_=>some h
theorem avD(H:ab X){b:Nat}{h':Hp}(e:Kv X.h b=some h')(hs:X.s b=some l):ab ⟨X.s,h',X.w,X.A⟩/\aH X ⟨X.s,h',X.w,X.A⟩:=by
 unfold Kv at e;split at e
 .rename_i τ i L vs ty hb;split at e<;>try cases e
  rename_i x r h₁ hf;split at e<;>try cases e
  rename_i ob hob;split at e<;>cases e;rename_i tr ht;obtain⟨aHc,c,pre,mid,post,tail,rfl,q1,q2,q3,q4,q5,q6,q7,q8⟩:=H.obj b _ _ hb hs;obtain⟨F,aHd,aIq,k1,k2,k3⟩:=qU H hf q3;have:aIq=[]:=k3;subst this;rw[dJ]at k1;subst k1;have hob':h₁.tr.get b=some (.dA τ i L vs ty):=by
   have:=F.sub b _ hob
   grind
  have K:=F.E.keeps;have ho:cj ⟨X.s,h₁,X.w,X.A⟩ (.at aHc c) (.arr τ (L.set i x) ty):=by refine⟨pre++(mid++post),tail,by grind,?_,by grind,by grind⟩;rw[aFw,BY q5];refine(q2.mono (fun x d q=>q.keep K)).append ?_;exact⟨mid,post,rfl,k2,q4.mono (fun x d q=>q.keep K)⟩
  obtain⟨g1,g2⟩:=aiU (X:=⟨X.s,h₁,X.w,X.A⟩) F.H hob' (fun n q=>by simpa[aE.row]using q) hs ho ht;exact⟨g1,F.E.trans g2⟩
 .cases e;exact⟨H,aH.refl X⟩
def oT:List (Nat×LO)->Nat->Option LO
 |[],_=>none|p::l,i=>match Nat.beq p.1 i with|true=>some p.2|false=>oT l i
def FW(lh:List (Nat×LO))(h:Hp)(i:Nat):AV->Option (AV×Hp)
 |.ai=>match oT lh i with
  |some o=>match o with
   |.arr τ ty=>match Tr.set FT h.tr h.next (some (.arr τ [] ty))with|some t=>some (.hd h.next τ,⟨t,h.next+1⟩)|none=>none
   |_=>none
  |none=>none
 |.hd b τ=>match oT lh i with
  |some o=>match o with
   |.arr _ _=>match Kv h b with|some h'=>some (.hd b τ,h')|none=>none
   |_=>some (.hd b τ,h)
  |none=>some (.hd b τ,h)
 |.vw b τ off n=>match off,oT lh i,h.tr.get b with
  |0,some (.arr _ _),some (.arr τ' L ty)=>match Tr.set FT h.tr b none with
   |some aIF=>match Tr.set FT aIF h.next (some (.arr τ' (L.take n) ty))with|some t=>some (.hd h.next τ',⟨t,h.next+1⟩)|none=>none
   |none=>none
  |_,_,_=>some (.vw b τ off n,h)
 |v=>some (v,h)
def Ia(lh:List (Nat×LO))(h:Hp)(i:Nat):AV->Option (AV×Hp)
 |.ai=>match oT lh i with
  |some o=>match o with
   |.fl ty=>match Tr.set FT h.tr h.next (some (.fl [] ty))with|some t=>some (.ez h.next,⟨t,h.next+1⟩)|none=>none
   |_=>none
  |none=>none
 |v=>some (v,h)
def FV(h:Hp)(τ:Sh):AV->Option (AV×Hp)
 |.hd b τ'=>match eu true h (.sl τ) [.hd b τ']with
  |some (L,l,h')=>match l with|[]=>some (.fz τ L,h')|_=>none
  |none=>none
 |.vw b τ' o n=>match eu true h (.sl τ) [.vw b τ' o n]with
  |some (L,l,h')=>match l with|[]=>some (.fz τ L,h')|_=>none
  |none=>Ct h (.vw b τ' o n)
 |v=>some (v,h)
mutual
def gz(lh:List (Nat×LO))(h:Hp):LA->AV->Option (AV×Hp)
 |.hd i τ,v=>FW lh h i v|.ez i,v=>Ia lh h i v|.fz τ,v=>FV h τ v|.func f x c,v=>match v with
  |.func g x' c'=>match po lh h x x' with
   |some (x',h)=>match po lh h c c' with|some (c',h)=>some (.func g x' c',h)|none=>none
   |none=>none
  |v=>some (v,h)
 |.agg l,v=>match v with
  |.agg l'=>match po lh h l l' with|some (l',h)=>some (.agg l',h)|none=>none
  |v=>some (v,h)
 |.bB l,v=>match v with
  |.bB l'=>match po lh h l l' with|some (l',h)=>some (.bB l',h)|none=>none
  |v=>some (v,h)
 |_,v=>some (v,h)
termination_by structural x=>x
def po(lh:List (Nat×LO))(h:Hp):List LA->List AV->Option (List AV×Hp)
 |[],vs=>some (vs,h)|a::l,vs=>match vs with
  |[]=>some ([],h)|v::vs=>match gz lh h a v with
   |some (v,h)=>match po lh h l vs with|some (vs,h)=>some (v::vs,h)|none=>none
   |none=>none
termination_by structural x=>x
end
def dj(X:Cx)(h':Hp)(X':Cx):Prop:=X'.w=X.w/\X'.h=h'/\ab X'/\aH X X'
theorem dj.refl{X:Cx}(H:ab X):dj X X.h X:=⟨rfl,rfl,H,aH.refl X⟩
theorem ag7{X:Cx}(H:ab X){b n:Nat}{τ:Sh}{L:List τ.T}{ty:TypeId}{l:Loc}{aIF t:Tr aE}(hb:X.h.tr.get b=some (.arr τ L ty))(hs:X.s b=some l)(hn:n<=L.length)(hk:Tr.set FT X.h.tr b none=some aIF)
  (ht:Tr.set FT aIF X.h.next (some (.arr τ (L.take n) ty))=some t):∃X',dj X ⟨t,X.h.next+1⟩ X'/\Rel X' (.hd X.h.next τ) (l.slice n):=by
 have hlen:(L.take n).length=n:=by grind
 cases l with
 |nil=>
  have hL:L=[]:=H.obj b _ _ hb hs;subst hL;have hn0:n=0:=by grind
  subst hn0;obtain⟨aGz,aGJ⟩:=H.kill hs hk;have G:=Grown.none (X:=X) (X₁:=⟨X.s,⟨aIF,X.h.next⟩,X.w,X.A⟩) aGz aGJ rfl ht;exact⟨⟨aW X.s X.h.next .nil,⟨t,X.h.next+1⟩,X.w,X.A⟩,⟨rfl,rfl,G.H,G.E⟩,G.R⟩
 |«at» x c=>
  obtain⟨cs,tail,h1,h2,h3,h4⟩:=H.obj b _ _ hb hs;obtain⟨aHd,aHe,e,k1⟩:∃aHd aHe,aHd++aHe=cs/\aY (Cs X.w X.out τ) (L.take n) aHd:=⟨_,_,FS (n*τ.size) cs,aY.take (fun x c=>Cs.length) n h2⟩;subst e;have G:=Grown.fit (tail:=aHe++tail) H hb hs hk ht k1 (by grind) aGl;have ew:Ev.cq X.w x (.cells (aHd++(aHe++tail)).toArray ty (0,0))=X.w:=by
   unfold Ev.cq;have:X.w.heap.setIfInBounds x (.cells (aHd++(aHe++tail)).toArray ty (0,0))=X.w.heap:=by grind
   rw[this]
  rw[ew]at G;refine⟨⟨aW X.s X.h.next (.at x c),⟨t,X.h.next+1⟩,X.w,X.A⟩,⟨rfl,rfl,G.H,G.E⟩,?_⟩;have:=G.R;rw[hlen]at this;exact this
 |cu x c m=>exact(H.obj b _ _ hb hs).elim
theorem as1{lh:List (Nat×LO)}{i:Nat}{v v':AV}{h':Hp}{X:Cx}(H:ab X)(e:FW lh X.h i v=some (v',h')){V:Value}(R:Rel X v V):∃X',dj X h' X'/\Rel X' v' V:=by
 unfold FW at e;split at e
 .split at e<;>try cases e
  split at e<;>try cases e
  rename_i τ ty;split at e<;>cases e;rename_i t ht;obtain⟨E,H'⟩:=ab.void H ht;have g0:=Tr.bM _ _ _ _ _ ht;refine⟨⟨aW X.s X.h.next .nil,⟨t,X.h.next+1⟩,X.w,X.A⟩,⟨rfl,rfl,H',E⟩,.nil,cU _ _ _,?_,?_⟩
  .rw[show V=_ from R];rfl
  .intro n' q
   replace q:rowOf t X.h.next=some n':=q
   rw[ji (by rw[g0,BY rfl])]at q;cases q;rw[show V=_ from R];rfl
 .rename_i b τ;split at e
  .split at e
   .split at e<;>cases e;rename_i hc;obtain⟨l,hs,hR⟩:=R;obtain⟨H',E⟩:=avD H hc hs;exact⟨⟨X.s,h',X.w,X.A⟩,⟨rfl,rfl,H',E⟩,Rel.ext (E.ei H) (v:=.hd b τ) ⟨l,hs,hR⟩⟩
   .cases e;exact⟨X,dj.refl H,R⟩
  .cases e;exact⟨X,dj.refl H,R⟩
 .split at e
  .rename_i hb;split at e<;>try cases e
   rename_i aIF hk;split at e<;>cases e;rename_i t ht;obtain⟨l,a,c,hs,_,_,_,h5,h6⟩:=R;rw[h5 rfl];have hle:=h6 _ (jH hb);exact ag7 H hb hs aGl hk ht
  .cases e;exact⟨X,dj.refl H,R⟩
 .cases e;exact⟨X,dj.refl H,R⟩
theorem asq{lh:List (Nat×LO)}{i:Nat}{v v':AV}{h':Hp}{X:Cx}(H:ab X)(e:Ia lh X.h i v=some (v',h')){V:Value}(R:Rel X v V):∃X',dj X h' X'/\Rel X' v' V:=by
 unfold Ia at e;split at e
 .split at e<;>try cases e
  split at e<;>try cases e
  rename_i ty;split at e<;>cases e;rename_i t ht;obtain⟨E,H'⟩:=ab.UA H ht (fun _=>rfl);refine⟨⟨aW X.s X.h.next .nil,⟨t,X.h.next+1⟩,X.w,X.A⟩,⟨rfl,rfl,H',E⟩,.nil,cU _ _ _,?_⟩;rw[show V=_ from R];rfl
 .cases e;exact⟨X,dj.refl H,R⟩
theorem as2{τ:Sh}{v v':AV}{h':Hp}{X:Cx}(H:ab X)(e:FV X.h τ v=some (v',h')){V:Value}(R:Rel X v V):∃X',dj X h' X'/\Rel X' v' V:=by
 have main:∀u,Rel X u V->(match eu true X.h (.sl τ) [u]with
  |some (L,l,h')=>match l with|[]=>some (AV.fz τ L,h')|_=>none
  |none=>none)=some (v',h')->∃X',dj X h' X'/\Rel X' v' V:=by
  intro u R e;split at e<;>try cases e
  rename_i L l h₁ hf;split at e<;>cases e;obtain⟨F,c,r,he,h1,h2⟩:=qU H hf (show bm X [u] [V]from⟨V,[],rfl,R,rfl⟩);have:r=[]:=h2;subst this;rw[dJ]at he;subst he;exact⟨⟨X.s,h',X.w,X.A⟩,⟨rfl,rfl,F.H,F.E⟩,h1⟩
 unfold FV at e;split at e
 .exact main _ R e
 .split at e
  .rename_i hf
   grind
  .obtain⟨F,Q⟩:=Vp H e R;exact⟨⟨X.s,h',X.w,X.A⟩,⟨rfl,rfl,F.H,F.E⟩,Q⟩
 .cases e;exact⟨X,dj.refl H,R⟩
theorem dj.trans{X X' X'':Cx}{h' h'':Hp}(a:dj X h' X')(b:dj X' h'' X''):dj X h'' X'':=⟨b.1.trans a.1,b.2.1,b.2.2.1,a.2.2.2.trans b.2.2.2⟩
mutual
theorem VP{lh:List (Nat×LO)}:∀(a:LA) {v v':AV}{h':Hp}{X:Cx},ab X->gz lh X.h a v=some (v',h')->∀{V:Value},Rel X v V->∃X',dj X h' X'/\Rel X' v' V
 |.hd i τ,v,v',h',X,H,e,V,R=>as1 H (by simpa only[gz]using e) R|.ez i,v,v',h',X,H,e,V,R=>asq H (by simpa only[gz]using e) R|.fz τ,v,v',h',X,H,e,V,R=>as2 H (by simpa only[gz]using e) R|.func f x c,v,v',h',X,H,e,V,R=>by
  simp only[gz]at e;split at e
  .rename_i g x' c';split at e<;>try cases e
   rename_i aIS h₁ aHi;split at e<;>cases e;rename_i aHe aHj;obtain⟨xs,cs,rfl,R1,R2⟩:=R;obtain⟨X₁,aGF,aGM⟩:=uO x H aHi R1;have hX:=aGF.2.1;rw[<-hX]at aHj;obtain⟨aGY,aGG,aGN⟩:=uO c aGF.2.2.1 aHj (R2.ext (aGF.2.2.2.ei H));exact⟨aGY,aGF.trans aGG,xs,cs,rfl,aGM.ext (aGG.2.2.2.ei aGF.2.2.1),aGN⟩
  .cases e;exact⟨X,dj.refl H,R⟩
 |.agg l,v,v',h',X,H,e,V,R=>by
  simp only[gz]at e;split at e
  .rename_i l';split at e<;>cases e;rename_i aId aHi;obtain⟨cs,rfl,R1⟩:=R;obtain⟨X₁,aGF,aGM⟩:=uO l H aHi R1;exact⟨X₁,aGF,cs,rfl,aGM⟩
  .cases e;exact⟨X,dj.refl H,R⟩
 |.bB l,v,v',h',X,H,e,V,R=>by
  simp only[gz]at e;split at e
  .rename_i l';split at e<;>cases e;rename_i aId aHi;obtain⟨cs,rfl,R1⟩:=R;obtain⟨X₁,aGF,aGM⟩:=uO l H aHi R1;exact⟨X₁,aGF,cs,rfl,aGM⟩
  .cases e;exact⟨X,dj.refl H,R⟩
 |.int k,v,v',h',X,H,e,V,R=>by simp only[gz]at e;cases e;exact⟨X,dj.refl H,R⟩
 |.bool,v,v',h',X,H,e,V,R=>by simp only[gz]at e;cases e;exact⟨X,dj.refl H,R⟩
 |.str,v,v',h',X,H,e,V,R=>by simp only[gz]at e;cases e;exact⟨X,dj.refl H,R⟩
 |.cX,v,v',h',X,H,e,V,R=>by simp only[gz]at e;cases e;exact⟨X,dj.refl H,R⟩
 |.ai,v,v',h',X,H,e,V,R=>by simp only[gz]at e;cases e;exact⟨X,dj.refl H,R⟩
 |.dt,v,v',h',X,H,e,V,R=>by simp only[gz]at e;cases e;exact⟨X,dj.refl H,R⟩
 |.dn,v,v',h',X,H,e,V,R=>by simp only[gz]at e;cases e;exact⟨X,dj.refl H,R⟩
 |.dW,v,v',h',X,H,e,V,R=>by simp only[gz]at e;cases e;exact⟨X,dj.refl H,R⟩
 |.jl,v,v',h',X,H,e,V,R=>by simp only[gz]at e;cases e;exact⟨X,dj.refl H,R⟩
 |.eg τ,v,v',h',X,H,e,V,R=>by simp only[gz]at e;cases e;exact⟨X,dj.refl H,R⟩
 |.fF σ o,v,v',h',X,H,e,V,R=>by simp only[gz]at e;cases e;exact⟨X,dj.refl H,R⟩
 |.ptr b o,v,v',h',X,H,e,V,R=>by simp only[gz]at e;cases e;exact⟨X,dj.refl H,R⟩
 |.mp b,v,v',h',X,H,e,V,R=>by simp only[gz]at e;cases e;exact⟨X,dj.refl H,R⟩
 |.dK b z o,v,v',h',X,H,e,V,R=>by simp only[gz]at e;cases e;exact⟨X,dj.refl H,R⟩
 |.rp b,v,v',h',X,H,e,V,R=>by simp only[gz]at e;cases e;exact⟨X,dj.refl H,R⟩
theorem uO{lh:List (Nat×LO)}:∀(l:List LA) {vs vs':List AV}{h':Hp}{X:Cx},ab X->po lh X.h l vs=some (vs',h')->∀{cs:kw},bm X vs cs->∃X',dj X h' X'/\bm X' vs' cs
 |[],vs,vs',h',X,H,e,cs,R=>by simp only[po]at e;cases e;exact⟨X,dj.refl H,R⟩
 |a::l,vs,vs',h',X,H,e,cs,R=>by
  simp only[po]at e;split at e
  .cases e;exact⟨X,dj.refl H,R⟩
  .rename_i v vs;split at e<;>try cases e
   rename_i aIK h₁ aHi;split at e<;>cases e;rename_i aII aHj;obtain⟨V,r,rfl,R1,R2⟩:=R;obtain⟨X₁,aGF,aGM⟩:=VP a H aHi R1;have hX:=aGF.2.1;rw[<-hX]at aHj;obtain⟨aGY,aGG,aGN⟩:=uO l aGF.2.2.1 aHj (R2.ext (aGF.2.2.2.ei H));exact⟨aGY,aGF.trans aGG,V,r,rfl,aGM.ext (aGG.2.2.2.ei aGF.2.2.1),aGN⟩
end
def rW(n:Nat)(lh:List (Nat×LO)):List (Tmp×LA)->St->Option St
 |[],st=>some st|p::l,st=>match st.T.get p.1 with
  |some v=>match gz lh st.h p.2 v with
   |some (v,h)=>match dG n st.T (some p.1) v with|some T=>rW n lh l ⟨T,h⟩|none=>none
   |none=>none
  |none=>rW n lh l st
theorem Ag{n:Nat}{lh:List (Nat×LO)}:∀{l:List (Tmp×LA)}{st st':St},rW n lh l st=some st'->∀{X:Cx}{a:Act},RF X n st a->∃X',X'.w=X.w/\RF X' n st' a/\aH X X'
 |[],st,st',e,X,a,R=>by simp only[rW,bo]at e;subst e;exact⟨X,rfl,R,aH.refl X⟩|p::l,st,st',e,X,a,R=>by
  simp only[rW]at e;split at e
  .rename_i v hv;split at e<;>try cases e
   rename_i aIK h₁ aHi;split at e<;>try cases e
   rename_i T hT;have hX:=R.h;rw[<-hX]at aHi;obtain⟨V,b1,b2⟩:=R.T.get _ _ hv;obtain⟨X₁,⟨aIM,aHU,aGJ,aGz⟩,aGM⟩:=VP p.2 R.H aHi b2;have hg:=lE hT;have aGP:RF X₁ n ⟨T,h₁⟩ a:=by
    refine⟨aHU,⟨R.T.size,R.T.defers,?_⟩,aGJ⟩;intro x u hu;rw[hg x]at hu;by_cases q:p.1=x
    .subst q
     grind
    .rw[rx (by grind)]at hu;obtain⟨U,c1,c2⟩:=R.T.get _ _ hu;exact⟨U,c1,c2.ext (aGz.ei R.H)⟩
   obtain⟨aGY,aIN,aGQ,aGA⟩:=Ag e aGP;exact⟨aGY,aIN.trans aIM,aGQ,aGz.trans aGA⟩
  .exact Ag e R
def KU(lh:List (Nat×LO))(las:List LA)(j:Nat)(h:Hp):Option Hp:=match h.tr.get j with
 |some o=>match o with
  |.cells vs ty=>match po lh h las vs with
   |some (vs',h')=>match h'.tr.get j with
    |some o'=>match o' with
     |.cells _ _=>match Tr.set FT h'.tr j (some (.cells vs' ty))with|some t=>some ⟨t,h'.next⟩|none=>none
     |_=>none
    |none=>none
   |none=>none
  |_=>none
 |none=>none
theorem af8{lh:List (Nat×LO)}{las:List LA}{j:Nat}{h':Hp}{X:Cx}(H:ab X)(e:KU lh las j X.h=some h')(hr:X.s j≠none):∃X',dj X h' X':=by
 unfold KU at e;split at e<;>try cases e
 rename_i o hj;split at e<;>try cases e
 rename_i vs ty;split at e<;>try cases e
 rename_i vs' h₁ hf;split at e<;>try cases e
 rename_i aIl aHF;split at e<;>try cases e
 rename_i aII aID;split at e<;>cases e;rename_i t ht;cases hs:X.s j with|none=>exact absurd hs hr|some l=>obtain⟨b,c,cs,rfl,e2,e3⟩:=H.obj j _ l hj hs;obtain⟨X₁,⟨aIM,aHx,aGJ,aGz⟩,aGM⟩:=uO las H hf e3;have hsn:X₁.s j=some (.at b c):=aGz.sg _ _ hs;rw[<-aHx]at aHF ht;obtain⟨g1,g2⟩:=ah1 aGJ aHF (fun _ _ _ q=>by cases q) hsn (by grind) aGM ht;exact⟨⟨X₁.s,⟨t,X₁.h.next⟩,X₁.w,X₁.A⟩,aIM,by rw[aHx],g1,aGz.trans g2⟩
def iW(j:Nat):jp->Bool
 |[]=>false|i::l=>match Nat.beq i j with|true=>true|false=>iW j l
theorem Ef{j:Nat}:∀{l:jp},iW j l=true->j∈l
 |[],h=>by cases h
 |i::l,h=>by
  simp only[iW]at h;split at h
  .rename_i q;simp_all
  .exact aFl _ (Ef h)
mutual
def fO:AV->jp->jp
 |.ptr b _,r=>b::r|.hd b _,r=>b::r|.mp b,r=>b::r|.ez b,r=>b::r|.rp b _,r=>b::r|.ra b _,r=>b::r|.func _ x c,r=>kW x (kW c r)|.agg l,r=>kW l r|.bB l,r=>kW l r|_,r=>r
termination_by structural x=>x
def kW:List AV->jp->jp
 |[],r=>r|v::l,r=>fO v (kW l r)
termination_by structural x=>x
end
mutual
theorem Zyi{X:Cx}:∀(v:AV) {r:jp}{V:Value},Rel X v V->(∀j∈r,X.s j≠none)->∀j∈fO v r,X.s j≠none
 |.ptr b o,r,V,⟨x,c,h1,_⟩,hr,j,hj=>by
  simp only[fO,AT]at hj;rcases hj with rfl|hj
  .rw[h1];simp
  .exact hr j hj
 |.hd b o,r,V,⟨x,h1,_⟩,hr,j,hj=>by
  simp only[fO,AT]at hj;rcases hj with rfl|hj
  .rw[h1];simp
  .exact hr j hj
 |.mp b,r,V,⟨x,c,h1,_⟩,hr,j,hj=>by
  simp only[fO,AT]at hj;rcases hj with rfl|hj
  .rw[h1];simp
  .exact hr j hj
 |.ez b,r,V,⟨x,h1,_⟩,hr,j,hj=>by
  simp only[fO,AT]at hj;rcases hj with rfl|hj
  .rw[h1];simp
  .exact hr j hj
 |.rp b i,r,V,⟨x,c,m,p,h1,_⟩,hr,j,hj=>by
  simp only[fO,AT]at hj;rcases hj with rfl|hj
  .rw[h1];simp
  .exact hr j hj
 |.ra b i,r,V,⟨x,c,m,h1,_⟩,hr,j,hj=>by
  simp only[fO,AT]at hj;rcases hj with rfl|hj
  .rw[h1];simp
  .exact hr j hj
 |.func f x c,r,V,⟨xs,cs,_,h1,h2⟩,hr,j,hj=>sJ x h1 (sJ c h2 hr) j (by simpa only[fO]using hj)|.agg l,r,V,⟨cs,_,h1⟩,hr,j,hj=>sJ l h1 hr j (by simpa only[fO]using hj)|.bB l,r,V,⟨cs,_,h1⟩,hr,j,hj=>sJ l h1 hr j (by simpa only[fO]using hj)|.bool _,r,V,h,hr,j,hj=>hr j (by simpa only[fO]using hj)|.int _ _,r,V,h,hr,j,hj=>hr j (by simpa only[fO]using hj)|.str _,r,V,h,hr,j,hj=>hr j (by simpa only[fO]using hj)|.cX,r,V,h,hr,j,hj=>hr j (by simpa only[fO]using hj)|.ai,r,V,h,hr,j,hj=>hr j (by simpa only[fO]using hj)|.dt,r,V,h,hr,j,hj=>hr j (by simpa only[fO]using hj)|.dn,r,V,h,hr,j,hj=>hr j (by simpa only[fO]using hj)|.dW,r,V,h,hr,j,hj=>hr j (by simpa only[fO]using hj)|.jl,r,V,h,hr,j,hj=>hr j (by simpa only[fO]using hj)|.dK _ _ _ _,r,V,h,hr,j,hj=>hr j (by simpa only[fO]using hj)|.fF _ _ _,r,V,h,hr,j,hj=>hr j (by simpa only[fO]using hj)|.vw _ _ _ _,r,V,h,hr,j,hj=>hr j (by simpa only[fO]using hj)|.eg _ _ _,r,V,h,hr,j,hj=>hr j (by simpa only[fO]using hj)|.fz _ _,r,V,h,hr,j,hj=>hr j (by simpa only[fO]using hj)
theorem sJ{X:Cx}:∀(l:List AV) {r:jp}{cs:kw},bm X l cs->(∀j∈r,X.s j≠none)->∀j∈kW l r,X.s j≠none
 |[],r,cs,h,hr,j,hj=>hr j (by simpa only[kW]using hj)|v::l,r,cs,⟨V,t,_,h1,h2⟩,hr,j,hj=>Zyi v h1 (sJ l h2 hr) j (by simpa only[kW]using hj)
end
def cellsOf(h:Hp)(j:Nat):List AV:=match h.tr.get j with
 |some o=>match o with|.cells l _=>l|.dA _ _ _ l _=>l|_=>[]
 |none=>[]
theorem Vd{X:Cx}(H:ab X){j:Nat}(hj:X.s j≠none){r:jp}(hr:∀i∈r,X.s i≠none):∀i∈kW (cellsOf X.h j) r,X.s i≠none:=by
 unfold cellsOf;split
 .rename_i o ho;split
  .rename_i l ty;cases hs:X.s j with|none=>exact absurd hs hj|some k=>obtain⟨b,c,cs,rfl,e2,e3⟩:=H.obj j _ k ho hs;exact sJ l e3 hr
  .rename_i τ' i' L' l ty;cases hs:X.s j with|none=>exact absurd hs hj|some k=>obtain⟨b,c,pre,mid,post,tail,rfl,e1,e2,e3,_⟩:=H.obj j _ k ho hs;exact sJ l e3 hr
  .simpa only[kW]using hr
 .simpa only[kW]using hr
def qy(lh:List (Nat×LO)):List (Nat×Nat)->jp->Hp->Option (jp×Hp)
 |[],kn,h=>some (kn,h)|p::m,kn,h=>match iW p.1 kn with
  |true=>match oT lh p.2 with
   |some o=>match o with
    |.cells las _=>match KU lh las p.1 h with|some h=>qy lh m (kW (cellsOf h p.1) kn) h|none=>none
    |.dA _ _ _=>qy lh m (kW (cellsOf h p.1) kn) h|_=>qy lh m kn h
   |none=>qy lh m kn h
  |false=>none
theorem vT{lh:List (Nat×LO)}:∀{m:List (Nat×Nat)}{kn kn':jp}{h':Hp}{X:Cx},ab X->qy lh m kn X.h=some (kn',h')->(∀j∈kn,X.s j≠none)->∃X',dj X h' X'/\∀j∈kn',X'.s j≠none
 |[],kn,kn',h',X,H,e,hk=>by simp only[qy,bo,Do]at e;obtain⟨rfl,rfl⟩:=e;exact⟨X,dj.refl H,hk⟩
 |p::m,kn,kn',h',X,H,e,hk=>by
  simp only[qy]at e;split at e<;>try cases e
  rename_i hm;have hr:=hk _ (Ef hm);split at e
  .split at e
   .split at e<;>try cases e
    rename_i h₁ hB;obtain⟨X₁,aGF⟩:=af8 H hB hr;have aHB:∀j∈kn,X₁.s j≠none:=fun j hj q=>by cases r:X.s j with|none=>exact hk j hj r|some l=>rw[aGF.2.2.2.sg _ _ r]at q;cases q
    have aHI:X₁.s p.1≠none:=aHB _ (Ef hm);have hX:=aGF.2.1;rw[<-hX]at e;obtain⟨aGY,aGG,aHC⟩:=vT aGF.2.2.1 e (Vd aGF.2.2.1 aHI aHB);exact⟨aGY,aGF.trans aGG,aHC⟩
   .exact vT H e (Vd H hr hk)
   .exact vT H e hk
  .exact vT H e hk
theorem afw(m:List (Nat×Nat)):ED 0 m=da m:=by
 funext j;unfold ED;split
 .rename_i h;rw[acl]at h;omega
 .rfl
def gn(base:Nat)(s:Sg)(m:List (Nat×Nat)):Sg:=fun i=>match inv m i with|some j=>s j|none=>match Nat.blt i base with|true=>s i|false=>none
structure WE(m:List (Nat×Nat))(X X':Cx):Prop where
 H:ab X'
 R:Rn (da m) X X'
 s1:∀j i,da m j=some i->X'.s i=X.s j
 g2:∀i o',X'.h.tr.get i=some o'->∃j o,da m j=some i/\X.h.tr.get j=some o/\jd (da m) o=some o'
 bI:∀b,X'.bI b->X.bI b
theorem UJ{X:Cx}(H:ab X){base nx:Nat}(hbn:base<=nx){m:List (Nat×Nat)}(O:qI 0 nx m){t:Tr aE}(ht:oJ (da m) X.h.tr m .nil=some t){A':Nat->Prop}
  (hA1:∀b,A' b->X.out b) (hA2:∀b,A' b->¬Cx.bI ⟨gn base X.s m,⟨t,nx⟩,X.w,A'⟩ b):WE m X ⟨gn base X.s m,⟨t,nx⟩,X.w,A'⟩:=by
 have fI:∀j i,da m j=some i->(j,i)∈m:=fun j i q=>yn q;have fM:∀j i,(j,i)∈m->da m j=some i:=fun j i q=>vU O q;have s1:∀j i,da m j=some i->gn base X.s m i=X.s j:=by intro j i q;unfold gn;rw[FF O (fI j i q)]
 have s2:∀i l,gn base X.s m i=some l->i<nx:=by
  intro i l q;unfold gn at q;split at q
  .rename_i j hj;exact(O.lo _ (Wv hj)).2.2
  .split at q
   .rename_i q2;rw[acl]at q2;omega
   .cases q
 have g2:∀i o',t.get i=some o'->∃j o,da m j=some i/\X.h.tr.get j=some o/\jd (da m) o=some o':=by
  intro i o' q;rcases(xV ht i).2 o' q with r|⟨j,o,a,b,c⟩
  .simp[Tr.get]at r
  .exact⟨j,o,fM j i a,b,c⟩
 have inj:∀j k i,da m j=some i->da m k=some i->j=k:=by intro j k i h1 h2;have:=O.snd _ (fI j i h1) _ (fI k i h2) rfl;simpa using this
 have arr:∀j i n,da m j=some i->rowOf t i=some n->rowOf X.h.tr j=some n:=by intro j i n h1 h2;obtain⟨o',h2,hr⟩:=kb h2;obtain⟨k,o,a,b,c⟩:=g2 i _ h2;have:=inj j k i h1 a;subst this;rw[ji b,<-Zg c];exact hr
 have bI:∀b,Cx.bI ⟨gn base X.s m,⟨t,nx⟩,X.w,A'⟩ b->X.bI b:=by rintro b ⟨i,o',c,h1,h2,h3⟩;obtain⟨j,o,a1,a2,_⟩:=g2 i o' h1;rw[show Cx.s ⟨gn base X.s m,⟨t,nx⟩,X.w,A'⟩ i=gn base X.s m i from rfl,s1 j i a1]at h2;exact⟨j,o,c,a2,h2,h3⟩
 have Rn':Rn (da m) X ⟨gn base X.s m,⟨t,nx⟩,X.w,A'⟩:=by
  refine⟨fun j i l q r=>by grind,?_,fun j i n q r=>arr j i n q r⟩;intro b o h q;refine⟨q,?_⟩;rintro(r|r)
  .exact h (hA1 b r)
  .exact h (.inr (bI b r))
 refine⟨⟨?_,?_,?_,?_,?_,?_⟩,Rn',s1,g2,bI⟩
 .intro i o' l h1 h2;obtain⟨j,o,a1,a2,a3⟩:=g2 i o' h1;rw[show Cx.s ⟨gn base X.s m,⟨t,nx⟩,X.w,A'⟩ i=gn base X.s m i from rfl,s1 j i a1]at h2;exact Wc Rn' rfl a3 (H.obj j o l a2 h2)
 .intro i k aIk aIl c c' b h1 h2 h3 h4 h5 h6;obtain⟨j,o,a1,a2,_⟩:=g2 i aIk h1;obtain⟨j',o',b1,b2,_⟩:=g2 k aIl h2;rw[show Cx.s ⟨gn base X.s m,⟨t,nx⟩,X.w,A'⟩ i=gn base X.s m i from rfl,s1 j i a1]at h3;rw[show Cx.s ⟨gn base X.s m,⟨t,nx⟩,X.w,A'⟩ k=gn base X.s m k from rfl,s1 j' k b1]at h4;have:=H.inj j j' o o' c c' b a2 b2 h3 h4 h5 h6;subst this;rw[a1]at b1;cases b1;rfl
 .intro i o h1;obtain⟨j,o',a,_⟩:=g2 i o h1;exact(O.lo _ (fI j i a)).2.2
 .intro i l h1;exact s2 i l h1
 .intro b hb;rcases hA1 b hb with q|q
  .exact H.alt b q
  .exact H.AD q
 .intro i o' c b h1 h2 h4 h3;exact hA2 b h3 ⟨i,o',c,h1,h2,h4⟩
theorem NS{n:Nat}{keep:List Tmp}{m:List (Nat×Nat)}{nx:Nat}{st N:St}(e:xe 0 n keep m nx st=some N) :
  qI 0 nx m/\vc (da m) n st.T keep=some N.T/\oJ (da m) st.h.tr m .nil=some N.h.tr/\N.h.next=nx:=by
 unfold xe at e;split at e
 case h_2=>cases e
 rename_i hm hbn;split at e<;>try cases e
 rename_i T aIF hT h₁;split at e<;>try cases e
 rename_i t h₂;rw[afw]at hT h₂;have:aIF=.nil:=by simp only[FN,bo]at h₁;exact h₁.symm
 subst this;exact⟨VC hm,hT,h₂,rfl⟩
theorem agA{n:Nat}{keep:List Tmp}{m:List (Nat×Nat)}{nx:Nat}{st N:St}(e:xe 0 n keep m nx st=some N){X₀ X:Cx}{a:Act}(aGI:ab X₀)(hlo:∀i,i<X₀.h.next->da m i=some i\/inv m i=none)(hnx:X₀.h.next<=nx)
  (hr:∀i,i<X₀.h.next->X₀.s i≠none) (E:aH X₀ X) (R:RF X n st a):∃X',X'.w=X.w/\RF X' n N a/\aH X₀ X':=by
 obtain⟨O,hT,ht,hn⟩:=NS e;have hX:=R.h;rw[<-hX]at ht;have Q:=UJ R.H hnx O ht (A':=X.A) (fun b h=>.inl h) (by
  rintro b hb ⟨i,o',c,h1,h2,h3⟩;rcases(xV ht i).2 o' h1 with r|⟨j,o,a1,a2,_⟩
  .simp[Tr.get]at r
  .replace h2:gn X₀.h.next X.s m i=some c:=h2
   unfold gn at h2;rw[FF O a1]at h2;exact R.H.loc j o c b a2 h2 h3 hb)
 have hN:N.h=⟨N.h.tr,nx⟩:=by rw[<-hn]
 refine⟨⟨gn X₀.h.next X.s m,⟨N.h.tr,nx⟩,X.w,X.A⟩,rfl,⟨hN.symm,⟨R.T.size,R.T.defers,?_⟩,Q.H⟩,?_⟩
 .intro x v' q;obtain⟨v,a1,a2⟩:=Hk hT x v' q;obtain⟨V,b1,b2⟩:=R.T.get x v a1;exact⟨V,b1,G8 Q.R a2 b2⟩
 .have sl:∀i,i<X₀.h.next->gn X₀.h.next X.s m i=X.s i:=fun i hi=>by
   rcases hlo i hi with q|q
   .exact Q.s1 i i q
   .unfold gn;rw[q,show Nat.blt i X₀.h.next=true by rw[acl];exact hi]
  refine⟨E.os,E.tape,E.output,E.size,?_,?_,hnx,E.frame,fun b h=>E.bI b (Q.bI b h),?_,?_,E.A⟩
  .intro i l h;show gn X₀.h.next X.s m i=_;rw[sl i (aGI.cJ i l h)];exact E.sg i l h
  .intro i l hi h
   replace h:gn X₀.h.next X.s m i=some l:=h
   rw[sl i hi]at h;exact E.cJ i l hi h
  .intro j n hj h;rcases hlo j hj with q|q
   .exact E.len j n hj (Q.R.obj j j n q h)
   .obtain⟨o',h2,_⟩:=kb h;obtain⟨k,o,a,_⟩:=Q.g2 j o' h2;rw[FF O (yn a)]at q;cases q
  grind
def aw2:LA->Option Nat
 |.ptr b _=>some b|.dK b _ _=>some b|.rp b=>some b|.hd b _=>some b|.mp b=>some b|.ez b=>some b|_=>none
def numOf:AV->Option Nat
 |.ptr b _=>some b|.dK b _ _ _=>some b|.rp b _=>some b|.hd b _=>some b|.mp b=>some b|.ez b=>some b|_=>none
def pF:List LA->List AV->List (LA×AV)->List (LA×AV)
 |[],_,r=>r|a::l,m,r=>match m with|b::m=>(a,b)::pF l m r|[]=>r
def nL(lh:List (Nat×LO))(h:Tr aE):Nat->List (LA×AV)->List (Nat×Nat)->Option (List (Nat×Nat))
 |0,_,_=>none|k+1,l,m=>match l with
  |[]=>some m|p::l=>match aw2 p.1,numOf p.2 with
   |some i,some j=>match da m j with|some _=>nL lh h k l m|none=>match oT lh i,h.get j with|some (.cells a _),some (.cells b _)=>nL lh h k (pF a b l) ((j,i)::m)|some (.dA _ a _),some (.dA _ _ _ b _)=>nL lh h k (pF a b l) ((j,i)::m)|_,_=>nL lh h k l ((j,i)::m)
   |_,_=>match p.1,p.2 with|.func _ x c,.func _ x' c'=>nL lh h k (pF x x' (pF c c' l)) m|.agg x,.agg x'=>nL lh h k (pF x x' l) m|.bB x,.bB x'=>nL lh h k (pF x x' l) m|_,_=>nL lh h k l m
def vW(T:Tr AV):List (Tmp×LA)->List (LA×AV)
 |[]=>[]|p::l=>match T.get p.1 with|some v=>(p.2,v)::vW T l|none=>vW T l
def FZ:List (Tmp×LA)->List Tmp
 |[]=>[]|p::l=>p.1::FZ l
def qz(lh:List (Nat×LO)):Nat->List (Nat×Nat)
 |0=>[]|b+1=>match oT lh b with|some _=>(b,b)::qz lh b|none=>qz lh b
def zM:Nat->jp->jp
 |0,r=>r|b+1,r=>b::zM b r
def yd(lh:List (Nat×LO))(h:Tr aE):Nat->List (LA×AV)
 |0=>[]|b+1=>match oT lh b,h.get b with|some (.cells x _),some (.cells y _)=>pF x y (yd lh h b)|some (.dA _ x _),some (.dA _ _ _ y _)=>pF x y (yd lh h b)|_,_=>yd lh h b
def KO{α:Type}:List α->List α->List α
 |[],m=>m|x::l,m=>x::KO l m
def Zv{α:Type}:List α->List α->List α
 |[],m=>m|x::l,m=>Zv l (x::m)
def vI(T:Tr AV):List (Tmp×LA)->jp->jp
 |[],r=>r|p::l,r=>match T.get p.1 with|some v=>fO v (vI T l r)|none=>vI T l r
theorem NB{X:Cx}{n:Nat}{T:Tr AV}{a:Act}(R:ig X n T a):∀{l:List (Tmp×LA)}{r:jp},(∀j∈r,X.s j≠none)->∀j∈vI T l r,X.s j≠none
 |[],r,h,j,hj=>h j hj|p::l,r,h,j,hj=>by
  simp only[vI]at hj;split at hj
  .rename_i v hv;obtain⟨V,_,b2⟩:=R.get _ _ hv;exact Zyi v b2 (NB R h) j hj
  .exact NB R h j hj
theorem UZ:∀{b:Nat}{r:jp}{j:Nat},j∈zM b r->j<b\/j∈r
 |0,r,j,h=>.inr h|b+1,r,j,h=>by
  simp only[zM,AT]at h;rcases h with rfl|h
  .exact .inl aGl
  .rcases UZ h with q|q
   .exact .inl aGl
   .exact .inr q
def zN(m:List (Nat×Nat))(b:Nat)(r:Bool):Bool:=match inv m b with|none=>r|some _=>false
def rO(m:List (Nat×Nat)):Nat->Bool
 |0=>true|b+1=>match da m b with
  |some i=>match Nat.beq i b with|true=>rO m b|false=>zN m b (rO m b)
  |none=>zN m b (rO m b)
theorem P0{m:List (Nat×Nat)}{b:Nat}{r:Bool}(h:zN m b r=true):inv m b=none/\r=true:=by
 unfold zN at h
 grind
theorem Zyf{m:List (Nat×Nat)}:∀{b:Nat},rO m b=true->∀i,i<b->da m i=some i\/inv m i=none
 |0,_,i,h=>by omega|b+1,e,i,h=>by
  have key:(da m b=some b\/inv m b=none)/\rO m b=true:=by
   simp only[rO]at e;split at e
   .rename_i k hk;split at e
    .rename_i q
     simp_all
    .obtain⟨h1,h2⟩:=P0 e;exact⟨.inr h1,h2⟩
   .obtain⟨h1,h2⟩:=P0 e;exact⟨.inr h1,h2⟩
  rcases ww i b with r|r
  .exact Zyf key.2 i r
  grind
def BX(base:Nat)(lay:Lay)(st:St):Option (jp×Hp):=match nL lay.h st.h.tr 1000 (KO (vW st.T lay.T) (yd lay.h st.h.tr base)) (qz lay.h base)with|some m=>qy lay.h (Zv m []) (vI st.T lay.T (zM base [])) st.h|none=>none
def enter(base n:Nat)(lay:Lay)(own:List (Tmp×Sh×TypeId))(st:St):Option (TL lay.σs):=match uz n own st with
 |some st=>match rW n lay.h lay.T st with
  |some st=>match BX base lay st with
   |some (_,h)=>match nL lay.h h.tr 1000 (KO (vW st.T lay.T) (yd lay.h h.tr base)) (qz lay.h base)with
    |some m=>match rO m base,Nat.ble base lay.nx,xe 0 n (FZ lay.T) m lay.nx ⟨st.T,h⟩with|true,true,some st=>lay.get st|_,_,_=>none
    |none=>none
   |none=>none
  |none=>none
 |none=>none
def Real(X:Cx):Prop:=∀i,i<X.h.next->X.s i≠none
theorem QC{n:Nat}{lay:Lay}{N st:St}{d:TL lay.σs}(hg:lay.get N=some d)(hp:lay.put n d=some st){X₀ X:Cx}{a:Act}(hb:X₀.h.next<=lay.nx)(hr:Real X₀)(aGI:ab X₀)(hn:N.h.next=lay.nx)(E:aH X₀ X)(R:RF X n N a) :
  ∃X',X'.w=X.w/\RF X' n st a/\aH X₀ X':=by
 unfold Lay.get at hg;split at hg<;>try cases hg
 rename_i dh hh;unfold Lay.put at hp;split at hp<;>try cases hp
 rename_i T aHg hT;obtain⟨e1,t2⟩:=VH hg hT;subst e1;split at hp<;>try cases hp
 rename_i t ht;have h2:=VJ hh ht;have hX:=R.h;have bI:∀b,Cx.bI ⟨X.s,⟨t,lay.nx⟩,X.w,X.A⟩ b->X.bI b:=by rintro b ⟨i,o',c,q1,q2⟩;obtain⟨o,g1,g2⟩:=h2 i o' q1;exact⟨i,o,c,by rw[hX];exact g1,q2⟩
 have RE:gw X ⟨X.s,⟨t,lay.nx⟩,X.w,X.A⟩:=by
  refine⟨fun _ _ h=>h,?_,?_⟩
  .intro b o h q;refine⟨q,?_⟩;rintro(r|r)
   .exact h (.inl r)
   .exact h (.inr (bI b r))
  .intro j l n _ q;obtain⟨o',q,hr⟩:=kb q;obtain⟨o,g1,g2⟩:=h2 j _ q;rw[hX,ji g1];exact g2.2 n hr
 have H':ab ⟨X.s,⟨t,lay.nx⟩,X.w,X.A⟩:=by
  refine⟨?_,?_,?_,?_,R.H.alt,?_⟩
  .intro i o' l q1 q2;obtain⟨o,g1,g2⟩:=h2 i o' q1;have:=R.H.obj i o l (by rw[hX];exact g1) q2;exact(g2.1 X l this).ext RE (fun _ _=>rfl)
  .intro i j o o' c c' b q1 q2 q3 q4;obtain⟨p,g1,_⟩:=h2 i o q1;obtain⟨p',g2,_⟩:=h2 j o' q2;exact R.H.inj i j p p' c c' b (by rw[hX];exact g1) (by rw[hX];exact g2) q3 q4
  .intro i o' q;obtain⟨o,g1,_⟩:=h2 i o' q;have:=R.H.lt i o (by rw[hX];exact g1)
   grind
  .intro i l q;have:=R.H.cJ i l q
   grind
  .intro i o' c b q1 q2;obtain⟨o,g1,_⟩:=h2 i o' q1;exact R.H.loc i o c b (by rw[hX];exact g1) q2
 refine⟨⟨X.s,⟨t,lay.nx⟩,X.w,X.A⟩,rfl,⟨rfl,⟨R.T.size,R.T.defers,?_⟩,H'⟩,?_⟩
 .intro x v' q;obtain⟨v,a1,a2⟩:=t2 x v' q;obtain⟨V,b1,b2⟩:=R.T.get x v a1;exact⟨V,b1,(a2 X V b2).ext RE⟩
 .refine⟨E.os,E.tape,E.output,E.size,E.sg,E.cJ,hb,E.frame,fun b h=>E.bI b (bI b h),?_,fun i hi q=>absurd q (hr i hi),E.A⟩;intro j n hj q;obtain⟨o',q,hr⟩:=kb q;obtain⟨o,g1,g2⟩:=h2 j _ q;exact E.len j n hj (by rw[hX,ji g1];exact g2.2 n hr)
theorem Wz{base:Nat}{lay:Lay}{st:St}{kn:jp}{h':Hp}(e:BX base lay st=some (kn,h')){X:Cx}{n:Nat}{a:Act}(R:RF X n st a)(hlo:∀i,i<base->X.s i≠none) :
  ∃X',X'.w=X.w/\RF X' n ⟨st.T,h'⟩ a/\aH X X'/\∀j∈kn,X'.s j≠none:=by
 unfold BX at e;split at e<;>try cases e
 rename_i m hm;have hX:=R.h;rw[<-hX]at e;obtain⟨X',⟨w',hh,H',E'⟩,hk⟩:=vT R.H e (NB R.T (fun j hj=>by
  rcases UZ hj with q|q
  .exact hlo j q
  .cases q))
 exact⟨X',w',⟨hh,R.T.ext (E'.ei R.H),H'⟩,E',hk⟩
theorem Real.of{X X':Cx}(h:Real X)(E:aH X X'):∀i,i<X.h.next->X'.s i≠none:=by intro i hi q;cases r:X.s i with|none=>exact h i hi r|some l=>rw[E.sg _ _ r]at q;cases q
theorem Ek{base n:Nat}{lay:Lay}{own:List (Tmp×Sh×TypeId)}{aIs st:St}{d:TL lay.σs}(hg:enter base n lay own aIs=some d)(hp:lay.put n d=some st){X₀ X:Cx}{a:Act}(hb:X₀.h.next=base/\Real X₀)(aGI:ab X₀)(E:aH X₀ X)(R:RF X n aIs a) :
  ∃X',X'.w=X.w/\RF X' n st a/\aH X₀ X':=by
 obtain⟨hb,hr⟩:=hb;unfold enter at hg;split at hg<;>try cases hg
 rename_i aIt h₁;split at hg<;>try cases hg
 rename_i aIu h₂;split at hg<;>try cases hg
 rename_i kn h aHW;split at hg<;>try cases hg
 rename_i m hm;split at hg<;>try cases hg
 rename_i N hlow hnx hN;have hnx:=qr hnx;obtain⟨X₁,aIM,aGP,aGz⟩:=G0 h₁ R;obtain⟨aGY,aIN,aGQ,aGA⟩:=Ag h₂ aGP;have aGy:=(E.trans aGz).trans aGA;obtain⟨aGZ,aIO,aGR,aGB,_⟩:=Wz aHW aGQ (fun i hi=>hr.of aGy i aGl);obtain⟨aHa,aIP,aGS,aGC⟩:=agA hN aGI (fun i hi=>Zyf hlow i aGl) aGl hr (aGy.trans aGB) aGR;have hn:N.h.next=lay.nx:=(NS hN).2.2.2;obtain⟨aHb,aIQ,aGT,aGD⟩:=QC hg hp aGl hr aGI hn aGC aGS
 grind
def KS:Ex->Ex->Bool
 |.normal,e=>match e with|.normal=>true|_=>false
 |.exit i,e=>match e with|.exit j=>Nat.beq i j|_=>false
 |.ret,e=>match e with|.ret=>true|_=>false
theorem WA{a b:Ex}(h:KS a b=true):a=b:=by
 cases a<;>cases b<;>first|rfl|cases h|skip
 rw[aK h]
def Out:List (Ex×Lay)->Type
 |[]=>Empty|[p]=>TL p.2.σs|p::q::l=>TL p.2.σs⊕Out (q::l)
abbrev be(l:Lay)(o:List (Ev.Ex×Lay)):=TL l.σs->Option (Out o)
abbrev am(l:Lay)(o:List (Ev.Ex×Lay)):=Option (TL l.σs⊕Out o)
def r9{R:Type}(n:Nat):(l:List (Ex×Lay))->Out l->(Ex->St->Option R)->Option R
 |[],_,_=>none|[p],o,k=>match p.2.put n o with|some st=>k p.1 st|none=>none
 |p::q::l,o,k=>match o with
  |.inl d=>match p.2.put n d with|some st=>k p.1 st|none=>none
  |.inr o=>r9 n (q::l) o k
def lT(n:Nat):(l:List (Ex×Lay))->Out l->Option (Ex×St)
 |[],_=>none|[p],o=>match p.2.put n o with|some st=>some (p.1,st)|none=>none
 |p::q::l,o=>match o with
  |.inl d=>match p.2.put n d with|some st=>some (p.1,st)|none=>none
  |.inr o=>lT n (q::l) o
theorem G9{R:Type}{n:Nat}:∀{l:List (Ex×Lay)}{o:Out l}{k:Ex->St->Option R}{r:R},r9 n l o k=some r->∃e st,lT n l o=some (e,st)/\k e st=some r
 |[],o,k,r,h=>by cases h
 |[p],o,k,r,h=>by
  simp only[r9]at h;split at h<;>try cases h
  rename_i st hst;exact⟨p.1,st,by simp only[lT,hst],h⟩
 |p::q::l,o,k,r,h=>by
  cases o with
  |inl d=>
   simp only[r9]at h;split at h<;>try cases h
   rename_i st hst;exact⟨p.1,st,by simp only[lT,hst],h⟩
  |inr o=>simp only[r9]at h;obtain⟨e,st,h1,h2⟩:=G9 h;exact⟨e,st,by simp only[lT];exact h1,h2⟩
def oW(base n:Nat):(l:List (Ex×Lay))->Ex->St->Option (Out l)
 |[],_,_=>none|[p],e,st=>match KS p.1 e with|true=>enter base n p.2 [] st|false=>none
 |p::q::l,e,st=>match(match KS p.1 e with|true=>enter base n p.2 [] st|false=>none)with|some d=>aGt d|none=>match oW base n (q::l) e st with|some o=>aGu o|none=>none
theorem N5{base n:Nat}:∀{l:List (Ex×Lay)}{e:Ex}{aIs:St}{o:Out l},oW base n l e aIs=some o->∀{e':Ex}{st:St},lT n l o=some (e',st)->e'=e /\
  ∀{X₀ X:Cx}{a:Act},(X₀.h.next=base/\Real X₀)->ab X₀->aH X₀ X->RF X n aIs a->∃X',X'.w=X.w/\RF X' n st a/\aH X₀ X'
 |[],e,aIs,o,h,e',st,hs=>by cases h
 |[p],e,aIs,o,h,e',st,hs=>by
  simp only[oW]at h;split at h<;>try cases h
  rename_i he;simp only[lT]at hs;split at hs<;>try cases hs
  rename_i hp;exact⟨WA he,fun hb aGI E R=>Ek h hp hb aGI E R⟩
 |p::q::l,e,aIs,o,h,e',st,hs=>by
  simp only[oW]at h;split at h
  .rename_i d hd;cases h;split at hd<;>try cases hd
   rename_i he;simp only[lT]at hs;split at hs<;>try cases hs
   rename_i hp;exact⟨WA he,fun hb aGI E R=>Ek hd hp hb aGI E R⟩
  .split at h<;>cases h;rename_i o' ho;simp only[lT]at hs;exact N5 ho hs
structure kT where
 np:Nat
 lay:Lay
 nr:Nat
 outs:List (Ex×Lay)
 F:be lay outs
def mS(T:Tr AV):Nat->Nat->Option (List AV)
 |0,_=>some []|k+1,i=>match T.get i with
  |some v=>match mS T k (i+1)with|some l=>some (v::l)|none=>none
  |none=>none
theorem NM{X:Cx}{n:Nat}{T:Tr AV}{a:Act}(R:ig X n T a):∀{k i:Nat}{us:List AV}{Vs:kw},mS T k i=some us->Vs.length=k->(∀t,t<k->a.tmps[i+t]?=Vs[t]?)->bm X us Vs
 |0,i,us,Vs,e,hl,h=>by simp only[mS,bo]at e;subst e;exact ut hl|k+1,i,us,Vs,e,hl,h=>by
  simp only[mS]at e;split at e<;>try cases e
  rename_i v hv;split at e<;>cases e;rename_i l hL;cases Vs with
  |nil=>simp at hl|cons V r=>
   obtain⟨U,b1,b2⟩:=R.get _ _ hv;have h0:=h 0 aGl;simp only[aux,pm]at h0;rw[b1]at h0;cases h0;refine⟨_,r,rfl,b2,NM R hL (by grind) ?_⟩
   grind
def km(P:Program)(f:FuncId)(s:kT):Prop:=
 (∃fn c,P.funcs[f]?=some fn/\(fn.name == "runtime.NumGoroutine")=false/\fn.body=some c) /\
 ∀d o,s.F d=some o->∀st e st',s.lay.put s.np d=some st->lT s.nr s.outs o=some (e,st')->∀X vs args,X.h=st.h->ab X->Real X->mS st.T s.np 0=some vs->bm X vs args ->
  Calls P f (List.toArray args) X.w fun e w'=>∃X' Vs,e=.returned (mq Vs)/\X'.w=w'/\X'.h=st'.h/\ab X'/\aH X X'/\∀us,mS st'.T s.nr 0=some us->bm X' us Vs
def uq{α:Type}:List α->Nat
 |[]=>0|_::l=>uq l+1
theorem He{α:Type}:∀l:List α,uq l=l.length
 |[]=>rfl|_::l=>by simp[uq,He l]
def zH(kn:jp):List (Nat×Nat)->Bool
 |[]=>true|p::m=>match iW p.1 kn with|true=>zH kn m|false=>false
theorem Zz6{kn:jp}:∀{m:List (Nat×Nat)},zH kn m=true->∀p∈m,p.1∈kn
 |[],_,p,hp=>by cases hp
 |q::m,h,p,hp=>by
  simp only[zH]at h;split at h<;>try cases h
  rename_i hq;rcases AT.1 hp with rfl|hp
  .exact Ef hq
  .exact Zz6 h p hp
def B8(i:Nat):List (Nat×Nat)->Bool
 |[]=>false|p::m=>match Nat.beq p.2 i with|true=>true|false=>B8 i m
theorem U2{i:Nat}:∀{m:List (Nat×Nat)},B8 i m=true->∃j,(j,i)∈m
 |[],h=>by cases h
 |p::m,h=>by
  simp only[B8]at h;split at h
  .rename_i q;have q:=aK q
   grind
  .obtain⟨j,hj⟩:=U2 h
   grind
def zQ(m:List (Nat×Nat)):Nat->Bool
 |0=>true|b+1=>match B8 b m with|true=>zQ m b|false=>false
theorem Zye{m:List (Nat×Nat)}:∀{b:Nat},zQ m b=true->∀i,i<b->∃j,(j,i)∈m
 |0,_,i,h=>by omega|b+1,e,i,h=>by
  simp only[zQ]at e;split at e<;>try cases e
  rename_i q;rcases ww i b with r|r
  .exact Zye e i r
  .rw[show i=b by omega];exact U2 q
def Ij(s:kT)(vs:List AV)(h:Hp):Option (List (Nat×Nat)×Hp×TL s.lay.σs):=match Nat.beq (uq vs) s.np,iP s.np vs 0 .nil with
 |true,some T=>match rW s.np s.lay.h s.lay.T ⟨T,h⟩with
  |some st=>match BX 0 s.lay st with
   |some (kn,h)=>match nL s.lay.h h.tr 1000 (vW st.T s.lay.T) []with
    |some m=>match zH kn m,zQ m s.lay.nx,xe 0 s.np (FZ s.lay.T) m s.lay.nx ⟨st.T,h⟩with
     |true,true,some N=>match s.lay.get N with
      |some d=>match s.lay.put s.np d with
       |some st=>match mS st.T s.np 0 with|some _=>some (m,h,d)|none=>none
       |none=>none
      |none=>none
     |_,_,_=>none
    |none=>none
   |none=>none
  |none=>none
 |_,_=>none
def tN(t:Tr aE):List (Nat×Nat)->Option (Tr aE)
 |[]=>some t|p::m=>match tN t m with|some t=>Tr.set FT t p.1 none|none=>none
theorem NU{t:Tr aE}:∀{m:List (Nat×Nat)}{t':Tr aE},tN t m=some t'->∀k,(t'.get k=t.get k/\∀i,(k,i)∉m)\/(t'.get k=none/\∃i,(k,i)∈m)
 |[],t',e,k=>by simp only[tN,bo]at e;grind|p::m,t',e,k=>by
  simp only[tN]at e;split at e<;>try cases e
  rename_i aIF h₁;rw[Tr.bM _ _ _ _ _ e k];by_cases q:k=p.1
  .rw[BY q]
   grind
  .rw[rx q];rcases NU h₁ k with⟨a,b⟩|⟨a,i,b⟩
   .exact .inl ⟨a,fun i hi=>by grind⟩
   grind
def news(nx hn:Nat):Nat->List (Nat×Nat)
 |0=>[]|q+1=>(nx+q,hn+q)::news nx hn q
theorem N4{nx hn:Nat}:∀{c:Nat}{p:Nat×Nat},p∈news nx hn c↔∃q,q<c/\p=(nx+q,hn+q)
 |0,p=>by simp[news]|c+1,p=>by
  simp only[news,AT,N4 (c:=c)]
  grind
def vP:List (Nat×Nat)->List (Nat×Nat)->List (Nat×Nat)
 |[],r=>r|p::m,r=>(p.2,p.1)::vP m r
theorem DU:∀{m r:List (Nat×Nat)}{p:Nat×Nat},p∈vP m r↔(p.2,p.1)∈m\/p∈r
 |[],r,p=>by simp[vP]|q::m,r,p=>by
  obtain⟨a,b⟩:=p;obtain⟨c,d⟩:=q;simp only[vP,AT,DU (m:=m),Do]
  grind
def oS(m:List (Nat×Nat))(nx hn c:Nat):List (Nat×Nat):=vP m (news nx hn c)
theorem aeN{m:List (Nat×Nat)}{nx hn c:Nat}(O:qI 0 nx m)(hm:∀p∈m,p.1<hn):qI 0 (hn+c) (oS m nx hn c):=by
 have mem:∀p,p∈oS m nx hn c->(p.2,p.1)∈m\/∃q,q<c/\p=(nx+q,hn+q):=by
  intro p hp;rcases DU.1 hp with h|h
  .exact .inl h
  .exact .inr (N4.1 h)
 refine⟨?_,?_,?_⟩
 .intro p hp
  grind
 .intro p hp p' hp' e;rcases mem p hp with h|⟨q,h,rfl⟩<;>rcases mem p' hp' with h'|⟨q',h',rfl⟩
  .have:=O.snd _ h _ h' e
   grind
  .have:=(O.lo _ h).2.2;simp only at this e;omega
  .have:=(O.lo _ h').2.2;simp only at this e;omega
  .simp only at e;rw[show q=q' by omega]
 .intro p hp p' hp' e;rcases mem p hp with h|⟨q,h,rfl⟩<;>rcases mem p' hp' with h'|⟨q',h',rfl⟩
  .have:=O.fst _ h _ h' e
   grind
  .have:=hm _ h;simp only at this e;omega
  .have:=hm _ h';simp only at this e;omega
  grind
def Hz(m:List (Nat×Nat))(h:Hp)(nx nr:Nat)(st':St):Option (List AV×Hp):=match tN h.tr m,mS st'.T nr 0 with
 |some t,some us=>match oJ (da (oS m nx h.next (st'.h.next-nx))) st'.h.tr (oS m nx h.next (st'.h.next-nx)) t,mX (da (oS m nx h.next (st'.h.next-nx))) us with|some t',some us'=>some (us',⟨t',h.next+(st'.h.next-nx)⟩)|_,_=>none
 |_,_=>none
theorem ae3{aGY Xn X₀:Cx}{m:List (Nat×Nat)}{nx:Nat}(aGK:ab aGY)(O:qI 0 nx m)(Q:WE m aGY Xn)(hnx:Xn.h.next=nx)(hAn:∀b,Xn.A b↔aGY.out b/\¬Xn.bI b)(hwn:Xn.w=aGY.w)
  (hreal:∀p∈m,aGY.s p.1≠none) (H':ab X₀) (E:aH Xn X₀) {aIF t':Tr aE}(hk:tN aGY.h.tr m=some aIF)
  (hc:oJ (da (oS m nx aGY.h.next (X₀.h.next-nx))) X₀.h.tr (oS m nx aGY.h.next (X₀.h.next-nx)) aIF=some t') :
  ∃X',X'.w=X₀.w/\X'.h=⟨t',aGY.h.next+(X₀.h.next-nx)⟩/\ab X'/\aH aGY X'/\Rn (da (oS m nx aGY.h.next (X₀.h.next-nx))) X₀ X':=by
 obtain⟨hn,ehn⟩:∃hn,hn=aGY.h.next:=⟨_,rfl⟩;obtain⟨cnt,ecnt⟩:∃c,c=X₀.h.next-nx:=⟨_,rfl⟩;rw[<-ehn,<-ecnt]at hc |-;have hcn:X₀.h.next=nx+cnt:=by have:=E.next;omega
 have mlt:∀p∈m,p.1<hn:=by intro p hp;cases q:aGY.s p.1 with|none=>exact absurd q (hreal p hp)|some l=>have:=aGK.cJ _ _ q;omega
 have OG:=aeN (c:=cnt) O mlt;obtain⟨G,eG⟩:∃G,G=oS m nx hn cnt:=⟨_,rfl⟩;have gmem:∀i k,(i,k)∈G->((k,i)∈m/\k<hn/\i<nx)\/∃q,q<cnt/\i=nx+q/\k=hn+q:=by
  intro i k h;rw[eG]at h;rcases DU.1 h with h|h
  .exact .inl ⟨h,mlt _ h,(O.lo _ h).2.2⟩
  .obtain⟨q,h1,h2⟩:=N4.1 h;simp only[Do]at h2;exact .inr ⟨q,h1,h2.1,h2.2⟩
 rw[<-eG]at OG hc |-;have gI:∀i k,da G i=some k->(i,k)∈G:=fun i k h=>yn h;have gM:∀i k,(i,k)∈G->da G i=some k:=fun i k h=>vU OG h
 let s':Sg:=fun k=>if k<hn then aGY.s k else X₀.s (k-hn+nx)
 have sold:∀k l,aGY.s k=some l->k<hn/\s' k=some l:=by
  intro k l h;have:=aGK.cJ k l h;have hlt:k<hn:=aGl
  exact⟨hlt,by simp only[s',BY hlt];exact h⟩
 have gS:∀i k,da G i=some k->s' k=X₀.s i:=by
  intro i k h;rcases gmem i k (gI i k h)with⟨h1,h2,h3⟩|⟨q,h1,rfl,rfl⟩
  .simp only[s',BY h2];have e1:=Q.s1 k i (vU O h1);cases r:aGY.s k with|none=>exact absurd r (hreal _ h1)|some l=>rw[r]at e1;exact(E.sg i l e1).symm
  .simp only[s'];rw[rx aGl];congr 1;omega
 have objF:∀k o',t'.get k=some o'->(aGY.h.tr.get k=some o'/\(∀i,(k,i)∉m)/\k<hn)\/∃i o,da G i=some k/\X₀.h.tr.get i=some o/\jd (da G) o=some o':=by
  intro k o' h;rcases(xV hc k).2 o' h with r|⟨i,o,a,b,c⟩
  .rcases NU hk k with⟨a,b⟩|⟨a,_⟩
   .rw[a]at r;have:=aGK.lt k o' r;exact .inl ⟨r,b,aGl⟩
   .rw[a]at r;cases r
  .exact .inr ⟨i,o,gM i k a,b,c⟩
 have gone:∀k i,(k,i)∈m->∀j,da G j=some k->j=i:=by
  intro k i h j hj;have h1:(i,k)∈G:=by rw[eG];exact DU.2 (.inl h)
  have:=OG.snd _ (gI j k hj) _ h1 rfl;simpa using this
 have notG:∀k,(∀i,(k,i)∉m)->k<hn->∀i,da G i≠some k:=by
  intro k h1 h2 i h3;rcases gmem i k (gI i k h3)with⟨a,_⟩|⟨q,_,_,a⟩
  .exact h1 i a
  .omega
 have imgn:∀k i l,da m k=some i->aGY.s k=some l->Xn.s i=some l:=fun k i l h1 h2=>by rw[Q.s1 k i h1];exact h2
 have imgX:∀b,Xn.bI b->∃k i o c,(k,i)∈m/\aGY.h.tr.get k=some o/\aGY.s k=some c/\c.own b:=by rintro b ⟨i,o',c,h1,h2,h3⟩;obtain⟨k,o,a1,a2,_⟩:=Q.g2 i o' h1;rw[Q.s1 k i a1]at h2;exact⟨k,i,o,c,yn a1,a2,h2,h3⟩
 have other:∀k o c b,aGY.h.tr.get k=some o->(∀i,(k,i)∉m)->aGY.s k=some c->c.own b->Xn.A b:=by intro k o c b h1 h2 h3 h4;refine(hAn b).2 ⟨.inr ⟨k,o,c,h1,h3,h4⟩,fun hi=>?_⟩;obtain⟨k',i,o',c',g1,g2,g3,g4⟩:=imgX b hi;have:=aGK.inj k k' o o' c c' b h1 g2 h3 g3 h4 g4;subst this;exact h2 i g1
 have aGw:∀b,aGY.A b->Xn.A b:=by intro b h;refine(hAn b).2 ⟨.inl h,fun hi=>?_⟩;obtain⟨k',i,o',c',g1,g2,g3,g4⟩:=imgX b hi;exact aGK.loc k' o' c' b g2 g3 g4 h
 have img':∀b,Cx.bI ⟨s',⟨t',hn+cnt⟩,X₀.w,aGY.A⟩ b->X₀.bI b\/(Xn.A b/\aGY.bI b):=by
  rintro b ⟨k,o',c,h1,h2,h3⟩
  replace h2:s' k=some c:=h2
  rcases objF k o' h1 with⟨a1,a2,a3⟩|⟨i,o,a1,a2,a3⟩
  .simp only[s',BY a3]at h2;exact .inr ⟨other k o' c b a1 a2 h2 h3,k,o',c,a1,h2,h3⟩
  .rw[gS i k a1]at h2;exact .inl ⟨i,o,c,a2,h2,h3⟩
 have outn:∀b,Xn.out b->aGY.out b:=by
  rintro b (h|h)
  .exact((hAn b).1 h).1
  .exact .inr (Q.bI b h)
 have arr:∀i k n,da G i=some k->rowOf t' k=some n->rowOf X₀.h.tr i=some n:=by
  intro i k n h1 h2;obtain⟨o',h2,hr⟩:=kb h2;rcases objF k _ h2 with⟨a1,a2,a3⟩|⟨i',o,a1,a2,a3⟩
  .exact absurd h1 (notG k a2 a3 i)
  .have:=OG.snd _ (gI i k h1) _ (gI i' k a1) rfl;simp only[Do,aFa]at this;subst this;rw[ji a2,<-Zg a3];exact hr
 have Rn':Rn (da G) X₀ ⟨s',⟨t',hn+cnt⟩,X₀.w,aGY.A⟩:=by
  refine⟨fun i k l q r=>by show s' k=_;rw[gS i k q];exact r,?_,arr⟩;intro b o h q;refine⟨q,?_⟩;rintro(r|r)
  .refine h (.inl ?_);rw[E.A];exact aGw b r
  .rcases img' b r with r|⟨r,_⟩
   .exact h (.inr r)
   .refine h (.inl ?_);rw[E.A];exact r
 have low:∀b,b<aGY.w.heap.size->¬aGY.bI b->X₀.w.heap[b]?=aGY.w.heap[b]?:=by intro b hb hi;rw[E.frame b (by rw[hwn];exact hb) (fun q=>hi (Q.bI b q)),hwn]
 have lenOld:∀j n,j<hn->rowOf t' j=some n->rowOf aGY.h.tr j=some n:=by
  intro j n hj h0;obtain⟨o',h,hr⟩:=kb h0;rcases objF j _ h with⟨a1,_,_⟩|⟨i,o,a1,a2,a3⟩
  .rw[ji a1];exact hr
  .have h4:=arr i j n a1 h0;rcases gmem i j (gI i j a1)with⟨b1,b2,b3⟩|⟨q,_,_,rfl⟩
   .exact Q.R.obj j i n (vU O b1) (E.len i n aGl h4)
   .omega
 have RE:gw aGY ⟨s',⟨t',hn+cnt⟩,X₀.w,aGY.A⟩:=by
  refine⟨fun k l h=>(sold k l h).2,?_,fun j l n h q=>lenOld j n (sold j l h).1 q⟩;intro b o h q;have hb:=iY q;refine⟨by show X₀.w.heap[b]?=_;rw[low b hb (fun r=>h (.inr r))];exact q,?_⟩;rintro(r|r)
  .exact h (.inl r)
  .rcases img' b r with r|⟨_,r⟩
   .rcases E.bI b r with r|r
    .exact h (.inr (Q.bI b r))
    .rw[hwn]at r;omega
   .exact h (.inr r)
 have hsz:aGY.w.heap.size<=X₀.w.heap.size:=by have:=E.size;rw[hwn]at this;exact this
 refine⟨⟨s',⟨t',hn+cnt⟩,X₀.w,aGY.A⟩,rfl,rfl,⟨?_,?_,?_,?_,?_,?_⟩,?_,Rn'⟩
 .intro k o' l h1 h2
  replace h2:s' k=some l:=h2
  rcases objF k o' h1 with⟨a1,a2,a3⟩|⟨i,o,a1,a2,a3⟩
  .simp only[s',BY a3]at h2;refine(aGK.obj k o' l a1 h2).ext RE ?_;intro b hb;show X₀.w.heap[b]?=_;rw[E.frame b (by rw[hwn];exact aGK.jZ a1 h2 hb) (fun q=>((hAn b).1 (other k o' l b a1 a2 h2 hb)).2 q),hwn]
  .rw[gS i k a1]at h2;exact Wc Rn' rfl a3 (H'.obj i o l a2 h2)
 .intro aHY aHZ aIk aIl aHd aHe b h1 h2 h3 h4 f3 f4
  replace h3:s' aHY=some aHd:=h3
  replace h4:s' aHZ=some aHe:=h4
  rcases objF aHY aIk h1 with⟨a1,a2,a3⟩|⟨i,o,a1,a2,a3⟩<;>rcases objF aHZ aIl h2 with⟨b1,b2,b3⟩|⟨i',o',b1,b2,b3⟩
  .simp only[s',BY a3]at h3;simp only[s',BY b3]at h4;exact aGK.inj aHY aHZ aIk aIl aHd aHe b a1 b1 h3 h4 f3 f4
  .simp only[s',BY a3]at h3;rw[gS i' aHZ b1]at h4;refine absurd (other aHY aIk aHd b a1 a2 h3 f3) ?_;have:=H'.loc i' o' aHe b b2 h4 f4;rw[E.A]at this;exact this
  .simp only[s',BY b3]at h4;rw[gS i aHY a1]at h3;refine absurd (other aHZ aIl aHe b b1 b2 h4 f4) ?_;have:=H'.loc i o aHd b a2 h3 f3;rw[E.A]at this;exact this
  .rw[gS i aHY a1]at h3;rw[gS i' aHZ b1]at h4;have:=H'.inj i i' o o' aHd aHe b a2 b2 h3 h4 f3 f4;subst this;rw[a1]at b1;cases b1;rfl
 .intro k o' h1;show k<hn+cnt;rcases objF k o' h1 with⟨_,_,a3⟩|⟨i,o,a1,a2,a3⟩
  .omega
  .exact(OG.lo _ (gI i k a1)).2.2
 .intro k l h1
  replace h1:s' k=some l:=h1
  show k<hn+cnt;by_cases q:k<hn
  .omega
  .simp only[s',rx q]at h1;have:=H'.cJ _ l h1;omega
 .intro b hb;have:=aGK.alt b hb;show b<X₀.w.heap.size;omega
 .intro k o' c b h1 h2 h4 h3
  replace h2:s' k=some c:=h2
  rcases objF k o' h1 with⟨a1,a2,a3⟩|⟨i,o,a1,a2,a3⟩
  .simp only[s',BY a3]at h2;exact aGK.loc k o' c b a1 h2 h4 h3
  .rw[gS i k a1]at h2;have:=H'.loc i o c b a2 h2 h4;rw[E.A]at this;exact this (aGw b h3)
 .refine⟨by rw[<-hwn];exact E.os,by rw[<-hwn];exact E.tape,by rw[<-hwn];exact E.output,hsz,fun k l h=>(sold k l h).2,?_,by show aGY.h.next<=hn+cnt;omega,low,?_,?_,?_,rfl⟩
  .intro k l hk' h
   replace h:s' k=some l:=h
   simp only[s',BY (show k<hn by omega)]at h;exact h
  .intro b h;rcases img' b h with r|⟨_,r⟩
   .rcases E.bI b r with r|r
    .exact .inl (Q.bI b r)
    .rw[hwn]at r;exact .inr r
   .exact .inl r
  .intro j n hj h;exact lenOld j n aGl h
  .intro k hk' hs;show t'.get k=_;have hnm:∀i,(k,i)∉m:=fun i hi=>hreal _ hi hs;have hng:∀p∈G,p.2≠k:=by rintro⟨i,k'⟩ hp rfl;exact notG k' hnm aGl i (gM i k' hp)
   rw[(xV hc k).1 hng];rcases NU hk k with⟨a,_⟩|⟨_,i,b⟩
   .exact a
   .exact absurd b (hnm i)
theorem agS{P:Program}{f:FuncId}{s:kT}(hC:km P f s){vs:List AV}{h h₂ h':Hp}{m:List (Nat×Nat)}{d:TL s.lay.σs}(aHi:Ij s vs h=some (m,h₂,d)){o:Out s.outs}(ho:s.F d=some o){ex:Ex}{st':St}
  (hs:lT s.nr s.outs o=some (ex,st')) {us':List AV}(aHj:Hz m h₂ s.lay.nx s.nr st'=some (us',h')):zF P f vs h (qH us') h':=by
 refine⟨hC.1,?_⟩;intro X args hX H hR;subst hX;unfold Ij at aHi;split at aHi<;>try cases aHi
 rename_i T hlen hT;split at aHi<;>try cases aHi
 rename_i aIt hfT;split at aHi<;>try cases aHi
 rename_i kn aHV hfM;split at aHi<;>try cases aHi
 rename_i m' hm;split at aHi<;>try cases aHi
 rename_i N hall htot hN;split at aHi<;>try cases aHi
 rename_i d' hg;split at aHi<;>try cases aHi
 rename_i aIs hp;split at aHi<;>try cases aHi
 rename_i aIG aHQ;have hlen:=aK hlen;rw[He]at hlen;have hal:args.length=s.np:=by rw[hR.length];exact hlen
 obtain⟨X₁,aIM,aGP,aGz⟩:=Ag hfT (xW H hT hR);obtain⟨aGY,aIN,aGQ,aGA,hk⟩:=Wz hfM aGP (fun i hi=>aGl);have aGy:=aGz.trans aGA;have aHr:aGY.h=h₂:=aGQ.h;have aHS:aGY.w=X.w:=aIN.trans aIM;have aHl:aGY.A=X.A:=aGy.A;have aGK:=aGQ.H;obtain⟨O,hTN,htN,hnN⟩:=NS hN
 replace htN:oJ (da m) h₂.tr m .nil=some N.h.tr:=htN
 rw[<-aHr]at htN;have hreal:∀p∈m,aGY.s p.1≠none:=fun p hp'=>hk _ (Zz6 hall p hp');have mlt:∀p∈m,p.1<aGY.h.next:=by intro p hp';cases q:aGY.s p.1 with|none=>exact absurd q (hreal p hp')|some l=>exact aGK.cJ _ _ q
 let aGv:Nat->Prop:=fun b=>aGY.out b/\¬∃i o c,N.h.tr.get i=some o/\gn 0 aGY.s m i=some c/\c.own b
 have Q:=UJ aGK (base:=0) (AI _) O htN (A':=aGv) (fun b hb=>hb.1) (fun b hb hi=>hb.2 hi);obtain⟨Xn,hXn⟩:∃Xn:Cx,Xn=⟨gn 0 aGY.s m,⟨N.h.tr,s.lay.nx⟩,aGY.w,aGv⟩:=⟨_,rfl⟩;rw[<-hXn]at Q;have hNh:N.h=⟨N.h.tr,s.lay.nx⟩:=by rw[<-hnN]
 have RN:RF Xn s.np N _:=⟨by rw[hXn];exact hNh.symm,⟨aGQ.T.size,aGQ.T.defers,fun x v' q=>by obtain⟨v,a1,a2⟩:=Hk hTN x v' q;obtain⟨V,b1,b2⟩:=aGQ.T.get x v a1;exact⟨V,b1,G8 Q.R a2 b2⟩⟩,Q.H⟩;have hnx:Xn.h.next=s.lay.nx:=by rw[hXn]
 have hrn:Real Xn:=by intro i hi q;obtain⟨j,hj⟩:=Zye htot i aGl;rw[Q.s1 j i (vU O hj)]at q;exact hreal _ hj q
 obtain⟨Z,wZ,RZ,EZ⟩:=QC hg hp aGl hrn Q.H hnN (aH.refl Xn) RN;have aHJ:aIs.h.next=s.lay.nx:=by
  unfold Lay.put at hp;split at hp<;>try cases hp
  split at hp<;>cases hp;rfl
 have hZn:Z.h.next=s.lay.nx:=by rw[RZ.h];exact aHJ
 have hZr:Real Z:=fun i hi=>hrn.of EZ i aGl;have Rv:=NM RZ.T aHQ hal (fun t ht=>by grind);have hZw:Z.w=X.w:=by rw[wZ,hXn];exact aHS
 rw[<-hZw];refine(hC.2 d o ho aIs ex st' hp hs Z aIG args RZ.h RZ.H hZr aHQ Rv).mono ?_;rintro e w' ⟨X₀,Vs,rfl,rfl,hh',H',aGx,hus⟩;unfold Hz at aHj;split at aHj<;>try cases aHj
 rename_i aIF us hkl hvus;split at aHj<;>try cases aHj
 rename_i t' aIH hcp hru;have E:=EZ.trans aGx;rw[<-hh',<-aHr]at hcp hru;rw[<-aHr]at hkl;obtain⟨X',g1,g2,g3,g4,g5⟩:=ae3 aGK O Q hnx (by rw[hXn];exact fun b=>Iff.rfl) (by rw[hXn]) hreal H' E hkl hcp;refine⟨X',mq Vs,rfl,g1,by rw[g2,aHr,<-hh'],g3,?_,Aq (qR g5 hru (hus us hvus))⟩;exact aGy.trans g4
def Cu{R:Type}:List kT->List AV->Hp->(Bool->AV->Hp->Option R)->Option R
 |[],_,_,_=>none|s::l,vs,h,k=>match Ij s vs h with
  |some x=>aL (s.F x.2.2) fun o=>r9 s.nr s.outs o fun _ st'=>match Hz x.1 x.2.1 s.lay.nx s.nr st' with|some y=>k true (qH y.1) y.2|none=>none
  |none=>Cu l vs h k
abbrev Iq:=FuncId->List kT
def V8(P:Program)(Q:Iq):Prop:=∀f,∀s∈Q f,km P f s
theorem V9{R:Type}{P:Program}{f:FuncId}{vs:List AV}{h:Hp}{k:Bool->AV->Hp->Option R}{r:R}:∀{l:List kT},(∀s∈l,km P f s)->Cu l vs h k=some r ->
  ∃ch v h',k ch v h'=some r/\(ch=false->eF h h')/\zF P f vs h v h'
 |[],_,e=>by cases e
 |s::l,hC,e=>by
  simp only[Cu]at e;split at e
  .rename_i x hx;obtain⟨o,ho,hk⟩:=AE e;obtain⟨ex,st',hs,hk⟩:=G9 hk;split at hk<;>try cases hk
   rename_i y hy;exact⟨true,_,_,hk,fun q=>(by cases q),agS (hC s aGn) hx ho hs hy⟩
  .exact V9 (fun s' h'=>hC s' (by simp[h'])) e
def zJ{R:Type}(call:iB R):iB R:=call
theorem VX{R:Type}{P:Program}{call:iB R}(hc:db P call):db P (zJ call):=hc
structure Kn where
 S:vz
 Q:Iq
structure nX(P:Program)(K:Kn):Prop where
 S:Hm P K.S
 Q:V8 P K.Q
def zI{R:Type}(K:Kn):iB R:=fun f vs h k=>match K.S f with|some _=>Gc K.S f vs h k|none=>Cu (K.Q f) vs h k
theorem VY{R:Type}{P:Program}{K:Kn}(hK:nX P K):db P (zI (R:=R) K):=by
 intro f vs h k r e;unfold zI at e;split at e
 .exact afA hK.S f vs h k r e
 .exact V9 (hK.Q f) e
def known(K:Kn)(f:FuncId):Bool:=match K.S f with|some _=>true|none=>match K.Q f with|[]=>false|_=>true
abbrev Env:=FuncId->Option Func
def kR(P:Program)(E:Env):Prop:=∀f e,E f=some e->P.funcs[f]?=some e/\(e.name == "runtime.NumGoroutine")=false
def Ha{R:Type}(p:FuncId->Bool)(a b:iB R):iB R:=fun f vs h k=>match p f with|true=>a f vs h k|false=>b f vs h k
theorem asi{R:Type}{P:Program}{p:FuncId->Bool}{a b:iB R}(ha:db P a)(hb:db P b):db P (Ha p a b):=by
 intro f vs h k r e;unfold Ha at e;split at e
 .exact ha f vs h k r e
 .exact hb f vs h k r e
section
variable{R:Type}(P:Program)(sh:TypeId->Option Sh)(S:Kn)(E:Env)
def tJ:Nat->iB R
 |0=>zJ (zI S)|d+1=>zJ (Ha (known S) (zI S) fun f vs h k=>match E f with
  |some e=>match e.body with
   |some c=>match iP e.ntmps vs 0 .nil with
    |some T=>runK P sh (tJ d) (fun _ _ _=>none) e.ntmps c ⟨T,h⟩ fun x st=>match x with|.exit _=>none|_=>match iX P st e.results.toList with|some rs=>k true (qH rs) st.h|none=>none
    |none=>none
   |none=>none
  |none=>none)
end
theorem ye{R:Type}{P:Program}(hm:P.follows .mixedOrders=true){sh:TypeId->Option Sh}{S:Kn}(hS:nX P S){E:Env}(hE:kR P E):∀d,db P (tJ (R:=R) P sh S E d)
 |0=>VX (VY hS)|d+1=>by
  refine VX (asi (VY hS) ?_);intro f vs h k r e;dsimp only at e;split at e<;>try cases e
  rename_i en hen;obtain⟨hf,hname⟩:=hE f en hen;split at e<;>try cases e
  rename_i c hb;split at e<;>try cases e
  rename_i T hT;obtain⟨x,st,hk,Tk⟩:=ym (G:=fun _=>True) hm (ye hm hS hE d) (base:=h.next) c (fun x _ st k r q=>by cases q) _ _ r e;have main:(match iX P st en.results.toList with
      |some rs=>k true (qH rs) st.h|none=>none)=some r->(∀i,x≠.exit i)->∃ch v h',k ch v h'=some r/\(ch=false->eF h h')/\zF P f vs h v h':=by
   intro hk hx;split at hk<;>try cases hk
   rename_i rs hrs;refine⟨true,_,st.h,hk,(fun q=>by cases q),⟨en,c,hf,hname,hb⟩,?_⟩;intro X args hX H hR;subst hX;refine calls_of_wp hf hb ?_;refine Tk X X _ ⟨rfl,trivial⟩ H (aH.refl X) (xW H hT hR) _ ?_;intro X' a' R' E';obtain⟨Vs,g1,g2⟩:=sR R' hrs;have fin:a'.defers=[]/\∃V,(results en a'.tmps).run P X'.w=.ok V X'.w/\∃X'' V',Ending.returned V=.returned V'/\X''.w=X'.w/\X''.h=st.h/\ab X''/\aH X X''/\Rel X'' (qH rs) V':=⟨R'.T.defers,_,g1,X',_,rfl,rfl,R'.h,R'.H,E',Aq g2⟩;cases x with|exit i=>exact absurd rfl (hx i)|normal=>exact fin|ret=>exact fin
  grind
def xh{τs:List Sh}(P:Program)(sh:TypeId->Option Sh)(S:Kn)(E:Env)(dep:Nat)(loops:kS (TL τs))(e:Func)(c:Code)(σs:List Sh)(d:TL σs):Option (TL τs):=match iP e.ntmps (yo σs d) 0 .nil with
 |some T=>runK P sh (tJ P sh S E dep) loops e.ntmps c ⟨T,⟨.nil,0⟩⟩ fun x st=>match x with
  |.exit _=>none|_=>match iX P st e.results.toList with
   |some rs=>match mc true st.h τs rs with|some (x,_)=>some x|none=>none
   |none=>none
 |none=>none
variable{c:Code}{σs:List Sh}{τs:List Sh}{F:TL σs->Option (TL τs)}{f:FuncId}{e:Func}{loops:kS (TL τs)}
theorem arV{P:Program}(hm:P.follows .mixedOrders=true){sh:TypeId->Option Sh}{S:Kn}(hS:nX P S){E:Env}(hE:kR P E){dep:Nat}(hl:∀x∈eH c,lx P Real 0 e.ntmps x (loops (jA x)))
  (hf:P.funcs[f]?=some e) (hname:(e.name == "runtime.NumGoroutine")=false) (hb:e.body=some c) 
  (h:∀d x,F d=some x->xh P sh S E dep loops e c σs d=some x):Comes P f σs τs F:=by
 refine⟨⟨e,c,hf,hname,hb⟩,?_⟩;intro d x hx w A args hA ha;have hr:=h d x hx;unfold xh at hr;split at hr<;>try cases hr
 rename_i T hT;obtain⟨y,st,hk,Tk⟩:=ym (G:=Real) hm (ye hm hS hE dep) (base:=0) c hl _ _ _ hr
 let X:Cx:=⟨fun _=>none,⟨.nil,0⟩,w,A⟩
 have out:∀b,X.out b->A b:=by
  rintro b (q|⟨i,o,c,h1,h2⟩)
  .exact q
  .simp[X,Tr.get]at h1
 have H:ab X:=⟨fun i o l h=>by grind,fun i j o o' b c c' h=>by simp[X,Tr.get]at h,fun i o h=>by simp[X,Tr.get]at h,fun i l h=>by simp[X]at h,hA,fun i o b c h=>by grind⟩;have ha':kE X.w X.out σs d args:=ha.keep (fun b o q r=>⟨r,fun s=>q (out b s)⟩);refine calls_of_wp hf hb ?_;refine Tk X X _ ⟨rfl,fun i hi=>absurd hi (Nat.not_lt_zero i)⟩ H (aH.refl X) (xW H hT (xX ha')) _ ?_;intro X' a' R' E';have main:(match iX P st e.results.toList with
   |some rs=>match mc true st.h τs rs with|some (x,_)=>some x|none=>none
   |none=>none)=some x->a'.defers=[]/\∃V,(results e a'.tmps).run P X'.w=.ok V X'.w/\∃vs,Ending.returned V=.returned (mq vs)/\Below w.heap.size w X'.w/\kE X'.w A τs x vs:=by
  intro hk;split at hk<;>try cases hk
  rename_i rs hrs;split at hk<;>cases hk;rename_i h' hfz;obtain⟨Vs,g1,g2⟩:=sR R' hrs;have hX:=R'.h;rw[<-hX]at hfz;obtain⟨Fz,hA'⟩:=vS R'.H hfz g2;refine⟨R'.T.defers,_,g1,Vs,rfl,⟨E'.os,E'.tape,E'.output,E'.size,fun b hb=>E'.frame b hb ?_⟩,?_⟩
  .rintro⟨i,o,c,h1,h2⟩;simp[X,Tr.get]at h1
  .refine hA'.keep (fun b o q r=>⟨r,fun s=>q (.inl ?_)⟩);show X'.A b;rw[E'.A];exact s
 cases y with
 |exit i=>simp only[]at hk;cases hk
 |normal=>exact main hk|ret=>exact main hk
def xj{outs:List (Ex×Lay)}(P:Program)(sh:TypeId->Option Sh)(S:Kn)(E:Env)(dep:Nat)(loops:kS (Out outs))(e:Func)(c:Code)(np nr:Nat)(lay:Lay)(d:TL lay.σs):Option (Out outs):=match lay.put np d with
 |some st=>match mS st.T np 0 with
  |some vs=>match iP e.ntmps vs 0 .nil with
   |some T=>runK P sh (tJ P sh S E dep) loops e.ntmps c ⟨T,st.h⟩ fun x st=>match x with
    |.exit _=>none|_=>match iX P st e.results.toList with
     |some rs=>match Nat.beq (uq rs) nr,iP nr rs 0 .nil with|true,some T=>oW lay.nx nr outs .ret ⟨T,st.h⟩|_,_=>none
     |none=>none
   |none=>none
  |none=>none
 |none=>none
variable{s:kT}
theorem arB{P:Program}(hm:P.follows .mixedOrders=true){sh:TypeId->Option Sh}{S:Kn}(hS:nX P S){E:Env}(hE:kR P E){dep:Nat}{loops:kS (Out s.outs)}(hl:∀x∈eH c,lx P Real s.lay.nx e.ntmps x (loops (jA x)))
  (hf:P.funcs[f]?=some e) (hname:(e.name == "runtime.NumGoroutine")=false) (hb:e.body=some c)
  (h:∀d o,s.F d=some o->xj P sh S E dep loops e c s.np s.nr s.lay d=some o):km P f s:=by
 refine⟨⟨e,c,hf,hname,hb⟩,?_⟩;intro d o ho st ex st' hp hs X vs args hX H hr hv hR;have hrun:=h d o ho;unfold xj at hrun;rw[hp]at hrun;dsimp only at hrun;rw[hv]at hrun;dsimp only at hrun;split at hrun<;>try cases hrun
 rename_i T hT;have hn:st.h.next=s.lay.nx:=by
  unfold Lay.put at hp
  grind
 rw[<-hX]at hrun;obtain⟨y,aIu,hk,Tk⟩:=ym (G:=Real) hm (ye hm hS hE dep) (base:=s.lay.nx) c hl _ _ _ hrun;refine calls_of_wp hf hb ?_;refine Tk X X _ ⟨by grind,hr⟩ H (aH.refl X) (xW H hT hR) _ ?_;intro X' a' R' E';have main:(match iX P aIu e.results.toList with
   |some rs=>match Nat.beq (uq rs) s.nr,iP s.nr rs 0 .nil with|true,some T=>oW s.lay.nx s.nr s.outs .ret ⟨T,aIu.h⟩|_,_=>none
   |none=>none)=some o->a'.defers=[]/\∃V,(results e a'.tmps).run P X'.w=.ok V X'.w/\∃X'' Vs,Ending.returned V=.returned (mq Vs)/\X''.w=X'.w/\X''.h=st'.h/\ab X''/\aH X X''/\∀us,mS st'.T s.nr 0=some us->bm X'' us Vs:=by
  intro hk;split at hk<;>try cases hk
  rename_i rs hrs;split at hk<;>try cases hk
  rename_i aGW hlen aHq;have hlen:=aK hlen;rw[He]at hlen;obtain⟨Vs,g1,g2⟩:=sR R' hrs;have hVl:Vs.length=s.nr:=by rw[g2.length];exact hlen
  have aGQ:=xW R'.H aHq g2;rw[R'.h]at aGQ;obtain⟨X'',w'',aGR,aGB⟩:=(N5 hk hs).2 ⟨by grind,hr⟩ H E' aGQ;refine⟨R'.T.defers,_,g1,X'',Vs,rfl,w'',aGR.h,aGR.H,aGB,fun us hus=>NM aGR.T hus hVl (fun t ht=>?_)⟩
  grind
 cases y with
 |exit i=>simp only[]at hk;cases hk
 |normal=>exact main hk|ret=>exact main hk
structure QK where
 lay:Lay
 own:List (Tmp×Sh×TypeId)
 outs:List (Ex×Lay)
 L:be lay outs
def vN{R:Type}(base n:Nat)(s:QK)(st:St)(k:Ex->St->Option R):Option R:=match enter base n s.lay s.own st with|some d=>aL (s.L d) fun o=>r9 n s.outs o k|none=>none
def xg(P:Program)(sh:TypeId->Option Sh)(S:Kn)(E:Env)(dep base n:Nat)(lay:Lay)(outs:List (Ex×Lay))(loops:kS (TL lay.σs⊕Out outs))(x:Code)(d:TL lay.σs):am lay outs:=match lay.put n d with
 |some st=>runK P sh (tJ P sh S E dep) loops n x st fun e st=>match e with
  |.normal=>match enter base n lay [] st with|some d=>aGt d|none=>none
  |.exit i=>match oW base n outs (.exit i) st with|some o=>aGu o|none=>none
  |.ret=>match oW base n outs .ret st with|some o=>aGu o|none=>none
 |none=>none
def bu{D O:Type}(B:D->Option (D⊕O)):Nat->D->Option O
 |0,_=>none|m+1,d=>match B d with
  |some r=>match r with|.inl d=>bu B m d|.inr o=>some o
  |none=>none
variable{x:Code}{base:Nat}
theorem Zby{R:Type}{P:Program}(hm:P.follows .mixedOrders=true){sh:TypeId->Option Sh}{S:Kn}(hS:nX P S){E:Env}(hE:kR P E){dep n:Nat}{s:QK}{loops:kS (TL s.lay.σs⊕Out s.outs)}
  (hl:∀y∈eH x,lx P Real base n y (loops (jA y))) (h:∀d o,s.L d=some o->∃m,bu (xg P sh S E dep base n s.lay s.outs loops x) m d=some o):lx P Real base n x (vN (R:=R) base n s):=by
 intro st k r e;unfold vN at e;split at e<;>try cases e
 rename_i d hd;obtain⟨o,ho,hk⟩:=AE e;obtain⟨ex,st',hs,hk⟩:=G9 hk;obtain⟨m,hmm⟩:=h d o ho;have key:∀m d,bu (xg P sh S E dep base n s.lay s.outs loops x) m d=some o->∃st,s.lay.put n d=some st/\∀X₀ X a,(X₀.h.next=base/\Real X₀)->ab X₀->aH X₀ X->RF X n st a->∀Q:Exit->Act->World->Prop,
   (∀X' a',RF X' n st' a'->aH X₀ X'->Q ex.to a' X'.w)->Code.rounds P x Q m a X.w:=by
  intro m
  induction m with
  |zero=>intro d e;cases e
  |succ m ih=>
   intro d e;simp only[bu]at e;split at e<;>try cases e
   rename_i rr hB;unfold xg at hB;split at hB<;>try cases hB
   rename_i aIt hp;refine⟨aIt,hp,?_⟩;obtain⟨aHj,aIu,aHC,Tk⟩:=ym (G:=Real) hm (ye hm hS hE dep) (base:=base) x hl _ _ _ hB;intro X₀ X a hb aGI hE RR Q hQ;rw[rounds_succ];refine Tk X₀ X a hb aGI hE RR _ ?_;intro X' a' R' E';have out:∀i o',oW base n s.outs i aIu=some o'->some (Sum.inr o')=some rr->Q i.to a' X'.w:=by
    intro i o' ho' aHC;cases aHC;simp only[bo]at e;subst e;obtain⟨q1,q2⟩:=N5 ho' hs
    grind
   cases aHj with
   |normal=>simp only[]at aHC;split at aHC<;>cases aHC;rename_i d' hd';simp only[]at e;obtain⟨aIv,aHG,rest⟩:=ih d' e;obtain⟨X'',hw,R'',E''⟩:=Ek hd' aHG hb aGI E' R';have:=rest X₀ X'' a' hb aGI E'' R'' Q hQ;rw[hw]at this;exact this
   |exit i=>
    simp only[]at aHC;split at aHC<;>try cases aHC
    rename_i o' ho';exact out (.exit i) o' ho' rfl
   |ret=>
    simp only[]at aHC;split at aHC<;>try cases aHC
    rename_i o' ho';exact out .ret o' ho' rfl
 obtain⟨aIt,hp,S'⟩:=key m d hmm;refine⟨ex,st',hk,?_⟩;intro X₀ X a hb aGI hE RR Q hQ;obtain⟨X₁,aIM,aGP,aGz⟩:=Ek hd hp hb aGI hE RR;have:=S' X₀ X₁ a hb aGI aGz aGP Q hQ;rw[aIM]at this;exact wp_loop_rounds m this
def shL(f:TypeId->Option Sh):List Field->Option (List Sh)
 |[]=>some []|x::l=>match f x.type with
  |some s=>match shL f l with|some r=>some (s::r)|none=>none
  |none=>none
def pC(P:Program):Nat->TypeId->Option Sh
 |0,_=>none|k+1,t=>match P.underlying t with
  |some d=>match d with
   |.bool=>some .bool|.int k=>some (.int k)|.string=>some .str|.slice e=>match pC P k e with|some s=>some (.sl s)|none=>none
   |.struct fs=>match shL (pC P k) fs.toList with|some l=>some (.agg l)|none=>none
   |_=>none
  |none=>none
def bL(f:Func):Code:=match f.body with|some c=>c|none=>.skip
def cw:jp->Code->Code
 |[],c=>c|i::l,c=>match Ev.nth (eH c) i with|some x=>cw l x|none=>.skip
def zU:List (Nat×Spec)->vz
 |[],_=>none|p::l,f=>match Nat.beq p.1 f with|true=>some p.2|false=>zU l f
def vV:List (Nat×kT)->Iq
 |[],_=>[]|p::l,f=>match Nat.beq p.1 f with|true=>p.2::vV l f|false=>vV l f
def oh:List (Nat×Func)->Env
 |[],_=>none|p::l,f=>match Nat.beq p.1 f with|true=>some p.2|false=>oh l f
theorem xC{P:Program}:∀{l:List (Nat×Func)},(∀p∈l,P.funcs[p.1]?=some p.2/\(p.2.name == "runtime.NumGoroutine")=false)->kR P (oh l)
 |[],_,f,e,h=>by cases h
 |p::l,hC,f,e,h=>by
  simp only[oh]at h;split at h
  .rename_i q
   simp_all
  .exact xC (fun p' hp=>hC p' (by simp[hp])) f e h
def kn(l:List (Nat×Spec))(q:List (Nat×kT)):Kn:=⟨zU l,vV q⟩
theorem Vr{P:Program}:∀{l:List (Nat×Spec)},(∀p∈l,Comes P p.1 p.2.σs p.2.τs p.2.F)->Hm P (zU l)
 |[],_,f,s,h=>by cases h
 |p::l,hC,f,s,h=>by
  simp only[zU]at h;split at h
  .rename_i q;cases h
   simp_all
  .exact Vr (fun p' hp=>hC p' (by simp[hp])) f s h
theorem NQ{P:Program}:∀{l:List (Nat×kT)},(∀p∈l,km P p.1 p.2)->V8 P (vV l)
 |[],_,f,s,h=>by cases h
 |p::l,hC,f,s,h=>by
  simp only[vV]at h;split at h
  .rename_i q;have q:=aK q;rcases AT.1 h with rfl|h
   .rw[<-q];exact hC p aGn
   .exact NQ (fun p' hp=>hC p' (by simp[hp])) f s h
  .exact NQ (fun p' hp=>hC p' (by simp[hp])) f s h
theorem aiA{P:Program}{l:List (Nat×Spec)}{q:List (Nat×kT)}(h1:∀p∈l,Comes P p.1 p.2.σs p.2.τs p.2.F)(h2:∀p∈q,km P p.1 p.2):nX P (kn l q):=⟨Vr h1,NQ h2⟩
set_option maxRecDepth 100000
abbrev iL(a b:Int):Bool:=@decide _ (Int.decLt a b)
abbrev iE(a b:Int):Bool:=@decide _ (Int.decLe a b)
abbrev iQ(a b:Int):Bool:=@decide _ (Int.instDecidableEq a b)
abbrev bQ(a b:Bool):Bool:=@decide _ (instDecidableEqBool a b)
abbrev nQ(a b:Nat):Bool:=@decide _ (instDecidableEqNat a b)
section
variable{a1 a2 a3 a4 a5 a6 a7 a8 a9 a10 a11 a12 a13 a14 a15 a16 a17 a18 a19 a20 a21 a22 a23 a24 z r:Type}
abbrev u1(f:a1->r)(d:a1×z):r:=f d.1
abbrev u2(f:a1->a2->r)(d:a1×a2×z):r:=f d.1 d.2.1
abbrev u3(f:a1->a2->a3->r)(d:a1×a2×a3×z):r:=f d.1 d.2.1 d.2.2.1
abbrev u4(f:a1->a2->a3->a4->r)(d:a1×a2×a3×a4×z):r:=f d.1 d.2.1 d.2.2.1 d.2.2.2.1
abbrev u5(f:a1->a2->a3->a4->a5->r)(d:a1×a2×a3×a4×a5×z):r:=f d.1 d.2.1 d.2.2.1 d.2.2.2.1 d.2.2.2.2.1
abbrev u6(f:a1->a2->a3->a4->a5->a6->r)(d:a1×a2×a3×a4×a5×a6×z):r:=f d.1 d.2.1 d.2.2.1 d.2.2.2.1 d.2.2.2.2.1 d.2.2.2.2.2.1
abbrev u7(f:a1->a2->a3->a4->a5->a6->a7->r)(d:a1×a2×a3×a4×a5×a6×a7×z):r:=f d.1 d.2.1 d.2.2.1 d.2.2.2.1 d.2.2.2.2.1 d.2.2.2.2.2.1 d.2.2.2.2.2.2.1
abbrev u8(f:a1->a2->a3->a4->a5->a6->a7->a8->r)(d:a1×a2×a3×a4×a5×a6×a7×a8×z):r:=f d.1 d.2.1 d.2.2.1 d.2.2.2.1 d.2.2.2.2.1 d.2.2.2.2.2.1 d.2.2.2.2.2.2.1 d.2.2.2.2.2.2.2.1
abbrev u9(f:a1->a2->a3->a4->a5->a6->a7->a8->a9->r)(d:a1×a2×a3×a4×a5×a6×a7×a8×a9×z):r:=f d.1 d.2.1 d.2.2.1 d.2.2.2.1 d.2.2.2.2.1 d.2.2.2.2.2.1 d.2.2.2.2.2.2.1 d.2.2.2.2.2.2.2.1 d.2.2.2.2.2.2.2.2.1
abbrev eC(f:a1->a2->a3->a4->a5->a6->a7->a8->a9->a10->r)(d:a1×a2×a3×a4×a5×a6×a7×a8×a9×a10×z):r:=f d.1 d.2.1 d.2.2.1 d.2.2.2.1 d.2.2.2.2.1 d.2.2.2.2.2.1 d.2.2.2.2.2.2.1 d.2.2.2.2.2.2.2.1 d.2.2.2.2.2.2.2.2.1 d.2.2.2.2.2.2.2.2.2.1
abbrev nN(f:a1->a2->a3->a4->a5->a6->a7->a8->a9->a10->a11->r)(d:a1×a2×a3×a4×a5×a6×a7×a8×a9×a10×a11×z):r:=f d.1 d.2.1 d.2.2.1 d.2.2.2.1 d.2.2.2.2.1 d.2.2.2.2.2.1 d.2.2.2.2.2.2.1 d.2.2.2.2.2.2.2.1 d.2.2.2.2.2.2.2.2.1 d.2.2.2.2.2.2.2.2.2.1 d.2.2.2.2.2.2.2.2.2.2.1
abbrev eJ(f:a1->a2->a3->a4->a5->a6->a7->a8->a9->a10->a11->a12->r)(d:a1×a2×a3×a4×a5×a6×a7×a8×a9×a10×a11×a12×z):r:=f d.1 d.2.1 d.2.2.1 d.2.2.2.1 d.2.2.2.2.1 d.2.2.2.2.2.1 d.2.2.2.2.2.2.1 d.2.2.2.2.2.2.2.1 d.2.2.2.2.2.2.2.2.1 d.2.2.2.2.2.2.2.2.2.1 d.2.2.2.2.2.2.2.2.2.2.1 d.2.2.2.2.2.2.2.2.2.2.2.1
abbrev fe(d:a1×a2×a3×a4×a5×a6×a7×a8×a9×a10×a11×a12×z):z:=d.2.2.2.2.2.2.2.2.2.2.2.2
abbrev yB(f:a1->a2->a3->a4->a5->a6->a7->a8->a9->a10->a11->a12->a13->r)(d:a1×a2×a3×a4×a5×a6×a7×a8×a9×a10×a11×a12×a13×z):r:=u1 (eJ f d) (fe d)
abbrev mK(f:a1->a2->a3->a4->a5->a6->a7->a8->a9->a10->a11->a12->a13->a14->r)(d:a1×a2×a3×a4×a5×a6×a7×a8×a9×a10×a11×a12×a13×a14×z):r:=u2 (eJ f d) (fe d)
abbrev iO(f:a1->a2->a3->a4->a5->a6->a7->a8->a9->a10->a11->a12->a13->a14->a15->r)(d:a1×a2×a3×a4×a5×a6×a7×a8×a9×a10×a11×a12×a13×a14×a15×z):r:=u3 (eJ f d) (fe d)
abbrev u16(f:a1->a2->a3->a4->a5->a6->a7->a8->a9->a10->a11->a12->a13->a14->a15->a16->r)(d:a1×a2×a3×a4×a5×a6×a7×a8×a9×a10×a11×a12×a13×a14×a15×a16×z):r:=u4 (eJ f d) (fe d)
abbrev yC(f:a1->a2->a3->a4->a5->a6->a7->a8->a9->a10->a11->a12->a13->a14->a15->a16->a17->r)(d:a1×a2×a3×a4×a5×a6×a7×a8×a9×a10×a11×a12×a13×a14×a15×a16×a17×z):r:=u5 (eJ f d) (fe d)
abbrev EF(f:a1->a2->a3->a4->a5->a6->a7->a8->a9->a10->a11->a12->a13->a14->a15->a16->a17->a18->r)(d:a1×a2×a3×a4×a5×a6×a7×a8×a9×a10×a11×a12×a13×a14×a15×a16×a17×a18×z):r:=u6 (eJ f d) (fe d)
abbrev tA(f:a1->a2->a3->a4->a5->a6->a7->a8->a9->a10->a11->a12->a13->a14->a15->a16->a17->a18->a19->a20->r)(d:a1×a2×a3×a4×a5×a6×a7×a8×a9×a10×a11×a12×a13×a14×a15×a16×a17×a18×a19×a20×z):r:=u8 (eJ f d) (fe d)
abbrev vi(f:a1->a2->a3->a4->a5->a6->a7->a8->a9->a10->a11->a12->a13->a14->a15->a16->a17->a18->a19->a20->a21->a22->r)(d:a1×a2×a3×a4×a5×a6×a7×a8×a9×a10×a11×a12×a13×a14×a15×a16×a17×a18×a19×a20×a21×a22×z):r:=eC (eJ f d) (fe d)
end
abbrev ap{α:Type}(a b:List α):List α:=a++b
def gt(σ:Sh)(L:List σ.T)(i:Int):σ.T:=List.getD L i.toNat σ.zero
def NN:Nat:=10000000000000000000000000000000000000000
theorem CE:Tryz.prog.follows .mixedOrders=true:=aGm
theorem UY{D O:Type}{B B':D->Option (D⊕O)}(h:∀d,B d=B' d):∀m d,bu B m d=bu B' m d
 |0,d=>rfl|m+1,d=>by
  simp only[bu,h d];split
  .split
   .exact UY h m _
   .rfl
  .rfl
variable{D:Type}{O:Type}{B:D->Option (D⊕O)}
theorem aiE{B':D->Option (D⊕O)}(h:∀d,B d=B' d):∀d o,bu B' NN d=some o->∃m,bu B m d=some o:=fun d o e=>⟨NN,by rw[UY h];exact e⟩
theorem QN{F G:D->Option O}(h:∀d,F d=G d):∀d o,G d=some o->F d=some o:=by grind
theorem Zi0{P:Program}(hf:P.funcs[f]?=some e)(hname:(e.name == "runtime.NumGoroutine")=false)(hb:e.body=some c)(hm:P.follows .mixedOrders=true){sh:TypeId->Option Sh}{S:Kn}(hS:nX P S){E:Env}(hE:kR P E){dep:Nat}
  {loops:kS (Out s.outs)}(base n:Nat) (h1:s.lay.nx=base) (h2:e.ntmps=n) (hl:∀x∈eH c,lx P Real base n x (loops (jA x))) (h:∀d o,s.F d=some o->xj P sh S E dep loops e c s.np s.nr s.lay d=some o):km P f s:=by
 subst h1;subst h2;exact arB hm hS hE hl hf hname hb h
theorem Zd1{P:Program}(hf:P.funcs[f]?=some e)(hname:(e.name == "runtime.NumGoroutine")=false)(hb:e.body=some c)(hm:P.follows .mixedOrders=true){sh:TypeId->Option Sh}{S:Kn}(hS:nX P S){E:Env}(hE:kR P E){dep:Nat}
  (n:Nat) (h2:e.ntmps=n) (hl:∀x∈eH c,lx P Real 0 n x (loops (jA x))) (h:∀d x,F d=some x->xh P sh S E dep loops e c σs d=some x):Comes P f σs τs F:=by
 subst h2;exact arV hm hS hE hl hf hname hb h
variable{lay:Lay}{outs:List (Ev.Ex×Lay)}{nr:Nat}{np:Nat}
theorem asc{P:Program}(hf:P.funcs[f]?=some e)(hname:(e.name == "runtime.NumGoroutine")=false)(hb:e.body=some c):km P f ⟨np,lay,nr,outs,fun _=>none⟩:=⟨⟨e,c,hf,hname,hb⟩,fun d o h=>by cases h⟩
variable{τ:Sh}
theorem avw{P:Program}{F':TL [.bool,.sl τ]->Option (Out outs)}(hC:km P f ⟨1,⟨[(0,.eg τ)],[],0⟩,nr,outs,F'⟩)
  (h0:F' (true,[],())=F' (false,[],())):km P f ⟨1,⟨[(0,.fz τ)],[],0⟩,nr,outs,fun d=>F' (false,d)⟩:=by
 refine⟨hC.1,?_⟩;rintro⟨L,u⟩ o ho st e st' hput hs X vs args hX H hr hv R;have e1:st=⟨.node (some (.fz τ L)) .nil .nil,⟨.nil,0⟩⟩:=by
  have:Lay.put 1 (⟨[(0,.fz τ)],[],0⟩:Lay) (L,u)=some ⟨.node (some (.fz τ L)) .nil .nil,⟨.nil,0⟩⟩:=rfl
  grind
 subst e1;have hv':some [AV.fz τ L]=some vs:=hv;cases hv';obtain⟨V,r,rfl,h1,h2⟩:=R;have:r=[]:=h2;subst this;have h1':=h1;obtain⟨a,len,cap,q1,q2,q3,q4⟩:=h1;simp only[aFD,aFa]at q1;have hz:a.isNone=true->L=[]:=by grind
 have hF:F' (a.isNone,L,u)=some o:=by cases hn:a.isNone with|false=>exact ho|true=>have:=hz hn;subst this;rw[<-ho];exact h0
 exact hC.2 (a.isNone,L,u) o hF ⟨.node (some (.eg τ a.isNone L)) .nil .nil,⟨.nil,0⟩⟩ e st' rfl hs X [.eg τ a.isNone L] [V] hX H hr rfl ⟨V,[],rfl,⟨h1',a,len,cap,q1,rfl⟩,rfl⟩
section
variable{R:Type}(P:Program)(sh:TypeId->Option Sh)(S:Kn)(E:Env)(dep n:Nat)
def xv(loops:kS R)(x:Code):Nat->St->(Ex->St->Option R)->Option R
 |0,_,_=>none|m+1,st,k=>runK P sh (tJ P sh S E dep) loops n x st fun e st=>match e with|.normal=>xv loops x m st k|.exit i=>k (.exit i) st|.ret=>k .ret st
end
theorem agR{R:Type}{P:Program}(hm:P.follows .mixedOrders=true){sh:TypeId->Option Sh}{S:Kn}(hS:nX P S){E:Env}(hE:kR P E){dep n:Nat}{loops:kS R}
  (hl:∀y∈eH x,lx P Real base n y (loops (jA y))) (m:Nat):lx P Real base n x (xv P sh S E dep n loops x m):=by
 have key:∀m st k r,xv P sh S E dep n loops x m st k=some r->∃e st',k e st'=some r/\∀X₀ X a,(X₀.h.next=base/\Real X₀)->ab X₀->aH X₀ X->RF X n st a->∀Q:Exit->Act->World->Prop,
   (∀X' a',RF X' n st' a'->aH X₀ X'->Q e.to a' X'.w)->Code.rounds P x Q m a X.w:=by
  intro m
  induction m with
  |zero=>intro st k r e;cases e
  |succ m ih=>
   intro st k r e;simp only[xv]at e;obtain⟨aHj,aIu,aHC,Tk⟩:=ym (G:=Real) hm (ye hm hS hE dep) (base:=base) x hl _ _ _ e;cases aHj with
   |normal=>simp only[]at aHC;obtain⟨aHk,aIv,aHD,rest⟩:=ih _ _ _ aHC;refine⟨aHk,aIv,aHD,?_⟩;intro X₀ X a hb aGI hE' RR Q hQ;rw[rounds_succ];refine Tk X₀ X a hb aGI hE' RR _ ?_;intro X' a' R' E';exact rest X₀ X' a' hb aGI E' R' Q hQ
   |exit i=>simp only[]at aHC;refine⟨_,_,aHC,?_⟩;intro X₀ X a hb aGI hE' RR Q hQ;rw[rounds_succ];refine Tk X₀ X a hb aGI hE' RR _ ?_;intro X' a' R' E';exact hQ X' a' R' E'|ret=>simp only[]at aHC;refine⟨_,_,aHC,?_⟩;intro X₀ X a hb aGI hE' RR Q hQ;rw[rounds_succ];refine Tk X₀ X a hb aGI hE' RR _ ?_;intro X' a' R' E';exact hQ X' a' R' E'
 intro st k r e;obtain⟨aHi,aIt,hk,T⟩:=key m st k r e;refine⟨aHi,aIt,hk,?_⟩;intro X₀ X a hb aGI hE' RR Q hQ;exact wp_loop_rounds m (T X₀ X a hb aGI hE' RR Q hQ)
structure Kd(f:FuncId)(σs τs:List Sh) where
 F:TL σs->Option (TL τs)
 ok:Comes Tryz.prog f σs τs F
structure Kb(f:FuncId)(np:Nat)(lay:Lay)(nr:Nat)(outs:List (Ev.Ex×Lay)) where
 F:be lay outs
 ok:km Tryz.prog f ⟨np,lay,nr,outs,F⟩
structure Ld(base n:Nat)(x:Code)(lay:Lay)(outs:List (Ev.Ex×Lay)) where
 L:be lay outs
 ok:∀{R:Type},lx Tryz.prog Real base n x (vN (R:=R) base n ⟨lay,[],outs,L⟩)
structure KN where
 l:List (Nat×Spec)
 q:List (Nat×kT)
 h1:∀p∈l,Comes Tryz.prog p.1 p.2.σs p.2.τs p.2.F
 h2:∀p∈q,km Tryz.prog p.1 p.2
def k0:KN:=⟨[],[],aFX _,aFX _⟩
def kD{f:FuncId}{σs τs:List Sh}(k:Kd f σs τs)(s:KN):KN:=⟨(f,⟨σs,τs,k.F⟩)::s.l,s.q,List.forall_mem_cons.2 ⟨k.ok,s.h1⟩,s.h2⟩
def kB{f np:Nat}{lay:Lay}{nr:Nat}{outs:List (Ev.Ex×Lay)}(k:Kb f np lay nr outs)(s:KN):KN:=⟨s.l,(f,⟨np,lay,nr,outs,k.F⟩)::s.q,s.h1,List.forall_mem_cons.2 ⟨k.ok,s.h2⟩⟩
def KN.kn(s:KN):Kn:=V.kn s.l s.q
theorem KN.ok(s:KN):nX Tryz.prog s.kn:=aiA s.h1 s.h2
structure EN where
 l:List (Nat×Func)
 h:∀p∈l,Tryz.prog.funcs[p.1]?=some p.2/\(p.2.name == "runtime.NumGoroutine")=false
def e0:EN:=⟨[],aFX _⟩
abbrev iT:=(R:Type)->kS R
def LN(base n:Nat)(cs:List Code)(EE:iT):Prop:=∀R,∀y∈cs,lx Tryz.prog Real base n y (EE R (jA y))
def aEM:iT:=fun R _ _ _=>none
theorem l0{n:Nat}:LN base n [] aEM:=fun _=>aFX _
def other(x:Code):List Code->Bool
 |[]=>true|y::l=>match Nat.beq (jA x) (jA y)with|true=>false|false=>other x l
theorem Ze{x:Code}:∀{l:List Code},other x l=true->∀y∈l,Nat.beq (jA x) (jA y)=false
 |[],_,y,h=>by cases h
 |z::l,h,y,hy=>by
  simp only[other]at h;split at h
  .cases h
  rename_i q;rcases AT.1 hy with rfl|hy
  .exact q
  .exact Ze h y hy
def Cr(x:Code)(g:(R:Type)->St->(Ev.Ex->St->Option R)->Option R)(t:iT):iT:=fun R i st k=>match Nat.beq (jA x) i with|true=>g R st k|false=>t R i st k
variable{cs:List Code}{t:iT}
theorem lX{n:Nat}{g:(R:Type)->St->(Ev.Ex->St->Option R)->Option R}(hg:∀R,lx Tryz.prog Real base n x (g R))(s:LN base n cs t)(h:other x cs=true):LN base n (x::cs) (Cr x g t):=by
 intro R y hy;unfold Cr;rcases AT.1 hy with rfl|hy
 .simp only[Nat.beq_refl];exact hg R
 .simp only[Ze h y hy];exact s R y hy
def adq{base n:Nat}{x:Code}{lay:Lay}{outs:List (Ev.Ex×Lay)}(k:Ld base n x lay outs)(t:iT):iT:=Cr x (fun R=>vN base n ⟨lay,[],outs,k.L⟩) t
theorem lC{n:Nat}(k:Ld base n x lay outs)(s:LN base n cs t)(h:other x cs=true):LN base n (x::cs) (adq k t):=lX (fun R=>k.ok) s h
theorem lU{n:Nat}(x:Code)(m:Nat)(K:KN)(E:EN)(dep:Nat){cs':List Code}{u:iT}(T:LN base n cs' u)(hl:eH x=cs')(s:LN base n cs t)(h:other x cs=true):LN base n (x::cs) (Cr x (fun R st k=>xv Tryz.prog (pC Tryz.prog 20) K.kn (oh E.l) dep n (u R) x m st k) t):=lX (fun R=>agR CE K.ok (xC E.h) (by rw[hl];exact T R) m) s h
def LB(base n:Nat)(x:Code)(lay:Lay)(outs:List (Ev.Ex×Lay))(B:TL lay.σs->am lay outs):Prop:=∀{R:Type},lx Tryz.prog Real base n x (vN (R:=R) base n ⟨lay,[],outs,bu B NN⟩)
theorem prL{n:Nat}(K:KN)(E:EN)(dep:Nat)(T:LN base n cs t)(hl:eH x=cs){B:TL lay.σs->am lay outs}
  (h:∀d,xg Tryz.prog (pC Tryz.prog 20) K.kn (oh E.l) dep base n lay outs (t _) x d=B d):LB base n x lay outs B:=
 fun{R}=>Zby (s:=⟨lay,[],outs,bu B NN⟩) CE K.ok (xC E.h) (by rw[hl];exact T _) (aiE h)
def cH{base n:Nat}{x:Code}{lay:Lay}{outs:List (Ev.Ex×Lay)}(B:TL lay.σs->am lay outs)(h:LB base n x lay outs B):Ld base n x lay outs:=⟨bu B NN,h⟩
theorem prD(hf:Tryz.prog.funcs[f]?=some e)(n:Nat)(K:KN)(E:EN)(dep:Nat)(T:LN 0 n (eH (bL e)) t)(hn:(e.name == "runtime.NumGoroutine")=false)(hb:e.body=some (bL e))(hm:e.ntmps=n)
  (h:∀d,xh Tryz.prog (pC Tryz.prog 20) K.kn (oh E.l) dep (t _) e (bL e) σs d=F d):Comes Tryz.prog f σs τs F:=
 Zd1 hf hn hb CE K.ok (xC E.h) n hm (T _) (QN h)
theorem prB(hf:Tryz.prog.funcs[f]?=some e)(n:Nat)(K:KN)(E:EN)(dep:Nat)(T:LN lay.nx n (eH (bL e)) t)(hn:(e.name == "runtime.NumGoroutine")=false)(hb:e.body=some (bL e))(hm:e.ntmps=n){F:be lay outs}
  (h:∀d,xj Tryz.prog (pC Tryz.prog 20) K.kn (oh E.l) dep (t _) e (bL e) np nr lay d=F d):km Tryz.prog f ⟨np,lay,nr,outs,F⟩:=
 Zi0 (s:=⟨np,lay,nr,outs,F⟩) hf hn hb CE K.ok (xC E.h) lay.nx n rfl hm (T _) (QN h)
theorem lS{n:Nat}(T:LN base n cs t)(hl:eH c=cs):LN base n (eH c) t:=by grind
theorem pL{n:Nat}(K:KN)(E:EN)(dep:Nat)(T:LN base n cs t){B:TL lay.σs->am lay outs}
  (h:∀d,xg Tryz.prog (pC Tryz.prog 20) K.kn (oh E.l) dep base n lay outs (t _) x d=B d) (hl:eH x=cs:=by kernel_rfl):LB base n x lay outs B:=prL K E dep T hl h
theorem pD(hf:Tryz.prog.funcs[f]?=some e)(n:Nat)(K:KN)(E:EN)(dep:Nat)(T:LN 0 n (eH (bL e)) t)
  (h:∀d,xh Tryz.prog (pC Tryz.prog 20) K.kn (oh E.l) dep (t _) e (bL e) σs d=F d) (hn:(e.name == "runtime.NumGoroutine")=false:=by kernel_rfl) (hb:e.body=some (bL e):=by kernel_rfl) (hm:e.ntmps=n:=by kernel_rfl):Comes Tryz.prog f σs τs F:=prD hf n K E dep T hn hb hm h
theorem pB(hf:Tryz.prog.funcs[f]?=some e)(n:Nat)(K:KN)(E:EN)(dep:Nat)(T:LN lay.nx n (eH (bL e)) t){F:be lay outs}
  (h:∀d,xj Tryz.prog (pC Tryz.prog 20) K.kn (oh E.l) dep (t _) e (bL e) np nr lay d=F d) (hn:(e.name == "runtime.NumGoroutine")=false:=by kernel_rfl) (hb:e.body=some (bL e):=by kernel_rfl) (hm:e.ntmps=n:=by kernel_rfl):km Tryz.prog f ⟨np,lay,nr,outs,F⟩:=prB hf n K E dep T hn hb hm h
theorem sS{n:Nat}(T:LN base n cs t)(hl:eH c=cs:=by kernel_rfl):LN base n (eH c) t:=lS T hl
theorem sC{n:Nat}(k:Ld base n x lay outs)(s:LN base n cs t)(h:other x cs=true:=by kernel_rfl):LN base n (x::cs) (adq k t):=lC k s h
def mk0{f:FuncId}{e:Func}{np:Nat}{lay:Lay}{nr:Nat}{outs:List (Ev.Ex×Lay)}(hf:Tryz.prog.funcs[f]?=some e)(hn:(e.name == "runtime.NumGoroutine")=false)(hb:e.body=some (bL e)):Kb f np lay nr outs:=⟨fun _=>none,asc hf hn hb⟩
def OA{f:FuncId}{τ:Sh}{nr:Nat}{outs:List (Ev.Ex×Lay)}(k:Kb f 1 ⟨[(0,.eg τ)],[],0⟩ nr outs)(h0:k.F (true,[],())=k.F (false,[],())):Kb f 1 ⟨[(0,.fz τ)],[],0⟩ nr outs:=⟨fun d=>k.F (false,d),avw k.ok h0⟩
variable{a:Nat}
theorem J8{P:Program}{F':TL [.bool,.sl τ]->Option (Out [(Ev.Ex.ret,⟨[(0,.hd 0 τ)],[(0,.arr τ ty)],1⟩)])}(hC:km P f ⟨1,⟨[(0,.eg τ)],[],0⟩,1,[(Ev.Ex.ret,⟨[(0,.hd 0 τ)],[(0,.arr τ ty)],1⟩)],F'⟩)
  (h0:F' (true,[],())=some ([],())) (h1:∀L:List τ.T,F' (false,L,())=aq (room a L.length) (some (L,())))
  (hz:∀L:List τ.T,∃st h',lT 1 [(Ev.Ex.ret,(⟨[(0,.hd 0 τ)],[(0,.arr τ ty)],1⟩:Lay))] (L,())=some (.ret,st)/\mS st.T 1 0=some [.hd 0 τ]/\mc true st.h [.sl τ] [.hd 0 τ]=some ((L,()),h')):Comes P f [.sl τ] [.sl τ] (fun d=>aq (room a (List.length d.1)) (some (d.1,()))):=by
 refine⟨hC.1,?_⟩;rintro⟨L,u⟩ x hx w A args hA ha;obtain⟨hroom,hx⟩:=pW hx;have hx:(L,())=x:=afE hx;subst hx
 let X:Cx:=⟨fun _=>none,⟨.nil,0⟩,w,A⟩
 have out:∀b,X.out b->A b:=by
  rintro b (q|⟨i,o,c,h1,h2⟩)
  .exact q
  .simp[X,Ev.Tr.get]at h1
 have H:ab X:=⟨fun i o l h=>by simp[X,Ev.Tr.get]at h,fun i j o o' b c c' h=>by grind,fun i o h=>by simp[X,Ev.Tr.get]at h,fun i l h=>by simp[X]at h,hA,fun i o b c h=>by grind⟩;have ha':kE X.w X.out [.sl τ] (L,u) args:=ha.keep (fun b o q r=>⟨r,fun s=>q (out b s)⟩);obtain⟨V,r,rfl,h1',h2'⟩:=xX ha';have:r=[]:=h2';subst this;have h1s:=h1';obtain⟨ad,len,cap,q1,q2,q3,q4⟩:=h1';simp only[aFD,aFa]at q1;have hF:F' (ad.isNone,L,())=some (L,()):=by
  cases hn:ad.isNone with
  |false=>exact(h1 L).trans (by have hr:room a L.length=true:=hroom;rw[hr];rfl)|true=>
   have hL:L=[]:=by grind
   subst hL;exact h0
 obtain⟨st,aHy,z1,z2,z3⟩:=hz L;refine(hC.2 (ad.isNone,L,()) (L,()) hF ⟨.node (some (.eg τ ad.isNone L)) .nil .nil,⟨.nil,0⟩⟩ .ret st rfl z1 X [.eg τ ad.isNone L] [V] rfl H (fun i hi=>absurd hi (Nat.not_lt_zero i)) rfl ⟨V,[],rfl,⟨h1s,ad,len,cap,q1,rfl⟩,rfl⟩).mono ?_;rintro e w' ⟨X',Vs,rfl,rfl,hh,H',E',R'⟩;obtain⟨Fz,hA'⟩:=vS (kl:=true) (l:=[.sl τ]) (d:=(L,())) H' (vs:=[.hd 0 τ]) (by rw[hh];exact z3) (R' [.hd 0 τ] z2);refine⟨Vs,rfl,⟨E'.os,E'.tape,E'.output,E'.size,fun b hb=>E'.frame b hb ?_⟩,?_⟩
 .rintro⟨i,o,c,h1,h2⟩;simp[X,Ev.Tr.get]at h1
 .refine hA'.keep (fun b o q r=>⟨r,fun s=>q (.inl ?_)⟩);show X'.A b;rw[E'.A];exact s
variable{α:Type}{i:Nat}
theorem avz{l:List α}{x:α}(h:l[i]?=some x):i<l.length:=by grind
variable{b:Bool}
theorem fi{R:Type}{x y:Option R}(h:b=true):br b x y=x:=by rw[h];rfl
theorem dF{R:Type}{x y:Option R}(h:b=false):br b x y=y:=by rw[h];rfl
theorem dT{R:Type}{x:Option R}(h:b=true):aq b x=x:=by rw[h];rfl
theorem cM{R:Type}{x:Option α}{a:α}{k:α->Option R}(h:x=some a):aL x k=k a:=by rw[h];rfl
theorem aD{R:Type}{x y z:Option R}(h:b=true)(e:x=z):br b x y=z:=(fi h).trans e
theorem aw{R:Type}{x y z:Option R}(h:b=false)(e:y=z):br b x y=z:=(dF h).trans e
theorem au{R:Type}{x z:Option R}(h:b=true)(e:x=z):aq b x=z:=(dT h).trans e
theorem aT{R:Type}{x:Option α}{a:α}{k:α->Option R}{z:Option R}(h:x=some a)(e:k a=z):aL x k=z:=(cM h).trans e
theorem bC{i:Int}{n:Nat}(h:0<=i/\i<(n:Int)):ar i n=true:=by simp[ar,h.1,h.2]
theorem aGq{i:Int}{n:Nat}(h:0<=i/\i<(n:Int):=by omega):ar i n=true:=bC h
theorem tW{n:Nat}(h:(2*n+192)*a<=281474976710656)(h2:n<=1099511627776):room a n=true:=by simp[room,both,h,h2]
theorem K8:bH false true b=b:=rfl
theorem vH(h:b=false):Bool.not b=true:=by rw[h];rfl
theorem Ga(h:b=true):Bool.not b=false:=by rw[h];rfl
variable{p:Prop}
theorem aA{i:Decidable p}(h:p):@decide p i=true:=iU h
theorem aGs{i:Decidable p}(h:p:=by omega):@decide p i=true:=aA h
theorem ax{i:Decidable p}(h:¬p):@decide p i=false:=jG h
theorem aGr{i:Decidable p}(h:¬p:=by omega):@decide p i=false:=ax h
theorem cT{x:Int}(h:-9223372036854775808<=x/\x<=9223372036854775807):ol x=x:=IntWalk.i64_in _ aGl
theorem bP{σ:Sh}{L:List σ.T}{x:σ.T}(h:L[i]?=some x):gt σ L (i:Int)=x:=by
 unfold gt
 grind
theorem uW(f:Nat->D)(n:Nat){o:O}(hs:∀i,i<n->B (f i)=aGt (f (i+1)))(he:B (f n)=aGu o):∀N,n<N->bu B N (f 0)=some o:=by
 have main:∀k i,i+k=n->∀N,k<N->bu B N (f i)=some o:=by
  intro k
  induction k with
  |zero=>
   intro i hi N hN;obtain⟨M,rfl⟩:∃M,N=M+1:=⟨N-1,aGl⟩;have:i=n:=aGl
   subst this;simp only[bu,he]
  |succ k ih=>
   intro i hi N hN;obtain⟨M,rfl⟩:∃M,N=M+1:=⟨N-1,aGl⟩;simp only[bu,hs i aGl]
   grind
 grind
theorem fE(f:Nat->D)(n:Nat){d:D}{o:O}(hd:d=f 0)(hs:∀i,i<n->B (f i)=aGt (f (i+1)))(he:B (f n)=aGu o){N:Nat}(hN:n<N):bu B N d=some o:=by subst hd;exact uW f n hs he N hN
theorem uP{L:List α}{x:α}(h:L.length<=100000000)(ha:a<=1000):room a (List.length (L++(x::[])))=true:=by
 have h3:List.length (L++(x::[]))=L.length+1:=by grind
 have h2:(2*(L.length+1)+192)*a<=(2*(L.length+1)+192)*1000:=Nat.mul_le_mul_left _ ha;rw[h3];exact tW aGl aGl
theorem nY(I:D->Prop)(Q:O->Prop)(μ:D->Nat)(h:∀d,I d->(∃o,B d=aGu o/\Q o)\/∃d',B d=aGt d'/\I d'/\μ d'<μ d):∀N d,I d->μ d<N->∃o,bu B N d=some o/\Q o:=by
 intro N
 induction N with
 |zero=>intro d _ h;omega|succ N ih=>
  intro d hI hN;rcases h d hI with⟨o,h1,h2⟩|⟨d',h1,h2,h3⟩
  .exact⟨o,by simp only[bu,h1],h2⟩
  .obtain⟨o,g1,g2⟩:=ih d' h2 aGl;exact⟨o,by simp only[bu,h1];exact g1,g2⟩
theorem cB{n:Nat}(h:n<=1000000000000000000):n<NN:=by unfold NN;omega
theorem aGp{n:Nat}(h:n<=1000000000000000000:=by omega):n<NN:=cB h
abbrev bW:Sh:=(.agg [.I,(.sl .I)])
abbrev eq:=List (Sh.T bW)
abbrev ae:Sh:=(.agg [.bool,.I,.I])
abbrev ce:=List (Sh.T ae)
abbrev ag:Sh:=(.agg [.I,.I,.I])
abbrev bi:=List (Sh.T ag)
abbrev bA:Sh:=(.agg [.I,(.sl .I),(.sl .I)])
abbrev ge:=List (Sh.T bA)
abbrev du:Sh:=(.agg [.bool,.I,.I,(.sl .I),(.sl .I)])
abbrev ii:=List (Sh.T du)
abbrev aj:Sh:=(.agg [.I,.I,.bool,(.sl bW),(.sl bA)])
abbrev bv:=List (Sh.T aj)
abbrev bD:Sh:=(.agg [.I,(.sl .I),(.sl ag),(.sl .I),(.sl .I),(.sl .I),(.sl aj),(.sl ag)])
abbrev jI:List LA:=[.I,.fz .I,.fz ag,.fz .I,.fz .I,.fz .I,.fz aj,.fz ag]
open Go.ChangeShapes Go.WideShapes Go.ChangeAt Go.Deep
def Hv:Sh->TypeDesc->Bool
 |.bool,d=>match d with|.bool=>true|_=>false
 |.str,d=>match d with|.string=>true|_=>false
 |.int k,d=>match d with|.int k'=>Nat.beq (Ev.IntKind.num k) (Ev.IntKind.num k')|_=>false
 |_,_=>false
def BW(P:Program)(f:TypeId->Sh->Bool):List Field->List Sh->Nat->Bool
 |[],l,_=>match l with|[]=>true|_=>false
 |x::fs,l,o=>match l with|[]=>false|s::l=>match Nat.beq x.offset o,Nat.beq (P.cellsOf x.type) s.size,f x.type s with|true,true,true=>BW P f fs l (o+s.size)|_,_,_=>false
def uj(P:Program):Nat->TypeId->Sh->Bool
 |0,_,_=>false|k+1,t,σ=>match P.underlying t with
  |none=>false|some d=>match d with
   |.slice e=>match σ with
    |.sl s=>match Nat.blt 0 s.size,Nat.beq (P.cellsOf e) s.size with|true,true=>uj P k e s|_,_=>false
    |_=>false
   |.struct fs=>match σ with
    |.agg l=>match Nat.beq (P.cellsOf t) (rR l)with|true=>BW P (uj P k) fs.toList l 0|false=>false
    |_=>false
   |d=>Hv σ d
def kX{α:Type}(Q:α->Prop)(L:List α):Prop:=∀x∈L,Q x
mutual
def jO:(σ:Sh)->σ.T->Prop
 |.int k,n=>(Lit.int k n).wf=true|.bool,_=>True|.str,s=>ByteArray.size s<=maxLen|.agg l,d=>KX l d|.sl s,L=>List.length L<=maxLen/\kX (jO s) L
termination_by structural x=>x
def KX:(l:List Sh)->TL l->Prop
 |[],_=>True|s::l,d=>jO s d.1/\KX l d.2
termination_by structural x=>x
end
section
variable{H:Type}{enc:TypeId×Value->H}{P:Program}{W:World}
theorem Zyr{α:Type}{R:α->kw->Prop}:∀(l:List (α×kw)),(∀p∈l,R p.1 p.2)->aY R (l.map (·.1)) (l.flatMap (·.2))
 |[],_=>rfl|p::l,h=>⟨p.2,l.flatMap (·.2),by grind,h p aGn,Zyr l fun q hq=>h q (by simp[hq])⟩
theorem VO{α:Type}{C:Nat}(hC:0<C):∀(l:List (α×kw)),(∀p∈l,p.2.length=C)->∀k,(l.flatMap (·.2))[k]?=l[k / C]?.bind fun x=>x.2[k % C]?
 |[],_,k=>by simp|p::l,h,k=>by
  have hp:=h p aGn;rw[Fn];rcases ww k C with q|q
  .rw[Fr aGl,Nat.div_eq_of_lt q,aFJ q];rfl
  .rw[IO aGl,VO hC l (fun q hq=>h q (by simp[hq])),hp];have e1:k / C=(k-C) / C+1:=by rw[Nat.div_eq_sub_div hC q]
   have e2:(k-C) % C=k % C:=by rw[<-aFY q]
   rw[e1,e2];simp
theorem atd{a:Addr}{u:Value}(h:W.cell? (a.add 0)=some u):a.spot=none:=by
 have e:a.add 0=a:=by unfold Addr.add;simp
 rw[e]at h;unfold World.cell? at h;split at h
 .split at h
  .cases h
  simp_all
 .cases h
theorem Ve{b o j:Nat}{u:Value}(h:W.cell? ((⟨b,o,none⟩:Addr).add j)=some u):∃c ty fr,W.heap[b]?=some (.cells c ty fr)/\c[o+j]?=some u:=by
 rw[Ev.dR]at h;unfold World.cell? at h
 grind
theorem Zz1{f:TypeId->Sh->Bool}{n:Nat}{cs:kw}(hf:∀t s,f t s=true->∀n cs y,DataW.trod enc P W 0 (fun _=>true) true n t cs=some y->∃d,Cs W (fun _=>False) s d cs/\jO s d) :
  ∀(fs:List Field) (l:List Sh) (o:Nat),BW P f fs l o=true->o+rR l=cs.length->(∀(i:Nat) (g:Field),fs[i]?=some g->∃y,DataW.trod enc P W 0 (fun _=>true) true n g.type ((cs.drop g.offset).take (P.cellsOf g.type))=some y) ->
   ∃d,gj W (fun _=>False) l d (cs.drop o)/\KX l d
 |[],l,o,h,hl,_=>by cases l with|nil=>exact⟨(),by show cs.drop o=[];rw[ask];simp only[rR]at hl;omega,trivial⟩|cons s l=>cases h
 |x::fs,l,o,h,hl,hx=>by
  cases l with
  |nil=>cases h
  |cons s l=>
   simp only[BW]at h;split at h<;>try cases h
   rename_i q1 q2 q3;have q1:=aK q1;have q2:=aK q2;obtain⟨y,hy⟩:=hx 0 x rfl;obtain⟨d,h1,h2⟩:=hf _ _ q3 _ _ _ hy;rw[rR]at hl;obtain⟨e,h3,h4⟩:=Zz1 hf fs l (o+s.size) h aGl (fun i g hg=>hx (i+1) g (by grind));refine⟨(d,e),⟨(cs.drop o).take s.size,cs.drop (o+s.size),?_,?_,h3⟩,h2,h4⟩
   .rw[<-aGh,FS]
   .rw[q1,q2]at h1;exact h1
theorem N0:∀(k:Nat) (t:TypeId) (σ:Sh),uj P k t σ=true->∀n cs y,DataW.trod enc P W 0 (fun _=>true) true n t cs=some y->∃d,Cs W (fun _=>False) σ d cs/\jO σ d
 |0,_,_,h=>by cases h
 |k+1,t,σ,h=>by
  intro n cs y hy;simp only[uj]at h;split at h
  .cases h
  rename_i d hu;split at h
  .rename_i e;split at h<;>try cases h
   rename_i s;split at h<;>try cases h
   rename_i q1 q2;rw[acl]at q1;have q2:=aK q2;rcases open_slice hu hy with⟨rfl,_⟩|⟨a,len,cap,m,n',D,Pl,rfl,_,hl,hm,hmm,_,hi⟩
   .exact⟨[],⟨none,0,0,rfl,rfl,pi _,fun q=>absurd rfl q⟩,AI _,fun x hx=>by cases hx⟩
   have hmm':m=cap:=by simpa using hmm
   subst hmm';obtain⟨l,hll,hp⟩:=Vk (α:=s.T×kw) (p:=fun i x=>Cs W (fun _=>False) s x.1 x.2/\jO s x.1/\∀j,j<s.size->W.cell? (a.add (i*s.size+j))=x.2[j]?) len (fun i hi0=>by obtain⟨cs',h1,h2⟩:=hi i aGl;obtain⟨x,hx1,hx2⟩:=N0 k e s h _ _ _ h2;refine⟨(x,cs'),hx1,hx2,fun j hj=>?_⟩;rw[q2]at h1;obtain⟨_,_,hat⟩:=World.cells?_some h1;rw[<-Zuk,hat j hj]);have hlen:∀p∈l,p.2.length=s.size:=by intro p hpm;obtain⟨i,hi⟩:=aFd hpm;exact Cs.length (hp i p hi).1
   have hcell:∀j u,(l.flatMap (·.2))[j]?=some u->W.cell? (a.add j)=some u:=by
    intro j u hu;rw[VO q1 l hlen]at hu;rcases hx:l[j / s.size]? with _|x
    .rw[hx]at hu;cases hu
    .rw[hx]at hu;have hu:x.2[j % s.size]?=some u:=hu;have:=(hp _ x hx).2.2 (j % s.size) (Nat.mod_lt _ q1);rw[Nat.div_add_mod' j s.size]at this;rw[this,hu]
   refine⟨l.map (·.1),⟨some a,len,m,rfl,by simp[hll],hl,fun hne=>?_⟩,by simpa[hll]using rt hl hm,?_⟩
   .have hflat:aY (Cs W (fun _=>False) s) (l.map (·.1)) (l.flatMap (·.2)):=Zyr l (fun p hpm=>by obtain⟨i,hi⟩:=aFd hpm;exact(hp i p hi).1);have hfl:(l.flatMap (·.2)).length=l.length*s.size:=by have:=aY.length (fun x c=>Cs.length) hflat;simpa using this
    have hl0:0<l.length:=by cases l with|nil=>exact absurd rfl hne|cons _ _=>simp
    have h0:0<(l.flatMap (·.2)).length:=by rw[hfl];exact Nat.mul_pos hl0 q1
    have hsp:=atd (hcell 0 _ (bF h0));obtain⟨b,o,sp⟩:=a;have hsp:sp=none:=hsp;subst hsp;obtain⟨c,ty,fr,hc,_⟩:=Ve (hcell 0 _ (bF h0));refine⟨b,o,l.flatMap (·.2),rfl,fun h=>h,hflat,c,ty,fr,hc,?_⟩;intro j u hu;obtain⟨c',ty',fr',hc',hj⟩:=Ve (hcell j u hu);rw[hc]at hc';cases hc';exact hj
   .intro x hx;obtain⟨p,hpm,rfl⟩:=IN.1 hx;obtain⟨i,hi⟩:=aFd hpm;exact(hp i p hi).2.1
  .rename_i fs;split at h<;>try cases h
   rename_i l;split at h<;>try cases h
   rename_i q1;have q1:=aK q1;obtain⟨xs,n',rfl,_,hlen,hxl,hx⟩:=DataW.trod_struct hu hy;obtain⟨d,h1,h2⟩:=Zz1 (n:=n') (cs:=cs) (N0 k) fs.toList l 0 h (by rw[hlen,q1];omega) (fun i g hg=>by grind);rw[List.drop_zero]at h1;exact⟨d,h1,h2⟩
  .unfold Hv at h;split at h
   .split at h<;>try cases h
    obtain⟨b,rfl,_⟩:=DataW.trod_bool hu hy;exact⟨b,rfl,trivial⟩
   .split at h<;>try cases h
    obtain⟨s,rfl,_,hs⟩:=DataW.trod_string hu hy;exact⟨s,rfl,hs⟩
   .split at h<;>try cases h
    rename_i aHY aHZ;have:=Ev.IntKind.uR (aK h);subst this;obtain⟨m,rfl,_,hw⟩:=DataW.trod_int hu hy;exact⟨m,rfl,hw⟩
   .cases h
theorem FC{k:Nat}{t:TypeId}{σ:Sh}{v:Value}{d:DataW H}{ps:List MemPlace}{r:Reach}{b0:Nat}(h:uj P k t σ=true)(hv:Value.okWide P W r b0 t v)(hd:DataW.Trod enc P W 0 (fun _=>true) true t v d ps) :
  ∃x,bR W (fun _=>False) σ x v/\jO σ x:=by
 obtain⟨fuel,hf⟩:=hd;obtain⟨x,h1,h2⟩:=N0 k t σ h _ _ _ hf;refine⟨x,⟨h1,?_⟩,h2⟩;cases k with
 |zero=>cases h
 |succ k=>
  simp only[uj]at h;split at h
  .cases h
  rename_i d' hu;split at h
  .split at h<;>try cases h
   obtain⟨a,l,c,rfl⟩:=okWide_slice hu hv;rfl
  .split at h<;>try cases h
   obtain⟨cs,rfl,_⟩:=okWide_struct hu hv;rfl
  .unfold Hv at h;split at h
   .split at h<;>try cases h
    obtain⟨b,rfl⟩:=okWide_bool hu hv;rfl
   .split at h<;>try cases h
    obtain⟨b,rfl⟩:=okWide_string hu hv;rfl
   .split at h<;>try cases h
    obtain⟨b,rfl⟩:=okWide_int hu hv;rfl
   .cases h
