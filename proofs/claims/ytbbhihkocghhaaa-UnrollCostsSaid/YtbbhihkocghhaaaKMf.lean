import Derived.Test.YtbbhihkocghhaaaKMe
import Derived.Test.YtbbhihkocghhaaaKBs
set_option linter.all false
section
namespace Go.Proofs.Ytbbhihkocghhaaa.V
open Go Go.RowKit
open Go.Proofs.Ytbbhihkocghhaaa.Ev (Tr Tr.bE nth bW Ex)
variable{o:aI}{j:Nat}{X:Cx}{tr:Tr aI}{ty:TypeId}
theorem Vm(H:ab X){f b c:Nat}{vs':List AV}{cs:kw}(hj:X.h.tr.get j=some o)(ho:∀τ L ty,o≠.arr τ L ty)(hs:X.s j=some (.at b c))(hw:X.w.heap[b]?=some (.cells (List.toArray cs) ty (0,0)))
  (hv:bc X vs' cs) (ht:Tr.set f X.h.tr j (some (.cells vs' ty))=some tr):ab ⟨X.s,⟨tr,X.h.next⟩,X.w,X.A⟩/\aB X ⟨X.s,⟨tr,X.h.next⟩,X.w,X.A⟩:=by
 have hg:=Tr.bE _ _ _ _ _ ht;have back:∀i o,tr.get i=some o->∃o',X.h.tr.get i=some o'/\(∀n,o.row=some n->o'.row=some n):=by
  intro i o h;rw[hg i]at h;by_cases q:i=j
  .rw[ut q]at h;cases h;subst q;exact⟨_,hj,fun n r=>by cases r⟩
  grind
 have bz:∀b,Cx.bz ⟨X.s,⟨tr,X.h.next⟩,X.w,X.A⟩ b->X.bz b:=by rintro b ⟨i,o,c,h1,h2⟩;obtain⟨o',h3,_⟩:=back i o h1;exact⟨i,o',c,h3,h2⟩
 have E:aB X ⟨X.s,⟨tr,X.h.next⟩,X.w,X.A⟩:=by
  refine⟨rfl,rfl,rfl,ol _,fun _ _ h=>h,fun _ _ _ h=>h,ol _,fun _ _ _=>rfl,fun b h=>.inl (bz b h),?_,?_,rfl⟩
  .intro i n _ h;obtain⟨o,h,hr⟩:=jd h;obtain⟨o',h1,h2⟩:=back i _ h;show rowOf X.h.tr i=some n;rw[ie h1];exact h2 n hr
  grind
 have RE:=E.dw H;refine⟨⟨?_,?_,?_,H.cr,H.alt,?_⟩,E⟩
 .intro i o l h1 h2
  replace h1:tr.get i=some o:=h1
  rw[hg i]at h1;by_cases q:i=j
  .rw[ut q]at h1;cases h1;subst q
   replace h2:X.s i=some l:=h2
   rw[hs]at h2;cases h2;exact⟨b,c,cs,rfl,hw,hv.ext RE⟩
  .rw[qr q]at h1;exact(H.obj i o l h1 h2).ext RE (fun _ _=>rfl)
 .intro i k o o' c c' b h1 h2 h3 h4 h5 h6;obtain⟨p,g1,_⟩:=back i o h1;obtain⟨q,g2,_⟩:=back k o' h2;exact H.inj i k p q c c' b g1 g2 h3 h4 h5 h6
 .intro i o h1;obtain⟨p,g1,_⟩:=back i o h1;exact H.lt i p g1
 .intro i o c b h1 h2;obtain⟨p,g1,_⟩:=back i o h1;exact H.loc i p c b g1 h2
variable{l:Loc}
theorem VZ(H:ab X){f:Nat}{o':aI}(hj:X.h.tr.get j=some o)(hrow:∀n,o'.row=some n->o.row=some n)(hs:X.s j=some l)(ho:bS X l o')(ht:Tr.set f X.h.tr j (some o')=some tr) :
  ab ⟨X.s,⟨tr,X.h.next⟩,X.w,X.A⟩/\aB X ⟨X.s,⟨tr,X.h.next⟩,X.w,X.A⟩:=by
 have hg:=Tr.bE _ _ _ _ _ ht;have back:∀i aex,tr.get i=some aex->∃aey,X.h.tr.get i=some aey/\(∀n,aex.row=some n->aey.row=some n):=by grind
 have E:aB X ⟨X.s,⟨tr,X.h.next⟩,X.w,X.A⟩:=by
  refine⟨rfl,rfl,rfl,ol _,fun _ _ h=>h,fun _ _ _ h=>h,ol _,fun _ _ _=>rfl,?_,?_,?_,rfl⟩
  .rintro b ⟨i,aex,c,h1,h2⟩;obtain⟨aey,h3,_⟩:=back i aex h1;exact .inl ⟨i,aey,c,h3,h2⟩
  .intro i n _ h;obtain⟨aex,h,hr⟩:=jd h;obtain⟨aey,h1,h2⟩:=back i _ h;show rowOf X.h.tr i=some n;rw[ie h1];exact h2 n hr
  grind
 have RE:=E.dw H;refine⟨⟨?_,?_,?_,H.cr,H.alt,?_⟩,E⟩
 .intro i aex l₁ h1 h2
  replace h1:tr.get i=some aex:=h1
  rw[hg i]at h1;by_cases q:i=j
  .rw[ut q]at h1;cases h1;subst q
   replace h2:X.s i=some l₁:=h2
   rw[hs]at h2;cases h2;exact ho.ext RE (fun _ _=>rfl)
  .rw[qr q]at h1;exact(H.obj i aex l₁ h1 h2).ext RE (fun _ _=>rfl)
 .intro i k aex aey c c' b h1 h2 h3 h4 h5 h6;obtain⟨p,g1,_⟩:=back i aex h1;obtain⟨q,g2,_⟩:=back k aey h2;exact H.inj i k p q c c' b g1 g2 h3 h4 h5 h6
 .intro i aex h1;obtain⟨p,g1,_⟩:=back i aex h1;exact H.lt i p g1
 .intro i aex c b h1 h2;obtain⟨p,g1,_⟩:=back i aex h1;exact H.loc i p c b g1 h2
def EO(h:Hp)(b:Nat):Option Hp:=match h.tr.get b with
 |some (.cT τ i L vs ty)=>match dz true h τ vs with
  |some (x,l,h₁)=>match l,h₁.tr.get b with
   |[],some _=>match Tr.set FT h₁.tr b (some (.arr τ (L.set i x) ty))with|some tr=>some ⟨tr,h₁.next⟩|none=>none
   |_,_=>none
  |none=>none
 |_=>some h
theorem aaF(H:ab X){b:Nat}{h':Hp}(e:EO X.h b=some h')(hs:X.s b=some l):ab ⟨X.s,h',X.w,X.A⟩/\aB X ⟨X.s,h',X.w,X.A⟩:=by
 unfold EO at e;split at e
 .rename_i τ i L vs ty hb;split at e<;>try cases e
  rename_i x r h₁ hf;split at e<;>try cases e
  rename_i ob hob;split at e<;>cases e;rename_i tr ht;obtain⟨adp,c,pre,mid,post,tail,rfl,q1,q2,q3,q4,q5,q6,q7,q8⟩:=H.obj b _ _ hb hs;obtain⟨F,adq,aeC,k1,k2,k3⟩:=nS H hf q3;have:aeC=[]:=k3;subst this;rw[dE]at k1;subst k1;have hob':h₁.tr.get b=some (.cT τ i L vs ty):=by
   have:=F.sub b _ hob
   grind
  have K:=F.E.keeps;have ho:bS ⟨X.s,h₁,X.w,X.A⟩ (.at adp c) (.arr τ (L.set i x) ty):=by refine⟨pre++(mid++post),tail,by grind,?_,by grind,by grind⟩;rw[abD,ut q5];refine(q2.mono (fun x d q=>q.aH K)).append ?_;exact⟨mid,post,rfl,k2,q4.mono (fun x d q=>q.aH K)⟩
  obtain⟨g1,g2⟩:=VZ (X:=⟨X.s,h₁,X.w,X.A⟩) F.H hob' (fun n q=>by simpa[aI.row]using q) hs ho ht;exact⟨g1,F.E.trans g2⟩
 .cases e;exact⟨H,aB.refl X⟩
def l9:List (Nat×LO)->Nat->Option LO
 |[],_=>none|p::l,i=>match Nat.beq p.1 i with|true=>some p.2|false=>l9 l i
def Bf(lh:List (Nat×LO))(h:Hp)(i:Nat):AV->Option (AV×Hp)
 |.bu=>match l9 lh i with
  |some o=>match o with
   |.arr τ ty=>match Tr.set FT h.tr h.next (some (.arr τ [] ty))with|some t=>some (.hd h.next τ,⟨t,h.next+1⟩)|none=>none
   |_=>none
  |none=>none
 |.hd b τ=>match l9 lh i with
  |some o=>match o with
   |.arr _ _=>match EO h b with|some h'=>some (.hd b τ,h')|none=>none
   |_=>some (.hd b τ,h)
  |none=>some (.hd b τ,h)
 |.vw b τ off n=>match off,l9 lh i,h.tr.get b with
  |0,some (.arr _ _),some (.arr τ' L ty)=>match Tr.set FT h.tr b none with
   |some aeS=>match Tr.set FT aeS h.next (some (.arr τ' (L.take n) ty))with|some t=>some (.hd h.next τ',⟨t,h.next+1⟩)|none=>none
   |none=>none
  |_,_,_=>some (.vw b τ off n,h)
 |v=>some (v,h)
def Cn(lh:List (Nat×LO))(h:Hp)(i:Nat):AV->Option (AV×Hp)
 |.bu=>match l9 lh i with
  |some o=>match o with
   |.d7 ty=>match Tr.set FT h.tr h.next (some (.d7 [] ty))with|some t=>some (.dA h.next,⟨t,h.next+1⟩)|none=>none
   |_=>none
  |none=>none
 |v=>some (v,h)
def Be(h:Hp)(τ:Sh):AV->Option (AV×Hp)
 |.hd b τ'=>match dz true h (.sl τ) [.hd b τ']with
  |some (L,l,h')=>match l with|[]=>some (.fz τ L,h')|_=>none
  |none=>none
 |.vw b τ' o n=>match dz true h (.sl τ) [.vw b τ' o n]with
  |some (L,l,h')=>match l with|[]=>some (.fz τ L,h')|_=>none
  |none=>xN h (.vw b τ' o n)
 |v=>some (v,h)
mutual
def fq(lh:List (Nat×LO))(h:Hp):LA->AV->Option (AV×Hp)
 |.hd i τ,v=>Bf lh h i v|.dA i,v=>Cn lh h i v|.fz τ,v=>Be h τ v|.func f x c,v=>match v with
  |.func g x' c'=>match mo lh h x x' with
   |some (x',h)=>match mo lh h c c' with|some (c',h)=>some (.func g x' c',h)|none=>none
   |none=>none
  |v=>some (v,h)
 |.agg l,v=>match v with
  |.agg l'=>match mo lh h l l' with|some (l',h)=>some (.agg l',h)|none=>none
  |v=>some (v,h)
 |.bD l,v=>match v with
  |.bD l'=>match mo lh h l l' with|some (l',h)=>some (.bD l',h)|none=>none
  |v=>some (v,h)
 |_,v=>some (v,h)
termination_by structural x=>x
def mo(lh:List (Nat×LO))(h:Hp):List LA->List AV->Option (List AV×Hp)
 |[],vs=>some (vs,h)|a::l,vs=>match vs with
  |[]=>some ([],h)|v::vs=>match fq lh h a v with
   |some (v,h)=>match mo lh h l vs with|some (vs,h)=>some (v::vs,h)|none=>none
   |none=>none
termination_by structural x=>x
end
def cM(X:Cx)(h':Hp)(X':Cx):Prop:=X'.w=X.w/\X'.h=h'/\ab X'/\aB X X'
theorem cM.refl{X:Cx}(H:ab X):cM X X.h X:=⟨rfl,rfl,H,aB.refl X⟩
theorem UK{X:Cx}(H:ab X){b n:Nat}{τ:Sh}{L:List τ.T}{ty:TypeId}{l:Loc}{aeS t:Tr aI}(hb:X.h.tr.get b=some (.arr τ L ty))(hs:X.s b=some l)(hn:n<=L.length)(hk:Tr.set FT X.h.tr b none=some aeS)
  (ht:Tr.set FT aeS X.h.next (some (.arr τ (L.take n) ty))=some t):∃X',cM X ⟨t,X.h.next+1⟩ X'/\Rel X' (.hd X.h.next τ) (l.slice n):=by
 have hlen:(L.take n).length=n:=by grind
 cases l with
 |nil=>
  have hL:L=[]:=H.obj b _ _ hb hs;subst hL;have hn0:n=0:=by grind
  subst hn0;obtain⟨acH,acR⟩:=H.kill hs hk;have G:=Grown.none (X:=X) (X₁:=⟨X.s,⟨aeS,X.h.next⟩,X.w,X.A⟩) acH acR rfl ht;exact⟨⟨aQ X.s X.h.next .nil,⟨t,X.h.next+1⟩,X.w,X.A⟩,⟨rfl,rfl,G.H,G.E⟩,G.R⟩
 |«at» x c=>
  obtain⟨cs,tail,h1,h2,h3,h4⟩:=H.obj b _ _ hb hs;obtain⟨adq,adr,e,k1⟩:∃adq adr,adq++adr=cs/\aV (Cs X.w X.out τ) (L.take n) adq:=⟨_,_,EQ (n*τ.size) cs,aV.take (fun x c=>Cs.length) n h2⟩;subst e;have G:=Grown.fit (tail:=adr++tail) H hb hs hk ht k1 (by grind) acs;have ew:Ev.bU X.w x (.cells (adq++(adr++tail)).toArray ty (0,0))=X.w:=by
   unfold Ev.bU;have:X.w.heap.setIfInBounds x (.cells (adq++(adr++tail)).toArray ty (0,0))=X.w.heap:=by grind
   rw[this]
  rw[ew]at G;refine⟨⟨aQ X.s X.h.next (.at x c),⟨t,X.h.next+1⟩,X.w,X.A⟩,⟨rfl,rfl,G.H,G.E⟩,?_⟩;have:=G.R;rw[hlen]at this;exact this
 |bX x c m=>exact(H.obj b _ _ hb hs).elim
theorem X1{lh:List (Nat×LO)}{i:Nat}{v v':AV}{h':Hp}{X:Cx}(H:ab X)(e:Bf lh X.h i v=some (v',h')){V:Value}(R:Rel X v V):∃X',cM X h' X'/\Rel X' v' V:=by
 unfold Bf at e;split at e
 .split at e<;>try cases e
  split at e<;>try cases e
  rename_i τ ty;split at e<;>cases e;rename_i t ht;obtain⟨E,H'⟩:=ab.void H ht;have g0:=Tr.bE _ _ _ _ _ ht;refine⟨⟨aQ X.s X.h.next .nil,⟨t,X.h.next+1⟩,X.w,X.A⟩,⟨rfl,rfl,H',E⟩,.nil,cE _ _ _,?_,?_⟩
  .rw[show V=_ from R];rfl
  .intro n' q
   replace q:rowOf t X.h.next=some n':=q
   rw[ie (by rw[g0,ut rfl])]at q;cases q;rw[show V=_ from R];rfl
 .rename_i b τ;split at e
  .split at e
   .split at e<;>cases e;rename_i hc;obtain⟨l,hs,hR⟩:=R;obtain⟨H',E⟩:=aaF H hc hs;exact⟨⟨X.s,h',X.w,X.A⟩,⟨rfl,rfl,H',E⟩,Rel.ext (E.dw H) (v:=.hd b τ) ⟨l,hs,hR⟩⟩
   .cases e;exact⟨X,cM.refl H,R⟩
  .cases e;exact⟨X,cM.refl H,R⟩
 .split at e
  .rename_i hb;split at e<;>try cases e
   rename_i aeS hk;split at e<;>cases e;rename_i t ht;obtain⟨l,a,c,hs,_,_,_,h5,h6⟩:=R;rw[h5 rfl];have hle:=h6 _ (iM hb);exact UK H hb hs acs hk ht
  .cases e;exact⟨X,cM.refl H,R⟩
 .cases e;exact⟨X,cM.refl H,R⟩
theorem Xm{lh:List (Nat×LO)}{i:Nat}{v v':AV}{h':Hp}{X:Cx}(H:ab X)(e:Cn lh X.h i v=some (v',h')){V:Value}(R:Rel X v V):∃X',cM X h' X'/\Rel X' v' V:=by
 unfold Cn at e;split at e
 .split at e<;>try cases e
  split at e<;>try cases e
  rename_i ty;split at e<;>cases e;rename_i t ht;obtain⟨E,H'⟩:=ab.Kq H ht (fun _=>rfl);refine⟨⟨aQ X.s X.h.next .nil,⟨t,X.h.next+1⟩,X.w,X.A⟩,⟨rfl,rfl,H',E⟩,.nil,cE _ _ _,?_⟩;rw[show V=_ from R];rfl
 .cases e;exact⟨X,cM.refl H,R⟩
theorem X2{τ:Sh}{v v':AV}{h':Hp}{X:Cx}(H:ab X)(e:Be X.h τ v=some (v',h')){V:Value}(R:Rel X v V):∃X',cM X h' X'/\Rel X' v' V:=by
 have main:∀u,Rel X u V->(match dz true X.h (.sl τ) [u]with
  |some (L,l,h')=>match l with|[]=>some (AV.fz τ L,h')|_=>none
  |none=>none)=some (v',h')->∃X',cM X h' X'/\Rel X' v' V:=by
  intro u R e;split at e<;>try cases e
  rename_i L l h₁ hf;split at e<;>cases e;obtain⟨F,c,r,he,h1,h2⟩:=nS H hf (show bc X [u] [V]from⟨V,[],rfl,R,rfl⟩);have:r=[]:=h2;subst this;rw[dE]at he;subst he;exact⟨⟨X.s,h',X.w,X.A⟩,⟨rfl,rfl,F.H,F.E⟩,h1⟩
 unfold Be at e;split at e
 .exact main _ R e
 .split at e
  .rename_i hf
   grind
  .obtain⟨F,Q⟩:=Lg H e R;exact⟨⟨X.s,h',X.w,X.A⟩,⟨rfl,rfl,F.H,F.E⟩,Q⟩
 .cases e;exact⟨X,cM.refl H,R⟩
theorem cM.trans{X X' X'':Cx}{h' h'':Hp}(a:cM X h' X')(b:cM X' h'' X''):cM X h'' X'':=⟨b.1.trans a.1,b.2.1,b.2.2.1,a.2.2.2.trans b.2.2.2⟩
mutual
theorem LH{lh:List (Nat×LO)}:∀(a:LA) {v v':AV}{h':Hp}{X:Cx},ab X->fq lh X.h a v=some (v',h')->∀{V:Value},Rel X v V->∃X',cM X h' X'/\Rel X' v' V
 |.hd i τ,v,v',h',X,H,e,V,R=>X1 H (by simpa only[fq]using e) R|.dA i,v,v',h',X,H,e,V,R=>Xm H (by simpa only[fq]using e) R|.fz τ,v,v',h',X,H,e,V,R=>X2 H (by simpa only[fq]using e) R|.func f x c,v,v',h',X,H,e,V,R=>by
  simp only[fq]at e;split at e
  .rename_i g x' c';split at e<;>try cases e
   rename_i afl h₁ adv;split at e<;>cases e;rename_i adr adw;obtain⟨xs,cs,rfl,R1,R2⟩:=R;obtain⟨X₁,acN,acW⟩:=qw x H adv R1;have hX:=acN.2.1;rw[<-hX]at adw;obtain⟨adl,acO,acX⟩:=qw c acN.2.2.1 adw (R2.ext (acN.2.2.2.dw H));exact⟨adl,acN.trans acO,xs,cs,rfl,acW.ext (acO.2.2.2.dw acN.2.2.1),acX⟩
  .cases e;exact⟨X,cM.refl H,R⟩
 |.agg l,v,v',h',X,H,e,V,R=>by
  simp only[fq]at e;split at e
  .rename_i l';split at e<;>cases e;rename_i aeq adv;obtain⟨cs,rfl,R1⟩:=R;obtain⟨X₁,acN,acW⟩:=qw l H adv R1;exact⟨X₁,acN,cs,rfl,acW⟩
  .cases e;exact⟨X,cM.refl H,R⟩
 |.bD l,v,v',h',X,H,e,V,R=>by
  simp only[fq]at e;split at e
  .rename_i l';split at e<;>cases e;rename_i aeq adv;obtain⟨cs,rfl,R1⟩:=R;obtain⟨X₁,acN,acW⟩:=qw l H adv R1;exact⟨X₁,acN,cs,rfl,acW⟩
  .cases e;exact⟨X,cM.refl H,R⟩
 |.int k,v,v',h',X,H,e,V,R=>by simp only[fq]at e;cases e;exact⟨X,cM.refl H,R⟩
 |.bool,v,v',h',X,H,e,V,R=>by simp only[fq]at e;cases e;exact⟨X,cM.refl H,R⟩
 |.str,v,v',h',X,H,e,V,R=>by simp only[fq]at e;cases e;exact⟨X,cM.refl H,R⟩
 |.cK,v,v',h',X,H,e,V,R=>by simp only[fq]at e;cases e;exact⟨X,cM.refl H,R⟩
 |.bu,v,v',h',X,H,e,V,R=>by simp only[fq]at e;cases e;exact⟨X,cM.refl H,R⟩
 |.cR,v,v',h',X,H,e,V,R=>by simp only[fq]at e;cases e;exact⟨X,cM.refl H,R⟩
 |.cQ,v,v',h',X,H,e,V,R=>by simp only[fq]at e;cases e;exact⟨X,cM.refl H,R⟩
 |.dy,v,v',h',X,H,e,V,R=>by simp only[fq]at e;cases e;exact⟨X,cM.refl H,R⟩
 |.ij,v,v',h',X,H,e,V,R=>by simp only[fq]at e;cases e;exact⟨X,cM.refl H,R⟩
 |.dt τ,v,v',h',X,H,e,V,R=>by simp only[fq]at e;cases e;exact⟨X,cM.refl H,R⟩
 |.eC σ o,v,v',h',X,H,e,V,R=>by simp only[fq]at e;cases e;exact⟨X,cM.refl H,R⟩
 |.ptr b o,v,v',h',X,H,e,V,R=>by simp only[fq]at e;cases e;exact⟨X,cM.refl H,R⟩
 |.mp b,v,v',h',X,H,e,V,R=>by simp only[fq]at e;cases e;exact⟨X,cM.refl H,R⟩
 |.cY b z o,v,v',h',X,H,e,V,R=>by simp only[fq]at e;cases e;exact⟨X,cM.refl H,R⟩
 |.rp b,v,v',h',X,H,e,V,R=>by simp only[fq]at e;cases e;exact⟨X,cM.refl H,R⟩
theorem qw{lh:List (Nat×LO)}:∀(l:List LA) {vs vs':List AV}{h':Hp}{X:Cx},ab X->mo lh X.h l vs=some (vs',h')->∀{cs:kw},bc X vs cs->∃X',cM X h' X'/\bc X' vs' cs
 |[],vs,vs',h',X,H,e,cs,R=>by simp only[mo]at e;cases e;exact⟨X,cM.refl H,R⟩
 |a::l,vs,vs',h',X,H,e,cs,R=>by
  simp only[mo]at e;split at e
  .cases e;exact⟨X,cM.refl H,R⟩
  .rename_i v vs;split at e<;>try cases e
   rename_i afc h₁ adv;split at e<;>cases e;rename_i aeZ adw;obtain⟨V,r,rfl,R1,R2⟩:=R;obtain⟨X₁,acN,acW⟩:=LH a H adv R1;have hX:=acN.2.1;rw[<-hX]at adw;obtain⟨adl,acO,acX⟩:=qw l acN.2.2.1 adw (R2.ext (acN.2.2.2.dw H));exact⟨adl,acN.trans acO,V,r,rfl,acW.ext (acO.2.2.2.dw acN.2.2.1),acX⟩
end
def oC(n:Nat)(lh:List (Nat×LO)):List (Tmp×LA)->St->Option St
 |[],st=>some st|p::l,st=>match st.T.get p.1 with
  |some v=>match fq lh st.h p.2 v with
   |some (v,h)=>match cW n st.T (some p.1) v with|some T=>oC n lh l ⟨T,h⟩|none=>none
   |none=>none
  |none=>oC n lh l st
theorem vL{n:Nat}{lh:List (Nat×LO)}:∀{l:List (Tmp×LA)}{st st':St},oC n lh l st=some st'->∀{X:Cx}{a:Act},RF X n st a->∃X',X'.w=X.w/\RF X' n st' a/\aB X X'
 |[],st,st',e,X,a,R=>by simp only[oC,bf]at e;subst e;exact⟨X,rfl,R,aB.refl X⟩|p::l,st,st',e,X,a,R=>by
  simp only[oC]at e;split at e
  .rename_i v hv;split at e<;>try cases e
   rename_i afc h₁ adv;split at e<;>try cases e
   rename_i T hT;have hX:=R.h;rw[<-hX]at adv;obtain⟨V,b1,b2⟩:=R.T.get _ _ hv;obtain⟨X₁,⟨afe,aeh,acR,acH⟩,acW⟩:=LH p.2 R.H adv b2;have hg:=jN hT;have acZ:RF X₁ n ⟨T,h₁⟩ a:=by
    refine⟨aeh,⟨R.T.size,R.T.defers,?_⟩,acR⟩;intro x u hu;rw[hg x]at hu;by_cases q:p.1=x
    .subst q
     grind
    .rw[qr (by grind)]at hu;obtain⟨U,c1,c2⟩:=R.T.get _ _ hu;exact⟨U,c1,c2.ext (acH.dw R.H)⟩
   obtain⟨adl,aff,ada,acI⟩:=vL e acZ;exact⟨adl,aff.trans afe,ada,acH.trans acI⟩
  .exact vL e R
def EY(lh:List (Nat×LO))(las:List LA)(j:Nat)(h:Hp):Option Hp:=match h.tr.get j with
 |some o=>match o with
  |.cells vs ty=>match mo lh h las vs with
   |some (vs',h')=>match h'.tr.get j with
    |some o'=>match o' with
     |.cells _ _=>match Tr.set FT h'.tr j (some (.cells vs' ty))with|some t=>some ⟨t,h'.next⟩|none=>none
     |_=>none
    |none=>none
   |none=>none
  |_=>none
 |none=>none
theorem TY{lh:List (Nat×LO)}{las:List LA}{j:Nat}{h':Hp}{X:Cx}(H:ab X)(e:EY lh las j X.h=some h')(hr:X.s j≠none):∃X',cM X h' X':=by
 unfold EY at e;split at e<;>try cases e
 rename_i o hj;split at e<;>try cases e
 rename_i vs ty;split at e<;>try cases e
 rename_i vs' h₁ hf;split at e<;>try cases e
 rename_i aey adS;split at e<;>try cases e
 rename_i aeZ aeQ;split at e<;>cases e;rename_i t ht;cases hs:X.s j with|none=>exact absurd hs hr|some l=>obtain⟨b,c,cs,rfl,e2,e3⟩:=H.obj j _ l hj hs;obtain⟨X₁,⟨afe,adK,acR,acH⟩,acW⟩:=qw las H hf e3;have hsn:X₁.s j=some (.at b c):=acH.sg _ _ hs;rw[<-adK]at adS ht;obtain⟨g1,g2⟩:=Vm acR adS (fun _ _ _ q=>by cases q) hsn (by grind) acW ht;exact⟨⟨X₁.s,⟨t,X₁.h.next⟩,X₁.w,X₁.A⟩,afe,by rw[adK],g1,acH.trans g2⟩
def gU(j:Nat):jp->Bool
 |[]=>false|i::l=>match Nat.beq i j with|true=>true|false=>gU j l
theorem zv{j:Nat}:∀{l:jp},gU j l=true->j∈l
 |[],h=>by cases h
 |i::l,h=>by
  simp only[gU]at h;split at h
  .rename_i q;simp_all
  .exact abl _ (zv h)
mutual
def eO:AV->jp->jp
 |.ptr b _,r=>b::r|.hd b _,r=>b::r|.mp b,r=>b::r|.dA b,r=>b::r|.rp b _,r=>b::r|.ra b _,r=>b::r|.func _ x c,r=>jC x (jC c r)|.agg l,r=>jC l r|.bD l,r=>jC l r|_,r=>r
termination_by structural x=>x
def jC:List AV->jp->jp
 |[],r=>r|v::l,r=>eO v (jC l r)
termination_by structural x=>x
end
mutual
theorem QU{X:Cx}:∀(v:AV) {r:jp}{V:Value},Rel X v V->(∀j∈r,X.s j≠none)->∀j∈eO v r,X.s j≠none
 |.ptr b o,r,V,⟨x,c,h1,_⟩,hr,j,hj=>by
  simp only[eO,BY]at hj;rcases hj with rfl|hj
  .rw[h1];simp
  .exact hr j hj
 |.hd b o,r,V,⟨x,h1,_⟩,hr,j,hj=>by
  simp only[eO,BY]at hj;rcases hj with rfl|hj
  .rw[h1];simp
  .exact hr j hj
 |.mp b,r,V,⟨x,c,h1,_⟩,hr,j,hj=>by
  simp only[eO,BY]at hj;rcases hj with rfl|hj
  .rw[h1];simp
  .exact hr j hj
 |.dA b,r,V,⟨x,h1,_⟩,hr,j,hj=>by
  simp only[eO,BY]at hj;rcases hj with rfl|hj
  .rw[h1];simp
  .exact hr j hj
 |.rp b i,r,V,⟨x,c,m,p,h1,_⟩,hr,j,hj=>by
  simp only[eO,BY]at hj;rcases hj with rfl|hj
  .rw[h1];simp
  .exact hr j hj
 |.ra b i,r,V,⟨x,c,m,h1,_⟩,hr,j,hj=>by
  simp only[eO,BY]at hj;rcases hj with rfl|hj
  .rw[h1];simp
  .exact hr j hj
 |.func f x c,r,V,⟨xs,cs,_,h1,h2⟩,hr,j,hj=>oT x h1 (oT c h2 hr) j (by simpa only[eO]using hj)|.agg l,r,V,⟨cs,_,h1⟩,hr,j,hj=>oT l h1 hr j (by simpa only[eO]using hj)|.bD l,r,V,⟨cs,_,h1⟩,hr,j,hj=>oT l h1 hr j (by simpa only[eO]using hj)|.bool _,r,V,h,hr,j,hj=>hr j (by simpa only[eO]using hj)|.int _ _,r,V,h,hr,j,hj=>hr j (by simpa only[eO]using hj)|.str _,r,V,h,hr,j,hj=>hr j (by simpa only[eO]using hj)|.cK,r,V,h,hr,j,hj=>hr j (by simpa only[eO]using hj)|.bu,r,V,h,hr,j,hj=>hr j (by simpa only[eO]using hj)|.cR,r,V,h,hr,j,hj=>hr j (by simpa only[eO]using hj)|.cQ,r,V,h,hr,j,hj=>hr j (by simpa only[eO]using hj)|.dy,r,V,h,hr,j,hj=>hr j (by simpa only[eO]using hj)|.ij,r,V,h,hr,j,hj=>hr j (by simpa only[eO]using hj)|.cY _ _ _ _,r,V,h,hr,j,hj=>hr j (by simpa only[eO]using hj)|.eC _ _ _,r,V,h,hr,j,hj=>hr j (by simpa only[eO]using hj)|.vw _ _ _ _,r,V,h,hr,j,hj=>hr j (by simpa only[eO]using hj)|.dt _ _ _,r,V,h,hr,j,hj=>hr j (by simpa only[eO]using hj)|.fz _ _,r,V,h,hr,j,hj=>hr j (by simpa only[eO]using hj)
theorem oT{X:Cx}:∀(l:List AV) {r:jp}{cs:kw},bc X l cs->(∀j∈r,X.s j≠none)->∀j∈jC l r,X.s j≠none
 |[],r,cs,h,hr,j,hj=>hr j (by simpa only[jC]using hj)|v::l,r,cs,⟨V,t,_,h1,h2⟩,hr,j,hj=>QU v h1 (oT l h2 hr) j (by simpa only[jC]using hj)
end
def cellsOf(h:Hp)(j:Nat):List AV:=match h.tr.get j with
 |some o=>match o with|.cells l _=>l|.cT _ _ _ l _=>l|_=>[]
 |none=>[]
theorem K4{X:Cx}(H:ab X){j:Nat}(hj:X.s j≠none){r:jp}(hr:∀i∈r,X.s i≠none):∀i∈jC (cellsOf X.h j) r,X.s i≠none:=by
 unfold cellsOf;split
 .rename_i o ho;split
  .rename_i l ty;cases hs:X.s j with|none=>exact absurd hs hj|some k=>obtain⟨b,c,cs,rfl,e2,e3⟩:=H.obj j _ k ho hs;exact oT l e3 hr
  .rename_i τ' i' L' l ty;cases hs:X.s j with|none=>exact absurd hs hj|some k=>obtain⟨b,c,pre,mid,post,tail,rfl,e1,e2,e3,_⟩:=H.obj j _ k ho hs;exact oT l e3 hr
  .simpa only[jC]using hr
 .simpa only[jC]using hr
def nz(lh:List (Nat×LO)):List (Nat×Nat)->jp->Hp->Option (jp×Hp)
 |[],kn,h=>some (kn,h)|p::m,kn,h=>match gU p.1 kn with
  |true=>match l9 lh p.2 with
   |some o=>match o with
    |.cells las _=>match EY lh las p.1 h with|some h=>nz lh m (jC (cellsOf h p.1) kn) h|none=>none
    |.cT _ _ _=>nz lh m (jC (cellsOf h p.1) kn) h|_=>nz lh m kn h
   |none=>nz lh m kn h
  |false=>none
theorem rC{lh:List (Nat×LO)}:∀{m:List (Nat×Nat)}{kn kn':jp}{h':Hp}{X:Cx},ab X->nz lh m kn X.h=some (kn',h')->(∀j∈kn,X.s j≠none)->∃X',cM X h' X'/\∀j∈kn',X'.s j≠none
 |[],kn,kn',h',X,H,e,hk=>by simp only[nz,bf,ww]at e;obtain⟨rfl,rfl⟩:=e;exact⟨X,cM.refl H,hk⟩
 |p::m,kn,kn',h',X,H,e,hk=>by
  simp only[nz]at e;split at e<;>try cases e
  rename_i hm;have hr:=hk _ (zv hm);split at e
  .split at e
   .split at e<;>try cases e
    rename_i h₁ hB;obtain⟨X₁,acN⟩:=TY H hB hr;have adO:∀j∈kn,X₁.s j≠none:=fun j hj q=>by cases r:X.s j with|none=>exact hk j hj r|some l=>rw[acN.2.2.2.sg _ _ r]at q;cases q
    have adV:X₁.s p.1≠none:=adO _ (zv hm);have hX:=acN.2.1;rw[<-hX]at e;obtain⟨adl,acO,adP⟩:=rC acN.2.2.1 e (K4 acN.2.2.1 adV adO);exact⟨adl,acN.trans acO,adP⟩
   .exact rC H e (K4 H hr hk)
   .exact rC H e hk
  .exact rC H e hk
theorem Ts(m:List (Nat×Nat)):zJ 0 m=cJ m:=by
 funext j;unfold zJ;split
 .rename_i h;rw[WP]at h;omega
 .rfl
def fi(base:Nat)(s:Sg)(m:List (Nat×Nat)):Sg:=fun i=>match inv m i with|some j=>s j|none=>match Nat.blt i base with|true=>s i|false=>none
structure MB(m:List (Nat×Nat))(X X':Cx):Prop where
 H:ab X'
 R:Rn (cJ m) X X'
 s1:∀j i,cJ m j=some i->X'.s i=X.s j
 g2:∀i o',X'.h.tr.get i=some o'->∃j o,cJ m j=some i/\X.h.tr.get j=some o/\gY (cJ m) o=some o'
 bz:∀b,X'.bz b->X.bz b
theorem Kz{X:Cx}(H:ab X){base nx:Nat}(hbn:base<=nx){m:List (Nat×Nat)}(O:nE 0 nx m){t:Tr aI}(ht:lT (cJ m) X.h.tr m .nil=some t){A':Nat->Prop}
  (hA1:∀b,A' b->X.out b) (hA2:∀b,A' b->¬Cx.bz ⟨fi base X.s m,⟨t,nx⟩,X.w,A'⟩ b):MB m X ⟨fi base X.s m,⟨t,nx⟩,X.w,A'⟩:=by
 have fI:∀j i,cJ m j=some i->(j,i)∈m:=fun j i q=>tV q;have fM:∀j i,(j,i)∈m->cJ m j=some i:=fun j i q=>rD O q;have s1:∀j i,cJ m j=some i->fi base X.s m i=X.s j:=by intro j i q;unfold fi;rw[AQ O (fI j i q)]
 have s2:∀i l,fi base X.s m i=some l->i<nx:=by
  intro i l q;unfold fi at q;split at q
  .rename_i j hj;exact(O.lo _ (Mr hj)).2.2
  .split at q
   .rename_i q2;rw[WP]at q2;omega
   .cases q
 have g2:∀i o',t.get i=some o'->∃j o,cJ m j=some i/\X.h.tr.get j=some o/\gY (cJ m) o=some o':=by
  intro i o' q;rcases(tz ht i).2 o' q with r|⟨j,o,a,b,c⟩
  .simp[Tr.get]at r
  .exact⟨j,o,fM j i a,b,c⟩
 have inj:∀j k i,cJ m j=some i->cJ m k=some i->j=k:=by intro j k i h1 h2;have:=O.snd _ (fI j i h1) _ (fI k i h2) rfl;simpa using this
 have arr:∀j i n,cJ m j=some i->rowOf t i=some n->rowOf X.h.tr j=some n:=by intro j i n h1 h2;obtain⟨o',h2,hr⟩:=jd h2;obtain⟨k,o,a,b,c⟩:=g2 i _ h2;have:=inj j k i h1 a;subst this;rw[ie b,<-Ph c];exact hr
 have bz:∀b,Cx.bz ⟨fi base X.s m,⟨t,nx⟩,X.w,A'⟩ b->X.bz b:=by rintro b ⟨i,o',c,h1,h2,h3⟩;obtain⟨j,o,a1,a2,_⟩:=g2 i o' h1;rw[show Cx.s ⟨fi base X.s m,⟨t,nx⟩,X.w,A'⟩ i=fi base X.s m i from rfl,s1 j i a1]at h2;exact⟨j,o,c,a2,h2,h3⟩
 have Rn':Rn (cJ m) X ⟨fi base X.s m,⟨t,nx⟩,X.w,A'⟩:=by
  refine⟨fun j i l q r=>by grind,?_,fun j i n q r=>arr j i n q r⟩;intro b o h q;refine⟨q,?_⟩;rintro(r|r)
  .exact h (hA1 b r)
  .exact h (.inr (bz b r))
 refine⟨⟨?_,?_,?_,?_,?_,?_⟩,Rn',s1,g2,bz⟩
 .intro i o' l h1 h2;obtain⟨j,o,a1,a2,a3⟩:=g2 i o' h1;rw[show Cx.s ⟨fi base X.s m,⟨t,nx⟩,X.w,A'⟩ i=fi base X.s m i from rfl,s1 j i a1]at h2;exact L0 Rn' rfl a3 (H.obj j o l a2 h2)
 .intro i k aex aey c c' b h1 h2 h3 h4 h5 h6;obtain⟨j,o,a1,a2,_⟩:=g2 i aex h1;obtain⟨j',o',b1,b2,_⟩:=g2 k aey h2;rw[show Cx.s ⟨fi base X.s m,⟨t,nx⟩,X.w,A'⟩ i=fi base X.s m i from rfl,s1 j i a1]at h3;rw[show Cx.s ⟨fi base X.s m,⟨t,nx⟩,X.w,A'⟩ k=fi base X.s m k from rfl,s1 j' k b1]at h4;have:=H.inj j j' o o' c c' b a2 b2 h3 h4 h5 h6;subst this;rw[a1]at b1;cases b1;rfl
 .intro i o h1;obtain⟨j,o',a,_⟩:=g2 i o h1;exact(O.lo _ (fI j i a)).2.2
 .intro i l h1;exact s2 i l h1
 .intro b hb;rcases hA1 b hb with q|q
  .exact H.alt b q
  .exact H.vX q
 .intro i o' c b h1 h2 h4 h3;exact hA2 b h3 ⟨i,o',c,h1,h2,h4⟩
theorem Hk{n:Nat}{aH:List Tmp}{m:List (Nat×Nat)}{nx:Nat}{st N:St}(e:sF 0 n aH m nx st=some N) :
  nE 0 nx m/\qN (cJ m) n st.T aH=some N.T/\lT (cJ m) st.h.tr m .nil=some N.h.tr/\N.h.next=nx:=by
 unfold sF at e;split at e
 case h_2=>cases e
 rename_i hm hbn;split at e<;>try cases e
 rename_i T aeS hT h₁;split at e<;>try cases e
 rename_i t h₂;rw[Ts]at hT h₂;have:aeS=.nil:=by simp only[A8,bf]at h₁;exact h₁.symm
 subst this;exact⟨Ls hm,hT,h₂,rfl⟩
theorem Um{n:Nat}{aH:List Tmp}{m:List (Nat×Nat)}{nx:Nat}{st N:St}(e:sF 0 n aH m nx st=some N){X₀ X:Cx}{a:Act}(acQ:ab X₀)(hlo:∀i,i<X₀.h.next->cJ m i=some i\/inv m i=none)(hnx:X₀.h.next<=nx)
  (hr:∀i,i<X₀.h.next->X₀.s i≠none) (E:aB X₀ X) (R:RF X n st a):∃X',X'.w=X.w/\RF X' n N a/\aB X₀ X':=by
 obtain⟨O,hT,ht,hn⟩:=Hk e;have hX:=R.h;rw[<-hX]at ht;have Q:=Kz R.H hnx O ht (A':=X.A) (fun b h=>.inl h) (by
  rintro b hb ⟨i,o',c,h1,h2,h3⟩;rcases(tz ht i).2 o' h1 with r|⟨j,o,a1,a2,_⟩
  .simp[Tr.get]at r
  .replace h2:fi X₀.h.next X.s m i=some c:=h2
   unfold fi at h2;rw[AQ O a1]at h2;exact R.H.loc j o c b a2 h2 h3 hb)
 have hN:N.h=⟨N.h.tr,nx⟩:=by rw[<-hn]
 refine⟨⟨fi X₀.h.next X.s m,⟨N.h.tr,nx⟩,X.w,X.A⟩,rfl,⟨hN.symm,⟨R.T.size,R.T.defers,?_⟩,Q.H⟩,?_⟩
 .intro x v' q;obtain⟨v,a1,a2⟩:=BX hT x v' q;obtain⟨V,b1,b2⟩:=R.T.get x v a1;exact⟨V,b1,BL Q.R a2 b2⟩
 .have sl:∀i,i<X₀.h.next->fi X₀.h.next X.s m i=X.s i:=fun i hi=>by
   rcases hlo i hi with q|q
   .exact Q.s1 i i q
   .unfold fi;rw[q,show Nat.blt i X₀.h.next=true by rw[WP];exact hi]
  refine⟨E.os,E.tape,E.output,E.size,?_,?_,hnx,E.frame,fun b h=>E.bz b (Q.bz b h),?_,?_,E.A⟩
  .intro i l h;show fi X₀.h.next X.s m i=_;rw[sl i (acQ.cr i l h)];exact E.sg i l h
  .intro i l hi h
   replace h:fi X₀.h.next X.s m i=some l:=h
   rw[sl i hi]at h;exact E.cr i l hi h
  .intro j n hj h;rcases hlo j hj with q|q
   .exact E.len j n hj (Q.R.obj j j n q h)
   .obtain⟨o',h2,_⟩:=jd h;obtain⟨k,o,a,_⟩:=Q.g2 j o' h2;rw[AQ O (tV a)]at q;cases q
  grind
def aaJ:LA->Option Nat
 |.ptr b _=>some b|.cY b _ _=>some b|.rp b=>some b|.hd b _=>some b|.mp b=>some b|.dA b=>some b|_=>none
def numOf:AV->Option Nat
 |.ptr b _=>some b|.cY b _ _ _=>some b|.rp b _=>some b|.hd b _=>some b|.mp b=>some b|.dA b=>some b|_=>none
def mC:List LA->List AV->List (LA×AV)->List (LA×AV)
 |[],_,r=>r|a::l,m,r=>match m with|b::m=>(a,b)::mC l m r|[]=>r
def kQ(lh:List (Nat×LO))(h:Tr aI):Nat->List (LA×AV)->List (Nat×Nat)->Option (List (Nat×Nat))
 |0,_,_=>none|k+1,l,m=>match l with
  |[]=>some m|p::l=>match aaJ p.1,numOf p.2 with
   |some i,some j=>match cJ m j with|some _=>kQ lh h k l m|none=>match l9 lh i,h.get j with|some (.cells a _),some (.cells b _)=>kQ lh h k (mC a b l) ((j,i)::m)|some (.cT _ a _),some (.cT _ _ _ b _)=>kQ lh h k (mC a b l) ((j,i)::m)|_,_=>kQ lh h k l ((j,i)::m)
   |_,_=>match p.1,p.2 with|.func _ x c,.func _ x' c'=>kQ lh h k (mC x x' (mC c c' l)) m|.agg x,.agg x'=>kQ lh h k (mC x x' l) m|.bD x,.bD x'=>kQ lh h k (mC x x' l) m|_,_=>kQ lh h k l m
def rF(T:Tr AV):List (Tmp×LA)->List (LA×AV)
 |[]=>[]|p::l=>match T.get p.1 with|some v=>(p.2,v)::rF T l|none=>rF T l
def Bi:List (Tmp×LA)->List Tmp
 |[]=>[]|p::l=>p.1::Bi l
def nA(lh:List (Nat×LO)):Nat->List (Nat×Nat)
 |0=>[]|b+1=>match l9 lh b with|some _=>(b,b)::nA lh b|none=>nA lh b
def vr:Nat->jp->jp
 |0,r=>r|b+1,r=>b::vr b r
def tI(lh:List (Nat×LO))(h:Tr aI):Nat->List (LA×AV)
 |0=>[]|b+1=>match l9 lh b,h.get b with|some (.cells x _),some (.cells y _)=>mC x y (tI lh h b)|some (.cT _ x _),some (.cT _ _ _ y _)=>mC x y (tI lh h b)|_,_=>tI lh h b
def ES{α:Type}:List α->List α->List α
 |[],m=>m|x::l,m=>x::ES l m
def Px{α:Type}:List α->List α->List α
 |[],m=>m|x::l,m=>Px l (x::m)
def rm(T:Tr AV):List (Tmp×LA)->jp->jp
 |[],r=>r|p::l,r=>match T.get p.1 with|some v=>eO v (rm T l r)|none=>rm T l r
theorem G4{X:Cx}{n:Nat}{T:Tr AV}{a:Act}(R:fT X n T a):∀{l:List (Tmp×LA)}{r:jp},(∀j∈r,X.s j≠none)->∀j∈rm T l r,X.s j≠none
 |[],r,h,j,hj=>h j hj|p::l,r,h,j,hj=>by
  simp only[rm]at hj;split at hj
  .rename_i v hv;obtain⟨V,_,b2⟩:=R.get _ _ hv;exact QU v b2 (G4 R h) j hj
  .exact G4 R h j hj
theorem KL:∀{b:Nat}{r:jp}{j:Nat},j∈vr b r->j<b\/j∈r
 |0,r,j,h=>.inr h|b+1,r,j,h=>by
  simp only[vr,BY]at h;rcases h with rfl|h
  .exact .inl acs
  .rcases KL h with q|q
   .exact .inl acs
   .exact .inr q
def vt(m:List (Nat×Nat))(b:Nat)(r:Bool):Bool:=match inv m b with|none=>r|some _=>false
def oh(m:List (Nat×Nat)):Nat->Bool
 |0=>true|b+1=>match cJ m b with
  |some i=>match Nat.beq i b with|true=>oh m b|false=>vt m b (oh m b)
  |none=>vt m b (oh m b)
theorem Jo{m:List (Nat×Nat)}{b:Nat}{r:Bool}(h:vt m b r=true):inv m b=none/\r=true:=by
 unfold vt at h
 grind
theorem QR{m:List (Nat×Nat)}:∀{b:Nat},oh m b=true->∀i,i<b->cJ m i=some i\/inv m i=none
 |0,_,i,h=>by omega|b+1,e,i,h=>by
  have key:(cJ m b=some b\/inv m b=none)/\oh m b=true:=by
   simp only[oh]at e;split at e
   .rename_i k hk;split at e
    .rename_i q
     simp_all
    .obtain⟨h1,h2⟩:=Jo e;exact⟨.inr h1,h2⟩
   .obtain⟨h1,h2⟩:=Jo e;exact⟨.inr h1,h2⟩
  rcases rt i b with r|r
  .exact QR key.2 i r
  grind
def xC(base:Nat)(lay:ae)(st:St):Option (jp×Hp):=match kQ lay.h st.h.tr 1000 (ES (rF st.T lay.T) (tI lay.h st.h.tr base)) (nA lay.h base)with|some m=>nz lay.h (Px m []) (rm st.T lay.T (vr base [])) st.h|none=>none
def enter(base n:Nat)(lay:ae)(own:List (Tmp×Sh×TypeId))(st:St):Option (TL lay.σs):=match qe n own st with
 |some st=>match oC n lay.h lay.T st with
  |some st=>match xC base lay st with
   |some (_,h)=>match kQ lay.h h.tr 1000 (ES (rF st.T lay.T) (tI lay.h h.tr base)) (nA lay.h base)with
    |some m=>match oh m base,Nat.ble base lay.nx,sF 0 n (Bi lay.T) m lay.nx ⟨st.T,h⟩with|true,true,some st=>lay.get st|_,_,_=>none
    |none=>none
   |none=>none
  |none=>none
 |none=>none
def Real(X:Cx):Prop:=∀i,i<X.h.next->X.s i≠none
theorem JT{n:Nat}{lay:ae}{N st:St}{d:TL lay.σs}(hg:lay.get N=some d)(hp:lay.put n d=some st){X₀ X:Cx}{a:Act}(hb:X₀.h.next<=lay.nx)(hr:Real X₀)(acQ:ab X₀)(hn:N.h.next=lay.nx)(E:aB X₀ X)(R:RF X n N a) :
  ∃X',X'.w=X.w/\RF X' n st a/\aB X₀ X':=by
 unfold ae.get at hg;split at hg<;>try cases hg
 rename_i dh hh;unfold ae.put at hp;split at hp<;>try cases hp
 rename_i T adt hT;obtain⟨e1,t2⟩:=Lx hg hT;subst e1;split at hp<;>try cases hp
 rename_i t ht;have h2:=Ly hh ht;have hX:=R.h;have bz:∀b,Cx.bz ⟨X.s,⟨t,lay.nx⟩,X.w,X.A⟩ b->X.bz b:=by rintro b ⟨i,o',c,q1,q2⟩;obtain⟨o,g1,g2⟩:=h2 i o' q1;exact⟨i,o,c,by rw[hX];exact g1,q2⟩
 have RE:fp X ⟨X.s,⟨t,lay.nx⟩,X.w,X.A⟩:=by
  refine⟨fun _ _ h=>h,?_,?_⟩
  .intro b o h q;refine⟨q,?_⟩;rintro(r|r)
   .exact h (.inl r)
   .exact h (.inr (bz b r))
  .intro j l n _ q;obtain⟨o',q,hr⟩:=jd q;obtain⟨o,g1,g2⟩:=h2 j _ q;rw[hX,ie g1];exact g2.2 n hr
 have H':ab ⟨X.s,⟨t,lay.nx⟩,X.w,X.A⟩:=by
  refine⟨?_,?_,?_,?_,R.H.alt,?_⟩
  .intro i o' l q1 q2;obtain⟨o,g1,g2⟩:=h2 i o' q1;have:=R.H.obj i o l (by rw[hX];exact g1) q2;exact(g2.1 X l this).ext RE (fun _ _=>rfl)
  .intro i j o o' c c' b q1 q2 q3 q4;obtain⟨p,g1,_⟩:=h2 i o q1;obtain⟨p',g2,_⟩:=h2 j o' q2;exact R.H.inj i j p p' c c' b (by rw[hX];exact g1) (by rw[hX];exact g2) q3 q4
  .intro i o' q;obtain⟨o,g1,_⟩:=h2 i o' q;have:=R.H.lt i o (by rw[hX];exact g1)
   grind
  .intro i l q;have:=R.H.cr i l q
   grind
  .intro i o' c b q1 q2;obtain⟨o,g1,_⟩:=h2 i o' q1;exact R.H.loc i o c b (by rw[hX];exact g1) q2
 refine⟨⟨X.s,⟨t,lay.nx⟩,X.w,X.A⟩,rfl,⟨rfl,⟨R.T.size,R.T.defers,?_⟩,H'⟩,?_⟩
 .intro x v' q;obtain⟨v,a1,a2⟩:=t2 x v' q;obtain⟨V,b1,b2⟩:=R.T.get x v a1;exact⟨V,b1,(a2 X V b2).ext RE⟩
 .refine⟨E.os,E.tape,E.output,E.size,E.sg,E.cr,hb,E.frame,fun b h=>E.bz b (bz b h),?_,fun i hi q=>absurd q (hr i hi),E.A⟩;intro j n hj q;obtain⟨o',q,hr⟩:=jd q;obtain⟨o,g1,g2⟩:=h2 j _ q;exact E.len j n hj (by rw[hX,ie g1];exact g2.2 n hr)
theorem Mw{base:Nat}{lay:ae}{st:St}{kn:jp}{h':Hp}(e:xC base lay st=some (kn,h')){X:Cx}{n:Nat}{a:Act}(R:RF X n st a)(hlo:∀i,i<base->X.s i≠none) :
  ∃X',X'.w=X.w/\RF X' n ⟨st.T,h'⟩ a/\aB X X'/\∀j∈kn,X'.s j≠none:=by
 unfold xC at e;split at e<;>try cases e
 rename_i m hm;have hX:=R.h;rw[<-hX]at e;obtain⟨X',⟨w',hh,H',E'⟩,hk⟩:=rC R.H e (G4 R.T (fun j hj=>by
  rcases KL hj with q|q
  .exact hlo j q
  .cases q))
 exact⟨X',w',⟨hh,R.T.ext (E'.dw R.H),H'⟩,E',hk⟩
theorem Real.of{X X':Cx}(h:Real X)(E:aB X X'):∀i,i<X.h.next->X'.s i≠none:=by intro i hi q;cases r:X.s i with|none=>exact h i hi r|some l=>rw[E.sg _ _ r]at q;cases q
theorem zB{base n:Nat}{lay:ae}{own:List (Tmp×Sh×TypeId)}{aeE st:St}{d:TL lay.σs}(hg:enter base n lay own aeE=some d)(hp:lay.put n d=some st){X₀ X:Cx}{a:Act}(hb:X₀.h.next=base/\Real X₀)(acQ:ab X₀)(E:aB X₀ X)(R:RF X n aeE a) :
  ∃X',X'.w=X.w/\RF X' n st a/\aB X₀ X':=by
 obtain⟨hb,hr⟩:=hb;unfold enter at hg;split at hg<;>try cases hg
 rename_i aeF h₁;split at hg<;>try cases hg
 rename_i aeG h₂;split at hg<;>try cases hg
 rename_i kn h aej;split at hg<;>try cases hg
 rename_i m hm;split at hg<;>try cases hg
 rename_i N hlow hnx hN;have hnx:=pi hnx;obtain⟨X₁,afe,acZ,acH⟩:=BI h₁ R;obtain⟨adl,aff,ada,acI⟩:=vL h₂ acZ;have acG:=(E.trans acH).trans acI;obtain⟨adm,afg,adb,acJ,_⟩:=Mw aej ada (fun i hi=>hr.of acG i acs);obtain⟨adn,afh,ade,acK⟩:=Um hN acQ (fun i hi=>QR hlow i acs) acs hr (acG.trans acJ) adb;have hn:N.h.next=lay.nx:=(Hk hN).2.2.2;obtain⟨ado,afi,adf,acL⟩:=JT hg hp acs hr acQ hn acK ade
 grind
def EW:Ex->Ex->Bool
 |.normal,e=>match e with|.normal=>true|_=>false
 |.exit i,e=>match e with|.exit j=>Nat.beq i j|_=>false
 |.ret,e=>match e with|.ret=>true|_=>false
theorem Mx{a b:Ex}(h:EW a b=true):a=b:=by
 cases a<;>cases b<;>first|rfl|cases h|skip
 rw[aW h]
def Out:List (Ex×ae)->Type
 |[]=>Empty|[p]=>TL p.2.σs|p::q::l=>TL p.2.σs⊕Out (q::l)
abbrev be(l:ae)(o:List (Ev.Ex×ae)):=TL l.σs->Option (Out o)
abbrev am(l:ae)(o:List (Ev.Ex×ae)):=Option (TL l.σs⊕Out o)
def oG{R:Type}(n:Nat):(l:List (Ex×ae))->Out l->(Ex->St->Option R)->Option R
 |[],_,_=>none|[p],o,k=>match p.2.put n o with|some st=>k p.1 st|none=>none
 |p::q::l,o,k=>match o with
  |.inl d=>match p.2.put n d with|some st=>k p.1 st|none=>none
  |.inr o=>oG n (q::l) o k
def jV(n:Nat):(l:List (Ex×ae))->Out l->Option (Ex×St)
 |[],_=>none|[p],o=>match p.2.put n o with|some st=>some (p.1,st)|none=>none
 |p::q::l,o=>match o with
  |.inl d=>match p.2.put n d with|some st=>some (p.1,st)|none=>none
  |.inr o=>jV n (q::l) o
theorem BM{R:Type}{n:Nat}:∀{l:List (Ex×ae)}{o:Out l}{k:Ex->St->Option R}{r:R},oG n l o k=some r->∃e st,jV n l o=some (e,st)/\k e st=some r
 |[],o,k,r,h=>by cases h
 |[p],o,k,r,h=>by
  simp only[oG]at h;split at h<;>try cases h
  rename_i st hst;exact⟨p.1,st,by simp only[jV,hst],h⟩
 |p::q::l,o,k,r,h=>by
  cases o with
  |inl d=>
   simp only[oG]at h;split at h<;>try cases h
   rename_i st hst;exact⟨p.1,st,by simp only[jV,hst],h⟩
  |inr o=>simp only[oG]at h;obtain⟨e,st,h1,h2⟩:=BM h;exact⟨e,st,by simp only[jV];exact h1,h2⟩
def ma(base n:Nat):(l:List (Ex×ae))->Ex->St->Option (Out l)
 |[],_,_=>none|[p],e,st=>match EW p.1 e with|true=>enter base n p.2 [] st|false=>none
 |p::q::l,e,st=>match(match EW p.1 e with|true=>enter base n p.2 [] st|false=>none)with|some d=>acB d|none=>match ma base n (q::l) e st with|some o=>acC o|none=>none
theorem Hy{base n:Nat}:∀{l:List (Ex×ae)}{e:Ex}{aeE:St}{o:Out l},ma base n l e aeE=some o->∀{e':Ex}{st:St},jV n l o=some (e',st)->e'=e /\
  ∀{X₀ X:Cx}{a:Act},(X₀.h.next=base/\Real X₀)->ab X₀->aB X₀ X->RF X n aeE a->∃X',X'.w=X.w/\RF X' n st a/\aB X₀ X'
 |[],e,aeE,o,h,e',st,hs=>by cases h
 |[p],e,aeE,o,h,e',st,hs=>by
  simp only[ma]at h;split at h<;>try cases h
  rename_i he;simp only[jV]at hs;split at hs<;>try cases hs
  rename_i hp;exact⟨Mx he,fun hb acQ E R=>zB h hp hb acQ E R⟩
 |p::q::l,e,aeE,o,h,e',st,hs=>by
  simp only[ma]at h;split at h
  .rename_i d hd;cases h;split at hd<;>try cases hd
   rename_i he;simp only[jV]at hs;split at hs<;>try cases hs
   rename_i hp;exact⟨Mx he,fun hb acQ E R=>zB hd hp hb acQ E R⟩
  .split at h<;>cases h;rename_i o' ho;simp only[jV]at hs;exact Hy ho hs
structure jA where
 np:Nat
 lay:ae
 nr:Nat
 outs:List (Ex×ae)
 F:be lay outs
def kz(T:Tr AV):Nat->Nat->Option (List AV)
 |0,_=>some []|k+1,i=>match T.get i with
  |some v=>match kz T k (i+1)with|some l=>some (v::l)|none=>none
  |none=>none
theorem Hf{X:Cx}{n:Nat}{T:Tr AV}{a:Act}(R:fT X n T a):∀{k i:Nat}{us:List AV}{Vs:kw},kz T k i=some us->Vs.length=k->(∀t,t<k->a.tmps[i+t]?=Vs[t]?)->bc X us Vs
 |0,i,us,Vs,e,hl,h=>by simp only[kz,bf]at e;subst e;exact ro hl|k+1,i,us,Vs,e,hl,h=>by
  simp only[kz]at e;split at e<;>try cases e
  rename_i v hv;split at e<;>cases e;rename_i l hL;cases Vs with
  |nil=>simp at hl|cons V r=>
   obtain⟨U,b1,b2⟩:=R.get _ _ hv;have h0:=h 0 acs;simp only[aaW,pm]at h0;rw[b1]at h0;cases h0;refine⟨_,r,rfl,b2,Hf R hL (by grind) ?_⟩
   grind
def jk(P:Program)(f:FuncId)(s:jA):Prop:=
 (∃fn c,P.funcs[f]?=some fn/\(fn.name == "runtime.NumGoroutine")=false/\fn.body=some c) /\
 ∀d o,s.F d=some o->∀st e st',s.lay.put s.np d=some st->jV s.nr s.outs o=some (e,st')->∀X vs args,X.h=st.h->ab X->Real X->kz st.T s.np 0=some vs->bc X vs args ->
  Calls P f (List.toArray args) X.w fun e w'=>∃X' Vs,e=.returned (ka Vs)/\X'.w=w'/\X'.h=st'.h/\ab X'/\aB X X'/\∀us,kz st'.T s.nr 0=some us->bc X' us Vs
def qa{α:Type}:List α->Nat
 |[]=>0|_::l=>qa l+1
theorem BQ{α:Type}:∀l:List α,qa l=l.length
 |[]=>rfl|_::l=>by simp[qa,BQ l]
def vj(kn:jp):List (Nat×Nat)->Bool
 |[]=>true|p::m=>match gU p.1 kn with|true=>vj kn m|false=>false
theorem Rc{kn:jp}:∀{m:List (Nat×Nat)},vj kn m=true->∀p∈m,p.1∈kn
 |[],_,p,hp=>by cases hp
 |q::m,h,p,hp=>by
  simp only[vj]at h;split at h<;>try cases h
  rename_i hq;rcases BY.1 hp with rfl|hp
  .exact zv hq
  .exact Rc h p hp
def xF(i:Nat):List (Nat×Nat)->Bool
 |[]=>false|p::m=>match Nat.beq p.2 i with|true=>true|false=>xF i m
theorem KP{i:Nat}:∀{m:List (Nat×Nat)},xF i m=true->∃j,(j,i)∈m
 |[],h=>by cases h
 |p::m,h=>by
  simp only[xF]at h;split at h
  .rename_i q;have q:=aW q
   grind
  .obtain⟨j,hj⟩:=KP h
   grind
def vA(m:List (Nat×Nat)):Nat->Bool
 |0=>true|b+1=>match xF b m with|true=>vA m b|false=>false
theorem QQ{m:List (Nat×Nat)}:∀{b:Nat},vA m b=true->∀i,i<b->∃j,(j,i)∈m
 |0,_,i,h=>by omega|b+1,e,i,h=>by
  simp only[vA]at e;split at e<;>try cases e
  rename_i q;rcases rt i b with r|r
  .exact QQ e i r
  .rw[show i=b by omega];exact KP q
def Cw(s:jA)(vs:List AV)(h:Hp):Option (List (Nat×Nat)×Hp×TL s.lay.σs):=match Nat.beq (qa vs) s.np,gJ s.np vs 0 .nil with
 |true,some T=>match oC s.np s.lay.h s.lay.T ⟨T,h⟩with
  |some st=>match xC 0 s.lay st with
   |some (kn,h)=>match kQ s.lay.h h.tr 1000 (rF st.T s.lay.T) []with
    |some m=>match vj kn m,vA m s.lay.nx,sF 0 s.np (Bi s.lay.T) m s.lay.nx ⟨st.T,h⟩with
     |true,true,some N=>match s.lay.get N with
      |some d=>match s.lay.put s.np d with
       |some st=>match kz st.T s.np 0 with|some _=>some (m,h,d)|none=>none
       |none=>none
      |none=>none
     |_,_,_=>none
    |none=>none
   |none=>none
  |none=>none
 |_,_=>none
def pF(t:Tr aI):List (Nat×Nat)->Option (Tr aI)
 |[]=>some t|p::m=>match pF t m with|some t=>Tr.set FT t p.1 none|none=>none
theorem Hm{t:Tr aI}:∀{m:List (Nat×Nat)}{t':Tr aI},pF t m=some t'->∀k,(t'.get k=t.get k/\∀i,(k,i)∉m)\/(t'.get k=none/\∃i,(k,i)∈m)
 |[],t',e,k=>by simp only[pF,bf]at e;grind|p::m,t',e,k=>by
  simp only[pF]at e;split at e<;>try cases e
  rename_i aeS h₁;rw[Tr.bE _ _ _ _ _ e k];by_cases q:k=p.1
  .rw[ut q]
   grind
  .rw[qr q];rcases Hm h₁ k with⟨a,b⟩|⟨a,i,b⟩
   .exact .inl ⟨a,fun i hi=>by grind⟩
   grind
def news(nx hn:Nat):Nat->List (Nat×Nat)
 |0=>[]|q+1=>(nx+q,hn+q)::news nx hn q
theorem Hx{nx hn:Nat}:∀{c:Nat}{p:Nat×Nat},p∈news nx hn c↔∃q,q<c/\p=(nx+q,hn+q)
 |0,p=>by simp[news]|c+1,p=>by
  simp only[news,BY,Hx (c:=c)]
  grind
def rA:List (Nat×Nat)->List (Nat×Nat)->List (Nat×Nat)
 |[],r=>r|p::m,r=>(p.2,p.1)::rA m r
theorem zi:∀{m r:List (Nat×Nat)}{p:Nat×Nat},p∈rA m r↔(p.2,p.1)∈m\/p∈r
 |[],r,p=>by simp[rA]|q::m,r,p=>by
  obtain⟨a,b⟩:=p;obtain⟨c,d⟩:=q;simp only[rA,BY,zi (m:=m),ww]
  grind
def l8(m:List (Nat×Nat))(nx hn c:Nat):List (Nat×Nat):=rA m (news nx hn c)
theorem SI{m:List (Nat×Nat)}{nx hn c:Nat}(O:nE 0 nx m)(hm:∀p∈m,p.1<hn):nE 0 (hn+c) (l8 m nx hn c):=by
 have mem:∀p,p∈l8 m nx hn c->(p.2,p.1)∈m\/∃q,q<c/\p=(nx+q,hn+q):=by
  intro p hp;rcases zi.1 hp with h|h
  .exact .inl h
  .exact .inr (Hx.1 h)
 refine⟨?_,?_,?_⟩
 .intro p hp
  grind
 .intro p hp p' hp' e;rcases mem p hp with h|⟨q,h,rfl⟩<;>rcases mem p' hp' with h'|⟨q',h',rfl⟩
  .have:=O.snd _ h _ h' e
   grind
  .have:=(O.lo _ h).2.2;simp only at this e;omega
  .have:=(O.lo _ h').2.2;simp only at this e;omega
  .simp only at e;rw[show q=q' by omega]
 .intro p hp p' hp' e;rcases mem p hp with h|⟨q,h,rfl⟩<;>rcases mem p' hp' with h'|⟨q',h',rfl⟩
  .have:=O.fst _ h _ h' e
   grind
  .have:=hm _ h;simp only at this e;omega
  .have:=hm _ h';simp only at this e;omega
  grind
def Ci(m:List (Nat×Nat))(h:Hp)(nx nr:Nat)(st':St):Option (List AV×Hp):=match pF h.tr m,kz st'.T nr 0 with
 |some t,some us=>match lT (cJ (l8 m nx h.next (st'.h.next-nx))) st'.h.tr (l8 m nx h.next (st'.h.next-nx)) t,kE (cJ (l8 m nx h.next (st'.h.next-nx))) us with|some t',some us'=>some (us',⟨t',h.next+(st'.h.next-nx)⟩)|_,_=>none
 |_,_=>none
theorem SV{adl Xn X₀:Cx}{m:List (Nat×Nat)}{nx:Nat}(acS:ab adl)(O:nE 0 nx m)(Q:MB m adl Xn)(hnx:Xn.h.next=nx)(hAn:∀b,Xn.A b↔adl.out b/\¬Xn.bz b)(hwn:Xn.w=adl.w)
  (hreal:∀p∈m,adl.s p.1≠none) (H':ab X₀) (E:aB Xn X₀) {aeS t':Tr aI}(hk:pF adl.h.tr m=some aeS)
  (hc:lT (cJ (l8 m nx adl.h.next (X₀.h.next-nx))) X₀.h.tr (l8 m nx adl.h.next (X₀.h.next-nx)) aeS=some t') :
  ∃X',X'.w=X₀.w/\X'.h=⟨t',adl.h.next+(X₀.h.next-nx)⟩/\ab X'/\aB adl X'/\Rn (cJ (l8 m nx adl.h.next (X₀.h.next-nx))) X₀ X':=by
 obtain⟨hn,ehn⟩:∃hn,hn=adl.h.next:=⟨_,rfl⟩;obtain⟨cnt,ecnt⟩:∃c,c=X₀.h.next-nx:=⟨_,rfl⟩;rw[<-ehn,<-ecnt]at hc |-;have hcn:X₀.h.next=nx+cnt:=by have:=E.next;omega
 have mlt:∀p∈m,p.1<hn:=by intro p hp;cases q:adl.s p.1 with|none=>exact absurd q (hreal p hp)|some l=>have:=acS.cr _ _ q;omega
 have OG:=SI (c:=cnt) O mlt;obtain⟨G,eG⟩:∃G,G=l8 m nx hn cnt:=⟨_,rfl⟩;have gmem:∀i k,(i,k)∈G->((k,i)∈m/\k<hn/\i<nx)\/∃q,q<cnt/\i=nx+q/\k=hn+q:=by
  intro i k h;rw[eG]at h;rcases zi.1 h with h|h
  .exact .inl ⟨h,mlt _ h,(O.lo _ h).2.2⟩
  .obtain⟨q,h1,h2⟩:=Hx.1 h;simp only[ww]at h2;exact .inr ⟨q,h1,h2.1,h2.2⟩
 rw[<-eG]at OG hc |-;have gI:∀i k,cJ G i=some k->(i,k)∈G:=fun i k h=>tV h;have gM:∀i k,(i,k)∈G->cJ G i=some k:=fun i k h=>rD OG h
 let s':Sg:=fun k=>if k<hn then adl.s k else X₀.s (k-hn+nx)
 have sold:∀k l,adl.s k=some l->k<hn/\s' k=some l:=by
  intro k l h;have:=acS.cr k l h;have hlt:k<hn:=acs
  exact⟨hlt,by simp only[s',ut hlt];exact h⟩
 have gS:∀i k,cJ G i=some k->s' k=X₀.s i:=by
  intro i k h;rcases gmem i k (gI i k h)with⟨h1,h2,h3⟩|⟨q,h1,rfl,rfl⟩
  .simp only[s',ut h2];have e1:=Q.s1 k i (rD O h1);cases r:adl.s k with|none=>exact absurd r (hreal _ h1)|some l=>rw[r]at e1;exact(E.sg i l e1).symm
  .simp only[s'];rw[qr acs];congr 1;omega
 have objF:∀k o',t'.get k=some o'->(adl.h.tr.get k=some o'/\(∀i,(k,i)∉m)/\k<hn)\/∃i o,cJ G i=some k/\X₀.h.tr.get i=some o/\gY (cJ G) o=some o':=by
  intro k o' h;rcases(tz hc k).2 o' h with r|⟨i,o,a,b,c⟩
  .rcases Hm hk k with⟨a,b⟩|⟨a,_⟩
   .rw[a]at r;have:=acS.lt k o' r;exact .inl ⟨r,b,acs⟩
   .rw[a]at r;cases r
  .exact .inr ⟨i,o,gM i k a,b,c⟩
 have gone:∀k i,(k,i)∈m->∀j,cJ G j=some k->j=i:=by
  intro k i h j hj;have h1:(i,k)∈G:=by rw[eG];exact zi.2 (.inl h)
  have:=OG.snd _ (gI j k hj) _ h1 rfl;simpa using this
 have notG:∀k,(∀i,(k,i)∉m)->k<hn->∀i,cJ G i≠some k:=by
  intro k h1 h2 i h3;rcases gmem i k (gI i k h3)with⟨a,_⟩|⟨q,_,_,a⟩
  .exact h1 i a
  .omega
 have imgn:∀k i l,cJ m k=some i->adl.s k=some l->Xn.s i=some l:=fun k i l h1 h2=>by rw[Q.s1 k i h1];exact h2
 have imgX:∀b,Xn.bz b->∃k i o c,(k,i)∈m/\adl.h.tr.get k=some o/\adl.s k=some c/\c.own b:=by rintro b ⟨i,o',c,h1,h2,h3⟩;obtain⟨k,o,a1,a2,_⟩:=Q.g2 i o' h1;rw[Q.s1 k i a1]at h2;exact⟨k,i,o,c,tV a1,a2,h2,h3⟩
 have other:∀k o c b,adl.h.tr.get k=some o->(∀i,(k,i)∉m)->adl.s k=some c->c.own b->Xn.A b:=by intro k o c b h1 h2 h3 h4;refine(hAn b).2 ⟨.inr ⟨k,o,c,h1,h3,h4⟩,fun hi=>?_⟩;obtain⟨k',i,o',c',g1,g2,g3,g4⟩:=imgX b hi;have:=acS.inj k k' o o' c c' b h1 g2 h3 g3 h4 g4;subst this;exact h2 i g1
 have acE:∀b,adl.A b->Xn.A b:=by intro b h;refine(hAn b).2 ⟨.inl h,fun hi=>?_⟩;obtain⟨k',i,o',c',g1,g2,g3,g4⟩:=imgX b hi;exact acS.loc k' o' c' b g2 g3 g4 h
 have img':∀b,Cx.bz ⟨s',⟨t',hn+cnt⟩,X₀.w,adl.A⟩ b->X₀.bz b\/(Xn.A b/\adl.bz b):=by
  rintro b ⟨k,o',c,h1,h2,h3⟩
  replace h2:s' k=some c:=h2
  rcases objF k o' h1 with⟨a1,a2,a3⟩|⟨i,o,a1,a2,a3⟩
  .simp only[s',ut a3]at h2;exact .inr ⟨other k o' c b a1 a2 h2 h3,k,o',c,a1,h2,h3⟩
  .rw[gS i k a1]at h2;exact .inl ⟨i,o,c,a2,h2,h3⟩
 have outn:∀b,Xn.out b->adl.out b:=by
  rintro b (h|h)
  .exact((hAn b).1 h).1
  .exact .inr (Q.bz b h)
 have arr:∀i k n,cJ G i=some k->rowOf t' k=some n->rowOf X₀.h.tr i=some n:=by
  intro i k n h1 h2;obtain⟨o',h2,hr⟩:=jd h2;rcases objF k _ h2 with⟨a1,a2,a3⟩|⟨i',o,a1,a2,a3⟩
  .exact absurd h1 (notG k a2 a3 i)
  .have:=OG.snd _ (gI i k h1) _ (gI i' k a1) rfl;simp only[ww,abj]at this;subst this;rw[ie a2,<-Ph a3];exact hr
 have Rn':Rn (cJ G) X₀ ⟨s',⟨t',hn+cnt⟩,X₀.w,adl.A⟩:=by
  refine⟨fun i k l q r=>by show s' k=_;rw[gS i k q];exact r,?_,arr⟩;intro b o h q;refine⟨q,?_⟩;rintro(r|r)
  .refine h (.inl ?_);rw[E.A];exact acE b r
  .rcases img' b r with r|⟨r,_⟩
   .exact h (.inr r)
   .refine h (.inl ?_);rw[E.A];exact r
 have low:∀b,b<adl.w.heap.size->¬adl.bz b->X₀.w.heap[b]?=adl.w.heap[b]?:=by intro b hb hi;rw[E.frame b (by rw[hwn];exact hb) (fun q=>hi (Q.bz b q)),hwn]
 have lenOld:∀j n,j<hn->rowOf t' j=some n->rowOf adl.h.tr j=some n:=by
  intro j n hj h0;obtain⟨o',h,hr⟩:=jd h0;rcases objF j _ h with⟨a1,_,_⟩|⟨i,o,a1,a2,a3⟩
  .rw[ie a1];exact hr
  .have h4:=arr i j n a1 h0;rcases gmem i j (gI i j a1)with⟨b1,b2,b3⟩|⟨q,_,_,rfl⟩
   .exact Q.R.obj j i n (rD O b1) (E.len i n acs h4)
   .omega
 have RE:fp adl ⟨s',⟨t',hn+cnt⟩,X₀.w,adl.A⟩:=by
  refine⟨fun k l h=>(sold k l h).2,?_,fun j l n h q=>lenOld j n (sold j l h).1 q⟩;intro b o h q;have hb:=gW q;refine⟨by show X₀.w.heap[b]?=_;rw[low b hb (fun r=>h (.inr r))];exact q,?_⟩;rintro(r|r)
  .exact h (.inl r)
  .rcases img' b r with r|⟨_,r⟩
   .rcases E.bz b r with r|r
    .exact h (.inr (Q.bz b r))
    .rw[hwn]at r;omega
   .exact h (.inr r)
 have hsz:adl.w.heap.size<=X₀.w.heap.size:=by have:=E.size;rw[hwn]at this;exact this
 refine⟨⟨s',⟨t',hn+cnt⟩,X₀.w,adl.A⟩,rfl,rfl,⟨?_,?_,?_,?_,?_,?_⟩,?_,Rn'⟩
 .intro k o' l h1 h2
  replace h2:s' k=some l:=h2
  rcases objF k o' h1 with⟨a1,a2,a3⟩|⟨i,o,a1,a2,a3⟩
  .simp only[s',ut a3]at h2;refine(acS.obj k o' l a1 h2).ext RE ?_;intro b hb;show X₀.w.heap[b]?=_;rw[E.frame b (by rw[hwn];exact acS.i6 a1 h2 hb) (fun q=>((hAn b).1 (other k o' l b a1 a2 h2 hb)).2 q),hwn]
  .rw[gS i k a1]at h2;exact L0 Rn' rfl a3 (H'.obj i o l a2 h2)
 .intro ael aem aex aey adq adr b h1 h2 h3 h4 f3 f4
  replace h3:s' ael=some adq:=h3
  replace h4:s' aem=some adr:=h4
  rcases objF ael aex h1 with⟨a1,a2,a3⟩|⟨i,o,a1,a2,a3⟩<;>rcases objF aem aey h2 with⟨b1,b2,b3⟩|⟨i',o',b1,b2,b3⟩
  .simp only[s',ut a3]at h3;simp only[s',ut b3]at h4;exact acS.inj ael aem aex aey adq adr b a1 b1 h3 h4 f3 f4
  .simp only[s',ut a3]at h3;rw[gS i' aem b1]at h4;refine absurd (other ael aex adq b a1 a2 h3 f3) ?_;have:=H'.loc i' o' adr b b2 h4 f4;rw[E.A]at this;exact this
  .simp only[s',ut b3]at h4;rw[gS i ael a1]at h3;refine absurd (other aem aey adr b b1 b2 h4 f4) ?_;have:=H'.loc i o adq b a2 h3 f3;rw[E.A]at this;exact this
  .rw[gS i ael a1]at h3;rw[gS i' aem b1]at h4;have:=H'.inj i i' o o' adq adr b a2 b2 h3 h4 f3 f4;subst this;rw[a1]at b1;cases b1;rfl
 .intro k o' h1;show k<hn+cnt;rcases objF k o' h1 with⟨_,_,a3⟩|⟨i,o,a1,a2,a3⟩
  .omega
  .exact(OG.lo _ (gI i k a1)).2.2
 .intro k l h1
  replace h1:s' k=some l:=h1
  show k<hn+cnt;by_cases q:k<hn
  .omega
  .simp only[s',qr q]at h1;have:=H'.cr _ l h1;omega
 .intro b hb;have:=acS.alt b hb;show b<X₀.w.heap.size;omega
 .intro k o' c b h1 h2 h4 h3
  replace h2:s' k=some c:=h2
  rcases objF k o' h1 with⟨a1,a2,a3⟩|⟨i,o,a1,a2,a3⟩
  .simp only[s',ut a3]at h2;exact acS.loc k o' c b a1 h2 h4 h3
  .rw[gS i k a1]at h2;have:=H'.loc i o c b a2 h2 h4;rw[E.A]at this;exact this (acE b h3)
 .refine⟨by rw[<-hwn];exact E.os,by rw[<-hwn];exact E.tape,by rw[<-hwn];exact E.output,hsz,fun k l h=>(sold k l h).2,?_,by show adl.h.next<=hn+cnt;omega,low,?_,?_,?_,rfl⟩
  .intro k l hk' h
   replace h:s' k=some l:=h
   simp only[s',ut (show k<hn by omega)]at h;exact h
  .intro b h;rcases img' b h with r|⟨_,r⟩
   .rcases E.bz b r with r|r
    .exact .inl (Q.bz b r)
    .rw[hwn]at r;exact .inr r
   .exact .inl r
  .intro j n hj h;exact lenOld j n acs h
  .intro k hk' hs;show t'.get k=_;have hnm:∀i,(k,i)∉m:=fun i hi=>hreal _ hi hs;have hng:∀p∈G,p.2≠k:=by rintro⟨i,k'⟩ hp rfl;exact notG k' hnm acs i (gM i k' hp)
   rw[(tz hc k).1 hng];rcases Hm hk k with⟨a,_⟩|⟨_,i,b⟩
   .exact a
   .exact absurd b (hnm i)
theorem UA{P:Program}{f:FuncId}{s:jA}(hC:jk P f s){vs:List AV}{h h₂ h':Hp}{m:List (Nat×Nat)}{d:TL s.lay.σs}(adv:Cw s vs h=some (m,h₂,d)){o:Out s.outs}(ho:s.F d=some o){ex:Ex}{st':St}
  (hs:jV s.nr s.outs o=some (ex,st')) {us':List AV}(adw:Ci m h₂ s.lay.nx s.nr st'=some (us',h')):vi P f vs h (nD us') h':=by
 refine⟨hC.1,?_⟩;intro X args hX H hR;subst hX;unfold Cw at adv;split at adv<;>try cases adv
 rename_i T hlen hT;split at adv<;>try cases adv
 rename_i aeF hfT;split at adv<;>try cases adv
 rename_i kn aei hfM;split at adv<;>try cases adv
 rename_i m' hm;split at adv<;>try cases adv
 rename_i N hall htot hN;split at adv<;>try cases adv
 rename_i d' hg;split at adv<;>try cases adv
 rename_i aeE hp;split at adv<;>try cases adv
 rename_i aeX aed;have hlen:=aW hlen;rw[BQ]at hlen;have hal:args.length=s.np:=by rw[hR.length];exact hlen
 obtain⟨X₁,afe,acZ,acH⟩:=vL hfT (tA H hT hR);obtain⟨adl,aff,ada,acI,hk⟩:=Mw hfM acZ (fun i hi=>acs);have acG:=acH.trans acI;have adE:adl.h=h₂:=ada.h;have aef:adl.w=X.w:=aff.trans afe;have ady:adl.A=X.A:=acG.A;have acS:=ada.H;obtain⟨O,hTN,htN,hnN⟩:=Hk hN
 replace htN:lT (cJ m) h₂.tr m .nil=some N.h.tr:=htN
 rw[<-adE]at htN;have hreal:∀p∈m,adl.s p.1≠none:=fun p hp'=>hk _ (Rc hall p hp');have mlt:∀p∈m,p.1<adl.h.next:=by intro p hp';cases q:adl.s p.1 with|none=>exact absurd q (hreal p hp')|some l=>exact acS.cr _ _ q
 let acD:Nat->Prop:=fun b=>adl.out b/\¬∃i o c,N.h.tr.get i=some o/\fi 0 adl.s m i=some c/\c.own b
 have Q:=Kz acS (base:=0) (Fn _) O htN (A':=acD) (fun b hb=>hb.1) (fun b hb hi=>hb.2 hi);obtain⟨Xn,hXn⟩:∃Xn:Cx,Xn=⟨fi 0 adl.s m,⟨N.h.tr,s.lay.nx⟩,adl.w,acD⟩:=⟨_,rfl⟩;rw[<-hXn]at Q;have hNh:N.h=⟨N.h.tr,s.lay.nx⟩:=by rw[<-hnN]
 have RN:RF Xn s.np N _:=⟨by rw[hXn];exact hNh.symm,⟨ada.T.size,ada.T.defers,fun x v' q=>by obtain⟨v,a1,a2⟩:=BX hTN x v' q;obtain⟨V,b1,b2⟩:=ada.T.get x v a1;exact⟨V,b1,BL Q.R a2 b2⟩⟩,Q.H⟩;have hnx:Xn.h.next=s.lay.nx:=by rw[hXn]
 have hrn:Real Xn:=by intro i hi q;obtain⟨j,hj⟩:=QQ htot i acs;rw[Q.s1 j i (rD O hj)]at q;exact hreal _ hj q
 obtain⟨Z,wZ,RZ,EZ⟩:=JT hg hp acs hrn Q.H hnN (aB.refl Xn) RN;have adW:aeE.h.next=s.lay.nx:=by
  unfold ae.put at hp;split at hp<;>try cases hp
  split at hp<;>cases hp;rfl
 have hZn:Z.h.next=s.lay.nx:=by rw[RZ.h];exact adW
 have hZr:Real Z:=fun i hi=>hrn.of EZ i acs;have Rv:=Hf RZ.T aed hal (fun t ht=>by grind);have hZw:Z.w=X.w:=by rw[wZ,hXn];exact aef
 rw[<-hZw];refine(hC.2 d o ho aeE ex st' hp hs Z aeX args RZ.h RZ.H hZr aed Rv).mono ?_;rintro e w' ⟨X₀,Vs,rfl,rfl,hh',H',acF,hus⟩;unfold Ci at adw;split at adw<;>try cases adw
 rename_i aeS us hkl hvus;split at adw<;>try cases adw
 rename_i t' aeY hcp hru;have E:=EZ.trans acF;rw[<-hh',<-adE]at hcp hru;rw[<-adE]at hkl;obtain⟨X',g1,g2,g3,g4,g5⟩:=SV acS O Q hnx (by rw[hXn];exact fun b=>Iff.rfl) (by rw[hXn]) hreal H' E hkl hcp;refine⟨X',ka Vs,rfl,g1,by rw[g2,adE,<-hh'],g3,?_,vO (nO g5 hru (hus us hvus))⟩;exact acG.trans g4
def xO{R:Type}:List jA->List AV->Hp->(Bool->AV->Hp->Option R)->Option R
 |[],_,_,_=>none|s::l,vs,h,k=>match Cw s vs h with
  |some x=>aE (s.F x.2.2) fun o=>oG s.nr s.outs o fun _ st'=>match Ci x.1 x.2.1 s.lay.nx s.nr st' with|some y=>k true (nD y.1) y.2|none=>none
  |none=>xO l vs h k
abbrev CD:=FuncId->List jA
def LW(P:Program)(Q:CD):Prop:=∀f,∀s∈Q f,jk P f s
theorem LX{R:Type}{P:Program}{f:FuncId}{vs:List AV}{h:Hp}{k:Bool->AV->Hp->Option R}{r:R}:∀{l:List jA},(∀s∈l,jk P f s)->xO l vs h k=some r ->
  ∃ch v h',k ch v h'=some r/\(ch=false->dF h h')/\vi P f vs h v h'
 |[],_,e=>by cases e
 |s::l,hC,e=>by
  simp only[xO]at e;split at e
  .rename_i x hx;obtain⟨o,ho,hk⟩:=vY e;obtain⟨ex,st',hs,hk⟩:=BM hk;split at hk<;>try cases hk
   rename_i y hy;exact⟨true,_,_,hk,fun q=>(by cases q),UA (hC s acv) hx ho hs hy⟩
  .exact LX (fun s' h'=>hC s' (by simp[h'])) e
open Go.Proofs.Ytbbhihkocghhaaa.Ev (Tr Tr.bE nth bW)
def zR:gR:=(0,0,[],())
def vl{R:Type}(call:gk R):gk R:=fun f vs h k=>match vs with
 |[]=>call f vs h k|afa::rest=>match afa with
  |.rp b i=>match h.tr.get b with
   |some (.d7 L ty)=>match Tr.set FT h.tr b none with
    |some aeR=>match Tr.set FT aeR h.next (some (.cells [.int .i64 (L.getD i zR).1,.int .i64 (L.getD i zR).2.1,.mp (h.next+1)] ty))with
     |some aeS=>match Tr.set FT aeS (h.next+1) (some (.map .u64 (.int .u64) (L.getD i zR).2.2.1))with
      |some aeT=>call f (.ptr h.next 0::rest) ⟨aeT,h.next+2⟩ fun _ v h'=>match h'.tr.get h.next,h'.tr.get (h.next+1)with
       |some (.cells [.int .i64 a,.int .i64 w,.mp j] ty'),some (.map .u64 (.int .u64) M)=>match Nat.beq j (h.next+1),Nat.beq ty' ty with
        |true,true=>match Tr.set FT h'.tr h.next none with
         |some aeU=>match Tr.set FT aeU (h.next+1) none with
          |some aeV=>match Tr.set FT aeV b (some (.d7 (L.set i (a,w,M,())) ty))with|some aeW=>k true v ⟨aeW,h'.next⟩|none=>none
          |none=>none
         |none=>none
        |_,_=>none
       |_,_=>none
      |none=>none
     |none=>none
    |none=>none
   |_=>none
  |_=>call f vs h k
theorem eJ.get{w:World}{A:Nat->Prop}{ty:TypeId}:∀{m:List (Nat×Nat)}{L:List gR}{i:Nat}{p:Nat×Nat},eJ w A ty m L->m[i]?=some p->∃d,L[i]?=some d/\od w A p d ty
 |[],L,i,p,h,q=>by simp at q|x::m,L,i,p,h,q=>by
  cases L with
  |nil=>exact h.elim|cons d L=>
   cases i with
   |zero=>simp only[pm,bf]at q;subst q;exact⟨d,rfl,h.1⟩|succ i=>
    obtain⟨d',g1,g2⟩:=eJ.get (i:=i) h.2 (by simpa using q)
    grind
theorem eJ.aQ{w w':World}{A A':Nat->Prop}(K:fP w A w' A'){ty:TypeId}{p:Nat×Nat}{d':gR}(hp':od w' A' p d' ty):∀{m:List (Nat×Nat)}{L:List gR}{i:Nat},m[i]?=some p->eJ w A ty m L ->
  (∀k q,m[k]?=some q->k≠i->w'.heap[q.1]?=w.heap[q.1]?/\w'.heap[q.2]?=w.heap[q.2]?)->eJ w' A' ty m (L.set i d')
 |[],L,i,q,h,hs=>by simp at q|x::m,L,i,q,h,hs=>by
  cases L with
  |nil=>exact h.elim|cons d L=>
   cases i with
   |zero=>simp only[pm,bf]at q;subst q;refine⟨hp',h.2.ext K fun y hy=>?_⟩;obtain⟨k,hk⟩:=abb hy;exact hs (k+1) y (by grind) acs
   |succ i=>have h0:=hs 0 x rfl acs;exact⟨h.1.ext K h0.1 h0.2,eJ.aQ K hp' (by grind) h.2 fun k y hk hne=>hs (k+1) y (by grind) acs⟩
theorem zf{m:List (Nat×Nat)}{k:Nat}{q:Nat×Nat}(h:m[k]?=some q):q.1∈eT m/\q.2∈eT m:=by
 have:=d8 h;unfold eT
 grind
theorem K6:∀{m:List (Nat×Nat)}{i k:Nat}{p q:Nat×Nat},(eT m).Nodup->m[i]?=some p->m[k]?=some q->k≠i->q.1≠p.1/\q.1≠p.2/\q.2≠p.1/\q.2≠p.2
 |[],i,k,p,q,_,h,_,_=>by simp at h|x::m,i,k,p,q,hn,h1,h2,hne=>by
  have hn':(x.1::x.2::eT m).Nodup:=hn;obtain⟨n1,n2⟩:=abr.1 hn';obtain⟨n2,n3⟩:=abr.1 n2;have n1':x.1∉eT m:=fun q=>n1 (abl _ q);cases i with
  |zero=>
   cases k with
   |zero=>exact absurd rfl hne|succ k=>
    simp only[pm,bf]at h1;subst h1;obtain⟨b1,b2⟩:=zf (m:=m) (by simpa using h2)
    grind
  |succ i=>
   cases k with
   |zero=>
    simp only[pm,bf]at h2;subst h2;obtain⟨b1,b2⟩:=zf (m:=m) (by simpa using h1)
    grind
   |succ k=>exact K6 n3 (by simpa using h1) (by simpa using h2) acs
theorem Ra:∀{m:List (Nat×Nat)}{i:Nat}{p:Nat×Nat},(eT m).Nodup->m[i]?=some p->p.1≠p.2
 |[],i,p,_,h=>by simp at h|x::m,i,p,hn,h=>by have hn':(x.1::x.2::eT m).Nodup:=hn;obtain⟨n1,n2⟩:=abr.1 hn';cases i with|zero=>simp only[pm,bf]at h;grind|succ i=>exact Ra (abr.1 n2).2 (by simpa using h)
theorem Ty{X:Cx}(H:ab X){b i x c:Nat}{m:List (Nat×Nat)}{p:Nat×Nat}{L:List gR}{ty:TypeId}(hb:X.h.tr.get b=some (.d7 L ty))(hs:X.s b=some (.bX x c m))(hp:m[i]?=some p){aeR aeS aeT:Tr aI}
  (h0:Tr.set FT X.h.tr b none=some aeR) (h1:Tr.set FT aeR X.h.next (some (.cells [.int .i64 (L.getD i zR).1,.int .i64 (L.getD i zR).2.1,.mp (X.h.next+1)] ty))=some aeS) (h2:Tr.set FT aeS (X.h.next+1) (some (.map .u64 (.int .u64) (L.getD i zR).2.2.1))=some aeT) :
  ∃X₁:Cx,X₁.w=X.w/\X₁.h=⟨aeT,X.h.next+2⟩/\(∀q,X₁.A q↔X.A q\/((Loc.bX x c m).own q/\q≠p.1/\q≠p.2))/\X₁.s X.h.next=some (.at p.1 0)/\X₁.s (X.h.next+1)=some (.at p.2 0)/\(∀j,j<X.h.next->X₁.s j=X.s j) /\
   ab X₁/\fp X X₁/\(∀q,X₁.bz q->X.bz q)/\(∀j o,j<X.h.next->X₁.h.tr.get j=some o->X.h.tr.get j=some o/\j≠b)/\(∀j,j<X.h.next->j≠b->X₁.h.tr.get j=X.h.tr.get j) /\
   (∀q,(Loc.bX x c m).own q->q≠p.1->q≠p.2->¬X₁.bz q):=by
 have g0:=Tr.bE _ _ _ _ _ h0;have g1:=Tr.bE _ _ _ _ _ h1;have g2:=Tr.bE _ _ _ _ _ h2;have hbn:=H.lt b _ hb;obtain⟨tail,ty',r1,r2,r3,r4⟩:=H.obj b _ _ hb hs;obtain⟨n1,n2⟩:=abr.1 r4;obtain⟨d,hd,s1,es,clk,s2,s3⟩:=r3.get hp;have hD:L.getD i zR=d:=by rw[gC,hd];rfl
 have hpp:=Ra n2 hp;have own1:(Loc.bX x c m).own p.1:=.inr ⟨p,d8 hp,.inl rfl⟩;have own2:(Loc.bX x c m).own p.2:=.inr ⟨p,d8 hp,.inr rfl⟩
 let s':Sg:=aQ (aQ X.s X.h.next (.at p.1 0)) (X.h.next+1) (.at p.2 0)
 have sn:s' X.h.next=some (.at p.1 0):=by show aQ _ _ _ _=_;rw[cI _ _ _ acs,cE]
 have sn1:s' (X.h.next+1)=some (.at p.2 0):=cE _ _ _;have sl:∀j,j<X.h.next->s' j=X.s j:=fun j hj=>by show aQ _ _ _ _=_;rw[cI _ _ _ acs,cI _ _ _ acs]
 have alt:∀j o,aeT.get j=some o->(j=X.h.next/\o=.cells [.int .i64 d.1,.int .i64 d.2.1,.mp (X.h.next+1)] ty)\/(j=X.h.next+1/\o=.map .u64 (.int .u64) d.2.2.1)\/(X.h.tr.get j=some o/\j≠b/\j<X.h.next):=by
  intro j o hj;rw[g2 j]at hj;by_cases q:j=X.h.next+1
  .rw[ut q,hD]at hj;exact .inr (.inl ⟨q,by simpa using hj.symm⟩)
  .rw[qr q,g1 j]at hj;by_cases q':j=X.h.next
   .rw[ut q',hD]at hj;exact .inl ⟨q',by simpa using hj.symm⟩
   .rw[qr q',g0 j]at hj;by_cases q'':j=b
    .rw[ut q'']at hj;cases hj
    .rw[qr q'']at hj;exact .inr (.inr ⟨hj,q'',H.lt j o hj⟩)
 let A':Nat->Prop:=fun q=>X.A q\/((Loc.bX x c m).own q/\q≠p.1/\q≠p.2)
 have bz:∀q,Cx.bz ⟨s',⟨aeT,X.h.next+2⟩,X.w,A'⟩ q->X.bz q/\((Loc.bX x c m).own q->q=p.1\/q=p.2):=by
  rintro q ⟨j,o,l,e1,e2,e3⟩
  replace e1:aeT.get j=some o:=e1
  replace e2:s' j=some l:=e2
  rcases alt j o e1 with⟨rfl,rfl⟩|⟨rfl,rfl⟩|⟨f1,f2,f3⟩
  .rw[sn]at e2;cases e2;cases e3;exact⟨⟨b,_,_,hb,hs,own1⟩,fun _=>.inl rfl⟩
  .rw[sn1]at e2;cases e2;cases e3;exact⟨⟨b,_,_,hb,hs,own2⟩,fun _=>.inr rfl⟩
  .rw[sl j f3]at e2;exact⟨⟨j,o,l,f1,e2,e3⟩,fun hq=>absurd (H.inj j b o _ l _ q f1 hb e2 hs e3 hq) f2⟩
 have E:fp X ⟨s',⟨aeT,X.h.next+2⟩,X.w,A'⟩:=by
  refine⟨fun j l h=>by show s' j=_;rw[sl j (H.cr j l h)];exact h,?_,?_⟩
  .intro q o hq e;refine⟨e,?_⟩;rintro((r|⟨r,_⟩)|r)
   .exact hq (.inl r)
   .exact hq (.inr ⟨b,_,_,hb,hs,r⟩)
   .exact hq (.inr (bz q r).1)
  .intro j l n h1' q;obtain⟨o',q,hr⟩:=jd q;rcases alt j _ q with⟨_,q⟩|⟨_,q⟩|⟨f1,_⟩
   .subst q;cases hr
   .subst q;cases hr
   .show rowOf X.h.tr j=some n;rw[ie f1];exact hr
 refine⟨⟨s',⟨aeT,X.h.next+2⟩,X.w,A'⟩,rfl,rfl,fun q=>Iff.rfl,sn,sn1,sl,⟨?_,?_,?_,?_,?_,?_⟩,E,fun q h=>(bz q h).1,?_,?_,?_⟩
 .intro j o l e1 e2
  replace e1:aeT.get j=some o:=e1
  replace e2:s' j=some l:=e2
  rcases alt j o e1 with⟨rfl,rfl⟩|⟨rfl,rfl⟩|⟨f1,f2,f3⟩
  .rw[sn]at e2;cases e2;exact⟨p.1,0,[.int .i64 d.1,.int .i64 d.2.1,.map (some p.2)],rfl,s1,_,_,rfl,rfl,_,_,rfl,rfl,_,_,rfl,⟨p.2,0,sn1,rfl⟩,rfl⟩
  .rw[sn1]at e2;cases e2;exact⟨p.2,0,es,clk,rfl,s2,s3.aH E.K⟩
  .rw[sl j f3]at e2;exact(H.obj j o l f1 e2).ext E (fun _ _=>rfl)
 .intro j k o o' l l' q e1 e2 e3 e4 e5 e6
  replace e1:aeT.get j=some o:=e1
  replace e2:aeT.get k=some o':=e2
  replace e3:s' j=some l:=e3
  replace e4:s' k=some l':=e4
  rcases alt j o e1 with⟨rfl,rfl⟩|⟨rfl,rfl⟩|⟨f1,f2,f3⟩<;>rcases alt k o' e2 with⟨rfl,rfl⟩|⟨rfl,rfl⟩|⟨k1,k2,k3⟩
  .rfl
  .rw[sn]at e3;rw[sn1]at e4;cases e3;cases e4;cases e5;exact absurd e6 hpp
  .rw[sn]at e3;cases e3;cases e5;rw[sl k k3]at e4;exact absurd (H.inj k b o' _ l' _ _ k1 hb e4 hs e6 own1) k2
  .rw[sn1]at e3;rw[sn]at e4;cases e3;cases e4;cases e6;exact absurd e5 hpp
  .rfl
  .rw[sn1]at e3;cases e3;cases e5;rw[sl k k3]at e4;exact absurd (H.inj k b o' _ l' _ _ k1 hb e4 hs e6 own2) k2
  .rw[sn]at e4;cases e4;cases e6;rw[sl j f3]at e3;exact absurd (H.inj j b o _ l _ _ f1 hb e3 hs e5 own1) f2
  .rw[sn1]at e4;cases e4;cases e6;rw[sl j f3]at e3;exact absurd (H.inj j b o _ l _ _ f1 hb e3 hs e5 own2) f2
  .rw[sl j f3]at e3;rw[sl k k3]at e4;exact H.inj j k o o' l l' q f1 k1 e3 e4 e5 e6
 .intro j o e1;rcases alt j o e1 with⟨rfl,_⟩|⟨rfl,_⟩|⟨_,_,f3⟩
  .show X.h.next<X.h.next+2;omega
  .show X.h.next+1<X.h.next+2;omega
  .show j<X.h.next+2;omega
 .intro j l e;show j<X.h.next+2;by_cases q:j<X.h.next
  .omega
  .replace e:s' j=some l:=e
   by_cases q1:j=X.h.next
   .omega
   .by_cases q2:j=X.h.next+1
    .omega
    .have:s' j=X.s j:=by show aQ _ _ _ _=_;rw[cI _ _ _ q2,cI _ _ _ q1]
     rw[this]at e;have:=H.cr j l e;omega
 .rintro q (r|⟨r,_⟩)
  .exact H.alt q r
  .exact H.i6 hb hs r
 .intro j o l q e1 e2 e3
  replace e1:aeT.get j=some o:=e1
  replace e2:s' j=some l:=e2
  rcases alt j o e1 with⟨rfl,rfl⟩|⟨rfl,rfl⟩|⟨f1,f2,f3⟩
  .rw[sn]at e2;cases e2;cases e3;rintro(r|⟨_,r,_⟩)
   .exact H.loc b _ _ _ hb hs own1 r
   .exact r rfl
  .rw[sn1]at e2;cases e2;cases e3;rintro(r|⟨_,_,r⟩)
   .exact H.loc b _ _ _ hb hs own2 r
   .exact r rfl
  .rw[sl j f3]at e2;rintro(r|⟨r,_⟩)
   .exact H.loc j o l q f1 e2 e3 r
   .exact f2 (H.inj j b o _ l _ q f1 hb e2 hs e3 r)
 .intro j o hj e;rcases alt j o e with⟨rfl,_⟩|⟨rfl,_⟩|⟨f1,f2,_⟩
  .omega
  .omega
  .exact⟨f1,f2⟩
 .intro j hj hjb;show aeT.get j=_;rw[g2 j,qr acs,g1 j,qr acs,g0 j,qr hjb]
 .intro q hq a1 a2 hi;rcases(bz q hi).2 hq with r|r
  .exact a1 r
  .exact a2 r
theorem LR{R:Type}{P:Program}{call:gk R}(hc:dM P call):dM P (vl call):=by
 intro f vs h k r e;unfold vl at e;split at e
 .exact hc _ _ _ _ _ e
 rename_i afa rest;split at e
 case h_2=>exact hc _ _ _ _ _ e
 rename_i b i;split at e<;>try cases e
 rename_i L ty hb;split at e<;>try cases e
 rename_i aeR h0;split at e<;>try cases e
 rename_i aeS h1;split at e<;>try cases e
 rename_i aeT h2;obtain⟨ch,v,h',hk,_,hfn,hcall⟩:=hc _ _ _ _ _ e;split at hk<;>try cases hk
 rename_i a w j aeQ M hn hn1;split at hk<;>try cases hk
 rename_i hj hty;have hj:=aW hj;have hty:=aW hty;subst hj;subst hty;split at hk<;>try cases hk
 rename_i aeU h3;split at hk<;>try cases hk
 rename_i aeV h4;split at hk<;>try cases hk
 rename_i aeW h5;refine⟨true,v,⟨aeW,h'.next⟩,hk,(fun q=>by cases q),hfn,?_⟩;intro X args hX H hR;subst hX;obtain⟨adj,rs,rfl,⟨x,c,m,p,hs,hp,rfl⟩,hRr⟩:=hR;obtain⟨X₁,w1,hh1,hA1,sn,sn1,sl,acR,acH,img1,tr1,tr1',off1⟩:=Ty H hb hs hp h0 h1 h2;refine(w1▸hcall X₁ (.pointer (some ⟨p.1,0,none⟩)::rs) hh1 acR ⟨_,_,rfl,⟨p.1,0,sn,rfl⟩,hRr.ext acH⟩:Calls P f _ X.w _).mono ?_;rintro e' w' ⟨adl,V,rfl,rfl,hh2,acS,acI,hv⟩;subst hh2;obtain⟨tail,ty',r1,r2,r3,r4⟩:=H.obj b _ _ hb hs;obtain⟨n1,n2⟩:=abr.1 r4;have hbn:=H.lt b _ hb;have own1:(Loc.bX x c m).own p.1:=.inr ⟨p,d8 hp,.inl rfl⟩;have own2:(Loc.bX x c m).own p.2:=.inr ⟨p,d8 hp,.inr rfl⟩;have s2b:adl.s b=some (.bX x c m):=acI.sg _ _ (by rw[sl b hbn];exact hs);have s2n:=acI.sg _ _ sn;have s2n1:=acI.sg _ _ sn1;have g3:=Tr.bE _ _ _ _ _ h3;have g4:=Tr.bE _ _ _ _ _ h4;have g5:=Tr.bE _ _ _ _ _ h5;have alt:∀j o,aeW.get j=some o->(j=b/\o=.d7 (L.set i (a,w,M,())) aeQ)\/(adl.h.tr.get j=some o/\j≠b/\j≠X.h.next/\j≠X.h.next+1):=by
  intro j o hj;rw[g5 j]at hj;by_cases q:j=b
  .rw[ut q]at hj;exact .inl ⟨q,by simpa using hj.symm⟩
  .rw[qr q,g4 j]at hj;by_cases q':j=X.h.next+1
   .rw[ut q']at hj;cases hj
   .rw[qr q',g3 j]at hj;by_cases q'':j=X.h.next
    .rw[ut q'']at hj;cases hj
    .rw[qr q'']at hj;exact .inr ⟨hj,q,q'',q'⟩
 have hA2:adl.A=X₁.A:=acI.A;have alone:∀j o l q,adl.h.tr.get j=some o->j≠X.h.next->j≠X.h.next+1->adl.s j=some l->l.own q->¬(Loc.bX x c m).own q:=by
  intro j o l q e1 e2 e3 e4 e5 e6;by_cases q1:q=p.1
  .subst q1;exact e2 (acS.inj j _ o _ l _ _ e1 hn e4 s2n e5 rfl)
  .by_cases q2:q=p.2
   .subst q2;exact e3 (acS.inj j _ o _ l _ _ e1 hn1 e4 s2n1 e5 rfl)
   .exact acS.loc j o l q e1 e4 e5 (by rw[hA2];exact(hA1 q).2 (.inr ⟨e6,q1,q2⟩))
 have img3:∀q,Cx.bz ⟨adl.s,⟨aeW,adl.h.next⟩,adl.w,X.A⟩ q->(Loc.bX x c m).own q\/adl.bz q:=by
  rintro q ⟨j,o,l,e1,e2,e3⟩
  replace e1:aeW.get j=some o:=e1
  replace e2:adl.s j=some l:=e2
  rcases alt j o e1 with⟨rfl,rfl⟩|⟨f1,_⟩
  .rw[s2b]at e2;cases e2;exact .inl e3
  .exact .inr ⟨j,o,l,f1,e2,e3⟩
 have inOut:∀q,(Loc.bX x c m).own q->adl.out q:=by
  intro q hq;by_cases q1:q=p.1
  .subst q1;exact .inr ⟨_,_,_,hn,s2n,rfl⟩
  .by_cases q2:q=p.2
   .subst q2;exact .inr ⟨_,_,_,hn1,s2n1,rfl⟩
   .exact .inl (by rw[hA2];exact(hA1 q).2 (.inr ⟨hq,q1,q2⟩))
 have acJ:fp adl ⟨adl.s,⟨aeW,adl.h.next⟩,adl.w,X.A⟩:=by
  refine⟨fun _ _ h=>h,?_,?_⟩
  .intro q o hq e;refine⟨e,?_⟩;rintro(r|r)
   .exact hq (.inl (by rw[hA2];exact(hA1 q).2 (.inl r)))
   .rcases img3 q r with r|r
    .exact hq (inOut q r)
    .exact hq (.inr r)
  .intro j l n _ q;obtain⟨o',q,hr⟩:=jd q;rcases alt j _ q with⟨_,q⟩|⟨f1,_⟩
   .subst q;cases hr
   .show rowOf adl.h.tr j=some n;rw[ie f1];exact hr
 have size:∀q,X.bz q->q<X.w.heap.size:=fun q hq=>H.vX hq;have still:∀q,(Loc.bX x c m).own q->q≠p.1->q≠p.2->adl.w.heap[q]?=X.w.heap[q]?:=by intro q hq a1 a2;have:=acI.frame q (by rw[w1];exact H.i6 hb hs hq) (off1 q hq a1 a2);rw[this,w1]
 have acT:ab ⟨adl.s,⟨aeW,adl.h.next⟩,adl.w,X.A⟩:=by
  refine⟨?_,?_,?_,acS.cr,fun q hq=>acS.alt q (by rw[hA2];exact(hA1 q).2 (.inl hq)),?_⟩
  .intro j o l e1 e2
   replace e1:aeW.get j=some o:=e1
   replace e2:adl.s j=some l:=e2
   rcases alt j o e1 with⟨rfl,rfl⟩|⟨f1,_⟩
   .rw[s2b]at e2;cases e2;obtain⟨y,c',cs,k1,k2,k3⟩:=acS.obj _ _ _ hn s2n;cases k1;obtain⟨y',c'',es,clk,k4,k5,k6⟩:=acS.obj _ _ _ hn1 s2n1;cases k4;obtain⟨u1,t1,rfl,rfl,u2,t2,rfl,rfl,u3,t3,rfl,⟨y3,c3,z1,rfl⟩,t4⟩:=k3;have:t3=[]:=t4;subst this;rw[s2n1]at z1;cases z1;refine⟨tail,ty',?_,r2,?_,r4⟩
    .show adl.w.heap[x]?=_;rw[still x (.inl rfl) (fun e=>n1 (e▸(zf hp).1)) (fun e=>n1 (e▸(zf hp).2))];exact r1
    .have hK:fP X.w X.out adl.w (Cx.out ⟨adl.s,⟨aeW,adl.h.next⟩,adl.w,X.A⟩):=by have K2:fP X₁.w X₁.out adl.w adl.out:=acI.keeps;exact(acH.K.trans K2).trans acJ.K
     refine eJ.aQ hK ⟨k2,es,clk,k5,k6.aH acJ.K⟩ hp r3 ?_;intro k q hk hne;obtain⟨a1,a2,a3,a4⟩:=K6 n2 hp hk hne;have hm:=d8 hk;exact⟨still q.1 (.inr ⟨q,hm,.inl rfl⟩) a1 a2,still q.2 (.inr ⟨q,hm,.inr rfl⟩) a3 a4⟩
   .exact(acS.obj j o l f1 e2).ext acJ (fun _ _=>rfl)
  .intro j k o o' l l' q e1 e2 e3 e4 e5 e6
   replace e1:aeW.get j=some o:=e1
   replace e2:aeW.get k=some o':=e2
   replace e3:adl.s j=some l:=e3
   replace e4:adl.s k=some l':=e4
   rcases alt j o e1 with⟨rfl,rfl⟩|⟨f1,f2,f3,f4⟩<;>rcases alt k o' e2 with⟨rfl,rfl⟩|⟨k1,k2,k3,k4⟩
   .rfl
   .rw[s2b]at e3;cases e3;exact absurd e5 (alone k o' l' q k1 k3 k4 e4 e6)
   .rw[s2b]at e4;cases e4;exact absurd e6 (alone j o l q f1 f3 f4 e3 e5)
   .exact acS.inj j k o o' l l' q f1 k1 e3 e4 e5 e6
  .intro j o e1;rcases alt j o e1 with⟨rfl,rfl⟩|⟨f1,_⟩
   .show j<adl.h.next;have:=acI.next;rw[hh1]at this;have:X.h.next+2<=adl.h.next:=this;omega
   .exact acS.lt j o f1
  .intro j o l q e1 e2 e3
   replace e1:aeW.get j=some o:=e1
   replace e2:adl.s j=some l:=e2
   rcases alt j o e1 with⟨rfl,rfl⟩|⟨f1,_⟩
   .rw[s2b]at e2;cases e2;exact H.loc j _ _ q hb hs e3
   .intro r;exact acS.loc j o l q f1 e2 e3 (by rw[hA2];exact(hA1 q).2 (.inl r))
 have nxt:X.h.next+2<=adl.h.next:=by have:=acI.next;rw[hh1]at this;exact this
 refine⟨⟨adl.s,⟨aeW,adl.h.next⟩,adl.w,X.A⟩,V,rfl,rfl,rfl,acT,?_,hv.ext acJ⟩;refine⟨by rw[<-w1];exact acI.os,by rw[<-w1];exact acI.tape,by rw[<-w1];exact acI.output,by rw[<-w1];exact acI.size,?_,?_,by show X.h.next<=adl.h.next;omega,?_,?_,?_,?_,rfl⟩
 .intro j l hj;exact acI.sg j l (by rw[sl j (H.cr j l hj)];exact hj)
 .intro j l hj e;have:=acI.cr j l (by rw[hh1];show j<X.h.next+2;omega) e;rw[sl j hj]at this;exact this
 .intro q hq hn';have:=acI.frame q (by rw[w1];exact hq) (fun r=>hn' (img1 q r));show adl.w.heap[q]?=_;rw[this,w1]
 .intro q hq;rcases img3 q hq with r|r
  .exact .inl ⟨b,_,_,hb,hs,r⟩
  .rcases acI.bz q r with r|r
   .exact .inl (img1 q r)
   .exact .inr (by rw[<-w1];exact r)
 .intro j n hj q;obtain⟨o',q,hr⟩:=jd q;rcases alt j _ q with⟨_,q⟩|⟨f1,_⟩
  .subst q;cases hr
  .have:=acI.len j n (by rw[hh1];show j<X.h.next+2;omega) (by rw[ie f1];exact hr);obtain⟨aex,q1,q2⟩:=jd this;show rowOf X.h.tr j=some n;rw[ie (tr1 j _ hj q1).1];exact q2
 .intro j hj hsj;have hjb:j≠b:=by rintro rfl;rw[hs]at hsj;cases hsj
  show aeW.get j=_;rw[g5 j,qr hjb,g4 j,qr acs,g3 j,qr acs,acI.same j (by rw[hh1];show j<X.h.next+2;omega) (by rw[sl j hj];exact hsj)];exact tr1' j hj hjb
structure Kn where
 S:qY
 Q:CD
structure k8(P:Program)(K:Kn):Prop where
 S:B7 P K.S
 Q:LW P K.Q
def vk{R:Type}(K:Kn):gk R:=fun f vs h k=>match K.S f with|some _=>Bo K.S f vs h k|none=>xO (K.Q f) vs h k
theorem LS{R:Type}{P:Program}{K:Kn}(hK:k8 P K):dM P (vk (R:=R) K):=by
 intro f vs h k r e;unfold vk at e;split at e
 .exact Tu hK.S f vs h k r e
 .exact LX (hK.Q f) e
def known(K:Kn)(f:FuncId):Bool:=match K.S f with|some _=>true|none=>match K.Q f with|[]=>false|_=>true
abbrev Env:=FuncId->Option Func
def jq(P:Program)(E:Env):Prop:=∀f e,E f=some e->P.funcs[f]?=some e/\(e.name == "runtime.NumGoroutine")=false
def BN{R:Type}(p:FuncId->Bool)(a b:gk R):gk R:=fun f vs h k=>match p f with|true=>a f vs h k|false=>b f vs h k
theorem Xf{R:Type}{P:Program}{p:FuncId->Bool}{a b:gk R}(ha:dM P a)(hb:dM P b):dM P (BN p a b):=by
 intro f vs h k r e;unfold BN at e;split at e
 .exact ha f vs h k r e
 .exact hb f vs h k r e
section
variable{R:Type}(P:Program)(sh:TypeId->Option Sh)(S:Kn)(E:Env)
def pz:Nat->gk R
 |0=>vl (vk S)|d+1=>vl (BN (known S) (vk S) fun f vs h k=>match E f with
  |some e=>match e.body with
   |some c=>match gJ e.ntmps vs 0 .nil with
    |some T=>runK P sh (pz d) (fun _ _ _=>none) e.ntmps c ⟨T,h⟩ fun x st=>match x with|.exit _=>none|_=>match gV P st e.results.toList with|some rs=>k true (nD rs) st.h|none=>none
    |none=>none
   |none=>none
  |none=>none)
end
theorem tJ{R:Type}{P:Program}(hm:P.follows .mixedOrders=true){sh:TypeId->Option Sh}{S:Kn}(hS:k8 P S){E:Env}(hE:jq P E):∀d,dM P (pz (R:=R) P sh S E d)
 |0=>LR (LS hS)|d+1=>by
  refine LR (Xf (LS hS) ?_);intro f vs h k r e;dsimp only at e;split at e<;>try cases e
  rename_i en hen;obtain⟨hf,hname⟩:=hE f en hen;split at e<;>try cases e
  rename_i c hb;split at e<;>try cases e
  rename_i T hT;obtain⟨x,st,hk,Tk⟩:=tU (G:=fun _=>True) hm (tJ hm hS hE d) (base:=h.next) c (fun x _ st k r q=>by cases q) _ _ r e;have main:(match gV P st en.results.toList with
      |some rs=>k true (nD rs) st.h|none=>none)=some r->(∀i,x≠.exit i)->∃ch v h',k ch v h'=some r/\(ch=false->dF h h')/\vi P f vs h v h':=by
   intro hk hx;split at hk<;>try cases hk
   rename_i rs hrs;refine⟨true,_,st.h,hk,(fun q=>by cases q),⟨en,c,hf,hname,hb⟩,?_⟩;intro X args hX H hR;subst hX;refine calls_of_wp hf hb ?_;refine Tk X X _ ⟨rfl,trivial⟩ H (aB.refl X) (tA H hT hR) _ ?_;intro X' a' R' E';obtain⟨Vs,g1,g2⟩:=o5 R' hrs;have fin:a'.defers=[]/\∃V,(results en a'.tmps).run P X'.w=.ok V X'.w/\∃X'' V',Ending.returned V=.returned V'/\X''.w=X'.w/\X''.h=st.h/\ab X''/\aB X X''/\Rel X'' (nD rs) V':=⟨R'.T.defers,_,g1,X',_,rfl,rfl,R'.h,R'.H,E',vO g2⟩;cases x with|exit i=>exact absurd rfl (hx i)|normal=>exact fin|ret=>exact fin
  grind
def sI{τs:List Sh}(P:Program)(sh:TypeId->Option Sh)(S:Kn)(E:Env)(dep:Nat)(loops:jz (TL τs))(e:Func)(c:Code)(σs:List Sh)(d:TL σs):Option (TL τs):=match gJ e.ntmps (tW σs d) 0 .nil with
 |some T=>runK P sh (pz P sh S E dep) loops e.ntmps c ⟨T,⟨.nil,0⟩⟩ fun x st=>match x with
  |.exit _=>none|_=>match gV P st e.results.toList with
   |some rs=>match j4 true st.h τs rs with|some (x,_)=>some x|none=>none
   |none=>none
 |none=>none
variable{σs:List Sh}{e:Func}{τs:List Sh}{F:TL σs->Option (TL τs)}{f:FuncId}{c:Code}{loops:jz (TL τs)}
theorem WK{P:Program}(hm:P.follows .mixedOrders=true){sh:TypeId->Option Sh}{S:Kn}(hS:k8 P S){E:Env}(hE:jq P E){dep:Nat}(hl:∀x∈dG c,jJ P Real 0 e.ntmps x (loops (iF x)))
  (hf:P.funcs[f]?=some e) (hname:(e.name == "runtime.NumGoroutine")=false) (hb:e.body=some c) 
  (h:∀d x,F d=some x->sI P sh S E dep loops e c σs d=some x):Comes P f σs τs F:=by
 refine⟨⟨e,c,hf,hname,hb⟩,?_⟩;intro d x hx w A args hA ha;have hr:=h d x hx;unfold sI at hr;split at hr<;>try cases hr
 rename_i T hT;obtain⟨y,st,hk,Tk⟩:=tU (G:=Real) hm (tJ hm hS hE dep) (base:=0) c hl _ _ _ hr
 let X:Cx:=⟨fun _=>none,⟨.nil,0⟩,w,A⟩
 have out:∀b,X.out b->A b:=by
  rintro b (q|⟨i,o,c,h1,h2⟩)
  .exact q
  .simp[X,Tr.get]at h1
 have H:ab X:=⟨fun i o l h=>by grind,fun i j o o' b c c' h=>by simp[X,Tr.get]at h,fun i o h=>by simp[X,Tr.get]at h,fun i l h=>by simp[X]at h,hA,fun i o b c h=>by grind⟩;have ha':jr X.w X.out σs d args:=ha.aH (fun b o q r=>⟨r,fun s=>q (out b s)⟩);refine calls_of_wp hf hb ?_;refine Tk X X _ ⟨rfl,fun i hi=>absurd hi (Nat.not_lt_zero i)⟩ H (aB.refl X) (tA H hT (tB ha')) _ ?_;intro X' a' R' E';have main:(match gV P st e.results.toList with
   |some rs=>match j4 true st.h τs rs with|some (x,_)=>some x|none=>none
   |none=>none)=some x->a'.defers=[]/\∃V,(results e a'.tmps).run P X'.w=.ok V X'.w/\∃vs,Ending.returned V=.returned (ka vs)/\Below w.heap.size w X'.w/\jr X'.w A τs x vs:=by
  intro hk;split at hk<;>try cases hk
  rename_i rs hrs;split at hk<;>cases hk;rename_i h' hfz;obtain⟨Vs,g1,g2⟩:=o5 R' hrs;have hX:=R'.h;rw[<-hX]at hfz;obtain⟨Fz,hA'⟩:=rB R'.H hfz g2;refine⟨R'.T.defers,_,g1,Vs,rfl,⟨E'.os,E'.tape,E'.output,E'.size,fun b hb=>E'.frame b hb ?_⟩,?_⟩
  .rintro⟨i,o,c,h1,h2⟩;simp[X,Tr.get]at h1
  .refine hA'.aH (fun b o q r=>⟨r,fun s=>q (.inl ?_)⟩);show X'.A b;rw[E'.A];exact s
 cases y with
 |exit i=>simp only[]at hk;cases hk
 |normal=>exact main hk|ret=>exact main hk
def sJ{outs:List (Ex×ae)}(P:Program)(sh:TypeId->Option Sh)(S:Kn)(E:Env)(dep:Nat)(loops:jz (Out outs))(e:Func)(c:Code)(np nr:Nat)(lay:ae)(d:TL lay.σs):Option (Out outs):=match lay.put np d with
 |some st=>match kz st.T np 0 with
  |some vs=>match gJ e.ntmps vs 0 .nil with
   |some T=>runK P sh (pz P sh S E dep) loops e.ntmps c ⟨T,st.h⟩ fun x st=>match x with
    |.exit _=>none|_=>match gV P st e.results.toList with
     |some rs=>match Nat.beq (qa rs) nr,gJ nr rs 0 .nil with|true,some T=>ma lay.nx nr outs .ret ⟨T,st.h⟩|_,_=>none
     |none=>none
   |none=>none
  |none=>none
 |none=>none
variable{s:jA}
theorem Wn{P:Program}(hm:P.follows .mixedOrders=true){sh:TypeId->Option Sh}{S:Kn}(hS:k8 P S){E:Env}(hE:jq P E){dep:Nat}{loops:jz (Out s.outs)}(hl:∀x∈dG c,jJ P Real s.lay.nx e.ntmps x (loops (iF x)))
  (hf:P.funcs[f]?=some e) (hname:(e.name == "runtime.NumGoroutine")=false) (hb:e.body=some c)
  (h:∀d o,s.F d=some o->sJ P sh S E dep loops e c s.np s.nr s.lay d=some o):jk P f s:=by
 refine⟨⟨e,c,hf,hname,hb⟩,?_⟩;intro d o ho st ex st' hp hs X vs args hX H hr hv hR;have hrun:=h d o ho;unfold sJ at hrun;rw[hp]at hrun;dsimp only at hrun;rw[hv]at hrun;dsimp only at hrun;split at hrun<;>try cases hrun
 rename_i T hT;have hn:st.h.next=s.lay.nx:=by
  unfold ae.put at hp
  grind
 rw[<-hX]at hrun;obtain⟨y,aeG,hk,Tk⟩:=tU (G:=Real) hm (tJ hm hS hE dep) (base:=s.lay.nx) c hl _ _ _ hrun;refine calls_of_wp hf hb ?_;refine Tk X X _ ⟨by grind,hr⟩ H (aB.refl X) (tA H hT hR) _ ?_;intro X' a' R' E';have main:(match gV P aeG e.results.toList with
   |some rs=>match Nat.beq (qa rs) s.nr,gJ s.nr rs 0 .nil with|true,some T=>ma s.lay.nx s.nr s.outs .ret ⟨T,aeG.h⟩|_,_=>none
   |none=>none)=some o->a'.defers=[]/\∃V,(results e a'.tmps).run P X'.w=.ok V X'.w/\∃X'' Vs,Ending.returned V=.returned (ka Vs)/\X''.w=X'.w/\X''.h=st'.h/\ab X''/\aB X X''/\∀us,kz st'.T s.nr 0=some us->bc X'' us Vs:=by
  intro hk;split at hk<;>try cases hk
  rename_i rs hrs;split at hk<;>try cases hk
  rename_i adi hlen adD;have hlen:=aW hlen;rw[BQ]at hlen;obtain⟨Vs,g1,g2⟩:=o5 R' hrs;have hVl:Vs.length=s.nr:=by rw[g2.length];exact hlen
  have ada:=tA R'.H adD g2;rw[R'.h]at ada;obtain⟨X'',w'',adb,acJ⟩:=(Hy hk hs).2 ⟨by grind,hr⟩ H E' ada;refine⟨R'.T.defers,_,g1,X'',Vs,rfl,w'',adb.h,adb.H,acJ,fun us hus=>Hf adb.T hus hVl (fun t ht=>?_)⟩
  grind
 cases y with
 |exit i=>simp only[]at hk;cases hk
 |normal=>exact main hk|ret=>exact main hk
structure J3 where
 lay:ae
 own:List (Tmp×Sh×TypeId)
 outs:List (Ex×ae)
 L:be lay outs
def ry{R:Type}(base n:Nat)(s:J3)(st:St)(k:Ex->St->Option R):Option R:=match enter base n s.lay s.own st with|some d=>aE (s.L d) fun o=>oG n s.outs o k|none=>none
def sH(P:Program)(sh:TypeId->Option Sh)(S:Kn)(E:Env)(dep base n:Nat)(lay:ae)(outs:List (Ex×ae))(loops:jz (TL lay.σs⊕Out outs))(x:Code)(d:TL lay.σs):am lay outs:=match lay.put n d with
 |some st=>runK P sh (pz P sh S E dep) loops n x st fun e st=>match e with
  |.normal=>match enter base n lay [] st with|some d=>acB d|none=>none
  |.exit i=>match ma base n outs (.exit i) st with|some o=>acC o|none=>none
  |.ret=>match ma base n outs .ret st with|some o=>acC o|none=>none
 |none=>none
def bh{D O:Type}(B:D->Option (D⊕O)):Nat->D->Option O
 |0,_=>none|m+1,d=>match B d with
  |some r=>match r with|.inl d=>bh B m d|.inr o=>some o
  |none=>none
variable{base:Nat}{x:Code}
theorem Zby{R:Type}{P:Program}(hm:P.follows .mixedOrders=true){sh:TypeId->Option Sh}{S:Kn}(hS:k8 P S){E:Env}(hE:jq P E){dep n:Nat}{s:J3}{loops:jz (TL s.lay.σs⊕Out s.outs)}
  (hl:∀y∈dG x,jJ P Real base n y (loops (iF y))) (h:∀d o,s.L d=some o->∃m,bh (sH P sh S E dep base n s.lay s.outs loops x) m d=some o):jJ P Real base n x (ry (R:=R) base n s):=by
 intro st k r e;unfold ry at e;split at e<;>try cases e
 rename_i d hd;obtain⟨o,ho,hk⟩:=vY e;obtain⟨ex,st',hs,hk⟩:=BM hk;obtain⟨m,hmm⟩:=h d o ho;have key:∀m d,bh (sH P sh S E dep base n s.lay s.outs loops x) m d=some o->∃st,s.lay.put n d=some st/\∀X₀ X a,(X₀.h.next=base/\Real X₀)->ab X₀->aB X₀ X->RF X n st a->∀Q:Exit->Act->World->Prop,
   (∀X' a',RF X' n st' a'->aB X₀ X'->Q ex.to a' X'.w)->Code.rounds P x Q m a X.w:=by
  intro m
  induction m with
  |zero=>intro d e;cases e
  |succ m ih=>
   intro d e;simp only[bh]at e;split at e<;>try cases e
   rename_i rr hB;unfold sH at hB;split at hB<;>try cases hB
   rename_i aeF hp;refine⟨aeF,hp,?_⟩;obtain⟨adw,aeG,adP,Tk⟩:=tU (G:=Real) hm (tJ hm hS hE dep) (base:=base) x hl _ _ _ hB;intro X₀ X a hb acQ hE RR Q hQ;rw[rounds_succ];refine Tk X₀ X a hb acQ hE RR _ ?_;intro X' a' R' E';have out:∀i o',ma base n s.outs i aeG=some o'->some (Sum.inr o')=some rr->Q i.to a' X'.w:=by
    intro i o' ho' adP;cases adP;simp only[bf]at e;subst e;obtain⟨q1,q2⟩:=Hy ho' hs
    grind
   cases adw with
   |normal=>simp only[]at adP;split at adP<;>cases adP;rename_i d' hd';simp only[]at e;obtain⟨aeH,adT,rest⟩:=ih d' e;obtain⟨X'',hw,R'',E''⟩:=zB hd' adT hb acQ E' R';have:=rest X₀ X'' a' hb acQ E'' R'' Q hQ;rw[hw]at this;exact this
   |exit i=>
    simp only[]at adP;split at adP<;>try cases adP
    rename_i o' ho';exact out (.exit i) o' ho' rfl
   |ret=>
    simp only[]at adP;split at adP<;>try cases adP
    rename_i o' ho';exact out .ret o' ho' rfl
 obtain⟨aeF,hp,S'⟩:=key m d hmm;refine⟨ex,st',hk,?_⟩;intro X₀ X a hb acQ hE RR Q hQ;obtain⟨X₁,afe,acZ,acH⟩:=zB hd hp hb acQ hE RR;have:=S' X₀ X₁ a hb acQ acH acZ Q hQ;rw[afe]at this;exact wp_loop_rounds m this
def Ro(f:TypeId->Option Sh):List Field->Option (List Sh)
 |[]=>some []|x::l=>match f x.type with
  |some s=>match Ro f l with|some r=>some (s::r)|none=>none
  |none=>none
def mB(P:Program):Nat->TypeId->Option Sh
 |0,_=>none|k+1,t=>match P.underlying t with
  |some d=>match d with
   |.bool=>some .bool|.int k=>some (.int k)|.string=>some .str|.slice e=>match mB P k e with|some s=>some (.sl s)|none=>none
   |.struct fs=>match Ro (mB P k) fs.toList with|some l=>some (.agg l)|none=>none
   |_=>none
  |none=>none
def bC(f:Func):Code:=match f.body with|some c=>c|none=>.skip
def bZ:jp->Code->Code
 |[],c=>c|i::l,c=>match Ev.nth (dG c) i with|some x=>bZ l x|none=>.skip
def vD:List (Nat×Spec)->qY
 |[],_=>none|p::l,f=>match Nat.beq p.1 f with|true=>some p.2|false=>vD l f
def rE:List (Nat×jA)->CD
 |[],_=>[]|p::l,f=>match Nat.beq p.1 f with|true=>p.2::rE l f|false=>rE l f
def lu:List (Nat×Func)->Env
 |[],_=>none|p::l,f=>match Nat.beq p.1 f with|true=>some p.2|false=>lu l f
theorem sX{P:Program}:∀{l:List (Nat×Func)},(∀p∈l,P.funcs[p.1]?=some p.2/\(p.2.name == "runtime.NumGoroutine")=false)->jq P (lu l)
 |[],_,f,e,h=>by cases h
 |p::l,hC,f,e,h=>by
  simp only[lu]at h;split at h
  .rename_i q
   simp_all
  .exact sX (fun p' hp=>hC p' (by simp[hp])) f e h
def kn(l:List (Nat×Spec))(q:List (Nat×jA)):Kn:=⟨vD l,rE q⟩
theorem Li{P:Program}:∀{l:List (Nat×Spec)},(∀p∈l,Comes P p.1 p.2.σs p.2.τs p.2.F)->B7 P (vD l)
 |[],_,f,s,h=>by cases h
 |p::l,hC,f,s,h=>by
  simp only[vD]at h;split at h
  .rename_i q;cases h
   simp_all
  .exact Li (fun p' hp=>hC p' (by simp[hp])) f s h
theorem Hi{P:Program}:∀{l:List (Nat×jA)},(∀p∈l,jk P p.1 p.2)->LW P (rE l)
 |[],_,f,s,h=>by cases h
 |p::l,hC,f,s,h=>by
  simp only[rE]at h;split at h
  .rename_i q;have q:=aW q;rcases BY.1 h with rfl|h
   .rw[<-q];exact hC p acv
   .exact Hi (fun p' hp=>hC p' (by simp[hp])) f s h
  .exact Hi (fun p' hp=>hC p' (by simp[hp])) f s h
theorem VP{P:Program}{l:List (Nat×Spec)}{q:List (Nat×jA)}(h1:∀p∈l,Comes P p.1 p.2.σs p.2.τs p.2.F)(h2:∀p∈q,jk P p.1 p.2):k8 P (kn l q):=⟨Li h1,Hi h2⟩
set_option maxRecDepth 100000
abbrev iL(a b:Int):Bool:=@decide _ (Int.decLt a b)
abbrev iE(a b:Int):Bool:=@decide _ (Int.decLe a b)
abbrev iQ(a b:Int):Bool:=@decide _ (Int.instDecidableEq a b)
abbrev bQ(a b:Bool):Bool:=@decide _ (instDecidableEqBool a b)
abbrev nQ(a b:Nat):Bool:=@decide _ (instDecidableEqNat a b)
section
variable{a1 a2 a3 a4 a5 a6 a7 a8 a9 a10 a11 a12 a13 a14 a15 a16 a17 a18 a19 a20 a21 a22 a23 a24 z r:Type}
abbrev u1(f:a1->r)(d:a1×z):r:=f d.1
abbrev u2(f:a1->a2->r)(d:a1×a2×z):r:=f d.1 d.2.1
abbrev u3(f:a1->a2->a3->r)(d:a1×a2×a3×z):r:=f d.1 d.2.1 d.2.2.1
abbrev u4(f:a1->a2->a3->a4->r)(d:a1×a2×a3×a4×z):r:=f d.1 d.2.1 d.2.2.1 d.2.2.2.1
abbrev u5(f:a1->a2->a3->a4->a5->r)(d:a1×a2×a3×a4×a5×z):r:=f d.1 d.2.1 d.2.2.1 d.2.2.2.1 d.2.2.2.2.1
abbrev u6(f:a1->a2->a3->a4->a5->a6->r)(d:a1×a2×a3×a4×a5×a6×z):r:=f d.1 d.2.1 d.2.2.1 d.2.2.2.1 d.2.2.2.2.1 d.2.2.2.2.2.1
abbrev u7(f:a1->a2->a3->a4->a5->a6->a7->r)(d:a1×a2×a3×a4×a5×a6×a7×z):r:=f d.1 d.2.1 d.2.2.1 d.2.2.2.1 d.2.2.2.2.1 d.2.2.2.2.2.1 d.2.2.2.2.2.2.1
abbrev u8(f:a1->a2->a3->a4->a5->a6->a7->a8->r)(d:a1×a2×a3×a4×a5×a6×a7×a8×z):r:=f d.1 d.2.1 d.2.2.1 d.2.2.2.1 d.2.2.2.2.1 d.2.2.2.2.2.1 d.2.2.2.2.2.2.1 d.2.2.2.2.2.2.2.1
abbrev u9(f:a1->a2->a3->a4->a5->a6->a7->a8->a9->r)(d:a1×a2×a3×a4×a5×a6×a7×a8×a9×z):r:=f d.1 d.2.1 d.2.2.1 d.2.2.2.1 d.2.2.2.2.1 d.2.2.2.2.2.1 d.2.2.2.2.2.2.1 d.2.2.2.2.2.2.2.1 d.2.2.2.2.2.2.2.2.1
abbrev dB(f:a1->a2->a3->a4->a5->a6->a7->a8->a9->a10->r)(d:a1×a2×a3×a4×a5×a6×a7×a8×a9×a10×z):r:=f d.1 d.2.1 d.2.2.1 d.2.2.2.1 d.2.2.2.2.1 d.2.2.2.2.2.1 d.2.2.2.2.2.2.1 d.2.2.2.2.2.2.2.1 d.2.2.2.2.2.2.2.2.1 d.2.2.2.2.2.2.2.2.2.1
abbrev kT(f:a1->a2->a3->a4->a5->a6->a7->a8->a9->a10->a11->r)(d:a1×a2×a3×a4×a5×a6×a7×a8×a9×a10×a11×z):r:=f d.1 d.2.1 d.2.2.1 d.2.2.2.1 d.2.2.2.2.1 d.2.2.2.2.2.1 d.2.2.2.2.2.2.1 d.2.2.2.2.2.2.2.1 d.2.2.2.2.2.2.2.2.1 d.2.2.2.2.2.2.2.2.2.1 d.2.2.2.2.2.2.2.2.2.2.1
abbrev dI(f:a1->a2->a3->a4->a5->a6->a7->a8->a9->a10->a11->a12->r)(d:a1×a2×a3×a4×a5×a6×a7×a8×a9×a10×a11×a12×z):r:=f d.1 d.2.1 d.2.2.1 d.2.2.2.1 d.2.2.2.2.1 d.2.2.2.2.2.1 d.2.2.2.2.2.2.1 d.2.2.2.2.2.2.2.1 d.2.2.2.2.2.2.2.2.1 d.2.2.2.2.2.2.2.2.2.1 d.2.2.2.2.2.2.2.2.2.2.1 d.2.2.2.2.2.2.2.2.2.2.2.1
abbrev dU(d:a1×a2×a3×a4×a5×a6×a7×a8×a9×a10×a11×a12×z):z:=d.2.2.2.2.2.2.2.2.2.2.2.2
abbrev ue(f:a1->a2->a3->a4->a5->a6->a7->a8->a9->a10->a11->a12->a13->r)(d:a1×a2×a3×a4×a5×a6×a7×a8×a9×a10×a11×a12×a13×z):r:=u1 (dI f d) (dU d)
abbrev kp(f:a1->a2->a3->a4->a5->a6->a7->a8->a9->a10->a11->a12->a13->a14->r)(d:a1×a2×a3×a4×a5×a6×a7×a8×a9×a10×a11×a12×a13×a14×z):r:=u2 (dI f d) (dU d)
abbrev gH(f:a1->a2->a3->a4->a5->a6->a7->a8->a9->a10->a11->a12->a13->a14->a15->r)(d:a1×a2×a3×a4×a5×a6×a7×a8×a9×a10×a11×a12×a13×a14×a15×z):r:=u3 (dI f d) (dU d)
abbrev u16(f:a1->a2->a3->a4->a5->a6->a7->a8->a9->a10->a11->a12->a13->a14->a15->a16->r)(d:a1×a2×a3×a4×a5×a6×a7×a8×a9×a10×a11×a12×a13×a14×a15×a16×z):r:=u4 (dI f d) (dU d)
abbrev uf(f:a1->a2->a3->a4->a5->a6->a7->a8->a9->a10->a11->a12->a13->a14->a15->a16->a17->r)(d:a1×a2×a3×a4×a5×a6×a7×a8×a9×a10×a11×a12×a13×a14×a15×a16×a17×z):r:=u5 (dI f d) (dU d)
abbrev zL(f:a1->a2->a3->a4->a5->a6->a7->a8->a9->a10->a11->a12->a13->a14->a15->a16->a17->a18->r)(d:a1×a2×a3×a4×a5×a6×a7×a8×a9×a10×a11×a12×a13×a14×a15×a16×a17×a18×z):r:=u6 (dI f d) (dU d)
abbrev po(f:a1->a2->a3->a4->a5->a6->a7->a8->a9->a10->a11->a12->a13->a14->a15->a16->a17->a18->a19->a20->r)(d:a1×a2×a3×a4×a5×a6×a7×a8×a9×a10×a11×a12×a13×a14×a15×a16×a17×a18×a19×a20×z):r:=u8 (dI f d) (dU d)
abbrev qR(f:a1->a2->a3->a4->a5->a6->a7->a8->a9->a10->a11->a12->a13->a14->a15->a16->a17->a18->a19->a20->a21->a22->r)(d:a1×a2×a3×a4×a5×a6×a7×a8×a9×a10×a11×a12×a13×a14×a15×a16×a17×a18×a19×a20×a21×a22×z):r:=dB (dI f d) (dU d)
end
abbrev ap{α:Type}(a b:List α):List α:=a++b
def gt(σ:Sh)(L:List σ.T)(i:Int):σ.T:=List.getD L i.toNat σ.zero
def NN:Nat:=10000000000000000000000000000000000000000
theorem xX:Try.prog.follows .mixedOrders=true:=acu
theorem KK{D O:Type}{B B':D->Option (D⊕O)}(h:∀d,B d=B' d):∀m d,bh B m d=bh B' m d
 |0,d=>rfl|m+1,d=>by
  simp only[bh,h d];split
  .split
   .exact KK h m _
   .rfl
  .rfl
variable{D:Type}{O:Type}{B:D->Option (D⊕O)}
theorem VT{B':D->Option (D⊕O)}(h:∀d,B d=B' d):∀d o,bh B' NN d=some o->∃m,bh B m d=some o:=fun d o e=>⟨NN,by rw[KK h];exact e⟩
theorem P5{F G:D->Option O}(h:∀d,F d=G d):∀d o,G d=some o->F d=some o:=by grind
theorem Zi0{P:Program}(hf:P.funcs[f]?=some e)(hname:(e.name == "runtime.NumGoroutine")=false)(hb:e.body=some c)(hm:P.follows .mixedOrders=true){sh:TypeId->Option Sh}{S:Kn}(hS:k8 P S){E:Env}(hE:jq P E){dep:Nat}
  {loops:jz (Out s.outs)}(base n:Nat) (h1:s.lay.nx=base) (h2:e.ntmps=n) (hl:∀x∈dG c,jJ P Real base n x (loops (iF x))) (h:∀d o,s.F d=some o->sJ P sh S E dep loops e c s.np s.nr s.lay d=some o):jk P f s:=by
 subst h1;subst h2;exact Wn hm hS hE hl hf hname hb h
theorem Zd1{P:Program}(hf:P.funcs[f]?=some e)(hname:(e.name == "runtime.NumGoroutine")=false)(hb:e.body=some c)(hm:P.follows .mixedOrders=true){sh:TypeId->Option Sh}{S:Kn}(hS:k8 P S){E:Env}(hE:jq P E){dep:Nat}
  (n:Nat) (h2:e.ntmps=n) (hl:∀x∈dG c,jJ P Real 0 n x (loops (iF x))) (h:∀d x,F d=some x->sI P sh S E dep loops e c σs d=some x):Comes P f σs τs F:=by
 subst h2;exact WK hm hS hE hl hf hname hb h
variable{np:Nat}{outs:List (Ev.Ex×ae)}{nr:Nat}{lay:ae}
theorem W9{P:Program}(hf:P.funcs[f]?=some e)(hname:(e.name == "runtime.NumGoroutine")=false)(hb:e.body=some c):jk P f ⟨np,lay,nr,outs,fun _=>none⟩:=⟨⟨e,c,hf,hname,hb⟩,fun d o h=>by cases h⟩
variable{τ:Sh}
theorem aay{P:Program}{F':TL [.bool,.sl τ]->Option (Out outs)}(hC:jk P f ⟨1,⟨[(0,.dt τ)],[],0⟩,nr,outs,F'⟩)
  (h0:F' (true,[],())=F' (false,[],())):jk P f ⟨1,⟨[(0,.fz τ)],[],0⟩,nr,outs,fun d=>F' (false,d)⟩:=by
 refine⟨hC.1,?_⟩;rintro⟨L,u⟩ o ho st e st' hput hs X vs args hX H hr hv R;have e1:st=⟨.node (some (.fz τ L)) .nil .nil,⟨.nil,0⟩⟩:=by
  have:ae.put 1 (⟨[(0,.fz τ)],[],0⟩:ae) (L,u)=some ⟨.node (some (.fz τ L)) .nil .nil,⟨.nil,0⟩⟩:=rfl
  grind
 subst e1;have hv':some [AV.fz τ L]=some vs:=hv;cases hv';obtain⟨V,r,rfl,h1,h2⟩:=R;have:r=[]:=h2;subst this;have h1':=h1;obtain⟨a,len,cap,q1,q2,q3,q4⟩:=h1;simp only[abK,abj]at q1;have hz:a.isNone=true->L=[]:=by grind
 have hF:F' (a.isNone,L,u)=some o:=by cases hn:a.isNone with|false=>exact ho|true=>have:=hz hn;subst this;rw[<-ho];exact h0
 exact hC.2 (a.isNone,L,u) o hF ⟨.node (some (.dt τ a.isNone L)) .nil .nil,⟨.nil,0⟩⟩ e st' rfl hs X [.dt τ a.isNone L] [V] hX H hr rfl ⟨V,[],rfl,⟨h1',a,len,cap,q1,rfl⟩,rfl⟩
section
variable{R:Type}(P:Program)(sh:TypeId->Option Sh)(S:Kn)(E:Env)(dep n:Nat)
def sP(loops:jz R)(x:Code):Nat->St->(Ex->St->Option R)->Option R
 |0,_,_=>none|m+1,st,k=>runK P sh (pz P sh S E dep) loops n x st fun e st=>match e with|.normal=>sP loops x m st k|.exit i=>k (.exit i) st|.ret=>k .ret st
end
theorem Uz{R:Type}{P:Program}(hm:P.follows .mixedOrders=true){sh:TypeId->Option Sh}{S:Kn}(hS:k8 P S){E:Env}(hE:jq P E){dep n:Nat}{loops:jz R}
  (hl:∀y∈dG x,jJ P Real base n y (loops (iF y))) (m:Nat):jJ P Real base n x (sP P sh S E dep n loops x m):=by
 have key:∀m st k r,sP P sh S E dep n loops x m st k=some r->∃e st',k e st'=some r/\∀X₀ X a,(X₀.h.next=base/\Real X₀)->ab X₀->aB X₀ X->RF X n st a->∀Q:Exit->Act->World->Prop,
   (∀X' a',RF X' n st' a'->aB X₀ X'->Q e.to a' X'.w)->Code.rounds P x Q m a X.w:=by
  intro m
  induction m with
  |zero=>intro st k r e;cases e
  |succ m ih=>
   intro st k r e;simp only[sP]at e;obtain⟨adw,aeG,adP,Tk⟩:=tU (G:=Real) hm (tJ hm hS hE dep) (base:=base) x hl _ _ _ e;cases adw with
   |normal=>simp only[]at adP;obtain⟨adx,aeH,adQ,rest⟩:=ih _ _ _ adP;refine⟨adx,aeH,adQ,?_⟩;intro X₀ X a hb acQ hE' RR Q hQ;rw[rounds_succ];refine Tk X₀ X a hb acQ hE' RR _ ?_;intro X' a' R' E';exact rest X₀ X' a' hb acQ E' R' Q hQ
   |exit i=>simp only[]at adP;refine⟨_,_,adP,?_⟩;intro X₀ X a hb acQ hE' RR Q hQ;rw[rounds_succ];refine Tk X₀ X a hb acQ hE' RR _ ?_;intro X' a' R' E';exact hQ X' a' R' E'|ret=>simp only[]at adP;refine⟨_,_,adP,?_⟩;intro X₀ X a hb acQ hE' RR Q hQ;rw[rounds_succ];refine Tk X₀ X a hb acQ hE' RR _ ?_;intro X' a' R' E';exact hQ X' a' R' E'
 intro st k r e;obtain⟨adv,aeF,hk,T⟩:=key m st k r e;refine⟨adv,aeF,hk,?_⟩;intro X₀ X a hb acQ hE' RR Q hQ;exact wp_loop_rounds m (T X₀ X a hb acQ hE' RR Q hQ)
structure Kd(f:FuncId)(σs τs:List Sh) where
 F:TL σs->Option (TL τs)
 ok:Comes Try.prog f σs τs F
structure Kb(f:FuncId)(np:Nat)(lay:ae)(nr:Nat)(outs:List (Ev.Ex×ae)) where
 F:be lay outs
 ok:jk Try.prog f ⟨np,lay,nr,outs,F⟩
structure Ld(base n:Nat)(x:Code)(lay:ae)(outs:List (Ev.Ex×ae)) where
 L:be lay outs
 ok:∀{R:Type},jJ Try.prog Real base n x (ry (R:=R) base n ⟨lay,[],outs,L⟩)
structure KN where
 l:List (Nat×Spec)
 q:List (Nat×jA)
 h1:∀p∈l,Comes Try.prog p.1 p.2.σs p.2.τs p.2.F
 h2:∀p∈q,jk Try.prog p.1 p.2
def k0:KN:=⟨[],[],acf _,acf _⟩
def kD{f:FuncId}{σs τs:List Sh}(k:Kd f σs τs)(s:KN):KN:=⟨(f,⟨σs,τs,k.F⟩)::s.l,s.q,List.forall_mem_cons.2 ⟨k.ok,s.h1⟩,s.h2⟩
def kB{f np:Nat}{lay:ae}{nr:Nat}{outs:List (Ev.Ex×ae)}(k:Kb f np lay nr outs)(s:KN):KN:=⟨s.l,(f,⟨np,lay,nr,outs,k.F⟩)::s.q,s.h1,List.forall_mem_cons.2 ⟨k.ok,s.h2⟩⟩
def KN.kn(s:KN):Kn:=V.kn s.l s.q
theorem KN.ok(s:KN):k8 Try.prog s.kn:=VP s.h1 s.h2
structure EN where
 l:List (Nat×Func)
 h:∀p∈l,Try.prog.funcs[p.1]?=some p.2/\(p.2.name == "runtime.NumGoroutine")=false
def e0:EN:=⟨[],acf _⟩
abbrev gN:=(R:Type)->jz R
def LN(base n:Nat)(cs:List Code)(zK:gN):Prop:=∀R,∀y∈cs,jJ Try.prog Real base n y (zK R (iF y))
def aaK:gN:=fun R _ _ _=>none
theorem l0{n:Nat}:LN base n [] aaK:=fun _=>acf _
def other(x:Code):List Code->Bool
 |[]=>true|y::l=>match Nat.beq (iF x) (iF y)with|true=>false|false=>other x l
theorem Pf{x:Code}:∀{l:List Code},other x l=true->∀y∈l,Nat.beq (iF x) (iF y)=false
 |[],_,y,h=>by cases h
 |z::l,h,y,hy=>by
  simp only[other]at h;split at h
  .cases h
  rename_i q;rcases BY.1 hy with rfl|hy
  .exact q
  .exact Pf h y hy
def xM(x:Code)(g:(R:Type)->St->(Ev.Ex->St->Option R)->Option R)(t:gN):gN:=fun R i st k=>match Nat.beq (iF x) i with|true=>g R st k|false=>t R i st k
variable{cs:List Code}{t:gN}
theorem lX{n:Nat}{g:(R:Type)->St->(Ev.Ex->St->Option R)->Option R}(hg:∀R,jJ Try.prog Real base n x (g R))(s:LN base n cs t)(h:other x cs=true):LN base n (x::cs) (xM x g t):=by
 intro R y hy;unfold xM;rcases BY.1 hy with rfl|hy
 .simp only[Nat.beq_refl];exact hg R
 .simp only[Pf h y hy];exact s R y hy
def PC{base n:Nat}{x:Code}{lay:ae}{outs:List (Ev.Ex×ae)}(k:Ld base n x lay outs)(t:gN):gN:=xM x (fun R=>ry base n ⟨lay,[],outs,k.L⟩) t
theorem lC{n:Nat}(k:Ld base n x lay outs)(s:LN base n cs t)(h:other x cs=true):LN base n (x::cs) (PC k t):=lX (fun R=>k.ok) s h
theorem lU{n:Nat}(x:Code)(m:Nat)(K:KN)(E:EN)(dep:Nat){cs':List Code}{u:gN}(T:LN base n cs' u)(hl:dG x=cs')(s:LN base n cs t)(h:other x cs=true):LN base n (x::cs) (xM x (fun R st k=>sP Try.prog (mB Try.prog 20) K.kn (lu E.l) dep n (u R) x m st k) t):=lX (fun R=>Uz xX K.ok (sX E.h) (by rw[hl];exact T R) m) s h
def LB(base n:Nat)(x:Code)(lay:ae)(outs:List (Ev.Ex×ae))(B:TL lay.σs->am lay outs):Prop:=∀{R:Type},jJ Try.prog Real base n x (ry (R:=R) base n ⟨lay,[],outs,bh B NN⟩)
theorem prL{n:Nat}(K:KN)(E:EN)(dep:Nat)(T:LN base n cs t)(hl:dG x=cs){B:TL lay.σs->am lay outs}
  (h:∀d,sH Try.prog (mB Try.prog 20) K.kn (lu E.l) dep base n lay outs (t _) x d=B d):LB base n x lay outs B:=
 fun{R}=>Zby (s:=⟨lay,[],outs,bh B NN⟩) xX K.ok (sX E.h) (by rw[hl];exact T _) (VT h)
def cj{base n:Nat}{x:Code}{lay:ae}{outs:List (Ev.Ex×ae)}(B:TL lay.σs->am lay outs)(h:LB base n x lay outs B):Ld base n x lay outs:=⟨bh B NN,h⟩
theorem prD(hf:Try.prog.funcs[f]?=some e)(n:Nat)(K:KN)(E:EN)(dep:Nat)(T:LN 0 n (dG (bC e)) t)(hn:(e.name == "runtime.NumGoroutine")=false)(hb:e.body=some (bC e))(hm:e.ntmps=n)
  (h:∀d,sI Try.prog (mB Try.prog 20) K.kn (lu E.l) dep (t _) e (bC e) σs d=F d):Comes Try.prog f σs τs F:=
 Zd1 hf hn hb xX K.ok (sX E.h) n hm (T _) (P5 h)
theorem prB(hf:Try.prog.funcs[f]?=some e)(n:Nat)(K:KN)(E:EN)(dep:Nat)(T:LN lay.nx n (dG (bC e)) t)(hn:(e.name == "runtime.NumGoroutine")=false)(hb:e.body=some (bC e))(hm:e.ntmps=n){F:be lay outs}
  (h:∀d,sJ Try.prog (mB Try.prog 20) K.kn (lu E.l) dep (t _) e (bC e) np nr lay d=F d):jk Try.prog f ⟨np,lay,nr,outs,F⟩:=
 Zi0 (s:=⟨np,lay,nr,outs,F⟩) hf hn hb xX K.ok (sX E.h) lay.nx n rfl hm (T _) (P5 h)
theorem lS{n:Nat}(T:LN base n cs t)(hl:dG c=cs):LN base n (dG c) t:=by grind
theorem pL{n:Nat}(K:KN)(E:EN)(dep:Nat)(T:LN base n cs t){B:TL lay.σs->am lay outs}
  (h:∀d,sH Try.prog (mB Try.prog 20) K.kn (lu E.l) dep base n lay outs (t _) x d=B d) (hl:dG x=cs:=by kernel_rfl):LB base n x lay outs B:=prL K E dep T hl h
theorem pD(hf:Try.prog.funcs[f]?=some e)(n:Nat)(K:KN)(E:EN)(dep:Nat)(T:LN 0 n (dG (bC e)) t)
  (h:∀d,sI Try.prog (mB Try.prog 20) K.kn (lu E.l) dep (t _) e (bC e) σs d=F d) (hn:(e.name == "runtime.NumGoroutine")=false:=by kernel_rfl) (hb:e.body=some (bC e):=by kernel_rfl) (hm:e.ntmps=n:=by kernel_rfl):Comes Try.prog f σs τs F:=prD hf n K E dep T hn hb hm h
theorem pB(hf:Try.prog.funcs[f]?=some e)(n:Nat)(K:KN)(E:EN)(dep:Nat)(T:LN lay.nx n (dG (bC e)) t){F:be lay outs}
  (h:∀d,sJ Try.prog (mB Try.prog 20) K.kn (lu E.l) dep (t _) e (bC e) np nr lay d=F d) (hn:(e.name == "runtime.NumGoroutine")=false:=by kernel_rfl) (hb:e.body=some (bC e):=by kernel_rfl) (hm:e.ntmps=n:=by kernel_rfl):jk Try.prog f ⟨np,lay,nr,outs,F⟩:=prB hf n K E dep T hn hb hm h
theorem sS{n:Nat}(T:LN base n cs t)(hl:dG c=cs:=by kernel_rfl):LN base n (dG c) t:=lS T hl
theorem sC{n:Nat}(k:Ld base n x lay outs)(s:LN base n cs t)(h:other x cs=true:=by kernel_rfl):LN base n (x::cs) (PC k t):=lC k s h
def Rl{f:FuncId}{e:Func}{np:Nat}{lay:ae}{nr:Nat}{outs:List (Ev.Ex×ae)}(hf:Try.prog.funcs[f]?=some e)(hn:(e.name == "runtime.NumGoroutine")=false)(hb:e.body=some (bC e)):Kb f np lay nr outs:=⟨fun _=>none,W9 hf hn hb⟩
def H8{f:FuncId}{τ:Sh}{nr:Nat}{outs:List (Ev.Ex×ae)}(k:Kb f 1 ⟨[(0,.dt τ)],[],0⟩ nr outs)(h0:k.F (true,[],())=k.F (false,[],())):Kb f 1 ⟨[(0,.fz τ)],[],0⟩ nr outs:=⟨fun d=>k.F (false,d),aay k.ok h0⟩
variable{a:Nat}
theorem Er{P:Program}{F':TL [.bool,.sl τ]->Option (Out [(Ev.Ex.ret,⟨[(0,.hd 0 τ)],[(0,.arr τ ty)],1⟩)])}(hC:jk P f ⟨1,⟨[(0,.dt τ)],[],0⟩,1,[(Ev.Ex.ret,⟨[(0,.hd 0 τ)],[(0,.arr τ ty)],1⟩)],F'⟩)
  (h0:F' (true,[],())=some ([],())) (h1:∀L:List τ.T,F' (false,L,())=ak (room a L.length) (some (L,())))
  (hz:∀L:List τ.T,∃st h',jV 1 [(Ev.Ex.ret,(⟨[(0,.hd 0 τ)],[(0,.arr τ ty)],1⟩:ae))] (L,())=some (.ret,st)/\kz st.T 1 0=some [.hd 0 τ]/\j4 true st.h [.sl τ] [.hd 0 τ]=some ((L,()),h')):Comes P f [.sl τ] [.sl τ] (fun d=>ak (room a (List.length d.1)) (some (d.1,()))):=by
 refine⟨hC.1,?_⟩;rintro⟨L,u⟩ x hx w A args hA ha;obtain⟨hroom,hx⟩:=mR hx;have hx:(L,())=x:=aaN hx;subst hx
 let X:Cx:=⟨fun _=>none,⟨.nil,0⟩,w,A⟩
 have out:∀b,X.out b->A b:=by
  rintro b (q|⟨i,o,c,h1,h2⟩)
  .exact q
  .simp[X,Ev.Tr.get]at h1
 have H:ab X:=⟨fun i o l h=>by simp[X,Ev.Tr.get]at h,fun i j o o' b c c' h=>by grind,fun i o h=>by simp[X,Ev.Tr.get]at h,fun i l h=>by simp[X]at h,hA,fun i o b c h=>by grind⟩;have ha':jr X.w X.out [.sl τ] (L,u) args:=ha.aH (fun b o q r=>⟨r,fun s=>q (out b s)⟩);obtain⟨V,r,rfl,h1',h2'⟩:=tB ha';have:r=[]:=h2';subst this;have h1s:=h1';obtain⟨ad,len,cap,q1,q2,q3,q4⟩:=h1';simp only[abK,abj]at q1;have hF:F' (ad.isNone,L,())=some (L,()):=by
  cases hn:ad.isNone with
  |false=>exact(h1 L).trans (by have hr:room a L.length=true:=hroom;rw[hr];rfl)|true=>
   have hL:L=[]:=by grind
   subst hL;exact h0
 obtain⟨st,adL,z1,z2,z3⟩:=hz L;refine(hC.2 (ad.isNone,L,()) (L,()) hF ⟨.node (some (.dt τ ad.isNone L)) .nil .nil,⟨.nil,0⟩⟩ .ret st rfl z1 X [.dt τ ad.isNone L] [V] rfl H (fun i hi=>absurd hi (Nat.not_lt_zero i)) rfl ⟨V,[],rfl,⟨h1s,ad,len,cap,q1,rfl⟩,rfl⟩).mono ?_;rintro e w' ⟨X',Vs,rfl,rfl,hh,H',E',R'⟩;obtain⟨Fz,hA'⟩:=rB (kl:=true) (l:=[.sl τ]) (d:=(L,())) H' (vs:=[.hd 0 τ]) (by rw[hh];exact z3) (R' [.hd 0 τ] z2);refine⟨Vs,rfl,⟨E'.os,E'.tape,E'.output,E'.size,fun b hb=>E'.frame b hb ?_⟩,?_⟩
 .rintro⟨i,o,c,h1,h2⟩;simp[X,Ev.Tr.get]at h1
 .refine hA'.aH (fun b o q r=>⟨r,fun s=>q (.inl ?_)⟩);show X'.A b;rw[E'.A];exact s
variable{i:Nat}{α:Type}
theorem aaB{l:List α}{x:α}(h:l[i]?=some x):i<l.length:=by grind
variable{b:Bool}
theorem dY{R:Type}{x y:Option R}(h:b=true):br b x y=x:=by rw[h];rfl
theorem cV{R:Type}{x y:Option R}(h:b=false):br b x y=y:=by rw[h];rfl
theorem df{R:Type}{x:Option R}(h:b=true):ak b x=x:=by rw[h];rfl
theorem cu{R:Type}{x:Option α}{a:α}{k:α->Option R}(h:x=some a):aE x k=k a:=by rw[h];rfl
theorem aA{R:Type}{x y z:Option R}(h:b=true)(e:x=z):br b x y=z:=(dY h).trans e
theorem ao{R:Type}{x y z:Option R}(h:b=false)(e:y=z):br b x y=z:=(cV h).trans e
theorem an{R:Type}{x z:Option R}(h:b=true)(e:x=z):ak b x=z:=(df h).trans e
theorem aO{R:Type}{x:Option α}{a:α}{k:α->Option R}{z:Option R}(h:x=some a)(e:k a=z):aE x k=z:=(cu h).trans e
theorem bm{i:Int}{n:Nat}(h:0<=i/\i<(n:Int)):al i n=true:=by simp[al,h.1,h.2]
theorem acy{i:Int}{n:Nat}(h:0<=i/\i<(n:Int):=by omega):al i n=true:=bm h
theorem pM{n:Nat}(h:(2*n+192)*a<=281474976710656)(h2:n<=1099511627776):room a n=true:=by simp[room,both,h,h2]
theorem E5:bw false true b=b:=rfl
theorem rj(h:b=false):Bool.not b=true:=by rw[h];rfl
theorem Bm(h:b=true):Bool.not b=false:=by rw[h];rfl
variable{p:Prop}
theorem au{i:Decidable p}(h:p):@decide p i=true:=gO h
theorem acA{i:Decidable p}(h:p:=by omega):@decide p i=true:=au h
theorem aq{i:Decidable p}(h:¬p):@decide p i=false:=iK h
theorem acz{i:Decidable p}(h:¬p:=by omega):@decide p i=false:=aq h
theorem cD{x:Int}(h:-9223372036854775808<=x/\x<=9223372036854775807):mt x=x:=IntWalk.i64_in _ acs
theorem bG{σ:Sh}{L:List σ.T}{x:σ.T}(h:L[i]?=some x):gt σ L (i:Int)=x:=by
 unfold gt
 grind
theorem qH(f:Nat->D)(n:Nat){o:O}(hs:∀i,i<n->B (f i)=acB (f (i+1)))(he:B (f n)=acC o):∀N,n<N->bh B N (f 0)=some o:=by
 have main:∀k i,i+k=n->∀N,k<N->bh B N (f i)=some o:=by
  intro k
  induction k with
  |zero=>
   intro i hi N hN;obtain⟨M,rfl⟩:∃M,N=M+1:=⟨N-1,acs⟩;have:i=n:=acs
   subst this;simp only[bh,he]
  |succ k ih=>
   intro i hi N hN;obtain⟨M,rfl⟩:∃M,N=M+1:=⟨N-1,acs⟩;simp only[bh,hs i acs]
   grind
 grind
theorem ez(f:Nat->D)(n:Nat){d:D}{o:O}(hd:d=f 0)(hs:∀i,i<n->B (f i)=acB (f (i+1)))(he:B (f n)=acC o){N:Nat}(hN:n<N):bh B N d=some o:=by subst hd;exact qH f n hs he N hN
theorem qx{L:List α}{x:α}(h:L.length<=100000000)(ha:a<=1000):room a (List.length (L++(x::[])))=true:=by
 have h3:List.length (L++(x::[]))=L.length+1:=by grind
 have h2:(2*(L.length+1)+192)*a<=(2*(L.length+1)+192)*1000:=Nat.mul_le_mul_left _ ha;rw[h3];exact pM acs acs
theorem k9(I:D->Prop)(Q:O->Prop)(μ:D->Nat)(h:∀d,I d->(∃o,B d=acC o/\Q o)\/∃d',B d=acB d'/\I d'/\μ d'<μ d):∀N d,I d->μ d<N->∃o,bh B N d=some o/\Q o:=by
 intro N
 induction N with
 |zero=>intro d _ h;omega|succ N ih=>
  intro d hI hN;rcases h d hI with⟨o,h1,h2⟩|⟨d',h1,h2,h3⟩
  .exact⟨o,by simp only[bh,h1],h2⟩
  .obtain⟨o,g1,g2⟩:=ih d' h2 acs;exact⟨o,by simp only[bh,h1];exact g1,g2⟩
theorem cf{n:Nat}(h:n<=1000000000000000000):n<NN:=by unfold NN;omega
theorem acx{n:Nat}(h:n<=1000000000000000000:=by omega):n<NN:=cf h
abbrev bK:Sh:=(.agg [.I,(.sl .I)])
abbrev eq:=List (Sh.T bK)
abbrev af:Sh:=(.agg [.bool,.I,.I])
abbrev ce:=List (Sh.T af)
abbrev ag:Sh:=(.agg [.I,.I,.I])
abbrev bi:=List (Sh.T ag)
abbrev bj:Sh:=(.agg [.I,(.sl .I),(.sl .I)])
abbrev ge:=List (Sh.T bj)
abbrev cO:Sh:=(.agg [.bool,.I,.I,(.sl .I),(.sl .I)])
abbrev ii:=List (Sh.T cO)
abbrev aj:Sh:=(.agg [.I,.I,.bool,(.sl bK),(.sl bj)])
abbrev bv:=List (Sh.T aj)
abbrev bB:Sh:=(.agg [.I,(.sl .I),(.sl ag),(.sl .I),(.sl .I),(.sl .I),(.sl aj),(.sl ag)])
abbrev iN:List LA:=[.I,.fz .I,.fz ag,.fz .I,.fz .I,.fz .I,.fz aj,.fz ag]
open Go.ChangeShapes Go.WideShapes Go.ChangeAt Go.Deep
def Cf:Sh->TypeDesc->Bool
 |.bool,d=>match d with|.bool=>true|_=>false
 |.str,d=>match d with|.string=>true|_=>false
 |.int k,d=>match d with|.int k'=>Nat.beq (Ev.IntKind.num k) (Ev.IntKind.num k')|_=>false
 |_,_=>false
def xB(P:Program)(f:TypeId->Sh->Bool):List Field->List Sh->Nat->Bool
 |[],l,_=>match l with|[]=>true|_=>false
 |x::fs,l,o=>match l with|[]=>false|s::l=>match Nat.beq x.offset o,Nat.beq (P.cellsOf x.type) s.size,f x.type s with|true,true,true=>xB P f fs l (o+s.size)|_,_,_=>false
def pX(P:Program):Nat->TypeId->Sh->Bool
 |0,_,_=>false|k+1,t,σ=>match P.underlying t with
  |none=>false|some d=>match d with
   |.slice e=>match σ with
    |.sl s=>match Nat.blt 0 s.size,Nat.beq (P.cellsOf e) s.size with|true,true=>pX P k e s|_,_=>false
    |_=>false
   |.struct fs=>match σ with
    |.agg l=>match Nat.beq (P.cellsOf t) (oo l)with|true=>xB P (pX P k) fs.toList l 0|false=>false
    |_=>false
   |d=>Cf σ d
def jD{α:Type}(Q:α->Prop)(L:List α):Prop:=∀x∈L,Q x
mutual
def jR:(σ:Sh)->σ.T->Prop
 |.int k,n=>(Lit.int k n).wf=true|.bool,_=>True|.str,s=>ByteArray.size s<=maxLen|.agg l,d=>E2 l d|.sl s,L=>List.length L<=maxLen/\jD (jR s) L
termination_by structural x=>x
def E2:(l:List Sh)->TL l->Prop
 |[],_=>True|s::l,d=>jR s d.1/\E2 l d.2
termination_by structural x=>x
end
section
variable{H:Type}{enc:TypeId×Value->H}{P:Program}{W:World}
theorem Q0{α:Type}{R:α->kw->Prop}:∀(l:List (α×kw)),(∀p∈l,R p.1 p.2)->aV R (l.map (·.1)) (l.flatMap (·.2))
 |[],_=>rfl|p::l,h=>⟨p.2,l.flatMap (·.2),by grind,h p acv,Q0 l fun q hq=>h q (by simp[hq])⟩
theorem LG{α:Type}{C:Nat}(hC:0<C):∀(l:List (α×kw)),(∀p∈l,p.2.length=C)->∀k,(l.flatMap (·.2))[k]?=l[k / C]?.bind fun x=>x.2[k % C]?
 |[],_,k=>by simp|p::l,h,k=>by
  have hp:=h p acv;rw[GT];rcases rt k C with q|q
  .rw[Fd acs,Nat.div_eq_of_lt q,abP q];rfl
  .rw[IR acs,LG hC l (fun q hq=>h q (by simp[hq])),hp];have e1:k / C=(k-C) / C+1:=by rw[Nat.div_eq_sub_div hC q]
   have e2:(k-C) % C=k % C:=by rw[<-ach q]
   rw[e1,e2];simp
theorem Yh{a:Addr}{u:Value}(h:W.cell? (a.add 0)=some u):a.spot=none:=by
 have e:a.add 0=a:=by unfold Addr.add;simp
 rw[e]at h;unfold World.cell? at h;split at h
 .split at h
  .cases h
  simp_all
 .cases h
theorem K5{b o j:Nat}{u:Value}(h:W.cell? ((⟨b,o,none⟩:Addr).add j)=some u):∃c ty fr,W.heap[b]?=some (.cells c ty fr)/\c[o+j]?=some u:=by
 rw[Ev.dk]at h;unfold World.cell? at h
 grind
theorem Q8{f:TypeId->Sh->Bool}{n:Nat}{cs:kw}(hf:∀t s,f t s=true->∀n cs y,DataW.trod enc P W 0 (fun _=>true) true n t cs=some y->∃d,Cs W (fun _=>False) s d cs/\jR s d) :
  ∀(fs:List Field) (l:List Sh) (o:Nat),xB P f fs l o=true->o+oo l=cs.length->(∀(i:Nat) (g:Field),fs[i]?=some g->∃y,DataW.trod enc P W 0 (fun _=>true) true n g.type ((cs.drop g.offset).take (P.cellsOf g.type))=some y) ->
   ∃d,fg W (fun _=>False) l d (cs.drop o)/\E2 l d
 |[],l,o,h,hl,_=>by cases l with|nil=>exact⟨(),by show cs.drop o=[];rw[aaU];simp only[oo]at hl;omega,trivial⟩|cons s l=>cases h
 |x::fs,l,o,h,hl,hx=>by
  cases l with
  |nil=>cases h
  |cons s l=>
   simp only[xB]at h;split at h<;>try cases h
   rename_i q1 q2 q3;have q1:=aW q1;have q2:=aW q2;obtain⟨y,hy⟩:=hx 0 x rfl;obtain⟨d,h1,h2⟩:=hf _ _ q3 _ _ _ hy;rw[oo]at hl;obtain⟨e,h3,h4⟩:=Q8 hf fs l (o+s.size) h acs (fun i g hg=>hx (i+1) g (by grind));refine⟨(d,e),⟨(cs.drop o).take s.size,cs.drop (o+s.size),?_,?_,h3⟩,h2,h4⟩
   .rw[<-acm,EQ]
   .rw[q1,q2]at h1;exact h1
theorem Ht:∀(k:Nat) (t:TypeId) (σ:Sh),pX P k t σ=true->∀n cs y,DataW.trod enc P W 0 (fun _=>true) true n t cs=some y->∃d,Cs W (fun _=>False) σ d cs/\jR σ d
 |0,_,_,h=>by cases h
 |k+1,t,σ,h=>by
  intro n cs y hy;simp only[pX]at h;split at h
  .cases h
  rename_i d hu;split at h
  .rename_i e;split at h<;>try cases h
   rename_i s;split at h<;>try cases h
   rename_i q1 q2;rw[WP]at q1;have q2:=aW q2;rcases open_slice hu hy with⟨rfl,_⟩|⟨a,len,cap,m,n',D,Pl,rfl,_,hl,hm,hmm,_,hi⟩
   .exact⟨[],⟨none,0,0,rfl,rfl,ol _,fun q=>absurd rfl q⟩,Fn _,fun x hx=>by cases hx⟩
   have hmm':m=cap:=by simpa using hmm
   subst hmm';obtain⟨l,hll,hp⟩:=Lb (α:=s.T×kw) (p:=fun i x=>Cs W (fun _=>False) s x.1 x.2/\jR s x.1/\∀j,j<s.size->W.cell? (a.add (i*s.size+j))=x.2[j]?) len (fun i hi0=>by obtain⟨cs',h1,h2⟩:=hi i acs;obtain⟨x,hx1,hx2⟩:=Ht k e s h _ _ _ h2;refine⟨(x,cs'),hx1,hx2,fun j hj=>?_⟩;rw[q2]at h1;obtain⟨_,_,hat⟩:=World.cells?_some h1;rw[<-Zuk,hat j hj]);have hlen:∀p∈l,p.2.length=s.size:=by intro p hpm;obtain⟨i,hi⟩:=abb hpm;exact Cs.length (hp i p hi).1
   have hcell:∀j u,(l.flatMap (·.2))[j]?=some u->W.cell? (a.add j)=some u:=by
    intro j u hu;rw[LG q1 l hlen]at hu;rcases hx:l[j / s.size]? with _|x
    .rw[hx]at hu;cases hu
    .rw[hx]at hu;have hu:x.2[j % s.size]?=some u:=hu;have:=(hp _ x hx).2.2 (j % s.size) (Nat.mod_lt _ q1);rw[Nat.div_add_mod' j s.size]at this;rw[this,hu]
   refine⟨l.map (·.1),⟨some a,len,m,rfl,by simp[hll],hl,fun hne=>?_⟩,by simpa[hll]using pp hl hm,?_⟩
   .have hflat:aV (Cs W (fun _=>False) s) (l.map (·.1)) (l.flatMap (·.2)):=Q0 l (fun p hpm=>by obtain⟨i,hi⟩:=abb hpm;exact(hp i p hi).1);have hfl:(l.flatMap (·.2)).length=l.length*s.size:=by have:=aV.length (fun x c=>Cs.length) hflat;simpa using this
    have hl0:0<l.length:=by cases l with|nil=>exact absurd rfl hne|cons _ _=>simp
    have h0:0<(l.flatMap (·.2)).length:=by rw[hfl];exact Nat.mul_pos hl0 q1
    have hsp:=Yh (hcell 0 _ (bF h0));obtain⟨b,o,sp⟩:=a;have hsp:sp=none:=hsp;subst hsp;obtain⟨c,ty,fr,hc,_⟩:=K5 (hcell 0 _ (bF h0));refine⟨b,o,l.flatMap (·.2),rfl,fun h=>h,hflat,c,ty,fr,hc,?_⟩;intro j u hu;obtain⟨c',ty',fr',hc',hj⟩:=K5 (hcell j u hu);rw[hc]at hc';cases hc';exact hj
   .intro x hx;obtain⟨p,hpm,rfl⟩:=IN.1 hx;obtain⟨i,hi⟩:=abb hpm;exact(hp i p hi).2.1
  .rename_i fs;split at h<;>try cases h
   rename_i l;split at h<;>try cases h
   rename_i q1;have q1:=aW q1;obtain⟨xs,n',rfl,_,hlen,hxl,hx⟩:=DataW.trod_struct hu hy;obtain⟨d,h1,h2⟩:=Q8 (n:=n') (cs:=cs) (Ht k) fs.toList l 0 h (by rw[hlen,q1];omega) (fun i g hg=>by grind);rw[List.drop_zero]at h1;exact⟨d,h1,h2⟩
  .unfold Cf at h;split at h
   .split at h<;>try cases h
    obtain⟨b,rfl,_⟩:=DataW.trod_bool hu hy;exact⟨b,rfl,trivial⟩
   .split at h<;>try cases h
    obtain⟨s,rfl,_,hs⟩:=DataW.trod_string hu hy;exact⟨s,rfl,hs⟩
   .split at h<;>try cases h
    rename_i ael aem;have:=Ev.IntKind.qz (aW h);subst this;obtain⟨m,rfl,_,hw⟩:=DataW.trod_int hu hy;exact⟨m,rfl,hw⟩
   .cases h
theorem JJ{k:Nat}{t:TypeId}{σ:Sh}{v:Value}{d:DataW H}{ps:List MemPlace}{r:Reach}{b0:Nat}(h:pX P k t σ=true)(hv:Value.okWide P W r b0 t v)(hd:DataW.Trod enc P W 0 (fun _=>true) true t v d ps) :
  ∃x,cH W (fun _=>False) σ x v/\jR σ x:=by
 obtain⟨fuel,hf⟩:=hd;obtain⟨x,h1,h2⟩:=Ht k t σ h _ _ _ hf;refine⟨x,⟨h1,?_⟩,h2⟩;cases k with
 |zero=>cases h
 |succ k=>
  simp only[pX]at h;split at h
  .cases h
  rename_i d' hu;split at h
  .split at h<;>try cases h
   obtain⟨a,l,c,rfl⟩:=okWide_slice hu hv;rfl
  .split at h<;>try cases h
   obtain⟨cs,rfl,_⟩:=okWide_struct hu hv;rfl
  .unfold Cf at h;split at h
   .split at h<;>try cases h
    obtain⟨b,rfl⟩:=okWide_bool hu hv;rfl
   .split at h<;>try cases h
    obtain⟨b,rfl⟩:=okWide_string hu hv;rfl
   .split at h<;>try cases h
    obtain⟨b,rfl⟩:=okWide_int hu hv;rfl
   .cases h
